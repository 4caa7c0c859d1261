import PyProof.Rows.All
import HandS.ForMost
import HandS.ForExc
import HandS.Wide
import HandS.WideBits
import HandS.Conv
import HandS.Deep
import HandS.IsInst
import HandS.TupLe
import HandS.TupAny
import HandS.TupMul
import HandS.RevTup
import HandS.Rev
import HandS.Walk
import HandS.ExcOwn
import HandS.Style
import HandS.WideMore
import HandS.Zip
import HandS.Defaults
import KE.KStateDown
import HandS.Ends
import HandS.HeadEnd
import HandS.Head0
import HandS.Head1
import HandS.Head2
import HandS.HeadHook1
import HandS.HeadHook2
import KE.IntBitsLaws
import PySem.Challenge.RW_guestsheld_k89_whole_endless_inns
set_option Elab.async false
set_option linter.all false
set_option maxRecDepth 100000
set_option maxHeartbeats 1000000
/-! FL: a functional meaning of a def, over the hand layer. Core: data, slots, what it means that they stand in the heap. -/
namespace FL
open PySem PySem.Spec PyProof.Rows L2
abbrev D := PyData

/-! ### data that never changes -/
def FzL (H : Hp) (a : Addr) (xs : List V) : Prop := ∃ o, H a = some (.frz o (.lst xs))
theorem FzL.rd {H : Hp} {a : Addr} {xs : List V} (h : FzL H a xs) : Rd H a (.lst xs) := .inr h
mutual
def Fz (K : PySem.W.Frag) (H : Hp) : D → V → Prop
  | .none, v => v = .non
  | .bool b, v => v = .bl b
  | .int i, v => v = .int i
  | .str x, v => v = .str x
  | .list ds, v => ∃ a xs, v = .ref a ∧ FzL H a xs ∧ FzAll K H ds xs
  | .tuple ds, v => ∃ a xs, v = .ref a ∧ SqT K H a xs ∧ FzAll K H ds xs
  | .dict _, _ => False
def FzAll (K : PySem.W.Frag) (H : Hp) : List D → List V → Prop
  | [], xs => xs = []
  | d :: ds, xs => ∃ x r, xs = x :: r ∧ Fz K H d x ∧ FzAll K H ds r
end
/-- what never changes is kept -/
def Imm (H H' : Hp) : Prop := (∀ b xs, H b = some (.tup xs) → H' b = some (.tup xs)) ∧ ∀ b o u, H b = some (.frz o u) → H' b = some (.frz o u)
theorem Imm.refl (H : Hp) : Imm H H := ⟨fun _ _ e => e, fun _ _ _ e => e⟩
theorem Imm.trans {H H1 H2 : Hp} (a : Imm H H1) (b : Imm H1 H2) : Imm H H2 := ⟨fun c xs e => b.1 c xs (a.1 c xs e), fun c o u e => b.2 c o u (a.2 c o u e)⟩
theorem Imm.fzl {H H' : Hp} {a : Addr} {xs : List V} (m : Imm H H') (h : FzL H a xs) : FzL H' a xs := by
  obtain ⟨o, h⟩ := h
  exact ⟨o, m.2 _ _ _ h⟩
theorem Imm.sqt {K : PySem.W.Frag} {H H' : Hp} {a : Addr} {xs : List V} (m : Imm H H') (h : SqT K H a xs) : SqT K H' a xs := by
  rcases h with (h | ⟨o, h⟩) | h
  · exact .inl (.inl (m.1 _ _ h))
  · exact .inl (.inr ⟨o, m.2 _ _ _ h⟩)
  · exact .inr h
mutual
theorem Fz.mono {K : PySem.W.Frag} {H H' : Hp} (m : Imm H H') : ∀ (d : D) {v : V}, Fz K H d v → Fz K H' d v
  | .none, _, h => h
  | .bool _, _, h => h
  | .int _, _, h => h
  | .str _, _, h => h
  | .list ds, _, h => by
    obtain ⟨a, xs, e, h1, h2⟩ := h
    exact ⟨a, xs, e, m.fzl h1, FzAll.mono m ds h2⟩
  | .tuple ds, _, h => by
    obtain ⟨a, xs, e, h1, h2⟩ := h
    exact ⟨a, xs, e, m.sqt h1, FzAll.mono m ds h2⟩
  | .dict _, _, h => h
theorem FzAll.mono {K : PySem.W.Frag} {H H' : Hp} (m : Imm H H') : ∀ (ds : List D) {vs : List V}, FzAll K H ds vs → FzAll K H' ds vs
  | [], _, h => h
  | d :: ds, _, h => by
    obtain ⟨x, r, e, h1, h2⟩ := h
    exact ⟨x, r, e, Fz.mono m d h1, FzAll.mono m ds h2⟩
end
section
variable {K : PySem.W.Frag} {H : Hp}
theorem FzAll.length : ∀ {ds : List D} {vs : List V}, FzAll K H ds vs → ds.length = vs.length
  | [], _, h => by
    subst h
    rfl
  | d :: ds, _, h => by
    obtain ⟨x, r, e, _, h2⟩ := h
    rw [e, List.length_cons, List.length_cons, FzAll.length h2]
theorem FzAll.cons {d : D} {ds : List D} {v : V} {vs : List V} (h : Fz K H d v) (t : FzAll K H ds vs) : FzAll K H (d :: ds) (v :: vs) := ⟨v, vs, rfl, h, t⟩
theorem FzAll.nil : FzAll K H [] [] := rfl
theorem FzAll.get : ∀ {ds : List D} {vs : List V} {i : Nat} {d : D}, FzAll K H ds vs → ds[i]? = some d → ∃ v, vs[i]? = some v ∧ Fz K H d v
  | [], _, _, _, _, e => by simp at e
  | c :: ds, _, 0, d, h, e => by
    obtain ⟨x, r, e1, h1, _⟩ := h
    have e2 : c = d := by simpa using e
    subst e2
    exact ⟨x, by rw [e1]; rfl, h1⟩
  | c :: ds, _, i + 1, d, h, e => by
    obtain ⟨x, r, e1, _, h2⟩ := h
    obtain ⟨v, q1, q2⟩ := FzAll.get (i := i) (d := d) h2 (by simpa using e)
    exact ⟨v, by rw [e1]; simpa using q1, q2⟩
theorem FzAll.get' : ∀ {ds : List D} {vs : List V} {i : Nat} {v : V}, FzAll K H ds vs → vs[i]? = some v → ∃ d, ds[i]? = some d ∧ Fz K H d v
  | [], _, _, _, h, e => by rw [show _ = [] from h] at e; simp at e
  | c :: ds, _, 0, v, h, e => by
    obtain ⟨x, r, e1, h1, _⟩ := h
    rw [e1] at e
    have e2 : x = v := by simpa using e
    subst e2
    exact ⟨c, rfl, h1⟩
  | c :: ds, _, i + 1, v, h, e => by
    obtain ⟨x, r, e1, _, h2⟩ := h
    rw [e1] at e
    obtain ⟨d, q1, q2⟩ := FzAll.get' (i := i) (v := v) h2 (by simpa using e)
    exact ⟨d, by simpa using q1, q2⟩
theorem FzAll.of : ∀ {ds : List D} {vs : List V}, ds.length = vs.length → (∀ (i : Nat) (d : D) (v : V), ds[i]? = some d → vs[i]? = some v → Fz K H d v) → FzAll K H ds vs
  | [], [], _, _ => rfl
  | [], _ :: _, h, _ => by simp at h
  | _ :: _, [], h, _ => by simp at h
  | d :: ds, v :: vs, h, g => ⟨v, vs, rfl, g 0 d v rfl rfl, FzAll.of (by simpa using h) fun i d v e1 e2 => g (i + 1) d v (by simpa using e1) (by simpa using e2)⟩
theorem FzAll.append {ds es : List D} {vs ws : List V} (h : FzAll K H ds vs) (g : FzAll K H es ws) : FzAll K H (ds ++ es) (vs ++ ws) := by
  induction ds generalizing vs with
  | nil =>
    rw [show vs = [] from h]
    exact g
  | cons d ds ih =>
    obtain ⟨x, r, e, h1, h2⟩ := h
    subst e
    exact ⟨x, r ++ ws, rfl, h1, ih h2⟩
theorem FzAll.take {ds : List D} {vs : List V} (n : Nat) (h : FzAll K H ds vs) : FzAll K H (ds.take n) (vs.take n) := by
  induction ds generalizing vs n with
  | nil => rw [show vs = [] from h]; simp [FzAll.nil]
  | cons d ds ih =>
    obtain ⟨x, r, e, h1, h2⟩ := h
    subst e
    cases n with
    | zero => exact FzAll.nil
    | succ n => exact FzAll.cons h1 (ih n h2)
theorem FzAll.drop {ds : List D} {vs : List V} (n : Nat) (h : FzAll K H ds vs) : FzAll K H (ds.drop n) (vs.drop n) := by
  induction ds generalizing vs n with
  | nil => rw [show vs = [] from h]; simp [FzAll.nil]
  | cons d ds ih =>
    obtain ⟨x, r, e, h1, h2⟩ := h
    subst e
    cases n with
    | zero => exact FzAll.cons h1 h2
    | succ n => exact ih n h2
theorem FzAll.reverse {ds : List D} {vs : List V} (h : FzAll K H ds vs) : FzAll K H ds.reverse vs.reverse := by
  induction ds generalizing vs with
  | nil => rw [show vs = [] from h]; simp [FzAll.nil]
  | cons d ds ih =>
    obtain ⟨x, r, e, h1, h2⟩ := h
    subst e
    rw [List.reverse_cons, List.reverse_cons]
    exact (ih h2).append (FzAll.cons h1 FzAll.nil)
theorem FzAll.set {ds : List D} {vs : List V} {d : D} {v : V} (n : Nat) (h : FzAll K H ds vs) (g : Fz K H d v) : FzAll K H (ds.set n d) (vs.set n v) := by
  induction ds generalizing vs n with
  | nil => rw [show vs = [] from h]; simp [FzAll.nil]
  | cons c ds ih =>
    obtain ⟨x, r, e, h1, h2⟩ := h
    subst e
    cases n with
    | zero => exact FzAll.cons g h2
    | succ n => exact FzAll.cons h1 (ih n h2)
end

/-! ### a view: data that is read now; lists may be of any kind -/
def View (K : PySem.W.Frag) (H : Hp) : D → V → Prop
  | .list ds, v => ∃ a xs, v = .ref a ∧ Rd H a (.lst xs) ∧ FzAll K H ds xs
  | d, v => Fz K H d v
theorem Fz.view {K : PySem.W.Frag} {H : Hp} {d : D} {v : V} (h : Fz K H d v) : View K H d v := by
  cases d with
  | list ds =>
    obtain ⟨a, xs, e, h1, h2⟩ := h
    exact ⟨a, xs, e, h1.rd, h2⟩
  | _ => exact h
mutual
theorem Fz.dp {K : PySem.W.Frag} {H : Hp} : ∀ (d : D) {v : V}, Fz K H d v → Dp K H v d
  | .none, _, h => by rw [show _ = V.non from h]; exact .non
  | .bool b, _, h => by rw [show _ = V.bl b from h]; exact .bl b
  | .int i, _, h => by rw [show _ = V.int i from h]; exact .int i
  | .str x, _, h => by rw [show _ = V.str x from h]; exact .str x
  | .list ds, _, h => by
    obtain ⟨a, xs, e, h1, h2⟩ := h
    rw [e]; exact .lst (.inl h1.rd) (FzAll.dp ds h2)
  | .tuple ds, _, h => by
    obtain ⟨a, xs, e, h1, h2⟩ := h
    rw [e]; exact .tup h1 (FzAll.dp ds h2)
  | .dict _, _, h => False.elim h
theorem FzAll.dp {K : PySem.W.Frag} {H : Hp} : ∀ (ds : List D) {vs : List V}, FzAll K H ds vs → DpAll K H vs ds
  | [], _, h => by rw [show _ = [] from h]; exact .nil
  | d :: ds, _, h => by
    obtain ⟨x, r, e, h1, h2⟩ := h
    rw [e]; exact .cons (Fz.dp d h1) (FzAll.dp ds h2)
end
theorem View.dp {K : PySem.W.Frag} {H : Hp} {d : D} {v : V} (h : View K H d v) : Dp K H v d := by
  cases d with
  | list ds =>
    obtain ⟨a, xs, e, h1, h2⟩ := h
    rw [e]; exact .lst (.inl h1) (FzAll.dp ds h2)
  | _ => exact Fz.dp _ h

/-! ### slots -/
/-- how a frame's name holds a list: as its own; as one that the caller lends and takes back; only to be read -/
inductive Tag where
  | own | par | lck
  deriving DecidableEq
/-- what a slot holds -/
inductive C where
  | d (x : D)
  | l (t : Tag) (ds : List D)
/-- what an expression gives: data; a new list; the list of a slot -/
inductive R where
  | d (x : D)
  | own (ds : List D)
  | slot (i : Nat)
abbrev S := List (Option C)
abbrev ECls := Str
/-- how a step ends: with a value and the slots behind it; by an error of a class; not told -/
inductive Res (α : Type) where
  | ok (a : α) (σ : S)
  | exc (c : ECls) (σ : S)
  | bad

def CRel (K : PySem.W.Frag) (H : Hp) : C → V → Prop
  | .d x, v => Fz K H x v
  | .l _ ds, v => ∃ a vs, v = .ref a ∧ H a = some (.lst vs) ∧ FzAll K H ds vs
/-- the list of slot i stands at a, with the tag t -/
def At (σ : S) (σv : L2.St) (i : Nat) (t : Tag) (a : Addr) : Prop := (∃ ds, σ[i]? = some (some (.l t ds))) ∧ σv[i]? = some (some (.ref a))
/-- lists that may change -/
def OwnM (σ : S) (σv : L2.St) (a : Addr) : Prop := ∃ i t, t ≠ Tag.lck ∧ At σ σv i t a
structure SRel (K : PySem.W.Frag) (H : Hp) (σ : S) (σv : L2.St) : Prop where
  len : σ.length = σv.length
  val : ∀ (i : Nat) (c : C), σ[i]? = some (some c) → ∃ v, σv[i]? = some (some v) ∧ CRel K H c v
  apart : ∀ (i j : Nat) (t u : Tag) (a : Addr), At σ σv i t a → At σ σv j u a → i = j
/-- all is kept but what stands at B (and but that tables grow); nothing that is told is forgotten -/
structure Keep (B : Addr → Prop) (H H' : Hp) : Prop where
  kept : ∀ b o, H b = some o → ¬ B b → H' b = some o ∨ ∃ ps more, o = .tbl ps ∧ H' b = some (.tbl (ps ++ more))
  gone : ∀ b, H' b = none → H b = none
theorem Keep.refl (B : Addr → Prop) (H : Hp) : Keep B H H := ⟨fun _ _ e _ => .inl e, fun _ e => e⟩
theorem Keep.of_same {B : Addr → Prop} {H H' : Hp} (h : Same H H') : Keep B H H' := ⟨fun b o e _ => .inl (h b o e), fun _ e => h.free e⟩
theorem Keep.trans {B B' : Addr → Prop} {H H1 H2 : Hp} (a : Keep B H H1) (b : Keep B' H1 H2) (s : ∀ x o, H x = some o → B' x → B x) : Keep B H H2 := ⟨fun c o e n => by
  have n' : ¬ B' c := fun z => n (s c o e z)
  rcases a.kept c o e n with h | ⟨ps, more, rfl, h⟩
  · exact b.kept c o h n'
  · rcases b.kept c _ h n' with h2 | ⟨ps', more', e', h2⟩
    · exact .inr ⟨ps, more, rfl, h2⟩
    · cases e'
      exact .inr ⟨ps, more ++ more', rfl, by rw [h2, Array.append_assoc]⟩, fun c e => a.gone c (b.gone c e)⟩
theorem Keep.mono {B B' : Addr → Prop} {H H' : Hp} (a : Keep B H H') (s : ∀ x o, H x = some o → B x → B' x) : Keep B' H H' := ⟨fun c o e n => a.kept c o e fun z => n (s c o e z), a.gone⟩
theorem Keep.at {B : Addr → Prop} {H H' : Hp} {a : Addr} {o : HO} (k : Keep B H H') (e : H a = some o) (n : ¬ B a) (nt : ∀ ps, o ≠ .tbl ps) : H' a = some o := by
  rcases k.kept a o e n with h | ⟨ps, _, e', _⟩
  · exact h
  · exact absurd e' (nt ps)
section
variable {K : PySem.W.Frag} {H H' H1 H2 : Hp} {σ σ' : S} {σv : L2.St}
theorem SRel.at_lst (r : SRel K H σ σv) {i : Nat} {t : Tag} {a : Addr} (h : At σ σv i t a) : ∃ vs ds, H a = some (.lst vs) ∧ σ[i]? = some (some (.l t ds)) ∧ FzAll K H ds vs := by
  obtain ⟨⟨ds, e⟩, ev⟩ := h
  obtain ⟨v, e1, b, vs, e2, h1, h2⟩ := r.val i _ e
  rw [ev] at e1
  have e3 : V.ref a = v := by injection e1 with q; injection q
  rw [← e3] at e2
  injection e2 with e2
  subst e2
  exact ⟨vs, ds, h1, e, h2⟩
theorem SRel.imm (r : SRel K H σ σv) (k : Keep (OwnM σ σv) H H') : Imm H H' := by
  have no : ∀ b o, H b = some o → (∀ vs, o ≠ .lst vs) → ¬ OwnM σ σv b := fun b o e n ⟨i, t, _, h⟩ => by
    obtain ⟨vs, _, q, _⟩ := r.at_lst h
    rw [e] at q
    exact n vs (Option.some.inj q)
  refine ⟨fun b xs e => ?_, fun b o u e => ?_⟩
  · exact k.at e (no b _ e fun _ z => by cases z) fun _ z => by cases z
  · exact k.at e (no b _ e fun _ z => by cases z) fun _ z => by cases z
end

/-! ### what an expression may do to the slots: an own list may change, or be given away for good -/
def SubC : Option (Option C) → Option (Option C) → Prop
  | some (some (.l .own _)), c' => (∃ ds', c' = some (some (.l .own ds'))) ∨ ∃ x, c' = some (some (.d x))
  | some (some (.l .par _)), c' => ∃ ds', c' = some (some (.l .par ds'))
  | c, c' => c' = c
def Sub (σ σ' : S) : Prop := ∀ i : Nat, SubC σ[i]? σ'[i]?
theorem SubC.refl : ∀ c, SubC c c
  | some (some (.l .own ds)) => .inl ⟨ds, rfl⟩
  | some (some (.l .par ds)) => ⟨ds, rfl⟩
  | some (some (.l .lck ds)) => rfl
  | some (some (.d x)) => rfl
  | some none => rfl
  | none => rfl
theorem SubC.trans : ∀ {a b c}, SubC a b → SubC b c → SubC a c
  | some (some (.l .own ds)), _, _, h, g => by
    rcases h with ⟨ds', rfl⟩ | ⟨x, rfl⟩
    · exact g
    · exact .inr ⟨x, g⟩
  | some (some (.l .par ds)), _, _, h, g => by
    obtain ⟨ds', rfl⟩ := h
    exact g
  | some (some (.l .lck ds)), _, _, h, g => by
    rw [show _ = some (some (C.l .lck ds)) from h] at g
    exact g
  | some (some (.d x)), _, _, h, g => by
    rw [show _ = some (some (C.d x)) from h] at g
    exact g
  | some none, _, _, h, g => by
    rw [show _ = some none from h] at g
    exact g
  | none, _, _, h, g => by
    rw [show _ = none from h] at g
    exact g
theorem Sub.refl (σ : S) : Sub σ σ := fun _ => SubC.refl _
theorem Sub.trans {σ σ1 σ2 : S} (a : Sub σ σ1) (b : Sub σ1 σ2) : Sub σ σ2 := fun i => (a i).trans (b i)
section
variable {K : PySem.W.Frag} {H H' H1 H2 : Hp} {σ σ' : S} {σv : L2.St}
theorem SubC.mut : ∀ {c c'}, SubC c c' → ∀ {t ds'}, c' = some (some (.l t ds')) → ∃ ds, c = some (some (.l t ds))
  | some (some (.l .own ds)), _, h, t, ds', e => by
    rcases h with ⟨es, rfl⟩ | ⟨x, rfl⟩
    · cases e; exact ⟨ds, rfl⟩
    · cases e
  | some (some (.l .par ds)), _, h, t, ds', e => by
    obtain ⟨es, rfl⟩ := h
    cases e; exact ⟨ds, rfl⟩
  | some (some (.l .lck ds)), _, h, t, ds', e => by
    rw [show _ = some (some (C.l .lck ds)) from h] at e
    cases e; exact ⟨ds, rfl⟩
  | some (some (.d x)), _, h, t, ds', e => by
    rw [show _ = some (some (C.d x)) from h] at e; cases e
  | some none, _, h, t, ds', e => by
    rw [show _ = some none from h] at e; cases e
  | none, _, h, t, ds', e => by
    rw [show _ = none from h] at e; cases e
theorem SubC.held : ∀ {c c'}, SubC c c' → ∀ {k : C}, c = Option.some (Option.some k) → ∃ k', c' = Option.some (Option.some k')
  | some (some (.l .own ds)), _, h, k, e => by
    rcases h with ⟨es, rfl⟩ | ⟨x, rfl⟩
    · exact ⟨_, rfl⟩
    · exact ⟨_, rfl⟩
  | some (some (.l .par ds)), _, h, k, e => by
    obtain ⟨es, rfl⟩ := h
    exact ⟨_, rfl⟩
  | some (some (.l .lck ds)), _, h, k, e => ⟨_, h⟩
  | some (some (.d x)), _, h, k, e => ⟨_, h⟩
  | some none, _, h, k, e => by cases e
  | none, _, h, k, e => by cases e
theorem Sub.at {i : Nat} {t : Tag} {a : Addr} (s : Sub σ σ') (h : At σ' σv i t a) : At σ σv i t a := by
  obtain ⟨⟨ds', e⟩, ev⟩ := h
  exact ⟨(s i).mut e, ev⟩
theorem Sub.ownM {a : Addr} (s : Sub σ σ') (h : OwnM σ' σv a) : OwnM σ σv a := by
  obtain ⟨i, t, n, h⟩ := h
  exact ⟨i, t, n, s.at h⟩
end
end FL

set_option Elab.async false
set_option linter.all false
set_option maxRecDepth 100000
set_option maxHeartbeats 1000000
/-! FL: expressions. -/
namespace FL
open PySem PySem.Spec PyProof.Rows L2

theorem pe_weak {X : Cx} {e : Expr} {t t' : TE} (h : PE X e t) (w : ∀ σv H Q, t' σv H Q → t σv H Q) : PE X e t' := ⟨fun pins s σ H Q I q => h.run pins s σ H Q I (w σ H Q q)⟩
theorem pt_weak {X : Cx} {e : Expr} {t t' : TT} (h : PT X e t) (w : ∀ σv H Q, t' σv H Q → t σv H Q) : PT X e t' := ⟨fun pins s σ H Q I q => h.run pins s σ H Q I (w σ H Q q)⟩
theorem pw_weak {X : Cx} {e : Expr} {t t' : TT} (h : PW X e t) (w : ∀ σv H Q, t' σv H Q → t σv H Q) : PW X e t' := ⟨fun wh pins s σ H Q I q => h.run wh pins s σ H Q I (w σ H Q q)⟩
theorem pa_weak {X : Cx} {es : List Expr} {t t' : TA} (h : PA X es t) (w : ∀ σv H Q, t' σv H Q → t σv H Q) : PA X es t' := ⟨fun pos pins s σ H Q I q => h.run pos pins s σ H Q I (w σ H Q q)⟩
theorem ps_weak {X : Cx} {e : Stmt} {t t' : TS} (h : PS X e t) (w : ∀ D σv H, t' D σv H → t D σv H) : PS X e t' := ⟨fun pins s σ H D I q => h.run pins s σ H D I (w D σ H q)⟩
theorem pss_weak {X : Cx} {e : List Stmt} {t t' : TS} (h : PSs X e t) (w : ∀ D σv H, t' D σv H → t D σv H) : PSs X e t' := ⟨fun pins s σ H D I q => h.run pins s σ H D I (w D σ H q)⟩

/-- the class of an error, by its name -/
def ECl (mg : Str → Option Value) (c : ECls) (cls : Value) : Prop := mg c = some cls ∨ (mg c = none ∧ bootBuiltins c = some cls)

/-- from a state to a later one within an expression -/
structure Step (K : PySem.W.Frag) (H : Hp) (σ : S) (σv : L2.St) (H' : Hp) (σ' : S) : Prop where
  keep : Keep (OwnM σ σv) H H'
  rel : SRel K H' σ' σv
  sub : Sub σ σ'
def RRel (K : PySem.W.Frag) (H H' : Hp) (σ' : S) (σv : L2.St) : R → V → Prop
  | .d x, v => Fz K H' x v
  | .own ds, v => ∃ a vs, v = .ref a ∧ H a = none ∧ H' a = some (.lst vs) ∧ FzAll K H' ds vs
  | .slot i, v => σv[i]? = some (some v) ∧ ∃ c, σ'[i]? = some (some c)
/-- what is to hold behind a step that gives an α, told by V's -/
def Post {α β : Type} (K : PySem.W.Frag) (mg : Str → Option Value) (W : WX) (Rel : Hp → Hp → S → L2.St → α → β → Prop) (H : Hp) (σ : S) (σv : L2.St) (Q : β → Hp → Prop) : Res α → Prop
  | .ok a σ' => ∀ b H', Step K H σ σv H' σ' → Rel H H' σ' σv a b → Q b H'
  | .exc c σ' => ∀ cls d H', ECl mg c cls → Step K H σ σv H' σ' → W cls d σv H'
  | .bad => False
def rd (K : PySem.W.Frag) (mg : Str → Option Value) (W : WX) (E : S → Res R) : TE := fun σv H Q => ∃ σ, SRel K H σ σv ∧ Post K mg W (RRel K) H σ σv Q (E σ)
/-- a test's -/
def rdT (K : PySem.W.Frag) (mg : Str → Option Value) (W : WX) (T : S → Res Bool) : TT := fun σv H Q => ∃ σ, SRel K H σ σv ∧ Post K mg W (fun _ _ _ _ a b => a = b) H σ σv Q (T σ)
/-- data in a row, each frozen -/
def rdA (K : PySem.W.Frag) (mg : Str → Option Value) (W : WX) (T : S → Res (List D)) : TA := fun σv H Q => ∃ σ, SRel K H σ σv ∧ Post K mg W (fun _ H' _ _ ds vs => FzAll K H' ds vs) H σ σv Q (T σ)

@[simp] def Res.bind {α β : Type} : Res α → (α → S → Res β) → Res β
  | .ok a σ, f => f a σ
  | .exc c σ, _ => .exc c σ
  | .bad, _ => .bad

section
variable {K : PySem.W.Frag} {mg : Str → Option Value} {W : WX} {H H1 H2 H' : Hp} {σ σ1 σ2 σ' : S} {σv : L2.St}
theorem Step.refl (r : SRel K H σ σv) : Step K H σ σv H σ := ⟨Keep.refl _ _, r, Sub.refl _⟩
theorem Step.trans (a : Step K H σ σv H1 σ1) (b : Step K H1 σ1 σv H2 σ2) : Step K H σ σv H2 σ2 := ⟨a.keep.trans b.keep fun _ _ _ z => a.sub.ownM z, b.rel, a.sub.trans b.sub⟩
theorem CRel.mono {c : C} {v : V} (m : Imm H H') (k : ∀ t ds a, c = .l t ds → v = .ref a → ∀ vs, H a = some (.lst vs) → H' a = some (.lst vs)) (h : CRel K H c v) : CRel K H' c v := by
  cases c with
  | d x => exact Fz.mono m x h
  | l t ds =>
    obtain ⟨a, vs, e, h1, h2⟩ := h
    exact ⟨a, vs, e, k t ds a rfl e vs h1, FzAll.mono m ds h2⟩
theorem SRel.same (r : SRel K H σ σv) (s : Same H H') : SRel K H' σ σv :=
  ⟨r.len, fun i c e => by
    obtain ⟨v, e1, h⟩ := r.val i c e
    exact ⟨v, e1, CRel.mono ⟨fun b xs q => s b _ q, fun b o u q => s b _ q⟩ (fun _ _ a _ _ vs q => s a _ q) h⟩, r.apart⟩
theorem Step.same (r : SRel K H σ σv) (s : Same H H') : Step K H σ σv H' σ := ⟨Keep.of_same s, r.same s, Sub.refl _⟩
theorem Step.imm (r : SRel K H σ σv) (a : Step K H σ σv H1 σ1) : Imm H H1 := r.imm a.keep
theorem ownM_some (r : SRel K H σ σv) {a : Addr} (h : OwnM σ σv a) : H a ≠ none := by
  obtain ⟨i, t, _, h⟩ := h
  obtain ⟨vs, _, e, _⟩ := r.at_lst h
  rw [e]; exact fun z => by cases z
theorem RRel.later {r : R} {v : V} (s0 : SRel K H σ σv) (a : Step K H σ σv H1 σ1) (h : RRel K H H1 σ1 σv r v) (b : Step K H1 σ1 σv H2 σ2) : RRel K H H2 σ2 σv r v := by
  cases r with
  | d x => exact Fz.mono (b.imm a.rel) x h
  | own ds =>
    obtain ⟨p, vs, e, h1, h2, h3⟩ := h
    refine ⟨p, vs, e, h1, b.keep.at h2 (fun z => ?_) (fun _ z => by cases z), FzAll.mono (b.imm a.rel) ds h3⟩
    exact ownM_some s0 (a.sub.ownM z) h1
  | slot i =>
    obtain ⟨h1, c, h2⟩ := h
    exact ⟨h1, (b.sub i).held h2⟩
/-- the data that is read at a result, now -/
@[simp] def view (σ : S) : R → Option D
  | .d x => some x
  | .own ds => some (.list ds)
  | .slot i => match σ[i]? with
    | some (some (.d x)) => some x
    | some (some (.l _ ds)) => some (.list ds)
    | _ => none
theorem RRel.view {r : R} {v : V} {x : D} (s : SRel K H' σ' σv) (h : RRel K H H' σ' σv r v) (e : view σ' r = some x) : View K H' x v := by
  cases r with
  | d y =>
    cases e
    exact Fz.view h
  | own ds =>
    cases e
    obtain ⟨a, vs, e, _, h2, h3⟩ := h
    exact ⟨a, vs, e, .inl h2, h3⟩
  | slot i =>
    obtain ⟨h1, c, h2⟩ := h
    obtain ⟨v', e1, hc⟩ := s.val i c h2
    rw [h1] at e1
    have ev : v = v' := by injection e1 with q; injection q
    subst ev
    simp only [FL.view, h2] at e
    cases c with
    | d y =>
      have e' : y = x := by injection e
      subst e'
      exact Fz.view hc
    | l t ds =>
      have e' : PyData.list ds = x := by injection e
      subst e'
      obtain ⟨a, vs, e, q1, q2⟩ := hc
      exact ⟨a, vs, e, .inl q1, q2⟩
theorem Post.exc_later {α β α' β' : Type} {Rel : Hp → Hp → S → L2.St → α → β → Prop} {Rel' : Hp → Hp → S → L2.St → α' → β' → Prop} {Q : β → Hp → Prop} {Q' : β' → Hp → Prop} {c : ECls}
    (h : Post K mg W Rel H σ σv Q (.exc c σ2)) (st : Step K H σ σv H1 σ1) : Post K mg W Rel' H1 σ1 σv Q' (.exc c σ2) := fun cls d H' e s => h cls d H' e (st.trans s)

/-! ### new values -/
/-- what a built-in operation gives: data, or a new list -/
def NewR (K : PySem.W.Frag) (H H' : Hp) : R → V → Prop
  | .d x, v => Same H H' ∧ Fz K H' x v
  | .own ds, v => Same H H' ∧ ∃ a vs, v = .ref a ∧ H a = none ∧ H' a = some (.lst vs) ∧ FzAll K H' ds vs
  | .slot _, _ => False
theorem NewR.same {r : R} {v : V} (h : NewR K H H' r v) : Same H H' := by
  cases r with
  | d x => exact h.1
  | own ds => exact h.1
  | slot i => exact False.elim h
theorem NewR.rrel {r : R} {v : V} (a : Step K H σ σv H1 σ1) (h : NewR K H1 H2 r v) : RRel K H H2 σ1 σv r v := by
  cases r with
  | d x => exact h.2
  | own ds =>
    obtain ⟨_, p, vs, e, h1, h2, h3⟩ := h
    exact ⟨p, vs, e, a.keep.gone p h1, h2, h3⟩
  | slot i => exact False.elim h
end

/-! ### expressions -/
@[simp] def eName (i : Nat) (σ : S) : Res R := match σ[i]? with
  | some (some (.d x)) => .ok (.d x) σ
  | some (some (.l _ _)) => .ok (.slot i) σ
  | _ => .bad
@[simp] def eC (x : D) (σ : S) : Res R := .ok (.d x) σ
/-- a two-place operation on what is read -/
@[simp] def eOp2 (g : D → D → Option R) (Ea Eb : S → Res R) (σ : S) : Res R := (Ea σ).bind fun ra σ1 => (Eb σ1).bind fun rb σ2 => match view σ2 ra, view σ2 rb with
  | some a, some b => (match g a b with
    | some r => .ok r σ2
    | none => .bad)
  | _, _ => .bad
@[simp] def eOp1 (g : D → Option R) (Ea : S → Res R) (σ : S) : Res R := (Ea σ).bind fun ra σ1 => match view σ1 ra with
  | some a => (match g a with
    | some r => .ok r σ1
    | none => .bad)
  | none => .bad
/-- g tells what the rule r asks -/
def Op2 (K : PySem.W.Frag) (r : R2) (g : D → D → Option R) : Prop := ∀ (a b : D) (va vb : V) (H : Hp) (Q : VK) (res : R), View K H a va → View K H b vb → g a b = some res → (∀ v' H', NewR K H H' res v' → Q v' H') → r va vb H Q
def Op1 (K : PySem.W.Frag) (r : V → Hp → VK → Prop) (g : D → Option R) : Prop := ∀ (a : D) (va : V) (H : Hp) (Q : VK) (res : R), View K H a va → g a = some res → (∀ v' H', NewR K H H' res v' → Q v' H') → r va H Q

section
variable {X : Cx} {W : WX} {a b c e : Expr} {Ea Eb Ec E : S → Res R} {pos : Pos}
theorem de_name {i : Nat} {x : Str} (hN : X.N[i]? = some x := by rfl) (hv : Vis X.env.scope x := by first | exact Or.inl rfl | exact Or.inr (Or.inl rfl) | exact Or.inr (Or.inr rfl)) (hd : (x == ("__debug__" : Str)) = false := by decide)
    (hcd : (x == ("__classdict__" : Str)) = false := by decide) : PE X (.Name x pos) (rd X.K X.mg W (eName i)) := by
  refine pe_weak (pe_var hN hv hd hcd) fun σv H Q h => ?_
  obtain ⟨σ, s, h⟩ := h
  unfold eName at h
  split at h
  · rename_i x e
    obtain ⟨v, e1, hc⟩ := s.val i _ e
    exact ⟨v, e1, h v H (Step.refl s) hc⟩
  · rename_i t ds e
    obtain ⟨v, e1, hc⟩ := s.val i _ e
    exact ⟨v, e1, h v H (Step.refl s) ⟨e1, _, e⟩⟩
  · exact False.elim h
theorem de_of_const {t : TE} {v : V} {x : D} (h : PE X e t) (ht : ∀ σv H Q, Q v H → t σv H Q) (hx : ∀ K H, Fz K H x v) : PE X e (rd X.K X.mg W (eC x)) :=
  pe_weak h fun σv H Q ⟨σ, s, q⟩ => ht σv H Q (q v H (Step.refl s) (hx _ _))
theorem de_int {i : Int} {j : Nat} : PE X (.Constant (.int i) j pos) (rd X.K X.mg W (eC (.int i))) := de_of_const pe_int (fun _ _ _ q => q) fun _ _ => rfl
theorem de_bl {i : Bool} {j : Nat} : PE X (.Constant (.bool i) j pos) (rd X.K X.mg W (eC (.bool i))) := de_of_const pe_bl (fun _ _ _ q => q) fun _ _ => rfl
theorem de_non {j : Nat} : PE X (.Constant .none j pos) (rd X.K X.mg W (eC .none)) := de_of_const pe_non (fun _ _ _ q => q) fun _ _ => rfl
theorem de_str {i : Str} {j : Nat} : PE X (.Constant (.str i) j pos) (rd X.K X.mg W (eC (.str i))) := de_of_const pe_str (fun _ _ _ q => q) fun _ _ => rfl

theorem post_op2 {K : PySem.W.Frag} {mg : Str → Option Value} {r : R2} {g : D → D → Option R} (hg : Op2 K r g) {σv : L2.St} {H : Hp} {Q : VK} (h : rd K mg W (eOp2 g Ea Eb) σv H Q) : tOp r (rd K mg W Ea) (rd K mg W Eb) σv H Q := by
  obtain ⟨σ, s, h⟩ := h
  refine ⟨σ, s, ?_⟩
  unfold eOp2 at h
  cases ea : Ea σ with
  | bad => rw [ea] at h; exact False.elim h
  | exc c σ1 => rw [ea] at h; exact h
  | ok ra σ1 =>
    rw [ea] at h
    intro va H1 st1 rr1
    refine ⟨σ1, st1.rel, ?_⟩
    have h : Post K mg W (RRel K) H σ σv Q ((Eb σ1).bind _) := h
    cases eb : Eb σ1 with
    | bad => rw [eb] at h; exact False.elim h
    | exc c σ2 => rw [eb] at h; exact Post.exc_later h st1
    | ok rb σ2 =>
      rw [eb] at h
      intro vb H2 st2 rr2
      have st := st1.trans st2
      have rr1 := rr1.later s st1 st2
      have h : Post K mg W (RRel K) H σ σv Q (match view σ2 ra, view σ2 rb with
        | some a, some b => (match g a b with
          | some r => .ok r σ2
          | none => .bad)
        | _, _ => .bad) := h
      split at h
      · rename_i x y ex ey
        split at h
        · rename_i res eg
          refine hg x y va vb H2 Q res (rr1.view st.rel ex) (rr2.view st.rel ey) eg fun v' H' nr => ?_
          exact h v' H' (st.trans (Step.same st.rel nr.same)) (NewR.rrel st nr)
        · exact False.elim h
      · exact False.elim h
theorem post_op1 {K : PySem.W.Frag} {mg : Str → Option Value} {r : V → Hp → VK → Prop} {g : D → Option R} (hg : Op1 K r g) {σv : L2.St} {H : Hp} {Q : VK} (h : rd K mg W (eOp1 g Ea) σv H Q) : rd K mg W Ea σv H fun x H1 => r x H1 Q := by
  obtain ⟨σ, s, h⟩ := h
  refine ⟨σ, s, ?_⟩
  unfold eOp1 at h
  cases ea : Ea σ with
  | bad => rw [ea] at h; exact False.elim h
  | exc c σ1 => rw [ea] at h; exact h
  | ok ra σ1 =>
    rw [ea] at h
    intro va H1 st1 rr1
    simp only [Res.bind] at h
    split at h
    · rename_i x ex
      split at h
      · rename_i res eg
        refine hg x va H1 Q res (rr1.view st1.rel ex) eg fun v' H' nr => ?_
        exact h v' H' (st1.trans (Step.same st1.rel nr.same)) (NewR.rrel st1 nr)
      · exact False.elim h
    · exact False.elim h
theorem de_bin {op : Operator} {r : R2} {g : D → D → Option R} (ho : OpR X (binaryOp op) r) (hg : Op2 X.K r g) (ha : PE X a (rd X.K X.mg W Ea)) (hb : PE X b (rd X.K X.mg W Eb)) : PE X (.BinOp a op b pos) (rd X.K X.mg W (eOp2 g Ea Eb)) :=
  pe_weak (pe_op ho ha hb) fun _ _ _ h => post_op2 hg h
theorem de_cmp {op : CmpOp} {r : R2} {g : D → D → Option R} (ho : OpR X (compareOp op) r) (hg : Op2 X.K r g) (ha : PE X a (rd X.K X.mg W Ea)) (hb : PE X b (rd X.K X.mg W Eb)) (hm : behindInMarks op b = false := by first | exact nomark _ | with_unfolding_all rfl) :
    PE X (.Compare a [op] [b] pos) (rd X.K X.mg W (eOp2 g Ea Eb)) := pe_weak (pe_cmpR ho ha hb hm) fun _ _ _ h => post_op2 hg h
theorem de_un {op : UnaryOp} {r : V → Hp → VK → Prop} {g : D → Option R} (ho : UnR X (unaryOp op) r) (hg : Op1 X.K r g) (ha : PE X a (rd X.K X.mg W Ea)) : PE X (.UnaryOp op a pos) (rd X.K X.mg W (eOp1 g Ea)) :=
  pe_weak (pe_un ho ha) fun _ _ _ h => post_op1 hg h

/-! ### tests -/
/-- the truth of what is read -/
@[simp] def truth : D → Option Bool
  | .none => some false
  | .bool b => some b
  | .int i => some (i != 0)
  | .list ds => some (!ds.isEmpty)
  | .tuple ds => some (!ds.isEmpty)
  | .str x => if x.length ≤ sizeLine then some ((x.length : Int) != 0) else none
  | .dict _ => none
@[simp] def isBool : D → Option Bool
  | .bool b => some b
  | _ => none
@[simp] def tTru (p : D → Option Bool) (Ea : S → Res R) (σ : S) : Res Bool := (Ea σ).bind fun ra σ1 => match view σ1 ra with
  | some a => (match p a with
    | some r => .ok r σ1
    | none => .bad)
  | none => .bad
theorem isEmpty_len {α β : Type} {l : List α} {m : List β} (h : l.length = m.length) : l.isEmpty = m.isEmpty := by
  cases l <;> cases m <;> simp_all
theorem truth_ok {K : PySem.W.Frag} {H : Hp} {d : D} {v : V} {k : Bool} (h : View K H d v) (e : truth d = some k) : TruV K v H k := by
  cases d with
  | none => rw [show v = .non from h]; injection e with e; exact e.symm
  | bool b => rw [show v = .bl b from h]; injection e with e; exact e.symm
  | int i => rw [show v = .int i from h]; injection e with e; exact e.symm
  | str x =>
    rw [show v = .str x from h]
    simp only [truth] at e
    split at e
    · injection e with e; exact ⟨by assumption, e.symm⟩
    · cases e
  | list ds =>
    obtain ⟨a, xs, rfl, h1, h2⟩ := h
    injection e with e
    exact .inl ⟨xs, .inl h1, by rw [← e, isEmpty_len h2.length]⟩
  | tuple ds =>
    obtain ⟨a, xs, rfl, h1, h2⟩ := h
    injection e with e
    exact .inr (.inl ⟨xs, h1, by rw [← e, isEmpty_len h2.length]⟩)
  | dict _ => cases e
theorem post_tru {K : PySem.W.Frag} {mg : Str → Option Value} {p : D → Option Bool} {r : V → Hp → (Bool → Hp → Prop) → Prop} (hp : ∀ d v H k Q, View K H d v → p d = some k → Q k H → r v H Q) {σv : L2.St} {H : Hp} {Q : Bool → Hp → Prop}
    (h : rdT K mg W (tTru p Ea) σv H Q) : rd K mg W Ea σv H fun x H1 => r x H1 Q := by
  obtain ⟨σ, s, h⟩ := h
  refine ⟨σ, s, ?_⟩
  unfold tTru at h
  cases ea : Ea σ with
  | bad => rw [ea] at h; exact False.elim h
  | exc c σ1 => rw [ea] at h; exact h
  | ok ra σ1 =>
    rw [ea] at h
    intro va H1 st1 rr1
    have h : Post K mg W (fun _ _ _ _ a b => a = b) H σ σv Q (match view σ1 ra with
      | some a => (match p a with
        | some r => .ok r σ1
        | none => .bad)
      | none => .bad) := h
    split at h
    · rename_i x ex
      split at h
      · rename_i res eg
        exact hp x va H1 res Q (rr1.view st1.rel ex) eg (h res H1 st1 rfl)
      · exact False.elim h
    · exact False.elim h
/-- a test by the truth of a value (not for comparisons, and, or, not) -/
theorem dt_tru (ha : PE X a (rd X.K X.mg W Ea)) (he : ∀ whole, isTrue a X.env whole = (do let v ← whole; standAt a.pos; holding [v] (truthy v)) := by intro _; rfl) : PT X a (rdT X.K X.mg W (tTru truth Ea)) :=
  pt_weak (pt_truth ha he) fun σv H Q h => post_tru (r := fun x H' Q => ∃ k, TruV X.K x H' k ∧ Q k H') (fun d v H k Q hv e q => ⟨k, truth_ok hv e, q⟩) h
theorem isBool_ok {K : PySem.W.Frag} {H : Hp} {d : D} {v : V} {k : Bool} (h : View K H d v) (e : isBool d = some k) : v = .bl k := by
  cases d <;> first | (cases e; done) | skip
  injection e with e
  subst e
  exact h
theorem dt_cmp {op : CmpOp} {r : R2} {g : D → D → Option R} (ho : OpR X (compareOp op) r) (hg : Op2 X.K r g) (ha : PE X a (rd X.K X.mg W Ea)) (hb : PE X b (rd X.K X.mg W Eb)) (hm : behindInMarks op b = false := by first | exact nomark _ | with_unfolding_all rfl) :
    PT X (.Compare a [op] [b] pos) (rdT X.K X.mg W (tTru isBool (eOp2 g Ea Eb))) :=
  pt_weak (pt_cmpR ho ha hb hm) fun σv H Q h => post_op2 hg (post_tru (r := fun x H' Q => ∃ k, x = .bl k ∧ Q k H') (fun d v H k Q hv e q => ⟨k, isBool_ok hv e, q⟩) h)

@[simp] def tNotF (T : S → Res Bool) (σ : S) : Res Bool := (T σ).bind fun b σ1 => .ok (!b) σ1
@[simp] def tAndF (T U : S → Res Bool) (σ : S) : Res Bool := (T σ).bind fun b σ1 => if b = true then U σ1 else .ok false σ1
@[simp] def tOrF (T U : S → Res Bool) (σ : S) : Res Bool := (T σ).bind fun b σ1 => if b = true then .ok true σ1 else U σ1
variable {T U : S → Res Bool}
theorem dt_not (ha : PT X a (rdT X.K X.mg W T)) : PT X (.UnaryOp .Not a pos) (rdT X.K X.mg W (tNotF T)) :=
  pt_weak (pt_not ha) fun σv H Q ⟨σ, s, h⟩ => by
    refine ⟨σ, s, ?_⟩
    unfold tNotF at h
    cases ea : T σ with
    | bad => rw [ea] at h; exact False.elim h
    | exc c σ1 => rw [ea] at h; exact h
    | ok b σ1 =>
      rw [ea] at h
      intro k H1 st e
      subst e
      exact h _ H1 st rfl
variable {rest : List Expr}
theorem Post.later {α β : Type} {K : PySem.W.Frag} {mg : Str → Option Value} {H H1 : Hp} {σ σ1 : S} {σv : L2.St} {Q : β → Hp → Prop} {x : Res α} {Rel : Hp → Hp → S → L2.St → α → β → Prop} (st : Step K H σ σv H1 σ1)
    (hr : ∀ H2 σ2 a b, Step K H1 σ1 σv H2 σ2 → Rel H1 H2 σ2 σv a b → Rel H H2 σ2 σv a b) (h : Post K mg W Rel H σ σv Q x) : Post K mg W Rel H1 σ1 σv Q x := by
  cases x with
  | bad => exact h
  | exc c σ2 => exact fun cls d H' e s => h cls d H' e (st.trans s)
  | ok a σ2 => exact fun b H' s r => h b H' (st.trans s) (hr _ _ _ _ s r)
theorem RRel.back {K : PySem.W.Frag} {H H1 H2 : Hp} {σ σ1 σ2 : S} {σv : L2.St} {r : R} {v : V} (st : Step K H σ σv H1 σ1) (h : RRel K H1 H2 σ2 σv r v) : RRel K H H2 σ2 σv r v := by
  cases r with
  | d x => exact h
  | own ds =>
    obtain ⟨p, vs, e, h1, h2⟩ := h
    exact ⟨p, vs, e, st.keep.gone p h1, h2⟩
  | slot i => exact h
theorem dw_one_and (ha : PT X a (rdT X.K X.mg W T)) : PW X (.BoolOp .And [a] pos) (rdT X.K X.mg W T) := pw_and1 ha
theorem dw_one_or (ha : PT X a (rdT X.K X.mg W T)) : PW X (.BoolOp .Or [a] pos) (rdT X.K X.mg W T) := pw_or1 ha
theorem dw_and (ha : PT X a (rdT X.K X.mg W T)) (hb : PW X (.BoolOp .And (b :: rest) pos) (rdT X.K X.mg W U)) : PW X (.BoolOp .And (a :: b :: rest) pos) (rdT X.K X.mg W (tAndF T U)) :=
  pw_weak (pw_and ha hb) fun σv H Q ⟨σ, s, h⟩ => by
    refine ⟨σ, s, ?_⟩
    unfold tAndF at h
    cases ea : T σ with
    | bad => rw [ea] at h; exact False.elim h
    | exc c σ1 => rw [ea] at h; exact h
    | ok k σ1 =>
      rw [ea] at h
      intro k' H1 st e
      subst e
      cases k with
      | true => exact ⟨σ1, st.rel, Post.later st (fun _ _ _ _ _ r => r) h⟩
      | false => exact h _ H1 st rfl
theorem dw_or (ha : PT X a (rdT X.K X.mg W T)) (hb : PW X (.BoolOp .Or (b :: rest) pos) (rdT X.K X.mg W U)) : PW X (.BoolOp .Or (a :: b :: rest) pos) (rdT X.K X.mg W (tOrF T U)) :=
  pw_weak (pw_or ha hb) fun σv H Q ⟨σ, s, h⟩ => by
    refine ⟨σ, s, ?_⟩
    unfold tOrF at h
    cases ea : T σ with
    | bad => rw [ea] at h; exact False.elim h
    | exc c σ1 => rw [ea] at h; exact h
    | ok k σ1 =>
      rw [ea] at h
      intro k' H1 st e
      subst e
      cases k with
      | false => exact ⟨σ1, st.rel, Post.later st (fun _ _ _ _ _ r => r) h⟩
      | true => exact h _ H1 st rfl
theorem dt_pw (h : PW X e (rdT X.K X.mg W T)) : PT X e (rdT X.K X.mg W T) := h.pt
/-! and, or, not as values: of truth values -/
@[simp] def eNot (E : S → Res R) (σ : S) : Res R := (E σ).bind fun r σ1 => match view σ1 r with
  | some d => (match isBool d with
    | some b => .ok (.d (.bool (!b))) σ1
    | none => .bad)
  | none => .bad
@[simp] def eAnd (E F : S → Res R) (σ : S) : Res R := (E σ).bind fun r σ1 => match view σ1 r with
  | some d => (match isBool d with
    | some b => if b = true then F σ1 else .ok (.d (.bool false)) σ1
    | none => .bad)
  | none => .bad
@[simp] def eOr (E F : S → Res R) (σ : S) : Res R := (E σ).bind fun r σ1 => match view σ1 r with
  | some d => (match isBool d with
    | some b => if b = true then .ok (.d (.bool true)) σ1 else F σ1
    | none => .bad)
  | none => .bad
theorem de_one {op : BoolOp} (h : PE X a (rd X.K X.mg W E)) : PE X (.BoolOp op [a] pos) (rd X.K X.mg W E) := pe_one h
theorem de_not (ha : PE X a (rd X.K X.mg W E)) : PE X (.UnaryOp .Not a pos) (rd X.K X.mg W (eNot E)) :=
  pe_weak (pe_not ha) fun σv H Q ⟨σ, s, h⟩ => by
    refine ⟨σ, s, ?_⟩
    unfold eNot at h
    cases ea : E σ with
    | bad => rw [ea] at h; exact False.elim h
    | exc c σ1 => rw [ea] at h; exact h
    | ok r σ1 =>
      rw [ea] at h
      intro v H1 st rr
      simp only [Res.bind] at h
      split at h
      · rename_i d ed
        split at h
        · rename_i k ek
          exact ⟨k, isBool_ok (rr.view st.rel ed) ek, h _ H1 st rfl⟩
        · exact False.elim h
      · exact False.elim h
theorem de_and (ha : PE X a (rd X.K X.mg W E)) (hb : PE X (.BoolOp .And (b :: rest) pos) (rd X.K X.mg W Eb)) : PE X (.BoolOp .And (a :: b :: rest) pos) (rd X.K X.mg W (eAnd E Eb)) :=
  pe_weak (pe_and ha hb) fun σv H Q ⟨σ, s, h⟩ => by
    refine ⟨σ, s, ?_⟩
    unfold eAnd at h
    cases ea : E σ with
    | bad => rw [ea] at h; exact False.elim h
    | exc c σ1 => rw [ea] at h; exact h
    | ok r σ1 =>
      rw [ea] at h
      intro v H1 st rr
      simp only [Res.bind] at h
      split at h
      · rename_i d ed
        split at h
        · rename_i k ek
          refine ⟨k, isBool_ok (rr.view st.rel ed) ek, ?_⟩
          cases k with
          | true => exact ⟨σ1, st.rel, Post.later st (fun _ _ _ _ _ r => r.back st) h⟩
          | false => exact h _ H1 st rfl
        · exact False.elim h
      · exact False.elim h
theorem de_or (ha : PE X a (rd X.K X.mg W E)) (hb : PE X (.BoolOp .Or (b :: rest) pos) (rd X.K X.mg W Eb)) : PE X (.BoolOp .Or (a :: b :: rest) pos) (rd X.K X.mg W (eOr E Eb)) :=
  pe_weak (pe_or ha hb) fun σv H Q ⟨σ, s, h⟩ => by
    refine ⟨σ, s, ?_⟩
    unfold eOr at h
    cases ea : E σ with
    | bad => rw [ea] at h; exact False.elim h
    | exc c σ1 => rw [ea] at h; exact h
    | ok r σ1 =>
      rw [ea] at h
      intro v H1 st rr
      simp only [Res.bind] at h
      split at h
      · rename_i d ed
        split at h
        · rename_i k ek
          refine ⟨k, isBool_ok (rr.view st.rel ed) ek, ?_⟩
          cases k with
          | false => exact ⟨σ1, st.rel, Post.later st (fun _ _ _ _ _ r => r.back st) h⟩
          | true => exact h _ H1 st rfl
        · exact False.elim h
      · exact False.elim h
@[simp] def eIf (T : S → Res Bool) (E F : S → Res R) (σ : S) : Res R := (T σ).bind fun b σ1 => if b = true then E σ1 else F σ1
theorem de_if (hc : PT X c (rdT X.K X.mg W T)) (ha : PE X a (rd X.K X.mg W Ea)) (hb : PE X b (rd X.K X.mg W Eb)) : PE X (.IfExp c a b pos) (rd X.K X.mg W (eIf T Ea Eb)) :=
  pe_weak (pe_ifExp hc ha hb) fun σv H Q ⟨σ, s, h⟩ => by
    refine ⟨σ, s, ?_⟩
    unfold eIf at h
    cases ea : T σ with
    | bad => rw [ea] at h; exact False.elim h
    | exc c σ1 => rw [ea] at h; exact h
    | ok k σ1 =>
      rw [ea] at h
      intro k' H1 st e
      subst e
      cases k with
      | true => exact ⟨σ1, st.rel, Post.later st (fun _ _ _ _ _ r => r.back st) h⟩
      | false => exact ⟨σ1, st.rel, Post.later st (fun _ _ _ _ _ r => r.back st) h⟩
end
end FL

set_option Elab.async false
set_option linter.all false
set_option maxRecDepth 100000
set_option maxHeartbeats 1000000
/-! FL: operations on data. -/
namespace FL
open PySem PySem.Spec PyProof.Rows L2
section
variable {K : PySem.W.Frag} {H H' : Hp}
theorem Same.imm {H H' : Hp} (s : Same H H') : Imm H H' := ⟨fun b _ e => s b _ e, fun b _ _ e => s b _ e⟩
theorem same_new {H : Hp} {p : Addr} {o : HO} (h : H p = none) : Same H (upd H p o) := fun b x e => by
  rw [upd_ne (ne_of_none e h)]
  exact e
theorem new_tup {p : Addr} {ds : List D} {vs : List V} (n : H p = none) (h : FzAll K H ds vs) : NewR K H (upd H p (.tup vs)) (.d (.tuple ds)) (.ref p) :=
  ⟨same_new n, p, vs, rfl, .inl (.inl upd_same), FzAll.mono (Same.imm (same_new n)) ds h⟩
theorem new_lst {p : Addr} {ds : List D} {vs : List V} (n : H p = none) (h : FzAll K H ds vs) : NewR K H (upd H p (.lst vs)) (.own ds) (.ref p) :=
  ⟨same_new n, p, vs, rfl, n, upd_same, FzAll.mono (Same.imm (same_new n)) ds h⟩
theorem old_d {x : D} {v : V} (h : Fz K H x v) : NewR K H H (.d x) v := ⟨Same.refl H, h⟩
theorem new_int {i : Int} : NewR K H H (.d (.int i)) (.int i) := ⟨Same.refl H, rfl⟩
theorem new_bl {i : Bool} : NewR K H H (.d (.bool i)) (.bl i) := ⟨Same.refl H, rfl⟩
theorem new_str {i : Str} : NewR K H H (.d (.str i)) (.str i) := ⟨Same.refl H, rfl⟩
theorem view_int {i : Int} {v : V} (h : View K H (.int i) v) : v = .int i := h
theorem view_str {i : Str} {v : V} (h : View K H (.str i) v) : v = .str i := h
theorem view_bool {i : Bool} {v : V} (h : View K H (.bool i) v) : v = .bl i := h
theorem view_tup {ds : List D} {v : V} (h : View K H (.tuple ds) v) : ∃ a xs, v = .ref a ∧ SqT K H a xs ∧ FzAll K H ds xs := h
theorem view_lst {ds : List D} {v : V} (h : View K H (.list ds) v) : ∃ a xs, v = .ref a ∧ Rd H a (.lst xs) ∧ FzAll K H ds xs := h
end

/-! ### + -/
section
variable {X : Cx}
theorem Inv.lstR {pins : List (Addr × Obj)} {σ : L2.St} {H : Hp} {s : Shared} {l : Addr} {xs : List V} (I : Inv X pins σ H s) (h : Rd H l (.lst xs)) :
    xs.length ≤ sizeLine ∧ ∃ (its : List Value) (n : Nat), Vals xs its ∧ xs.length = its.length ∧ s.heap.get? l = some { cls := .type "list", data := .seq its.toArray n } := by
  obtain ⟨z, its, n, r, e⟩ := h.ok I.hok
  exact ⟨z, its, n, r, r.length, e⟩
def rCatL : R2 := fun x y H Q => ∃ l b xs zs, x = .ref l ∧ y = .ref b ∧ Rd H l (.lst xs) ∧ Rd H b (.lst zs) ∧ xs.length + zs.length ≤ sizeLine ∧ ∀ p, H p = none → Q (.ref p) (upd H p (.lst (xs ++ zs)))
theorem op_catL : OpR X (binaryOp .Add) rCatL := by
  intro pins s σ H x y v u Q I rx ry h
  obtain ⟨l, b, xs, zs, rfl, rfl, hH, hB, hz, q⟩ := h
  cases rx
  cases ry
  obtain ⟨z, its, n, r, hl, e⟩ := Inv.lstR I hH
  obtain ⟨z2, its2, n2, r2, hl2, e2⟩ := Inv.lstR I hB
  refine PySem.P.add_list e e2 ?_ (by rw [List.size_toArray, List.size_toArray]; omega)
  have ea : its.toArray ++ its2.toArray = (its ++ its2).toArray := by simp
  rw [ea]
  exact ⟨.ref _, _, I.lnew (t' := s.toks) (r.append r2) (by rw [List.length_append]; omega), rfl, q _ I.fresh⟩
def rAddD (K : PySem.W.Frag) : R2 := fun x y H Q => (∃ i j, x = .int i ∧ y = .int j ∧ Q (.int (i + j)) H) ∨ (∃ i j, x = .str i ∧ y = .str j ∧ i.length + j.length ≤ sizeLine ∧ Q (.str (i ++ j)) H) ∨ rCatA K x y H Q ∨ rCatL x y H Q
theorem op_addD : OpR X (binaryOp .Add) (rAddD X.K) := op_add.or (op_add_str.or (op_catA.or op_catL))
end
@[simp] def gAdd : D → D → Option R
  | .int i, .int j => some (.d (.int (i + j)))
  | .str x, .str y => if x.length + y.length ≤ sizeLine then some (.d (.str (x ++ y))) else none
  | .list xs, .list ys => if xs.length + ys.length ≤ sizeLine then some (.own (xs ++ ys)) else none
  | .tuple xs, .tuple ys => if xs.length + ys.length ≤ sizeLine then some (.d (.tuple (xs ++ ys))) else none
  | _, _ => none
theorem if_some {α : Type} {c : Prop} [Decidable c] {x y : α} (h : (if c then some x else none) = some y) : c ∧ x = y := by
  by_cases hc : c
  · rw [if_pos hc] at h; exact ⟨hc, Option.some.inj h⟩
  · rw [if_neg hc] at h; cases h
theorem gAdd_ok {K : PySem.W.Frag} : Op2 K (rAddD K) gAdd := by
  intro a b va vb H Q res ha hb e q
  unfold gAdd at e
  split at e
  · cases e
    exact .inl ⟨_, _, view_int ha, view_int hb, q _ _ new_int⟩
  · obtain ⟨hc, e⟩ := if_some e
    subst e
    exact .inr (.inl ⟨_, _, view_str ha, view_str hb, hc, q _ _ new_str⟩)
  · obtain ⟨hc, e⟩ := if_some e
    subst e
    obtain ⟨p, xs, rfl, h1, h2⟩ := view_lst ha
    obtain ⟨p', ys, rfl, h3, h4⟩ := view_lst hb
    exact .inr (.inr (.inr ⟨p, p', xs, ys, rfl, rfl, h1, h3, by rw [← h2.length, ← h4.length]; exact hc, fun r n => q _ _ (new_lst n (h2.append h4))⟩))
  · obtain ⟨hc, e⟩ := if_some e
    subst e
    obtain ⟨p, xs, rfl, h1, h2⟩ := view_tup ha
    obtain ⟨p', ys, rfl, h3, h4⟩ := view_tup hb
    refine .inr (.inr (.inl ⟨p, p', xs, ys, rfl, rfl, h1, h3, by rw [← h2.length, ← h4.length]; exact hc, fun e => ?_, fun _ e => ?_, fun _ _ r n => q _ _ (new_tup n (h2.append h4))⟩))
    · refine q _ _ (old_d ⟨p', ys, rfl, h3, ?_⟩)
      have := h2.append h4
      rw [e] at this
      exact this
    · refine q _ _ (old_d ⟨p, xs, rfl, h1, ?_⟩)
      have := h2.append h4
      rw [e, List.append_nil] at this
      exact this
  · cases e

/-! ### ints -/
/-- i * j can be reckoned: one of them is below 2^64, or both together have at most 2^26 bits -/
def mulOk (i j : Int) : Bool := decide (i.natAbs < 2 ^ 64) || decide (j.natAbs < 2 ^ 64) || decide (Builtin.Int.intBits i + Builtin.Int.intBits j ≤ 134217728)
theorem mulOk.ok {i j : Int} (h : mulOk i j = true) : IntMulOk i j := by
  unfold mulOk at h
  rw [Bool.or_eq_true, Bool.or_eq_true] at h
  rcases h with (h | h) | h
  · have := of_decide_eq_true h
    exact .of_left (intBits_le_64 (by omega) (by omega))
  · have := of_decide_eq_true h
    exact .of_right (intBits_le_64 (by omega) (by omega))
  · have := of_decide_eq_true h
    exact CMulX.ok (by unfold CMulX; omega)
@[simp] def gInt (C : Int → Int → Bool) (f : Int → Int → Int) : D → D → Option R
  | .int i, .int j => if C i j = true then some (.d (.int (f i j))) else none
  | _, _ => none
theorem gInt_ok {K : PySem.W.Frag} {C : Int → Int → Bool} {P : Int → Int → Prop} {f : Int → Int → Int} (h : ∀ i j, C i j = true → P i j) : Op2 K (rI P fun i j => .int (f i j)) (gInt C f) := by
  intro a b va vb H Q res ha hb e q
  unfold gInt at e
  split at e
  · obtain ⟨hc, e⟩ := if_some e
    subst e
    exact ⟨_, _, view_int ha, view_int hb, h _ _ hc, q _ _ new_int⟩
  · cases e
@[simp] def gI0 (f : Int → Int → Int) : D → D → Option R
  | .int i, .int j => some (.d (.int (f i j)))
  | _, _ => none
theorem gI0_ok {K : PySem.W.Frag} {f : Int → Int → Int} : Op2 K (rI0 fun i j => .int (f i j)) (gI0 f) := by
  intro a b va vb H Q res ha hb e q
  unfold gI0 at e
  split at e
  · cases e
    exact ⟨_, _, view_int ha, view_int hb, q _ _ new_int⟩
  · cases e
@[simp] def gB0 (f : Int → Int → Bool) : D → D → Option R
  | .int i, .int j => some (.d (.bool (f i j)))
  | _, _ => none
theorem gB0_ok {K : PySem.W.Frag} {f : Int → Int → Bool} : Op2 K (rI0 fun i j => .bl (f i j)) (gB0 f) := by
  intro a b va vb H Q res ha hb e q
  unfold gB0 at e
  split at e
  · cases e
    exact ⟨_, _, view_int ha, view_int hb, q _ _ new_bl⟩
  · cases e
@[simp] def posB (_ j : Int) : Bool := decide (0 < j)
def divOk (_ j : Int) : Bool := decide (0 < j) && decide (j.natAbs.log2 < 9000)
def powOk (i j : Int) : Bool := decide (0 ≤ j) && decide (j ≤ 1000000) && decide (i.natAbs < 2 ^ 64)
def shlOk (i j : Int) : Bool := decide (0 ≤ j) && decide ((Builtin.Int.intBits i : Int) + j ≤ 2 ^ 27)
@[simp] def shrOk (_ j : Int) : Bool := decide (0 ≤ j)
abbrev gSub := gI0 fun i j => i - j
abbrev gFdv := gInt divOk fun i j => i / j
abbrev gMod := gInt posB fun i j => i % j
abbrev gPow := gInt powOk fun i j => i ^ j.toNat
abbrev gShl := gInt shlOk fun i j => i * 2 ^ j.toNat
abbrev gShr := gInt shrOk fun i j => i / 2 ^ j.toNat
abbrev gXor := gI0 Builtin.bitXor
abbrev gAnd := gI0 Builtin.bitAnd
abbrev gOr := gI0 Builtin.bitOr
abbrev gLt := gB0 fun i j => decide (i < j)
abbrev gLe := gB0 fun i j => decide (i ≤ j)
abbrev gGt := gB0 fun i j => decide (j < i)
abbrev gGe := gB0 fun i j => decide (j ≤ i)
section
variable {X : Cx} {W : WX} {a b c e : Expr} {Ea Eb Ec E : S → Res R} {pos : Pos}
abbrev DE (X : Cx) (W : WX) (e : Expr) (E : S → Res R) : Prop := PE X e (rd X.K X.mg W E)
theorem de_add (ha : DE X W a Ea) (hb : DE X W b Eb) : DE X W (.BinOp a .Add b pos) (eOp2 gAdd Ea Eb) := de_bin op_addD gAdd_ok ha hb
theorem de_sub (ha : DE X W a Ea) (hb : DE X W b Eb) : DE X W (.BinOp a .Sub b pos) (eOp2 gSub Ea Eb) := de_bin op_sub gI0_ok ha hb
theorem de_fdv (ha : DE X W a Ea) (hb : DE X W b Eb) : DE X W (.BinOp a .FloorDiv b pos) (eOp2 gFdv Ea Eb) :=
  de_bin op_fdivW (gInt_ok fun i j h => by rw [divOk, Bool.and_eq_true] at h; exact ⟨of_decide_eq_true h.1, of_decide_eq_true h.2⟩) ha hb
theorem de_mod (ha : DE X W a Ea) (hb : DE X W b Eb) : DE X W (.BinOp a .Mod b pos) (eOp2 gMod Ea Eb) := de_bin op_mod (gInt_ok fun i j h => of_decide_eq_true h) ha hb
theorem de_pow (ha : DE X W a Ea) (hb : DE X W b Eb) : DE X W (.BinOp a .Pow b pos) (eOp2 gPow Ea Eb) :=
  de_bin op_pow (gInt_ok fun i j h => by rw [powOk, Bool.and_eq_true, Bool.and_eq_true] at h; exact ⟨of_decide_eq_true h.1.1, of_decide_eq_true h.1.2, of_decide_eq_true h.2⟩) ha hb
theorem de_shl (ha : DE X W a Ea) (hb : DE X W b Eb) : DE X W (.BinOp a .LShift b pos) (eOp2 gShl Ea Eb) :=
  de_bin op_shlW (gInt_ok fun i j h => by rw [shlOk, Bool.and_eq_true] at h; exact ⟨of_decide_eq_true h.1, of_decide_eq_true h.2⟩) ha hb
theorem de_shr (ha : DE X W a Ea) (hb : DE X W b Eb) : DE X W (.BinOp a .RShift b pos) (eOp2 gShr Ea Eb) := de_bin op_shr (gInt_ok fun i j h => of_decide_eq_true h) ha hb
theorem de_xor (ha : DE X W a Ea) (hb : DE X W b Eb) : DE X W (.BinOp a .BitXor b pos) (eOp2 gXor Ea Eb) := de_bin op_xor gI0_ok ha hb
theorem de_band (ha : DE X W a Ea) (hb : DE X W b Eb) : DE X W (.BinOp a .BitAnd b pos) (eOp2 gAnd Ea Eb) := de_bin op_and gI0_ok ha hb
theorem de_bor (ha : DE X W a Ea) (hb : DE X W b Eb) : DE X W (.BinOp a .BitOr b pos) (eOp2 gOr Ea Eb) := de_bin op_or gI0_ok ha hb
end

/-! ### * -/
section
variable {X : Cx}
theorem op_mulI : OpR X (binaryOp .Mult) (rI IntMulOk fun i j => .int (i * j)) := opI fun _ _ _ _ _ _ _ hc q => mul_int q hc
theorem iop_mulI : OpR X (inplaceOp .Mult) (rI IntMulOk fun i j => .int (i * j)) := opI fun _ _ _ _ _ _ _ hc q => imul_int q hc
def rRepL : R2 := fun x y H Q => ∃ l k xs, x = .ref l ∧ y = .int k ∧ Rd H l (.lst xs) ∧ -(2 ^ 63) ≤ k ∧ k < 2 ^ 63 ∧ xs.length * k.toNat ≤ sizeLine ∧
  ∀ p, H p = none → Q (.ref p) (upd H p (.lst (List.replicate k.toNat xs).flatten))
theorem op_repL : OpR X (binaryOp .Mult) rRepL := by
  intro pins s σ H x y v u Q I rx ry h
  obtain ⟨l, k, xs, rfl, rfl, hH, h1, h2, hz, q⟩ := h
  cases rx
  obtain ⟨t, rfl⟩ := ry
  obtain ⟨z, its, n, r, hl, e⟩ := Inv.lstR I hH
  have hlen : its.toArray.size * k.toNat ≤ sizeLine := by rw [List.size_toArray, ← hl]; exact hz
  have hcap : ¬ its.toArray.size * k.toNat > (2 ^ 63 - 1) / 8 := by
    have : (sizeLine : Nat) ≤ (2 ^ 63 - 1) / 8 := by decide
    omega
  have hfit : ¬ (!Builtin.List.listFitsIndex k) = true := by
    rw [fitsIndex_both h1 h2]
    exact Bool.false_ne_true
  have hlong : ¬ Builtin.List.listTooLong (its.toArray.size * k.toNat) = true := by
    rw [notLongL hlen]
    exact Bool.false_ne_true
  have hnew : List.foldl (fun x1 x2 => x1 ++ x2) #[] (List.replicate (if its.toArray.isEmpty = true then 0 else k.toNat) its.toArray) = (List.replicate k.toNat its).flatten.toArray := by
    have f0 : ∀ m : Nat, List.foldl (fun x1 x2 => x1 ++ x2) #[] (List.replicate m its.toArray) = (List.replicate m its).flatten.toArray := fun m => by
      have := foldl_rep its m []
      rw [List.nil_append] at this
      exact this
    rw [f0]
    cases its with
    | nil => simp
    | cons a r' => rw [if_neg (by simp)]
  refine wpAny_binaryOp_repeat_ref (T := "list") (U := "int") (by decide) ⟨_, e, rfl⟩ (fun s' => typeIs_int s' k t) noFill_list_mul F.fills_int_mul F.slot_int_rmul repeat_list F.slot_int_index.lookup
    (call_meets F.slot_int_rmul (typeIs_int s k t) F.entry_int_rmul (F.args_int_rmul_2 _ _) (int___rmul___int_list k t l its.toArray n)
      ⟨e, rfl, ⟨_, e, rfl⟩, call_meets F.slot_list_mul ⟨_, e, rfl⟩ F.entry_list_mul (F.args_list_mul_2 _ _) (AutoListH.list___mul___list_int_3 l its.toArray n k t hfit hcap hlong) ⟨e, ?_⟩⟩)
  rw [hnew]
  exact ⟨.ref _, _, I.lnew (t' := s.toks) (r.rep k.toNat) (by rw [PyProof.Rows.lm_len_rep_flat, Nat.mul_comm]; exact hz), rfl, q _ I.fresh⟩
def rMulD (K : PySem.W.Frag) : R2 := fun x y H Q => (∃ i j, x = .int i ∧ y = .int j ∧ IntMulOk i j ∧ Q (.int (i * j)) H) ∨ rRepL x y H Q ∨ rRepT K x y H Q
theorem op_mulD : OpR X (binaryOp .Mult) (rMulD X.K) := op_mulI.or (op_repL.or op_repT)
end
@[simp] def gMul : D → D → Option R
  | .int i, .int j => if mulOk i j = true then some (.d (.int (i * j))) else none
  | .list xs, .int k => if -(2 ^ 63) ≤ k ∧ k < 2 ^ 63 ∧ xs.length * k.toNat ≤ sizeLine then some (.own (List.replicate k.toNat xs).flatten) else none
  | .tuple xs, .int k => if 1 ≤ xs.length ∧ xs.length ≤ 1000 ∧ 2 ≤ k ∧ k ≤ 1000 then some (.d (.tuple (List.replicate k.toNat xs).flatten)) else none
  | _, _ => none
theorem FzAll.rep {K : PySem.W.Frag} {H : Hp} {ds : List D} {vs : List V} (h : FzAll K H ds vs) : ∀ n : Nat, FzAll K H (List.replicate n ds).flatten (List.replicate n vs).flatten
  | 0 => FzAll.nil
  | n + 1 => by
    rw [List.replicate_succ, List.replicate_succ, List.flatten_cons, List.flatten_cons]
    exact h.append (FzAll.rep h n)
theorem gMul_ok {K : PySem.W.Frag} : Op2 K (rMulD K) gMul := by
  intro a b va vb H Q res ha hb e q
  unfold gMul at e
  split at e
  · obtain ⟨hc, e⟩ := if_some e
    subst e
    exact .inl ⟨_, _, view_int ha, view_int hb, mulOk.ok hc, q _ _ new_int⟩
  · obtain ⟨⟨h0, h1, hc⟩, e⟩ := if_some e
    subst e
    obtain ⟨p, xs, rfl, h3, h2⟩ := view_lst ha
    exact .inr (.inl ⟨p, _, xs, rfl, view_int hb, h3, h0, h1, by rw [← h2.length]; exact hc, fun r n => q _ _ (new_lst n (h2.rep _))⟩)
  · obtain ⟨⟨h0, h1, h4, h5⟩, e⟩ := if_some e
    subst e
    obtain ⟨p, xs, rfl, h3, h2⟩ := view_tup ha
    exact .inr (.inr ⟨p, _, xs, rfl, view_int hb, h3, fun z => by rw [z] at h2; have := h2.length; simp at this; rw [this] at h0; simp at h0, h4, h5, by rw [← h2.length]; exact h1, fun r n => q _ _ (new_tup n (h2.rep _))⟩)
  · cases e

/-! ### ==, in, is -/
section
variable {X : Cx}
def rInT (K : PySem.W.Frag) : R2 := fun x y H Q => ∃ d ds, Dp K H x d ∧ Dp K H y (.tuple ds) ∧ SeqAt.shaped d = true ∧ SeqAt.shaped (.tuple ds) = true ∧ Q (.bl (ds.any fun z => PyData.eqv z d)) H
def rNotInT (K : PySem.W.Frag) : R2 := fun x y H Q => ∃ d ds, Dp K H x d ∧ Dp K H y (.tuple ds) ∧ SeqAt.shaped d = true ∧ SeqAt.shaped (.tuple ds) = true ∧ Q (.bl (!ds.any fun z => PyData.eqv z d)) H
theorem op_inT (hu : X.A.units + 65 < cLine) : OpR X (compareOp .In) (rInT X.K) := by
  intro pins s σ H x y v u Q I rx ry h
  obtain ⟨d, ds, hd, he, sd, se, q⟩ := h
  obtain ⟨as, r1⟩ := Dp.reads I d x v hd rx
  obtain ⟨bs, r2⟩ := Dp.reads I (.tuple ds) y u he ry
  exact SeqAt.in_tuple_reads r2 r1 (SeqAt.canLay_of_shaped se) (SeqAt.canLay_of_shaped sd) (room_in_shaped sd hu) ⟨.bl _, H, I, rfl, q⟩
theorem op_notInT (hu : X.A.units + 65 < cLine) : OpR X (compareOp .NotIn) (rNotInT X.K) := by
  intro pins s σ H x y v u Q I rx ry h
  obtain ⟨d, ds, hd, he, sd, se, q⟩ := h
  obtain ⟨as, r1⟩ := Dp.reads I d x v hd rx
  obtain ⟨bs, r2⟩ := Dp.reads I (.tuple ds) y u he ry
  exact SeqAt.notIn_tuple_reads r2 r1 (SeqAt.canLay_of_shaped se) (SeqAt.canLay_of_shaped sd) (room_in_shaped sd hu) ⟨.bl _, H, I, rfl, q⟩
def rInStr : R2 := fun x y H Q => ∃ i j, x = .str i ∧ y = .str j ∧ Q (.bl (!(Builtin.Str.occurrences j i 0 j.length 1).isEmpty)) H
def rNotInStr : R2 := fun x y H Q => ∃ i j, x = .str i ∧ y = .str j ∧ Q (.bl (!(!(Builtin.Str.occurrences j i 0 j.length 1).isEmpty))) H
def rInA (K : PySem.W.Frag) : R2 := fun x y H Q => rInD K x y H Q ∨ rInT K x y H Q ∨ rInStr x y H Q
def rNotInA (K : PySem.W.Frag) : R2 := fun x y H Q => rNotInD K x y H Q ∨ rNotInT K x y H Q ∨ rNotInStr x y H Q
theorem op_inA (hu : X.A.units + 65 < cLine) : OpR X (compareOp .In) (rInA X.K) := (op_inD hu).or ((op_inT hu).or op_in_str)
theorem op_notInA (hu : X.A.units + 65 < cLine) : OpR X (compareOp .NotIn) (rNotInA X.K) := (op_notInD hu).or ((op_notInT hu).or op_notin_str)
/-- is, with None, True, False at the right -/
def plainV : V → Bool
  | .non => true
  | .bl _ => true
  | _ => false
def rIsP : R2 := fun x y H Q => plainV y = true ∧ Q (.bl (decide (x = y))) H
def rNotP : R2 := fun x y H Q => plainV y = true ∧ Q (.bl (!decide (x = y))) H
theorem plain_of {x y : V} {v u : Value} (rx : RelV x v) (ry : RelV y u) (h : plainV y = true) : plainIs v u = true ∧ (v == u) = decide (x = y) := by
  have e : x = y ↔ v = u := by
    constructor
    · intro z
      subst z
      cases x with
      | non => rw [show v = _ from rx, show u = _ from ry]
      | bl b => rw [show v = _ from rx, show u = _ from ry]
      | _ => cases h
    · intro z
      subst z
      exact rx.inj ry
  have e2 : (v == u) = decide (x = y) := by
    by_cases z : x = y
    · rw [decide_eq_true z, e.mp z]; exact beq_self_eq_true _
    · rw [decide_eq_false z]; exact beq_eq_false_iff_ne.mpr fun q => z (e.mpr q)
  refine ⟨?_, e2⟩
  cases y with
  | non =>
    rw [show u = _ from ry]
    cases x with
    | int i => obtain ⟨t, rfl⟩ := rx; rfl
    | str i => obtain ⟨t, rfl⟩ := rx; rfl
    | byt i => obtain ⟨t, rfl⟩ := rx; rfl
    | flt i => obtain ⟨t, rfl⟩ := rx; rfl
    | _ => rw [show v = _ from rx]; rfl
  | bl b =>
    rw [show u = _ from ry]
    cases x with
    | int i => obtain ⟨t, rfl⟩ := rx; rfl
    | str i => obtain ⟨t, rfl⟩ := rx; rfl
    | byt i => obtain ⟨t, rfl⟩ := rx; rfl
    | flt i => obtain ⟨t, rfl⟩ := rx; rfl
    | _ => rw [show v = _ from rx]; rfl
  | _ => cases h
theorem op_isP : OpR X (compareOp .Is) rIsP := by
  intro pins s σ H x y v u Q I rx ry h
  obtain ⟨h, q⟩ := h
  obtain ⟨p, e⟩ := plain_of rx ry h
  exact wpAny_is_plain p ⟨.bl _, H, I, by rw [e]; rfl, q⟩
theorem op_notP : OpR X (compareOp .IsNot) rNotP := by
  intro pins s σ H x y v u Q I rx ry h
  obtain ⟨h, q⟩ := h
  obtain ⟨p, e⟩ := plain_of rx ry h
  exact wpAny_isNot_plain p ⟨.bl _, H, I, by rw [e]; rfl, q⟩
end
def gEq : D → D → Option R := fun a b => if SeqAt.shaped a = true ∧ SeqAt.shaped b = true then some (.d (.bool (PyData.eqv a b))) else none
def gNe : D → D → Option R := fun a b => if SeqAt.shaped a = true ∧ SeqAt.shaped b = true then some (.d (.bool (!PyData.eqv a b))) else none
theorem gEq_ok {K : PySem.W.Frag} : Op2 K (rEqD K) gEq := by
  intro a b va vb H Q res ha hb e q
  obtain ⟨⟨h1, h2⟩, e⟩ := if_some e
  subst e
  exact ⟨a, b, ha.dp, hb.dp, h1, h2, q _ _ new_bl⟩
theorem gNe_ok {K : PySem.W.Frag} : Op2 K (rNeD K) gNe := by
  intro a b va vb H Q res ha hb e q
  obtain ⟨⟨h1, h2⟩, e⟩ := if_some e
  subst e
  exact ⟨a, b, ha.dp, hb.dp, h1, h2, q _ _ new_bl⟩
/-- items of what is searched -/
def memD (d : D) (ds : List D) : Bool := ds.any fun z => PyData.eqv z d
def gIn : D → D → Option R
  | d, .list ds => if SeqAt.shaped d = true ∧ SeqAt.shaped (.list ds) = true then some (.d (.bool (memD d ds))) else none
  | d, .tuple ds => if SeqAt.shaped d = true ∧ SeqAt.shaped (.tuple ds) = true then some (.d (.bool (memD d ds))) else none
  | .str i, .str j => some (.d (.bool (!(Builtin.Str.occurrences j i 0 j.length 1).isEmpty)))
  | _, _ => none
def gNotIn : D → D → Option R
  | d, .list ds => if SeqAt.shaped d = true ∧ SeqAt.shaped (.list ds) = true then some (.d (.bool (!memD d ds))) else none
  | d, .tuple ds => if SeqAt.shaped d = true ∧ SeqAt.shaped (.tuple ds) = true then some (.d (.bool (!memD d ds))) else none
  | .str i, .str j => some (.d (.bool (!(!(Builtin.Str.occurrences j i 0 j.length 1).isEmpty))))
  | _, _ => none
theorem gIn_ok {K : PySem.W.Frag} : Op2 K (rInA K) gIn := by
  intro a b va vb H Q res ha hb e q
  unfold gIn at e
  split at e
  · obtain ⟨⟨h1, h2⟩, e⟩ := if_some e
    subst e
    exact .inl ⟨_, _, ha.dp, hb.dp, h1, h2, q _ _ new_bl⟩
  · obtain ⟨⟨h1, h2⟩, e⟩ := if_some e
    subst e
    exact .inr (.inl ⟨_, _, ha.dp, hb.dp, h1, h2, q _ _ new_bl⟩)
  · cases e
    exact .inr (.inr ⟨_, _, view_str ha, view_str hb, q _ _ new_bl⟩)
  · cases e
theorem gNotIn_ok {K : PySem.W.Frag} : Op2 K (rNotInA K) gNotIn := by
  intro a b va vb H Q res ha hb e q
  unfold gNotIn at e
  split at e
  · obtain ⟨⟨h1, h2⟩, e⟩ := if_some e
    subst e
    exact .inl ⟨_, _, ha.dp, hb.dp, h1, h2, q _ _ new_bl⟩
  · obtain ⟨⟨h1, h2⟩, e⟩ := if_some e
    subst e
    exact .inr (.inl ⟨_, _, ha.dp, hb.dp, h1, h2, q _ _ new_bl⟩)
  · cases e
    exact .inr (.inr ⟨_, _, view_str ha, view_str hb, q _ _ new_bl⟩)
  · cases e
/-- d is None, True, False -/
@[simp] def isD : D → D → Option Bool
  | .none, .none => some true
  | _, .none => some false
  | .bool a, .bool b => some (decide (a = b))
  | _, .bool _ => some false
  | _, _ => none
@[simp] def gIs (a b : D) : Option R := (isD a b).map fun k => .d (.bool k)
@[simp] def gIsNot (a b : D) : Option R := (isD a b).map fun k => .d (.bool (!k))
theorem isD_ok {K : PySem.W.Frag} {H : Hp} {a b : D} {va vb : V} {k : Bool} (ha : View K H a va) (hb : View K H b vb) (e : isD a b = some k) : plainV vb = true ∧ decide (va = vb) = k := by
  cases b with
  | none =>
    rw [show vb = _ from hb]
    refine ⟨rfl, ?_⟩
    cases a <;> first | (cases e) | skip
    · rw [show va = _ from ha]; rfl
    · rw [show va = _ from ha]; rfl
    · rw [show va = _ from ha]; rfl
    · rw [show va = _ from ha]; rfl
    · obtain ⟨p, xs, rfl, _⟩ := view_lst ha; rfl
    · obtain ⟨p, xs, rfl, _⟩ := view_tup ha; rfl
    · exact False.elim ha
  | bool b =>
    rw [show vb = _ from hb]
    refine ⟨rfl, ?_⟩
    cases a <;> first | (cases e) | skip
    · rw [show va = _ from ha]; rfl
    · rw [show va = _ from ha]; simp
    · rw [show va = _ from ha]; rfl
    · rw [show va = _ from ha]; rfl
    · obtain ⟨p, xs, rfl, _⟩ := view_lst ha; rfl
    · obtain ⟨p, xs, rfl, _⟩ := view_tup ha; rfl
    · exact False.elim ha
  | _ => cases a <;> cases e
theorem gIs_ok {K : PySem.W.Frag} : Op2 K rIsP gIs := by
  intro a b va vb H Q res ha hb e q
  obtain ⟨k, e1, rfl⟩ := Option.map_eq_some_iff.mp e
  obtain ⟨p, e2⟩ := isD_ok ha hb e1
  exact ⟨p, by rw [e2]; exact q _ _ new_bl⟩
theorem gIsNot_ok {K : PySem.W.Frag} : Op2 K rNotP gIsNot := by
  intro a b va vb H Q res ha hb e q
  obtain ⟨k, e1, rfl⟩ := Option.map_eq_some_iff.mp e
  obtain ⟨p, e2⟩ := isD_ok ha hb e1
  exact ⟨p, by rw [e2]; exact q _ _ new_bl⟩

/-! ### items, slices -/
@[simp] def gIx : D → D → Option R
  | .list ds, .int i => (atI ds i).map R.d
  | .tuple ds, .int i => (atI ds i).map R.d
  | .str z, .int i => if z.length ≤ sizeLine then (atI z.cps.toList i).map fun c => R.d (.str ⟨#[c]⟩) else none
  | _, _ => none
theorem FzAll.atI {K : PySem.W.Frag} {H : Hp} {ds : List D} {vs : List V} {i : Int} {d : D} (h : FzAll K H ds vs) (e : atI ds i = some d) : ∃ v, L2.atI vs i = some v ∧ Fz K H d v := by
  unfold L2.atI at e ⊢
  rw [← h.length]
  cases q : ixN ds.length i with
  | none => rw [q] at e; cases e
  | some j =>
    rw [q] at e
    exact h.get e
theorem gIx_ok {K : PySem.W.Frag} : Op2 K (rIx K) gIx := by
  intro a b va vb H Q res ha hb e q
  unfold gIx at e
  split at e
  · obtain ⟨d, e1, rfl⟩ := Option.map_eq_some_iff.mp e
    obtain ⟨p, xs, rfl, h1, h2⟩ := view_lst ha
    obtain ⟨v, e', hv⟩ := h2.atI e1
    exact .inl ⟨p, xs, _, v, rfl, view_int hb, .inl h1, e', q _ _ (old_d hv)⟩
  · obtain ⟨d, e1, rfl⟩ := Option.map_eq_some_iff.mp e
    obtain ⟨p, xs, rfl, h1, h2⟩ := view_tup ha
    obtain ⟨v, e', hv⟩ := h2.atI e1
    exact .inr (.inl ⟨p, xs, _, v, rfl, view_int hb, h1, e', q _ _ (old_d hv)⟩)
  · split at e
    · obtain ⟨d, e1, rfl⟩ := Option.map_eq_some_iff.mp e
      exact .inr (.inr ⟨_, _, d, view_str ha, view_int hb, by assumption, e1, q _ _ new_str⟩)
    · cases e
  · cases e
/-- items of xs[lo:hi] -/
def cutL {α : Type} (xs : List α) (lo hi : Option Int) : List α := (xs.drop (HT.sIx xs.length 0 lo)).take (HT.sIx xs.length xs.length hi - HT.sIx xs.length 0 lo)
def gSl (x : D) (lo hi : Option Int) : Option R := match x with
  | .list ds => some (.own (cutL ds lo hi))
  | .tuple ds => some (.d (.tuple (cutL ds lo hi)))
  | .str z => if z.length ≤ sizeLine then some (.d (.str (cutS z lo hi))) else none
  | _ => none
def rSlD (K : PySem.W.Frag) : V → Option Int → Option Int → Hp → VK → Prop := fun x lo hi H Q => rSlL K x lo hi H Q ∨ rSlA K x lo hi H Q ∨ rSlS x lo hi H Q
theorem sl_D {X : Cx} : SlR X (rSlD X.K) := sl_list.or (sl_tupA.or sl_str)
theorem FzAll.cut {K : PySem.W.Frag} {H : Hp} {ds : List D} {vs : List V} (h : FzAll K H ds vs) (lo hi : Option Int) : FzAll K H (cutL ds lo hi) (cutV vs lo hi) := by
  unfold cutL cutV
  rw [h.length]
  exact (h.drop _).take _
theorem gSl_ok {K : PySem.W.Frag} {a : D} {lo hi : Option Int} {va : V} {H : Hp} {Q : VK} {res : R} (ha : View K H a va) (e : gSl a lo hi = some res) (q : ∀ v' H', NewR K H H' res v' → Q v' H') : rSlD K va lo hi H Q := by
  unfold gSl at e
  split at e
  · cases e
    obtain ⟨p, xs, rfl, h1, h2⟩ := view_lst ha
    exact .inl ⟨p, xs, rfl, .inl h1, fun r n => q _ _ (new_lst n (h2.cut lo hi))⟩
  · cases e
    obtain ⟨p, xs, rfl, h1, h2⟩ := view_tup ha
    refine .inr (.inl ⟨p, xs, rfl, h1, fun z => ?_, fun _ r n => q _ _ (new_tup n (h2.cut lo hi))⟩)
    refine q _ _ (old_d ⟨p, xs, rfl, h1, ?_⟩)
    have := h2.cut lo hi
    unfold cutV at this
    rw [z.1, z.2, Nat.sub_zero, List.drop_zero, List.take_length] at this
    exact this
  · obtain ⟨hc, e⟩ := if_some e
    subst e
    exact .inr (.inr ⟨_, view_str ha, hc, q _ _ new_str⟩)
  · cases e
section
variable {X : Cx} {W : WX} {a b c e : Expr} {Ea Eb Ec E : S → Res R} {pos : Pos}
theorem de_mul (ha : DE X W a Ea) (hb : DE X W b Eb) : DE X W (.BinOp a .Mult b pos) (eOp2 gMul Ea Eb) := de_bin op_mulD gMul_ok ha hb
theorem de_ix (ha : DE X W a Ea) (hb : DE X W b Eb) (hs : PlainIx b := by exact fun _ _ => rfl) : DE X W (.Subscript a b pos) (eOp2 gIx Ea Eb) := pe_weak (pe_ix ix_seq ha hb hs) fun _ _ _ h => post_op2 gIx_ok h
theorem de_lt (ha : DE X W a Ea) (hb : DE X W b Eb) : DE X W (.Compare a [.Lt] [b] pos) (eOp2 gLt Ea Eb) := de_cmp op_lt gB0_ok ha hb
theorem de_le (ha : DE X W a Ea) (hb : DE X W b Eb) : DE X W (.Compare a [.LtE] [b] pos) (eOp2 gLe Ea Eb) := de_cmp op_le gB0_ok ha hb
theorem de_gt (ha : DE X W a Ea) (hb : DE X W b Eb) : DE X W (.Compare a [.Gt] [b] pos) (eOp2 gGt Ea Eb) := de_cmp op_gt gB0_ok ha hb
theorem de_ge (ha : DE X W a Ea) (hb : DE X W b Eb) : DE X W (.Compare a [.GtE] [b] pos) (eOp2 gGe Ea Eb) := de_cmp op_ge gB0_ok ha hb
theorem de_eq (hu : X.A.units + 65 < cLine) (ha : DE X W a Ea) (hb : DE X W b Eb) : DE X W (.Compare a [.Eq] [b] pos) (eOp2 gEq Ea Eb) := de_cmp (op_eqD (by omega)) gEq_ok ha hb
theorem de_ne (hu : X.A.units + 65 < cLine) (ha : DE X W a Ea) (hb : DE X W b Eb) : DE X W (.Compare a [.NotEq] [b] pos) (eOp2 gNe Ea Eb) := de_cmp (op_neD (by omega)) gNe_ok ha hb
theorem de_in (hu : X.A.units + 65 < cLine) (ha : DE X W a Ea) (hb : DE X W b Eb) (hm : behindInMarks .In b = false := by with_unfolding_all rfl) : DE X W (.Compare a [.In] [b] pos) (eOp2 gIn Ea Eb) := de_cmp (op_inA hu) gIn_ok ha hb hm
theorem de_nin (hu : X.A.units + 65 < cLine) (ha : DE X W a Ea) (hb : DE X W b Eb) (hm : behindInMarks .NotIn b = false := by with_unfolding_all rfl) : DE X W (.Compare a [.NotIn] [b] pos) (eOp2 gNotIn Ea Eb) := de_cmp (op_notInA hu) gNotIn_ok ha hb hm
theorem de_is (ha : DE X W a Ea) (hb : DE X W b Eb) : DE X W (.Compare a [.Is] [b] pos) (eOp2 gIs Ea Eb) := de_cmp op_isP gIs_ok ha hb
theorem de_isn (ha : DE X W a Ea) (hb : DE X W b Eb) : DE X W (.Compare a [.IsNot] [b] pos) (eOp2 gIsNot Ea Eb) := de_cmp op_notP gIsNot_ok ha hb
abbrev DT (X : Cx) (W : WX) (e : Expr) (T : S → Res Bool) : Prop := PT X e (rdT X.K X.mg W T)
theorem dt_lt (ha : DE X W a Ea) (hb : DE X W b Eb) : DT X W (.Compare a [.Lt] [b] pos) (tTru isBool (eOp2 gLt Ea Eb)) := dt_cmp op_lt gB0_ok ha hb
theorem dt_le (ha : DE X W a Ea) (hb : DE X W b Eb) : DT X W (.Compare a [.LtE] [b] pos) (tTru isBool (eOp2 gLe Ea Eb)) := dt_cmp op_le gB0_ok ha hb
theorem dt_gt (ha : DE X W a Ea) (hb : DE X W b Eb) : DT X W (.Compare a [.Gt] [b] pos) (tTru isBool (eOp2 gGt Ea Eb)) := dt_cmp op_gt gB0_ok ha hb
theorem dt_ge (ha : DE X W a Ea) (hb : DE X W b Eb) : DT X W (.Compare a [.GtE] [b] pos) (tTru isBool (eOp2 gGe Ea Eb)) := dt_cmp op_ge gB0_ok ha hb
theorem dt_eq (hu : X.A.units + 65 < cLine) (ha : DE X W a Ea) (hb : DE X W b Eb) : DT X W (.Compare a [.Eq] [b] pos) (tTru isBool (eOp2 gEq Ea Eb)) := dt_cmp (op_eqD (by omega)) gEq_ok ha hb
theorem dt_ne (hu : X.A.units + 65 < cLine) (ha : DE X W a Ea) (hb : DE X W b Eb) : DT X W (.Compare a [.NotEq] [b] pos) (tTru isBool (eOp2 gNe Ea Eb)) := dt_cmp (op_neD (by omega)) gNe_ok ha hb
theorem dt_in (hu : X.A.units + 65 < cLine) (ha : DE X W a Ea) (hb : DE X W b Eb) (hm : behindInMarks .In b = false := by with_unfolding_all rfl) : DT X W (.Compare a [.In] [b] pos) (tTru isBool (eOp2 gIn Ea Eb)) := dt_cmp (op_inA hu) gIn_ok ha hb hm
theorem dt_nin (hu : X.A.units + 65 < cLine) (ha : DE X W a Ea) (hb : DE X W b Eb) (hm : behindInMarks .NotIn b = false := by with_unfolding_all rfl) : DT X W (.Compare a [.NotIn] [b] pos) (tTru isBool (eOp2 gNotIn Ea Eb)) := dt_cmp (op_notInA hu) gNotIn_ok ha hb hm
theorem dt_is (ha : DE X W a Ea) (hb : DE X W b Eb) : DT X W (.Compare a [.Is] [b] pos) (tTru isBool (eOp2 gIs Ea Eb)) := dt_cmp op_isP gIs_ok ha hb
theorem dt_isn (ha : DE X W a Ea) (hb : DE X W b Eb) : DT X W (.Compare a [.IsNot] [b] pos) (tTru isBool (eOp2 gIsNot Ea Eb)) := dt_cmp op_notP gIsNot_ok ha hb
end
end FL

set_option Elab.async false
set_option linter.all false
set_option maxRecDepth 100000
set_option maxHeartbeats 1000000
/-! FL: giving a list away for good; displays, chains, slices. -/
namespace FL
open PySem PySem.Spec PyProof.Rows L2

/-! ### a list that is given away for good: from then on it never changes -/
theorem inv_frz {X : Cx} {pins : List (Addr × Obj)} {σ : L2.St} {H : Hp} {s : Shared} {a : Addr} {xs : List V} (I : Inv X pins σ H s) (h : H a = some (.lst xs)) : ∃ o, Inv X pins σ (upd H a (.frz o (.lst xs))) s := by
  obtain ⟨z, its, n, r, e⟩ := I.hok a _ h
  refine ⟨_, Inv.write (h' := s.heap) (t' := s.toks) (e := a) I (by rw [h]; trivial) (.inl rfl) (fun _ _ _ q => q) ⟨_, e⟩ (o := .frz _ (.lst xs)) ⟨e, z, its, n, r, e⟩⟩
theorem pe_frz {X : Cx} {e : Expr} {t : TE} (h : PE X e t) : PE X e (fun σv H Q => t σv H fun v H1 => Q v H1 ∨ ∃ a xs, v = .ref a ∧ H1 a = some (.lst xs) ∧ ∀ o, Q v (upd H1 a (.frz o (.lst xs)))) := by
  refine ⟨fun pins s σ H Q I q => ?_⟩
  refine thn (h.run pins s σ H _ I q) fun u s1 ⟨v, H1, I1, r, q1⟩ => ?_
  rcases q1 with q1 | ⟨a, xs, rfl, ea, q1⟩
  · exact ⟨v, H1, I1, r, q1⟩
  · obtain ⟨o, I2⟩ := inv_frz I1 ea
    exact ⟨.ref a, _, I2, r, q1 o⟩
@[simp] def toD : R → S → Res D
  | .d x, σ => .ok x σ
  | .own ds, σ => .ok (.list ds) σ
  | .slot i, σ => match σ[i]? with
    | some (some (.d x)) => .ok x σ
    | some (some (.l .own ds)) => .ok (.list ds) (σ.set i (some (.d (.list ds))))
    | _ => .bad
section
variable {K : PySem.W.Frag} {H H1 : Hp} {σ σ1 : S} {σv : L2.St}
theorem imm_frz {a : Addr} {vs : List V} {o : Obj} (e : H1 a = some (.lst vs)) : Imm H1 (upd H1 a (.frz o (.lst vs))) :=
  ⟨fun b xs q => by rw [upd_ne (fun z => by rw [z, e] at q; cases q)]; exact q, fun b o' u q => by rw [upd_ne (fun z => by rw [z, e] at q; cases q)]; exact q⟩
theorem At.set_ne {i j : Nat} {t : Tag} {a : Addr} {c : Option C} (h : At (σ.set i c) σv j t a) (n : j ≠ i) : At σ σv j t a := by
  obtain ⟨⟨ds, e⟩, ev⟩ := h
  rw [List.getElem?_set_ne (Ne.symm n)] at e
  exact ⟨⟨ds, e⟩, ev⟩
theorem get_set {i : Nat} {c : Option C} {k : Option C} (e : σ[i]? = some k) : (σ.set i c)[i]? = some c := by
  rw [List.getElem?_set_self]
  exact (List.getElem?_eq_some_iff.mp e).1
/-- the new list at a is given away -/
theorem Step.frz_own {a : Addr} {vs : List V} {ds : List D} {o : Obj} (s0 : SRel K H σ σv) (st : Step K H σ σv H1 σ1) (h0 : H a = none) (h1 : H1 a = some (.lst vs)) (h2 : FzAll K H1 ds vs) :
    Step K H σ σv (upd H1 a (.frz o (.lst vs))) σ1 ∧ Fz K (upd H1 a (.frz o (.lst vs))) (.list ds) (.ref a) := by
  have m := imm_frz (o := o) h1
  have na : ∀ b x, H b = some x → b ≠ a := fun b x e z => by rw [z, h0] at e; cases e
  refine ⟨⟨⟨fun b x e nb => ?_, fun b e => ?_⟩, ⟨st.rel.len, fun i c e => ?_, st.rel.apart⟩, st.sub⟩, a, vs, rfl, ⟨o, upd_same⟩, FzAll.mono m ds h2⟩
  · rw [upd_ne (na b x e)]
    exact st.keep.kept b x e nb
  · by_cases hb : b = a
    · rw [hb]; exact h0
    · rw [upd_ne hb] at e
      exact st.keep.gone b e
  · obtain ⟨v, e1, hc⟩ := st.rel.val i c e
    refine ⟨v, e1, CRel.mono m (fun t ds p ec ev vs' q => ?_) hc⟩
    subst ec ev
    have : At σ σv i t p := st.sub.at ⟨⟨ds, e⟩, e1⟩
    obtain ⟨vs0, _, q0, _⟩ := s0.at_lst this
    rw [upd_ne (na p _ q0)]
    exact q
/-- the list of slot i is given away -/
theorem Step.frz_slot {i : Nat} {a : Addr} {vs : List V} {ds : List D} {o : Obj} (st : Step K H σ σv H1 σ1) (e : σ1[i]? = some (some (.l .own ds))) (ev : σv[i]? = some (some (.ref a))) (h1 : H1 a = some (.lst vs)) (h2 : FzAll K H1 ds vs) :
    Step K H σ σv (upd H1 a (.frz o (.lst vs))) (σ1.set i (some (.d (.list ds)))) ∧ Fz K (upd H1 a (.frz o (.lst vs))) (.list ds) (.ref a) := by
  have m := imm_frz (o := o) h1
  have hat : At σ1 σv i .own a := ⟨⟨ds, e⟩, ev⟩
  have hfz : Fz K (upd H1 a (.frz o (.lst vs))) (.list ds) (.ref a) := ⟨a, vs, rfl, ⟨o, upd_same⟩, FzAll.mono m ds h2⟩
  have hown : OwnM σ σv a := ⟨i, .own, by decide, st.sub.at hat⟩
  refine ⟨⟨⟨fun b x eb nb => ?_, fun b eb => ?_⟩, ⟨by rw [List.length_set]; exact st.rel.len, fun j c ej => ?_, fun j k t u p hj hk => ?_⟩, st.sub.trans fun j => ?_⟩, hfz⟩
  · have hb : b ≠ a := fun z => nb (z ▸ hown)
    rw [upd_ne hb]
    exact st.keep.kept b x eb nb
  · by_cases hb : b = a
    · subst hb
      rw [upd_same] at eb; cases eb
    · rw [upd_ne hb] at eb
      exact st.keep.gone b eb
  · by_cases hj : j = i
    · subst hj
      rw [get_set e] at ej
      cases ej
      exact ⟨_, ev, hfz⟩
    · rw [List.getElem?_set_ne (Ne.symm hj)] at ej
      obtain ⟨v, e1, hc⟩ := st.rel.val j c ej
      refine ⟨v, e1, CRel.mono m (fun t ds' p ec ep vs' q => ?_) hc⟩
      subst ec ep
      have hp : p ≠ a := fun z => hj (st.rel.apart j i t .own a ⟨⟨ds', ej⟩, z ▸ e1⟩ hat)
      rw [upd_ne hp]
      exact q
  · have nj : ∀ j t p, At (σ1.set i (some (C.d (.list ds)))) σv j t p → j ≠ i := fun j t p ⟨⟨ds', q⟩, _⟩ z => by
      subst z
      rw [get_set e] at q
      cases q
    exact st.rel.apart j k t u p (hj.set_ne (nj _ _ _ hj)) (hk.set_ne (nj _ _ _ hk))
  · by_cases hj : j = i
    · subst hj
      rw [e, get_set e]
      exact .inr ⟨_, rfl⟩
    · rw [List.getElem?_set_ne (Ne.symm hj)]
      exact SubC.refl _
end
@[simp] def eFrz (E : S → Res R) (σ : S) : Res R := (E σ).bind fun r σ1 => (toD r σ1).bind fun d σ2 => .ok (.d d) σ2
/-- what toD says, at the heap -/
theorem toD_frz {K : PySem.W.Frag} {mg : Str → Option Value} {W : WX} {H H1 : Hp} {σ σ1 : S} {σv : L2.St} {r : R} {v : V} {Q : VK} (s : SRel K H σ σv) (st : Step K H σ σv H1 σ1) (rr : RRel K H H1 σ1 σv r v)
    (h : Post K mg W (RRel K) H σ σv Q ((toD r σ1).bind fun d σ2 => .ok (.d d) σ2)) : Q v H1 ∨ ∃ a xs, v = .ref a ∧ H1 a = some (.lst xs) ∧ ∀ o, Q v (upd H1 a (.frz o (.lst xs))) := by
  cases r with
  | d x => exact .inl (h v H1 st rr)
  | own ds =>
    obtain ⟨a, vs, rfl, h0, h1, h2⟩ := rr
    refine .inr ⟨a, vs, rfl, h1, fun o => ?_⟩
    obtain ⟨st', fz⟩ := st.frz_own (o := o) s h0 h1 h2
    exact h _ _ st' fz
  | slot i =>
    obtain ⟨e1, c, ec⟩ := rr
    obtain ⟨v', e2, hc⟩ := st.rel.val i c ec
    rw [e1] at e2
    have ev : v = v' := by injection e2 with q; injection q
    subst ev
    simp only [toD, ec] at h
    cases c with
    | d x => exact .inl (h v H1 st hc)
    | l t ds =>
      cases t with
      | own =>
        obtain ⟨a, vs, rfl, h1, h2⟩ := hc
        refine .inr ⟨a, vs, rfl, h1, fun o => ?_⟩
        obtain ⟨st', fz⟩ := st.frz_slot (o := o) ec e1 h1 h2
        exact h _ _ st' fz
      | par => exact False.elim h
      | lck => exact False.elim h
section
variable {X : Cx} {W : WX} {a b c e : Expr} {Ea Eb Ec E : S → Res R} {pos : Pos}
theorem de_frz (he : DE X W e E) : DE X W e (eFrz E) := by
  refine pe_weak (pe_frz he) fun σv H Q ⟨σ, s, h⟩ => ⟨σ, s, ?_⟩
  unfold eFrz at h
  cases ea : E σ with
  | bad => rw [ea] at h; exact False.elim h
  | exc c σ1 => rw [ea] at h; exact h
  | ok r σ1 =>
    rw [ea] at h
    intro v H1 st rr
    exact toD_frz s st rr h
/-- a slot's list alone is given away; a new one stays new -/
@[simp] def eMov (E : S → Res R) (σ : S) : Res R := (E σ).bind fun r σ1 => match r with
  | .own ds => .ok (.own ds) σ1
  | r => (toD r σ1).bind fun d σ2 => .ok (.d d) σ2
theorem de_mov (he : DE X W e E) : DE X W e (eMov E) := by
  refine pe_weak (pe_frz he) fun σv H Q ⟨σ, s, h⟩ => ⟨σ, s, ?_⟩
  unfold eMov at h
  cases ea : E σ with
  | bad => rw [ea] at h; exact False.elim h
  | exc c σ1 => rw [ea] at h; exact h
  | ok r σ1 =>
    rw [ea] at h
    intro v H1 st rr
    cases r with
    | own ds => exact .inl (h v H1 st rr)
    | d x => exact toD_frz s st rr h
    | slot i => exact toD_frz s st rr h

/-! ### rows of data -/
@[simp] def aNil (σ : S) : Res (List D) := .ok [] σ
@[simp] def aCons (E : S → Res R) (A : S → Res (List D)) (σ : S) : Res (List D) := (E σ).bind fun r σ1 => (toD r σ1).bind fun d σ2 => (A σ2).bind fun ds σ3 => .ok (d :: ds) σ3
variable {es : List Expr} {A : S → Res (List D)}
abbrev DA (X : Cx) (W : WX) (es : List Expr) (A : S → Res (List D)) : Prop := PA X es (rdA X.K X.mg W A)
theorem da_nil : DA X W [] aNil := pa_weak pa_nil fun σv H Q ⟨σ, s, h⟩ => h [] H (Step.refl s) FzAll.nil
theorem Res.bind_ok {α β : Type} {x : Res α} {f : α → S → Res β} {b : β} {σ : S} (h : x.bind f = .ok b σ) : ∃ a σ1, x = .ok a σ1 ∧ f a σ1 = .ok b σ := by
  cases x with
  | ok a σ1 => exact ⟨a, σ1, rfl, h⟩
  | exc c σ1 => cases h
  | bad => cases h
theorem toD_cases (r : R) (σ : S) : (∃ d σ1, toD r σ = .ok d σ1) ∨ toD r σ = .bad := by
  cases r with
  | d x => exact .inl ⟨_, _, rfl⟩
  | own ds => exact .inl ⟨_, _, rfl⟩
  | slot i =>
    simp only [toD]
    split
    · exact .inl ⟨_, _, rfl⟩
    · exact .inl ⟨_, _, rfl⟩
    · exact .inr rfl
theorem da_cons (ha : DE X W e E) (hr : DA X W es A) (hs : starEach (e :: es) X.env = (false, eval e X.env) :: starEach es X.env := by rfl) : DA X W (e :: es) (aCons E A) := by
  refine pa_weak (pa_cons (de_frz ha) hr hs) fun σv H Q ⟨σ, s, h⟩ => ⟨σ, s, ?_⟩
  unfold aCons at h
  unfold eFrz
  cases ea : E σ with
  | bad => rw [ea] at h; exact False.elim h
  | exc c σ1 => rw [ea] at h; exact h
  | ok r σ1 =>
    rw [ea] at h
    simp only [Res.bind] at h ⊢
    rcases toD_cases r σ1 with ⟨d, σ2, ed⟩ | ed
    · rw [ed] at h ⊢
      simp only at h ⊢
      intro v H1 st rr
      refine ⟨σ2, st.rel, ?_⟩
      cases ee : A σ2 with
      | bad => rw [ee] at h; exact False.elim h
      | exc c σ3 => rw [ee] at h; exact Post.exc_later h st
      | ok ds σ3 =>
        rw [ee] at h
        intro vs H2 st2 rr2
        exact h _ _ (st.trans st2) (FzAll.cons (Fz.mono (st2.imm st.rel) d rr) rr2)
    · rw [ed] at h
      exact False.elim h
@[simp] def eTup (A : S → Res (List D)) (σ : S) : Res R := (A σ).bind fun ds σ1 => if ds.length ≤ sizeLine then .ok (.d (.tuple ds)) σ1 else .bad
@[simp] def eLst (A : S → Res (List D)) (σ : S) : Res R := (A σ).bind fun ds σ1 => if ds.length ≤ sizeLine then .ok (.own ds) σ1 else .bad
theorem de_tup {x1 : Nat} (h : DA X W es A) : DE X W (.Tuple es x1 pos) (eTup A) := by
  refine pe_weak (pe_tup h) fun σv H Q ⟨σ, s, h⟩ => ⟨σ, s, ?_⟩
  unfold eTup at h
  cases ea : A σ with
  | bad => rw [ea] at h; exact False.elim h
  | exc c σ1 => rw [ea] at h; exact h
  | ok ds σ1 =>
    rw [ea] at h
    simp only [Res.bind] at h
    split at h
    · intro vs H1 st rr
      refine ⟨by rw [← rr.length]; assumption, fun p n => ?_⟩
      have nr := new_tup n rr
      exact h _ _ (st.trans (Step.same st.rel nr.same)) (NewR.rrel st nr)
    · exact False.elim h
theorem de_lst (h : DA X W es A) : DE X W (.List es pos) (eLst A) := by
  refine pe_weak (pe_lst h) fun σv H Q ⟨σ, s, h⟩ => ⟨σ, s, ?_⟩
  unfold eLst at h
  cases ea : A σ with
  | bad => rw [ea] at h; exact False.elim h
  | exc c σ1 => rw [ea] at h; exact h
  | ok ds σ1 =>
    rw [ea] at h
    simp only [Res.bind] at h
    split at h
    · intro vs H1 st rr
      refine ⟨by rw [← rr.length]; assumption, fun p n => ?_⟩
      have nr := new_lst n rr
      exact h _ _ (st.trans (Step.same st.rel nr.same)) (NewR.rrel st nr)
    · exact False.elim h

/-! ### a <= b <= c -/
@[simp] def eChain (g g' : D → D → Option R) (Ea Eb Ec : S → Res R) (σ : S) : Res R := (Ea σ).bind fun ra σ1 => (Eb σ1).bind fun rb σ2 => match view σ2 ra, view σ2 rb with
  | some a, some b => (match g a b with
    | some (.d (.bool k)) => if k = true then (Ec σ2).bind fun rc σ3 => (match view σ3 rb, view σ3 rc with
        | some b, some c => (match g' b c with
          | some r => .ok r σ3
          | none => .bad)
        | _, _ => .bad) else .ok (.d (.bool false)) σ2
    | _ => .bad)
  | _, _ => .bad
theorem post_chain {K : PySem.W.Frag} {mg : Str → Option Value} {r r' : R2} {g g' : D → D → Option R} (hg : Op2 K r g) (hg' : Op2 K r' g') {σv : L2.St} {H : Hp} {Q : VK} (h : rd K mg W (eChain g g' Ea Eb Ec) σv H Q) :
    tChain r r' (rd K mg W Ea) (rd K mg W Eb) (rd K mg W Ec) σv H Q := by
  obtain ⟨σ, s, h⟩ := h
  refine ⟨σ, s, ?_⟩
  unfold eChain at h
  cases ea : Ea σ with
  | bad => rw [ea] at h; exact False.elim h
  | exc c σ1 => rw [ea] at h; exact h
  | ok ra σ1 =>
    rw [ea] at h
    intro va H1 st1 rr1
    refine ⟨σ1, st1.rel, ?_⟩
    simp only [Res.bind] at h
    cases eb : Eb σ1 with
    | bad => rw [eb] at h; exact False.elim h
    | exc c σ2 => rw [eb] at h; exact Post.exc_later h st1
    | ok rb σ2 =>
      rw [eb] at h
      intro vb H2 st2 rr2
      have st := st1.trans st2
      have rr1 := rr1.later s st1 st2
      simp only at h
      split at h
      · rename_i x y ex ey
        split at h
        · rename_i k eg
          refine hg x y va vb H2 _ _ (rr1.view st.rel ex) (rr2.view st.rel ey) eg fun v' H' nr => ⟨k, nr.2, ?_⟩
          have st3 := st.trans (Step.same st.rel nr.same)
          cases k with
          | false => exact h _ _ st3 rfl
          | true =>
            refine ⟨σ2, st3.rel, ?_⟩
            have h : Post K mg W (RRel K) H σ σv Q ((Ec σ2).bind _) := h
            cases ec : Ec σ2 with
            | bad => rw [ec] at h; exact False.elim h
            | exc c σ3 => rw [ec] at h; exact Post.exc_later h st3
            | ok rc σ3 =>
              rw [ec] at h
              intro vc H3 st4 rr4
              have st5 := st3.trans st4
              have rr2' := (rr2.later (st1.rel) st2 (Step.same st2.rel nr.same)).later st1.rel (st2.trans (Step.same st2.rel nr.same)) st4
              simp only [Res.bind] at h
              split at h
              · rename_i y' z ey' ez
                split at h
                · rename_i res eg'
                  refine hg' y' z vb vc H3 Q res (rr2'.view st4.rel ey') (rr4.view st4.rel ez) eg' fun v'' H'' nr' => ?_
                  exact h v'' H'' (st5.trans (Step.same st4.rel nr'.same)) (NewR.rrel st5 nr')
                · exact False.elim h
              · exact False.elim h
        · exact False.elim h
      · exact False.elim h
theorem de_chain {op op' : CmpOp} {r r' : R2} {g g' : D → D → Option R} (ho : OpR X (compareOp op) r) (ho' : OpR X (compareOp op') r') (hg : Op2 X.K r g) (hg' : Op2 X.K r' g') (ha : DE X W a Ea) (hb : DE X W b Eb) (hc : DE X W c Ec)
    (hm : lastMarks [op, op'] [b, c] = false := by with_unfolding_all rfl) : DE X W (.Compare a [op, op'] [b, c] pos) (eChain g g' Ea Eb Ec) := pe_weak (pe_chain ho ho' ha hb hc hm) fun _ _ _ h => post_chain hg hg' h
theorem dt_chain {op op' : CmpOp} {r r' : R2} {g g' : D → D → Option R} (ho : OpR X (compareOp op) r) (ho' : OpR X (compareOp op') r') (hg : Op2 X.K r g) (hg' : Op2 X.K r' g') (ha : DE X W a Ea) (hb : DE X W b Eb) (hc : DE X W c Ec)
    (hm : lastMarks [op, op'] [b, c] = false := by with_unfolding_all rfl) : DT X W (.Compare a [op, op'] [b, c] pos) (tTru isBool (eChain g g' Ea Eb Ec)) :=
  pt_weak (pt_chain ho ho' ha hb hc hm) fun σv H Q h => post_chain hg hg' (post_tru (r := fun x H' Q => ∃ k, x = .bl k ∧ Q k H') (fun d v H k Q hv e q => ⟨k, isBool_ok hv e, q⟩) h)

/-! ### slices -/
@[simp] def oNo (σ : S) : Res (Option Int) := .ok none σ
@[simp] def oAt (E : S → Res R) (σ : S) : Res (Option Int) := (E σ).bind fun r σ1 => match view σ1 r with
  | some (.int i) => .ok (some i) σ1
  | _ => .bad
def rdO (K : PySem.W.Frag) (mg : Str → Option Value) (W : WX) (O : S → Res (Option Int)) : TO := fun σv H Q => ∃ σ, SRel K H σ σv ∧ Post K mg W (fun _ _ _ _ a b => a = b) H σ σv Q (O σ)
theorem po_weak {X : Cx} {e : Option Expr} {t t' : TO} (h : PO X e t) (w : ∀ σv H Q, t' σv H Q → t σv H Q) : PO X e t' := ⟨fun pins s σ H Q I q => h.run pins s σ H Q I (w σ H Q q)⟩
theorem do_no : PO X none (rdO X.K X.mg W oNo) := po_weak po_none fun σv H Q ⟨σ, s, h⟩ => h none H (Step.refl s) rfl
theorem do_at (he : DE X W e E) : PO X (some e) (rdO X.K X.mg W (oAt E)) := by
  refine po_weak (po_some he) fun σv H Q ⟨σ, s, h⟩ => ⟨σ, s, ?_⟩
  unfold oAt at h
  cases ea : E σ with
  | bad => rw [ea] at h; exact False.elim h
  | exc c σ1 => rw [ea] at h; exact h
  | ok r σ1 =>
    rw [ea] at h
    intro v H1 st rr
    simp only [Res.bind] at h
    split at h
    · rename_i i ei
      exact ⟨i, view_int (rr.view st.rel ei), h _ _ st rfl⟩
    · exact False.elim h
@[simp] def eSl (E : S → Res R) (L U : S → Res (Option Int)) (σ : S) : Res R := (E σ).bind fun r σ1 => (L σ1).bind fun lo σ2 => (U σ2).bind fun hi σ3 => match view σ3 r with
  | some d => (match gSl d lo hi with
    | some r => .ok r σ3
    | none => .bad)
  | none => .bad
theorem de_slice {lo hi : Option Expr} {p2 : Pos} {L U : S → Res (Option Int)} (he : DE X W e E) (hl : PO X lo (rdO X.K X.mg W L)) (hu : PO X hi (rdO X.K X.mg W U)) : DE X W (.Subscript e (.Slice lo hi none p2) pos) (eSl E L U) := by
  refine pe_weak (pe_slice sl_D he hl hu) fun σv H Q ⟨σ, s, h⟩ => ⟨σ, s, ?_⟩
  unfold eSl at h
  cases ea : E σ with
  | bad => rw [ea] at h; exact False.elim h
  | exc c σ1 => rw [ea] at h; exact h
  | ok r σ1 =>
    rw [ea] at h
    intro v H1 st1 rr1
    simp only [Res.bind] at h
    refine ⟨σ1, st1.rel, ?_⟩
    cases eb : L σ1 with
    | bad => rw [eb] at h; exact False.elim h
    | exc c σ2 => rw [eb] at h; exact Post.exc_later h st1
    | ok lo σ2 =>
      rw [eb] at h
      intro lo' H2 st2 e2
      subst e2
      have st := st1.trans st2
      simp only at h
      refine ⟨σ2, st.rel, ?_⟩
      cases ec : U σ2 with
      | bad => rw [ec] at h; exact False.elim h
      | exc c σ3 => rw [ec] at h; exact Post.exc_later h st
      | ok hi σ3 =>
        rw [ec] at h
        intro hi' H3 st3 e3
        subst e3
        have st4 := st.trans st3
        have rr := (rr1.later s st1 st2).later s st st3
        simp only at h
        split at h
        · rename_i d ed
          split at h
          · rename_i res eg
            refine gSl_ok (rr.view st4.rel ed) eg fun v' H' nr => ?_
            exact h v' H' (st4.trans (Step.same st4.rel nr.same)) (NewR.rrel st4 nr)
          · exact False.elim h
        · exact False.elim h
end
end FL

set_option Elab.async false
set_option linter.all false
set_option maxRecDepth 100000
set_option maxHeartbeats 2000000
/-! FL: built-in functions. -/
namespace FLx
open PySem PySem.Spec PyProof.Rows RT
/-! ### list(reversed(list)) -/
section
variable {prog : Program} {w : World} {A : Around} {E : Value → Shared → Prop} {s : Shared} {R : Result → Shared → Prop}
theorem extend_rev {it l : Addr} {items : Array Value} (hh : A.handled = none) (hit : s.heap.IsRevIter it l ((items.size : Int) - 1)) (hl : s.heap.IsList l items) (hne : l ≠ it) (hn : items.size ≤ sizeLine)
    (S : Addr) (res : Value) (c₀ : Nat) (hSi : S ≠ it) (hSl : S ≠ l) (hS : s.heap.get? S = some { cls := .type "list", data := .seq #[] c₀ })
    (hR : ∀ h' tk acc' c', (∀ b o, b ≠ S → b ≠ it → s.heap.get? b = some o → h'.get? b = some o) → h'.get? S = some { cls := .type "list", dict := none, data := .seq acc' c', slots := #[] } →
      ItemsOf (fun i v => items[items.size - 1 - i]? = some v) acc' items.size → R (.ok (.ret res)) { s with heap := h', toks := tk }) :
    wpAny (model prog w) A.in1 (Builtin.List.listExtendWith (.ref S) (.ref it) res)
      (fun fin s' => match fin with | .done f => R (.ok f) s' | .again c' => c'.quiet = true ∧ codeAny (model prog w) A c' R s') (fun e s' => R (.error e) s') s := by
  have W := (Walks.listRev (prog := prog) (w := w) (A := A.in1) hh it l hne items).toS
  have hSf : S ∉ [it, l] := by simp only [List.mem_cons, List.not_mem_nil, or_false, not_or]; exact ⟨hSi, hSl⟩
  have hT : s.TypeIs (.ref it) "list_reverseiterator" := Heap.IsRevIter.typeIs hit
  have h1 : Builtin.List.listSameRef (.ref S) (.ref it) = false := by simp [Builtin.List.listSameRef, hSi]
  unfold Builtin.List.listExtendWith
  refine wpAny_bind (wpAny_typeOf hT ?_)
  rw [if_neg (by rw [h1]; decide)]
  refine wpAny_bind (wpAny_pyIter_revIter hit ?_)
  refine wpAny_bind (wpAny_holding ?_)
  unfold Builtin.List.listLengthHint
  refine wpAny_bind (wpAny_specialOf hT nolen_lri ?_)
  show wpAny _ A.in1 (specialOf (Value.ref it) (Str.ofString "__length_hint__") >>= _) _ _ _
  refine wpAny_bind (wpAny_specialOf hT hint_lri ?_)
  generalize hid : ("list_reverseiterator.__length_hint__" : String) = id0
  wp_delta
  rw [show splitId id0 = some ("list_reverseiterator", "__length_hint__") from by subst hid; decide +kernel]
  subst hid
  refine wpAny_bind (wpAny_isInstance (b := true) hT (by rw [isSubtype_type]; kernel_rfl) ?_)
  refine wpAny_pure ?_
  rw [if_neg (by decide)]
  have e0 : ((items.size : Nat) : Int) - 1 - ((0 : Nat) : Int) = (items.size : Int) - 1 := by omega
  refine wpAny_pure ⟨plainId_quiet F.plain_extend_loop _, codeAny_extend_loopS W hn _ hSf _ items.size 0 _ _ _ rfl (Nat.zero_le _) ⟨Nat.zero_le _, by rw [e0]; exact hit, hl⟩ hS (ItemsOf.nil _) fun s' acc' c' hm hS' hacc => ?_⟩
  rw [Moved.eq_with hm]
  refine hR s'.heap s'.toks acc' c' (fun b o hb hb2 e => hm.heap b o (fun hmem => ?_) e) hS' hacc
  rcases List.mem_cons.mp hmem with e' | hmem
  · exact hb e'
  · exact hb2 (List.mem_singleton.mp hmem)
theorem init_rev {it l : Addr} {items : Array Value} (hh : A.handled = none) (hit : s.heap.IsRevIter it l ((items.size : Int) - 1)) (hl : s.heap.IsList l items) (hne : l ≠ it) (hn : items.size ≤ sizeLine)
    (S : Addr) (hSi : S ≠ it) (hSl : S ≠ l) (hS : s.heap.get? S = some { cls := .type "list", data := .seq #[] })
    (hR : ∀ h' tk acc' c', (∀ b o, b ≠ S → b ≠ it → s.heap.get? b = some o → h'.get? b = some o) → h'.get? S = some { cls := .type "list", dict := none, data := .seq acc' c', slots := #[] } →
      ItemsOf (fun i v => items[items.size - 1 - i]? = some v) acc' items.size → R (.ok (.ret .none)) { s with heap := h', toks := tk }) :
    wpAny (model prog w) A.in1 (Builtin.«list.__init__» ⟨[.ref S, .ref it], []⟩)
      (fun fin s' => match fin with | .done f => R (.ok f) s' | .again c' => c'.quiet = true ∧ codeAny (model prog w) A c' R s') (fun e s' => R (.error e) s') s := by
  show wpAny _ _ (do let old ← Builtin.List.listItems (.ref S); Builtin.List.listUpdate (.ref S) (fun _ => #[]); letGo old.toList.reverse; Builtin.List.listExtendWith (.ref S) (.ref it) .none) _ _ s
  refine wpAny_bind ?_
  unfold Builtin.List.listItems
  refine wpAny_bind (wpAny_seqItems hS rfl (wpAny_pure ?_))
  show wpAny _ _ (updateSeq S (fun _ => #[]) >>= fun _ => letGo (#[] : Array Value).toList.reverse >>= fun _ => Builtin.List.listExtendWith (.ref S) (.ref it) .none) _ _ s
  refine wpAny_bind (wpAny_updateSeq hS rfl ?_)
  have hS₂ := Heap.get?_update_self (Obj.mapSeq (fun _ => (#[] : Array Value))) hS rfl
  have oth : ∀ b o, b ≠ S → s.heap.get? b = some o → (s.heap.update S (Obj.mapSeq (fun _ => (#[] : Array Value)))).get? b = some o :=
    fun b o hb e => (Heap.get?_update_other _ _ (Ne.symm hb)).trans e
  refine wpAny_bind (wpAny_letGo ?_)
  have hit' : (s.heap.update S (Obj.mapSeq (fun _ => (#[] : Array Value)))).IsRevIter it l ((items.size : Int) - 1) := hit.at fun o e => oth it o (Ne.symm hSi) e
  have hl' : (s.heap.update S (Obj.mapSeq (fun _ => (#[] : Array Value)))).IsList l items := hl.at fun o e => oth l o (Ne.symm hSl) e
  refine extend_rev hh hit' hl' hne hn S .none _ hSi hSl hS₂ fun h' tk acc' c' hk hS' hacc => ?_
  exact hR h' tk acc' c' (fun b o hb hb2 e => hk b o hb hb2 (oth b o hb e)) hS' hacc
theorem call_list_rev {Q : Value → Shared → Prop} {it l : Addr} {items : Array Value} (hh : A.handled = none) (hit : s.heap.IsRevIter it l ((items.size : Int) - 1)) (hl : s.heap.IsList l items) (hne : l ≠ it) (hn : items.size ≤ sizeLine)
    (hQ : ∀ h' tk acc' c', (∀ b o, b ≠ it → s.heap.get? b = some o → h'.get? b = some o) →
      h'.get? s.heap.objs.size = some { cls := .type "list", dict := none, data := .seq acc' c', slots := #[] } → ItemsOf (fun i v => items[items.size - 1 - i]? = some v) acc' items.size → Q (.ref s.heap.objs.size) { s with heap := h', toks := tk }) :
    wpAny (model prog w) A (call (.type "list") [.ref it]) Q E s := by
  refine callType_codes (Q₁ := fun obj s₁ => obj = .ref s.heap.objs.size ∧ s₁ = { s with heap := s.heap.push { cls := .type "list", data := .seq #[] } }) F.called_list (F.typeCall_list_1 _) F.entry_list_init
    (code_list_new _ ⟨rfl, rfl⟩) fun obj s₁ h₁ => ?_
  obtain ⟨rfl, rfl⟩ := h₁
  have hS : (s.heap.push { cls := .type "list", data := .seq #[] }).get? s.heap.objs.size = some { cls := .type "list", data := .seq #[] } := Heap.get?_push_size _ rfl
  obtain ⟨oi, hoi, _⟩ := id hit
  obtain ⟨ol, hol, _⟩ := id hl
  refine ⟨⟨_, hS, rfl⟩, F.args_list_init_2 _ _, init_rev (A := A.in1) hh (hit.at fun o e => Heap.get?_push_of_some _ e) (hl.push _) hne hn _ (Nat.ne_of_gt (Heap.lt_size hoi)) (Nat.ne_of_gt (Heap.lt_size hol)) hS fun h' tk acc' c' hk hS' hacc => ?_⟩
  exact ⟨rfl, hQ h' tk acc' c' (fun b o hb e => hk b o (Nat.ne_of_lt (Heap.lt_size e)) hb (Heap.get?_push_of_some _ e)) hS' hacc⟩
end
theorem rev_items {items acc : Array Value} (h : ItemsOf (fun i v => items[items.size - 1 - i]? = some v) acc items.size) : acc = items.toList.reverse.toArray := by
  obtain ⟨h1, h2⟩ := h
  apply Array.ext
  · simp [h1]
  · intro i hi1 hi2
    have hi : i < items.size := by omega
    have e : items[items.size - 1 - i]? = some acc[i] := h2 i acc[i] (by simp [hi1])
    have e2 : items[items.size - 1 - i]'(by omega) = acc[i] := by
      have := Array.getElem?_eq_getElem (xs := items) (i := items.size - 1 - i) (by omega)
      rw [this] at e
      exact Option.some.inj e
    simp [← e2]
end FLx

namespace FL
open PySem PySem.Spec PyProof.Rows L2
section
variable {X : Cx} {W : WX} {a b c e : Expr} {Ea Eb Ec E : S → Res R} {pos p p2 pos2 : Pos}
/-! ### calls of built-ins -/
theorem de_callB1 {x : Str} {id : String} {r : List V → Hp → VK → Prop} {g : D → Option R} (hc : CallR X (.builtin id) r) (hg1 : Op1 X.K (fun v H Q => r [v] H Q) g) (hg : Gl X x) (hm : X.mg x = none) (hv : bootBuiltins x = some (.builtin id)) (ha : DE X W a Ea)
    (hn : x ≠ "__name__" := by decide) (hdb : (x == ("__debug__" : Str)) = false := by decide) (he : starEach (a :: []) X.env = (false, eval a X.env) :: starEach [] X.env := by rfl) : DE X W (.Call (.Name x p) [a] [] pos) (eOp1 g Ea) :=
  pe_weak (pe_callB hc hg hm hv (pa_cons ha pa_nil he) hn hdb he) fun _ _ _ h => post_op1 hg1 h
theorem de_callB2 {x : Str} {id : String} {r : List V → Hp → VK → Prop} {g : D → D → Option R} (hc : CallR X (.builtin id) r) (hg1 : Op2 X.K (fun v w H Q => r [v, w] H Q) g) (hg : Gl X x) (hm : X.mg x = none) (hv : bootBuiltins x = some (.builtin id)) (ha : DE X W a Ea) (hb : DE X W b Eb)
    (hn : x ≠ "__name__" := by decide) (hdb : (x == ("__debug__" : Str)) = false := by decide) (he : starEach (a :: [b]) X.env = (false, eval a X.env) :: starEach [b] X.env := by rfl) (he2 : starEach (b :: []) X.env = (false, eval b X.env) :: starEach [] X.env := by rfl)
    (hpl : (backTo pos (starEach [b] X.env)).any (·.1) = false := by rfl) : DE X W (.Call (.Name x p) [a, b] [] pos) (eOp2 g Ea Eb) :=
  pe_weak (pe_callB hc hg hm hv (pa_cons ha (pa_cons hb pa_nil he2) he) hn hdb he hpl) fun _ _ _ h => post_op2 hg1 h
theorem de_callT1 {x : Str} {T : String} {r : List V → Hp → VK → Prop} {g : D → Option R} (hc : CallR X (.type T) r) (hg1 : Op1 X.K (fun v H Q => r [v] H Q) g) (hg : Gl X x) (hm : X.mg x = none) (hv : bootBuiltins x = some (.type T)) (ha : DE X W a Ea)
    (hn : x ≠ "__name__" := by decide) (hdb : (x == ("__debug__" : Str)) = false := by decide) (he : starEach (a :: []) X.env = (false, eval a X.env) :: starEach [] X.env := by rfl) : DE X W (.Call (.Name x p) [a] [] pos) (eOp1 g Ea) :=
  pe_weak (pe_callTy hc hg hm hv (pa_cons ha pa_nil he) hn hdb he) fun _ _ _ h => post_op1 hg1 h
end
@[simp] def gLen : D → Option R
  | .list ds => some (.d (.int ds.length))
  | .tuple ds => some (.d (.int ds.length))
  | .str z => if z.length ≤ sizeLine then some (.d (.int z.length)) else none
  | _ => none
@[simp] def gAbs : D → Option R
  | .int i => some (.d (.int (if i < 0 then -i else i)))
  | _ => none
@[simp] def gToInt : D → Option R
  | .int i => some (.d (.int i))
  | .bool k => some (.d (.int (if k then 1 else 0)))
  | _ => none
@[simp] def gTuple : D → Option R
  | .list ds => some (.d (.tuple ds))
  | .tuple ds => some (.d (.tuple ds))
  | _ => none
@[simp] def gList : D → Option R
  | .list ds => some (.own ds)
  | .tuple ds => some (.own ds)
  | _ => none
@[simp] def gMax2 : D → D → Option R
  | .int i, .int j => some (.d (.int (if j > i then j else i)))
  | _, _ => none
@[simp] def gMin2 : D → D → Option R
  | .int i, .int j => some (.d (.int (if j < i then j else i)))
  | _, _ => none
@[simp] def gDivmod : D → D → Option R
  | .int i, .int j => if divOk i j = true then some (.d (.tuple [.int (i / j), .int (i % j)])) else none
  | _, _ => none
@[simp] def gListRev : D → Option R
  | .list ds => some (.own ds.reverse)
  | _ => none
/-- the ints of data -/
def intsOf : List D → Option (List Int)
  | [] => some []
  | .int i :: r => (intsOf r).map fun l => i :: l
  | _ :: _ => none
theorem intsOf_eq : ∀ {ds : List D} {ns : List Int}, intsOf ds = some ns → ds = ns.map PyData.int
  | [], ns, h => by cases h; rfl
  | .int i :: r, ns, h => by
    obtain ⟨l, e, rfl⟩ := Option.map_eq_some_iff.mp h
    rw [intsOf_eq e]; rfl
  | .none :: _, _, h => by cases h
  | .bool _ :: _, _, h => by cases h
  | .str _ :: _, _, h => by cases h
  | .list _ :: _, _, h => by cases h
  | .tuple _ :: _, _, h => by cases h
  | .dict _ :: _, _, h => by cases h
theorem intsOf_map (ns : List Int) : intsOf (ns.map PyData.int) = some ns := by
  induction ns with
  | nil => rfl
  | cons n ns ih => show (intsOf (ns.map PyData.int)).map _ = _; rw [ih]; rfl
theorem FzAll.ints {K : PySem.W.Frag} {H : Hp} : ∀ {ns : List Int} {vs : List V}, FzAll K H (ns.map PyData.int) vs → vs = ns.map V.int
  | [], _, h => h
  | n :: ns, _, h => by
    obtain ⟨x, r, e, h1, h2⟩ := h
    rw [e, show x = V.int n from h1, FzAll.ints h2]; rfl
def maxL : List Int → Option Int
  | [] => none
  | n :: ns => some (ns.foldl max n)
def minL : List Int → Option Int
  | [] => none
  | n :: ns => some (ns.foldl min n)
theorem foldl_max : ∀ (ns : List Int) (n m : Int), (m = n ∨ m ∈ ns) → n ≤ m → (∀ y ∈ ns, y ≤ m) → ns.foldl max n = m
  | [], n, m, h, h1, _ => by
    rcases h with h | h
    · exact h.symm
    · cases h
  | k :: ns, n, m, h, h1, h2 => by
    have hk := h2 k List.mem_cons_self
    refine foldl_max ns (max n k) m ?_ (by omega) fun y hy => h2 y (List.mem_cons_of_mem _ hy)
    rcases h with h | h
    · left; omega
    · rcases List.mem_cons.mp h with h | h
      · left; omega
      · exact .inr h
theorem foldl_min : ∀ (ns : List Int) (n m : Int), (m = n ∨ m ∈ ns) → m ≤ n → (∀ y ∈ ns, m ≤ y) → ns.foldl min n = m
  | [], n, m, h, h1, _ => by
    rcases h with h | h
    · exact h.symm
    · cases h
  | k :: ns, n, m, h, h1, h2 => by
    have hk := h2 k List.mem_cons_self
    refine foldl_min ns (min n k) m ?_ (by omega) fun y hy => h2 y (List.mem_cons_of_mem _ hy)
    rcases h with h | h
    · left; omega
    · rcases List.mem_cons.mp h with h | h
      · left; omega
      · exact .inr h
def gSum : D → Option R
  | .list ds => (intsOf ds).map fun ns => .d (.int ns.sum)
  | _ => none
def gMax : D → Option R
  | .list ds => (intsOf ds).bind fun ns => (maxL ns).map fun m => .d (.int m)
  | _ => none
def gMin : D → Option R
  | .list ds => (intsOf ds).bind fun ns => (minL ns).map fun m => .d (.int m)
  | _ => none
section
variable {X : Cx}
theorem gLen_ok {K : PySem.W.Frag} : Op1 K (fun v H Q => (∃ x n, [v] = [x] ∧ LenV K x H n ∧ Q (.int n) H)) gLen := by
  intro a va H Q res ha e q
  unfold gLen at e
  split at e
  · cases e
    obtain ⟨p, xs, rfl, h1, h2⟩ := view_lst ha
    exact ⟨_, _, rfl, .inl ⟨xs, .inl h1, h2.length⟩, q _ _ new_int⟩
  · cases e
    obtain ⟨p, xs, rfl, h1, h2⟩ := view_tup ha
    exact ⟨_, _, rfl, .inr ⟨xs, h1, h2.length⟩, q _ _ new_int⟩
  · obtain ⟨hc, e⟩ := if_some e
    subst e
    rw [view_str ha]
    exact ⟨_, _, rfl, ⟨hc, rfl⟩, q _ _ new_int⟩
  · cases e
theorem gAbs_ok {K : PySem.W.Frag} : Op1 K (fun v H Q => ∃ i, [v] = [V.int i] ∧ Q (.int (if i < 0 then -i else i)) H) gAbs := by
  intro a va H Q res ha e q
  unfold gAbs at e
  split at e
  · cases e
    exact ⟨_, by rw [view_int ha], q _ _ new_int⟩
  · cases e
theorem gToInt_ok {K : PySem.W.Frag} : Op1 K (fun v H Q => (∃ i, [v] = [V.int i] ∧ Q (.int i) H) ∨ ∃ k, [v] = [V.bl k] ∧ Q (.int (if k then 1 else 0)) H) gToInt := by
  intro a va H Q res ha e q
  unfold gToInt at e
  split at e
  · cases e
    exact .inl ⟨_, by rw [view_int ha], q _ _ new_int⟩
  · cases e
    exact .inr ⟨_, by rw [view_bool ha], q _ _ new_int⟩
  · cases e
theorem gTuple_ok {K : PySem.W.Frag} : Op1 K (fun v H Q => ∃ p ys, [v] = [V.ref p] ∧ ((SqL K H p ys ∧ ∀ l, H l = none → Q (.ref l) (upd H l (.tup ys))) ∨ (SqT K H p ys ∧ Q (.ref p) H))) gTuple := by
  intro a va H Q res ha e q
  unfold gTuple at e
  split at e
  · cases e
    obtain ⟨p, xs, rfl, h1, h2⟩ := view_lst ha
    exact ⟨p, xs, rfl, .inl ⟨.inl h1, fun l n => q _ _ (new_tup n h2)⟩⟩
  · cases e
    obtain ⟨p, xs, rfl, h1, h2⟩ := view_tup ha
    exact ⟨p, xs, rfl, .inr ⟨h1, q _ _ (old_d ⟨p, xs, rfl, h1, h2⟩)⟩⟩
  · cases e
theorem gList_ok {K : PySem.W.Frag} : Op1 K (fun v H Q => ∃ p ys, [v] = [V.ref p] ∧ (SqL K H p ys ∨ SqT K H p ys) ∧ ∀ l, H l = none → Q (.ref l) (upd H l (.lst ys))) gList := by
  intro a va H Q res ha e q
  unfold gList at e
  split at e
  · cases e
    obtain ⟨p, xs, rfl, h1, h2⟩ := view_lst ha
    exact ⟨p, xs, rfl, .inl (.inl h1), fun l n => q _ _ (new_lst n h2)⟩
  · cases e
    obtain ⟨p, xs, rfl, h1, h2⟩ := view_tup ha
    exact ⟨p, xs, rfl, .inr h1, fun l n => q _ _ (new_lst n h2)⟩
  · cases e
theorem gMax2_ok {K : PySem.W.Frag} : Op2 K (fun v w H Q => ∃ i j, [v, w] = [V.int i, V.int j] ∧ Q (.int (if j > i then j else i)) H) gMax2 := by
  intro a b va vb H Q res ha hb e q
  unfold gMax2 at e
  split at e
  · cases e
    exact ⟨_, _, by rw [view_int ha, view_int hb], q _ _ new_int⟩
  · cases e
theorem gMin2_ok {K : PySem.W.Frag} : Op2 K (fun v w H Q => ∃ i j, [v, w] = [V.int i, V.int j] ∧ Q (.int (if j < i then j else i)) H) gMin2 := by
  intro a b va vb H Q res ha hb e q
  unfold gMin2 at e
  split at e
  · cases e
    exact ⟨_, _, by rw [view_int ha, view_int hb], q _ _ new_int⟩
  · cases e
theorem call_divmodL : CallR X (.builtin "divmod") (fun xs H Q => ∃ i j, xs = [.int i, .int j] ∧ CDivW i j ∧ ∀ p, H p = none → Q (.ref p) (upd H p (.tup [.int (i / j), .int (i % j)]))) := by
  intro pins s σ H xs us Q I r h
  obtain ⟨i, j, rfl, ⟨h1, h2⟩, q⟩ := h
  obtain ⟨u, w', rfl, ⟨t, rfl⟩, ⟨t', rfl⟩⟩ := vals2 r
  refine divmod_int (by omega) ?_ (.inl (PyProof.noPylong_of_log2 h2))
  rw [Int.fdiv_eq_ediv_of_nonneg i (by omega), Int.fmod_eq_emod_of_nonneg i (by omega)]
  have hn : H s.heap.objs.size = none := I.hok.fresh (Nat.le_refl _)
  refine ⟨.ref s.heap.objs.size, _, ?_, rfl, q _ hn⟩
  refine I.laid (fun b o e => Heap.get?_push_of_some _ e) (Nat.le_refl _) ⟨by simp only [List.length_cons, List.length_nil]; rw [sizeLine_eq]; decide, [.int (i / j) s.toks, .int (i % j) (s.toks + 1)], .cons ⟨_, rfl⟩ (.cons ⟨_, rfl⟩ .nil), ?_⟩
  exact ⟨_, Heap.get?_push_size s.heap rfl, rfl, 0, rfl⟩
theorem divOk.ok {i j : Int} (h : divOk i j = true) : CDivW i j := by
  rw [divOk, Bool.and_eq_true] at h
  exact ⟨of_decide_eq_true h.1, of_decide_eq_true h.2⟩
theorem gDivmod_ok {K : PySem.W.Frag} : Op2 K (fun v w H Q => ∃ i j, [v, w] = [V.int i, V.int j] ∧ CDivW i j ∧ ∀ p, H p = none → Q (.ref p) (upd H p (.tup [.int (i / j), .int (i % j)]))) gDivmod := by
  intro a b va vb H Q res ha hb e q
  unfold gDivmod at e
  split at e
  · obtain ⟨hc, e⟩ := if_some e
    subst e
    refine ⟨_, _, by rw [view_int ha, view_int hb], divOk.ok hc, fun p n => q _ _ (new_tup n ?_)⟩
    exact FzAll.cons rfl (FzAll.cons rfl FzAll.nil)
  · cases e
theorem gSum_ok {K : PySem.W.Frag} : Op1 K (fun v H Q => rSum K [v] H Q) gSum := by
  intro a va H Q res ha e q
  unfold gSum at e
  split at e
  · obtain ⟨ns, e1, rfl⟩ := Option.map_eq_some_iff.mp e
    obtain ⟨p, xs, rfl, h1, h2⟩ := view_lst ha
    rw [intsOf_eq e1] at h2
    rw [h2.ints] at h1
    exact ⟨p, ns, rfl, .inl h1, q _ _ new_int⟩
  · cases e
theorem gMax_ok {K : PySem.W.Frag} : Op1 K (fun v H Q => rMax K [v] H Q) gMax := by
  intro a va H Q res ha e q
  unfold gMax at e
  split at e
  · obtain ⟨ns, e1, e⟩ := Option.bind_eq_some_iff.mp e
    obtain ⟨p, xs, rfl, h1, h2⟩ := view_lst ha
    rw [intsOf_eq e1] at h2
    rw [h2.ints] at h1
    cases ns with
    | nil => cases e
    | cons n ns =>
      cases e
      refine ⟨p, n :: ns, rfl, .inl h1, by simp, fun m hm hb => ?_⟩
      have := foldl_max ns n m (List.mem_cons.mp hm) (hb n List.mem_cons_self) fun y hy => hb y (List.mem_cons_of_mem _ hy)
      rw [this] at q
      exact q _ _ new_int
  · cases e
theorem gMin_ok {K : PySem.W.Frag} : Op1 K (fun v H Q => rMin K [v] H Q) gMin := by
  intro a va H Q res ha e q
  unfold gMin at e
  split at e
  · obtain ⟨ns, e1, e⟩ := Option.bind_eq_some_iff.mp e
    obtain ⟨p, xs, rfl, h1, h2⟩ := view_lst ha
    rw [intsOf_eq e1] at h2
    rw [h2.ints] at h1
    cases ns with
    | nil => cases e
    | cons n ns =>
      cases e
      refine ⟨p, n :: ns, rfl, .inl h1, by simp, fun m hm hb => ?_⟩
      have := foldl_min ns n m (List.mem_cons.mp hm) (hb n List.mem_cons_self) fun y hy => hb y (List.mem_cons_of_mem _ hy)
      rw [this] at q
      exact q _ _ new_int
  · cases e
end
section
variable {X : Cx} {W : WX} {a b c e : Expr} {Ea Eb Ec E : S → Res R} {pos p p2 pos2 : Pos}
theorem boot_abs' : bootBuiltins "abs" = some (.builtin "abs") := by decide +kernel
theorem boot_max' : bootBuiltins "max" = some (.builtin "max") := by decide +kernel
theorem boot_min' : bootBuiltins "min" = some (.builtin "min") := by decide +kernel
theorem boot_sum' : bootBuiltins "sum" = some (.builtin "sum") := by decide +kernel
theorem boot_divmod' : bootBuiltins "divmod" = some (.builtin "divmod") := by decide +kernel
theorem boot_isi' : bootBuiltins "isinstance" = some (.builtin "isinstance") := by decide +kernel
theorem boot_int' : bootBuiltins "int" = some (.type "int") := by decide +kernel
theorem boot_tuple' : bootBuiltins "tuple" = some (.type "tuple") := by decide +kernel
theorem boot_list' : bootBuiltins "list" = some (.type "list") := by decide +kernel
theorem boot_bool' : bootBuiltins "bool" = some (.type "bool") := by decide +kernel
theorem boot_str' : bootBuiltins "str" = some (.type "str") := by decide +kernel
theorem boot_dict' : bootBuiltins "dict" = some (.type "dict") := by decide +kernel
theorem boot_rev' : bootBuiltins "reversed" = some (.type "reversed") := by decide +kernel
theorem de_len (hm : X.mg "len" = none) (ha : DE X W a Ea) (hg : Gl X "len" := by rfl) (he : starEach (a :: []) X.env = (false, eval a X.env) :: starEach [] X.env := by rfl) : DE X W (.Call (.Name "len" p) [a] [] pos) (eOp1 gLen Ea) := de_callB1 call_len gLen_ok hg hm PySem.boot_len ha (he := he)
theorem de_abs (hm : X.mg "abs" = none) (ha : DE X W a Ea) (hg : Gl X "abs" := by rfl) (he : starEach (a :: []) X.env = (false, eval a X.env) :: starEach [] X.env := by rfl) : DE X W (.Call (.Name "abs" p) [a] [] pos) (eOp1 gAbs Ea) := de_callB1 call_abs gAbs_ok hg hm boot_abs' ha (he := he)
theorem de_toInt (hm : X.mg "int" = none) (ha : DE X W a Ea) (hg : Gl X "int" := by rfl) (he : starEach (a :: []) X.env = (false, eval a X.env) :: starEach [] X.env := by rfl) : DE X W (.Call (.Name "int" p) [a] [] pos) (eOp1 gToInt Ea) := de_callT1 call_int1 gToInt_ok hg hm boot_int' ha (he := he)
theorem de_tuple (hm : X.mg "tuple" = none) (ha : DE X W a Ea) (hg : Gl X "tuple" := by rfl) (he : starEach (a :: []) X.env = (false, eval a X.env) :: starEach [] X.env := by rfl) : DE X W (.Call (.Name "tuple" p) [a] [] pos) (eOp1 gTuple Ea) := de_callT1 call_tuple_of gTuple_ok hg hm boot_tuple' ha (he := he)
theorem de_list (hm : X.mg "list" = none) (ha : DE X W a Ea) (hg : Gl X "list" := by rfl) (he : starEach (a :: []) X.env = (false, eval a X.env) :: starEach [] X.env := by rfl) : DE X W (.Call (.Name "list" p) [a] [] pos) (eOp1 gList Ea) := de_callT1 call_list_of gList_ok hg hm boot_list' ha (he := he)
theorem de_max2 (hc : X.calm = true) (hm : X.mg "max" = none) (ha : DE X W a Ea) (hb : DE X W b Eb) (hg : Gl X "max" := by rfl) (he : starEach (a :: [b]) X.env = (false, eval a X.env) :: starEach [b] X.env := by rfl) (he2 : starEach (b :: []) X.env = (false, eval b X.env) :: starEach [] X.env := by rfl)
    (hpl : (backTo pos (starEach [b] X.env)).any (·.1) = false := by rfl) : DE X W (.Call (.Name "max" p) [a, b] [] pos) (eOp2 gMax2 Ea Eb) := de_callB2 (call_max2 hc) gMax2_ok hg hm boot_max' ha hb (he := he) (he2 := he2) (hpl := hpl)
theorem de_min2 (hc : X.calm = true) (hm : X.mg "min" = none) (ha : DE X W a Ea) (hb : DE X W b Eb) (hg : Gl X "min" := by rfl) (he : starEach (a :: [b]) X.env = (false, eval a X.env) :: starEach [b] X.env := by rfl) (he2 : starEach (b :: []) X.env = (false, eval b X.env) :: starEach [] X.env := by rfl)
    (hpl : (backTo pos (starEach [b] X.env)).any (·.1) = false := by rfl) : DE X W (.Call (.Name "min" p) [a, b] [] pos) (eOp2 gMin2 Ea Eb) := de_callB2 (call_min2 hc) gMin2_ok hg hm boot_min' ha hb (he := he) (he2 := he2) (hpl := hpl)
theorem de_divmod (hm : X.mg "divmod" = none) (ha : DE X W a Ea) (hb : DE X W b Eb) (hg : Gl X "divmod" := by rfl) (he : starEach (a :: [b]) X.env = (false, eval a X.env) :: starEach [b] X.env := by rfl) (he2 : starEach (b :: []) X.env = (false, eval b X.env) :: starEach [] X.env := by rfl)
    (hpl : (backTo pos (starEach [b] X.env)).any (·.1) = false := by rfl) : DE X W (.Call (.Name "divmod" p) [a, b] [] pos) (eOp2 gDivmod Ea Eb) := de_callB2 call_divmodL gDivmod_ok hg hm boot_divmod' ha hb (he := he) (he2 := he2) (hpl := hpl)
theorem de_sum (hc : X.calm = true) (hm : X.mg "sum" = none) (ha : DE X W a Ea) (hg : Gl X "sum" := by rfl) (he : starEach (a :: []) X.env = (false, eval a X.env) :: starEach [] X.env := by rfl) : DE X W (.Call (.Name "sum" p) [a] [] pos) (eOp1 gSum Ea) := de_callB1 (cr_sum hc) gSum_ok hg hm boot_sum' ha (he := he)
theorem de_max (hc : X.calm = true) (hm : X.mg "max" = none) (ha : DE X W a Ea) (hg : Gl X "max" := by rfl) (he : starEach (a :: []) X.env = (false, eval a X.env) :: starEach [] X.env := by rfl) : DE X W (.Call (.Name "max" p) [a] [] pos) (eOp1 gMax Ea) := de_callB1 (cr_max hc) gMax_ok hg hm boot_max' ha (he := he)
theorem de_min (hc : X.calm = true) (hm : X.mg "min" = none) (ha : DE X W a Ea) (hg : Gl X "min" := by rfl) (he : starEach (a :: []) X.env = (false, eval a X.env) :: starEach [] X.env := by rfl) : DE X W (.Call (.Name "min" p) [a] [] pos) (eOp1 gMin Ea) := de_callB1 (cr_min hc) gMin_ok hg hm boot_min' ha (he := he)

/-! ### isinstance(x, T), T a built-in type -/
/-- x is of the type T -/
@[simp] def isiD (T : String) : D → Option Bool
  | .none => some false
  | .bool _ => some (T == "bool" || T == "int")
  | .int _ => some (T == "int")
  | .str _ => some (T == "str")
  | .list _ => some (T == "list")
  | .tuple _ => some (T == "tuple")
  | .dict _ => none
@[simp] def gIsi (T : String) (x : D) : Option R := (isiD T x).map fun k => .d (.bool k)
/-- the name of a type of data -/
def tyD : D → String
  | .none => "NoneType"
  | .bool _ => "bool"
  | .int _ => "int"
  | .str _ => "str"
  | .list _ => "list"
  | .tuple _ => "tuple"
  | .dict _ => "dict"
theorem tyD_ok {K : PySem.W.Frag} {H : Hp} {d : D} {v : V} (h : View K H d v) : TyX K H v (.type (tyD d)) := by
  cases d with
  | none => rw [show v = _ from h]; exact .base .non
  | bool b => rw [show v = _ from h]; exact .base (.bl b)
  | int i => rw [show v = _ from h]; exact .base (.int i)
  | str x => rw [show v = _ from h]; exact .base (.str x)
  | list ds =>
    obtain ⟨p, xs, rfl, h1, _⟩ := view_lst h
    rcases h1 with h1 | ⟨o, h1⟩
    · exact .base (.lst h1)
    · exact .base (.frz h1)
  | tuple ds =>
    obtain ⟨p, xs, rfl, h1, _⟩ := view_tup h
    rcases h1 with (h1 | ⟨o, h1⟩) | ⟨o, its, n, h1, h2, _⟩
    · exact .base (.tup h1)
    · exact .fTuple h1
    · exact .kTuple h1 h2
  | dict _ => exact False.elim h
theorem kit_int (K : PySem.W.Frag) (d : D) (k : Bool) (e : isiD "int" d = some k) : PySem.W.kitOne K (.type (tyD d)) (.type "int") = some k := by
  cases d <;> first | (cases e; done) | (cases e; rfl)
theorem kit_bool (K : PySem.W.Frag) (d : D) (k : Bool) (e : isiD "bool" d = some k) : PySem.W.kitOne K (.type (tyD d)) (.type "bool") = some k := by
  cases d <;> first | (cases e; done) | (cases e; rfl)
theorem kit_str (K : PySem.W.Frag) (d : D) (k : Bool) (e : isiD "str" d = some k) : PySem.W.kitOne K (.type (tyD d)) (.type "str") = some k := by
  cases d <;> first | (cases e; done) | (cases e; rfl)
theorem kit_list (K : PySem.W.Frag) (d : D) (k : Bool) (e : isiD "list" d = some k) : PySem.W.kitOne K (.type (tyD d)) (.type "list") = some k := by
  cases d <;> first | (cases e; done) | (cases e; rfl)
theorem kit_tuple (K : PySem.W.Frag) (d : D) (k : Bool) (e : isiD "tuple" d = some k) : PySem.W.kitOne K (.type (tyD d)) (.type "tuple") = some k := by
  cases d <;> first | (cases e; done) | (cases e; rfl)
theorem gIsi_ok {K : PySem.W.Frag} {T : String} (ht : ∀ d k, isiD T d = some k → PySem.W.kitOne K (.type (tyD d)) (.type T) = some k) : Op1 K (fun v H Q => rIsi K [v, .ty T] H Q) (gIsi T) := by
  intro a va H Q res ha e q
  obtain ⟨k, e1, rfl⟩ := Option.map_eq_some_iff.mp e
  exact ⟨va, .ty T, _, _, k, rfl, .ty T, tyD_ok ha, ht a k e1, q _ _ new_bl⟩
theorem de_isi {T : String} {y : Str} {pt : Pos} (hm : X.mg "isinstance" = none) (hmT : X.mg y = none) (hv : bootBuiltins y = some (.type T)) (ht : ∀ d k, isiD T d = some k → PySem.W.kitOne X.K (.type (tyD d)) (.type T) = some k) (ha : DE X W a Ea) (hg : Gl X "isinstance" := by rfl) (hgT : Gl X y := by rfl)
    (hn : y ≠ "__name__" := by decide) (hdb : (y == ("__debug__" : Str)) = false := by decide) (he : starEach (a :: [.Name y pt]) X.env = (false, eval a X.env) :: starEach [.Name y pt] X.env := by rfl) (he2 : starEach (.Name y pt :: []) X.env = (false, eval (.Name y pt) X.env) :: starEach [] X.env := by rfl)
    (hpl : (backTo pos (starEach [.Name y pt] X.env)).any (·.1) = false := by rfl) : DE X W (.Call (.Name "isinstance" p) [a, .Name y pt] [] pos) (eOp1 (gIsi T) Ea) :=
  pe_weak (pe_callB call_isi hg hm boot_isi' (pa_cons ha (pa_cons (pe_bltn (v := .ty T) hgT hmT hv rfl hn hdb) pa_nil he2) he) (he := he) (hpl := hpl)) fun _ _ _ h => post_op1 (gIsi_ok ht) h
theorem de_isInt {pt : Pos} (hm : X.mg "isinstance" = none) (hmT : X.mg "int" = none) (ha : DE X W a Ea) (hg : Gl X "isinstance" := by rfl) (hgT : Gl X "int" := by rfl) (he : starEach (a :: [.Name "int" pt]) X.env = (false, eval a X.env) :: starEach [.Name "int" pt] X.env := by rfl) : DE X W (.Call (.Name "isinstance" p) [a, .Name "int" pt] [] pos) (eOp1 (gIsi "int") Ea) := de_isi hm hmT boot_int' (kit_int _) ha hg hgT (he := he)
theorem de_isBool {pt : Pos} (hm : X.mg "isinstance" = none) (hmT : X.mg "bool" = none) (ha : DE X W a Ea) (hg : Gl X "isinstance" := by rfl) (hgT : Gl X "bool" := by rfl) (he : starEach (a :: [.Name "bool" pt]) X.env = (false, eval a X.env) :: starEach [.Name "bool" pt] X.env := by rfl) : DE X W (.Call (.Name "isinstance" p) [a, .Name "bool" pt] [] pos) (eOp1 (gIsi "bool") Ea) := de_isi hm hmT boot_bool' (kit_bool _) ha hg hgT (he := he)
theorem de_isStr {pt : Pos} (hm : X.mg "isinstance" = none) (hmT : X.mg "str" = none) (ha : DE X W a Ea) (hg : Gl X "isinstance" := by rfl) (hgT : Gl X "str" := by rfl) (he : starEach (a :: [.Name "str" pt]) X.env = (false, eval a X.env) :: starEach [.Name "str" pt] X.env := by rfl) : DE X W (.Call (.Name "isinstance" p) [a, .Name "str" pt] [] pos) (eOp1 (gIsi "str") Ea) := de_isi hm hmT boot_str' (kit_str _) ha hg hgT (he := he)
theorem de_isList {pt : Pos} (hm : X.mg "isinstance" = none) (hmT : X.mg "list" = none) (ha : DE X W a Ea) (hg : Gl X "isinstance" := by rfl) (hgT : Gl X "list" := by rfl) (he : starEach (a :: [.Name "list" pt]) X.env = (false, eval a X.env) :: starEach [.Name "list" pt] X.env := by rfl) : DE X W (.Call (.Name "isinstance" p) [a, .Name "list" pt] [] pos) (eOp1 (gIsi "list") Ea) := de_isi hm hmT boot_list' (kit_list _) ha hg hgT (he := he)
theorem de_isTuple {pt : Pos} (hm : X.mg "isinstance" = none) (hmT : X.mg "tuple" = none) (ha : DE X W a Ea) (hg : Gl X "isinstance" := by rfl) (hgT : Gl X "tuple" := by rfl) (he : starEach (a :: [.Name "tuple" pt]) X.env = (false, eval a X.env) :: starEach [.Name "tuple" pt] X.env := by rfl) : DE X W (.Call (.Name "isinstance" p) [a, .Name "tuple" pt] [] pos) (eOp1 (gIsi "tuple") Ea) := de_isi hm hmT boot_tuple' (kit_tuple _) ha hg hgT (he := he)

/-! ### list(reversed(xs)) -/
def tListRev (ta : TE) : TE := fun σ H Q => ta σ H fun x H1 => ∃ l xs, x = .ref l ∧ Rd H1 l (.lst xs) ∧ ∀ q, H1 q = none → Q (.ref q) (upd H1 q (.lst xs.reverse))
theorem vals_reverse : ∀ {xs : List V} {us : List Value}, Vals xs us → Vals xs.reverse us.reverse
  | _, _, .nil => .nil
  | _, _, .cons r t => by
    rw [List.reverse_cons, List.reverse_cons]
    exact (vals_reverse t).append (.cons r .nil)
theorem pe_listRev {ta : TE} (hc : X.calm = true) (hg : Gl X "list") (hm : X.mg "list" = none) (hg2 : Gl X "reversed") (hm2 : X.mg "reversed" = none) (ha : PE X a ta)
    (he : starEach (.Call (.Name "reversed" p2) [a] [] pos2 :: []) X.env = (false, eval (.Call (.Name "reversed" p2) [a] [] pos2) X.env) :: starEach [] X.env := by rfl) (he2 : starEach (a :: []) X.env = (false, eval a X.env) :: starEach [] X.env := by rfl) :
    PE X (.Call (.Name "list" p) [.Call (.Name "reversed" p2) [a] [] pos2] [] pos) (tListRev ta) := by
  refine ⟨fun pins s σ H Q I h => ?_⟩
  refine wpAny_Call_Name_kw (ld_blt I hg hm boot_list' ?_)
  refine PyProof.Rows.callWith_type1 ?_ he
  rw [he]
  refine Calls.spliced_cons ?_
  refine wpAny_Call_Name_kw (ld_blt I hg2 hm2 boot_rev' ?_)
  refine PyProof.Rows.callWith_type1 ?_ he2
  rw [he2]
  refine Calls.spliced_cons (thn (ha.run pins s σ H _ I h) fun v s1 ⟨x, H1, I1, r1, l, xs, e, hl, q⟩ => ?_)
  subst e
  cases r1
  refine Calls.spliced_nil ?_
  obtain ⟨z, its, n, rv, hlen, eo⟩ := Inv.lstR I1 hl
  have hL : s1.heap.IsList l its.toArray := ⟨_, eo, rfl, n, rfl⟩
  refine call_reversed_list hL ?_
  refine Calls.spliced_nil ?_
  have hlt : l < s1.heap.objs.size := Heap.lt_size eo
  have I2 : Inv X pins σ H1 { s1 with heap := s1.heap.push (revObj l ((its.toArray.size : Int) - 1)) } := I1.kept (t' := s1.toks) fun b o e => Heap.get?_push_of_some _ e
  refine FLx.call_list_rev (s := { s1 with heap := s1.heap.push (revObj l ((its.toArray.size : Int) - 1)) }) (I1.ok.hd hc) ⟨_, Heap.get?_push_size _ rfl, rfl, rfl⟩ (hL.push _) (Nat.ne_of_lt hlt) (by rw [List.size_toArray, ← hlen]; exact z) fun h' tk acc c' hk hS hacc => ?_
  have eacc := FLx.rev_items hacc
  have kp : ∀ b o, s1.heap.get? b = some o → h'.get? b = some o := fun b o e => hk b o (Nat.ne_of_lt (Heap.lt_size e)) (Heap.get?_push_of_some _ e)
  have fr : H1 (s1.heap.push (revObj l ((its.toArray.size : Int) - 1))).objs.size = none := I1.hok.fresh (by rw [Heap.size_push]; exact Nat.le_succ _)
  refine ⟨.ref _, _, I1.laid (t' := tk) (h' := h') (o := .lst xs.reverse) kp (by rw [Heap.size_push]; exact Nat.le_succ _) ?_, rfl, q _ fr⟩
  refine ⟨by rw [List.length_reverse]; exact z, its.reverse, c', vals_reverse rv, ?_⟩
  rw [hS, eacc]
theorem de_listRev (hc : X.calm = true) (hm : X.mg "list" = none) (hm2 : X.mg "reversed" = none) (ha : DE X W a Ea) (hg : Gl X "list" := by rfl) (hg2 : Gl X "reversed" := by rfl)
    (he : starEach (.Call (.Name "reversed" p2) [a] [] pos2 :: []) X.env = (false, eval (.Call (.Name "reversed" p2) [a] [] pos2) X.env) :: starEach [] X.env := by rfl) (he2 : starEach (a :: []) X.env = (false, eval a X.env) :: starEach [] X.env := by rfl) :
    DE X W (.Call (.Name "list" p) [.Call (.Name "reversed" p2) [a] [] pos2] [] pos) (eOp1 gListRev Ea) :=
  pe_weak (pe_listRev hc hg hm hg2 hm2 ha he he2) fun σv H Q h => post_op1 (r := fun x H1 Q => ∃ l xs, x = .ref l ∧ Rd H1 l (.lst xs) ∧ ∀ q, H1 q = none → Q (.ref q) (upd H1 q (.lst xs.reverse))) (fun a va H Q res hv e q => by
    unfold gListRev at e
    split at e
    · cases e
      obtain ⟨p, xs, rfl, h1, h2⟩ := view_lst hv
      exact ⟨p, xs, rfl, h1, fun l n => q _ _ (new_lst n h2.reverse)⟩
    · cases e) h
end
end FL

set_option Elab.async false
set_option linter.all false
set_option maxRecDepth 100000
set_option maxHeartbeats 2000000
/-! FL: statements. -/
namespace FL
open PySem PySem.Spec PyProof.Rows L2

/-- from a state to a later one, over statements -/
structure Later (K : PySem.W.Frag) (H : Hp) (σ : S) (σv : L2.St) (H' : Hp) (σ' : S) (σv' : L2.St) : Prop where
  keep : Keep (OwnM σ σv) H H'
  rel : SRel K H' σ' σv'
  own : ∀ i a, At σ' σv' i .own a → (∃ j, At σ σv j .own a) ∨ H a = none
  npar : ∀ i t a, t ≠ Tag.own → At σ' σv' i t a → At σ σv i t a
  par : ∀ (i : Nat) (ds : List D), σ[i]? = some (some (.l .par ds)) → σv'[i]? = σv[i]? ∧ ∃ ds', σ'[i]? = some (some (.l .par ds'))
  lck : ∀ (i : Nat) (ds : List D), σ[i]? = some (some (.l .lck ds)) → σv'[i]? = σv[i]? ∧ σ'[i]? = some (some (.l .lck ds))
section
variable {K : PySem.W.Frag} {mg : Str → Option Value} {W : WX} {H H1 H2 H' : Hp} {σ σ1 σ2 σ' : S} {σv σv1 σv2 σv' : L2.St}
theorem Later.refl (r : SRel K H σ σv) : Later K H σ σv H σ σv := ⟨Keep.refl _ _, r, fun i a h => .inl ⟨i, h⟩, fun _ _ _ _ h => h, fun _ ds e => ⟨rfl, ds, e⟩, fun _ _ e => ⟨rfl, e⟩⟩
theorem Later.ownM (l : Later K H σ σv H' σ' σv') {a : Addr} (h : OwnM σ' σv' a) : OwnM σ σv a ∨ H a = none := by
  obtain ⟨i, t, nt, h⟩ := h
  by_cases ht : t = .own
  · subst ht
    rcases l.own i a h with ⟨j, q⟩ | q
    · exact .inl ⟨j, .own, by decide, q⟩
    · exact .inr q
  · exact .inl ⟨i, t, nt, l.npar i t a ht h⟩
theorem Later.trans (a : Later K H σ σv H1 σ1 σv1) (b : Later K H1 σ1 σv1 H2 σ2 σv2) : Later K H σ σv H2 σ2 σv2 where
  keep := a.keep.trans b.keep fun x o e z => (a.ownM z).elim (fun q => q) fun q => by rw [e] at q; cases q
  rel := b.rel
  own := fun i p h => by
    rcases b.own i p h with ⟨j, q⟩ | q
    · exact a.own j p q
    · exact .inr (a.keep.gone p q)
  npar := fun i t p n h => a.npar i t p n (b.npar i t p n h)
  par := fun i ds e => by
    obtain ⟨e1, ds1, e2⟩ := a.par i ds e
    obtain ⟨e3, ds2, e4⟩ := b.par i ds1 e2
    exact ⟨e3.trans e1, ds2, e4⟩
  lck := fun i ds e => by
    obtain ⟨e1, e2⟩ := a.lck i ds e
    obtain ⟨e3, e4⟩ := b.lck i ds e2
    exact ⟨e3.trans e1, e4⟩
theorem Step.toLater (s : Step K H σ σv H' σ') : Later K H σ σv H' σ' σv where
  keep := s.keep
  rel := s.rel
  own := fun i a h => .inl ⟨i, s.sub.at h⟩
  npar := fun i t a _ h => s.sub.at h
  par := fun i ds e => by
    have := s.sub i
    rw [e] at this
    exact ⟨rfl, this⟩
  lck := fun i ds e => by
    have := s.sub i
    rw [e] at this
    exact ⟨rfl, this⟩
theorem Later.imm (r : SRel K H σ σv) (a : Later K H σ σv H1 σ1 σv1) : Imm H H1 := r.imm a.keep
end

/-- how a statement ends -/
inductive Out where
  | nx (σ : S)
  | brk (σ : S)
  | cnt (σ : S)
  | ret (r : R) (σ : S)
  | exc (c : ECls) (σ : S)
  | bad
def RetRel (K : PySem.W.Frag) (H : Hp) (σ : S) (σv : L2.St) (H' : Hp) : R → V → Prop
  | .d x, v => Fz K H' x v
  | .own ds, v => ∃ a vs, v = .ref a ∧ H' a = some (.lst vs) ∧ FzAll K H' ds vs ∧ ((∃ j, At σ σv j .own a) ∨ H a = none)
  | .slot _, _ => False
def PostS (K : PySem.W.Frag) (mg : Str → Option Value) (W : WX) (H : Hp) (σ : S) (σv : L2.St) (D : Ends) : Out → Prop
  | .nx σ' => ∀ σv' H', Later K H σ σv H' σ' σv' → D.nx σv' H'
  | .brk σ' => ∀ σv' H', Later K H σ σv H' σ' σv' → D.bk σv' H'
  | .cnt σ' => ∀ σv' H', Later K H σ σv H' σ' σv' → D.ct σv' H'
  | .ret r σ' => ∀ v σv' H', Later K H σ σv H' σ' σv' → RetRel K H σ σv H' r v → D.rt v H'
  | .exc c σ' => ∀ cls d σv' H', ECl mg c cls → Later K H σ σv H' σ' σv' → W cls d σv' H'
  | .bad => False
def rdS (K : PySem.W.Frag) (mg : Str → Option Value) (W : WX) (B : S → Out) : TS := fun D σv H => ∃ σ, SRel K H σ σv ∧ PostS K mg W H σ σv D (B σ)
abbrev DS (X : Cx) (W : WX) (st : Stmt) (B : S → Out) : Prop := PS X st (rdS X.K X.mg W B)
abbrev DSs (X : Cx) (W : WX) (st : List Stmt) (B : S → Out) : Prop := PSs X st (rdS X.K X.mg W B)
section
variable {K : PySem.W.Frag} {mg : Str → Option Value} {W : WX} {H H1 H2 H' : Hp} {σ σ1 σ2 σ' : S} {σv σv1 σv2 σv' : L2.St} {D D' : Ends}
theorem RetRel.back {r : R} {v : V} (l : Later K H σ σv H1 σ1 σv1) (h : RetRel K H1 σ1 σv1 H' r v) : RetRel K H σ σv H' r v := by
  cases r with
  | d x => exact h
  | own ds =>
    obtain ⟨a, vs, e, h1, h2, h3⟩ := h
    refine ⟨a, vs, e, h1, h2, ?_⟩
    rcases h3 with ⟨j, q⟩ | q
    · exact l.own j a q
    · exact .inr (l.keep.gone a q)
  | slot i => exact h
/-- the same end, told from a later state -/
theorem PostS.later {o : Out} (l : Later K H σ σv H1 σ1 σv1) (h : PostS K mg W H σ σv D o) : PostS K mg W H1 σ1 σv1 D o := by
  cases o with
  | nx σ' => exact fun σv' H' q => h σv' H' (l.trans q)
  | brk σ' => exact fun σv' H' q => h σv' H' (l.trans q)
  | cnt σ' => exact fun σv' H' q => h σv' H' (l.trans q)
  | ret r σ' => exact fun v σv' H' q rr => h v σv' H' (l.trans q) (rr.back l)
  | exc c σ' => exact fun cls d σv' H' e q => h cls d σv' H' e (l.trans q)
  | bad => exact h
theorem PostS.exc_of {α β : Type} {Rel : Hp → Hp → S → L2.St → α → β → Prop} {Q : β → Hp → Prop} {c : ECls} (h : PostS K mg W H σ σv D (.exc c σ')) : Post K mg W Rel H σ σv Q (.exc c σ') := fun cls d H' e s => h cls d σv H' e s.toLater
end

/-! ### plain statements -/
@[simp] def sNx (σ : S) : Out := .nx σ
@[simp] def sBrk (σ : S) : Out := .brk σ
@[simp] def sCnt (σ : S) : Out := .cnt σ
@[simp] def sSeq (A B : S → Out) (σ : S) : Out := match A σ with
  | .nx σ1 => B σ1
  | o => o
@[simp] def sDrop (E : S → Res R) (σ : S) : Out := match E σ with
  | .ok _ σ1 => .nx σ1
  | .exc c σ1 => .exc c σ1
  | .bad => .bad
@[simp] def sIf (T : S → Res Bool) (A B : S → Out) (σ : S) : Out := match T σ with
  | .ok b σ1 => if b = true then A σ1 else B σ1
  | .exc c σ1 => .exc c σ1
  | .bad => .bad
@[simp] def setSlot (i : Nat) (c : C) (σ : S) : Option S := match σ[i]? with
  | some (some (.l .par _)) => none
  | some (some (.l .lck _)) => none
  | _ => some (σ.set i (some c))
@[simp] def cOf : R → C
  | .d x => .d x
  | .own ds => .l .own ds
  | .slot _ => .d .none
@[simp] def sSet (i : Nat) (E : S → Res R) (σ : S) : Out := match eMov E σ with
  | .ok r σ1 => (match setSlot i (cOf r) σ1 with
    | some σ2 => .nx σ2
    | none => .bad)
  | .exc c σ1 => .exc c σ1
  | .bad => .bad
/-- a result is given out: a slot's own list leaves its slot -/
@[simp] def sRet (E : S → Res R) (σ : S) : Out := match E σ with
  | .ok (.slot i) σ1 => (match σ1[i]? with
    | some (some (.d x)) => .ret (.d x) σ1
    | some (some (.l .own ds)) => .ret (.own ds) σ1
    | _ => .bad)
  | .ok r σ1 => .ret r σ1
  | .exc c σ1 => .exc c σ1
  | .bad => .bad
@[simp] def sRetN (σ : S) : Out := .ret (.d .none) σ
section
variable {X : Cx} {W : WX} {a b c e : Expr} {E F : S → Res R} {T : S → Res Bool} {A B : S → Out} {st : Stmt} {rest sts : List Stmt} {pos : Pos}
theorem dss_nil : DSs X W [] sNx := pss_weak pss_nil fun D σv H ⟨σ, s, h⟩ => h σv H (Later.refl s)
theorem dss_cons (h1 : DS X W st A) (h2 : DSs X W rest B) : DSs X W (st :: rest) (sSeq A B) := pss_weak (pss_cons h1 h2) fun D σv H ⟨σ, s, h⟩ => by
  refine ⟨σ, s, ?_⟩
  unfold sSeq at h
  cases ea : A σ with
  | nx σ1 =>
    rw [ea] at h
    exact fun σv' H' l => ⟨σ1, l.rel, PostS.later l h⟩
  | brk σ1 => rw [ea] at h; exact h
  | cnt σ1 => rw [ea] at h; exact h
  | ret r σ1 => rw [ea] at h; exact h
  | exc c σ1 => rw [ea] at h; exact h
  | bad => rw [ea] at h; exact h
theorem dss_one (h1 : DS X W st A) : DSs X W [st] A := pss_one h1
theorem ds_pass : DS X W (.Pass pos) sNx := ps_weak ps_pass fun D σv H ⟨σ, s, h⟩ => h σv H (Later.refl s)
theorem ds_break : DS X W (.Break pos) sBrk := ps_weak ps_break fun D σv H ⟨σ, s, h⟩ => h σv H (Later.refl s)
theorem ds_cont : DS X W (.Continue pos) sCnt := ps_weak ps_continue fun D σv H ⟨σ, s, h⟩ => h σv H (Later.refl s)
theorem ds_doc {x : Str} {j : Nat} {pos' : Pos} : DS X W (.Expr (.Constant (.str x) j pos) pos') sNx := ps_weak ps_doc fun D σv H ⟨σ, s, h⟩ => h σv H (Later.refl s)
theorem ds_expr (he : DE X W e E) (hs : swapsWith e none pos.line X.env = pure false := by rfl) : DS X W (.Expr e pos) (sDrop E) := ps_weak (ps_expr he hs) fun D σv H ⟨σ, s, h⟩ => by
  refine ⟨σ, s, ?_⟩
  unfold sDrop at h
  cases ea : E σ with
  | ok r σ1 => rw [ea] at h; exact fun v H' st _ => h σv H' st.toLater
  | exc c σ1 => rw [ea] at h; exact PostS.exc_of h
  | bad => rw [ea] at h; exact h
theorem ds_if (hc : DT X W c T) {as bs : List Stmt} (ha : DSs X W as A) (hb : DSs X W bs B) : DS X W (.If c as bs pos) (sIf T A B) := ps_weak (ps_if hc ha hb) fun D σv H ⟨σ, s, h⟩ => by
  refine ⟨σ, s, ?_⟩
  unfold sIf at h
  cases ea : T σ with
  | ok r σ1 =>
    rw [ea] at h
    intro k H' st e
    subst e
    cases r with
    | true => exact ⟨σ1, st.rel, PostS.later st.toLater h⟩
    | false => exact ⟨σ1, st.rel, PostS.later st.toLater h⟩
  | exc c σ1 => rw [ea] at h; exact PostS.exc_of h
  | bad => rw [ea] at h; exact h

/-! ### stores -/
/-- what is stored is data, or a list that no slot has -/
def NewC (K : PySem.W.Frag) (H : Hp) (σ : S) (σv : L2.St) (H' : Hp) : C → V → Prop
  | .d x, v => Fz K H' x v
  | .l .own ds, v => ∃ a vs, v = .ref a ∧ H a = none ∧ H' a = some (.lst vs) ∧ FzAll K H' ds vs
  | _, _ => False
theorem setSlot_eq {i : Nat} {c : C} {σ σ2 : S} (h : setSlot i c σ = some σ2) : σ2 = σ.set i (some c) ∧ ∀ t ds, σ[i]? = some (some (.l t ds)) → t = .own := by
  unfold setSlot at h
  split at h
  · cases h
  · cases h
  · rename_i n1 n2
    cases h
    refine ⟨rfl, fun t ds e => ?_⟩
    cases t with
    | own => rfl
    | par => exact absurd e (n1 ds)
    | lck => exact absurd e (n2 ds)
theorem get_setv {σv : L2.St} {i : Nat} {v : Option V} {k : Option V} (e : σv[i]? = some k) : (σv.set i v)[i]? = some v := by
  rw [List.getElem?_set_self]
  exact (List.getElem?_eq_some_iff.mp e).1
theorem Later.store {K : PySem.W.Frag} {H H1 : Hp} {σ σ1 : S} {σv σv1 : L2.St} {i : Nat} {c : C} {v : V} (s0 : SRel K H σ σv) (l : Later K H σ σv H1 σ1 σv1) (nl : ∀ t ds, σ1[i]? = some (some (.l t ds)) → t = .own)
    (hc : NewC K H σ σv H1 c v) (fresh : ∀ ds a, c = .l .own ds → v = .ref a → ∀ j t, ¬ At σ1 σv1 j t a) : Later K H σ σv H1 (σ1.set i (some c)) (σv1.set i (some v)) := by
  have notw : ∀ t ds, t ≠ Tag.own → c ≠ .l t ds := fun t ds n z => by
    subst z
    cases t with
    | own => exact n rfl
    | par => exact hc
    | lck => exact hc
  have atS : ∀ j t a, At (σ1.set i (some c)) (σv1.set i (some v)) j t a → (j = i ∧ v = .ref a ∧ ∃ ds, c = .l t ds) ∨ (j ≠ i ∧ At σ1 σv1 j t a) := fun j t a ⟨⟨ds, e⟩, ev⟩ => by
    by_cases hj : j = i
    · subst hj
      have hl : j < σ1.length := by
        have := (List.getElem?_eq_some_iff.mp e).1
        rw [List.length_set] at this
        exact this
      rw [List.getElem?_set_self hl] at e
      have hlv : j < σv1.length := by rw [← l.rel.len]; exact hl
      rw [List.getElem?_set_self hlv] at ev
      injection e with e
      injection e with e
      injection ev with ev
      injection ev with ev
      exact .inl ⟨rfl, ev, ds, e⟩
    · rw [List.getElem?_set_ne (Ne.symm hj)] at e ev
      exact .inr ⟨hj, ⟨ds, e⟩, ev⟩
  refine ⟨l.keep, ⟨by rw [List.length_set, List.length_set]; exact l.rel.len, fun j k e => ?_, fun j k t u a hj hk => ?_⟩, fun j a h => ?_, fun j t a n h => ?_, fun j ds e => ?_, fun j ds e => ?_⟩
  · by_cases hj : j = i
    · subst hj
      have hl : j < σ1.length := by
        have := (List.getElem?_eq_some_iff.mp e).1
        rw [List.length_set] at this
        exact this
      rw [List.getElem?_set_self hl] at e
      injection e with e
      injection e with e
      subst e
      refine ⟨v, by rw [List.getElem?_set_self (by rw [← l.rel.len]; exact hl)], ?_⟩
      cases c with
      | d x => exact hc
      | l t ds =>
        cases t with
        | own =>
          obtain ⟨a, vs, e, _, h1, h2⟩ := hc
          exact ⟨a, vs, e, h1, h2⟩
        | par => exact False.elim hc
        | lck => exact False.elim hc
    · rw [List.getElem?_set_ne (Ne.symm hj)] at e
      rw [List.getElem?_set_ne (Ne.symm hj)]
      exact l.rel.val j k e
  · rcases atS j t a hj with ⟨e1, e2, ds, e3⟩ | ⟨n1, h1⟩
    · rcases atS k u a hk with ⟨e4, _, _, _⟩ | ⟨n2, h2⟩
      · rw [e1, e4]
      · have ht : t = .own := Classical.byContradiction fun n => notw t ds n e3
        subst ht
        exact absurd h2 (fresh ds a e3 e2 k u)
    · rcases atS k u a hk with ⟨e4, e5, ds, e6⟩ | ⟨n2, h2⟩
      · have ht : u = .own := Classical.byContradiction fun n => notw u ds n e6
        subst ht
        exact absurd h1 (fresh ds a e6 e5 j t)
      · exact l.rel.apart j k t u a h1 h2
  · rcases atS j .own a h with ⟨_, e2, ds, e3⟩ | ⟨_, h1⟩
    · subst e3 e2
      obtain ⟨b, vs, e, h0, _⟩ := hc
      cases e
      exact .inr h0
    · exact l.own j a h1
  · rcases atS j t a h with ⟨_, _, ds, e3⟩ | ⟨_, h1⟩
    · exact absurd e3 (notw t ds n)
    · exact l.npar j t a n h1
  · obtain ⟨e1, ds', e2⟩ := l.par j ds e
    have hj : j ≠ i := fun z => by
      subst z
      have := nl _ _ e2
      cases this
    exact ⟨by rw [List.getElem?_set_ne (Ne.symm hj)]; exact e1, ds', by rw [List.getElem?_set_ne (Ne.symm hj)]; exact e2⟩
  · obtain ⟨e1, e2⟩ := l.lck j ds e
    have hj : j ≠ i := fun z => by
      subst z
      have := nl _ _ e2
      cases this
    exact ⟨by rw [List.getElem?_set_ne (Ne.symm hj)]; exact e1, by rw [List.getElem?_set_ne (Ne.symm hj)]; exact e2⟩
/-- a result is stored -/
theorem store_res {K : PySem.W.Frag} {H H1 : Hp} {σ σ1 σ2 : S} {σv : L2.St} {i : Nat} {r : R} {v : V} (s0 : SRel K H σ σv) (st : Step K H σ σv H1 σ1) (rr : RRel K H H1 σ1 σv r v) (ns : ∀ j, r ≠ .slot j) (h : setSlot i (cOf r) σ1 = some σ2) :
    Later K H σ σv H1 σ2 (σv.set i (some v)) := by
  obtain ⟨rfl, nl⟩ := setSlot_eq h
  refine Later.store s0 st.toLater nl ?_ fun ds a e ev j t hat => ?_
  · cases r with
    | d x => exact rr
    | own ds => exact rr
    | slot j => exact absurd rfl (ns j)
  · cases r with
    | d x => cases e
    | own ds' =>
      obtain ⟨b, vs, e1, h0, _⟩ := rr
      rw [ev] at e1
      cases e1
      obtain ⟨vs0, _, q0, _⟩ := s0.at_lst (st.sub.at hat)
      rw [h0] at q0
      cases q0
    | slot j => exact absurd rfl (ns j)
theorem eMov_slot {E : S → Res R} {σ σ1 : S} {r : R} (h : eMov E σ = .ok r σ1) : ∀ j, r ≠ .slot j := by
  unfold eMov at h
  obtain ⟨r0, σ0, e, h⟩ := Res.bind_ok h
  intro j z
  subst z
  cases r0 with
  | own ds => cases h
  | d x =>
    obtain ⟨_, _, _, h⟩ := Res.bind_ok h
    cases h
  | slot k =>
    obtain ⟨_, _, _, h⟩ := Res.bind_ok h
    cases h
theorem ds_set {i : Nat} {x : Str} {pos' : Pos} (hN : X.N.Nodup) (he : DE X W e E) (hi : X.N[i]? = some x := by rfl) (hx : Loc X.env.scope x := by first | exact Or.inl rfl | exact Or.inr rfl) (hs : swapsWith e (some (.Name x pos')) pos.line X.env = pure false := by rfl)
    (hf : X.fn x = true ∨ X.env.scope.names.lookup x = some .local := by first | exact .inl rfl | exact .inr rfl) : DS X W (.Assign [.Name x pos'] e pos) (sSet i E) := ps_weak (ps_set hN hi hx (de_mov he) hs hf) fun D σv H ⟨σ, s, h⟩ => by
  refine ⟨σ, s, ?_⟩
  unfold sSet at h
  cases ea : eMov E σ with
  | ok r σ1 =>
    rw [ea] at h
    intro v H' st rr
    simp only at h
    split at h
    · rename_i σ2 e2
      exact h _ _ (store_res s st rr (eMov_slot ea) e2)
    · exact False.elim h
  | exc c σ1 => rw [ea] at h; exact PostS.exc_of h
  | bad => rw [ea] at h; exact h
theorem ds_ret (he : DE X W e E) : DS X W (.Return (some e) pos) (sRet E) := ps_weak (ps_ret he) fun D σv H ⟨σ, s, h⟩ => by
  refine ⟨σ, s, ?_⟩
  unfold sRet at h
  cases ea : E σ with
  | ok r σ1 =>
    rw [ea] at h
    intro v H' st rr
    cases r with
    | d x => exact h v σv H' st.toLater rr
    | own ds =>
      obtain ⟨p, vs, e, h0, h1, h2⟩ := rr
      exact h v σv H' st.toLater ⟨p, vs, e, h1, h2, .inr h0⟩
    | slot i =>
      obtain ⟨e1, k, e2⟩ := rr
      obtain ⟨v', e3, hc⟩ := st.rel.val i k e2
      rw [e1] at e3
      have ev : v = v' := by injection e3 with q; injection q
      subst ev
      simp only [e2] at h
      cases k with
      | d x => exact h v σv H' st.toLater hc
      | l t ds =>
        cases t with
        | own =>
          obtain ⟨p, vs, rfl, h1, h2⟩ := hc
          exact h _ σv H' st.toLater ⟨p, vs, rfl, h1, h2, .inl ⟨i, st.sub.at ⟨⟨ds, e2⟩, e1⟩⟩⟩
        | par => exact False.elim h
        | lck => exact False.elim h
  | exc c σ1 => rw [ea] at h; exact PostS.exc_of h
  | bad => rw [ea] at h; exact h
theorem ds_retN : DS X W (.Return none pos) sRetN := ps_weak ps_retN fun D σv H ⟨σ, s, h⟩ => h .non σv H (Later.refl s) rfl
end
end FL

set_option Elab.async false
set_option linter.all false
set_option maxRecDepth 100000
set_option maxHeartbeats 2000000
/-! FL: lists that change, targets. -/
namespace FL
open PySem PySem.Spec PyProof.Rows L2
section
variable {K : PySem.W.Frag} {mg : Str → Option Value} {W : WX} {H H1 H2 H' : Hp} {σ σ1 σ2 σ' : S} {σv σv1 σv2 σv' : L2.St} {D D' : Ends}
theorem imm_mut {a : Addr} {vs vs' : List V} (e : H1 a = some (.lst vs)) : Imm H1 (upd H1 a (.lst vs')) :=
  ⟨fun b xs q => by rw [upd_ne (fun z => by rw [z, e] at q; cases q)]; exact q, fun b o' u q => by rw [upd_ne (fun z => by rw [z, e] at q; cases q)]; exact q⟩
/-- the list of slot i changes -/
theorem Step.mut {i : Nat} {t : Tag} {a : Addr} {vs vs' : List V} {ds ds' : List FL.D} (st : Step K H σ σv H1 σ1) (e : σ1[i]? = some (some (.l t ds))) (nt : t ≠ .lck) (ev : σv[i]? = some (some (.ref a))) (h1 : H1 a = some (.lst vs)) (h2 : FzAll K H1 ds' vs') :
    Step K H σ σv (upd H1 a (.lst vs')) (σ1.set i (some (.l t ds'))) := by
  have m := imm_mut (vs' := vs') h1
  have hat : At σ1 σv i t a := ⟨⟨ds, e⟩, ev⟩
  have hown : OwnM σ σv a := ⟨i, t, nt, st.sub.at hat⟩
  refine ⟨⟨fun b x eb nb => ?_, fun b eb => ?_⟩, ⟨by rw [List.length_set]; exact st.rel.len, fun j c ej => ?_, fun j k t' u p hj hk => ?_⟩, st.sub.trans fun j => ?_⟩
  · have hb : b ≠ a := fun z => nb (z ▸ hown)
    rw [upd_ne hb]
    exact st.keep.kept b x eb nb
  · by_cases hb : b = a
    · subst hb
      rw [upd_same] at eb; cases eb
    · rw [upd_ne hb] at eb
      exact st.keep.gone b eb
  · by_cases hj : j = i
    · subst hj
      rw [get_set e] at ej
      cases ej
      exact ⟨_, ev, a, vs', rfl, upd_same, FzAll.mono m ds' h2⟩
    · rw [List.getElem?_set_ne (Ne.symm hj)] at ej
      obtain ⟨v, e1, hc⟩ := st.rel.val j c ej
      refine ⟨v, e1, CRel.mono m (fun t' ds' p ec ep vs' q => ?_) hc⟩
      subst ec ep
      have hp : p ≠ a := fun z => hj (st.rel.apart j i t' t a ⟨⟨ds', ej⟩, z ▸ e1⟩ hat)
      rw [upd_ne hp]
      exact q
  · have back : ∀ j t' p, At (σ1.set i (some (.l t ds'))) σv j t' p → At σ1 σv j t' p := fun j t' p ⟨⟨es, q⟩, q2⟩ => by
      by_cases hj : j = i
      · subst hj
        rw [get_set e] at q
        cases q
        exact ⟨⟨ds, e⟩, q2⟩
      · rw [List.getElem?_set_ne (Ne.symm hj)] at q
        exact ⟨⟨es, q⟩, q2⟩
    exact st.rel.apart j k t' u p (back _ _ _ hj) (back _ _ _ hk)
  · by_cases hj : j = i
    · subst hj
      rw [e, get_set e]
      cases t with
      | own => exact .inl ⟨_, rfl⟩
      | par => exact ⟨_, rfl⟩
      | lck => exact absurd rfl nt
    · rw [List.getElem?_set_ne (Ne.symm hj)]
      exact SubC.refl _
/-- the value of a slot -/
theorem slot_at {i : Nat} {v : V} {t : Tag} {ds : List FL.D} (s : SRel K H σ σv) (e1 : σv[i]? = some (some v)) (e2 : σ[i]? = some (some (.l t ds))) : ∃ a vs, v = .ref a ∧ H a = some (.lst vs) ∧ FzAll K H ds vs := by
  obtain ⟨v', q, hc⟩ := s.val i _ e2
  rw [e1] at q
  have : v = v' := by injection q with q; injection q
  subst this
  exact hc
theorem PostS.ofRes {E : S → Res R} {Rel : Hp → Hp → S → L2.St → R → V → Prop} (h : PostS K mg W H σ σv D (sDrop E σ)) : Post K mg W Rel H σ σv (fun _ H' => D.nx σv H') (E σ) := by
  unfold sDrop at h
  cases ea : E σ with
  | ok a σ1 => rw [ea] at h; exact fun b H' st _ => h σv H' st.toLater
  | exc c σ1 => rw [ea] at h; exact PostS.exc_of h
  | bad => rw [ea] at h; exact h
end

/-! ### methods that change a list -/
def MOp (K : PySem.W.Frag) (r : V → List V → Hp → VK → Prop) (g : List D → List D → Option (D × List D)) : Prop :=
  ∀ (a : Addr) (vs xs : List V) (es ds : List D) (H : Hp) (Q : VK) (res : D) (es' : List D), H a = some (.lst vs) → FzAll K H es vs → FzAll K H ds xs → g es ds = some (res, es') →
    (∀ v' vs', Fz K H res v' → FzAll K H es' vs' → Q v' (upd H a (.lst vs'))) → r (.ref a) xs H Q
@[simp] def isL (σ : S) (i : Nat) : Bool := match σ[i]? with
  | some (some (.l _ _)) => true
  | _ => false
theorem isL_of {σ : S} {i : Nat} (h : isL σ i = true) : ∃ t ds, σ[i]? = some (some (.l t ds)) := by
  unfold isL at h
  split at h
  · exact ⟨_, _, by assumption⟩
  · cases h
@[simp] def eMut (g : List D → List D → Option (D × List D)) (E0 : S → Res R) (A : S → Res (List D)) (σ : S) : Res R := (E0 σ).bind fun r σ1 => match r with
  | .slot i => if isL σ1 i = true then (A σ1).bind fun ds σ2 => (match σ2[i]? with
    | some (some (.l t es)) => if t = .lck then .bad else (match g es ds with
      | some (res, es') => .ok (.d res) (σ2.set i (some (.l t es')))
      | none => .bad)
    | _ => .bad) else .bad
  | _ => .bad
@[simp] def gAppend : List D → List D → Option (D × List D)
  | es, [d] => if es.length < sizeLine then some (.none, es ++ [d]) else none
  | _, _ => none
@[simp] def gPop : List D → List D → Option (D × List D)
  | es, [] => (es[es.length - 1]?).map fun d => (d, es.dropLast)
  | _, _ => none
@[simp] def gPopAt : List D → List D → Option (D × List D)
  | es, [.int i] => if -(2 ^ 63) ≤ i ∧ i < 2 ^ 63 then (seqIndex? i es.length).bind fun k => (es[k]?).map fun d => (d, es.eraseIdx k) else none
  | _, _ => none
@[simp] def gRevM : List D → List D → Option (D × List D)
  | es, [] => some (.none, es.reverse)
  | _, _ => none
theorem FzAll.eraseIdx {K : PySem.W.Frag} {H : Hp} : ∀ {ds : List D} {vs : List V} (k : Nat), FzAll K H ds vs → FzAll K H (ds.eraseIdx k) (vs.eraseIdx k)
  | [], _, k, h => by rw [show _ = [] from h]; exact FzAll.nil
  | d :: ds, _, 0, h => by
    obtain ⟨x, r, e, h1, h2⟩ := h
    subst e
    exact h2
  | d :: ds, _, k + 1, h => by
    obtain ⟨x, r, e, h1, h2⟩ := h
    subst e
    exact FzAll.cons h1 (FzAll.eraseIdx k h2)
theorem FzAll.dropLast {K : PySem.W.Frag} {H : Hp} {ds : List D} {vs : List V} (h : FzAll K H ds vs) : FzAll K H ds.dropLast vs.dropLast := by
  rw [List.dropLast_eq_take, List.dropLast_eq_take, h.length]
  exact h.take _
theorem FzAll.one {K : PySem.W.Frag} {H : Hp} {d : D} {vs : List V} (h : FzAll K H [d] vs) : ∃ v, vs = [v] ∧ Fz K H d v := by
  obtain ⟨x, r, e, h1, h2⟩ := h
  rw [show r = [] from h2] at e
  exact ⟨x, e, h1⟩
theorem FzAll.two {K : PySem.W.Frag} {H : Hp} {c d : D} {vs : List V} (h : FzAll K H [c, d] vs) : ∃ u v, vs = [u, v] ∧ Fz K H c u ∧ Fz K H d v := by
  obtain ⟨x, r, e, h1, h2⟩ := h
  obtain ⟨y, e2, h3⟩ := FzAll.one h2
  exact ⟨x, y, by rw [e, e2], h1, h3⟩
theorem if_some' {α : Type} {c : Prop} [Decidable c] {x : Option α} {y : α} (h : (if c then x else none) = some y) : c ∧ x = some y := by
  by_cases hc : c
  · rw [if_pos hc] at h; exact ⟨hc, h⟩
  · rw [if_neg hc] at h; cases h
theorem m_append {K : PySem.W.Frag} : MOp K rAppend gAppend := by
  intro a vs xs es ds H Q res es' h1 h2 h3 e q
  unfold gAppend at e
  split at e
  · obtain ⟨hc, e⟩ := if_some e
    cases e
    obtain ⟨v, rfl, hv⟩ := h3.one
    exact ⟨a, vs, v, rfl, rfl, h1, by rw [← h2.length]; exact hc, q _ _ rfl (h2.append (FzAll.cons hv FzAll.nil))⟩
  · cases e
theorem m_pop {K : PySem.W.Frag} : MOp K rPop gPop := by
  intro a vs xs es ds H Q res es' h1 h2 h3 e q
  unfold gPop at e
  split at e
  · obtain ⟨d, e1, e2⟩ := Option.map_eq_some_iff.mp e
    cases e2
    obtain ⟨v, q1, q2⟩ := h2.get e1
    rw [h2.length] at q1
    exact ⟨a, vs, v, rfl, h3, h1, q1, q _ _ q2 h2.dropLast⟩
  · cases e
theorem m_popAt {K : PySem.W.Frag} : MOp K rPopAt gPopAt := by
  intro a vs xs es ds H Q res es' h1 h2 h3 e q
  unfold gPopAt at e
  split at e
  · obtain ⟨hc, e⟩ := if_some' e
    obtain ⟨k, e0, e⟩ := Option.bind_eq_some_iff.mp e
    obtain ⟨d, e1, e2⟩ := Option.map_eq_some_iff.mp e
    cases e2
    obtain ⟨v, q1, q2⟩ := h2.get e1
    obtain ⟨w, rfl, hv⟩ := h3.one
    rw [h2.length] at e0
    exact ⟨a, vs, _, k, v, rfl, by rw [show w = V.int _ from hv], h1, hc.1, hc.2, e0, q1, q _ _ q2 (h2.eraseIdx k)⟩
  · cases e
theorem m_reverse {K : PySem.W.Frag} : MOp K rReverse gRevM := by
  intro a vs xs es ds H Q res es' h1 h2 h3 e q
  unfold gRevM at e
  split at e
  · cases e
    exact ⟨a, vs, rfl, h3, h1, q _ _ rfl h2.reverse⟩
  · cases e
section
variable {X : Cx} {W : WX} {a b c e o : Expr} {es : List Expr} {Ea Eb Ec E E0 Ei : S → Res R} {A : S → Res (List D)} {pos p p2 pos2 apos cpos : Pos} {name : Str} {T id : String} {r : V → List V → Hp → VK → Prop} {g : List D → List D → Option (D × List D)}
theorem post_mut {K : PySem.W.Frag} {mg : Str → Option Value} (hg : MOp K r g) {σv : L2.St} {H : Hp} {Q : VK} (h : rd K mg W (eMut g E0 A) σv H Q) : rd K mg W E0 σv H fun x H1 => tyV K "list" x H1 ∧ rdA K mg W A σv H1 fun xs H2 => r x xs H2 Q := by
  obtain ⟨σ, s, h⟩ := h
  refine ⟨σ, s, ?_⟩
  unfold eMut at h
  cases ea : E0 σ with
  | bad => rw [ea] at h; exact False.elim h
  | exc c σ1 => rw [ea] at h; exact h
  | ok r σ1 =>
    rw [ea] at h
    intro v H1 st rr
    cases r with
    | d x => exact False.elim h
    | own ds => exact False.elim h
    | slot i =>
      obtain ⟨e1, c0, ec0⟩ := rr
      simp only [Res.bind] at h
      split at h
      · rename_i hl
        obtain ⟨t0, es0, e0⟩ := isL_of hl
        obtain ⟨p, vs0, rfl, q, _⟩ := slot_at st.rel e1 e0
        refine ⟨.inl ⟨rfl, vs0, .inl (.inl q)⟩, σ1, st.rel, ?_⟩
        cases eb : A σ1 with
        | bad => rw [eb] at h; exact False.elim h
        | exc c σ2 => rw [eb] at h; exact Post.exc_later h st
        | ok ds σ2 =>
          rw [eb] at h
          intro xs H2 st2 hx
          simp only at h
          split at h
          · rename_i t es e2
            split at h
            · exact False.elim h
            · rename_i nt
              split at h
              · rename_i res es' eg
                obtain ⟨p', vs, ep, q1, q2⟩ := slot_at st2.rel e1 e2
                cases ep
                refine hg p vs xs es ds H2 Q res es' q1 q2 hx eg fun v' vs' hv hvs => ?_
                exact h _ _ ((st.trans st2).mut e2 nt e1 q1 hvs) (Fz.mono (imm_mut q1) _ hv)
              · exact False.elim h
          · exact False.elim h
      · exact False.elim h
theorem de_mut (pa : PlainAttrs "list") (slot : Slot "list" name id) (hty : typeOf (.builtin id) = pure (.type "method_descriptor")) (hm : MtR X id r) (hg : MOp X.K r g) (ho : DE X W o E0) (ha : DA X W (e :: es) A)
    (hbase : attributeBase o name X.env (eval o X.env) = eval o X.env := by rfl)
    (hfew : ((backTo cpos (starEach (e :: es) X.env)).all (fun x => !x.1) && (backToKw cpos (keywordEach [] X.env)).all (fun x => x.1.isSome)
      && decide ((e :: es).length + ([] : List Keyword).length + (if ([] : List Keyword).isEmpty then 0 else 1) < 30)) = true := by rfl)
    (hline : (apos.endLine == cpos.line) = true := by rfl) (hs : starEach (e :: es) X.env = (false, eval e X.env) :: starEach es X.env := by rfl) (hplain : (backTo cpos (starEach es X.env)).any (·.1) = false := by rfl) :
    DE X W (.Call (.Attribute o name apos) (e :: es) [] cpos) (eMut g E0 A) := pe_weak (pe_bm pa slot hty hm ho ha hbase hfew hline hs hplain) fun _ _ _ h => post_mut hg h
theorem de_mut0 (pa : PlainAttrs "list") (slot : Slot "list" name id) (hty : typeOf (.builtin id) = pure (.type "method_descriptor")) (hm : MtR X id r) (hg : MOp X.K r g) (ho : DE X W o E0)
    (hbase : attributeBase o name X.env (eval o X.env) = eval o X.env := by rfl) (hline : (apos.endLine == cpos.line) = true := by rfl) : DE X W (.Call (.Attribute o name apos) [] [] cpos) (eMut g E0 aNil) :=
  pe_weak (pe_bm0 pa slot hty hm ho hbase hline) fun σv H Q h => by
    obtain ⟨σ, s, h⟩ := post_mut hg h
    refine ⟨σ, s, ?_⟩
    cases ea : E0 σ with
    | bad => rw [ea] at h; exact h
    | exc c σ1 => rw [ea] at h; exact h
    | ok r σ1 =>
      rw [ea] at h
      intro v H1 st rr
      obtain ⟨h1, σ2, s2, h2⟩ := h v H1 st rr
      exact ⟨h1, h2 [] H1 (Step.refl s2) FzAll.nil⟩
theorem de_append (ho : DE X W o E0) (ha : DA X W [e] A)
    (hbase : attributeBase o "append" X.env (eval o X.env) = eval o X.env := by rfl)
    (hfew : ((backTo cpos (starEach [e] X.env)).all (fun x => !x.1) && (backToKw cpos (keywordEach [] X.env)).all (fun x => x.1.isSome)
      && decide ([e].length + ([] : List Keyword).length + (if ([] : List Keyword).isEmpty then 0 else 1) < 30)) = true := by rfl)
    (hline : (apos.endLine == cpos.line) = true := by rfl) (hs : starEach [e] X.env = (false, eval e X.env) :: starEach [] X.env := by rfl) (hplain : (backTo cpos (starEach [] X.env)).any (·.1) = false := by rfl) :
    DE X W (.Call (.Attribute o "append" apos) [e] [] cpos) (eMut gAppend E0 A) := de_mut PySem.F.plainAttrs_list PySem.F.slot_list_append PySem.F.type_list_append mt_append m_append ho ha hbase hfew hline hs hplain
theorem de_pop (ho : DE X W o E0) (hbase : attributeBase o "pop" X.env (eval o X.env) = eval o X.env := by rfl) (hline : (apos.endLine == cpos.line) = true := by rfl) : DE X W (.Call (.Attribute o "pop" apos) [] [] cpos) (eMut gPop E0 aNil) :=
  de_mut0 PySem.F.plainAttrs_list PySem.F.slot_list_pop PySem.F.type_list_pop mt_pop m_pop ho hbase hline
theorem de_popAt (ho : DE X W o E0) (ha : DA X W [e] A)
    (hbase : attributeBase o "pop" X.env (eval o X.env) = eval o X.env := by rfl)
    (hfew : ((backTo cpos (starEach [e] X.env)).all (fun x => !x.1) && (backToKw cpos (keywordEach [] X.env)).all (fun x => x.1.isSome)
      && decide ([e].length + ([] : List Keyword).length + (if ([] : List Keyword).isEmpty then 0 else 1) < 30)) = true := by rfl)
    (hline : (apos.endLine == cpos.line) = true := by rfl) (hs : starEach [e] X.env = (false, eval e X.env) :: starEach [] X.env := by rfl) (hplain : (backTo cpos (starEach [] X.env)).any (·.1) = false := by rfl) :
    DE X W (.Call (.Attribute o "pop" apos) [e] [] cpos) (eMut gPopAt E0 A) := de_mut PySem.F.plainAttrs_list PySem.F.slot_list_pop PySem.F.type_list_pop mt_popAt m_popAt ho ha hbase hfew hline hs hplain

/-! ### x[i] = e -/
@[simp] def eSetIx (E0 Ei E : S → Res R) (σ : S) : Res R := (E σ).bind fun r σ1 => (toD r σ1).bind fun d σ2 => (E0 σ2).bind fun r0 σ3 => match r0 with
  | .slot i => (Ei σ3).bind fun ri σ4 => (match view σ4 ri, σ4[i]? with
    | some (.int k), some (some (.l t es)) => if t = .lck then .bad else (match ixN es.length k with
      | some j => .ok (.d .none) (σ4.set i (some (.l t (es.set j d))))
      | none => .bad)
    | _, _ => .bad)
  | _ => .bad
@[simp] def sSetIx (E0 Ei E : S → Res R) : S → Out := sDrop (eSetIx E0 Ei E)
theorem ds_setIx {tpos : Pos} (he : DE X W e E) (ho : DE X W o E0) (hi : DE X W c Ei)
    (ha : ∀ v, assign (.Subscript o c tpos) X.env v = (do
      let ov ← holding [v] (eval o X.env)
      let iv ← holding [v, ov] (eval c X.env)
      standAt tpos
      holding [v, ov, iv] (setItem ov iv v)
      release [v, ov, iv] []) := by intro _; rfl) (hs : swapsWithSole [.Subscript o c tpos] e pos.line X.env = pure false := by rfl) (hw : swappedStores [.Subscript o c tpos] e X.env = pure none := by rfl)
    (h1 : (assignEach [.Subscript o c tpos] X.env).map (·.2) = [assign (.Subscript o c tpos) X.env] := by rfl) : DS X W (.Assign [.Subscript o c tpos] e pos) (sSetIx E0 Ei E) := ps_weak (ps_asg (de_frz he) (pg_sub ho hi set_list ha) hs hw h1) fun Dd σv H ⟨σ, s, h⟩ => by
  have h := PostS.ofRes (Rel := RRel X.K) (E := eSetIx E0 Ei E) h
  refine ⟨σ, s, ?_⟩
  unfold eSetIx at h
  unfold eFrz
  cases ea : E σ with
  | bad => rw [ea] at h; exact False.elim h
  | exc c σ1 => rw [ea] at h; exact h
  | ok r σ1 =>
    rw [ea] at h
    simp only [Res.bind] at h ⊢
    rcases toD_cases r σ1 with ⟨d, σ2, ed⟩ | ed
    · rw [ed] at h ⊢
      simp only at h ⊢
      intro v H1 st rr
      refine ⟨σ2, st.rel, ?_⟩
      cases eb : E0 σ2 with
      | bad => rw [eb] at h; exact False.elim h
      | exc c σ3 => rw [eb] at h; exact Post.exc_later h st
      | ok r0 σ3 =>
        rw [eb] at h
        intro v0 H2 st2 rr2
        have st12 := st.trans st2
        cases r0 with
        | d x => exact False.elim h
        | own ds => exact False.elim h
        | slot i =>
          obtain ⟨e1, _, _⟩ := rr2
          simp only at h
          refine ⟨σ3, st12.rel, ?_⟩
          cases ec : Ei σ3 with
          | bad => rw [ec] at h; exact False.elim h
          | exc c σ4 => rw [ec] at h; exact Post.exc_later h st12
          | ok ri σ4 =>
            rw [ec] at h
            intro vi H3 st3 rr3
            have st13 := st12.trans st3
            simp only at h
            split at h
            · rename_i k t es ei e2
              split at h
              · exact False.elim h
              · rename_i nt
                split at h
                · rename_i j ej
                  obtain ⟨p, vs, rfl, q1, q2⟩ := slot_at st13.rel e1 e2
                  have hd : Fz X.K H3 d v := Fz.mono ((st2.trans st3).imm st.rel) d rr
                  refine ⟨p, vs, k, j, rfl, view_int (rr3.view st13.rel ei), q1, by rw [← q2.length]; exact ej, ?_⟩
                  exact h .non _ (st13.mut e2 nt e1 q1 (q2.set j hd)) rfl
                · exact False.elim h
            · exact False.elim h
    · rw [ed] at h
      exact False.elim h

/-! ### x op= e, x a name of data -/
@[simp] def sAug (i : Nat) (g : D → D → Option R) (E : S → Res R) (σ : S) : Out := match σ[i]? with
  | some (some (.d x)) => (match E σ with
    | .ok r σ1 => (match view σ1 r with
      | some y => (match g x y with
        | some res => (match setSlot i (cOf res) σ1 with
          | some σ2 => .nx σ2
          | none => .bad)
        | none => .bad)
      | none => .bad)
    | .exc c σ1 => .exc c σ1
    | .bad => .bad)
  | _ => .bad
theorem ds_aug {i : Nat} {x : Str} {op : Operator} {ti : R2} {g : D → D → Option R} {pos' : Pos} (hN : X.N.Nodup) (ho : OpR X (inplaceOp op) ti) (hg : Op2 X.K ti g) (he : DE X W e E) (hi : X.N[i]? = some x := by rfl) (hx : Loc X.env.scope x := by first | exact Or.inl rfl | exact Or.inr rfl)
    (hf : X.fn x = true ∨ X.env.scope.names.lookup x = some .local := by first | exact .inl rfl | exact .inr rfl) : DS X W (.AugAssign (.Name x pos') op e pos) (sAug i g E) := ps_weak (ps_aug hN hi hx he (fun pins s σ H x y v u Q I rx ry h => augR ho I rx ry h) hf) fun Dd σv H ⟨σ, s, h⟩ => by
  unfold sAug at h
  split at h
  · rename_i x ex
    obtain ⟨vx, e1, hx⟩ := s.val i _ ex
    refine ⟨vx, e1, σ, s, ?_⟩
    cases ea : E σ with
    | bad => rw [ea] at h; exact False.elim h
    | exc c σ1 => rw [ea] at h; exact PostS.exc_of h
    | ok r σ1 =>
      rw [ea] at h
      intro v H1 st rr
      simp only at h
      split at h
      · rename_i y ey
        split at h
        · rename_i res eg
          split at h
          · rename_i σ2 e2
            refine hg x y vx v H1 _ res (Fz.view (Fz.mono (st.imm s) x hx)) (rr.view st.rel ey) eg fun v' H' nr => ?_
            have st' := st.trans (Step.same st.rel nr.same)
            refine h _ _ (store_res s st' (NewR.rrel st nr) (fun j z => ?_) e2)
            subst z
            exact nr
          · exact False.elim h
        · exact False.elim h
      · exact False.elim h
  · exact False.elim h

/-! ### targets -/
abbrev G := D → S → Option S
@[simp] def gN (i : Nat) : G := fun d σ => setSlot i (.d d) σ
@[simp] def gAll : List G → List D → S → Option S
  | [], [], σ => some σ
  | g :: gs, d :: ds, σ => (g d σ).bind fun σ1 => gAll gs ds σ1
  | _, _, _ => none
@[simp] def gT (gs : List G) : G := fun d σ => match d with
  | .tuple ds => gAll gs ds σ
  | _ => none
def rdG (K : PySem.W.Frag) (vs : List Nat) (g : G) : TG := fun v σv H Q => ∃ σ d σ2, SRel K H σ σv ∧ Fz K H d v ∧ g d σ = some σ2 ∧ ∀ σv', Later K H σ σv H σ2 σv' → σv'.length = σv.length → (∀ i, i ∉ vs → σv'[i]? = σv[i]?) → Q σv' H
def rdGs (K : PySem.W.Frag) (vs : List Nat) (gs : List G) : TGs := fun xs σv H Q => ∃ σ ds σ2, SRel K H σ σv ∧ FzAll K H ds xs ∧ gAll gs ds σ = some σ2 ∧ ∀ σv', Later K H σ σv H σ2 σv' → σv'.length = σv.length → (∀ i, i ∉ vs → σv'[i]? = σv[i]?) → Q σv' H
theorem pg_weak {X : Cx} {e : Expr} {t t' : TG} (h : PG X e t) (w : ∀ v σv H Q, t' v σv H Q → t v σv H Q) : PG X e t' := ⟨fun pins s σ H v u Q I r q => h.run pins s σ H v u Q I r (w v σ H Q q)⟩
theorem pgs_weak {X : Cx} {e : List Expr} {t t' : TGs} (h : PGs X e t) (w : ∀ v σv H Q, t' v σv H Q → t v σv H Q) : PGs X e t' := ⟨fun pins s σ H v u Q I r q => h.run pins s σ H v u Q I r (w v σ H Q q)⟩
abbrev DG (X : Cx) (e : Expr) (vs : List Nat) (g : G) : Prop := PG X e (rdG X.K vs g)
abbrev DGs (X : Cx) (es : List Expr) (vs : List Nat) (gs : List G) : Prop := PGs X es (rdGs X.K vs gs)
theorem dg_name {i : Nat} {x : Str} (hN : X.N.Nodup) (hi : X.N[i]? = some x := by rfl) (hx : Loc X.env.scope x := by first | exact Or.inl rfl | exact Or.inr rfl) (hf : X.fn x = true ∨ X.env.scope.names.lookup x = some .local := by first | exact .inl rfl | exact .inr rfl) : DG X (.Name x pos) [i] (gN i) :=
  pg_weak (pg_name hN hi hx hf) fun v σv H Q ⟨σ, d, σ2, s, hd, e, h⟩ => by
    obtain ⟨rfl, nl⟩ := setSlot_eq e
    refine h _ (Later.store s (Later.refl s) nl hd fun _ _ e => by cases e) (by rw [List.length_set]) fun j hj => ?_
    rw [List.getElem?_set_ne (by intro z; exact hj (by rw [z]; exact List.mem_singleton.mpr rfl))]
theorem dgs_nil : DGs X [] [] [] := pgs_weak pgs_nil fun xs σv H Q ⟨σ, ds, σ2, s, hd, e, h⟩ => by
  cases ds with
  | nil => cases e; exact ⟨hd, h _ (Later.refl s) rfl fun _ _ => rfl⟩
  | cons d ds => cases e
theorem dgs_cons {vs ws : List Nat} {g : G} {gs : List G} (h1 : DG X e vs g) (h2 : DGs X es ws gs)
    (hs : (assignEach (e :: es) X.env).map (·.2) = assign e X.env :: (assignEach es X.env).map (·.2) := by rfl) : DGs X (e :: es) (vs ++ ws) (g :: gs) := pgs_weak (pgs_cons h1 h2 hs) fun xs σv H Q ⟨σ, ds, σ2, s, hd, e, h⟩ => by
  cases ds with
  | nil => cases e
  | cons d ds =>
    obtain ⟨x, r, rfl, q1, q2⟩ := hd
    obtain ⟨σ1, e1, e2⟩ := Option.bind_eq_some_iff.mp e
    refine ⟨x, r, rfl, σ, d, σ1, s, q1, e1, fun σv1 l1 n1 o1 => ⟨σ1, ds, σ2, l1.rel, q2, e2, fun σv2 l2 n2 o2 => h _ (l1.trans l2) (n2.trans n1) fun i hi => ?_⟩⟩
    rw [List.mem_append, not_or] at hi
    exact (o2 i hi.2).trans (o1 i hi.1)
theorem dg_tup {k : Nat} {vs : List Nat} {gs : List G} (hc : X.calm = true) (h : DGs X es vs gs) (hn : (assignEach es X.env).length = gs.length := by rfl) (hst : (assignEach es X.env).findIdx? (·.1) = none := by rfl) : DG X (.Tuple es k pos) vs (gT gs) :=
  pg_weak (pg_tup hc h hn hst) fun v σv H Q ⟨σ, d, σ2, s, hd, e, h⟩ => by
    cases d with
    | tuple ds =>
      obtain ⟨a, xs, rfl, q1, q2⟩ := hd
      have hl : ∀ (gs : List G) (ds : List D) (σ σ2 : S), gAll gs ds σ = some σ2 → ds.length = gs.length := by
        intro gs
        induction gs with
        | nil => intro ds σ σ2 e; cases ds with
          | nil => rfl
          | cons => cases e
        | cons g gs ih => intro ds σ σ2 e; cases ds with
          | nil => cases e
          | cons d ds =>
            obtain ⟨σ1, _, e2⟩ := Option.bind_eq_some_iff.mp e
            rw [List.length_cons, List.length_cons, ih ds σ1 σ2 e2]
      exact ⟨a, xs, rfl, q1, by rw [← q2.length]; exact hl _ _ _ _ e, σ, ds, σ2, s, q2, e, h⟩
    | _ => cases e
/-- target = e, by data -/
@[simp] def sUnp (g : G) (E : S → Res R) (σ : S) : Out := match (E σ).bind toD with
  | .ok d σ1 => (match g d σ1 with
    | some σ2 => .nx σ2
    | none => .bad)
  | .exc c σ1 => .exc c σ1
  | .bad => .bad
theorem ds_unp {vs : List Nat} {g : G} {tg : Expr} (he : DE X W e E) (hg : DG X tg vs g) (hs : swapsWithSole [tg] e pos.line X.env = pure false := by rfl) (hw : swappedStores [tg] e X.env = pure none := by rfl)
    (h1 : (assignEach [tg] X.env).map (·.2) = [assign tg X.env] := by rfl) : DS X W (.Assign [tg] e pos) (sUnp g E) := ps_weak (ps_asg (de_frz he) hg hs hw h1) fun Dd σv H ⟨σ, s, h⟩ => by
  refine ⟨σ, s, ?_⟩
  unfold sUnp at h
  unfold eFrz
  cases ea : E σ with
  | bad => rw [ea] at h; exact False.elim h
  | exc c σ1 => rw [ea] at h; exact PostS.exc_of h
  | ok r σ1 =>
    rw [ea] at h
    simp only [Res.bind] at h ⊢
    rcases toD_cases r σ1 with ⟨d, σ2, ed⟩ | ed
    · rw [ed] at h ⊢
      simp only at h ⊢
      intro v H1 st rr
      split at h
      · rename_i σ3 e3
        exact ⟨σ2, d, σ3, st.rel, rr, e3, fun σv' l _ _ => h _ _ (st.toLater.trans l)⟩
      · exact False.elim h
    · rw [ed] at h
      exact False.elim h

/-! ### x, y = a, b (names of the frame): the values are not put in a tuple -/
def RNew (K : PySem.W.Frag) (H H' : Hp) : R → V → Prop
  | .d x, v => Fz K H' x v
  | .own ds, v => ∃ a vs, v = .ref a ∧ H a = none ∧ H' a = some (.lst vs) ∧ FzAll K H' ds vs
  | .slot _, _ => False
def RAll (K : PySem.W.Frag) : Hp → Hp → List R → List V → Prop
  | _, _, [], vs => vs = []
  | H, H', r :: rs, vs => ∃ v w Hm, vs = v :: w ∧ RNew K H H' r v ∧ (∀ b, Hm b = none → H b = none) ∧ (∀ ds p, r = .own ds → v = .ref p → Hm p ≠ none) ∧ RAll K Hm H' rs w
def rdR (K : PySem.W.Frag) (mg : Str → Option Value) (W : WX) (T : S → Res (List R)) : TA := fun σv H Q => ∃ σ, SRel K H σ σv ∧ Post K mg W (fun H H' _ _ rs vs => RAll K H H' rs vs) H σ σv Q (T σ)
@[simp] def rNil (σ : S) : Res (List R) := .ok [] σ
@[simp] def rCons (E : S → Res R) (A : S → Res (List R)) (σ : S) : Res (List R) := (eMov E σ).bind fun r σ1 => (A σ1).bind fun rs σ2 => .ok (r :: rs) σ2
abbrev DR (X : Cx) (W : WX) (es : List Expr) (A : S → Res (List R)) : Prop := PA X es (rdR X.K X.mg W A)
theorem dr_nil : DR X W [] rNil := pa_weak pa_nil fun σv H Q ⟨σ, s, h⟩ => h [] H (Step.refl s) rfl
theorem RNew.of {K : PySem.W.Frag} {H H' : Hp} {σ' : S} {σv : L2.St} {r : R} {v : V} (h : RRel K H H' σ' σv r v) (ns : ∀ j, r ≠ .slot j) : RNew K H H' r v := by
  cases r with
  | d x => exact h
  | own ds => exact h
  | slot i => exact absurd rfl (ns i)
theorem dr_cons {AR : S → Res (List R)} (ha : DE X W e E) (hr : DR X W es AR) (hs : starEach (e :: es) X.env = (false, eval e X.env) :: starEach es X.env := by rfl) : DR X W (e :: es) (rCons E AR) := by
  refine pa_weak (pa_cons (de_mov ha) hr hs) fun σv H Q ⟨σ, s, h⟩ => ⟨σ, s, ?_⟩
  unfold rCons at h
  cases ea : eMov E σ with
  | bad => rw [ea] at h; exact False.elim h
  | exc c σ1 => rw [ea] at h; exact h
  | ok r σ1 =>
    rw [ea] at h
    simp only [Res.bind] at h
    intro v H1 st rr
    refine ⟨σ1, st.rel, ?_⟩
    cases ee : AR σ1 with
    | bad => rw [ee] at h; exact False.elim h
    | exc c σ3 => rw [ee] at h; exact Post.exc_later h st
    | ok ds σ3 =>
      rw [ee] at h
      intro vs H2 st2 rr2
      refine h _ _ (st.trans st2) ⟨v, vs, H1, rfl, RNew.of (rr.later s st st2) (eMov_slot ea), st.keep.gone, fun ds p er ev => ?_, rr2⟩
      subst er ev
      obtain ⟨_, _, e, _, h1, _⟩ := rr
      cases e
      rw [h1]
      exact fun z => by cases z
@[simp] def setAll : List Nat → List R → S → Option S
  | [], [], σ => some σ
  | i :: is, r :: rs, σ => (setSlot i (cOf r) σ).bind fun σ1 => setAll is rs σ1
  | _, _, _ => none
def setVs : List Nat → List V → L2.St → L2.St
  | i :: is, v :: vs, σv => setVs is vs (σv.set i (some v))
  | _, _, σv => σv
theorem storeAll {K : PySem.W.Frag} {H H1 : Hp} {σ : S} {σv : L2.St} (s0 : SRel K H σ σv) : ∀ (is : List Nat) (rs : List R) (vs : List V) (Hm : Hp) (σ1 σ2 : S) (σv1 : L2.St), Later K H σ σv H1 σ1 σv1 → (∀ b, Hm b = none → H b = none) → (∀ j t a, At σ1 σv1 j t a → Hm a ≠ none) →
    RAll K Hm H1 rs vs → setAll is rs σ1 = some σ2 → Later K H σ σv H1 σ2 (setVs is vs σv1)
  | [], [], vs, Hm, σ1, σ2, σv1, l, g, f, ra, e => by
    cases e
    exact l
  | [], r :: rs, _, _, _, _, _, _, _, _, _, e => by cases e
  | i :: is, [], _, _, _, _, _, _, _, _, _, e => by cases e
  | i :: is, r :: rs, vs, Hm, σ1, σ2, σv1, l, g, f, ra, e => by
    obtain ⟨v, w, Hn, rfl, rn, gn, fn, ra⟩ := ra
    obtain ⟨σ3, e1, e2⟩ := Option.bind_eq_some_iff.mp e
    obtain ⟨rfl, nl⟩ := setSlot_eq e1
    have nc : NewC K H σ σv H1 (cOf r) v := by
      cases r with
      | d x => exact rn
      | own ds =>
        obtain ⟨a, xs, e, h0, h1, h2⟩ := rn
        exact ⟨a, xs, e, g a h0, h1, h2⟩
      | slot j => exact False.elim rn
    have l2 := Later.store s0 l nl nc fun ds a ec ev j t hat => by
      cases r with
      | d x => cases ec
      | own ds' =>
        obtain ⟨b, xs, e, h0, _⟩ := rn
        rw [ev] at e
        cases e
        exact f j t a hat h0
      | slot j => exact False.elim rn
    refine storeAll s0 is rs w Hn _ σ2 _ l2 (fun b hb => g b (gn b hb)) (fun j t a hat => ?_) ra e2
    by_cases hj : j = i
    · subst hj
      obtain ⟨⟨ds, q⟩, qv⟩ := hat
      have hl : j < σ1.length := by
        have := (List.getElem?_eq_some_iff.mp q).1
        rw [List.length_set] at this
        exact this
      rw [List.getElem?_set_self hl] at q
      rw [List.getElem?_set_self (by rw [← l.rel.len]; exact hl)] at qv
      injection qv with qv
      injection qv with qv
      subst qv
      cases r with
      | d x => cases q
      | own ds' => exact fn _ a rfl rfl
      | slot j => exact False.elim rn
    · obtain ⟨⟨ds, q⟩, qv⟩ := hat
      rw [List.getElem?_set_ne (Ne.symm hj)] at q qv
      intro z
      exact f j t a ⟨⟨ds, q⟩, qv⟩ (gn a z)
@[simp] def sPar (is : List Nat) (A : S → Res (List R)) (σ : S) : Out := match A σ with
  | .ok rs σ1 => (match setAll is rs σ1 with
    | some σ2 => .nx σ2
    | none => .bad)
  | .exc c σ1 => .exc c σ1
  | .bad => .bad
theorem par_post {K : PySem.W.Frag} {mg : Str → Option Value} {is : List Nat} {AR : S → Res (List R)} {Dd : Ends} {σv : L2.St} {H : Hp} (h : rdS K mg W (sPar is AR) Dd σv H) : rdR K mg W AR σv H fun vs H1 => is.length = vs.length ∧ Dd.nx (setVs is vs σv) H1 := by
  obtain ⟨σ, s, h⟩ := h
  refine ⟨σ, s, ?_⟩
  unfold sPar at h
  cases ea : AR σ with
  | bad => rw [ea] at h; exact False.elim h
  | exc c σ1 => rw [ea] at h; exact PostS.exc_of h
  | ok rs σ1 =>
    rw [ea] at h
    intro vs H1 st rr
    simp only at h
    split at h
    · rename_i σ2 e2
      have hl : ∀ (is : List Nat) (rs : List R) (vs : List V) (H : Hp) (σ σ2 : S), setAll is rs σ = some σ2 → RAll K H H1 rs vs → is.length = vs.length := by
        intro is
        induction is with
        | nil => intro rs vs H σ σ2 e ra; cases rs with
          | nil => rw [show vs = [] from ra]; rfl
          | cons => cases e
        | cons i is ih => intro rs vs H σ σ2 e ra; cases rs with
          | nil => cases e
          | cons r rs =>
            obtain ⟨σ1, _, e2⟩ := Option.bind_eq_some_iff.mp e
            obtain ⟨v, w, Hn, rfl, _, _, _, ra⟩ := ra
            rw [List.length_cons, List.length_cons, ih rs w _ σ1 σ2 e2 ra]
      refine ⟨hl _ _ _ _ _ _ e2 rr, h _ _ (storeAll s is rs vs H σ1 σ2 σv st.toLater (fun _ h => h) (fun j t a hat z => ?_) rr e2)⟩
      obtain ⟨vs0, _, q0, _⟩ := s.at_lst (st.sub.at hat)
      rw [z] at q0
      cases q0
    · exact False.elim h
theorem ds_par {i j : Nat} {x y : Str} {px py pt : Pos} {kt k2 pt2} {AR : S → Res (List R)} (hc : X.calm = true) (hN : X.N.Nodup) (ha : DR X W [a, b] AR) (hi : X.N[i]? = some x := by rfl) (hj : X.N[j]? = some y := by rfl) (hij : i ≠ j := by decide)
    (hx : X.env.scope.names.lookup x = some .local := by rfl) (hy : X.env.scope.names.lookup y = some .local := by rfl)
    (hw : swappedStores [.Tuple [.Name x px, .Name y py] kt pt] (.Tuple [a, b] k2 pt2) X.env = pure (some [x, y]) := by rfl)
    (hs : swapsWithSole [.Tuple [.Name x px, .Name y py] kt pt] (.Tuple [a, b] k2 pt2) pos.line X.env = pure false := by rfl) :
    DS X W (.Assign [.Tuple [.Name x px, .Name y py] kt pt] (.Tuple [a, b] k2 pt2) pos) (sPar [i, j] AR) := ps_weak (ps_par hc hN hi hj hij hx hy ha hw hs) fun Dd σv H h => by
  obtain ⟨σ, s, h⟩ := par_post h
  refine ⟨σ, s, ?_⟩
  cases ea : AR σ with
  | bad => rw [ea] at h; exact h
  | exc c σ1 => rw [ea] at h; exact h
  | ok rs σ1 =>
    rw [ea] at h
    intro vs H1 st rr
    obtain ⟨hl, h⟩ := h vs H1 st rr
    match vs, hl, h with
    | [v, w], _, h => exact ⟨v, w, rfl, h⟩
theorem ds_par3 {i j l : Nat} {x y z : Str} {px py pz pt : Pos} {kt k2 pt2} {AR : S → Res (List R)} (hc : X.calm = true) (hN : X.N.Nodup) (ha : DR X W [a, b, c] AR) (hi : X.N[i]? = some x := by rfl) (hj : X.N[j]? = some y := by rfl) (hl : X.N[l]? = some z := by rfl) (hij : i ≠ j := by decide) (hil : i ≠ l := by decide) (hjl : j ≠ l := by decide)
    (hx : X.env.scope.names.lookup x = some .local := by rfl) (hy : X.env.scope.names.lookup y = some .local := by rfl) (hz : X.env.scope.names.lookup z = some .local := by rfl)
    (hw : swappedStores [.Tuple [.Name x px, .Name y py, .Name z pz] kt pt] (.Tuple [a, b, c] k2 pt2) X.env = pure (some [x, y, z]) := by rfl)
    (hs : swapsWithSole [.Tuple [.Name x px, .Name y py, .Name z pz] kt pt] (.Tuple [a, b, c] k2 pt2) pos.line X.env = pure false := by rfl) :
    DS X W (.Assign [.Tuple [.Name x px, .Name y py, .Name z pz] kt pt] (.Tuple [a, b, c] k2 pt2) pos) (sPar [i, j, l] AR) := ps_weak (ps_par3 hc hN hi hj hl hij hil hjl hx hy hz ha hw hs) fun Dd σv H h => by
  obtain ⟨σ, s, h⟩ := par_post h
  refine ⟨σ, s, ?_⟩
  cases ea : AR σ with
  | bad => rw [ea] at h; exact h
  | exc c σ1 => rw [ea] at h; exact h
  | ok rs σ1 =>
    rw [ea] at h
    intro vs H1 st rr
    obtain ⟨hl, h⟩ := h vs H1 st rr
    match vs, hl, h with
    | [u, v, w], _, h => exact ⟨u, v, w, rfl, h⟩
/-! aug ops -/
theorem ia_add : OpR X (inplaceOp .Add) (fun x y H Q => rI0 (fun i j => .int (i + j)) x y H Q ∨ (∃ i j, x = .str i ∧ y = .str j ∧ i.length + j.length ≤ sizeLine ∧ Q (.str (i ++ j)) H)) := iop_add.or iop_add_str
@[simp] def gIAdd : D → D → Option R
  | .int i, .int j => some (.d (.int (i + j)))
  | .str x, .str y => if x.length + y.length ≤ sizeLine then some (.d (.str (x ++ y))) else none
  | _, _ => none
theorem gIAdd_ok {K : PySem.W.Frag} : Op2 K (fun x y H Q => rI0 (fun i j => .int (i + j)) x y H Q ∨ (∃ i j, x = .str i ∧ y = .str j ∧ i.length + j.length ≤ sizeLine ∧ Q (.str (i ++ j)) H)) gIAdd := by
  intro a b va vb H Q res ha hb e q
  unfold gIAdd at e
  split at e
  · cases e
    exact .inl ⟨_, _, view_int ha, view_int hb, q _ _ new_int⟩
  · obtain ⟨hc, e⟩ := if_some e
    subst e
    exact .inr ⟨_, _, view_str ha, view_str hb, hc, q _ _ new_str⟩
  · cases e
abbrev gMulI := gInt mulOk fun i j => i * j
theorem gMulI_ok {K : PySem.W.Frag} : Op2 K (rI IntMulOk fun i j => .int (i * j)) gMulI := gInt_ok fun _ _ h => mulOk.ok h
theorem gFdv_ok {K : PySem.W.Frag} : Op2 K (rI CDivW fun i j => .int (i / j)) gFdv := gInt_ok fun i j h => by rw [divOk, Bool.and_eq_true] at h; exact ⟨of_decide_eq_true h.1, of_decide_eq_true h.2⟩
theorem gMod_ok {K : PySem.W.Frag} : Op2 K (rI (fun _ j => 0 < j) fun i j => .int (i % j)) gMod := gInt_ok fun i j h => of_decide_eq_true h
theorem ds_augAdd {i : Nat} {x : Str} {pos' : Pos} (hN : X.N.Nodup) (he : DE X W e E) (hi : X.N[i]? = some x := by rfl) (hx : Loc X.env.scope x := by first | exact Or.inl rfl | exact Or.inr rfl)
    (hf : X.fn x = true ∨ X.env.scope.names.lookup x = some .local := by first | exact .inl rfl | exact .inr rfl) : DS X W (.AugAssign (.Name x pos') .Add e pos) (sAug i gIAdd E) := ds_aug hN ia_add gIAdd_ok he hi hx hf
theorem ds_augSub {i : Nat} {x : Str} {pos' : Pos} (hN : X.N.Nodup) (he : DE X W e E) (hi : X.N[i]? = some x := by rfl) (hx : Loc X.env.scope x := by first | exact Or.inl rfl | exact Or.inr rfl)
    (hf : X.fn x = true ∨ X.env.scope.names.lookup x = some .local := by first | exact .inl rfl | exact .inr rfl) : DS X W (.AugAssign (.Name x pos') .Sub e pos) (sAug i gSub E) := ds_aug hN iop_sub gI0_ok he hi hx hf
theorem ds_augMul {i : Nat} {x : Str} {pos' : Pos} (hN : X.N.Nodup) (he : DE X W e E) (hi : X.N[i]? = some x := by rfl) (hx : Loc X.env.scope x := by first | exact Or.inl rfl | exact Or.inr rfl)
    (hf : X.fn x = true ∨ X.env.scope.names.lookup x = some .local := by first | exact .inl rfl | exact .inr rfl) : DS X W (.AugAssign (.Name x pos') .Mult e pos) (sAug i gMulI E) := ds_aug hN iop_mulI gMulI_ok he hi hx hf
theorem ds_augFdv {i : Nat} {x : Str} {pos' : Pos} (hN : X.N.Nodup) (he : DE X W e E) (hi : X.N[i]? = some x := by rfl) (hx : Loc X.env.scope x := by first | exact Or.inl rfl | exact Or.inr rfl)
    (hf : X.fn x = true ∨ X.env.scope.names.lookup x = some .local := by first | exact .inl rfl | exact .inr rfl) : DS X W (.AugAssign (.Name x pos') .FloorDiv e pos) (sAug i gFdv E) := ds_aug hN iop_fdivW gFdv_ok he hi hx hf
theorem ds_augMod {i : Nat} {x : Str} {pos' : Pos} (hN : X.N.Nodup) (he : DE X W e E) (hi : X.N[i]? = some x := by rfl) (hx : Loc X.env.scope x := by first | exact Or.inl rfl | exact Or.inr rfl)
    (hf : X.fn x = true ∨ X.env.scope.names.lookup x = some .local := by first | exact .inl rfl | exact .inr rfl) : DS X W (.AugAssign (.Name x pos') .Mod e pos) (sAug i gMod E) := ds_aug hN iop_mod gMod_ok he hi hx hf
end
end FL

set_option Elab.async false
set_option linter.all false
set_option maxRecDepth 100000
set_option maxHeartbeats 2000000
/-! FL: loops. -/
namespace FL
open PySem PySem.Spec PyProof.Rows L2 RT RZ

/-! ### while -/
def whileN : Nat → (S → Res Bool) → (S → Out) → S → Out
  | 0, _, _, _ => .bad
  | n + 1, T, B, σ => match T σ with
    | .ok b σ1 => if b = true then (match B σ1 with
      | .nx σ2 => whileN n T B σ2
      | .cnt σ2 => whileN n T B σ2
      | .brk σ2 => .nx σ2
      | .ret r σ2 => .ret r σ2
      | .exc c σ2 => .exc c σ2
      | .bad => .bad) else .nx σ1
    | .exc c σ1 => .exc c σ1
    | .bad => .bad
noncomputable def sWhile (T : S → Res Bool) (B : S → Out) (σ : S) : Out := open Classical in if h : ∃ n, whileN n T B σ ≠ .bad then whileN h.choose T B σ else .bad
theorem whileN_succ {T : S → Res Bool} {B : S → Out} : ∀ (n : Nat) (σ : S), whileN n T B σ ≠ .bad → whileN (n + 1) T B σ = whileN n T B σ
  | 0, σ, h => absurd rfl h
  | n + 1, σ, h => by
    show whileN (n + 1 + 1) T B σ = _
    unfold whileN at h ⊢
    cases hT : T σ with
    | bad => rfl
    | exc c σ1 => rfl
    | ok b σ1 =>
      rw [hT] at h
      cases b with
      | false => rfl
      | true =>
        simp only [if_true] at h ⊢
        cases hB : B σ1 with
        | nx σ2 => rw [hB] at h; exact whileN_succ n σ2 h
        | cnt σ2 => rw [hB] at h; exact whileN_succ n σ2 h
        | brk σ2 => rfl
        | ret r σ2 => rfl
        | exc c σ2 => rfl
        | bad => rfl
theorem whileN_add {T : S → Res Bool} {B : S → Out} {n : Nat} {σ : S} (h : whileN n T B σ ≠ .bad) : ∀ k, whileN (n + k) T B σ = whileN n T B σ
  | 0 => rfl
  | k + 1 => by
    have e := whileN_add h k
    show whileN (n + k + 1) T B σ = _
    rw [whileN_succ (n + k) σ (by rw [e]; exact h), e]
theorem sWhile_of {T : S → Res Bool} {B : S → Out} {n : Nat} {σ : S} {o : Out} (e : whileN n T B σ = o) (h : o ≠ .bad) : sWhile T B σ = o := by
  have ex : ∃ n, whileN n T B σ ≠ .bad := ⟨n, by rw [e]; exact h⟩
  have e1 : sWhile T B σ = whileN ex.choose T B σ := by unfold sWhile; rw [dif_pos ex]
  rw [e1, ← e]
  have h1 := ex.choose_spec
  have h2 : whileN n T B σ ≠ .bad := by rw [e]; exact h
  rw [← whileN_add h1 n, ← whileN_add h2 ex.choose, Nat.add_comm]
theorem sWhile_eq (T : S → Res Bool) (B : S → Out) (σ : S) : sWhile T B σ = .bad ∨ ∃ n, sWhile T B σ = whileN n T B σ := by
  by_cases h : ∃ n, whileN n T B σ ≠ .bad
  · exact .inr ⟨h.choose, by unfold sWhile; rw [dif_pos h]⟩
  · exact .inl (by unfold sWhile; rw [dif_neg h])
/-- one turn more -/
theorem sWhile_next {T : S → Res Bool} {B : S → Out} {σ σ1 σ2 : S} (h1 : T σ = .ok true σ1) (h2 : B σ1 = .nx σ2 ∨ B σ1 = .cnt σ2) : sWhile T B σ = sWhile T B σ2 := by
  have st : ∀ n, whileN (n + 1) T B σ = whileN n T B σ2 := fun n => by
    show whileN (n + 1) T B σ = _
    conv => lhs; unfold whileN
    rw [h1]
    simp only [if_true]
    rcases h2 with h2 | h2 <;> rw [h2]
  by_cases h : ∃ n, whileN n T B σ2 ≠ .bad
  · obtain ⟨n, hn⟩ := h
    rw [sWhile_of (o := whileN n T B σ2) (st n) hn, sWhile_of (o := whileN n T B σ2) rfl hn]
  · have h' : ¬ ∃ n, whileN n T B σ ≠ .bad := fun ⟨n, hn⟩ => by
      cases n with
      | zero => exact hn rfl
      | succ n => exact h ⟨n, by rw [← st n]; exact hn⟩
    unfold sWhile
    rw [dif_neg h, dif_neg h']
theorem sWhile_stop {T : S → Res Bool} {B : S → Out} {σ σ1 : S} (h1 : T σ = .ok false σ1) : sWhile T B σ = .nx σ1 :=
  sWhile_of (n := 1) (by unfold whileN; rw [h1]; rfl) fun z => by cases z
theorem sWhile_brk {T : S → Res Bool} {B : S → Out} {σ σ1 σ2 : S} (h1 : T σ = .ok true σ1) (h2 : B σ1 = .brk σ2) : sWhile T B σ = .nx σ2 :=
  sWhile_of (n := 1) (by unfold whileN; rw [h1]; simp only [if_true]; rw [h2]) fun z => by cases z
theorem sWhile_ret {T : S → Res Bool} {B : S → Out} {σ σ1 σ2 : S} {r : R} (h1 : T σ = .ok true σ1) (h2 : B σ1 = .ret r σ2) : sWhile T B σ = .ret r σ2 :=
  sWhile_of (n := 1) (by unfold whileN; rw [h1]; simp only [if_true]; rw [h2]) fun z => by cases z

section
variable {X : Cx} {W : WX} {a b c e o tg iter : Expr} {es : List Expr} {Ea Eb Ec E E0 Ei : S → Res R} {A : S → Res (List D)} {T : S → Res Bool} {B : S → Out} {pos p p2 pos2 : Pos} {body : List Stmt} {vs : List Nat} {g : G} {It : S → Res (List D)}
theorem ds_while (hp : PassesOwn (model X.prog X.w) X.A X.env X.xe) (hc : DT X W c T) (hb : DSs X W body B) : DS X W (.While c body [] pos) (sWhile T B) := ps_weak (ps_while hp hc hb) fun Dd σv H ⟨σ, s, h⟩ => by
  rcases sWhile_eq T B σ with e | ⟨n, e⟩
  · rw [e] at h; exact False.elim h
  rw [e] at h
  refine ⟨fun m σv H => ∃ σ, SRel X.K H σ σv ∧ PostS X.K X.mg W H σ σv Dd (whileN m T B σ), ⟨n, σ, s, h⟩, fun m σv H ⟨σ, s, h⟩ => ⟨σ, s, ?_⟩⟩
  cases m with
  | zero => exact False.elim h
  | succ m =>
    unfold whileN at h
    cases hT : T σ with
    | bad => rw [hT] at h; exact False.elim h
    | exc c σ1 => rw [hT] at h; exact PostS.exc_of h
    | ok b σ1 =>
      rw [hT] at h
      intro b' H1 st eb
      subst eb
      cases b with
      | false => exact h σv H1 st.toLater
      | true =>
        simp only [if_true] at h
        rw [if_pos rfl]
        refine ⟨fun σv' H' => ∃ σ, SRel X.K H' σ σv' ∧ PostS X.K X.mg W H' σ σv' Dd (whileN m T B σ), fun σv' H' w => ⟨m, Nat.lt_succ_self m, w⟩, σ1, st.rel, ?_⟩
        cases hB : B σ1 with
        | nx σ2 => rw [hB] at h; exact fun σv' H' l => ⟨σ2, l.rel, PostS.later (st.toLater.trans l) h⟩
        | cnt σ2 => rw [hB] at h; exact fun σv' H' l => ⟨σ2, l.rel, PostS.later (st.toLater.trans l) h⟩
        | brk σ2 => rw [hB] at h; exact fun σv' H' l => h σv' H' (st.toLater.trans l)
        | ret r σ2 => rw [hB] at h; exact PostS.later (o := .ret r σ2) st.toLater h
        | exc c σ2 => rw [hB] at h; exact PostS.later (o := .exc c σ2) st.toLater h
        | bad => rw [hB] at h; exact h

/-! ### what is walked -/
def IRel (K : PySem.W.Frag) (H : Hp) (ds : List D) (J : L2.It) : Prop :=
  ∃ Gd Y, Walk J ds.length Gd Y ∧ (∀ H', Imm H H' → Gd H') ∧ ∀ i H2 x H3, Imm H H2 → i < ds.length → Y i H2 x H3 → ∃ d, ds[i]? = some d ∧ Same H2 H3 ∧ Fz K H3 d x
def rdI (K : PySem.W.Frag) (mg : Str → Option Value) (W : WX) (It : S → Res (List D)) : TI := fun σv H Rr => ∃ σ, SRel K H σ σv ∧ Post K mg W (fun _ H' _ _ ds J => IRel K H' ds J) H σ σv Rr (It σ)
theorem pi_weak {X : Cx} {tg e : Expr} {t t' : TI} (h : PI X tg e t) (w : ∀ σv H Q, t' σv H Q → t σv H Q) : PI X tg e t' := ⟨fun pins s σ H Rr I q => h.run pins s σ H Rr I (w σ H Rr q)⟩
theorem pi_or {X : Cx} {tg e : Expr} {t t' : TI} (h : PI X tg e t) (h' : PI X tg e t') : PI X tg e (fun σv H Q => t σv H Q ∨ t' σv H Q) := ⟨fun pins s σ H Rr I q => q.elim (h.run pins s σ H Rr I) (h'.run pins s σ H Rr I)⟩
abbrev DI (X : Cx) (W : WX) (tg e : Expr) (It : S → Res (List D)) : Prop := PI X tg e (rdI X.K X.mg W It)
/-- the items of data -/
@[simp] def itemsOf : D → Option (List D)
  | .list ds => some ds
  | .tuple ds => some ds
  | .str z => some (z.cps.toList.map fun c => PyData.str ⟨#[c]⟩)
  | _ => none
@[simp] def iE (E : S → Res R) (σ : S) : Res (List D) := (E σ).bind fun r σ1 => (toD r σ1).bind fun d σ2 => match itemsOf d with
  | some ds => .ok ds σ2
  | none => .bad
theorem irel_list {K : PySem.W.Frag} {H : Hp} {a : Addr} {xs : List V} {ds : List D} (h1 : FzL H a xs) (h2 : FzAll K H ds xs) : IRel K H ds (Itl K a) := by
  refine ⟨_, _, by rw [h2.length]; exact walk_list (xs := xs), fun H' m => Or.inl (m.fzl h1).rd, fun i H2 x H3 m hi y => ?_⟩
  obtain ⟨rfl, y⟩ := y
  obtain ⟨d, e, hd⟩ := (FzAll.mono m ds h2).get' y
  exact ⟨d, e, Same.refl _, hd⟩
theorem irel_tup {K : PySem.W.Frag} {H : Hp} {a : Addr} {xs : List V} {ds : List D} (h1 : SqT K H a xs) (h2 : FzAll K H ds xs) : IRel K H ds (Itt K a) := by
  refine ⟨_, _, by rw [h2.length]; exact walk_tup (xs := xs), fun H' m => m.sqt h1, fun i H2 x H3 m hi y => ?_⟩
  obtain ⟨rfl, y⟩ := y
  obtain ⟨d, e, hd⟩ := (FzAll.mono m ds h2).get' y
  exact ⟨d, e, Same.refl _, hd⟩
theorem irel_str {K : PySem.W.Frag} {H : Hp} {z : Str} : IRel K H (z.cps.toList.map fun c => PyData.str ⟨#[c]⟩) (Its z) := by
  refine ⟨_, _, by rw [List.length_map, Array.length_toList]; exact walk_str, fun H' m => trivial, fun i H2 x H3 m hi y => ?_⟩
  obtain ⟨rfl, c, e, rfl⟩ := y
  exact ⟨.str ⟨#[c]⟩, by rw [List.getElem?_map, Array.getElem?_toList, e]; rfl, Same.refl _, rfl⟩
theorem di_e (he : DE X W e E) : DI X W tg e (iE E) := by
  refine pi_weak (pi_or (pi_or (pi_list (de_frz he)) (pi_tup (de_frz he))) (pi_str (de_frz he))) fun σv H Q ⟨σ, s, h⟩ => ?_
  unfold iE at h
  have hE : eFrz E σ = (E σ).bind fun r σ1 => (toD r σ1).bind fun d σ2 => .ok (.d d) σ2 := rfl
  cases ea : E σ with
  | bad => rw [ea] at h; exact False.elim h
  | exc c σ1 =>
    rw [ea] at h
    refine .inl (.inl ⟨σ, s, ?_⟩)
    rw [hE, ea]
    exact h
  | ok r σ1 =>
    rw [ea] at h hE
    simp only [Res.bind] at h hE
    rcases toD_cases r σ1 with ⟨d, σ2, ed⟩ | ed
    · rw [ed] at h hE
      simp only at h hE
      split at h
      · rename_i ds ei
        cases d with
        | list ys =>
          cases ei
          refine .inl (.inl ⟨σ, s, ?_⟩)
          rw [hE]
          intro v H1 st ⟨a, xs, e1, h1, h2⟩
          exact ⟨a, e1, ⟨xs, .inl h1.rd⟩, h _ _ st (irel_list h1 h2)⟩
        | tuple ys =>
          cases ei
          refine .inl (.inr ⟨σ, s, ?_⟩)
          rw [hE]
          intro v H1 st ⟨a, xs, e1, h1, h2⟩
          exact ⟨a, e1, ⟨xs, h1⟩, h _ _ st (irel_tup h1 h2)⟩
        | str z =>
          cases ei
          refine .inr ⟨σ, s, ?_⟩
          rw [hE]
          intro v H1 st ev
          exact ⟨z, ev, h _ _ st irel_str⟩
        | _ => cases ei
      · exact False.elim h
    · rw [ed] at h
      exact False.elim h
theorem walk_revT {K : PySem.W.Frag} {a : Addr} {xs : List V} : Walk (ItvT K a xs.length) xs.length (fun H => SqT K H a xs) (fun i H x H' => H' = H ∧ xs[xs.length - 1 - i]? = some x) :=
  ⟨fun i _ hi q => ⟨hi, xs, xs[xs.length - 1 - i]'(by omega), q, by simp [show xs.length - 1 - i < xs.length by omega]⟩, fun _ _ => Nat.le_refl _, fun _ _ _ _ _ q y => ⟨y.1, y.2 xs q⟩⟩
theorem walk_zipT {K : PySem.W.Frag} {a b : Addr} {xs ys : List V} {n : Nat} (hn : n = min xs.length ys.length) : Walk (ItzT K a b) n (fun H => SqT K H a xs ∧ SqT K H b ys) (YPair (fun i => xs[i]?) (fun i => ys[i]?)) := by
  subst hn
  refine ⟨fun i _ hi q => ?_, fun _ q => ⟨xs, ys, q.1, q.2, by omega⟩, fun i H v H' _ q y => ?_⟩
  · have h1 : i < xs.length := by omega
    have h2 : i < ys.length := by omega
    exact ⟨xs, ys, xs[i], ys[i], q.1, q.2, by simp [h1], by simp [h2]⟩
  · obtain ⟨T, x, z, h1, h2, h3, h4, h5⟩ := y
    exact ⟨T, x, z, h1, h2, h3, h4 xs q.1, h5 ys q.2⟩
def rngL (lo : Int) (n : Nat) : List D := (List.range n).map fun i => PyData.int (lo + (i : Nat))
def rngC (lo c : Int) (n : Nat) : List D := (List.range n).map fun i => PyData.int (lo + (i : Nat) * c)
theorem irel_range {K : PySem.W.Frag} {H : Hp} {lo : Int} {n : Nat} : IRel K H (rngL lo n) (Itr lo n) := by
  refine ⟨_, _, by unfold rngL; rw [List.length_map, List.length_range]; exact walk_range, fun H' m => trivial, fun i H2 x H3 m hi y => ?_⟩
  obtain ⟨rfl, rfl⟩ := y
  have hi : i < n := by unfold rngL at hi; rw [List.length_map, List.length_range] at hi; exact hi
  exact ⟨.int (lo + i), by unfold rngL; simp [hi], Same.refl _, rfl⟩
theorem irel_rangeC {K : PySem.W.Frag} {H : Hp} {lo c : Int} {n : Nat} : IRel K H (rngC lo c n) (Itc lo c n) := by
  refine ⟨_, _, by unfold rngC; rw [List.length_map, List.length_range]; exact walk_rangeC, fun H' m => trivial, fun i H2 x H3 m hi y => ?_⟩
  obtain ⟨rfl, rfl⟩ := y
  have hi : i < n := by unfold rngC at hi; rw [List.length_map, List.length_range] at hi; exact hi
  exact ⟨.int (lo + i * c), by unfold rngC; simp [hi], Same.refl _, rfl⟩
def rOk (i : Int) : Prop := -(2 ^ 62) ≤ i ∧ i < 2 ^ 62
instance (i : Int) : Decidable (rOk i) := inferInstanceAs (Decidable (_ ∧ _))
@[simp] def iRange1 (A : S → Res (List D)) (σ : S) : Res (List D) := (A σ).bind fun ds σ1 => match ds with
  | [.int j] => if rOk j then .ok (rngL 0 j.toNat) σ1 else .bad
  | _ => .bad
@[simp] def iRange2 (A : S → Res (List D)) (σ : S) : Res (List D) := (A σ).bind fun ds σ1 => match ds with
  | [.int i, .int j] => if rOk i ∧ rOk j then .ok (rngL i (j - i).toNat) σ1 else .bad
  | _ => .bad
@[simp] def iRange3 (A : S → Res (List D)) (σ : S) : Res (List D) := (A σ).bind fun ds σ1 => match ds with
  | [.int i, .int j, .int c] => if c = -1 ∧ rOk i ∧ rOk j then .ok (rngC i (-1) (i - j).toNat) σ1 else .bad
  | _ => .bad
theorem di_range1 (hg : Gl X "range") (hm : X.mg "range" = none) (ha : DA X W [a] A) (hs : starEach [a] X.env = [(false, eval a X.env)] := by rfl) : DI X W tg (.Call (.Name "range" p) [a] [] pos) (iRange1 A) :=
  pi_weak (pi_range1 hg hm ha hs) fun σv H Q ⟨σ, s, h⟩ => by
    refine ⟨σ, s, ?_⟩
    unfold iRange1 at h
    cases ea : A σ with
    | bad => rw [ea] at h; exact False.elim h
    | exc c σ1 => rw [ea] at h; exact h
    | ok ds σ1 =>
      rw [ea] at h
      intro vs H1 st hv
      simp only [Res.bind] at h
      split at h
      · rename_i j
        split at h
        · rename_i hj
          obtain ⟨v, rfl, e⟩ := hv.one
          exact ⟨j, by rw [show v = V.int j from e], hj.1, hj.2, h _ _ st irel_range⟩
        · exact False.elim h
      · exact False.elim h
theorem di_range2 (hg : Gl X "range") (hm : X.mg "range" = none) (ha : DA X W [a, b] A) (hs : starEach [a, b] X.env = [(false, eval a X.env), (false, eval b X.env)] := by rfl) (hs2 : starEach [b] X.env = [(false, eval b X.env)] := by rfl) : DI X W tg (.Call (.Name "range" p) [a, b] [] pos) (iRange2 A) :=
  pi_weak (pi_range2 hg hm ha hs hs2) fun σv H Q ⟨σ, s, h⟩ => by
    refine ⟨σ, s, ?_⟩
    unfold iRange2 at h
    cases ea : A σ with
    | bad => rw [ea] at h; exact False.elim h
    | exc c σ1 => rw [ea] at h; exact h
    | ok ds σ1 =>
      rw [ea] at h
      intro vs H1 st hv
      simp only [Res.bind] at h
      split at h
      · rename_i i j
        split at h
        · rename_i hj
          obtain ⟨v, w, rfl, e, e2⟩ := hv.two
          exact ⟨i, j, by rw [show v = V.int i from e, show w = V.int j from e2], ⟨hj.1.1, hj.1.2, hj.2.1, hj.2.2⟩, h _ _ st irel_range⟩
        · exact False.elim h
      · exact False.elim h
theorem di_range3 (hg : Gl X "range") (hm : X.mg "range" = none) (ha : DA X W [a, b, c] A) (hs : starEach [a, b, c] X.env = (false, eval a X.env) :: starEach [b, c] X.env := by rfl) (hs2 : (backTo pos (starEach [b, c] X.env)).any (·.1) = false := by rfl) : DI X W tg (.Call (.Name "range" p) [a, b, c] [] pos) (iRange3 A) :=
  pi_weak (pi_range3 hg hm ha hs hs2) fun σv H Q ⟨σ, s, h⟩ => by
    refine ⟨σ, s, ?_⟩
    unfold iRange3 at h
    cases ea : A σ with
    | bad => rw [ea] at h; exact False.elim h
    | exc c σ1 => rw [ea] at h; exact h
    | ok ds σ1 =>
      rw [ea] at h
      intro vs H1 st hv
      simp only [Res.bind] at h
      split at h
      · rename_i i j c
        split at h
        · rename_i hj
          obtain ⟨u, r, rfl, e, h2⟩ := hv
          obtain ⟨v, w, rfl, e1, e2⟩ := h2.two
          obtain ⟨rfl, h3, h4⟩ := hj
          exact ⟨i, j, -1, (i - j).toNat, by rw [show u = V.int i from e, show v = V.int j from e1, show w = V.int (-1) from e2], RgC.neg h3.1 h3.2 h4.1 h4.2, h _ _ st irel_rangeC⟩
        · exact False.elim h
      · exact False.elim h
/-- reversed(e) -/
@[simp] def iRevd (E : S → Res R) (σ : S) : Res (List D) := (E σ).bind fun r σ1 => (toD r σ1).bind fun d σ2 => match d with
  | .list ds => .ok ds.reverse σ2
  | .tuple ds => .ok ds.reverse σ2
  | _ => .bad
theorem di_rev (hg : Gl X "reversed") (hm : X.mg "reversed" = none) (he : DE X W e E) (hs : starEach [e] X.env = (false, eval e X.env) :: starEach [] X.env := by rfl) : DI X W tg (.Call (.Name "reversed" p) [e] [] pos) (iRevd E) :=
  pi_weak (pi_revA hg hm (de_frz he) hs) fun σv H Q ⟨σ, s, h⟩ => by
    refine ⟨σ, s, ?_⟩
    unfold iRevd at h
    unfold eFrz
    cases ea : E σ with
    | bad => rw [ea] at h; exact False.elim h
    | exc c σ1 => rw [ea] at h; exact h
    | ok r σ1 =>
      rw [ea] at h
      simp only [Res.bind] at h ⊢
      rcases toD_cases r σ1 with ⟨d, σ2, ed⟩ | ed
      · rw [ed] at h ⊢
        simp only at h ⊢
        intro v H1 st rr
        have rel : ∀ (ds : List D) (xs : List V) (J : L2.It) (G0 : Hp → Prop), FzAll X.K H1 ds xs → Walk J xs.length G0 (fun i H x H' => H' = H ∧ xs[xs.length - 1 - i]? = some x) → (∀ H', Imm H1 H' → G0 H') → IRel X.K H1 ds.reverse J := fun ds xs J G0 h2 w hg => by
          refine ⟨G0, _, by rw [List.length_reverse, h2.length]; exact w, hg, fun i H2 x H3 m hi y => ?_⟩
          obtain ⟨rfl, y⟩ := y
          obtain ⟨d, e, hd⟩ := (FzAll.mono m ds h2).get' y
          rw [List.length_reverse] at hi
          exact ⟨d, by rw [List.getElem?_reverse hi, h2.length]; exact e, Same.refl _, hd⟩
        cases d with
        | list ds =>
          obtain ⟨a, xs, rfl, h1, h2⟩ := rr
          exact ⟨a, xs, rfl, .inl ⟨.inl h1.rd, h _ _ st (rel ds xs _ _ h2 walk_rev fun H' m => .inl (m.fzl h1).rd)⟩⟩
        | tuple ds =>
          obtain ⟨a, xs, rfl, h1, h2⟩ := rr
          exact ⟨a, xs, rfl, .inr ⟨h1, h _ _ st (rel ds xs _ _ h2 walk_revT fun H' m => m.sqt h1)⟩⟩
        | _ => exact False.elim h
      · rw [ed] at h
        exact False.elim h
/-- enumerate(e) -/
def enumL : Nat → List D → List D
  | _, [] => []
  | n, d :: ds => .tuple [.int n, d] :: enumL (n + 1) ds
theorem enumL_len (n : Nat) (ds : List D) : (enumL n ds).length = ds.length := by
  induction ds generalizing n with
  | nil => rfl
  | cons d ds ih => show (enumL (n + 1) ds).length + 1 = _; rw [ih]; rfl
theorem enumL_get (n : Nat) (ds : List D) (i : Nat) : (enumL n ds)[i]? = (ds[i]?).map fun d => PyData.tuple [.int ((n + i : Nat) : Int), d] := by
  induction ds generalizing n i with
  | nil => simp [enumL]
  | cons d ds ih =>
    cases i with
    | zero => simp [enumL]
    | succ i =>
      show (enumL (n + 1) ds)[i]? = _
      rw [ih, List.getElem?_cons_succ, show n + 1 + i = n + (i + 1) by omega]
@[simp] def iEnumr (A : S → Res (List D)) (σ : S) : Res (List D) := (A σ).bind fun ds σ1 => match ds with
  | [.list ds] => .ok (enumL 0 ds) σ1
  | _ => .bad
theorem fz_pair {K : PySem.W.Frag} {H2 : Hp} {Tn : Addr} {x y : V} {c d : D} (n : H2 Tn = none) (h1 : Fz K H2 c x) (h2 : Fz K H2 d y) : Fz K (upd H2 Tn (.tup [x, y])) (.tuple [c, d]) (.ref Tn) := by
  have m := Same.imm (same_new (o := .tup [x, y]) n)
  exact ⟨Tn, [x, y], rfl, .inl (.inl upd_same), FzAll.cons (Fz.mono m c h1) (FzAll.cons (Fz.mono m d h2) FzAll.nil)⟩
theorem di_enum {elts : List Expr} {kk : Nat} {tpos : Pos} (hg : Gl X "enumerate") (hm : X.mg "enumerate" = none) (ha : DA X W [e] A) (hs : starEach [e] X.env = [(false, eval e X.env)] := by rfl) :
    DI X W (.Tuple elts kk tpos) (.Call (.Name "enumerate" p) [e] [] pos) (iEnumr A) :=
  pi_weak (pi_enum hg hm ha hs) fun σv H Q ⟨σ, s, h⟩ => by
    refine ⟨σ, s, ?_⟩
    unfold iEnumr at h
    cases ea : A σ with
    | bad => rw [ea] at h; exact False.elim h
    | exc c σ1 => rw [ea] at h; exact h
    | ok ds σ1 =>
      rw [ea] at h
      intro vs H1 st hv
      simp only [Res.bind] at h
      split at h
      · rename_i ds
        obtain ⟨v, rfl, a, xs, rfl, h1, h2⟩ := hv.one
        refine ⟨a, xs, rfl, .inl h1.rd, h _ _ st ⟨_, _, by rw [enumL_len, h2.length]; exact walk_enum, fun H' m => Or.inl (m.fzl h1).rd, fun i H2 x H3 m hi y => ?_⟩⟩
        obtain ⟨Tn, u, w, rfl, n, rfl, e1, e2⟩ := y
        obtain ⟨d, e, hd⟩ := (FzAll.mono m ds h2).get' e2
        cases e1
        refine ⟨_, by rw [enumL_get, e]; rfl, same_new n, fz_pair n ?_ hd⟩
        show V.int _ = V.int _
        rw [Nat.zero_add]
      · exact False.elim h
/-- zip(a, b) of two lists or two tuples -/
def zipL : List D → List D → List D
  | a :: as, b :: bs => .tuple [a, b] :: zipL as bs
  | _, _ => []
theorem zipL_len : ∀ (ds es : List D), (zipL ds es).length = min ds.length es.length
  | [], es => by simp [zipL]
  | _ :: _, [] => by simp [zipL]
  | d :: ds, e :: es => by show (zipL ds es).length + 1 = _; rw [zipL_len]; simp only [List.length_cons]; omega
theorem zipL_get : ∀ (ds es : List D) (i : Nat) (d e : D), ds[i]? = some d → es[i]? = some e → (zipL ds es)[i]? = some (.tuple [d, e])
  | [], _, _, _, _, h, _ => by simp at h
  | _ :: _, [], _, _, _, _, h => by simp at h
  | a :: as, b :: bs, 0, d, e, h, h2 => by
    have e1 : a = d := by simpa using h
    have e2 : b = e := by simpa using h2
    subst e1 e2
    rfl
  | a :: as, b :: bs, i + 1, d, e, h, h2 => zipL_get as bs i d e (by simpa using h) (by simpa using h2)
@[simp] def iZipr (A : S → Res (List D)) (σ : S) : Res (List D) := (A σ).bind fun ds σ1 => match ds with
  | [.list ds, .list es] => .ok (zipL ds es) σ1
  | [.tuple ds, .tuple es] => .ok (zipL ds es) σ1
  | _ => .bad
theorem di_zip {elts : List Expr} {kk : Nat} {tpos : Pos} (hg : Gl X "zip") (hm : X.mg "zip" = none) (ha : DA X W [a, b] A) (hs : starEach [a, b] X.env = (false, eval a X.env) :: starEach [b] X.env := by rfl) (hpl : (backTo pos (starEach [b] X.env)).any (·.1) = false := by rfl) :
    DI X W (.Tuple elts kk tpos) (.Call (.Name "zip" p) [a, b] [] pos) (iZipr A) :=
  pi_weak (pi_zipA hg hm ha hs hpl) fun σv H Q ⟨σ, s, h⟩ => by
    refine ⟨σ, s, ?_⟩
    unfold iZipr at h
    cases ea : A σ with
    | bad => rw [ea] at h; exact False.elim h
    | exc c σ1 => rw [ea] at h; exact h
    | ok ds σ1 =>
      rw [ea] at h
      intro vs H1 st hv
      simp only [Res.bind] at h
      have rel : ∀ (ds es : List D) (xs ys : List V) (J : L2.It) (G0 : Hp → Prop), FzAll X.K H1 ds xs → FzAll X.K H1 es ys → Walk J (min xs.length ys.length) G0 (YPair (fun i => xs[i]?) (fun i => ys[i]?)) → (∀ H', Imm H1 H' → G0 H') → IRel X.K H1 (zipL ds es) J := fun ds es xs ys J G0 h2 h3 w hg => by
        refine ⟨G0, _, by rw [zipL_len, h2.length, h3.length]; exact w, hg, fun i H2 x H3 m hi y => ?_⟩
        obtain ⟨Tn, u, w, rfl, n, rfl, e1, e2⟩ := y
        obtain ⟨d, q1, hd⟩ := (FzAll.mono m ds h2).get' e1
        obtain ⟨e, q2, he⟩ := (FzAll.mono m es h3).get' e2
        exact ⟨_, zipL_get _ _ _ _ _ q1 q2, same_new n, fz_pair n hd he⟩
      split at h
      · rename_i ds es
        obtain ⟨v, w, rfl, ⟨p1, xs, rfl, h1, h2⟩, ⟨p2, ys, rfl, h3, h4⟩⟩ := hv.two
        exact ⟨p1, p2, xs, ys, rfl, .inl ⟨.inl h1.rd, .inl h3.rd, h _ _ st (rel _ _ xs ys _ _ h2 h4 (walk_zip rfl) fun H' m => ⟨.inl (m.fzl h1).rd, .inl (m.fzl h3).rd⟩)⟩⟩
      · rename_i ds es
        obtain ⟨v, w, rfl, ⟨p1, xs, rfl, h1, h2⟩, ⟨p2, ys, rfl, h3, h4⟩⟩ := hv.two
        exact ⟨p1, p2, xs, ys, rfl, .inr ⟨h1, h3, h _ _ st (rel _ _ xs ys _ _ h2 h4 (walk_zipT rfl) fun H' m => ⟨m.sqt h1, m.sqt h3⟩)⟩⟩
      · exact False.elim h

/-! ### for -/
@[simp] def forL (g : G) (B : S → Out) : List D → S → Out
  | [], σ => .nx σ
  | d :: ds, σ => match g d σ with
    | none => .bad
    | some σ1 => match B σ1 with
      | .nx σ2 => forL g B ds σ2
      | .cnt σ2 => forL g B ds σ2
      | .brk σ2 => .nx σ2
      | .ret r σ2 => .ret r σ2
      | .exc c σ2 => .exc c σ2
      | .bad => .bad
@[simp] def sFor (It : S → Res (List D)) (g : G) (B : S → Out) (σ : S) : Out := match It σ with
  | .ok ds σ1 => forL g B ds σ1
  | .exc c σ1 => .exc c σ1
  | .bad => .bad
theorem Later.same {K : PySem.W.Frag} {H H1 H2 : Hp} {σ σ1 : S} {σv σv1 : L2.St} (l : Later K H σ σv H1 σ1 σv1) (s : Same H1 H2) : Later K H σ σv H2 σ1 σv1 := l.trans (Step.same l.rel s).toLater
theorem ds_for (hp : PassesOwn (model X.prog X.w) X.A X.env X.xe) (hc : X.calm = true) (hi : DI X W tg iter It) (hg : DG X tg vs g) (hb : DSs X W body B)
    (hs : ∀ x, foldedSetIterable iter X.env x = pure x := by intro _; rfl) : DS X W (.For tg iter body [] pos) (sFor It g B) := ps_weak (ps_for hp hc hi hg hb hs) fun Dd σv H ⟨σ, s, h⟩ => by
  refine ⟨σ, s, ?_⟩
  unfold sFor at h
  cases ea : It σ with
  | bad => rw [ea] at h; exact False.elim h
  | exc c σ1 => rw [ea] at h; exact PostS.exc_of h
  | ok ds σ1 =>
    rw [ea] at h
    intro J H1 st ir
    obtain ⟨G0, Y, w, hG, hY⟩ := ir
    have h : PostS X.K X.mg W H1 σ1 σv Dd (forL g B ds σ1) := PostS.later st.toLater h
    refine for_it w (fun i σv' H' => ∃ σ', Later X.K H1 σ1 σv H' σ' σv' ∧ PostS X.K X.mg W H' σ' σv' Dd (forL g B (ds.drop i) σ')) ⟨σ1, Later.refl st.rel, h⟩ (fun i σv' H' _ ⟨σ', l, _⟩ => hG H' (l.imm st.rel)) (fun i x σv' H' H'' hi ⟨σ', l, h⟩ y => ?_) fun σv' H' ⟨σ', l, h⟩ => ?_
    · obtain ⟨d, ed, sm, hd⟩ := hY i H' x H'' (l.imm st.rel) hi y
      have hdrop : ds.drop i = d :: ds.drop (i + 1) := by
        rw [List.drop_eq_getElem_cons hi]
        congr 1
        rw [List.getElem?_eq_getElem hi] at ed
        exact Option.some.inj ed
      rw [hdrop] at h
      unfold forL at h
      have l' := l.same sm
      split at h
      · exact False.elim h
      · rename_i σ2 eg
        refine ⟨σ', d, σ2, l'.rel, hd, eg, fun σv2 l2 _ _ => ⟨σ2, l2.rel, ?_⟩⟩
        have l3 := (Step.same l.rel sm).toLater.trans l2
        cases hB : B σ2 with
        | nx σ3 => rw [hB] at h; exact fun σv' H' q => ⟨σ3, l.trans (l3.trans q), PostS.later (l3.trans q) h⟩
        | cnt σ3 => rw [hB] at h; exact fun σv' H' q => ⟨σ3, l.trans (l3.trans q), PostS.later (l3.trans q) h⟩
        | brk σ3 => rw [hB] at h; exact fun σv' H' q => h σv' H' (l3.trans q)
        | ret r σ3 => rw [hB] at h; exact PostS.later (o := .ret r σ3) l3 h
        | exc c σ3 => rw [hB] at h; exact PostS.later (o := .exc c σ3) l3 h
        | bad => rw [hB] at h; exact h
    · rw [List.drop_eq_nil_of_le (Nat.le_refl _)] at h
      exact h σv' H' (Later.refl l.rel)
end
end FL

set_option Elab.async false
set_option linter.all false
set_option maxRecDepth 100000
set_option maxHeartbeats 2000000
/-! FL: list comprehensions. -/
namespace FL
open PySem PySem.Spec PyProof.Rows L2

/-! ### which slots a target sets -/
def GOk (vs : List Nat) (g : G) : Prop := ∀ d σ σ2, g d σ = some σ2 → σ2.length = σ.length ∧ ∀ i : Nat, i ∉ vs → σ2[i]? = σ[i]?
def GsOk (vs : List Nat) (gs : List G) : Prop := ∀ ds σ σ2, gAll gs ds σ = some σ2 → σ2.length = σ.length ∧ ∀ i : Nat, i ∉ vs → σ2[i]? = σ[i]?
theorem gok_n {i : Nat} : GOk [i] (gN i) := fun d σ σ2 e => by
  obtain ⟨rfl, _⟩ := setSlot_eq e
  refine ⟨List.length_set, fun j hj => ?_⟩
  rw [List.getElem?_set_ne (by intro z; exact hj (by rw [z]; exact List.mem_singleton.mpr rfl))]
theorem gsok_nil : GsOk [] [] := fun ds σ σ2 e => by
  cases ds with
  | nil => cases e; exact ⟨rfl, fun _ _ => rfl⟩
  | cons => cases e
theorem gsok_cons {vs ws : List Nat} {g : G} {gs : List G} (h1 : GOk vs g) (h2 : GsOk ws gs) : GsOk (vs ++ ws) (g :: gs) := fun ds σ σ2 e => by
  cases ds with
  | nil => cases e
  | cons d ds =>
    obtain ⟨σ1, e1, e2⟩ := Option.bind_eq_some_iff.mp e
    obtain ⟨n1, o1⟩ := h1 d σ σ1 e1
    obtain ⟨n2, o2⟩ := h2 ds σ1 σ2 e2
    refine ⟨n2.trans n1, fun i hi => ?_⟩
    rw [List.mem_append, not_or] at hi
    exact (o2 i hi.2).trans (o1 i hi.1)
theorem gok_t {vs : List Nat} {gs : List G} (h : GsOk vs gs) : GOk vs (gT gs) := fun d σ σ2 e => by
  cases d with
  | tuple ds => exact h ds σ σ2 e
  | _ => cases e

/-! ### the block's own names -/
@[simp] def wipeS (σ : S) : List Nat → S
  | [] => σ
  | v :: vs => (wipeS σ vs).set v none
@[simp] def backS (σ0 : S) (σ : S) : List Nat → S
  | [] => σ
  | v :: vs => (backS σ0 σ vs).set v ((σ0[v]?).getD none)
theorem wipeS_len (σ : S) : ∀ vs : List Nat, (wipeS σ vs).length = σ.length
  | [] => rfl
  | v :: vs => by unfold wipeS; rw [List.length_set, wipeS_len σ vs]
theorem wipeS_out {σ : S} {i : Nat} : ∀ {vs : List Nat}, i ∉ vs → (wipeS σ vs)[i]? = σ[i]?
  | [], _ => rfl
  | v :: vs, h => by
    have h1 : v ≠ i := fun e => h (by rw [e]; exact List.mem_cons_self)
    have h2 : i ∉ vs := fun m => h (List.mem_cons_of_mem _ m)
    unfold wipeS
    rw [List.getElem?_set_ne h1]
    exact wipeS_out h2
theorem wipeS_in {σ : S} {i : Nat} : ∀ {vs : List Nat}, i ∈ vs → i < σ.length → (wipeS σ vs)[i]? = some none
  | [], h, _ => by cases h
  | v :: vs, h, hl => by
    unfold wipeS
    by_cases hv : v = i
    · subst hv
      rw [List.getElem?_set_self (by rw [wipeS_len]; exact hl)]
    · rw [List.getElem?_set_ne hv]
      exact wipeS_in ((List.mem_cons.mp h).resolve_left fun z => hv z.symm) hl
theorem wipeV_in {σ : L2.St} {i : Nat} : ∀ {vs : List Nat}, i ∈ vs → i < σ.length → (wipe σ vs)[i]? = some none
  | [], h, _ => by cases h
  | v :: vs, h, hl => by
    unfold wipe
    by_cases hv : v = i
    · subst hv
      rw [List.getElem?_set_self (by rw [wipe_length]; exact hl)]
    · rw [List.getElem?_set_ne hv]
      exact wipeV_in ((List.mem_cons.mp h).resolve_left fun z => hv z.symm) hl
theorem wipeV_out {σ : L2.St} {i : Nat} : ∀ {vs : List Nat}, i ∉ vs → (wipe σ vs)[i]? = σ[i]?
  | [], _ => rfl
  | v :: vs, h => by
    have h1 : v ≠ i := fun e => h (by rw [e]; exact List.mem_cons_self)
    have h2 : i ∉ vs := fun m => h (List.mem_cons_of_mem _ m)
    unfold wipe
    rw [List.getElem?_set_ne h1]
    exact wipeV_out h2
theorem wipe_eq {σ τ : L2.St} {vs : List Nat} (hl : σ.length = τ.length) (h : ∀ i : Nat, i ∉ vs → σ[i]? = τ[i]?) : wipe σ vs = wipe τ vs := by
  apply List.ext_getElem?
  intro i
  by_cases hi : i ∈ vs
  · by_cases hn : i < σ.length
    · rw [wipeV_in hi hn, wipeV_in hi (hl ▸ hn)]
    · rw [List.getElem?_eq_none (by rw [wipe_length]; omega), List.getElem?_eq_none (by rw [wipe_length]; omega)]
  · rw [wipeV_out hi, wipeV_out hi]
    exact h i hi
theorem wipe_wipe {σ : L2.St} {vs : List Nat} : wipe (wipe σ vs) vs = wipe σ vs := wipe_eq (wipe_length _ _) fun i hi => wipeV_out hi
theorem backS_len (σ0 σ : S) : ∀ vs : List Nat, (backS σ0 σ vs).length = σ.length
  | [] => rfl
  | v :: vs => by unfold backS; rw [List.length_set, backS_len σ0 σ vs]
theorem backS_out {σ0 σ : S} {i : Nat} : ∀ {vs : List Nat}, i ∉ vs → (backS σ0 σ vs)[i]? = σ[i]?
  | [], _ => rfl
  | v :: vs, h => by
    have h1 : v ≠ i := fun e => h (by rw [e]; exact List.mem_cons_self)
    have h2 : i ∉ vs := fun m => h (List.mem_cons_of_mem _ m)
    unfold backS
    rw [List.getElem?_set_ne h1]
    exact backS_out h2
theorem backS_in {σ0 σ : S} {i : Nat} : ∀ {vs : List Nat}, i ∈ vs → i < σ.length → (backS σ0 σ vs)[i]? = some ((σ0[i]?).getD none)
  | [], h, _ => by cases h
  | v :: vs, h, hl => by
    unfold backS
    by_cases hv : v = i
    · subst hv
      rw [List.getElem?_set_self (by rw [backS_len]; exact hl)]
    · rw [List.getElem?_set_ne hv]
      exact backS_in ((List.mem_cons.mp h).resolve_left fun z => hv z.symm) hl
/-- no slot of vs holds a list -/
@[simp] def noL (σ : S) (vs : List Nat) : Bool := vs.all fun i => match σ[i]? with
  | some (some (.l _ _)) => false
  | _ => true
theorem noL_at {σ : S} {vs : List Nat} (h : noL σ vs = true) {i : Nat} (hi : i ∈ vs) {t : Tag} {ds : List D} : σ[i]? ≠ some (some (.l t ds)) := fun e => by
  have := List.all_eq_true.mp h i hi
  rw [e] at this
  cases this
section
variable {K : PySem.W.Frag} {H H1 H2 H' : Hp} {σ σ0 σ1 σ2 : S} {σv σv1 σv2 : L2.St} {vs : List Nat}
theorem SRel.wipe (s : SRel K H σ σv) : SRel K H (wipeS σ vs) (L2.wipe σv vs) := by
  have out : ∀ (i : Nat) (c : C), (wipeS σ vs)[i]? = some (some c) → i ∉ vs ∧ σ[i]? = some (some c) := fun i c e => by
    by_cases hi : i ∈ vs
    · by_cases hn : i < σ.length
      · rw [wipeS_in hi hn] at e; cases e
      · rw [List.getElem?_eq_none (by rw [wipeS_len]; omega)] at e; cases e
    · rw [wipeS_out hi] at e
      exact ⟨hi, e⟩
  refine ⟨by rw [wipeS_len, wipe_length]; exact s.len, fun i c e => ?_, fun i j t u a ⟨⟨ds, e⟩, ev⟩ ⟨⟨es, e2⟩, ev2⟩ => ?_⟩
  · obtain ⟨h1, h2⟩ := out i c e
    rw [wipeV_out h1]
    exact s.val i c h2
  · obtain ⟨h1, h2⟩ := out i _ e
    obtain ⟨h3, h4⟩ := out j _ e2
    rw [wipeV_out h1] at ev
    rw [wipeV_out h3] at ev2
    exact s.apart i j t u a ⟨⟨ds, h2⟩, ev⟩ ⟨⟨es, h4⟩, ev2⟩
theorem ownM_wipe {a : Addr} (h : OwnM (wipeS σ vs) (L2.wipe σv vs) a) : OwnM σ σv a := by
  obtain ⟨i, t, n, ⟨ds, e⟩, ev⟩ := h
  by_cases hi : i ∈ vs
  · by_cases hn : i < σ.length
    · rw [wipeS_in hi hn] at e; cases e
    · rw [List.getElem?_eq_none (by rw [wipeS_len]; omega)] at e; cases e
  · rw [wipeS_out hi] at e
    rw [wipeV_out hi] at ev
    exact ⟨i, t, n, ⟨ds, e⟩, ev⟩
theorem sub_wipe (h : ∀ i : Nat, i ∉ vs → SubC σ[i]? σ2[i]?) (hl : σ.length = σ2.length) : Sub (wipeS σ vs) (wipeS σ2 vs) := fun i => by
  by_cases hi : i ∈ vs
  · by_cases hn : i < σ.length
    · rw [wipeS_in hi hn, wipeS_in hi (hl ▸ hn)]; exact SubC.refl _
    · rw [List.getElem?_eq_none (by rw [wipeS_len]; omega), List.getElem?_eq_none (by rw [wipeS_len]; omega)]; exact SubC.refl _
  · rw [wipeS_out hi, wipeS_out hi]
    exact h i hi
/-- behind the block the names are as they were -/
theorem Step.back (s0 : SRel K H σ0 σv) (nl : noL σ0 vs = true) (st : Step K H (wipeS σ0 vs) (L2.wipe σv vs) H' σ2) : Step K H σ0 σv H' (backS σ0 σ2 vs) := by
  have keep : Keep (OwnM σ0 σv) H H' := st.keep.mono fun _ _ _ z => ownM_wipe z
  have len2 : σ2.length = σv.length := by rw [st.rel.len, wipe_length]
  have im := s0.imm keep
  have inn : ∀ i, i ∈ vs → (backS σ0 σ2 vs)[i]? = σ0[i]? := fun i hi => by
    by_cases hn : i < σ2.length
    · rw [backS_in hi hn]
      have : i < σ0.length := by rw [s0.len, ← len2]; exact hn
      rw [List.getElem?_eq_getElem this]; rfl
    · rw [List.getElem?_eq_none (by rw [backS_len]; omega), List.getElem?_eq_none (by rw [s0.len, ← len2]; omega)]
  have atb : ∀ i t a, At (backS σ0 σ2 vs) σv i t a → At σ2 (L2.wipe σv vs) i t a := fun i t a ⟨⟨ds, e⟩, ev⟩ => by
    by_cases hi : i ∈ vs
    · rw [inn i hi] at e
      exact absurd e (noL_at nl hi)
    · rw [backS_out hi] at e
      exact ⟨⟨ds, e⟩, by rw [wipeV_out hi]; exact ev⟩
  refine ⟨keep, ⟨by rw [backS_len]; exact len2, fun i c e => ?_, fun i j t u a h1 h2 => st.rel.apart i j t u a (atb _ _ _ h1) (atb _ _ _ h2)⟩, fun i => ?_⟩
  · by_cases hi : i ∈ vs
    · rw [inn i hi] at e
      obtain ⟨v, e1, hc⟩ := s0.val i c e
      refine ⟨v, e1, ?_⟩
      cases c with
      | d x => exact Fz.mono im x hc
      | l t ds => exact absurd e (noL_at nl hi)
    · rw [backS_out hi] at e
      obtain ⟨v, e1, hc⟩ := st.rel.val i c e
      exact ⟨v, by rw [← wipeV_out hi]; exact e1, hc⟩
  · by_cases hi : i ∈ vs
    · rw [inn i hi]; exact SubC.refl _
    · rw [backS_out hi]
      have := st.sub i
      rw [wipeS_out hi] at this
      exact this
end

/-! ### [elt for tg in iter if ..] -/
@[simp] def lcL (vs : List Nat) (g : G) (T : S → Res Bool) (E : S → Res R) : List D → S → Res (List D)
  | [], σ => .ok [] σ
  | d :: ds, σ => match g d σ with
    | none => .bad
    | some σ1 => match T σ1 with
      | .ok b σ2 => if b = true then (match (E σ2).bind toD with
          | .ok x σ3 => (match lcL vs g T E ds (wipeS σ3 vs) with
            | .ok xs σ4 => .ok (x :: xs) σ4
            | _ => .bad)
          | _ => .bad) else lcL vs g T E ds (wipeS σ2 vs)
      | _ => .bad
@[simp] def eLc (vs : List Nat) (It : S → Res (List D)) (g : G) (T : S → Res Bool) (E : S → Res R) (σ : S) : Res R := (It σ).bind fun ds σ1 => if noL σ1 vs = true then (match lcL vs g T E ds (wipeS σ1 vs) with
  | .ok xs σ2 => if xs.length ≤ sizeLine then .ok (.own xs) (backS σ1 σ2 vs) else .bad
  | _ => .bad) else .bad
@[simp] def tT (σ : S) : Res Bool := .ok true σ
abbrev W0 : WX := fun _ _ _ _ => False
abbrev DTs (X : Cx) (ifs : List Expr) (T : S → Res Bool) : Prop := PTs X ifs (rdT X.K X.mg W0 T)
theorem pts_weak {X : Cx} {e : List Expr} {t t' : TT} (h : PTs X e t) (w : ∀ σv H Q, t' σv H Q → t σv H Q) : PTs X e t' := ⟨fun pins s σ H Q I q => h.run pins s σ H Q I (w σ H Q q)⟩
theorem dts_nil {X : Cx} : DTs X [] tT := pts_weak pts_nil fun σv H Q ⟨σ, s, h⟩ => h true H (Step.refl s) rfl
theorem dts_one {X : Cx} {c : Expr} {T : S → Res Bool} (h : DT X W0 c T) : DTs X [c] T := pts_one h
theorem fzL_len {K : PySem.W.Frag} {H : Hp} {ds : List D} {vs : List V} (h : FzAll K H ds vs) : vs.length = ds.length := h.length.symm
section
variable {K : PySem.W.Frag} {mg : Str → Option Value} {W : WX} {It : S → Res (List D)} {g : G} {T : S → Res Bool} {E : S → Res R} {vs ws : List Nat}
theorem lc_post (hg : GOk vs g) {σv : L2.St} {H : Hp} {Q : VK} (h : rd K mg W (eLc vs It g T E) σv H Q) : tLc (rdI K mg W It) (rdG K vs g) (rdT K mg W0 T) (rd K mg W0 (eFrz E)) vs σv H Q := by
  obtain ⟨σ, s, h⟩ := h
  refine ⟨σ, s, ?_⟩
  unfold eLc at h
  cases ea : It σ with
  | bad => rw [ea] at h; exact False.elim h
  | exc c σ1 => rw [ea] at h; exact h
  | ok ds σ1 =>
    rw [ea] at h
    simp only [Res.bind] at h
    intro J H1 st ir Dn hD
    split at h
    · rename_i nl
      split at h
      · rename_i xs σ2 el
        split at h
        · rename_i hlen
          obtain ⟨G0, Y, w, hG, hY⟩ := ir
          have sw : SRel K H1 (wipeS σ1 vs) (wipe σv vs) := st.rel.wipe
          have sD : Same H1 (upd H1 Dn (.lst [])) := same_new hD
          refine lc_it (Qd := fun H' => Q (.ref Dn) H') w (fun i H' => ∃ σi acc ad rest, Step K H1 (wipeS σ1 vs) (wipe σv vs) H' σi ∧ H' Dn = some (.lst acc) ∧ FzAll K H' ad acc ∧ lcL vs g T E (ds.drop i) σi = .ok rest σ2 ∧ ad ++ rest = xs) ?_ (fun i H' hi ⟨σi, acc, ad, rest, st', _⟩ => hG H' (st'.imm sw)) ?_ ?_
          · exact ⟨wipeS σ1 vs, [], [], xs, Step.same sw sD, upd_same, FzAll.nil, el, rfl⟩
          · intro i x H' H'' hi ⟨σi, acc, ad, rest, st', hDn, hacc, el', ex⟩ y
            obtain ⟨d, ed, sm, hd⟩ := hY i H' x H'' (st'.imm sw) hi y
            have hdrop : ds.drop i = d :: ds.drop (i + 1) := by
              rw [List.drop_eq_getElem_cons hi]
              congr 1
              rw [List.getElem?_eq_getElem hi] at ed
              exact Option.some.inj ed
            rw [hdrop] at el'
            unfold lcL at el'
            have st2 := st'.trans (Step.same st'.rel sm)
            have hDn2 : H'' Dn = some (.lst acc) := sm _ _ hDn
            have hacc2 : FzAll K H'' ad acc := FzAll.mono (Same.imm sm) ad hacc
            split at el'
            · cases el'
            · rename_i σg eg
              refine ⟨σi, d, σg, st2.rel, hd, eg, fun σv2 lg lng og => ?_⟩
              have wv : wipe σv2 vs = wipe σv vs := by
                rw [← wipe_wipe (σ := σv)]
                exact wipe_eq lng og
              refine ⟨wv, σg, lg.rel, ?_⟩
              -- D is no slot's
              have noD : ∀ {a : Addr}, OwnM σg σv2 a → a ≠ Dn := fun {a} ho z => by
                subst z
                rcases lg.ownM ho with q | q
                · exact ownM_some sw (st2.sub.ownM q) hD
                · rw [hDn2] at q; cases q
              obtain ⟨ng, og2⟩ := hg _ _ _ eg
              -- from a later state of the turn to the next turn
              have next : ∀ {H3 : Hp} {σ3 : S}, Step K H'' σg σv2 H3 σ3 → Step K H1 (wipeS σ1 vs) (wipe σv vs) H3 (wipeS σ3 vs) := fun {H3 σ3} s3 => by
                refine ⟨st2.keep.trans s3.keep fun a o e z => ?_, ?_, ?_⟩
                · rcases lg.ownM z with q | q
                  · exact st2.sub.ownM q
                  · have := st2.keep.gone a q
                    rw [e] at this; cases this
                · rw [← wv]; exact s3.rel.wipe
                · have len : (wipeS σ1 vs).length = σ3.length := by rw [wipeS_len, st.rel.len, s3.rel.len, lng, wipe_length]
                  have : Sub (wipeS (wipeS σ1 vs) vs) (wipeS σ3 vs) := sub_wipe (fun j hj => by
                    have h1 := st2.sub j
                    have h2 := s3.sub j
                    rw [og2 j hj] at h2
                    exact h1.trans h2) len
                  have ww : wipeS (wipeS σ1 vs) vs = wipeS σ1 vs := by
                    apply List.ext_getElem?
                    intro j
                    by_cases hj : j ∈ vs
                    · by_cases hn : j < σ1.length
                      · rw [wipeS_in hj (by rw [wipeS_len]; exact hn), wipeS_in hj hn]
                      · rw [List.getElem?_eq_none (by rw [wipeS_len, wipeS_len]; omega), List.getElem?_eq_none (by rw [wipeS_len]; omega)]
                    · rw [wipeS_out hj]
                  rw [ww] at this
                  exact this
              have keepD : ∀ {H3 : Hp} {σ3 : S}, Step K H'' σg σv2 H3 σ3 → H3 Dn = some (.lst acc) := fun {H3 σ3} s3 => s3.keep.at hDn2 (fun z => noD z rfl) fun _ z => by cases z
              cases hT : T σg with
              | bad => rw [hT] at el'; cases el'
              | exc c σ3 => rw [hT] at el'; cases el'
              | ok b σ3 =>
                rw [hT] at el'
                intro b' H3 s3 eb
                subst eb
                cases b with
                | false =>
                  simp only [Bool.false_eq_true, if_false] at el' ⊢
                  exact ⟨_, acc, ad, rest, next s3, keepD s3, FzAll.mono (s3.imm lg.rel) ad hacc2, el', ex⟩
                | true =>
                  simp only [if_true] at el' ⊢
                  refine ⟨σ3, s3.rel, ?_⟩
                  unfold eFrz
                  cases hE : E σ3 with
                  | bad => rw [hE] at el'; cases el'
                  | exc c σ4 => rw [hE] at el'; cases el'
                  | ok r σ4 =>
                    rw [hE] at el'
                    simp only [Res.bind] at el' ⊢
                    rcases toD_cases r σ4 with ⟨x, σ5, ex5⟩ | ex5
                    · rw [ex5] at el' ⊢
                      simp only at el' ⊢
                      intro v H4 s4 hv
                      split at el'
                      · rename_i xs' σ6 e6
                        cases el'
                        have s34 := s3.trans s4
                        have hl : acc.length < sizeLine := by
                          rw [← hacc2.length]
                          have : xs.length = ad.length + (xs'.length + 1) := by rw [← ex]; simp
                          omega
                        have hDn4 := keepD s34
                        have im := imm_mut (vs' := acc ++ [v]) hDn4
                        refine ⟨acc, hDn4, hl, _, acc ++ [v], ad ++ [x], xs', ?_, upd_same, ?_, e6, by rw [← ex]; simp⟩
                        · have n := next s34
                          refine ⟨⟨fun b o e nb => ?_, fun b e => ?_⟩, ⟨n.rel.len, fun j c e => ?_, n.rel.apart⟩, n.sub⟩
                          · have hb : b ≠ Dn := fun z => by rw [z, hD] at e; cases e
                            rw [upd_ne hb]
                            exact n.keep.kept b o e nb
                          · by_cases hb : b = Dn
                            · rw [hb]; exact hD
                            · rw [upd_ne hb] at e
                              exact n.keep.gone b e
                          · obtain ⟨u, e1, hc⟩ := n.rel.val j c e
                            refine ⟨u, e1, CRel.mono im (fun t ds p ec ep vs' q => ?_) hc⟩
                            subst ec ep
                            have hp : p ≠ Dn := fun z => by
                              subst z
                              have h0 := n.sub.at (σv := wipe σv vs) ⟨⟨ds, e⟩, e1⟩
                              obtain ⟨_, _, q0, _⟩ := sw.at_lst h0
                              rw [hD] at q0; cases q0
                            rw [upd_ne hp]
                            exact q
                        · exact (FzAll.mono ((s34.imm lg.rel).trans im) ad hacc2).append (FzAll.cons (Fz.mono im x hv) FzAll.nil)
                      · cases el'
                    · rw [ex5] at el'; cases el'
          · intro H' ⟨σi, acc, ad, rest, st', hDn, hacc, el', ex⟩
            rw [List.drop_eq_nil_of_le (Nat.le_refl _)] at el'
            unfold lcL at el'
            cases el'
            rw [List.append_nil] at ex
            subst ex
            have sb := Step.back st.rel nl st'
            exact h _ _ (st.trans sb) ⟨Dn, acc, rfl, st.keep.gone Dn hD, hDn, hacc⟩
        · exact False.elim h
      · exact False.elim h
    · exact False.elim h
end
section
variable {X : Cx} {W : WX} {elt tg iter : Expr} {ifs : List Expr} {scope : Scope} {own : List (Str × Nat)} {pos spos py : Pos} {It : S → Res (List D)} {g : G} {T : S → Res Bool} {E : S → Res R}
theorem de_lc (hc : X.calm = true) (hN : X.N.Nodup) (hi : DI X W tg iter It) (ok : BlkOk X.N X.env.scope scope own) (hk : GOk (own.map (·.2)) g)
    (hg : ∀ (s : Shared) (H : Hp) (C : Addr) (cl : List (Str × Addr)) (fp : List Addr), DG (X.blk s H scope (compEnvC scope cl C X.env) fp) tg (own.map (·.2)) g)
    (ht : ∀ (s : Shared) (H : Hp) (C : Addr) (cl : List (Str × Addr)) (fp : List Addr), DTs (X.blk s H scope (compEnvC scope cl C X.env) fp) ifs T)
    (he : ∀ (s : Shared) (H : Hp) (C : Addr) (cl : List (Str × Addr)) (fp : List Addr), DE (X.blk s H scope (compEnvC scope cl C X.env) fp) W0 elt E) (hs : ∀ x, foldedSetIterable iter X.env x = pure x := by intro _; rfl) :
    DE X W (.ListComp elt [⟨tg, iter, ifs, 0⟩] scope pos) (eLc (own.map (·.2)) It g T E) :=
  pe_weak (pe_lc hc hN hi ok hg ht (fun s H C cl fp => de_frz (he s H C cl fp)) hs) fun _ _ _ h => lc_post hk h
theorem ds_setLc {i : Nat} {y : Str} (hc : X.calm = true) (hN : X.N.Nodup) (hy : X.N[i]? = some y) (hyl : X.env.scope.names.lookup y = some .local) (hsw : swapsWith (.ListComp elt [⟨tg, iter, ifs, 0⟩] scope pos) (some (.Name y py)) spos.line X.env = pure true)
    (hi : DI X W tg iter It) (ok : BlkOk X.N X.env.scope scope own) (hk : GOk (own.map (·.2)) g)
    (hg : ∀ (s : Shared) (H : Hp) (C : Addr) (cl : List (Str × Addr)) (fp : List Addr), DG (X.blk s H scope (compEnvC scope cl C X.env) fp) tg (own.map (·.2)) g)
    (ht : ∀ (s : Shared) (H : Hp) (C : Addr) (cl : List (Str × Addr)) (fp : List Addr), DTs (X.blk s H scope (compEnvC scope cl C X.env) fp) ifs T)
    (he : ∀ (s : Shared) (H : Hp) (C : Addr) (cl : List (Str × Addr)) (fp : List Addr), DE (X.blk s H scope (compEnvC scope cl C X.env) fp) W0 elt E) (hs : ∀ x, foldedSetIterable iter X.env x = pure x := by intro _; rfl) :
    DS X W (.Assign [.Name y py] (.ListComp elt [⟨tg, iter, ifs, 0⟩] scope pos) spos) (sSet i (eLc (own.map (·.2)) It g T E)) :=
  ps_weak (ps_setLc hc hN hy hyl hsw hi ok hg ht (fun s H C cl fp => de_frz (he s H C cl fp)) hs) fun Dd σv H ⟨σ, s, h⟩ => by
    refine lc_post (W := W) (T := T) (E := E) hk ⟨σ, s, ?_⟩
    unfold sSet eMov at h
    cases ea : eLc (own.map (·.2)) It g T E σ with
    | bad => rw [ea] at h; exact False.elim h
    | exc c σ1 => rw [ea] at h; exact PostS.exc_of h
    | ok r σ1 =>
      rw [ea] at h
      intro v H' st rr
      have hr : ∃ ds, r = .own ds := by
        unfold eLc at ea
        obtain ⟨ds, σ2, _, ea⟩ := Res.bind_ok ea
        split at ea
        · split at ea
          · split at ea
            · cases ea; exact ⟨_, rfl⟩
            · cases ea
          · cases ea
        · cases ea
      obtain ⟨ds, rfl⟩ := hr
      simp only [Res.bind] at h
      split at h
      · rename_i σ2 e2
        exact h _ _ (store_res s st rr (fun j z => by cases z) e2)
      · exact False.elim h
end
end FL

set_option Elab.async false
set_option linter.all false
set_option maxRecDepth 100000
set_option maxHeartbeats 2000000
/-! FL: calls of defs, and defs. -/
namespace FL
open PySem PySem.Spec PyProof.Rows L2
abbrev Meaning := S → Res R
def ArgOK (cs : List C) : Prop := ∀ c ∈ cs, ∀ ds, c ≠ .l .own ds
def ParOk (K : PySem.W.Frag) (H' : Hp) (cs : List C) (vs : List V) (σ' : S) : Prop := ∀ (i : Nat) (ds : List D), cs[i]? = some (.l .par ds) → ∃ ds' a ws, σ'[i]? = some (some (.l .par ds')) ∧ vs[i]? = some (.ref a) ∧ H' a = some (.lst ws) ∧ FzAll K H' ds' ws
/-- a def by its meaning; ex: whether it may let an error out -/
def spD (K : PySem.W.Frag) (mg : Str → Option Value) (ex : Bool) (n : Nat) (m : Meaning) : Sp := fun vs H Q E => vs.length = n ∧ ∃ cs : List C, SRel K H (cs.map some) (vs.map some) ∧ ArgOK cs ∧ match m (cs.map some) with
  | .ok r σ' => ∀ v H', Keep (OwnM (cs.map some) (vs.map some)) H H' → ParOk K H' cs vs σ' → RNew K H H' r v → Q v H'
  | .exc c σ' => ex = true ∧ ∀ cls d H', ECl mg c cls → Keep (OwnM (cs.map some) (vs.map some)) H H' → ParOk K H' cs vs σ' → E cls d H'
  | .bad => False
/-- a body's meaning, from that of its statements -/
@[simp] def funSem (n : Nat) (B : S → Out) : Meaning := fun σ => match B (σ ++ List.replicate (n - σ.length) none) with
  | .nx σ' => .ok (.d .none) σ'
  | .ret (.slot _) _ => .bad
  | .ret r σ' => .ok r σ'
  | .exc c σ' => .exc c σ'
  | _ => .bad
section
variable {K : PySem.W.Frag} {mg : Str → Option Value} {H H' : Hp}
theorem SRel.pad {σ : S} {σv : L2.St} (s : SRel K H σ σv) (n : Nat) : SRel K H (σ ++ List.replicate n none) (σv ++ List.replicate n none) := by
  have low : ∀ (i : Nat) (c : C), (σ ++ List.replicate n none)[i]? = some (some c) → i < σ.length ∧ σ[i]? = some (some c) := fun i c e => by
    by_cases hi : i < σ.length
    · rw [List.getElem?_append_left hi] at e; exact ⟨hi, e⟩
    · rw [List.getElem?_append_right (by omega), List.getElem?_replicate] at e
      split at e <;> cases e
  have at' : ∀ i t a, At (σ ++ List.replicate n none) (σv ++ List.replicate n none) i t a → At σ σv i t a := fun i t a ⟨⟨ds, e⟩, ev⟩ => by
    obtain ⟨hi, e⟩ := low i _ e
    rw [List.getElem?_append_left (by rw [← s.len]; exact hi)] at ev
    exact ⟨⟨ds, e⟩, ev⟩
  refine ⟨by rw [List.length_append, List.length_append, s.len, List.length_replicate, List.length_replicate], fun i c e => ?_, fun i j t u a h1 h2 => s.apart i j t u a (at' _ _ _ h1) (at' _ _ _ h2)⟩
  obtain ⟨hi, e⟩ := low i c e
  obtain ⟨v, e1, hc⟩ := s.val i c e
  exact ⟨v, by rw [List.getElem?_append_left (by rw [← s.len]; exact hi)]; exact e1, hc⟩
theorem ownM_pad {σ : S} {σv : L2.St} {n : Nat} (l : σ.length = σv.length) {a : Addr} (h : OwnM (σ ++ List.replicate n none) (σv ++ List.replicate n none) a) : OwnM σ σv a := by
  obtain ⟨i, t, nt, ⟨ds, e⟩, ev⟩ := h
  by_cases hi : i < σ.length
  · rw [List.getElem?_append_left hi] at e
    rw [List.getElem?_append_left (by rw [← l]; exact hi)] at ev
    exact ⟨i, t, nt, ⟨ds, e⟩, ev⟩
  · rw [List.getElem?_append_right (by omega), List.getElem?_replicate] at e
    split at e <;> cases e
/-- a body keeps what spD says -/
theorem body_ok {n k : Nat} {B : S → Out} {N : List Str} {vs : List V} {Q : VK} {E : XK} (hn : N.length = n) (h : spD K mg false k (funSem n B) vs H Q E) : rdS K mg W0 B { nx := fun _ H' => Q .non H', rt := Q } (start N vs) H := by
  obtain ⟨hl, cs, s, ao, h⟩ := h
  have lc : cs.length = vs.length := by have := s.len; simpa using this
  have es : start N vs = vs.map some ++ List.replicate (n - (cs.map some).length) none := by
    show vs.map some ++ List.replicate (N.length - vs.length) none = _
    rw [hn, List.length_map, lc]
  rw [es]
  have sp := s.pad (n - (cs.map some).length)
  refine ⟨_, sp, ?_⟩
  unfold funSem at h
  have keep : ∀ {H' : Hp} {σ' : S} {σv' : L2.St}, Later K H (cs.map some ++ List.replicate (n - (cs.map some).length) none) (vs.map some ++ List.replicate (n - (cs.map some).length) none) H' σ' σv' → Keep (OwnM (cs.map some) (vs.map some)) H H' :=
    fun {H' σ' σv'} l => l.keep.mono fun x o _ z => ownM_pad s.len z
  have low : ∀ (i : Nat) (c : C), cs[i]? = some c → (cs.map some ++ List.replicate (n - (cs.map some).length) none)[i]? = some (some c) := fun i c e => by
    have hi := (List.getElem?_eq_some_iff.mp e).1
    rw [List.getElem?_append_left (by rw [List.length_map]; exact hi), List.getElem?_map, e]
    rfl
  have par : ∀ {H' : Hp} {σ' : S} {σv' : L2.St}, Later K H (cs.map some ++ List.replicate (n - (cs.map some).length) none) (vs.map some ++ List.replicate (n - (cs.map some).length) none) H' σ' σv' → ParOk K H' cs vs σ' :=
    fun {H' σ' σv'} l i ds e => by
      obtain ⟨e1, ds', e2⟩ := l.par i ds (low i _ e)
      obtain ⟨v, q1, a, ws, rfl, q2, q3⟩ := l.rel.val i _ e2
      rw [e1] at q1
      have hi := (List.getElem?_eq_some_iff.mp e).1
      rw [List.getElem?_append_left (by rw [List.length_map, ← lc]; exact hi), List.getElem?_map] at q1
      obtain ⟨w, w1, w2⟩ := Option.map_eq_some_iff.mp q1
      injection w2 with w2
      subst w2
      exact ⟨ds', a, ws, e2, w1, q2, q3⟩
  split at h
  · rename_i r σ' e
    split at e
    · rename_i σ'' eb
      rw [eb]
      cases e
      exact fun σv' H' l => h .non H' (keep l) (par l) rfl
    · cases e
    · rename_i r' σ'' ns eb
      rw [eb]
      cases e
      intro v σv' H' l rr
      refine h v H' (keep l) (par l) ?_
      cases r with
      | d x => exact rr
      | own ds =>
        obtain ⟨a, ws, e, h1, h2, h3⟩ := rr
        refine ⟨a, ws, e, ?_, h1, h2⟩
        rcases h3 with ⟨j, ⟨es, q⟩, _⟩ | h3
        · exfalso
          by_cases hj : j < cs.length
          · rw [List.getElem?_append_left (by rw [List.length_map]; exact hj), List.getElem?_map, List.getElem?_eq_getElem hj] at q
            have q' : cs[j] = C.l .own es := by simpa using q
            exact ao _ (List.getElem_mem hj) es q'
          · rw [List.getElem?_append_right (by rw [List.length_map]; omega), List.getElem?_replicate] at q
            split at q <;> cases q
        · exact h3
      | slot i => exact False.elim rr
    · cases e
    · cases e
  · rename_i c σ' e
    cases h.1
  · exact False.elim h
end
section
variable {P : Program} {w : World} {K : PySem.W.Frag} {mg : Str → Option Value} {base : Heap} {x qual : Str} {params : Arguments} {body : List Stmt} {scope : Scope} {dvs : List V} {kws : List (Str × V)} {f : Addr} {fd : FuncData}
/-- THE RULE for a def that lets no error out -/
theorem fn_ok0 {N ps : List Str} {k n : Nat} {B : S → Out} (F : FunD K x qual params body scope dvs kws f fd) (Sc : FnScope N ps scope) (hn : N.length = n) (hp : ps.length ≤ N.length)
    (hbody : ∀ (cdv : Value) (A : Around) (outer : List Env) (s : Shared) (H : Hp) (E : XK), Room k (A.deeper (envOfC qual scope s.heap.objs.size f cdv)) → DSs (cxOf CX0 P w K mg base N qual scope f cdv A outer s H E).nox W0 body B) :
    FnOk P w K mg base CX0 (k + 1) f fd ps (spD K mg false ps.length (funSem n B)) :=
  F.ok Sc (fun vs H Q E h => h.1) fun cdv A outer s H vs Q E hr h => ⟨_, PSs.nox (hbody cdv A outer s H E hr), body_ok hn h⟩
end

/-! ### arguments -/
inductive Ar where
  | v (d : D)
  | m (i : Nat)
def ArAll (K : PySem.W.Frag) (H' : Hp) (σv : L2.St) : List Ar → List V → Prop
  | [], vs => vs = []
  | .v d :: as, vs => ∃ v w, vs = v :: w ∧ Fz K H' d v ∧ ArAll K H' σv as w
  | .m i :: as, vs => ∃ v w, vs = v :: w ∧ σv[i]? = some (some v) ∧ ArAll K H' σv as w
def rdM (K : PySem.W.Frag) (mg : Str → Option Value) (W : WX) (T : S → Res (List Ar)) : TA := fun σv H Q => ∃ σ, SRel K H σ σv ∧ Post K mg W (fun _ H' _ σv as vs => ArAll K H' σv as vs) H σ σv Q (T σ)
@[simp] def mNil (σ : S) : Res (List Ar) := .ok [] σ
@[simp] def mVal (E : S → Res R) (A : S → Res (List Ar)) (σ : S) : Res (List Ar) := (E σ).bind fun r σ1 => (toD r σ1).bind fun d σ2 => (A σ2).bind fun as σ3 => .ok (.v d :: as) σ3
@[simp] def mMut (E : S → Res R) (A : S → Res (List Ar)) (σ : S) : Res (List Ar) := (E σ).bind fun r σ1 => match r with
  | .d d => (A σ1).bind fun as σ3 => .ok (.v d :: as) σ3
  | .slot i => (A σ1).bind fun as σ3 => .ok (.m i :: as) σ3
  | .own _ => .bad
abbrev DM (X : Cx) (W : WX) (es : List Expr) (A : S → Res (List Ar)) : Prop := PA X es (rdM X.K X.mg W A)
section
variable {X : Cx} {W : WX} {e : Expr} {es : List Expr} {E : S → Res R} {A : S → Res (List Ar)} {pos p : Pos}
theorem dm_nil : DM X W [] mNil := pa_weak pa_nil fun σv H Q ⟨σ, s, h⟩ => h [] H (Step.refl s) rfl
theorem dm_val (ha : DE X W e E) (hr : DM X W es A) (hs : starEach (e :: es) X.env = (false, eval e X.env) :: starEach es X.env := by rfl) : DM X W (e :: es) (mVal E A) := by
  refine pa_weak (pa_cons (de_frz ha) hr hs) fun σv H Q ⟨σ, s, h⟩ => ⟨σ, s, ?_⟩
  unfold mVal at h
  unfold eFrz
  cases ea : E σ with
  | bad => rw [ea] at h; exact False.elim h
  | exc c σ1 => rw [ea] at h; exact h
  | ok r σ1 =>
    rw [ea] at h
    simp only [Res.bind] at h ⊢
    rcases toD_cases r σ1 with ⟨d, σ2, ed⟩ | ed
    · rw [ed] at h ⊢
      simp only at h ⊢
      intro v H1 st rr
      refine ⟨σ2, st.rel, ?_⟩
      cases ee : A σ2 with
      | bad => rw [ee] at h; exact False.elim h
      | exc c σ3 => rw [ee] at h; exact Post.exc_later h st
      | ok ds σ3 =>
        rw [ee] at h
        intro vs H2 st2 rr2
        exact h _ _ (st.trans st2) ⟨v, vs, rfl, Fz.mono (st2.imm st.rel) d rr, rr2⟩
    · rw [ed] at h
      exact False.elim h
theorem dm_mut (ha : DE X W e E) (hr : DM X W es A) (hs : starEach (e :: es) X.env = (false, eval e X.env) :: starEach es X.env := by rfl) : DM X W (e :: es) (mMut E A) := by
  refine pa_weak (pa_cons ha hr hs) fun σv H Q ⟨σ, s, h⟩ => ⟨σ, s, ?_⟩
  unfold mMut at h
  cases ea : E σ with
  | bad => rw [ea] at h; exact False.elim h
  | exc c σ1 => rw [ea] at h; exact h
  | ok r σ1 =>
    rw [ea] at h
    simp only [Res.bind] at h
    intro v H1 st rr
    refine ⟨σ1, st.rel, ?_⟩
    cases r with
    | own ds => exact False.elim h
    | d d =>
      simp only at h
      cases ee : A σ1 with
      | bad => rw [ee] at h; exact False.elim h
      | exc c σ3 => rw [ee] at h; exact Post.exc_later h st
      | ok ds σ3 =>
        rw [ee] at h
        intro vs H2 st2 rr2
        exact h _ _ (st.trans st2) ⟨v, vs, rfl, Fz.mono (st2.imm st.rel) d rr, rr2⟩
    | slot i =>
      simp only at h
      cases ee : A σ1 with
      | bad => rw [ee] at h; exact False.elim h
      | exc c σ3 => rw [ee] at h; exact Post.exc_later h st
      | ok ds σ3 =>
        rw [ee] at h
        intro vs H2 st2 rr2
        exact h _ _ (st.trans st2) ⟨v, vs, rfl, rr.1, rr2⟩
end
/-- the cells that the callee is given -/
@[simp] def mkC (σ : S) : Ar → Option C
  | .v d => some (.d d)
  | .m i => match σ[i]? with
    | some (some (.l t es)) => if t = .lck then none else some (.l .par es)
    | _ => none
@[simp] def mkL (σ : S) : List Ar → Option (List C)
  | [] => some []
  | a :: as => (mkC σ a).bind fun c => (mkL σ as).map fun cs => c :: cs
@[simp] def isM (i : Nat) : Ar → Bool
  | .m j => i == j
  | _ => false
@[simp] def nodupM : List Ar → Bool
  | [] => true
  | .v _ :: as => nodupM as
  | .m i :: as => !(as.any (isM i)) && nodupM as
@[simp] def mkCs (σ : S) (as : List Ar) : Option (List C) := if nodupM as = true then mkL σ as else none
@[simp] def putB : List Ar → S → S → Option S
  | [], _, σ => some σ
  | .v _ :: as, _ :: σ', σ => putB as σ' σ
  | .m i :: as, c :: σ', σ => match σ[i]?, c with
    | some (some (.l t _)), some (.l .par ds') => if t = .lck then none else putB as σ' (σ.set i (some (.l t ds')))
    | _, _ => none
  | _ :: _, [], _ => none
@[simp] def eCall (m : Meaning) (AM : S → Res (List Ar)) (σ : S) : Res R := (AM σ).bind fun as σ1 => match mkCs σ1 as with
  | none => .bad
  | some cs => match m (cs.map some) with
    | .ok r σ' => (match r with
      | .slot _ => .bad
      | r => (match putB as σ' σ1 with
        | some σ2 => .ok r σ2
        | none => .bad))
    | .exc c σ' => (match putB as σ' σ1 with
      | some σ2 => .exc c σ2
      | none => .bad)
    | .bad => .bad
theorem nodupM_inj : ∀ {as : List Ar}, nodupM as = true → ∀ {j k i : Nat}, as[j]? = some (.m i) → as[k]? = some (.m i) → j = k
  | [], _, _, _, _, h, _ => by simp at h
  | .v d :: as, h, 0, _, i, e, _ => by simp at e
  | .v d :: as, h, j + 1, 0, i, _, e => by simp at e
  | .v d :: as, h, j + 1, k + 1, i, e1, e2 => by
    have := nodupM_inj (as := as) h (j := j) (k := k) (i := i) (by simpa using e1) (by simpa using e2)
    omega
  | .m l :: as, h, 0, 0, i, _, _ => rfl
  | .m l :: as, h, 0, k + 1, i, e1, e2 => by
    exfalso
    have e1 : l = i := by simpa using e1
    subst e1
    have e2 : as[k]? = some (.m l) := by simpa using e2
    have h := (Bool.and_eq_true_iff.mp h).1
    have : as.any (isM l) = true := List.any_eq_true.mpr ⟨.m l, List.mem_of_getElem? e2, by simp [isM]⟩
    rw [this] at h
    cases h
  | .m l :: as, h, j + 1, 0, i, e1, e2 => by
    exfalso
    have e2 : l = i := by simpa using e2
    subst e2
    have e1 : as[j]? = some (.m l) := by simpa using e1
    have h := (Bool.and_eq_true_iff.mp h).1
    have : as.any (isM l) = true := List.any_eq_true.mpr ⟨.m l, List.mem_of_getElem? e1, by simp [isM]⟩
    rw [this] at h
    cases h
  | .m l :: as, h, j + 1, k + 1, i, e1, e2 => by
    have := nodupM_inj (as := as) (Bool.and_eq_true_iff.mp h).2 (j := j) (k := k) (i := i) (by simpa using e1) (by simpa using e2)
    omega
section
variable {K : PySem.W.Frag} {mg : Str → Option Value} {H H1 H' : Hp} {σ σ1 σ2 : S} {σv : L2.St}
theorem mkL_get : ∀ {as : List Ar} {cs : List C}, mkL σ as = some cs → cs.length = as.length ∧ ∀ (j : Nat) (a : Ar), as[j]? = some a → ∃ c, cs[j]? = some c ∧ mkC σ a = some c
  | [], cs, h => by cases h; exact ⟨rfl, fun j a e => by simp at e⟩
  | a :: as, cs, h => by
    obtain ⟨c, e1, h⟩ := Option.bind_eq_some_iff.mp h
    obtain ⟨r, e2, rfl⟩ := Option.map_eq_some_iff.mp h
    obtain ⟨l, g⟩ := mkL_get e2
    refine ⟨by simp [l], fun j b e => ?_⟩
    cases j with
    | zero =>
      have : a = b := by simpa using e
      subst this
      exact ⟨c, rfl, e1⟩
    | succ j =>
      obtain ⟨c', q1, q2⟩ := g j b (by simpa using e)
      exact ⟨c', by simpa using q1, q2⟩
theorem ArAll.get : ∀ {as : List Ar} {vs : List V}, ArAll K H σv as vs → as.length = vs.length ∧ ∀ (j : Nat) (a : Ar), as[j]? = some a → ∃ v, vs[j]? = some v ∧ (match a with | .v d => Fz K H d v | .m i => σv[i]? = some (some v))
  | [], vs, h => by rw [show vs = [] from h]; exact ⟨rfl, fun j a e => by simp at e⟩
  | .v d :: as, vs, h => by
    obtain ⟨v, w, rfl, h1, h2⟩ := h
    obtain ⟨l, g⟩ := ArAll.get h2
    refine ⟨by simp [l], fun j b e => ?_⟩
    cases j with
    | zero =>
      have : Ar.v d = b := by simpa using e
      subst this
      exact ⟨v, rfl, h1⟩
    | succ j =>
      obtain ⟨c', q1, q2⟩ := g j b (by simpa using e)
      exact ⟨c', by simpa using q1, q2⟩
  | .m i :: as, vs, h => by
    obtain ⟨v, w, rfl, h1, h2⟩ := h
    obtain ⟨l, g⟩ := ArAll.get h2
    refine ⟨by simp [l], fun j b e => ?_⟩
    cases j with
    | zero =>
      have : Ar.m i = b := by simpa using e
      subst this
      exact ⟨v, rfl, h1⟩
    | succ j =>
      obtain ⟨c', q1, q2⟩ := g j b (by simpa using e)
      exact ⟨c', by simpa using q1, q2⟩
/-- a cell of the callee's: whose it is -/
theorem cell_of {as : List Ar} {cs : List C} {vs : List V} (e : mkL σ as = some cs) (a : ArAll K H σv as vs) {j : Nat} {c : C} (h : cs[j]? = some c) : ∃ v, vs[j]? = some v ∧ ((∃ d, as[j]? = some (.v d) ∧ c = .d d ∧ Fz K H d v) ∨
    ∃ i t es, as[j]? = some (.m i) ∧ c = .l .par es ∧ σ[i]? = some (some (.l t es)) ∧ t ≠ .lck ∧ σv[i]? = some (some v)) := by
  obtain ⟨l1, g1⟩ := mkL_get e
  obtain ⟨l2, g2⟩ := a.get
  have hj : j < as.length := by rw [← l1]; exact (List.getElem?_eq_some_iff.mp h).1
  have ea : as[j]? = some as[j] := List.getElem?_eq_getElem hj
  obtain ⟨c', q1, q2⟩ := g1 j _ ea
  rw [h] at q1
  cases q1
  obtain ⟨v, w1, w2⟩ := g2 j _ ea
  refine ⟨v, w1, ?_⟩
  rw [ea]
  generalize as[j] = aj at q2 w2
  cases aj with
  | v d =>
    cases q2
    exact .inl ⟨d, rfl, rfl, w2⟩
  | m i =>
    simp only [mkC] at q2
    split at q2
    · rename_i t es ei
      split at q2
      · cases q2
      · rename_i nt
        cases q2
        exact .inr ⟨i, t, es, rfl, rfl, ei, nt, w2⟩
    · cases q2
theorem args_rel {as : List Ar} {cs : List C} {vs : List V} (s : SRel K H σ σv) (e : mkCs σ as = some cs) (a : ArAll K H σv as vs) :
    vs.length = as.length ∧ SRel K H (cs.map some) (vs.map some) ∧ ArgOK cs ∧ ∀ p, OwnM (cs.map some) (vs.map some) p → ∃ i t, Ar.m i ∈ as ∧ t ≠ .lck ∧ At σ σv i t p := by
  unfold mkCs at e
  split at e
  · rename_i nd
    obtain ⟨l1, g1⟩ := mkL_get e
    obtain ⟨l2, g2⟩ := a.get
    have un : ∀ {j : Nat} {c : C}, (cs.map some)[j]? = some (some c) → cs[j]? = some c := fun {j c} q => by
      rw [List.getElem?_map] at q
      obtain ⟨x, q1, q2⟩ := Option.map_eq_some_iff.mp q
      cases q2
      exact q1
    have unv : ∀ {j : Nat} {c : V}, (vs.map some)[j]? = some (some c) → vs[j]? = some c := fun {j c} q => by
      rw [List.getElem?_map] at q
      obtain ⟨x, q1, q2⟩ := Option.map_eq_some_iff.mp q
      cases q2
      exact q1
    have atC : ∀ j t p, At (cs.map some) (vs.map some) j t p → ∃ i t', as[j]? = some (.m i) ∧ t' ≠ .lck ∧ At σ σv i t' p := fun j t p ⟨⟨ds, q⟩, qv⟩ => by
      obtain ⟨v, w1, w2⟩ := cell_of e a (un q)
      rw [unv qv] at w1
      cases w1
      rcases w2 with ⟨d, _, q, _⟩ | ⟨i, t', es, q1, q2, q3, q4, q5⟩
      · cases q
      · exact ⟨i, t', q1, q4, ⟨es, q3⟩, q5⟩
    refine ⟨l2.symm, ⟨by rw [List.length_map, List.length_map, l1, l2], fun j c q => ?_, fun j k t u p h1 h2 => ?_⟩, fun c hc ds z => ?_, fun p ⟨j, t, nt, h⟩ => ?_⟩
    · obtain ⟨v, w1, w2⟩ := cell_of e a (un q)
      refine ⟨v, by rw [List.getElem?_map, w1]; rfl, ?_⟩
      rcases w2 with ⟨d, _, rfl, hd⟩ | ⟨i, t', es, q1, rfl, q3, q4, q5⟩
      · exact hd
      · obtain ⟨v', z1, z2⟩ := s.val i _ q3
        rw [q5] at z1
        have : v = v' := by injection z1 with z1; injection z1
        subst this
        exact z2
    · obtain ⟨i, t', e1, _, a1⟩ := atC j t p h1
      obtain ⟨i', t'', e2, _, a2⟩ := atC k u p h2
      have := s.apart _ _ _ _ _ a1 a2
      subst this
      exact nodupM_inj nd e1 e2
    · subst z
      obtain ⟨j, hj⟩ := List.mem_iff_getElem?.mp hc
      obtain ⟨v, w1, w2⟩ := cell_of e a hj
      rcases w2 with ⟨d, _, q, _⟩ | ⟨i, t', es, q1, q2, _⟩
      · cases q
      · cases q2
    · obtain ⟨i, t', e1, nt', a1⟩ := atC j t p h
      exact ⟨i, t', List.mem_of_getElem? e1, nt', a1⟩
  · cases e
theorem put_step (s : SRel K H σ1 σv) : ∀ (as : List Ar) (σ' : S) (σ σ2 : S) (vs : List V) (cs : List C), putB as σ' σ = some σ2 → Sub σ1 σ → σ.length = σv.length → ArAll K H σv as vs →
    (∀ (j : Nat) (i : Nat), as[j]? = some (.m i) → ∃ es, cs[j]? = some (.l .par es)) → ParOk K H' cs vs σ' →
    (∀ (j : Nat) (c : C), σ[j]? = some (some c) → (∃ v, σv[j]? = some (some v) ∧ CRel K H' c v) ∨ Ar.m j ∈ as) →
    Sub σ1 σ2 ∧ σ2.length = σv.length ∧ ∀ (j : Nat) (c : C), σ2[j]? = some (some c) → ∃ v, σv[j]? = some (some v) ∧ CRel K H' c v
  | [], σ', σ, σ2, vs, cs, e, su, hl, aa, hc, po, h => by
    cases e
    exact ⟨su, hl, fun j c q => (h j c q).elim id fun z => by cases z⟩
  | .v d :: as, [], σ, σ2, vs, cs, e, _, _, _, _, _, _ => by cases e
  | .m i :: as, [], σ, σ2, vs, cs, e, _, _, _, _, _, _ => by cases e
  | .v d :: as, c0 :: σ', σ, σ2, vs, cs, e, su, hl, aa, hc, po, h => by
    obtain ⟨v, w, rfl, _, aa⟩ := aa
    refine put_step s as σ' σ σ2 w cs.tail e su hl aa (fun j i q => ?_) (fun j ds q => ?_) fun j c q => (h j c q).elim .inl fun z => .inr ?_
    · obtain ⟨es, q2⟩ := hc (j + 1) i (by simpa using q)
      exact ⟨es, by rw [List.getElem?_tail]; exact q2⟩
    · obtain ⟨ds', a, ws, q1, q2, q3, q4⟩ := po (j + 1) ds (by rw [List.getElem?_tail] at q; exact q)
      exact ⟨ds', a, ws, by simpa using q1, by simpa using q2, q3, q4⟩
    · rcases List.mem_cons.mp z with z | z
      · cases z
      · exact z
  | .m i :: as, c0 :: σ', σ, σ2, vs, cs, e, su, hl, aa, hc, po, h => by
    obtain ⟨v, w, rfl, ev, aa⟩ := aa
    unfold putB at e
    split at e
    · rename_i t es0 ds' ei
      split at e
      · cases e
      rename_i ntl
      obtain ⟨es, q0⟩ := hc 0 i rfl
      obtain ⟨ds'', a, ws, q1, q2, q3, q4⟩ := po 0 es q0
      have q1 : ds'' = ds' := by
        have : (some (C.l .par ds')) = some (C.l .par ds'') := by simpa using q1
        cases this
        rfl
      subst q1
      have q2 : v = .ref a := by simpa using q2
      subst q2
      refine put_step s as σ' (σ.set i (some (.l t ds''))) σ2 w cs.tail e (su.trans fun j => ?_) (by rw [List.length_set]; exact hl) aa (fun j i q => ?_) (fun j ds q => ?_) fun j c q => ?_
      · by_cases hj : j = i
        · subst hj
          rw [ei, get_set ei]
          obtain ⟨ds1, e1⟩ := (su j).mut ei
          cases t with
          | own => exact .inl ⟨_, rfl⟩
          | par => exact ⟨_, rfl⟩
          | lck => exact absurd rfl ntl
        · rw [List.getElem?_set_ne (Ne.symm hj)]
          exact SubC.refl _
      · obtain ⟨es, q2⟩ := hc (j + 1) i (by simpa using q)
        exact ⟨es, by rw [List.getElem?_tail]; exact q2⟩
      · obtain ⟨ds', a, ws, q1, q2, q3, q4⟩ := po (j + 1) ds (by rw [List.getElem?_tail] at q; exact q)
        exact ⟨ds', a, ws, by simpa using q1, by simpa using q2, q3, q4⟩
      · by_cases hj : j = i
        · subst hj
          rw [get_set ei] at q
          cases q
          exact .inl ⟨_, ev, a, ws, rfl, q3, q4⟩
        · rw [List.getElem?_set_ne (Ne.symm hj)] at q
          rcases h j c q with z | z
          · exact .inl z
          · rcases List.mem_cons.mp z with z | z
            · cases z; exact absurd rfl hj
            · exact .inr z
    · cases e
/-- behind a call -/
theorem call_step {as : List Ar} {cs : List C} {vs : List V} {σ' : S} (s : SRel K H σ1 σv) (e : mkCs σ1 as = some cs) (a : ArAll K H σv as vs) (kp : Keep (OwnM (cs.map some) (vs.map some)) H H') (po : ParOk K H' cs vs σ') (ep : putB as σ' σ1 = some σ2) :
    Step K H σ1 σv H' σ2 := by
  obtain ⟨_, sr, _, ow⟩ := args_rel s e a
  have keep : Keep (OwnM σ1 σv) H H' := kp.mono fun p o _ z => by
    obtain ⟨i, t, _, nt, h⟩ := ow p z
    exact ⟨i, t, nt, h⟩
  have im := s.imm keep
  have e2 : mkL σ1 as = some cs := by
    unfold mkCs at e
    split at e
    · exact e
    · cases e
  obtain ⟨l1, g1⟩ := mkL_get e2
  obtain ⟨su, hl, hv⟩ := put_step (K := K) (H := H) (H' := H') s as σ' σ1 σ2 vs cs ep (Sub.refl _) s.len a (fun j i q => by
    obtain ⟨c, q1, q2⟩ := g1 j _ q
    obtain ⟨v, w1, w2⟩ := cell_of e2 a q1
    rcases w2 with ⟨d, q3, _, _⟩ | ⟨i', t', es, _, q4, _⟩
    · rw [q] at q3; cases q3
    · exact ⟨es, by rw [q1, q4]⟩) po fun j c q => by
      by_cases hm : Ar.m j ∈ as
      · exact .inr hm
      · refine .inl ?_
        obtain ⟨v, e1, hc⟩ := s.val j c q
        refine ⟨v, e1, CRel.mono im (fun t ds p ec ev ws hp => ?_) hc⟩
        subst ec ev
        refine kp.at hp (fun z => ?_) fun _ z => by cases z
        obtain ⟨i, t', hi, _, h⟩ := ow p z
        have := s.apart _ _ _ _ _ h ⟨⟨ds, q⟩, e1⟩
        subst this
        exact hm hi
  exact ⟨keep, ⟨hl, hv, fun i j t u p h1 h2 => s.apart _ _ _ _ _ (su.at h1) (su.at h2)⟩, su⟩
end
section
variable {X : Cx} {W : WX} {e : Expr} {es : List Expr} {AM : S → Res (List Ar)} {p pos : Pos} {CX : CXT} {k : Nat} {f : Addr} {fd : FuncData} {ps : List Str} {ex : Bool} {n : Nat} {m : Meaning} {x : Str}
theorem de_call (F : FnOk X.prog X.w X.K X.mg X.base CX k f fd ps (spD X.K X.mg ex (e :: es).length m)) (hr : Room k X.A) (hg : Gl X x) (hm : X.mg x = some (.ref f)) (hk : PySem.W.keepIn X.K (.ref f) = true) (hb : Binds X.K fd ps []) (hx : ∀ σ, PassesAt CX X σ (WE W σ))
    (hex : ex = true ∨ ex = false) (hal : ∀ σ as σ1, AM σ = .ok as σ1 → as.length = (e :: es).length)
    (ha : DM X W (e :: es) AM) (hdb : (x == ("__debug__" : Str)) = false := by decide) (he : starEach (e :: es) X.env = (false, eval e X.env) :: starEach es X.env := by rfl) (hpl : (backTo pos (starEach es X.env)).any (·.1) = false := by rfl)
    (hexc : ex = false → ∀ cs c σ', m cs ≠ .exc c σ') : DE X W (.Call (.Name x p) (e :: es) [] pos) (eCall m AM) :=
  pe_weak (pe_callS F hr hg hm hk hb hx ha hdb he hpl) fun σv H Q ⟨σ, s, h⟩ => by
    refine ⟨σ, s, ?_⟩
    unfold eCall at h
    cases ea : AM σ with
    | bad => rw [ea] at h; exact False.elim h
    | exc c σ1 => rw [ea] at h; exact h
    | ok as σ1 =>
      rw [ea] at h
      simp only [Res.bind] at h
      intro vs H1 st ra
      split at h
      · exact False.elim h
      · rename_i cs ecs
        obtain ⟨lv, sr, ao, ow⟩ := args_rel st.rel ecs ra
        refine ⟨by rw [lv]; exact hal σ as σ1 ea, cs, sr, ao, ?_⟩
        cases em : m (cs.map some) with
        | bad => rw [em] at h; exact False.elim h
        | exc c σ' =>
          rw [em] at h
          simp only at h ⊢
          split at h
          · rename_i σ2 ep
            refine ⟨?_, fun cls d H' ec kp po => ?_⟩
            · rcases hex with q | q
              · exact q
              · exact absurd em (hexc q _ _ _)
            · exact h cls d H' ec (st.trans (call_step st.rel ecs ra kp po ep))
          · exact False.elim h
        | ok r σ' =>
          rw [em] at h
          simp only at h ⊢
          intro v H' kp po rn
          cases r with
          | slot i => exact False.elim rn
          | d x =>
            simp only at h
            split at h
            · rename_i σ2 ep
              exact h v H' (st.trans (call_step st.rel ecs ra kp po ep)) rn
            · exact False.elim h
          | own ds =>
            simp only at h
            split at h
            · rename_i σ2 ep
              refine h v H' (st.trans (call_step st.rel ecs ra kp po ep)) ?_
              obtain ⟨a, ws, e1, h0, h1, h2⟩ := rn
              exact ⟨a, ws, e1, st.keep.gone a h0, h1, h2⟩
            · exact False.elim h
end
end FL

set_option Elab.async false
set_option linter.all false
set_option maxRecDepth 100000
set_option maxHeartbeats 2000000
/-! FL: defs that let no error out; constants; the head. -/
namespace FL
open PySem PySem.Spec PyProof.Rows L2
/-- what the caller sees behind: the lent lists alone -/
@[simp] def cut : S → S → S
  | some (.l .par _) :: σ, c :: σ' => c :: cut σ σ'
  | _ :: σ, _ :: σ' => none :: cut σ σ'
  | _ :: σ, [] => none :: cut σ []
  | [], _ => []
theorem cut_at : ∀ (σ σ' : S) (i : Nat) (ds : List D), σ[i]? = some (some (.l .par ds)) → i < σ'.length → (cut σ σ')[i]? = σ'[i]?
  | [], σ', i, ds, h, _ => by simp at h
  | c :: σ, [], i, ds, h, hl => by simp at hl
  | c :: σ, c' :: σ', 0, ds, h, _ => by
    have h : c = some (.l .par ds) := by simpa using h
    subst h
    rfl
  | c :: σ, c' :: σ', i + 1, ds, h, hl => by
    have ih := cut_at σ σ' i ds (by simpa using h) (by simpa using hl)
    have e : (cut (c :: σ) (c' :: σ'))[i + 1]? = (cut σ σ')[i]? := by
      match c with
      | some (.l .par _) => rfl
      | some (.l .own _) => rfl
      | some (.l .lck _) => rfl
      | some (.d _) => rfl
      | none => rfl
    rw [e, ih]
    rfl
@[simp] def funSem0 (n : Nat) (B : S → Out) : Meaning := fun σ => match funSem n B σ with
  | .ok r σ' => .ok r (cut σ σ')
  | _ => .bad
theorem spD_cut {K : PySem.W.Frag} {mg : Str → Option Value} {n k : Nat} {B : S → Out} {vs : List V} {H : Hp} {Q : VK} {E : XK} (h : spD K mg false k (funSem0 n B) vs H Q E) : spD K mg false k (funSem n B) vs H Q E := by
  obtain ⟨hl, cs, s, ao, h⟩ := h
  refine ⟨hl, cs, s, ao, ?_⟩
  unfold funSem0 at h
  cases e : funSem n B (cs.map some) with
  | bad => rw [e] at h; exact h
  | exc c σ' => rw [e] at h; exact False.elim h
  | ok r σ' =>
    rw [e] at h
    refine fun v H' kp po rn => h v H' kp (fun i ds q => ?_) rn
    obtain ⟨ds', a, ws, q1, q2⟩ := po i ds q
    exact ⟨ds', a, ws, by rw [cut_at _ _ i ds (by rw [List.getElem?_map, q]; rfl) (List.getElem?_eq_some_iff.mp q1).1]; exact q1, q2⟩
theorem funSem0_noexc {n : Nat} {B : S → Out} : ∀ cs c σ', funSem0 n B cs ≠ .exc c σ' := fun cs c σ' z => by
  unfold funSem0 at z
  split at z <;> cases z
section
variable {P : Program} {w : World} {K : PySem.W.Frag} {mg : Str → Option Value} {base : Heap} {x qual : Str} {params : Arguments} {body : List Stmt} {scope : Scope} {dvs : List V} {kws : List (Str × V)} {f : Addr} {fd : FuncData}
theorem fn_ok {N ps : List Str} {k n : Nat} {B : S → Out} (F : FunD K x qual params body scope dvs kws f fd) (Sc : FnScope N ps scope)
    (hbody : ∀ (cdv : Value) (A : Around) (outer : List Env) (s : Shared) (H : Hp) (E : XK), Room k (A.deeper (envOfC qual scope s.heap.objs.size f cdv)) → DSs (cxOf CX0 P w K mg base N qual scope f cdv A outer s H E).nox W0 body B) (hn : N.length = n := by rfl) (hp : ps.length ≤ N.length := by decide) :
    FnOk P w K mg base CX0 (k + 1) f fd ps (spD K mg false ps.length (funSem0 n B)) := (fn_ok0 F Sc hn hp hbody).imp fun _ _ _ _ h => spD_cut h
/-- a def that cannot be called -/
theorem fn_none {ps : List Str} {k : Nat} {m : Meaning} (h : ∀ σ, m σ = .bad) : FnOk P w K mg base CX0 k f fd ps (spD K mg false ps.length m) :=
  ⟨fun vs H Q E h => h.1, fun A outer s H args us vs Q E hr e0 hb r sp => by
    obtain ⟨_, cs, _, _, z⟩ := sp
    rw [h] at z
    exact False.elim z⟩
end
theorem al_nil {σ σ1 : S} {as : List Ar} (h : mNil σ = .ok as σ1) : as.length = 0 := by cases h; rfl
def AL (A : S → Res (List Ar)) (n : Nat) : Prop := ∀ σ as σ1, A σ = .ok as σ1 → as.length = n
theorem al0 : AL mNil 0 := fun σ as σ1 h => al_nil h
theorem alV {E : S → Res R} {A : S → Res (List Ar)} {n : Nat} (h : AL A n) : AL (mVal E A) (n + 1) := fun σ as σ1 e => by
  unfold mVal at e
  obtain ⟨r, σ2, _, e⟩ := Res.bind_ok e
  obtain ⟨d, σ3, _, e⟩ := Res.bind_ok e
  obtain ⟨as', σ4, e4, e⟩ := Res.bind_ok e
  cases e
  rw [List.length_cons, h _ _ _ e4]
theorem alM {E : S → Res R} {A : S → Res (List Ar)} {n : Nat} (h : AL A n) : AL (mMut E A) (n + 1) := fun σ as σ1 e => by
  unfold mMut at e
  obtain ⟨r, σ2, _, e⟩ := Res.bind_ok e
  cases r with
  | own ds => cases e
  | d d =>
    obtain ⟨as', σ4, e4, e⟩ := Res.bind_ok e
    cases e
    rw [List.length_cons, h _ _ _ e4]
  | slot i =>
    obtain ⟨as', σ4, e4, e⟩ := Res.bind_ok e
    cases e
    rw [List.length_cons, h _ _ _ e4]
section
variable {X : Cx} {e : Expr} {es : List Expr} {AM : S → Res (List Ar)} {p pos : Pos} {k : Nat} {f : Addr} {fd : FuncData} {ps : List Str} {B : S → Out} {x : Str} {W : WX}
theorem pass00 {σ : L2.St} : PassesAt CX0 X σ (WE W σ) := fun _ _ _ _ _ _ h => h.elim
/-- a call of a def that lets no error out -/
theorem de_call0 {m : Meaning} (F : FnOk X.prog X.w X.K X.mg X.base CX0 k f fd ps (spD X.K X.mg false ps.length m)) (hne : ∀ cs c σ', m cs ≠ .exc c σ') (hr : Room k X.A) (hm : X.mg x = some (.ref f)) (hk : PySem.W.keepIn X.K (.ref f) = true) (hb : Binds X.K fd ps [])
    (ha : DM X W (e :: es) AM) (hal : AL AM ps.length) (hlen : (e :: es).length = ps.length := by rfl) (hg : Gl X x := by rfl) (hdb : (x == ("__debug__" : Str)) = false := by decide) (he : starEach (e :: es) X.env = (false, eval e X.env) :: starEach es X.env := by rfl) (hpl : (backTo pos (starEach es X.env)).any (·.1) = false := by rfl) :
    DE X W (.Call (.Name x p) (e :: es) [] pos) (eCall m AM) :=
  de_call (ex := false) (by rw [hlen]; exact F) hr hg hm hk hb (fun _ => pass00) (.inr rfl) (by rw [hlen]; exact hal) ha hdb he hpl fun _ => hne
theorem de_gint {i : Int} {t : Tok} (hm : X.mg x = some (.int i t)) (hg : Gl X x := by rfl) (hd : (x == ("__debug__" : Str)) = false := by decide) : DE X W (.Name x pos) (eC (.int i)) := de_of_const (pe_glob (v := .int i) hg hm ⟨t, rfl⟩ hd) (fun _ _ _ q => q) fun _ _ => rfl
theorem de_gstr {i : Str} {t : Tok} (hm : X.mg x = some (.str i t)) (hg : Gl X x := by rfl) (hd : (x == ("__debug__" : Str)) = false := by decide) : DE X W (.Name x pos) (eC (.str i)) := de_of_const (pe_glob (v := .str i) hg hm ⟨t, rfl⟩ hd) (fun _ _ _ q => q) fun _ _ => rfl
end

/-! ### the head -/
def noLst (K : PySem.W.Frag) : Bool := K.all fun p => match p.2.cls with
  | .type c => c != "list"
  | _ => true
def NoL (K : PySem.W.Frag) : Prop := ∀ a o, K.lookup a = some o → o.cls ≠ .type "list"
theorem mem_lookup : ∀ {K : PySem.W.Frag} {a : Addr} {o : Obj}, K.lookup a = some o → (a, o) ∈ K
  | [], _, _, h => by cases h
  | (b, u) :: K, a, o, h => by
    unfold List.lookup at h
    by_cases hb : (a == b) = true
    · rw [hb] at h
      cases h
      rw [eq_of_beq hb]
      exact List.mem_cons_self
    · have hb' : (a == b) = false := by simpa using hb
      rw [hb'] at h
      exact List.mem_cons_of_mem _ (mem_lookup h)
theorem noLst_ok {K : PySem.W.Frag} (h : noLst K = true) : NoL K := fun a o e z => by
  have := List.all_eq_true.mp h _ (mem_lookup e)
  simp only [z] at this
  exact absurd this (by decide)
abbrev AlL : Type := Bool × He.AlD
def obsL (fa : List He.Fa) (fn : List He.DefD) (K : PySem.W.Frag) : AlL := (noLst K, He.obsD fa fn K)
def obsLG (n : Nat) (fa : List He.Fa) (fn : List He.DefD) (g : Addr → Option Obj) : AlL := obsL fa fn (He.frG g (He.asD g n))
def hookL (n : Nat) (fa : List He.Fa) (fn : List He.DefD) : PySem.W.Hook where
  α := AlL
  obs := fun s => obsLG n fa fn s.heap.get?
  val := fun _ => (true, He.valD fn)
  says := fun _ h => ∃ K : PySem.W.Frag, K.In h ∧ He.SaysD fa fn K ∧ NoL K
  of := fun _ _ e => ⟨_, He.frG_in, congrArg (fun z : AlL => z.2) e, noLst_ok (congrArg (fun z : AlL => z.1) e)⟩
  keeps := fun _ _ _ ⟨K, hK, c⟩ k => ⟨K, PySem.W.Frag.In.keeps hK k, c⟩
theorem obsLG_eq {n : Nat} {fa : List He.Fa} {fn : List He.DefD} {g : Addr → Option Obj} {s : Shared} (h : ∀ a, g a = s.heap.get? a) : obsLG n fa fn g = (hookL n fa fn).obs s := by
  have e : g = s.heap.get? := funext h
  rw [e]; rfl
/-- what the law's def is to be given -/
theorem law_in {K : PySem.W.Frag} {mg : Str → Option Value} {m : Meaning} {n : Nat} (nl : NoL K) (hm : ∀ ns : List Int, ns.length ≤ n → ∃ σ', m [some (.d (.list (ns.map PyData.int)))] = .ok (.d (.bool true)) σ') {H : Hp} {a : Addr} {ns : List Int} (hl : ns.length ≤ n) (hO : Only H) (hS : SqL K H a (ns.map V.int)) :
    spD K mg false 1 m [.ref a] H (fun v _ => v = .bl true) fun _ _ _ => False := by
  have hz : FzL H a (ns.map V.int) := by
    rcases hS with (h | h) | ⟨o, its, k, h1, h2, _⟩
    · rcases hO a with z | ⟨o, xs, z⟩
      · rw [z] at h; cases h
      · rw [z] at h; cases h
    · exact h
    · exact absurd h2 (nl a o h1)
  have hf : ∀ ns : List Int, FzAll K H (ns.map PyData.int) (ns.map V.int) := fun ns => by
    induction ns with
    | nil => exact FzAll.nil
    | cons n ns ih => exact FzAll.cons (show V.int n = V.int n from rfl) ih
  obtain ⟨σ', e⟩ := hm ns hl
  refine ⟨rfl, [.d (.list (ns.map PyData.int))], ⟨rfl, fun i c q => ?_, fun i j t u p ⟨⟨ds, q⟩, _⟩ => ?_⟩, fun c hc ds z => ?_, ?_⟩
  · cases i with
    | zero =>
      cases q
      exact ⟨_, rfl, a, _, rfl, hz, hf ns⟩
    | succ i => cases q
  · cases i with
    | zero => cases q
    | succ i => cases q
  · rw [List.mem_singleton.mp hc] at z
    cases z
  · show match m [some (.d (.list (ns.map PyData.int)))] with | .ok r σ' => _ | .exc c σ' => _ | .bad => _
    rw [e]
    exact fun v H' _ _ rn => rn
end FL

set_option Elab.async false
set_option linter.all false
set_option maxRecDepth 100000
set_option maxHeartbeats 2000000
/-! FL: more rules. -/
namespace FL
open PySem PySem.Spec PyProof.Rows L2
theorem hu_room {k : Nat} {A : Around} (hr : Room k A) : A.units + 65 < cLine := by have := hr.un; omega
@[simp] def gNeg : D → Option R
  | .int i => some (.d (.int (-i)))
  | _ => none
section
variable {X : Cx} {W : WX} {a : Expr} {Ea : S → Res R} {pos : Pos}
theorem de_neg (ha : DE X W a Ea) : DE X W (.UnaryOp .USub a pos) (eOp1 gNeg Ea) := de_un un_neg (fun a va H Q res hv e q => by
  unfold gNeg at e
  split at e
  · cases e
    exact ⟨_, view_int hv, q _ _ new_int⟩
  · cases e) ha
end
end FL

set_option Elab.async false
set_option linter.all false
set_option maxRecDepth 100000
/-! what the defs mean that many laws have -/
namespace FL.Com
open PySem FL
/-! is_number(value, least, most); slots 0:value 1:least 2:most -/
def b_is_number : S → Out := sRet (eAnd (eOp1 (gIsi "int") (eName 0)) (eAnd (eNot (eOp1 (gIsi "bool") (eName 0))) (eChain gLe gLe (eName 1) (eName 0) (eName 2))))
def m_is_number : Meaning := funSem0 3 b_is_number
theorem ne_is_number : ∀ cs c σ, m_is_number cs ≠ .exc c σ := funSem0_noexc
/-! _law_draws(script); slots 0:script 1:draws 2:cell 3:number 4:first 5:k 6:seed -/
def l__law_draws_1 : S → Out := sIf (tTru isBool (eOp2 gGt (eName 3) (eC (.int 0)))) (sSeq (sDrop (eMut gAppend (eName 1) (aCons (eOp2 gMod (eOp1 gToInt (eName 3)) (eC (.int 997))) (aNil)))) (sSet 3 (eOp2 gFdv (eName 3) (eC (.int 997))))) (sNx)
def l__law_draws_2 : S → Out := sSeq (sSet 3 (eOp1 gAbs (eName 2))) (sSeq (sIf (tTru isBool (eOp2 gLt (eName 3) (eOp2 gPow (eC (.int 10)) (eC (.int 18))))) (sSeq (sSet 4 (eOp2 gMod (eOp1 gToInt (eOp2 gAdd (eOp2 gMul (eName 3) (eC (.int 48271))) (eC (.int 11)))) (eC (.int 2147483647)))) (sSeq (sDrop (eMut gAppend (eName 1) (aCons (eOp2 gMod (eOp1 gToInt (eOp2 gAdd (eOp2 gMul (eName 4) (eC (.int 69621))) (eName 3))) (eC (.int 2147483629))) (aNil)))) (sSeq (sDrop (eMut gAppend (eName 1) (aCons (eOp2 gMod (eOp1 gToInt (eOp2 gAdd (eName 4) (eOp2 gFdv (eName 3) (eC (.int 7))))) (eC (.int 1000003))) (aNil)))) (sSet 3 (eC (.int 0)))))) (sNx)) (sFor (iRange1 (aCons (eC (.int 60)) (aNil))) (gN 5) (l__law_draws_1)))
def l__law_draws_3 : S → Out := sSeq (sSet 6 (eOp2 gMod (eOp1 gToInt (eOp2 gAdd (eOp2 gMul (eName 6) (eC (.int 48271))) (eC (.int 69621)))) (eC (.int 2147483647)))) (sDrop (eMut gAppend (eName 1) (aCons (eOp2 gFdv (eName 6) (eC (.int 5))) (aNil))))
def b__law_draws : S → Out := sSeq (sSet 1 (eLst (aNil))) (sSeq (sFor (iE (eName 0)) (gN 2) (l__law_draws_2)) (sSeq (sSet 6 (eC (.int 1))) (sSeq (sIf (tTru isBool (eOp2 gGt (eOp1 gLen (eName 0)) (eC (.int 0)))) (sSet 6 (eOp2 gAdd (eC (.int 1)) (eOp1 gAbs (eOp2 gIx (eName 0) (eC (.int 0)))))) (sNx)) (sSeq (sFor (iRange1 (aCons (eC (.int 900)) (aNil))) (gN 5) (l__law_draws_3)) (sRet (eOp1 gListRev (eName 1)))))))
def m__law_draws : Meaning := funSem0 7 b__law_draws
theorem ne__law_draws : ∀ cs c σ, m__law_draws cs ≠ .exc c σ := funSem0_noexc
/-! _law_take(draws, bound); slots 0:draws 1:bound -/
def b__law_take : S → Out := sSeq (sIf (tTru isBool (eOp2 gEq (eOp1 gLen (eName 0)) (eC (.int 0)))) (sRet (eC (.int 0))) (sNx)) (sRet (eOp2 gMod (eOp1 gToInt (eMut gPop (eName 0) aNil)) (eName 1)))
def m__law_take : Meaning := funSem0 2 b__law_take
theorem ne__law_take : ∀ cs c σ, m__law_take cs ≠ .exc c σ := funSem0_noexc
/-! _law_alike(found, due); slots 0:found 1:due 2:k -/
def t__law_alike_1 (rec : Meaning) : S → Res Bool := tNotF (tTru truth (eCall rec (mVal (eOp2 gIx (eName 0) (eName 2)) (mVal (eOp2 gIx (eName 1) (eName 2)) (mNil)))))
def e__law_alike_1 : S → Res R := eName 2
def b__law_alike (rec : Meaning) : S → Out := sSeq (sIf (tOrF (tTru truth (eOp1 (gIsi "list") (eName 1))) (tTru truth (eOp1 (gIsi "tuple") (eName 1)))) (sSeq (sIf (tOrF (tTru isBool (eOp2 gNe (eOp1 (gIsi "list") (eName 0)) (eOp1 (gIsi "list") (eName 1)))) (tTru isBool (eOp2 gNe (eOp1 (gIsi "tuple") (eName 0)) (eOp1 (gIsi "tuple") (eName 1))))) (sRet (eC (.bool false))) (sNx)) (sRet (eAnd (eOp2 gEq (eOp1 gLen (eName 0)) (eOp1 gLen (eName 1))) (eOp2 gEq (eLc [2] (iRange1 (aCons (eOp1 gLen (eName 1)) (aNil))) (gN 2) (t__law_alike_1 rec) (e__law_alike_1)) (eLst (aNil)))))) (sNx)) (sSeq (sIf (tTru isBool (eOp2 gIs (eName 1) (eC .none))) (sRet (eOp2 gIs (eName 0) (eC .none))) (sNx)) (sSeq (sIf (tOrF (tTru truth (eOp1 (gIsi "bool") (eName 1))) (tTru truth (eOp1 (gIsi "bool") (eName 0)))) (sRet (eAnd (eOp1 (gIsi "bool") (eName 0)) (eAnd (eOp1 (gIsi "bool") (eName 1)) (eOp2 gEq (eName 0) (eName 1))))) (sNx)) (sSeq (sIf (tTru truth (eOp1 (gIsi "int") (eName 1))) (sRet (eAnd (eOp1 (gIsi "int") (eName 0)) (eOp2 gEq (eName 0) (eName 1)))) (sNx)) (sRet (eAnd (eOp1 (gIsi "str") (eName 0)) (eOp2 gEq (eName 0) (eName 1)))))))
def m__law_alike : Nat → Meaning
  | 0 => fun _ => .bad
  | n + 1 => funSem0 3 (b__law_alike (m__law_alike n))
theorem ne__law_alike : ∀ n cs c σ, m__law_alike n cs ≠ .exc c σ
  | 0, _, _, _ => fun z => by cases z
  | n + 1, cs, c, σ => funSem0_noexc cs c σ
/-! _law_says(told, due); slots 0:told 1:due -/
def b__law_says : S → Out := sRet (eAnd (eOp1 (gIsi "bool") (eName 0)) (eOp2 gEq (eName 0) (eName 1)))
def m__law_says : Meaning := funSem0 2 b__law_says
theorem ne__law_says : ∀ cs c σ, m__law_says cs ≠ .exc c σ := funSem0_noexc
end FL.Com

set_option Elab.async false
set_option linter.all false
set_option maxRecDepth 100000
set_option maxHeartbeats 4000000
/-! FL: reckoning with meanings: loops, comprehensions, the defs that many laws have. -/
namespace FL
open PySem
theorem forL_run {g : G} {B : S → Out} (P : Nat → S → Prop) : ∀ (ds : List D) (n : Nat) (σ : S), P n σ → (∀ i d σ, ds[i]? = some d → P (n + i) σ → ∃ σ1, g d σ = some σ1 ∧ ∃ σ2, (B σ1 = .nx σ2 ∨ B σ1 = .cnt σ2) ∧ P (n + i + 1) σ2) →
    ∃ σ', forL g B ds σ = .nx σ' ∧ P (n + ds.length) σ'
  | [], n, σ, h, _ => ⟨σ, rfl, h⟩
  | d :: ds, n, σ, h, st => by
    obtain ⟨σ1, e1, σ2, e2, h2⟩ := st 0 d σ rfl h
    obtain ⟨σ', e, hp⟩ := forL_run P ds (n + 1) σ2 h2 fun i d σ hd hP => by
      obtain ⟨σ1, q1, σ2, q2, q3⟩ := st (i + 1) d σ (by simpa using hd) (by rw [show n + (i + 1) = n + 1 + i by omega]; exact hP)
      exact ⟨σ1, q1, σ2, q2, by rw [show n + 1 + i + 1 = n + (i + 1) + 1 by omega]; exact q3⟩
    refine ⟨σ', ?_, by rw [List.length_cons, show n + (ds.length + 1) = n + 1 + ds.length by omega]; exact hp⟩
    unfold forL
    rw [e1]
    rcases e2 with e2 | e2 <;> simp only [e2] <;> exact e
theorem for_run {g : G} {B : S → Out} {ds : List D} {σ : S} (P : Nat → S → Prop) (h : P 0 σ) (st : ∀ i d σ, ds[i]? = some d → P i σ → ∃ σ1, g d σ = some σ1 ∧ ∃ σ2, (B σ1 = .nx σ2 ∨ B σ1 = .cnt σ2) ∧ P (i + 1) σ2) :
    ∃ σ', forL g B ds σ = .nx σ' ∧ P ds.length σ' := by
  obtain ⟨σ', e, p⟩ := forL_run P ds 0 σ h fun i d σ hd hp => by
    rw [Nat.zero_add] at hp ⊢
    exact st i d σ hd hp
  rw [Nat.zero_add] at p
  exact ⟨σ', e, p⟩
theorem while_run {T : S → Res Bool} {B : S → Out} (P : S → Prop) (μ : S → Nat) (Q : S → Prop) (st : ∀ σ, P σ → (∃ σ1, T σ = .ok false σ1 ∧ Q σ1) ∨ ∃ σ1, T σ = .ok true σ1 ∧ ∃ σ2, (B σ1 = .nx σ2 ∨ B σ1 = .cnt σ2) ∧ P σ2 ∧ μ σ2 < μ σ) :
    ∀ (n : Nat) (σ : S), μ σ ≤ n → P σ → ∃ σ', sWhile T B σ = .nx σ' ∧ Q σ'
  | n, σ, hn, hp => by
    rcases st σ hp with ⟨σ1, e, q⟩ | ⟨σ1, e1, σ2, e2, hp2, hm⟩
    · exact ⟨σ1, sWhile_stop e, q⟩
    · rw [sWhile_next e1 e2]
      cases n with
      | zero => omega
      | succ n => exact while_run P μ Q st n σ2 (by omega) hp2
theorem lcL_runN {vs : List Nat} {g : G} {T : S → Res Bool} {E : S → Res R} (P : Nat → S → List D → Prop) : ∀ (ds : List D) (n : Nat) (σ : S) (acc : List D), P n σ acc →
    (∀ i d σ acc, ds[i]? = some d → P (n + i) σ acc → ∃ σ1, g d σ = some σ1 ∧ ((∃ σ2, T σ1 = .ok false σ2 ∧ P (n + i + 1) (wipeS σ2 vs) acc) ∨ ∃ σ2 x σ3, T σ1 = .ok true σ2 ∧ (E σ2).bind toD = .ok x σ3 ∧ P (n + i + 1) (wipeS σ3 vs) (acc ++ [x]))) →
    ∃ xs σ', lcL vs g T E ds σ = .ok xs σ' ∧ P (n + ds.length) σ' (acc ++ xs)
  | [], n, σ, acc, h, _ => ⟨[], σ, rfl, by rw [List.append_nil]; exact h⟩
  | d :: ds, n, σ, acc, h, st => by
    have nxt : ∀ (σ2 : S) (acc2 : List D), P (n + 0 + 1) σ2 acc2 → ∃ xs σ', lcL vs g T E ds σ2 = .ok xs σ' ∧ P (n + (ds.length + 1)) σ' (acc2 ++ xs) := fun σ2 acc2 h2 => by
      obtain ⟨xs, σ', e, hp⟩ := lcL_runN P ds (n + 1) σ2 acc2 h2 fun i d σ acc hd hP => by
        obtain ⟨σ1, q1, q2⟩ := st (i + 1) d σ acc (by simpa using hd) (by rw [show n + (i + 1) = n + 1 + i by omega]; exact hP)
        refine ⟨σ1, q1, ?_⟩
        rw [show n + 1 + i + 1 = n + (i + 1) + 1 by omega]
        exact q2
      exact ⟨xs, σ', e, by rw [show n + (ds.length + 1) = n + 1 + ds.length by omega]; exact hp⟩
    obtain ⟨σ1, e1, e2⟩ := st 0 d σ acc rfl h
    rcases e2 with ⟨σ2, e2, h2⟩ | ⟨σ2, x, σ3, e2, e3, h2⟩
    · obtain ⟨xs, σ', e, hp⟩ := nxt _ _ h2
      refine ⟨xs, σ', ?_, hp⟩
      unfold lcL
      rw [e1]
      simp only [e2]
      exact e
    · obtain ⟨xs, σ', e, hp⟩ := nxt _ _ h2
      refine ⟨x :: xs, σ', ?_, by rw [List.append_assoc] at hp; exact hp⟩
      unfold lcL
      rw [e1]
      simp only [e2, if_true, e3, e]
theorem lc_run {vs : List Nat} {g : G} {T : S → Res Bool} {E : S → Res R} {ds : List D} {σ : S} (P : Nat → S → List D → Prop) (h : P 0 σ [])
    (st : ∀ i d σ acc, ds[i]? = some d → P i σ acc → ∃ σ1, g d σ = some σ1 ∧ ((∃ σ2, T σ1 = .ok false σ2 ∧ P (i + 1) (wipeS σ2 vs) acc) ∨ ∃ σ2 x σ3, T σ1 = .ok true σ2 ∧ (E σ2).bind toD = .ok x σ3 ∧ P (i + 1) (wipeS σ3 vs) (acc ++ [x]))) :
    ∃ xs σ', lcL vs g T E ds σ = .ok xs σ' ∧ P ds.length σ' xs := by
  obtain ⟨xs, σ', e, p⟩ := lcL_runN P ds 0 σ [] h fun i d σ acc hd hp => by
    rw [Nat.zero_add] at hp ⊢
    exact st i d σ acc hd hp
  rw [Nat.zero_add, List.nil_append] at p
  exact ⟨xs, σ', e, p⟩
/-- no item is taken -/
theorem lc_none {vs : List Nat} {g : G} {T : S → Res Bool} {E : S → Res R} {σ : S} : ∀ (ds : List D), (∀ d ∈ ds, ∃ σ1 σ2, g d σ = some σ1 ∧ T σ1 = .ok false σ2 ∧ wipeS σ2 vs = σ) → lcL vs g T E ds σ = .ok [] σ
  | [], _ => rfl
  | d :: ds, h => by
    obtain ⟨σ1, σ2, e1, e2, e3⟩ := h d List.mem_cons_self
    unfold lcL
    rw [e1]
    simp only [e2, Bool.false_eq_true, if_false, e3]
    exact lc_none ds fun d hd => h d (List.mem_cons_of_mem _ hd)
/-- each item by f, the slots as they were -/
theorem lc_map {vs : List Nat} {g : G} {T : S → Res Bool} {E : S → Res R} {σ : S} (p : D → Bool) (f : D → D) : ∀ (ds : List D), (∀ d ∈ ds, ∃ σ1 σ2, g d σ = some σ1 ∧ T σ1 = .ok (p d) σ2 ∧ (p d = false → wipeS σ2 vs = σ) ∧ (p d = true → ∃ σ3, (E σ2).bind toD = .ok (f d) σ3 ∧ wipeS σ3 vs = σ)) →
    lcL vs g T E ds σ = .ok ((ds.filter p).map f) σ
  | [], _ => rfl
  | d :: ds, h => by
    obtain ⟨σ1, σ2, e1, e2, e3, e4⟩ := h d List.mem_cons_self
    have ih := lc_map p f ds fun d hd => h d (List.mem_cons_of_mem _ hd)
    unfold lcL
    rw [e1]
    simp only [e2]
    cases hp : p d with
    | false =>
      rw [List.filter_cons_of_neg (by rw [hp]; decide)]
      simp only [Bool.false_eq_true, if_false, e3 hp]
      exact ih
    | true =>
      obtain ⟨σ3, e5, e6⟩ := e4 hp
      rw [List.filter_cons_of_pos hp]
      simp only [if_true, e5, e6, ih, List.map_cons]
/-! ### operations by kind -/
@[simp] theorem gEq_int (a b : Int) : gEq (.int a) (.int b) = some (.d (.bool (decide (a = b)))) := by
  unfold gEq
  rw [if_pos ⟨rfl, rfl⟩]
  rfl
@[simp] theorem gNe_int (a b : Int) : gNe (.int a) (.int b) = some (.d (.bool (!decide (a = b)))) := by
  unfold gNe
  rw [if_pos ⟨rfl, rfl⟩]
  rfl
@[simp] theorem gEq_bool (a b : Bool) : gEq (.bool a) (.bool b) = some (.d (.bool (a == b))) := by
  unfold gEq
  rw [if_pos ⟨rfl, rfl⟩]
  rfl
@[simp] theorem gNe_bool (a b : Bool) : gNe (.bool a) (.bool b) = some (.d (.bool (!(a == b)))) := by
  unfold gNe
  rw [if_pos ⟨rfl, rfl⟩]
  rfl
@[simp] theorem gEq_nil : gEq (.list []) (.list []) = some (.d (.bool true)) := by
  unfold gEq
  rw [if_pos ⟨rfl, rfl⟩]
  rfl
@[simp] theorem gNe_nil : gNe (.list []) (.list []) = some (.d (.bool false)) := by
  unfold gNe
  rw [if_pos ⟨rfl, rfl⟩]
  rfl
@[simp] theorem atI_z {α : Type} (x : α) (xs : List α) : L2.atI (x :: xs) 0 = some x := by
  simp [L2.atI, L2.ixN]
theorem atI_n {α : Type} (xs : List α) (i : Nat) (h : i < xs.length) : L2.atI xs (i : Nat) = some xs[i] := by
  unfold L2.atI L2.ixN
  rw [if_pos (by omega), if_pos (by omega)]
  simp [h]
@[simp] theorem atI_1 {α : Type} (x y : α) (xs : List α) : L2.atI (x :: y :: xs) 1 = some y := atI_n (x :: y :: xs) 1 (by simp)
@[simp] theorem atI_2 {α : Type} (x y z : α) (xs : List α) : L2.atI (x :: y :: z :: xs) 2 = some z := atI_n (x :: y :: z :: xs) 2 (by simp)
@[simp] theorem atI_3 {α : Type} (x y z u : α) (xs : List α) : L2.atI (x :: y :: z :: u :: xs) 3 = some u := atI_n (x :: y :: z :: u :: xs) 3 (by simp)
@[simp] theorem mulOk_l (a b : Int) (h : a.natAbs < 2 ^ 64) : mulOk a b = true := by
  unfold mulOk
  rw [decide_eq_true h]; rfl
@[simp] theorem mulOk_r (a b : Int) (h : b.natAbs < 2 ^ 64) : mulOk a b = true := by
  unfold mulOk
  rw [decide_eq_true h]; simp
theorem mulOk_bits {a b : Int} (m n : Nat) (h : a.natAbs < 2 ^ m) (h2 : b.natAbs < 2 ^ n) (h3 : m + n ≤ 134217728) : mulOk a b = true := by
  have h1 : Builtin.Int.intBits a ≤ m := PySem.intBits_le_iff.mpr h
  have h2 : Builtin.Int.intBits b ≤ n := PySem.intBits_le_iff.mpr h2
  unfold mulOk
  rw [decide_eq_true (show Builtin.Int.intBits a + Builtin.Int.intBits b ≤ 134217728 by omega)]
  simp
theorem seq_nx {A B : S → Out} {σ σ1 : S} {o : Out} (h : A σ = .nx σ1) (k : B σ1 = o) : sSeq A B σ = o := by
  unfold sSeq
  rw [h]
  exact k
theorem fun_ret {n : Nat} {B : S → Out} {σ σ' : S} {x : D} (h : B (σ ++ List.replicate (n - σ.length) none) = .ret (.d x) σ') : funSem0 n B σ = .ok (.d x) (cut σ σ') := by
  unfold funSem0 funSem
  rw [h]
theorem fun_own {n : Nat} {B : S → Out} {σ σ' : S} {x : List D} (h : B (σ ++ List.replicate (n - σ.length) none) = .ret (.own x) σ') : funSem0 n B σ = .ok (.own x) (cut σ σ') := by
  unfold funSem0 funSem
  rw [h]
abbrev iL (ns : List Int) : List D := ns.map PyData.int
theorem iL_get {ns : List Int} {i : Nat} {d : D} (h : (iL ns)[i]? = some d) : ∃ n, ns[i]? = some n ∧ d = .int n := by
  rw [List.getElem?_map] at h
  obtain ⟨n, h1, h2⟩ := Option.map_eq_some_iff.mp h
  exact ⟨n, h1, h2.symm⟩
namespace Com
/-! ### is_number -/
def isNum : D → Int → Int → Bool
  | .int i, a, b => decide (a ≤ i) && decide (i ≤ b)
  | _, _, _ => false
def noDict : D → Bool
  | .dict _ => false
  | _ => true
theorem is_number_eq (v : D) (a b : Int) (h : noDict v = true) : m_is_number [some (.d v), some (.d (.int a)), some (.d (.int b))] = .ok (.d (.bool (isNum v a b))) [none, none, none] := by
  cases v with
  | dict _ => cases h
  | int i => by_cases h1 : a ≤ i <;> simp [m_is_number, b_is_number, isNum, h1]
  | _ => simp [m_is_number, b_is_number, isNum]
/-! ### _law_take -/
def takeX (ds : List Int) (b : Int) : Int := match ds.getLast? with
  | none => 0
  | some n => n % b
theorem takeX_pos (ds : List Int) {b : Int} (h : 0 < b) : 0 ≤ takeX ds b := by
  unfold takeX
  split
  · exact Int.le_refl _
  · exact Int.emod_nonneg _ (by omega)
theorem takeX_lt (ds : List Int) {b : Int} (h : 0 < b) : takeX ds b < b := by
  unfold takeX
  split
  · exact h
  · exact Int.emod_lt_of_pos _ h
theorem take_eq (ds : List Int) (b : Int) (h : 0 < b) : m__law_take [some (.l .par (iL ds)), some (.d (.int b))] = .ok (.d (.int (takeX ds b))) [some (.l .par (iL ds.dropLast)), none] := by
  cases hd : ds.reverse with
  | nil =>
    have : ds = [] := by simpa using hd
    subst this
    simp [m__law_take, b__law_take, takeX]
  | cons n r =>
    have e : ds = r.reverse ++ [n] := by
      have := congrArg List.reverse hd
      simpa using this
    subst e
    have h1 : iL (r.reverse ++ [n]) ≠ [] := by simp
    have h2 : (iL (r.reverse ++ [n]))[(iL (r.reverse ++ [n])).length - 1]? = some (.int n) := by simp
    have h3 : (iL (r.reverse ++ [n])).dropLast = iL (r.reverse ++ [n]).dropLast := by simp
    have h4 : takeX (r.reverse ++ [n]) b = n % b := by simp [takeX]
    rw [h4]
    generalize iL (r.reverse ++ [n]) = es at h1 h2 h3
    simp [m__law_take, b__law_take, h1, h2, h3, posB, h]
end Com
end FL
namespace FL
open PySem
@[simp] theorem divOk_of (i j : Int) (h : 0 < j) (h2 : j.natAbs < 2 ^ 64) : divOk i j = true := by
  unfold divOk
  rw [decide_eq_true h, Bool.true_and, decide_eq_true_iff]
  by_cases h0 : j.natAbs = 0
  · omega
  · have := (Nat.log2_lt h0).mpr h2
    omega
@[simp] theorem powOk_10 : powOk 10 18 = true := by decide
theorem seq_eq {A B : S → Out} {σ σ1 : S} (h : A σ = .nx σ1) : sSeq A B σ = B σ1 := seq_nx h rfl
@[simp] theorem cut_d1 (x : D) (σ' : S) : cut [some (.d x)] σ' = [none] := by cases σ' <;> rfl
@[simp] theorem cut_d2 (x y : D) (σ' : S) : cut [some (.d x), some (.d y)] σ' = [none, none] := by
  cases σ' with
  | nil => rfl
  | cons c σ' => cases σ' <;> rfl
@[simp] theorem cut_d3 (x y z : D) (σ' : S) : cut [some (.d x), some (.d y), some (.d z)] σ' = [none, none, none] := by
  match σ' with
  | [] => rfl
  | [_] => rfl
  | [_, _] => rfl
  | _ :: _ :: _ :: _ => rfl
theorem iL_snoc (ds : List Int) (x : Int) : iL ds ++ [PyData.int x] = iL (ds ++ [x]) := by simp
namespace Com
/-! ### _law_draws -/
/-- a slot that may be set -/
def Fr (c : Option C) : Prop := c = none ∨ ∃ x, c = some (.d x)
theorem Fr.none : Fr none := .inl rfl
theorem Fr.d {x : D} : Fr (some (.d x)) := .inr ⟨x, rfl⟩
theorem draws_ok (ns : List Int) (h : ns.length ≤ 63) : ∃ ds : List Int, m__law_draws [some (.d (.list (iL ns)))] = .ok (.own (iL ds)) [none] := by
  have z24 : sizeLine = 16777216 := by decide
  have in1 : ∀ (num : Int) (ds : List Int) (m : Nat) (a c e : Option C), Fr e → 0 ≤ num → ds.length ≤ m → m + 60 < sizeLine →
      ∃ σ', forL (gN 5) l__law_draws_1 (rngL 0 60) [some (.d (.list (iL ns))), some (.l .own (iL ds)), a, some (.d (.int num)), c, e, none] = .nx σ' ∧
        ∃ (num' : Int) (ds' : List Int) (e' : Option C), Fr e' ∧ ds'.length ≤ m + 60 ∧ σ' = [some (.d (.list (iL ns))), some (.l .own (iL ds')), a, some (.d (.int num')), c, e', none] := by
    intro num ds m a c e he h0 h1 h2
    obtain ⟨σ', e1, hp⟩ := for_run (g := gN 5) (B := l__law_draws_1) (ds := rngL 0 60) (σ := [some (.d (.list (iL ns))), some (.l .own (iL ds)), a, some (.d (.int num)), c, e, none])
      (fun i σ => ∃ (num' : Int) (ds' : List Int) (e' : Option C), Fr e' ∧ 0 ≤ num' ∧ ds'.length ≤ m + i ∧ σ = [some (.d (.list (iL ns))), some (.l .own (iL ds')), a, some (.d (.int num')), c, e', none]) ⟨num, ds, e, he, h0, h1, rfl⟩
      fun i d σ hd ⟨num', ds', e', he', q0, q1, q2⟩ => by
        have hi : i < 60 := by
          have := (List.getElem?_eq_some_iff.mp hd).1
          unfold rngL at this
          rw [List.length_map, List.length_range] at this
          exact this
        have hl : ds'.length < sizeLine := by omega
        subst q2
        refine ⟨[some (.d (.list (iL ns))), some (.l .own (iL ds')), a, some (.d (.int num')), c, some (.d d), none], by rcases he' with rfl | ⟨x, rfl⟩ <;> simp, ?_⟩
        by_cases hn : 0 < num'
        · refine ⟨[some (.d (.list (iL ns))), some (.l .own (iL (ds' ++ [num' % 997]))), a, some (.d (.int (num' / 997))), c, some (.d d), none], .inl ?_, num' / 997, ds' ++ [num' % 997], _, Fr.d, by omega, by simp; omega, rfl⟩
          simp [l__law_draws_1, hn, hl]
        · refine ⟨[some (.d (.list (iL ns))), some (.l .own (iL ds')), a, some (.d (.int num')), c, some (.d d), none], .inl ?_, num', ds', _, Fr.d, q0, by omega, rfl⟩
          simp [l__law_draws_1, hn]
    obtain ⟨num', ds', e', he', _, q1, q2⟩ := hp
    exact ⟨σ', e1, num', ds', e', he', q1, q2⟩
  have rl60 : (rngL 0 60).length = 60 := by simp [rngL]
  -- the cells
  have out : ∃ σ', forL (gN 2) l__law_draws_2 (iL ns) [some (.d (.list (iL ns))), some (.l .own []), none, none, none, none, none] = .nx σ' ∧
      ∃ (ds : List Int) (a b c e : Option C), Fr e ∧ ds.length ≤ 62 * 63 ∧ σ' = [some (.d (.list (iL ns))), some (.l .own (iL ds)), a, b, c, e, none] := by
    obtain ⟨σ', e1, hp⟩ := for_run (g := gN 2) (B := l__law_draws_2) (ds := iL ns) (σ := [some (.d (.list (iL ns))), some (.l .own (iL [])), none, none, none, none, none])
      (fun i σ => ∃ (ds : List Int) (a b c e : Option C), Fr a ∧ Fr b ∧ Fr c ∧ Fr e ∧ ds.length ≤ 62 * i ∧ σ = [some (.d (.list (iL ns))), some (.l .own (iL ds)), a, b, c, e, none]) ⟨[], none, none, none, none, .none, .none, .none, .none, by simp, rfl⟩
      fun i d σ hd ⟨ds, a, b, c, e, ha, hb, hc, he, q1, q2⟩ => by
        have hi : i < ns.length := by
          have := (List.getElem?_eq_some_iff.mp hd).1
          rw [List.length_map] at this
          exact this
        obtain ⟨n, _, rfl⟩ := iL_get hd
        subst q2
        refine ⟨[some (.d (.list (iL ns))), some (.l .own (iL ds)), some (.d (.int n)), b, c, e, none], by rcases ha with rfl | ⟨x, rfl⟩ <;> simp, ?_⟩
        obtain ⟨num, hnum⟩ : ∃ num, (if n < 0 then -n else n) = num := ⟨_, rfl⟩
        have n0 : 0 ≤ num := by rw [← hnum]; split <;> omega
        have s1 : sSet 3 (eOp1 gAbs (eName 2)) [some (.d (.list (iL ns))), some (.l .own (iL ds)), some (.d (.int n)), b, c, e, none] = .nx [some (.d (.list (iL ns))), some (.l .own (iL ds)), some (.d (.int n)), some (.d (.int num)), c, e, none] := by
          rcases hb with rfl | ⟨x, rfl⟩ <;> simp [hnum]
        unfold l__law_draws_2
        rw [seq_eq s1]
        have hl1 : ds.length < sizeLine := by omega
        have hl2 : ds.length + 1 < sizeLine := by omega
        by_cases hn : num < 1000000000000000000
        · obtain ⟨σ', e2, num', ds', e', he', l', rfl⟩ := in1 0 (ds ++ [((num * 48271 + 11) % 2147483647 * 69621 + num) % 2147483629, ((num * 48271 + 11) % 2147483647 + num / 7) % 1000003]) (62 * i + 2) (some (.d (.int n))) (some (.d (.int ((num * 48271 + 11) % 2147483647)))) e he (by omega) (by simp; omega) (by omega)
          refine ⟨_, .inl ?_, ds', some (.d (.int n)), some (.d (.int num')), some (.d (.int ((num * 48271 + 11) % 2147483647))), e', Fr.d, Fr.d, Fr.d, he', by omega, rfl⟩
          rw [← e2]
          rcases hc with rfl | ⟨x, rfl⟩ <;> simp [hn, hl1, hl2, rl60, rOk]
        · obtain ⟨σ', e2, num', ds', e', he', l', rfl⟩ := in1 num ds (62 * i) (some (.d (.int n))) c e he n0 q1 (by omega)
          refine ⟨_, .inl ?_, ds', some (.d (.int n)), some (.d (.int num')), c, e', Fr.d, Fr.d, hc, he', by omega, rfl⟩
          rw [← e2]
          simp [hn, rOk]
    obtain ⟨ds, a, b, c, e, _, _, _, he, q1, q2⟩ := hp
    exact ⟨σ', e1, ds, a, b, c, e, he, by rw [List.length_map] at q1; omega, q2⟩
  obtain ⟨σ1, e1, ds, a, b, c, e, he, l1, rfl⟩ := out
  -- the seed
  obtain ⟨sd, hsd⟩ : ∃ sd : Int, sIf (tTru isBool (eOp2 gGt (eOp1 gLen (eName 0)) (eC (.int 0)))) (sSet 6 (eOp2 gAdd (eC (.int 1)) (eOp1 gAbs (eOp2 gIx (eName 0) (eC (.int 0)))))) sNx [some (.d (.list (iL ns))), some (.l .own (iL ds)), a, b, c, e, some (.d (.int 1))] = .nx [some (.d (.list (iL ns))), some (.l .own (iL ds)), a, b, c, e, some (.d (.int sd))] := by
    cases ns with
    | nil => exact ⟨1, by simp⟩
    | cons n ns => exact ⟨1 + (if n < 0 then -n else n), by
        have : (0 : Int) < ((iL (n :: ns)).length : Int) := by simp <;> omega
        simp [this]⟩
  have last : ∃ σ', forL (gN 5) l__law_draws_3 (rngL 0 900) [some (.d (.list (iL ns))), some (.l .own (iL ds)), a, b, c, e, some (.d (.int sd))] = .nx σ' ∧
      ∃ (ds : List Int) (a b c e f : Option C), σ' = [some (.d (.list (iL ns))), some (.l .own (iL ds)), a, b, c, e, f] := by
    obtain ⟨σ', e1, hp⟩ := for_run (g := gN 5) (B := l__law_draws_3) (ds := rngL 0 900) (σ := [some (.d (.list (iL ns))), some (.l .own (iL ds)), a, b, c, e, some (.d (.int sd))])
      (fun i σ => ∃ (ds : List Int) (e : Option C) (sd : Int), Fr e ∧ ds.length ≤ 62 * 63 + i ∧ σ = [some (.d (.list (iL ns))), some (.l .own (iL ds)), a, b, c, e, some (.d (.int sd))]) ⟨ds, e, sd, he, by omega, rfl⟩
      fun i d σ hd ⟨ds, e, sd, he, q1, q2⟩ => by
        have hi : i < 900 := by
          have := (List.getElem?_eq_some_iff.mp hd).1
          unfold rngL at this
          rw [List.length_map, List.length_range] at this
          exact this
        have hl1 : ds.length < sizeLine := by omega
        subst q2
        refine ⟨[some (.d (.list (iL ns))), some (.l .own (iL ds)), a, b, c, some (.d d), some (.d (.int sd))], by rcases he with rfl | ⟨x, rfl⟩ <;> simp, ?_⟩
        refine ⟨[some (.d (.list (iL ns))), some (.l .own (iL (ds ++ [(sd * 48271 + 69621) % 2147483647 / 5]))), a, b, c, some (.d d), some (.d (.int ((sd * 48271 + 69621) % 2147483647)))], .inl ?_, _, _, _, Fr.d, by simp; omega, rfl⟩
        simp [l__law_draws_3, hl1]
    obtain ⟨ds, e, sd, _, _, q2⟩ := hp
    exact ⟨σ', e1, ds, a, b, c, e, _, q2⟩
  obtain ⟨σ2, e2, ds2, a2, b2, c2, e2', f2, rfl⟩ := last
  refine ⟨ds2.reverse, ?_⟩
  have key : b__law_draws ([some (.d (.list (iL ns)))] ++ List.replicate (7 - [some (C.d (.list (iL ns)))].length) none) = .ret (.own (iL ds2.reverse)) [some (.d (.list (iL ns))), some (.l .own (iL ds2)), a2, b2, c2, e2', f2] := by
    unfold b__law_draws
    rw [seq_eq (σ1 := [some (.d (.list (iL ns))), some (.l .own []), none, none, none, none, none]) (by simp)]
    rw [seq_eq (σ1 := [some (.d (.list (iL ns))), some (.l .own (iL ds)), a, b, c, e, none]) (by simp [e1])]
    rw [seq_eq (σ1 := [some (.d (.list (iL ns))), some (.l .own (iL ds)), a, b, c, e, some (.d (.int 1))]) (by simp)]
    rw [seq_eq hsd]
    rw [seq_eq (σ1 := [some (.d (.list (iL ns))), some (.l .own (iL ds2)), a2, b2, c2, e2', f2]) (by simp [e2, rOk])]
    simp
  unfold m__law_draws
  rw [fun_own key, cut_d1]
theorem says_bool (k : Bool) (l : Bool) : m__law_says [some (.d (.bool k)), some (.d (.bool l))] = .ok (.d (.bool (k == l))) [none, none] := by
  simp [m__law_says, b__law_says]
/-! ### _law_alike -/
/-- data of depth below n, its rows not too long -/
inductive Sm : Nat → D → Prop
  | none (n : Nat) : Sm (n + 1) .none
  | bool (n : Nat) (b : Bool) : Sm (n + 1) (.bool b)
  | int (n : Nat) (i : Int) : Sm (n + 1) (.int i)
  | str (n : Nat) (z : Str) : PyData.strOk z = true → Sm (n + 1) (.str z)
  | list (n : Nat) (ds : List D) : ds.length ≤ 16777216 → (∀ d ∈ ds, Sm n d) → Sm (n + 1) (.list ds)
  | tuple (n : Nat) (ds : List D) : ds.length ≤ 16777216 → (∀ d ∈ ds, Sm n d) → Sm (n + 1) (.tuple ds)
theorem rng_mem {lo : Int} {n : Nat} {d : D} (h : d ∈ rngL lo n) : ∃ i : Nat, i < n ∧ d = .int (lo + i) := by
  unfold rngL at h
  obtain ⟨i, hi, rfl⟩ := List.mem_map.mp h
  exact ⟨i, List.mem_range.mp hi, rfl⟩
theorem eqv_str (z : Str) : PyData.eqv (.str z) (.str z) = true := by
  show (z == z) = true
  exact beq_self_eq_true z
theorem alike_self : ∀ (n : Nat) (d : D), Sm n d → m__law_alike n [some (.d d), some (.d d)] = .ok (.d (.bool true)) [none, none]
  | 0, _, h => by cases h
  | n + 1, d, h => by
    have loop : ∀ (ds : List D) (c : D), (itemsOf c = some ds) → (∀ i : Int, gIx c (.int i) = (L2.atI ds i).map R.d) → ds.length ≤ 16777216 → (∀ d ∈ ds, Sm n d) →
        lcL [2] (gN 2) (t__law_alike_1 (m__law_alike n)) e__law_alike_1 (rngL 0 ds.length) [some (.d c), some (.d c), none] = .ok [] [some (.d c), some (.d c), none] := fun ds c hc hg hl hs => by
      refine lc_none _ fun d hd => ?_
      obtain ⟨i, hi, rfl⟩ := rng_mem hd
      have ha : L2.atI ds ((0 : Int) + (i : Int)) = some ds[i] := by
        rw [Int.zero_add]
        exact atI_n ds i hi
      have ih := alike_self n ds[i] (hs _ (List.getElem_mem hi))
      refine ⟨[some (.d c), some (.d c), some (.d (.int (0 + i)))], [some (.d c), some (.d c), some (.d (.int (0 + i)))], by simp, ?_, by simp⟩
      have gx := hg (0 + i)
      rw [ha] at gx
      simp only [Option.map_some] at gx
      generalize (0 : Int) + (i : Int) = k at gx
      simp [-gIx, t__law_alike_1, gx, ih]
    cases h with
    | none => simp [m__law_alike, b__law_alike]
    | bool _ b => simp [m__law_alike, b__law_alike]
    | int _ i => simp [m__law_alike, b__law_alike]
    | str _ z hz =>
      have : gEq (.str z) (.str z) = some (.d (.bool true)) := by
        unfold gEq
        rw [if_pos ⟨by simp [SeqAt.shaped, PyData.canLay0, hz, PyData.depth], by simp [SeqAt.shaped, PyData.canLay0, hz, PyData.depth]⟩, eqv_str]
      simp [m__law_alike, b__law_alike, this]
    | list _ ds hl hs =>
      have L := loop ds (.list ds) rfl (fun i => rfl) hl hs
      have hr : rOk (ds.length : Int) := ⟨by omega, by omega⟩
      simp [m__law_alike, b__law_alike, L, hr]
    | tuple _ ds hl hs =>
      have L := loop ds (.tuple ds) rfl (fun i => rfl) hl hs
      have hr : rOk (ds.length : Int) := ⟨by omega, by omega⟩
      simp [m__law_alike, b__law_alike, L, hr]
end Com
@[simp] theorem sizeLine_val : sizeLine = 16777216 := by decide
end FL

set_option Elab.async false
set_option linter.all false
set_option maxRecDepth 100000
set_option maxHeartbeats 4000000
/-! law_k89_whole_endless_inns: what each def means -/
namespace K89
open PySem FL
noncomputable section
/-! is_number(value, least, most); slots 0:value 1:least 2:most -/
abbrev b_is_number := Com.b_is_number
abbrev m_is_number := Com.m_is_number
theorem ne_is_number : ∀ cs c σ, m_is_number cs ≠ .exc c σ := Com.ne_is_number
/-! is_shift(value); slots 0:value -/
def b_is_shift : S → Out := sSeq (sIf (tOrF (tNotF (tTru truth (eOp1 (gIsi "tuple") (eName 0)))) (tTru isBool (eOp2 gNe (eOp1 gLen (eName 0)) (eC (.int 2))))) (sRet (eC (.bool false))) (sNx)) (sRet (eAnd (eCall m_is_number (mVal (eOp2 gIx (eName 0) (eC (.int 0))) (mVal (eC (.int 1)) (mVal (eC (.int 1000)) (mNil))))) (eCall m_is_number (mVal (eOp2 gIx (eName 0) (eC (.int 1))) (mVal (eC (.int 0)) (mVal (eC (.int 1000)) (mNil)))))))
def m_is_shift : Meaning := funSem0 1 b_is_shift
theorem ne_is_shift : ∀ cs c σ, m_is_shift cs ≠ .exc c σ := funSem0_noexc
/-! by_diagonals(c, s); slots 0:c 1:s -/
def b_by_diagonals : S → Out := sRet (eOp2 gAdd (eOp2 gFdv (eOp2 gMul (eOp2 gSub (eOp2 gAdd (eName 0) (eName 1)) (eC (.int 2))) (eOp2 gSub (eOp2 gAdd (eName 0) (eName 1)) (eC (.int 1)))) (eC (.int 2))) (eName 0))
def m_by_diagonals : Meaning := funSem0 2 b_by_diagonals
theorem ne_by_diagonals : ∀ cs c σ, m_by_diagonals cs ≠ .exc c σ := funSem0_noexc
/-! root_of(number); slots 0:number 1:low 2:high 3:middle -/
def w_root_of_1 : S → Res Bool := tTru isBool (eOp2 gLe (eOp2 gMul (eName 2) (eName 2)) (eName 0))
def l_root_of_1 : S → Out := sAug 2 gMulI (eC (.int 2))
def w_root_of_2 : S → Res Bool := tTru isBool (eOp2 gGt (eOp2 gSub (eName 2) (eName 1)) (eC (.int 1)))
def l_root_of_2 : S → Out := sSeq (sSet 3 (eOp2 gFdv (eOp2 gAdd (eName 1) (eName 2)) (eC (.int 2)))) (sUnp (gT (gN 1 :: [gN 2])) (eIf (tTru isBool (eOp2 gLe (eOp2 gMul (eName 3) (eName 3)) (eName 0))) (eTup (aCons (eName 3) (aCons (eName 2) (aNil)))) (eTup (aCons (eName 1) (aCons (eName 3) (aNil))))))
def b_root_of : S → Out := sSeq (sUnp (gT (gN 1 :: [gN 2])) (eTup (aCons (eC (.int 0)) (aCons (eC (.int 1)) (aNil))))) (sSeq (sWhile (w_root_of_1) (l_root_of_1)) (sSeq (sWhile (w_root_of_2) (l_root_of_2)) (sRet (eName 1))))
def m_root_of : Meaning := funSem0 4 b_root_of
theorem ne_root_of : ∀ cs c σ, m_root_of cs ≠ .exc c σ := funSem0_noexc
/-! on_diagonal(room); slots 0:room 1:ahead 2:c -/
def b_on_diagonal : S → Out := sSeq (sSet 1 (eOp2 gFdv (eOp2 gSub (eCall m_root_of (mVal (eOp2 gSub (eOp2 gMul (eC (.int 8)) (eName 0)) (eC (.int 7))) (mNil))) (eC (.int 1))) (eC (.int 2)))) (sSeq (sSet 2 (eOp2 gSub (eName 0) (eOp2 gFdv (eOp2 gMul (eName 1) (eOp2 gAdd (eName 1) (eC (.int 1)))) (eC (.int 2))))) (sRet (eTup (aCons (eName 2) (aCons (eOp2 gSub (eOp2 gAdd (eName 1) (eC (.int 2))) (eName 2)) (aNil))))))
def m_on_diagonal : Meaning := funSem0 3 b_on_diagonal
theorem ne_on_diagonal : ∀ cs c σ, m_on_diagonal cs ≠ .exc c σ := funSem0_noexc
/-! by_powers(c, s); slots 0:c 1:s 2:found 3:_ -/
def l_by_powers_1 : S → Out := sAug 2 gMulI (eC (.int 2))
def b_by_powers : S → Out := sSeq (sSet 2 (eOp2 gSub (eOp2 gMul (eC (.int 2)) (eName 1)) (eC (.int 1)))) (sSeq (sFor (iRange1 (aCons (eOp2 gSub (eName 0) (eC (.int 1))) (aNil))) (gN 3) (l_by_powers_1)) (sRet (eName 2)))
def m_by_powers : Meaning := funSem0 4 b_by_powers
theorem ne_by_powers : ∀ cs c σ, m_by_powers cs ≠ .exc c σ := funSem0_noexc
/-! of_power(room); slots 0:room 1:c -/
def w_of_power_1 : S → Res Bool := tTru isBool (eOp2 gEq (eOp2 gMod (eName 0) (eC (.int 2))) (eC (.int 0)))
def l_of_power_1 : S → Out := sSeq (sAug 0 gFdv (eC (.int 2))) (sAug 1 gIAdd (eC (.int 1)))
def b_of_power : S → Out := sSeq (sSet 1 (eC (.int 1))) (sSeq (sWhile (w_of_power_1) (l_of_power_1)) (sRet (eTup (aCons (eName 1) (aCons (eOp2 gFdv (eOp2 gAdd (eName 0) (eC (.int 1))) (eC (.int 2))) (aNil))))))
def m_of_power : Meaning := funSem0 2 b_of_power
theorem ne_of_power : ∀ cs c σ, m_of_power cs ≠ .exc c σ := funSem0_noexc
/-! _law_draws(script); slots 0:script 1:draws 2:cell 3:number 4:first 5:k 6:seed -/
abbrev b__law_draws := Com.b__law_draws
abbrev m__law_draws := Com.m__law_draws
theorem ne__law_draws : ∀ cs c σ, m__law_draws cs ≠ .exc c σ := Com.ne__law_draws
/-! _law_take(draws, bound); slots 0:draws 1:bound -/
abbrev b__law_take := Com.b__law_take
abbrev m__law_take := Com.m__law_take
theorem ne__law_take : ∀ cs c σ, m__law_take cs ≠ .exc c σ := Com.ne__law_take
/-! _law_alike(found, due); slots 0:found 1:due 2:k -/
abbrev b__law_alike := Com.b__law_alike
abbrev m__law_alike := Com.m__law_alike
theorem ne__law_alike : ∀ n cs c σ, m__law_alike n cs ≠ .exc c σ := Com.ne__law_alike
/-! _law_great(draws); slots 0:draws 1:found 2:step -/
def l__law_great_1 : S → Out := sSet 1 (eOp2 gAdd (eOp2 gMul (eName 1) (eC (.int 1000))) (eCall m__law_take (mMut (eName 0) (mVal (eC (.int 1000)) (mNil)))))
def b__law_great : S → Out := sSeq (sSet 1 (eOp2 gAdd (eC (.int 1)) (eCall m__law_take (mMut (eName 0) (mVal (eC (.int 60)) (mNil)))))) (sSeq (sFor (iRange1 (aCons (eOp2 gIx (eLst (aCons (eC (.int 0)) (aCons (eC (.int 3)) (aCons (eC (.int 30)) (aNil))))) (eCall m__law_take (mMut (eName 0) (mVal (eC (.int 3)) (mNil))))) (aNil))) (gN 2) (l__law_great_1)) (sRet (eName 1)))
def m__law_great : Meaning := funSem0 3 b__law_great
theorem ne__law_great : ∀ cs c σ, m__law_great cs ≠ .exc c σ := funSem0_noexc
/-! shifted(shifts, room); slots 0:shifts 1:room 2:times 3:more -/
def l_shifted_1 : S → Out := sSet 1 (eOp2 gAdd (eOp2 gMul (eName 2) (eName 1)) (eName 3))
def b_shifted : S → Out := sSeq (sFor (iE (eName 0)) (gT (gN 2 :: [gN 3])) (l_shifted_1)) (sRet (eName 1))
def m_shifted : Meaning := funSem0 4 b_shifted
theorem ne_shifted : ∀ cs c σ, m_shifted cs ≠ .exc c σ := funSem0_noexc
/-! as_one(shifts); slots 0:shifts 1:times 2:more 3:one 4:other -/
def l_as_one_1 : S → Out := sPar [1, 2] (rCons (eOp2 gMul (eName 3) (eName 1)) (rCons (eOp2 gAdd (eOp2 gMul (eName 3) (eName 2)) (eName 4)) (rNil)))
def b_as_one : S → Out := sSeq (sUnp (gT (gN 1 :: [gN 2])) (eTup (aCons (eC (.int 1)) (aCons (eC (.int 0)) (aNil))))) (sSeq (sFor (iE (eName 0)) (gT (gN 3 :: [gN 4])) (l_as_one_1)) (sRet (eTup (aCons (eName 1) (aCons (eName 2) (aNil))))))
def m_as_one : Meaning := funSem0 5 b_as_one
theorem ne_as_one : ∀ cs c σ, m_as_one cs ≠ .exc c σ := funSem0_noexc
/-! was_in(shift, room); slots 0:shift 1:room 2:left -/
def b_was_in : S → Out := sSeq (sSet 2 (eOp2 gSub (eName 1) (eOp2 gIx (eName 0) (eC (.int 1))))) (sRet (eIf (tAndF (tTru isBool (eOp2 gGe (eName 2) (eOp2 gIx (eName 0) (eC (.int 0))))) (tTru isBool (eOp2 gEq (eOp2 gMod (eName 2) (eOp2 gIx (eName 0) (eC (.int 0)))) (eC (.int 0))))) (eOp2 gFdv (eName 2) (eOp2 gIx (eName 0) (eC (.int 0)))) (eC .none)))
def m_was_in : Meaning := funSem0 3 b_was_in
theorem ne_was_in : ∀ cs c σ, m_was_in cs ≠ .exc c σ := funSem0_noexc
/-! free_room(shift, k); slots 0:shift 1:k 2:times 3:more 4:first 5:whole 6:rest -/
def b_free_room : S → Out := sSeq (sUnp (gT (gN 2 :: [gN 3])) (eName 0)) (sSeq (sSet 4 (eOp2 gAdd (eName 2) (eName 3))) (sSeq (sIf (tTru isBool (eOp2 gLt (eName 1) (eName 4))) (sRet (eName 1)) (sNx)) (sSeq (sIf (tTru isBool (eOp2 gEq (eName 2) (eC (.int 1)))) (sRet (eC .none)) (sNx)) (sSeq (sUnp (gT (gN 5 :: [gN 6])) (eOp2 gDivmod (eOp2 gSub (eName 1) (eName 4)) (eOp2 gSub (eName 2) (eC (.int 1))))) (sRet (eOp2 gAdd (eOp2 gAdd (eOp2 gAdd (eName 4) (eOp2 gMul (eName 5) (eName 2))) (eName 6)) (eC (.int 1))))))))
def m_free_room : Meaning := funSem0 7 b_free_room
theorem ne_free_room : ∀ cs c σ, m_free_room cs ≠ .exc c σ := funSem0_noexc
/-! _law_says(told, due); slots 0:told 1:due -/
abbrev b__law_says := Com.b__law_says
abbrev m__law_says := Com.m__law_says
theorem ne__law_says : ∀ cs c σ, m__law_says cs ≠ .exc c σ := Com.ne__law_says
/-! _law_shifts(draws); slots 0:draws 1:shifts 2:room 3:now 4:times 5:more 6:one 7:other 8:shift 9:taken 10:free 11:k 12:place 13:below 14:guest -/
def e__law_shifts_1 : S → Res R := eTup (aCons (eOp2 gAdd (eC (.int 1)) (eCall m__law_take (mMut (eName 0) (mVal (eOp2 gIx (eLst (aCons (eC (.int 4)) (aCons (eC (.int 1000)) (aNil)))) (eCall m__law_take (mMut (eName 0) (mVal (eC (.int 2)) (mNil))))) (mNil))))) (aCons (eCall m__law_take (mMut (eName 0) (mVal (eOp2 gIx (eLst (aCons (eC (.int 5)) (aCons (eC (.int 1001)) (aNil)))) (eCall m__law_take (mMut (eName 0) (mVal (eC (.int 2)) (mNil))))) (mNil)))) (aNil)))
def t__law_shifts_1 : S → Res Bool := tNotF (tTru truth (eCall m__law_says (mVal (eCall m_is_shift (mVal (eName 8) (mNil))) (mVal (eC (.bool true)) (mNil)))))
def e__law_shifts_2 : S → Res R := eName 8
def l__law_shifts_1 : S → Out := sPar [3, 4, 5] (rCons (eOp2 gAdd (eOp2 gMul (eName 6) (eName 3)) (eName 7)) (rCons (eOp2 gMul (eName 4) (eName 6)) (rCons (eOp2 gAdd (eOp2 gMul (eName 5) (eName 6)) (eName 7)) (rNil))))
def e__law_shifts_3 : S → Res R := eOp2 gAdd (eOp2 gMul (eOp2 gIx (eName 8) (eC (.int 0))) (eName 14)) (eOp2 gIx (eName 8) (eC (.int 1)))
def t__law_shifts_2 : S → Res Bool := tTru isBool (eOp2 gNotIn (eName 12) (eName 9))
def e__law_shifts_4 : S → Res R := eName 12
def l__law_shifts_2 : S → Out := sIf (tNotF (tTru truth (eCall (m__law_alike 8) (mVal (eCall m_free_room (mVal (eName 8) (mVal (eName 11) (mNil)))) (mVal (eOp2 gIx (eName 10) (eOp2 gSub (eName 11) (eC (.int 1)))) (mNil)))))) (sRet (eC (.bool false))) (sNx)
def b__law_shifts : S → Out := sSeq (sSet 1 (eOp1 gTuple (eLc [11] (iRange1 (aCons (eCall m__law_take (mMut (eName 0) (mVal (eC (.int 4)) (mNil)))) (aNil))) (gN 11) (tT) (e__law_shifts_1)))) (sSeq (sIf (tTru isBool (eOp2 gNe (eLc [8] (iE (eName 1)) (gN 8) (t__law_shifts_1) (e__law_shifts_2)) (eLst (aNil)))) (sRet (eC (.bool false))) (sNx)) (sSeq (sSet 2 (eCall m__law_great (mMut (eName 0) (mNil)))) (sSeq (sPar [3, 4, 5] (rCons (eName 2) (rCons (eC (.int 1)) (rCons (eC (.int 0)) (rNil))))) (sSeq (sFor (iE (eName 1)) (gT (gN 6 :: [gN 7])) (l__law_shifts_1)) (sSeq (sIf (tOrF (tNotF (tTru truth (eCall (m__law_alike 8) (mVal (eLst (aCons (eCall m_shifted (mVal (eName 1) (mVal (eName 2) (mNil)))) (aCons (eCall m_as_one (mVal (eName 1) (mNil))) (aNil)))) (mVal (eLst (aCons (eName 3) (aCons (eTup (aCons (eName 4) (aCons (eName 5) (aNil)))) (aNil)))) (mNil)))))) (tTru isBool (eOp2 gNe (eName 3) (eOp2 gAdd (eOp2 gMul (eName 4) (eName 2)) (eName 5))))) (sRet (eC (.bool false))) (sNx)) (sSeq (sSet 8 (eTup (aCons (eOp2 gAdd (eC (.int 1)) (eCall m__law_take (mMut (eName 0) (mVal (eOp2 gIx (eLst (aCons (eC (.int 4)) (aCons (eC (.int 1000)) (aNil)))) (eCall m__law_take (mMut (eName 0) (mVal (eC (.int 2)) (mNil))))) (mNil))))) (aCons (eCall m__law_take (mMut (eName 0) (mVal (eOp2 gIx (eLst (aCons (eC (.int 5)) (aCons (eC (.int 1001)) (aNil)))) (eCall m__law_take (mMut (eName 0) (mVal (eC (.int 2)) (mNil))))) (mNil)))) (aNil))))) (sSeq (sSet 9 (eLc [14] (iRange2 (aCons (eC (.int 1)) (aCons (eC (.int 60)) (aNil)))) (gN 14) (tT) (e__law_shifts_3))) (sSeq (sSet 10 (eIf (tAndF (tTru isBool (eOp2 gLt (eOp2 gIx (eName 8) (eC (.int 0))) (eC (.int 5)))) (tTru isBool (eOp2 gLt (eOp2 gIx (eName 8) (eC (.int 1))) (eC (.int 5))))) (eLc [12] (iRange2 (aCons (eC (.int 1)) (aCons (eOp2 gIx (eName 9) (eOp1 gNeg (eC (.int 1)))) (aNil)))) (gN 12) (t__law_shifts_2) (e__law_shifts_4)) (eLst (aNil)))) (sSeq (sFor (iRange2 (aCons (eC (.int 1)) (aCons (eOp2 gAdd (eOp2 gMin2 (eOp1 gLen (eName 10)) (eC (.int 40))) (eC (.int 1))) (aNil)))) (gN 11) (l__law_shifts_2)) (sSeq (sIf (tOrF (tNotF (tTru truth (eCall (m__law_alike 8) (mVal (eCall m_was_in (mVal (eName 8) (mVal (eOp2 gAdd (eOp2 gMul (eOp2 gIx (eName 8) (eC (.int 0))) (eName 2)) (eOp2 gIx (eName 8) (eC (.int 1)))) (mNil)))) (mVal (eName 2) (mNil)))))) (tAndF (tTru isBool (eOp2 gGt (eOp2 gIx (eName 8) (eC (.int 1))) (eC (.int 0)))) (tTru isBool (eOp2 gIsNot (eCall m_was_in (mVal (eName 8) (mVal (eOp2 gIx (eName 8) (eC (.int 1))) (mNil)))) (eC .none))))) (sRet (eC (.bool false))) (sNx)) (sSeq (sSet 11 (eCall m__law_great (mMut (eName 0) (mNil)))) (sSeq (sSet 12 (eCall m_free_room (mVal (eName 8) (mVal (eName 11) (mNil))))) (sSeq (sIf (tTru isBool (eOp2 gEq (eOp2 gIx (eName 8) (eC (.int 0))) (eC (.int 1)))) (sRet (eCall (m__law_alike 8) (mVal (eName 12) (mVal (eIf (tTru isBool (eOp2 gLe (eName 11) (eOp2 gIx (eName 8) (eC (.int 1))))) (eName 11) (eC .none)) (mNil))))) (sNx)) (sSeq (sSet 13 (eIf (tTru truth (eOp1 (gIsi "int") (eName 12))) (eOp2 gMax2 (eC (.int 0)) (eOp2 gFdv (eOp2 gSub (eName 12) (eOp2 gIx (eName 8) (eC (.int 1)))) (eOp2 gIx (eName 8) (eC (.int 0))))) (eC (.int 0)))) (sRet (eAnd (eOp1 (gIsi "int") (eName 12)) (eAnd (eOp2 gIs (eCall m_was_in (mVal (eName 8) (mVal (eName 12) (mNil)))) (eC .none)) (eAnd (eOp2 gEq (eOp2 gSub (eName 12) (eName 13)) (eName 11)) (eOr (eOp2 gLt (eOp2 gSub (eName 12) (eOp2 gIx (eName 8) (eC (.int 1)))) (eOp2 gIx (eName 8) (eC (.int 0)))) (eOp2 gNe (eOp2 gMod (eOp1 gToInt (eOp2 gSub (eName 12) (eOp2 gIx (eName 8) (eC (.int 1))))) (eOp2 gIx (eName 8) (eC (.int 0)))) (eC (.int 0))))))))))))))))))))))
def m__law_shifts : Meaning := funSem0 15 b__law_shifts
theorem ne__law_shifts : ∀ cs c σ, m__law_shifts cs ≠ .exc c σ := funSem0_noexc
/-! law(script); slots 0:script 1:draws 2:room 3:whole 4:c 5:odd 6:s 7:far 8:pair 9:value -/
def l_law_1 : S → Out := sSeq (sSet 2 (eOp2 gAdd (eName 2) (eC (.int 1)))) (sIf (tNotF (tTru truth (eCall (m__law_alike 8) (mVal (eLst (aCons (eCall m_by_diagonals (mVal (eName 4) (mVal (eOp2 gSub (eName 3) (eName 4)) (mNil)))) (aCons (eCall m_on_diagonal (mVal (eName 2) (mNil))) (aNil)))) (mVal (eLst (aCons (eName 2) (aCons (eTup (aCons (eName 4) (aCons (eOp2 gSub (eName 3) (eName 4)) (aNil)))) (aNil)))) (mNil)))))) (sRet (eC (.bool false))) (sNx))
def l_law_2 : S → Out := sFor (iRange2 (aCons (eC (.int 1)) (aCons (eName 3) (aNil)))) (gN 4) (l_law_1)
def w_law_1 : S → Res Bool := tTru isBool (eOp2 gEq (eOp2 gMul (eOp2 gFdv (eName 5) (eC (.int 2))) (eC (.int 2))) (eName 5))
def l_law_3 : S → Out := sPar [4, 5] (rCons (eOp2 gAdd (eName 4) (eC (.int 1))) (rCons (eOp2 gFdv (eName 5) (eC (.int 2))) (rNil)))
def l_law_4 : S → Out := sSeq (sPar [4, 5] (rCons (eC (.int 1)) (rCons (eName 2) (rNil)))) (sSeq (sWhile (w_law_1) (l_law_3)) (sIf (tNotF (tTru truth (eCall (m__law_alike 8) (mVal (eLst (aCons (eCall m_of_power (mVal (eName 2) (mNil))) (aCons (eCall m_by_powers (mVal (eName 4) (mVal (eOp2 gFdv (eOp2 gAdd (eName 5) (eC (.int 1))) (eC (.int 2))) (mNil)))) (aNil)))) (mVal (eLst (aCons (eTup (aCons (eName 4) (aCons (eOp2 gFdv (eOp2 gAdd (eName 5) (eC (.int 1))) (eC (.int 2))) (aNil)))) (aCons (eName 2) (aNil)))) (mNil)))))) (sRet (eC (.bool false))) (sNx)))
def t_law_1 : S → Res Bool := tTru isBool (eOp2 gIsNot (eCall m_is_shift (mVal (eName 9) (mNil))) (eC (.bool false)))
def e_law_1 : S → Res R := eName 9
def b_law : S → Out := sSeq (sSet 1 (eCall m__law_draws (mVal (eName 0) (mNil)))) (sSeq (sIf (tNotF (tTru truth (eCall m__law_shifts (mMut (eName 1) (mNil))))) (sRet (eC (.bool false))) (sNx)) (sSeq (sSet 2 (eC (.int 0))) (sSeq (sFor (iRange2 (aCons (eC (.int 2)) (aCons (eC (.int 9)) (aNil)))) (gN 3) (l_law_2)) (sSeq (sFor (iRange2 (aCons (eC (.int 1)) (aCons (eC (.int 30)) (aNil)))) (gN 2) (l_law_4)) (sSeq (sPar [4, 6] (rCons (eCall m__law_great (mMut (eName 1) (mNil))) (rCons (eCall m__law_great (mMut (eName 1) (mNil))) (rNil)))) (sSeq (sSet 7 (eOp2 gAdd (eOp2 gFdv (eOp2 gMul (eOp2 gSub (eOp2 gAdd (eName 4) (eName 6)) (eC (.int 2))) (eOp2 gSub (eOp2 gAdd (eName 4) (eName 6)) (eC (.int 1)))) (eC (.int 2))) (eName 4))) (sSeq (sIf (tNotF (tTru truth (eCall (m__law_alike 8) (mVal (eLst (aCons (eCall m_by_diagonals (mVal (eName 4) (mVal (eName 6) (mNil)))) (aCons (eCall m_on_diagonal (mVal (eName 7) (mNil))) (aNil)))) (mVal (eLst (aCons (eName 7) (aCons (eTup (aCons (eName 4) (aCons (eName 6) (aNil)))) (aNil)))) (mNil)))))) (sRet (eC (.bool false))) (sNx)) (sSeq (sSet 2 (eCall m__law_great (mMut (eName 1) (mNil)))) (sSeq (sSet 8 (eCall m_on_diagonal (mVal (eName 2) (mNil)))) (sSeq (sIf (tOrF (tNotF (tTru truth (eOp1 (gIsi "tuple") (eName 8)))) (tOrF (tTru isBool (eOp2 gNe (eOp1 gLen (eName 8)) (eC (.int 2)))) (tOrF (tTru isBool (eOp2 gLt (eOp2 gIx (eName 8) (eC (.int 0))) (eC (.int 1)))) (tOrF (tTru isBool (eOp2 gLt (eOp2 gIx (eName 8) (eC (.int 1))) (eC (.int 1)))) (tTru isBool (eOp2 gNe (eOp2 gAdd (eOp2 gFdv (eOp2 gMul (eOp2 gSub (eOp2 gAdd (eOp2 gIx (eName 8) (eC (.int 0))) (eOp2 gIx (eName 8) (eC (.int 1)))) (eC (.int 2))) (eOp2 gSub (eOp2 gAdd (eOp2 gIx (eName 8) (eC (.int 0))) (eOp2 gIx (eName 8) (eC (.int 1)))) (eC (.int 1)))) (eC (.int 2))) (eOp2 gIx (eName 8) (eC (.int 0)))) (eName 2))))))) (sRet (eC (.bool false))) (sNx)) (sSeq (sSet 4 (eOp2 gAdd (eC (.int 1)) (eCall m__law_take (mMut (eName 1) (mVal (eOp2 gIx (eLst (aCons (eC (.int 9)) (aCons (eC (.int 1000)) (aNil)))) (eCall m__law_take (mMut (eName 1) (mVal (eC (.int 2)) (mNil))))) (mNil)))))) (sSeq (sSet 7 (eOp2 gMul (eOp2 gShl (eC (.int 1)) (eOp2 gSub (eName 4) (eC (.int 1)))) (eOp2 gSub (eOp2 gMul (eC (.int 2)) (eName 6)) (eC (.int 1))))) (sSeq (sIf (tNotF (tTru truth (eCall (m__law_alike 8) (mVal (eLst (aCons (eCall m_by_powers (mVal (eName 4) (mVal (eName 6) (mNil)))) (aCons (eCall m_of_power (mVal (eName 7) (mNil))) (aNil)))) (mVal (eLst (aCons (eName 7) (aCons (eTup (aCons (eName 4) (aCons (eName 6) (aNil)))) (aNil)))) (mNil)))))) (sRet (eC (.bool false))) (sNx)) (sSeq (sSet 5 (eLst (aCons (eC .none) (aCons (eLst (aCons (eC (.int 1)) (aCons (eC (.int 0)) (aNil)))) (aCons (eTup (aCons (eC (.int 1)) (aNil))) (aCons (eTup (aCons (eC (.int 1)) (aCons (eC (.int 0)) (aCons (eC (.int 0)) (aNil))))) (aCons (eTup (aCons (eC (.int 0)) (aCons (eC (.int 0)) (aNil)))) (aCons (eTup (aCons (eC (.int 1001)) (aCons (eC (.int 0)) (aNil)))) (aCons (eTup (aCons (eC (.int 1)) (aCons (eOp1 gNeg (eC (.int 1))) (aNil)))) (aCons (eTup (aCons (eC (.int 1)) (aCons (eC (.int 1001)) (aNil)))) (aCons (eTup (aCons (eC (.bool true)) (aCons (eC (.int 0)) (aNil)))) (aCons (eTup (aCons (eC (.int 1)) (aCons (eC .none) (aNil)))) (aCons (eTup (aCons (eC (.str "1")) (aCons (eC (.int 0)) (aNil)))) (aNil)))))))))))))) (sRet (eOp2 gEq (eLc [9] (iE (eName 5)) (gN 9) (t_law_1) (e_law_1)) (eLst (aNil))))))))))))))))))
def m_law : Meaning := funSem0 10 b_law
theorem ne_law : ∀ cs c σ, m_law cs ≠ .exc c σ := funSem0_noexc
end
end K89

set_option Elab.async false
set_option linter.all false
set_option maxRecDepth 100000
set_option maxHeartbeats 4000000
/-! law_k89_whole_endless_inns: that each def does what it means -/
namespace K89
open PySem PySem.Spec PyProof.Rows L2 FL
def topS (i : Nat) : Stmt := PySem.Challenge.pw_guestsheld_k89_whole_endless_inns.main.body.getD i (.Pass ⟨0, 0, 0, 0⟩)
abbrev s_is_number : Stmt := topS 1
abbrev ns_is_number : List Str := ["value", "least", "most"]
theorem sc_is_number : FnScope ns_is_number ["value", "least", "most"] (defScope s_is_number) := ⟨rfl, rfl, rfl, by decide +kernel, rfl, by decide +kernel, by decide +kernel⟩
abbrev s_is_shift : Stmt := topS 5
abbrev ns_is_shift : List Str := ["value"]
theorem sc_is_shift : FnScope ns_is_shift ["value"] (defScope s_is_shift) := ⟨rfl, rfl, rfl, by decide +kernel, rfl, by decide +kernel, by decide +kernel⟩
abbrev s_by_diagonals : Stmt := topS 10
abbrev ns_by_diagonals : List Str := ["c", "s"]
theorem sc_by_diagonals : FnScope ns_by_diagonals ["c", "s"] (defScope s_by_diagonals) := ⟨rfl, rfl, rfl, by decide +kernel, rfl, by decide +kernel, by decide +kernel⟩
abbrev s_root_of : Stmt := topS 11
abbrev ns_root_of : List Str := ["number", "low", "high", "middle"]
theorem sc_root_of : FnScope ns_root_of ["number"] (defScope s_root_of) := ⟨rfl, rfl, rfl, by decide +kernel, rfl, by decide +kernel, by decide +kernel⟩
abbrev s_on_diagonal : Stmt := topS 12
abbrev ns_on_diagonal : List Str := ["room", "ahead", "c"]
theorem sc_on_diagonal : FnScope ns_on_diagonal ["room"] (defScope s_on_diagonal) := ⟨rfl, rfl, rfl, by decide +kernel, rfl, by decide +kernel, by decide +kernel⟩
abbrev s_by_powers : Stmt := topS 13
abbrev ns_by_powers : List Str := ["c", "s", "found", "_"]
theorem sc_by_powers : FnScope ns_by_powers ["c", "s"] (defScope s_by_powers) := ⟨rfl, rfl, rfl, by decide +kernel, rfl, by decide +kernel, by decide +kernel⟩
abbrev s_of_power : Stmt := topS 14
abbrev ns_of_power : List Str := ["room", "c"]
theorem sc_of_power : FnScope ns_of_power ["room"] (defScope s_of_power) := ⟨rfl, rfl, rfl, by decide +kernel, rfl, by decide +kernel, by decide +kernel⟩
abbrev s__law_draws : Stmt := topS 16
abbrev ns__law_draws : List Str := ["script", "draws", "cell", "number", "first", "k", "seed"]
theorem sc__law_draws : FnScope ns__law_draws ["script"] (defScope s__law_draws) := ⟨rfl, rfl, rfl, by decide +kernel, rfl, by decide +kernel, by decide +kernel⟩
abbrev s__law_take : Stmt := topS 17
abbrev ns__law_take : List Str := ["draws", "bound"]
theorem sc__law_take : FnScope ns__law_take ["draws", "bound"] (defScope s__law_take) := ⟨rfl, rfl, rfl, by decide +kernel, rfl, by decide +kernel, by decide +kernel⟩
abbrev s__law_alike : Stmt := topS 19
abbrev ns__law_alike : List Str := ["found", "due", "k"]
theorem sc__law_alike : FnScope ns__law_alike ["found", "due"] (defScope s__law_alike) := ⟨rfl, rfl, rfl, by decide +kernel, rfl, by decide +kernel, by decide +kernel⟩
abbrev s__law_great : Stmt := topS 20
abbrev ns__law_great : List Str := ["draws", "found", "step"]
theorem sc__law_great : FnScope ns__law_great ["draws"] (defScope s__law_great) := ⟨rfl, rfl, rfl, by decide +kernel, rfl, by decide +kernel, by decide +kernel⟩
abbrev s_shifted : Stmt := topS 6
abbrev ns_shifted : List Str := ["shifts", "room", "times", "more"]
theorem sc_shifted : FnScope ns_shifted ["shifts", "room"] (defScope s_shifted) := ⟨rfl, rfl, rfl, by decide +kernel, rfl, by decide +kernel, by decide +kernel⟩
abbrev s_as_one : Stmt := topS 7
abbrev ns_as_one : List Str := ["shifts", "times", "more", "one", "other"]
theorem sc_as_one : FnScope ns_as_one ["shifts"] (defScope s_as_one) := ⟨rfl, rfl, rfl, by decide +kernel, rfl, by decide +kernel, by decide +kernel⟩
abbrev s_was_in : Stmt := topS 8
abbrev ns_was_in : List Str := ["shift", "room", "left"]
theorem sc_was_in : FnScope ns_was_in ["shift", "room"] (defScope s_was_in) := ⟨rfl, rfl, rfl, by decide +kernel, rfl, by decide +kernel, by decide +kernel⟩
abbrev s_free_room : Stmt := topS 9
abbrev ns_free_room : List Str := ["shift", "k", "times", "more", "first", "whole", "rest"]
theorem sc_free_room : FnScope ns_free_room ["shift", "k"] (defScope s_free_room) := ⟨rfl, rfl, rfl, by decide +kernel, rfl, by decide +kernel, by decide +kernel⟩
abbrev s__law_says : Stmt := topS 18
abbrev ns__law_says : List Str := ["told", "due"]
theorem sc__law_says : FnScope ns__law_says ["told", "due"] (defScope s__law_says) := ⟨rfl, rfl, rfl, by decide +kernel, rfl, by decide +kernel, by decide +kernel⟩
abbrev s__law_shifts : Stmt := topS 21
abbrev ns__law_shifts : List Str := ["draws", "shifts", "room", "now", "times", "more", "one", "other", "shift", "taken", "free", "k", "place", "below", "guest"]
theorem sc__law_shifts : FnScope ns__law_shifts ["draws"] (defScope s__law_shifts) := ⟨rfl, rfl, rfl, by decide +kernel, rfl, by decide +kernel, by decide +kernel⟩
abbrev s_law : Stmt := topS 22
abbrev ns_law : List Str := ["script", "draws", "room", "whole", "c", "odd", "s", "far", "pair", "value"]
theorem sc_law : FnScope ns_law ["script"] (defScope s_law) := ⟨rfl, rfl, rfl, by decide +kernel, rfl, by decide +kernel, by decide +kernel⟩
abbrev FnP (K : PySem.W.Frag) (x : Str) (st : Stmt) (f : Addr) (fd : FuncData) : Prop := FunD K x x (defArgs st) (defBody st) (defScope st) [] [] f fd
structure Fx (K : PySem.W.Frag) (mg : Str → Option Value) where
  a_is_number : Addr
  d_is_number : FuncData
  F_is_number : FnP K "is_number" s_is_number a_is_number d_is_number
  g_is_number : mg "is_number" = some (.ref a_is_number)
  b_is_number : Binds K d_is_number ["value", "least", "most"] []
  a_is_shift : Addr
  d_is_shift : FuncData
  F_is_shift : FnP K "is_shift" s_is_shift a_is_shift d_is_shift
  g_is_shift : mg "is_shift" = some (.ref a_is_shift)
  b_is_shift : Binds K d_is_shift ["value"] []
  a_by_diagonals : Addr
  d_by_diagonals : FuncData
  F_by_diagonals : FnP K "by_diagonals" s_by_diagonals a_by_diagonals d_by_diagonals
  g_by_diagonals : mg "by_diagonals" = some (.ref a_by_diagonals)
  b_by_diagonals : Binds K d_by_diagonals ["c", "s"] []
  a_root_of : Addr
  d_root_of : FuncData
  F_root_of : FnP K "root_of" s_root_of a_root_of d_root_of
  g_root_of : mg "root_of" = some (.ref a_root_of)
  b_root_of : Binds K d_root_of ["number"] []
  a_on_diagonal : Addr
  d_on_diagonal : FuncData
  F_on_diagonal : FnP K "on_diagonal" s_on_diagonal a_on_diagonal d_on_diagonal
  g_on_diagonal : mg "on_diagonal" = some (.ref a_on_diagonal)
  b_on_diagonal : Binds K d_on_diagonal ["room"] []
  a_by_powers : Addr
  d_by_powers : FuncData
  F_by_powers : FnP K "by_powers" s_by_powers a_by_powers d_by_powers
  g_by_powers : mg "by_powers" = some (.ref a_by_powers)
  b_by_powers : Binds K d_by_powers ["c", "s"] []
  a_of_power : Addr
  d_of_power : FuncData
  F_of_power : FnP K "of_power" s_of_power a_of_power d_of_power
  g_of_power : mg "of_power" = some (.ref a_of_power)
  b_of_power : Binds K d_of_power ["room"] []
  a__law_draws : Addr
  d__law_draws : FuncData
  F__law_draws : FnP K "_law_draws" s__law_draws a__law_draws d__law_draws
  g__law_draws : mg "_law_draws" = some (.ref a__law_draws)
  b__law_draws : Binds K d__law_draws ["script"] []
  a__law_take : Addr
  d__law_take : FuncData
  F__law_take : FnP K "_law_take" s__law_take a__law_take d__law_take
  g__law_take : mg "_law_take" = some (.ref a__law_take)
  b__law_take : Binds K d__law_take ["draws", "bound"] []
  a__law_alike : Addr
  d__law_alike : FuncData
  F__law_alike : FnP K "_law_alike" s__law_alike a__law_alike d__law_alike
  g__law_alike : mg "_law_alike" = some (.ref a__law_alike)
  b__law_alike : Binds K d__law_alike ["found", "due"] []
  a__law_great : Addr
  d__law_great : FuncData
  F__law_great : FnP K "_law_great" s__law_great a__law_great d__law_great
  g__law_great : mg "_law_great" = some (.ref a__law_great)
  b__law_great : Binds K d__law_great ["draws"] []
  a_shifted : Addr
  d_shifted : FuncData
  F_shifted : FnP K "shifted" s_shifted a_shifted d_shifted
  g_shifted : mg "shifted" = some (.ref a_shifted)
  b_shifted : Binds K d_shifted ["shifts", "room"] []
  a_as_one : Addr
  d_as_one : FuncData
  F_as_one : FnP K "as_one" s_as_one a_as_one d_as_one
  g_as_one : mg "as_one" = some (.ref a_as_one)
  b_as_one : Binds K d_as_one ["shifts"] []
  a_was_in : Addr
  d_was_in : FuncData
  F_was_in : FnP K "was_in" s_was_in a_was_in d_was_in
  g_was_in : mg "was_in" = some (.ref a_was_in)
  b_was_in : Binds K d_was_in ["shift", "room"] []
  a_free_room : Addr
  d_free_room : FuncData
  F_free_room : FnP K "free_room" s_free_room a_free_room d_free_room
  g_free_room : mg "free_room" = some (.ref a_free_room)
  b_free_room : Binds K d_free_room ["shift", "k"] []
  a__law_says : Addr
  d__law_says : FuncData
  F__law_says : FnP K "_law_says" s__law_says a__law_says d__law_says
  g__law_says : mg "_law_says" = some (.ref a__law_says)
  b__law_says : Binds K d__law_says ["told", "due"] []
  a__law_shifts : Addr
  d__law_shifts : FuncData
  F__law_shifts : FnP K "_law_shifts" s__law_shifts a__law_shifts d__law_shifts
  g__law_shifts : mg "_law_shifts" = some (.ref a__law_shifts)
  b__law_shifts : Binds K d__law_shifts ["draws"] []
  a_law : Addr
  d_law : FuncData
  F_law : FnP K "law" s_law a_law d_law
  g_law : mg "law" = some (.ref a_law)
  b_law : Binds K d_law ["script"] []
  n_abs : mg "abs" = none
  n_bool : mg "bool" = none
  n_divmod : mg "divmod" = none
  n_int : mg "int" = none
  n_isinstance : mg "isinstance" = none
  n_len : mg "len" = none
  n_list : mg "list" = none
  n_max : mg "max" = none
  n_min : mg "min" = none
  n_range : mg "range" = none
  n_reversed : mg "reversed" = none
  n_str : mg "str" = none
  n_tuple : mg "tuple" = none
  c_MOST_TIMES : ∃ t, mg "MOST_TIMES" = some (.int 1000 t)
  c_MOST_MORE : ∃ t, mg "MOST_MORE" = some (.int 1000 t)
section
variable {P : Program} {w : World} {K : PySem.W.Frag} {mg : Str → Option Value} {base : Heap} (T : Fx K mg)
theorem ok_is_number : FnOk P w K mg base CX0 1 T.a_is_number T.d_is_number ["value", "least", "most"] (spD K mg false 3 m_is_number) := by
  refine fn_ok (k := 0) T.F_is_number sc_is_number fun cdv A outer s H E hr => ?_
  have hu := hu_room hr
  exact (dss_one (ds_ret (de_and (de_isInt T.n_isinstance T.n_int de_name) (de_and (de_not (de_isBool T.n_isinstance T.n_bool de_name)) (de_one (de_chain op_le op_le gB0_ok gB0_ok de_name de_name de_name))))))
theorem ok_is_shift : FnOk P w K mg base CX0 2 T.a_is_shift T.d_is_shift ["value"] (spD K mg false 1 m_is_shift) := by
  refine fn_ok (k := 1) T.F_is_shift sc_is_shift fun cdv A outer s H E hr => ?_
  have hu := hu_room hr
  exact (dss_cons (ds_if (dt_pw (dw_or (dt_not (dt_tru (de_isTuple T.n_isinstance T.n_tuple de_name))) (dw_one_or (dt_ne hu (de_len T.n_len de_name) de_int)))) (dss_one (ds_ret de_bl)) dss_nil) (dss_one (ds_ret (de_and (de_call0 (ok_is_number T) ne_is_number (hr.mono (by omega)) T.g_is_number T.F_is_number.kp T.b_is_number (dm_val (de_ix de_name de_int) (dm_val de_int (dm_val (de_gint T.c_MOST_TIMES.choose_spec) dm_nil))) (alV (alV (alV al0)))) (de_one (de_call0 (ok_is_number T) ne_is_number (hr.mono (by omega)) T.g_is_number T.F_is_number.kp T.b_is_number (dm_val (de_ix de_name de_int) (dm_val de_int (dm_val (de_gint T.c_MOST_MORE.choose_spec) dm_nil))) (alV (alV (alV al0)))))))))
theorem ok_by_diagonals : FnOk P w K mg base CX0 1 T.a_by_diagonals T.d_by_diagonals ["c", "s"] (spD K mg false 2 m_by_diagonals) := by
  refine fn_ok (k := 0) T.F_by_diagonals sc_by_diagonals fun cdv A outer s H E hr => ?_
  have hu := hu_room hr
  exact (dss_one (ds_ret (de_add (de_fdv (de_mul (de_sub (de_add de_name de_name) de_int) (de_sub (de_add de_name de_name) de_int)) de_int) de_name)))
theorem ok_root_of : FnOk P w K mg base CX0 1 T.a_root_of T.d_root_of ["number"] (spD K mg false 1 m_root_of) := by
  refine fn_ok (k := 0) T.F_root_of sc_root_of fun cdv A outer s H E hr => ?_
  have hu := hu_room hr
  exact (dss_cons (ds_unp (de_tup (da_cons de_int (da_cons de_int da_nil))) (dg_tup rfl (dgs_cons (dg_name sc_root_of.nd) (dgs_cons (dg_name sc_root_of.nd) dgs_nil)))) (dss_cons (ds_while PassesOwn.never (dt_le (de_mul de_name de_name) de_name) (dss_one (ds_augMul sc_root_of.nd de_int))) (dss_cons (ds_while PassesOwn.never (dt_gt (de_sub de_name de_name) de_int) (dss_cons (ds_set sc_root_of.nd (de_fdv (de_add de_name de_name) de_int)) (dss_one (ds_unp (de_if (dt_le (de_mul de_name de_name) de_name) (de_tup (da_cons de_name (da_cons de_name da_nil))) (de_tup (da_cons de_name (da_cons de_name da_nil)))) (dg_tup rfl (dgs_cons (dg_name sc_root_of.nd) (dgs_cons (dg_name sc_root_of.nd) dgs_nil))))))) (dss_one (ds_ret de_name)))))
theorem ok_on_diagonal : FnOk P w K mg base CX0 2 T.a_on_diagonal T.d_on_diagonal ["room"] (spD K mg false 1 m_on_diagonal) := by
  refine fn_ok (k := 1) T.F_on_diagonal sc_on_diagonal fun cdv A outer s H E hr => ?_
  have hu := hu_room hr
  exact (dss_cons (ds_set sc_on_diagonal.nd (de_fdv (de_sub (de_call0 (ok_root_of T) ne_root_of (hr.mono (by omega)) T.g_root_of T.F_root_of.kp T.b_root_of (dm_val (de_sub (de_mul de_int de_name) de_int) dm_nil) (alV al0)) de_int) de_int)) (dss_cons (ds_set sc_on_diagonal.nd (de_sub de_name (de_fdv (de_mul de_name (de_add de_name de_int)) de_int))) (dss_one (ds_ret (de_tup (da_cons de_name (da_cons (de_sub (de_add de_name de_int) de_name) da_nil)))))))
theorem ok_by_powers : FnOk P w K mg base CX0 1 T.a_by_powers T.d_by_powers ["c", "s"] (spD K mg false 2 m_by_powers) := by
  refine fn_ok (k := 0) T.F_by_powers sc_by_powers fun cdv A outer s H E hr => ?_
  have hu := hu_room hr
  exact (dss_cons (ds_set sc_by_powers.nd (de_sub (de_mul de_int de_name) de_int)) (dss_cons (ds_for PassesOwn.never rfl (di_range1 (by rfl) T.n_range (da_cons (de_sub de_name de_int) da_nil)) (dg_name sc_by_powers.nd) (dss_one (ds_augMul sc_by_powers.nd de_int))) (dss_one (ds_ret de_name))))
theorem ok_of_power : FnOk P w K mg base CX0 1 T.a_of_power T.d_of_power ["room"] (spD K mg false 1 m_of_power) := by
  refine fn_ok (k := 0) T.F_of_power sc_of_power fun cdv A outer s H E hr => ?_
  have hu := hu_room hr
  exact (dss_cons (ds_set sc_of_power.nd de_int) (dss_cons (ds_while PassesOwn.never (dt_eq hu (de_mod de_name de_int) de_int) (dss_cons (ds_augFdv sc_of_power.nd de_int) (dss_one (ds_augAdd sc_of_power.nd de_int)))) (dss_one (ds_ret (de_tup (da_cons de_name (da_cons (de_fdv (de_add de_name de_int) de_int) da_nil)))))))
theorem ok__law_draws : FnOk P w K mg base CX0 1 T.a__law_draws T.d__law_draws ["script"] (spD K mg false 1 m__law_draws) := by
  refine fn_ok (k := 0) T.F__law_draws sc__law_draws fun cdv A outer s H E hr => ?_
  have hu := hu_room hr
  exact (dss_cons (ds_set sc__law_draws.nd (de_lst da_nil)) (dss_cons (ds_for PassesOwn.never rfl (di_e de_name) (dg_name sc__law_draws.nd) (dss_cons (ds_set sc__law_draws.nd (de_abs T.n_abs de_name)) (dss_cons (ds_if (dt_lt de_name (de_pow de_int de_int)) (dss_cons (ds_set sc__law_draws.nd (de_mod (de_toInt T.n_int (de_add (de_mul de_name de_int) de_int)) de_int)) (dss_cons (ds_expr (de_append de_name (da_cons (de_mod (de_toInt T.n_int (de_add (de_mul de_name de_int) de_name)) de_int) da_nil))) (dss_cons (ds_expr (de_append de_name (da_cons (de_mod (de_toInt T.n_int (de_add de_name (de_fdv de_name de_int))) de_int) da_nil))) (dss_one (ds_set sc__law_draws.nd de_int))))) dss_nil) (dss_one (ds_for PassesOwn.never rfl (di_range1 (by rfl) T.n_range (da_cons de_int da_nil)) (dg_name sc__law_draws.nd) (dss_one (ds_if (dt_gt de_name de_int) (dss_cons (ds_expr (de_append de_name (da_cons (de_mod (de_toInt T.n_int de_name) de_int) da_nil))) (dss_one (ds_set sc__law_draws.nd (de_fdv de_name de_int)))) dss_nil))))))) (dss_cons (ds_set sc__law_draws.nd de_int) (dss_cons (ds_if (dt_gt (de_len T.n_len de_name) de_int) (dss_one (ds_set sc__law_draws.nd (de_add de_int (de_abs T.n_abs (de_ix de_name de_int))))) dss_nil) (dss_cons (ds_for PassesOwn.never rfl (di_range1 (by rfl) T.n_range (da_cons de_int da_nil)) (dg_name sc__law_draws.nd) (dss_cons (ds_set sc__law_draws.nd (de_mod (de_toInt T.n_int (de_add (de_mul de_name de_int) de_int)) de_int)) (dss_one (ds_expr (de_append de_name (da_cons (de_fdv de_name de_int) da_nil)))))) (dss_one (ds_ret (de_listRev rfl T.n_list T.n_reversed de_name))))))))
theorem ok__law_take : FnOk P w K mg base CX0 1 T.a__law_take T.d__law_take ["draws", "bound"] (spD K mg false 2 m__law_take) := by
  refine fn_ok (k := 0) T.F__law_take sc__law_take fun cdv A outer s H E hr => ?_
  have hu := hu_room hr
  exact (dss_cons (ds_if (dt_eq hu (de_len T.n_len de_name) de_int) (dss_one (ds_ret de_int)) dss_nil) (dss_one (ds_ret (de_mod (de_toInt T.n_int (de_pop de_name)) de_name))))
theorem ok__law_alike : ∀ n : Nat, FnOk P w K mg base CX0 (n + 0) T.a__law_alike T.d__law_alike ["found", "due"] (spD K mg false 2 (m__law_alike n))
  | 0 => fn_none (ps := ["found", "due"]) fun _ => rfl
  | n + 1 => by
    have ih := ok__law_alike n
    have hne := ne__law_alike n
    rw [show n + 1 + 0 = n + 0 + 1 by omega]
    refine fn_ok T.F__law_alike sc__law_alike fun cdv A outer s H E hr => ?_
    have hu := hu_room hr
    exact (dss_cons (ds_if (dt_pw (dw_or (dt_tru (de_isList T.n_isinstance T.n_list de_name)) (dw_one_or (dt_tru (de_isTuple T.n_isinstance T.n_tuple de_name))))) (dss_cons (ds_if (dt_pw (dw_or (dt_ne hu (de_isList T.n_isinstance T.n_list de_name) (de_isList T.n_isinstance T.n_list de_name)) (dw_one_or (dt_ne hu (de_isTuple T.n_isinstance T.n_tuple de_name) (de_isTuple T.n_isinstance T.n_tuple de_name))))) (dss_one (ds_ret de_bl)) dss_nil) (dss_one (ds_ret (de_and (de_eq hu (de_len T.n_len de_name) (de_len T.n_len de_name)) (de_one (de_eq hu (de_lc (own := [("k", 2)]) rfl sc__law_alike.nd (di_range1 (by rfl) T.n_range (da_cons (de_len T.n_len de_name) da_nil)) (blkOk_by (own := [("k", 2)]) (N := ns__law_alike) (by first | decide +kernel | rfl)) gok_n (fun _ _ _ _ _ => (dg_name sc__law_alike.nd)) (fun _ _ _ _ _ => (dts_one (dt_not (dt_tru (de_call0 ih hne hr T.g__law_alike T.F__law_alike.kp T.b__law_alike (dm_val (de_ix de_name de_name) (dm_val (de_ix de_name de_name) dm_nil)) (alV (alV al0))))))) (fun _ _ _ _ _ => de_name)) (de_lst da_nil))))))) dss_nil) (dss_cons (ds_if (dt_is de_name de_non) (dss_one (ds_ret (de_is de_name de_non))) dss_nil) (dss_cons (ds_if (dt_pw (dw_or (dt_tru (de_isBool T.n_isinstance T.n_bool de_name)) (dw_one_or (dt_tru (de_isBool T.n_isinstance T.n_bool de_name))))) (dss_one (ds_ret (de_and (de_isBool T.n_isinstance T.n_bool de_name) (de_and (de_isBool T.n_isinstance T.n_bool de_name) (de_one (de_eq hu de_name de_name)))))) dss_nil) (dss_cons (ds_if (dt_tru (de_isInt T.n_isinstance T.n_int de_name)) (dss_one (ds_ret (de_and (de_isInt T.n_isinstance T.n_int de_name) (de_one (de_eq hu de_name de_name))))) dss_nil) (dss_one (ds_ret (de_and (de_isStr T.n_isinstance T.n_str de_name) (de_one (de_eq hu de_name de_name)))))))))
theorem ok__law_great : FnOk P w K mg base CX0 2 T.a__law_great T.d__law_great ["draws"] (spD K mg false 1 m__law_great) := by
  refine fn_ok (k := 1) T.F__law_great sc__law_great fun cdv A outer s H E hr => ?_
  have hu := hu_room hr
  exact (dss_cons (ds_set sc__law_great.nd (de_add de_int (de_call0 (ok__law_take T) ne__law_take (hr.mono (by omega)) T.g__law_take T.F__law_take.kp T.b__law_take (dm_mut de_name (dm_val de_int dm_nil)) (alM (alV al0))))) (dss_cons (ds_for PassesOwn.never rfl (di_range1 (by rfl) T.n_range (da_cons (de_ix (de_lst (da_cons de_int (da_cons de_int (da_cons de_int da_nil)))) (de_call0 (ok__law_take T) ne__law_take (hr.mono (by omega)) T.g__law_take T.F__law_take.kp T.b__law_take (dm_mut de_name (dm_val de_int dm_nil)) (alM (alV al0)))) da_nil)) (dg_name sc__law_great.nd) (dss_one (ds_set sc__law_great.nd (de_add (de_mul de_name de_int) (de_call0 (ok__law_take T) ne__law_take (hr.mono (by omega)) T.g__law_take T.F__law_take.kp T.b__law_take (dm_mut de_name (dm_val de_int dm_nil)) (alM (alV al0))))))) (dss_one (ds_ret de_name))))
theorem ok_shifted : FnOk P w K mg base CX0 1 T.a_shifted T.d_shifted ["shifts", "room"] (spD K mg false 2 m_shifted) := by
  refine fn_ok (k := 0) T.F_shifted sc_shifted fun cdv A outer s H E hr => ?_
  have hu := hu_room hr
  exact (dss_cons (ds_for PassesOwn.never rfl (di_e de_name) (dg_tup rfl (dgs_cons (dg_name sc_shifted.nd) (dgs_cons (dg_name sc_shifted.nd) dgs_nil))) (dss_one (ds_set sc_shifted.nd (de_add (de_mul de_name de_name) de_name)))) (dss_one (ds_ret de_name)))
theorem ok_as_one : FnOk P w K mg base CX0 1 T.a_as_one T.d_as_one ["shifts"] (spD K mg false 1 m_as_one) := by
  refine fn_ok (k := 0) T.F_as_one sc_as_one fun cdv A outer s H E hr => ?_
  have hu := hu_room hr
  exact (dss_cons (ds_unp (de_tup (da_cons de_int (da_cons de_int da_nil))) (dg_tup rfl (dgs_cons (dg_name sc_as_one.nd) (dgs_cons (dg_name sc_as_one.nd) dgs_nil)))) (dss_cons (ds_for PassesOwn.never rfl (di_e de_name) (dg_tup rfl (dgs_cons (dg_name sc_as_one.nd) (dgs_cons (dg_name sc_as_one.nd) dgs_nil))) (dss_one (ds_par rfl sc_as_one.nd (dr_cons (de_mul de_name de_name) (dr_cons (de_add (de_mul de_name de_name) de_name) dr_nil))))) (dss_one (ds_ret (de_tup (da_cons de_name (da_cons de_name da_nil)))))))
theorem ok_was_in : FnOk P w K mg base CX0 1 T.a_was_in T.d_was_in ["shift", "room"] (spD K mg false 2 m_was_in) := by
  refine fn_ok (k := 0) T.F_was_in sc_was_in fun cdv A outer s H E hr => ?_
  have hu := hu_room hr
  exact (dss_cons (ds_set sc_was_in.nd (de_sub de_name (de_ix de_name de_int))) (dss_one (ds_ret (de_if (dt_pw (dw_and (dt_ge de_name (de_ix de_name de_int)) (dw_one_and (dt_eq hu (de_mod de_name (de_ix de_name de_int)) de_int)))) (de_fdv de_name (de_ix de_name de_int)) de_non))))
theorem ok_free_room : FnOk P w K mg base CX0 1 T.a_free_room T.d_free_room ["shift", "k"] (spD K mg false 2 m_free_room) := by
  refine fn_ok (k := 0) T.F_free_room sc_free_room fun cdv A outer s H E hr => ?_
  have hu := hu_room hr
  exact (dss_cons (ds_unp de_name (dg_tup rfl (dgs_cons (dg_name sc_free_room.nd) (dgs_cons (dg_name sc_free_room.nd) dgs_nil)))) (dss_cons (ds_set sc_free_room.nd (de_add de_name de_name)) (dss_cons (ds_if (dt_lt de_name de_name) (dss_one (ds_ret de_name)) dss_nil) (dss_cons (ds_if (dt_eq hu de_name de_int) (dss_one (ds_ret de_non)) dss_nil) (dss_cons (ds_unp (de_divmod T.n_divmod (de_sub de_name de_name) (de_sub de_name de_int)) (dg_tup rfl (dgs_cons (dg_name sc_free_room.nd) (dgs_cons (dg_name sc_free_room.nd) dgs_nil)))) (dss_one (ds_ret (de_add (de_add (de_add de_name (de_mul de_name de_name)) de_name) de_int))))))))
theorem ok__law_says : FnOk P w K mg base CX0 1 T.a__law_says T.d__law_says ["told", "due"] (spD K mg false 2 m__law_says) := by
  refine fn_ok (k := 0) T.F__law_says sc__law_says fun cdv A outer s H E hr => ?_
  have hu := hu_room hr
  exact (dss_one (ds_ret (de_and (de_isBool T.n_isinstance T.n_bool de_name) (de_one (de_eq hu de_name de_name)))))
theorem ok__law_shifts : FnOk P w K mg base CX0 9 T.a__law_shifts T.d__law_shifts ["draws"] (spD K mg false 1 m__law_shifts) := by
  refine fn_ok (k := 8) T.F__law_shifts sc__law_shifts fun cdv A outer s H E hr => ?_
  have hu := hu_room hr
  exact (dss_cons (ds_set sc__law_shifts.nd (de_tuple T.n_tuple (de_lc (own := [("k", 11)]) rfl sc__law_shifts.nd (di_range1 (by rfl) T.n_range (da_cons (de_call0 (ok__law_take T) ne__law_take (hr.mono (by omega)) T.g__law_take T.F__law_take.kp T.b__law_take (dm_mut de_name (dm_val de_int dm_nil)) (alM (alV al0))) da_nil)) (blkOk_by (own := [("k", 11)]) (N := ns__law_shifts) (by first | decide +kernel | rfl)) gok_n (fun _ _ _ _ _ => (dg_name sc__law_shifts.nd)) (fun _ _ _ _ _ => dts_nil) (fun _ _ _ _ _ => (de_tup (da_cons (de_add de_int (de_call0 (ok__law_take T) ne__law_take (hr.mono (by omega)) T.g__law_take T.F__law_take.kp T.b__law_take (dm_mut de_name (dm_val (de_ix (de_lst (da_cons de_int (da_cons de_int da_nil))) (de_call0 (ok__law_take T) ne__law_take (hr.mono (by omega)) T.g__law_take T.F__law_take.kp T.b__law_take (dm_mut de_name (dm_val de_int dm_nil)) (alM (alV al0)))) dm_nil)) (alM (alV al0)))) (da_cons (de_call0 (ok__law_take T) ne__law_take (hr.mono (by omega)) T.g__law_take T.F__law_take.kp T.b__law_take (dm_mut de_name (dm_val (de_ix (de_lst (da_cons de_int (da_cons de_int da_nil))) (de_call0 (ok__law_take T) ne__law_take (hr.mono (by omega)) T.g__law_take T.F__law_take.kp T.b__law_take (dm_mut de_name (dm_val de_int dm_nil)) (alM (alV al0)))) dm_nil)) (alM (alV al0))) da_nil))))))) (dss_cons (ds_if (dt_ne hu (de_lc (own := [("shift", 8)]) rfl sc__law_shifts.nd (di_e de_name) (blkOk_by (own := [("shift", 8)]) (N := ns__law_shifts) (by first | decide +kernel | rfl)) gok_n (fun _ _ _ _ _ => (dg_name sc__law_shifts.nd)) (fun _ _ _ _ _ => (dts_one (dt_not (dt_tru (de_call0 (ok__law_says T) ne__law_says (hr.mono (by omega)) T.g__law_says T.F__law_says.kp T.b__law_says (dm_val (de_call0 (ok_is_shift T) ne_is_shift (hr.mono (by omega)) T.g_is_shift T.F_is_shift.kp T.b_is_shift (dm_val de_name dm_nil) (alV al0)) (dm_val de_bl dm_nil)) (alV (alV al0))))))) (fun _ _ _ _ _ => de_name)) (de_lst da_nil)) (dss_one (ds_ret de_bl)) dss_nil) (dss_cons (ds_set sc__law_shifts.nd (de_call0 (ok__law_great T) ne__law_great (hr.mono (by omega)) T.g__law_great T.F__law_great.kp T.b__law_great (dm_mut de_name dm_nil) (alM al0))) (dss_cons (ds_par3 rfl sc__law_shifts.nd (dr_cons de_name (dr_cons de_int (dr_cons de_int dr_nil)))) (dss_cons (ds_for PassesOwn.never rfl (di_e de_name) (dg_tup rfl (dgs_cons (dg_name sc__law_shifts.nd) (dgs_cons (dg_name sc__law_shifts.nd) dgs_nil))) (dss_one (ds_par3 rfl sc__law_shifts.nd (dr_cons (de_add (de_mul de_name de_name) de_name) (dr_cons (de_mul de_name de_name) (dr_cons (de_add (de_mul de_name de_name) de_name) dr_nil)))))) (dss_cons (ds_if (dt_pw (dw_or (dt_not (dt_tru (de_call0 (ok__law_alike T 8) (ne__law_alike _) (hr.mono (by omega)) T.g__law_alike T.F__law_alike.kp T.b__law_alike (dm_val (de_lst (da_cons (de_call0 (ok_shifted T) ne_shifted (hr.mono (by omega)) T.g_shifted T.F_shifted.kp T.b_shifted (dm_val de_name (dm_val de_name dm_nil)) (alV (alV al0))) (da_cons (de_call0 (ok_as_one T) ne_as_one (hr.mono (by omega)) T.g_as_one T.F_as_one.kp T.b_as_one (dm_val de_name dm_nil) (alV al0)) da_nil))) (dm_val (de_lst (da_cons de_name (da_cons (de_tup (da_cons de_name (da_cons de_name da_nil))) da_nil))) dm_nil)) (alV (alV al0))))) (dw_one_or (dt_ne hu de_name (de_add (de_mul de_name de_name) de_name))))) (dss_one (ds_ret de_bl)) dss_nil) (dss_cons (ds_set sc__law_shifts.nd (de_tup (da_cons (de_add de_int (de_call0 (ok__law_take T) ne__law_take (hr.mono (by omega)) T.g__law_take T.F__law_take.kp T.b__law_take (dm_mut de_name (dm_val (de_ix (de_lst (da_cons de_int (da_cons de_int da_nil))) (de_call0 (ok__law_take T) ne__law_take (hr.mono (by omega)) T.g__law_take T.F__law_take.kp T.b__law_take (dm_mut de_name (dm_val de_int dm_nil)) (alM (alV al0)))) dm_nil)) (alM (alV al0)))) (da_cons (de_call0 (ok__law_take T) ne__law_take (hr.mono (by omega)) T.g__law_take T.F__law_take.kp T.b__law_take (dm_mut de_name (dm_val (de_ix (de_lst (da_cons de_int (da_cons de_int da_nil))) (de_call0 (ok__law_take T) ne__law_take (hr.mono (by omega)) T.g__law_take T.F__law_take.kp T.b__law_take (dm_mut de_name (dm_val de_int dm_nil)) (alM (alV al0)))) dm_nil)) (alM (alV al0))) da_nil)))) (dss_cons (ds_set sc__law_shifts.nd (de_lc (own := [("guest", 14)]) rfl sc__law_shifts.nd (di_range2 (by rfl) T.n_range (da_cons de_int (da_cons de_int da_nil))) (blkOk_by (own := [("guest", 14)]) (N := ns__law_shifts) (by first | decide +kernel | rfl)) gok_n (fun _ _ _ _ _ => (dg_name sc__law_shifts.nd)) (fun _ _ _ _ _ => dts_nil) (fun _ _ _ _ _ => (de_add (de_mul (de_ix de_name de_int) de_name) (de_ix de_name de_int))))) (dss_cons (ds_set sc__law_shifts.nd (de_if (dt_pw (dw_and (dt_lt (de_ix de_name de_int) de_int) (dw_one_and (dt_lt (de_ix de_name de_int) de_int)))) (de_lc (own := [("place", 12)]) rfl sc__law_shifts.nd (di_range2 (by rfl) T.n_range (da_cons de_int (da_cons (de_ix de_name (de_neg de_int)) da_nil))) (blkOk_by (own := [("place", 12)]) (N := ns__law_shifts) (by first | decide +kernel | rfl)) gok_n (fun _ _ _ _ _ => (dg_name sc__law_shifts.nd)) (fun _ _ _ _ _ => (dts_one (dt_nin hu de_name de_name))) (fun _ _ _ _ _ => de_name)) (de_lst da_nil))) (dss_cons (ds_for PassesOwn.never rfl (di_range2 (by rfl) T.n_range (da_cons de_int (da_cons (de_add (de_min2 rfl T.n_min (de_len T.n_len de_name) de_int) de_int) da_nil))) (dg_name sc__law_shifts.nd) (dss_one (ds_if (dt_not (dt_tru (de_call0 (ok__law_alike T 8) (ne__law_alike _) (hr.mono (by omega)) T.g__law_alike T.F__law_alike.kp T.b__law_alike (dm_val (de_call0 (ok_free_room T) ne_free_room (hr.mono (by omega)) T.g_free_room T.F_free_room.kp T.b_free_room (dm_val de_name (dm_val de_name dm_nil)) (alV (alV al0))) (dm_val (de_ix de_name (de_sub de_name de_int)) dm_nil)) (alV (alV al0))))) (dss_one (ds_ret de_bl)) dss_nil))) (dss_cons (ds_if (dt_pw (dw_or (dt_not (dt_tru (de_call0 (ok__law_alike T 8) (ne__law_alike _) (hr.mono (by omega)) T.g__law_alike T.F__law_alike.kp T.b__law_alike (dm_val (de_call0 (ok_was_in T) ne_was_in (hr.mono (by omega)) T.g_was_in T.F_was_in.kp T.b_was_in (dm_val de_name (dm_val (de_add (de_mul (de_ix de_name de_int) de_name) (de_ix de_name de_int)) dm_nil)) (alV (alV al0))) (dm_val de_name dm_nil)) (alV (alV al0))))) (dw_one_or (dt_pw (dw_and (dt_gt (de_ix de_name de_int) de_int) (dw_one_and (dt_isn (de_call0 (ok_was_in T) ne_was_in (hr.mono (by omega)) T.g_was_in T.F_was_in.kp T.b_was_in (dm_val de_name (dm_val (de_ix de_name de_int) dm_nil)) (alV (alV al0))) de_non))))))) (dss_one (ds_ret de_bl)) dss_nil) (dss_cons (ds_set sc__law_shifts.nd (de_call0 (ok__law_great T) ne__law_great (hr.mono (by omega)) T.g__law_great T.F__law_great.kp T.b__law_great (dm_mut de_name dm_nil) (alM al0))) (dss_cons (ds_set sc__law_shifts.nd (de_call0 (ok_free_room T) ne_free_room (hr.mono (by omega)) T.g_free_room T.F_free_room.kp T.b_free_room (dm_val de_name (dm_val de_name dm_nil)) (alV (alV al0)))) (dss_cons (ds_if (dt_eq hu (de_ix de_name de_int) de_int) (dss_one (ds_ret (de_call0 (ok__law_alike T 8) (ne__law_alike _) (hr.mono (by omega)) T.g__law_alike T.F__law_alike.kp T.b__law_alike (dm_val de_name (dm_val (de_if (dt_le de_name (de_ix de_name de_int)) de_name de_non) dm_nil)) (alV (alV al0))))) dss_nil) (dss_cons (ds_set sc__law_shifts.nd (de_if (dt_tru (de_isInt T.n_isinstance T.n_int de_name)) (de_max2 rfl T.n_max de_int (de_fdv (de_sub de_name (de_ix de_name de_int)) (de_ix de_name de_int))) de_int)) (dss_one (ds_ret (de_and (de_isInt T.n_isinstance T.n_int de_name) (de_and (de_is (de_call0 (ok_was_in T) ne_was_in (hr.mono (by omega)) T.g_was_in T.F_was_in.kp T.b_was_in (dm_val de_name (dm_val de_name dm_nil)) (alV (alV al0))) de_non) (de_and (de_eq hu (de_sub de_name de_name) de_name) (de_one (de_or (de_lt (de_sub de_name (de_ix de_name de_int)) (de_ix de_name de_int)) (de_one (de_ne hu (de_mod (de_toInt T.n_int (de_sub de_name (de_ix de_name de_int))) (de_ix de_name de_int)) de_int))))))))))))))))))))))))
theorem ok_law : FnOk P w K mg base CX0 10 T.a_law T.d_law ["script"] (spD K mg false 1 m_law) := by
  refine fn_ok (k := 9) T.F_law sc_law fun cdv A outer s H E hr => ?_
  have hu := hu_room hr
  exact (dss_cons (ds_set sc_law.nd (de_call0 (ok__law_draws T) ne__law_draws (hr.mono (by omega)) T.g__law_draws T.F__law_draws.kp T.b__law_draws (dm_val de_name dm_nil) (alV al0))) (dss_cons (ds_if (dt_not (dt_tru (de_call0 (ok__law_shifts T) ne__law_shifts (hr.mono (by omega)) T.g__law_shifts T.F__law_shifts.kp T.b__law_shifts (dm_mut de_name dm_nil) (alM al0)))) (dss_one (ds_ret de_bl)) dss_nil) (dss_cons (ds_set sc_law.nd de_int) (dss_cons (ds_for PassesOwn.never rfl (di_range2 (by rfl) T.n_range (da_cons de_int (da_cons de_int da_nil))) (dg_name sc_law.nd) (dss_one (ds_for PassesOwn.never rfl (di_range2 (by rfl) T.n_range (da_cons de_int (da_cons de_name da_nil))) (dg_name sc_law.nd) (dss_cons (ds_set sc_law.nd (de_add de_name de_int)) (dss_one (ds_if (dt_not (dt_tru (de_call0 (ok__law_alike T 8) (ne__law_alike _) (hr.mono (by omega)) T.g__law_alike T.F__law_alike.kp T.b__law_alike (dm_val (de_lst (da_cons (de_call0 (ok_by_diagonals T) ne_by_diagonals (hr.mono (by omega)) T.g_by_diagonals T.F_by_diagonals.kp T.b_by_diagonals (dm_val de_name (dm_val (de_sub de_name de_name) dm_nil)) (alV (alV al0))) (da_cons (de_call0 (ok_on_diagonal T) ne_on_diagonal (hr.mono (by omega)) T.g_on_diagonal T.F_on_diagonal.kp T.b_on_diagonal (dm_val de_name dm_nil) (alV al0)) da_nil))) (dm_val (de_lst (da_cons de_name (da_cons (de_tup (da_cons de_name (da_cons (de_sub de_name de_name) da_nil))) da_nil))) dm_nil)) (alV (alV al0))))) (dss_one (ds_ret de_bl)) dss_nil)))))) (dss_cons (ds_for PassesOwn.never rfl (di_range2 (by rfl) T.n_range (da_cons de_int (da_cons de_int da_nil))) (dg_name sc_law.nd) (dss_cons (ds_par rfl sc_law.nd (dr_cons de_int (dr_cons de_name dr_nil))) (dss_cons (ds_while PassesOwn.never (dt_eq hu (de_mul (de_fdv de_name de_int) de_int) de_name) (dss_one (ds_par rfl sc_law.nd (dr_cons (de_add de_name de_int) (dr_cons (de_fdv de_name de_int) dr_nil))))) (dss_one (ds_if (dt_not (dt_tru (de_call0 (ok__law_alike T 8) (ne__law_alike _) (hr.mono (by omega)) T.g__law_alike T.F__law_alike.kp T.b__law_alike (dm_val (de_lst (da_cons (de_call0 (ok_of_power T) ne_of_power (hr.mono (by omega)) T.g_of_power T.F_of_power.kp T.b_of_power (dm_val de_name dm_nil) (alV al0)) (da_cons (de_call0 (ok_by_powers T) ne_by_powers (hr.mono (by omega)) T.g_by_powers T.F_by_powers.kp T.b_by_powers (dm_val de_name (dm_val (de_fdv (de_add de_name de_int) de_int) dm_nil)) (alV (alV al0))) da_nil))) (dm_val (de_lst (da_cons (de_tup (da_cons de_name (da_cons (de_fdv (de_add de_name de_int) de_int) da_nil))) (da_cons de_name da_nil))) dm_nil)) (alV (alV al0))))) (dss_one (ds_ret de_bl)) dss_nil))))) (dss_cons (ds_par rfl sc_law.nd (dr_cons (de_call0 (ok__law_great T) ne__law_great (hr.mono (by omega)) T.g__law_great T.F__law_great.kp T.b__law_great (dm_mut de_name dm_nil) (alM al0)) (dr_cons (de_call0 (ok__law_great T) ne__law_great (hr.mono (by omega)) T.g__law_great T.F__law_great.kp T.b__law_great (dm_mut de_name dm_nil) (alM al0)) dr_nil))) (dss_cons (ds_set sc_law.nd (de_add (de_fdv (de_mul (de_sub (de_add de_name de_name) de_int) (de_sub (de_add de_name de_name) de_int)) de_int) de_name)) (dss_cons (ds_if (dt_not (dt_tru (de_call0 (ok__law_alike T 8) (ne__law_alike _) (hr.mono (by omega)) T.g__law_alike T.F__law_alike.kp T.b__law_alike (dm_val (de_lst (da_cons (de_call0 (ok_by_diagonals T) ne_by_diagonals (hr.mono (by omega)) T.g_by_diagonals T.F_by_diagonals.kp T.b_by_diagonals (dm_val de_name (dm_val de_name dm_nil)) (alV (alV al0))) (da_cons (de_call0 (ok_on_diagonal T) ne_on_diagonal (hr.mono (by omega)) T.g_on_diagonal T.F_on_diagonal.kp T.b_on_diagonal (dm_val de_name dm_nil) (alV al0)) da_nil))) (dm_val (de_lst (da_cons de_name (da_cons (de_tup (da_cons de_name (da_cons de_name da_nil))) da_nil))) dm_nil)) (alV (alV al0))))) (dss_one (ds_ret de_bl)) dss_nil) (dss_cons (ds_set sc_law.nd (de_call0 (ok__law_great T) ne__law_great (hr.mono (by omega)) T.g__law_great T.F__law_great.kp T.b__law_great (dm_mut de_name dm_nil) (alM al0))) (dss_cons (ds_set sc_law.nd (de_call0 (ok_on_diagonal T) ne_on_diagonal (hr.mono (by omega)) T.g_on_diagonal T.F_on_diagonal.kp T.b_on_diagonal (dm_val de_name dm_nil) (alV al0))) (dss_cons (ds_if (dt_pw (dw_or (dt_not (dt_tru (de_isTuple T.n_isinstance T.n_tuple de_name))) (dw_or (dt_ne hu (de_len T.n_len de_name) de_int) (dw_or (dt_lt (de_ix de_name de_int) de_int) (dw_or (dt_lt (de_ix de_name de_int) de_int) (dw_one_or (dt_ne hu (de_add (de_fdv (de_mul (de_sub (de_add (de_ix de_name de_int) (de_ix de_name de_int)) de_int) (de_sub (de_add (de_ix de_name de_int) (de_ix de_name de_int)) de_int)) de_int) (de_ix de_name de_int)) de_name))))))) (dss_one (ds_ret de_bl)) dss_nil) (dss_cons (ds_set sc_law.nd (de_add de_int (de_call0 (ok__law_take T) ne__law_take (hr.mono (by omega)) T.g__law_take T.F__law_take.kp T.b__law_take (dm_mut de_name (dm_val (de_ix (de_lst (da_cons de_int (da_cons de_int da_nil))) (de_call0 (ok__law_take T) ne__law_take (hr.mono (by omega)) T.g__law_take T.F__law_take.kp T.b__law_take (dm_mut de_name (dm_val de_int dm_nil)) (alM (alV al0)))) dm_nil)) (alM (alV al0))))) (dss_cons (ds_set sc_law.nd (de_mul (de_shl de_int (de_sub de_name de_int)) (de_sub (de_mul de_int de_name) de_int))) (dss_cons (ds_if (dt_not (dt_tru (de_call0 (ok__law_alike T 8) (ne__law_alike _) (hr.mono (by omega)) T.g__law_alike T.F__law_alike.kp T.b__law_alike (dm_val (de_lst (da_cons (de_call0 (ok_by_powers T) ne_by_powers (hr.mono (by omega)) T.g_by_powers T.F_by_powers.kp T.b_by_powers (dm_val de_name (dm_val de_name dm_nil)) (alV (alV al0))) (da_cons (de_call0 (ok_of_power T) ne_of_power (hr.mono (by omega)) T.g_of_power T.F_of_power.kp T.b_of_power (dm_val de_name dm_nil) (alV al0)) da_nil))) (dm_val (de_lst (da_cons de_name (da_cons (de_tup (da_cons de_name (da_cons de_name da_nil))) da_nil))) dm_nil)) (alV (alV al0))))) (dss_one (ds_ret de_bl)) dss_nil) (dss_cons (ds_set sc_law.nd (de_lst (da_cons de_non (da_cons (de_lst (da_cons de_int (da_cons de_int da_nil))) (da_cons (de_tup (da_cons de_int da_nil)) (da_cons (de_tup (da_cons de_int (da_cons de_int (da_cons de_int da_nil)))) (da_cons (de_tup (da_cons de_int (da_cons de_int da_nil))) (da_cons (de_tup (da_cons de_int (da_cons de_int da_nil))) (da_cons (de_tup (da_cons de_int (da_cons (de_neg de_int) da_nil))) (da_cons (de_tup (da_cons de_int (da_cons de_int da_nil))) (da_cons (de_tup (da_cons de_bl (da_cons de_int da_nil))) (da_cons (de_tup (da_cons de_int (da_cons de_non da_nil))) (da_cons (de_tup (da_cons de_str (da_cons de_int da_nil))) da_nil))))))))))))) (dss_one (ds_ret (de_eq hu (de_lc (own := [("value", 9)]) rfl sc_law.nd (di_e de_name) (blkOk_by (own := [("value", 9)]) (N := ns_law) (by first | decide +kernel | rfl)) gok_n (fun _ _ _ _ _ => (dg_name sc_law.nd)) (fun _ _ _ _ _ => (dts_one (dt_isn (de_call0 (ok_is_shift T) ne_is_shift (hr.mono (by omega)) T.g_is_shift T.F_is_shift.kp T.b_is_shift (dm_val de_name dm_nil) (alV al0)) de_bl))) (fun _ _ _ _ _ => de_name)) (de_lst da_nil)))))))))))))))))))
end
/-! the head -/
def df_is_number : He.DefD := ⟨("is_number", none), "is_number", "is_number", defArgs s_is_number, defBody s_is_number, defScope s_is_number, [], []⟩
def df_is_shift : He.DefD := ⟨("is_shift", none), "is_shift", "is_shift", defArgs s_is_shift, defBody s_is_shift, defScope s_is_shift, [], []⟩
def df_by_diagonals : He.DefD := ⟨("by_diagonals", none), "by_diagonals", "by_diagonals", defArgs s_by_diagonals, defBody s_by_diagonals, defScope s_by_diagonals, [], []⟩
def df_root_of : He.DefD := ⟨("root_of", none), "root_of", "root_of", defArgs s_root_of, defBody s_root_of, defScope s_root_of, [], []⟩
def df_on_diagonal : He.DefD := ⟨("on_diagonal", none), "on_diagonal", "on_diagonal", defArgs s_on_diagonal, defBody s_on_diagonal, defScope s_on_diagonal, [], []⟩
def df_by_powers : He.DefD := ⟨("by_powers", none), "by_powers", "by_powers", defArgs s_by_powers, defBody s_by_powers, defScope s_by_powers, [], []⟩
def df_of_power : He.DefD := ⟨("of_power", none), "of_power", "of_power", defArgs s_of_power, defBody s_of_power, defScope s_of_power, [], []⟩
def df__law_draws : He.DefD := ⟨("_law_draws", none), "_law_draws", "_law_draws", defArgs s__law_draws, defBody s__law_draws, defScope s__law_draws, [], []⟩
def df__law_take : He.DefD := ⟨("_law_take", none), "_law_take", "_law_take", defArgs s__law_take, defBody s__law_take, defScope s__law_take, [], []⟩
def df__law_alike : He.DefD := ⟨("_law_alike", none), "_law_alike", "_law_alike", defArgs s__law_alike, defBody s__law_alike, defScope s__law_alike, [], []⟩
def df__law_great : He.DefD := ⟨("_law_great", none), "_law_great", "_law_great", defArgs s__law_great, defBody s__law_great, defScope s__law_great, [], []⟩
def df_shifted : He.DefD := ⟨("shifted", none), "shifted", "shifted", defArgs s_shifted, defBody s_shifted, defScope s_shifted, [], []⟩
def df_as_one : He.DefD := ⟨("as_one", none), "as_one", "as_one", defArgs s_as_one, defBody s_as_one, defScope s_as_one, [], []⟩
def df_was_in : He.DefD := ⟨("was_in", none), "was_in", "was_in", defArgs s_was_in, defBody s_was_in, defScope s_was_in, [], []⟩
def df_free_room : He.DefD := ⟨("free_room", none), "free_room", "free_room", defArgs s_free_room, defBody s_free_room, defScope s_free_room, [], []⟩
def df__law_says : He.DefD := ⟨("_law_says", none), "_law_says", "_law_says", defArgs s__law_says, defBody s__law_says, defScope s__law_says, [], []⟩
def df__law_shifts : He.DefD := ⟨("_law_shifts", none), "_law_shifts", "_law_shifts", defArgs s__law_shifts, defBody s__law_shifts, defScope s__law_shifts, [], []⟩
def df_law : He.DefD := ⟨("law", none), "law", "law", defArgs s_law, defBody s_law, defScope s_law, [], []⟩
def fn : List He.DefD := [df_is_number, df_is_shift, df_by_diagonals, df_root_of, df_on_diagonal, df_by_powers, df_of_power, df__law_draws, df__law_take, df__law_alike, df__law_great, df_shifted, df_as_one, df_was_in, df_free_room, df__law_says, df__law_shifts, df_law]
def fa : List He.Fa := [.glo "is_number", .glo "is_shift", .glo "by_diagonals", .glo "root_of", .glo "on_diagonal", .glo "by_powers", .glo "of_power", .glo "_law_draws", .glo "_law_take", .glo "_law_alike", .glo "_law_great", .glo "shifted", .glo "as_one", .glo "was_in", .glo "free_room", .glo "_law_says", .glo "_law_shifts", .glo "law", .free "abs", .free "bool", .free "divmod", .free "int", .free "isinstance", .free "len", .free "list", .free "max", .free "min", .free "range", .free "reversed", .free "str", .free "tuple", .int "MOST_TIMES" 1000, .int "MOST_MORE" 1000]
def nms0 : List PySem.Str := ["is_number", "MOST_TIMES", "MOST_MORE", "is_shift", "shifted", "as_one", "was_in", "free_room", "by_diagonals", "root_of", "on_diagonal", "by_powers", "of_power", "_law_draws", "_law_take", "_law_says", "_law_alike", "_law_great", "_law_shifts"]
def nms1 : List PySem.Str := []
abbrev nms : List PySem.Str := nms0
abbrev RR : PySem.W.OpenRow := PySem.W.OpenLaw.row PySem.Challenge.rw_guestsheld_k89_whole_endless_inns
abbrev hk : PySem.W.Hook := hookL 4 fa fn
def ob (s : PySem.W.SharedT) : AlL := obsLG 4 fa fn (HandSHeadRun.getT s)
theorem ob_eq (s : PySem.W.SharedT) : ob s = hk.obs s.abs := obsLG_eq (HandSHeadRun.getT_eq s)
theorem run (w : World) : HandSHeadRun.RunEq RR (PySem.W.view RR.prog [22]) hk ob 4000 nms w := by
  intro os
  kernel_rfl
theorem facts {K : PySem.W.Frag} {h : Heap} {mg : Str → Option Value} (X : K.In h) (G : h.Ns mainGlobals mg) (c : He.SaysD fa fn K) : Nonempty (Fx K mg) := by
  obtain ⟨d0, F0⟩ := c.def_ 0 (d := df_is_number) rfl
  have b0 : Binds K d0 ["value", "least", "most"] [] := FunD.bindsN (ps := ["value", "least", "most"]) F0 fun _ _ _ _ _ _ us hl => match us, hl with | [_, _, _], _ => rfl
  obtain ⟨d1, F1⟩ := c.def_ 1 (d := df_is_shift) rfl
  have b1 : Binds K d1 ["value"] [] := FunD.bindsN (ps := ["value"]) F1 fun _ _ _ _ _ _ us hl => match us, hl with | [_], _ => rfl
  obtain ⟨d2, F2⟩ := c.def_ 2 (d := df_by_diagonals) rfl
  have b2 : Binds K d2 ["c", "s"] [] := FunD.bindsN (ps := ["c", "s"]) F2 fun _ _ _ _ _ _ us hl => match us, hl with | [_, _], _ => rfl
  obtain ⟨d3, F3⟩ := c.def_ 3 (d := df_root_of) rfl
  have b3 : Binds K d3 ["number"] [] := FunD.bindsN (ps := ["number"]) F3 fun _ _ _ _ _ _ us hl => match us, hl with | [_], _ => rfl
  obtain ⟨d4, F4⟩ := c.def_ 4 (d := df_on_diagonal) rfl
  have b4 : Binds K d4 ["room"] [] := FunD.bindsN (ps := ["room"]) F4 fun _ _ _ _ _ _ us hl => match us, hl with | [_], _ => rfl
  obtain ⟨d5, F5⟩ := c.def_ 5 (d := df_by_powers) rfl
  have b5 : Binds K d5 ["c", "s"] [] := FunD.bindsN (ps := ["c", "s"]) F5 fun _ _ _ _ _ _ us hl => match us, hl with | [_, _], _ => rfl
  obtain ⟨d6, F6⟩ := c.def_ 6 (d := df_of_power) rfl
  have b6 : Binds K d6 ["room"] [] := FunD.bindsN (ps := ["room"]) F6 fun _ _ _ _ _ _ us hl => match us, hl with | [_], _ => rfl
  obtain ⟨d7, F7⟩ := c.def_ 7 (d := df__law_draws) rfl
  have b7 : Binds K d7 ["script"] [] := FunD.bindsN (ps := ["script"]) F7 fun _ _ _ _ _ _ us hl => match us, hl with | [_], _ => rfl
  obtain ⟨d8, F8⟩ := c.def_ 8 (d := df__law_take) rfl
  have b8 : Binds K d8 ["draws", "bound"] [] := FunD.bindsN (ps := ["draws", "bound"]) F8 fun _ _ _ _ _ _ us hl => match us, hl with | [_, _], _ => rfl
  obtain ⟨d9, F9⟩ := c.def_ 9 (d := df__law_alike) rfl
  have b9 : Binds K d9 ["found", "due"] [] := FunD.bindsN (ps := ["found", "due"]) F9 fun _ _ _ _ _ _ us hl => match us, hl with | [_, _], _ => rfl
  obtain ⟨d10, F10⟩ := c.def_ 10 (d := df__law_great) rfl
  have b10 : Binds K d10 ["draws"] [] := FunD.bindsN (ps := ["draws"]) F10 fun _ _ _ _ _ _ us hl => match us, hl with | [_], _ => rfl
  obtain ⟨d11, F11⟩ := c.def_ 11 (d := df_shifted) rfl
  have b11 : Binds K d11 ["shifts", "room"] [] := FunD.bindsN (ps := ["shifts", "room"]) F11 fun _ _ _ _ _ _ us hl => match us, hl with | [_, _], _ => rfl
  obtain ⟨d12, F12⟩ := c.def_ 12 (d := df_as_one) rfl
  have b12 : Binds K d12 ["shifts"] [] := FunD.bindsN (ps := ["shifts"]) F12 fun _ _ _ _ _ _ us hl => match us, hl with | [_], _ => rfl
  obtain ⟨d13, F13⟩ := c.def_ 13 (d := df_was_in) rfl
  have b13 : Binds K d13 ["shift", "room"] [] := FunD.bindsN (ps := ["shift", "room"]) F13 fun _ _ _ _ _ _ us hl => match us, hl with | [_, _], _ => rfl
  obtain ⟨d14, F14⟩ := c.def_ 14 (d := df_free_room) rfl
  have b14 : Binds K d14 ["shift", "k"] [] := FunD.bindsN (ps := ["shift", "k"]) F14 fun _ _ _ _ _ _ us hl => match us, hl with | [_, _], _ => rfl
  obtain ⟨d15, F15⟩ := c.def_ 15 (d := df__law_says) rfl
  have b15 : Binds K d15 ["told", "due"] [] := FunD.bindsN (ps := ["told", "due"]) F15 fun _ _ _ _ _ _ us hl => match us, hl with | [_, _], _ => rfl
  obtain ⟨d16, F16⟩ := c.def_ 16 (d := df__law_shifts) rfl
  have b16 : Binds K d16 ["draws"] [] := FunD.bindsN (ps := ["draws"]) F16 fun _ _ _ _ _ _ us hl => match us, hl with | [_], _ => rfl
  obtain ⟨d17, F17⟩ := c.def_ 17 (d := df_law) rfl
  have b17 : Binds K d17 ["script"] [] := FunD.bindsN (ps := ["script"]) F17 fun _ _ _ _ _ _ us hl => match us, hl with | [_], _ => rfl
  exact ⟨{ a_is_number := _, d_is_number := d0, F_is_number := F0, g_is_number := He.glo_ok X G (c.fact 0 (f := .glo "is_number") rfl), b_is_number := b0, a_is_shift := _, d_is_shift := d1, F_is_shift := F1, g_is_shift := He.glo_ok X G (c.fact 1 (f := .glo "is_shift") rfl), b_is_shift := b1, a_by_diagonals := _, d_by_diagonals := d2, F_by_diagonals := F2, g_by_diagonals := He.glo_ok X G (c.fact 2 (f := .glo "by_diagonals") rfl), b_by_diagonals := b2, a_root_of := _, d_root_of := d3, F_root_of := F3, g_root_of := He.glo_ok X G (c.fact 3 (f := .glo "root_of") rfl), b_root_of := b3, a_on_diagonal := _, d_on_diagonal := d4, F_on_diagonal := F4, g_on_diagonal := He.glo_ok X G (c.fact 4 (f := .glo "on_diagonal") rfl), b_on_diagonal := b4, a_by_powers := _, d_by_powers := d5, F_by_powers := F5, g_by_powers := He.glo_ok X G (c.fact 5 (f := .glo "by_powers") rfl), b_by_powers := b5, a_of_power := _, d_of_power := d6, F_of_power := F6, g_of_power := He.glo_ok X G (c.fact 6 (f := .glo "of_power") rfl), b_of_power := b6, a__law_draws := _, d__law_draws := d7, F__law_draws := F7, g__law_draws := He.glo_ok X G (c.fact 7 (f := .glo "_law_draws") rfl), b__law_draws := b7, a__law_take := _, d__law_take := d8, F__law_take := F8, g__law_take := He.glo_ok X G (c.fact 8 (f := .glo "_law_take") rfl), b__law_take := b8, a__law_alike := _, d__law_alike := d9, F__law_alike := F9, g__law_alike := He.glo_ok X G (c.fact 9 (f := .glo "_law_alike") rfl), b__law_alike := b9, a__law_great := _, d__law_great := d10, F__law_great := F10, g__law_great := He.glo_ok X G (c.fact 10 (f := .glo "_law_great") rfl), b__law_great := b10, a_shifted := _, d_shifted := d11, F_shifted := F11, g_shifted := He.glo_ok X G (c.fact 11 (f := .glo "shifted") rfl), b_shifted := b11, a_as_one := _, d_as_one := d12, F_as_one := F12, g_as_one := He.glo_ok X G (c.fact 12 (f := .glo "as_one") rfl), b_as_one := b12, a_was_in := _, d_was_in := d13, F_was_in := F13, g_was_in := He.glo_ok X G (c.fact 13 (f := .glo "was_in") rfl), b_was_in := b13, a_free_room := _, d_free_room := d14, F_free_room := F14, g_free_room := He.glo_ok X G (c.fact 14 (f := .glo "free_room") rfl), b_free_room := b14, a__law_says := _, d__law_says := d15, F__law_says := F15, g__law_says := He.glo_ok X G (c.fact 15 (f := .glo "_law_says") rfl), b__law_says := b15, a__law_shifts := _, d__law_shifts := d16, F__law_shifts := F16, g__law_shifts := He.glo_ok X G (c.fact 16 (f := .glo "_law_shifts") rfl), b__law_shifts := b16, a_law := _, d_law := d17, F_law := F17, g_law := He.glo_ok X G (c.fact 17 (f := .glo "law") rfl), b_law := b17, n_abs := He.free_ok X G (c.fact 18 (f := .free "abs") rfl), n_bool := He.free_ok X G (c.fact 19 (f := .free "bool") rfl), n_divmod := He.free_ok X G (c.fact 20 (f := .free "divmod") rfl), n_int := He.free_ok X G (c.fact 21 (f := .free "int") rfl), n_isinstance := He.free_ok X G (c.fact 22 (f := .free "isinstance") rfl), n_len := He.free_ok X G (c.fact 23 (f := .free "len") rfl), n_list := He.free_ok X G (c.fact 24 (f := .free "list") rfl), n_max := He.free_ok X G (c.fact 25 (f := .free "max") rfl), n_min := He.free_ok X G (c.fact 26 (f := .free "min") rfl), n_range := He.free_ok X G (c.fact 27 (f := .free "range") rfl), n_reversed := He.free_ok X G (c.fact 28 (f := .free "reversed") rfl), n_str := He.free_ok X G (c.fact 29 (f := .free "str") rfl), n_tuple := He.free_ok X G (c.fact 30 (f := .free "tuple") rfl), c_MOST_TIMES := He.int_ok X G (c.fact 31 (f := .int "MOST_TIMES" 1000) rfl), c_MOST_MORE := He.int_ok X G (c.fact 32 (f := .int "MOST_MORE" 1000) rfl) }⟩
open PySem.W PySem.Calls in
theorem holds_of (hm : ∀ ns : List Int, ns.length ≤ 63 → ∃ σ', m_law [some (.d (.list (ns.map PyData.int)))] = .ok (.d (.bool true)) σ') : PySem.Challenge.rw_guestsheld_k89_whole_endless_inns.Holds := by
  w_on; o_law
  refine HandSHeadRun.head_any (r := RR) (q := view RR.prog [22]) (H := hk) (ob := ob) (M := 4000) (loose := nms) (d := HandSHeadRun.topDef RR.prog 22) (kwd := []) ob_eq
    (by kernel_rfl) (fun s => by kernel_rfl) run (by kernel_rfl) (by kernel_rfl) (by kernel_rfl) (by rfl) (by first | assumption | decide +kernel) (by decide +kernel) ⟨rfl, rfl, rfl, rfl, rfl, by decide +kernel⟩ ?hw ?hc
  case hw => w_witness2
  case hc =>
    refine L2.walk_ofE (l := PySem.Challenge.rw_guestsheld_k89_whole_endless_inns) (n := 63) (k := 10) (x := "script") (CX := L2.CX0) rfl (by decide) (by kernel_rfl) ⟨rfl, by decide, by decide⟩ ?F (fun _ _ _ _ z => z)
    intro w mg fa h Y G hmg0
    obtain ⟨K, KX, c, nl⟩ := Y
    have hmg : mg ("law" : PySem.Str) = some (.ref fa) := by
      have e : (HandSHeadRun.topDef RR.prog 22).name = ("law" : PySem.Str) := by kernel_rfl
      rw [← e]
      exact hmg0
    obtain ⟨T⟩ := facts KX G c
    have ea := T.g_law.symm.trans hmg
    injection ea with ea
    injection ea with ea
    subst ea
    exact ⟨K, T.d_law, spD K mg false 1 m_law, KX, fun s v => FunD.bindsA (ps := ["script"]) T.F_law (fun _ _ _ _ _ _ us hl => match us, hl with | [_], _ => rfl) s [v] rfl, fun H a ns hl hO hS => law_in nl hm hl hO hS, fun base _ _ => ok_law T⟩
end K89

set_option Elab.async false
set_option linter.all false
set_option maxRecDepth 100000
set_option maxHeartbeats 4000000
/-! k89: the plain law -/
namespace K89
open PySem FL FL.Com
abbrev I (i : Int) : Option C := some (.d (.int i))
theorem was_in_eq (m r room : Int) (hm : 0 < m) (h64 : m.natAbs < 2 ^ 64) : m_was_in [some (.d (.tuple [.int m, .int r])), I room] = .ok (.d (if m ≤ room - r ∧ (room - r) % m = 0 then .int ((room - r) / m) else .none)) [none, none] := by
  by_cases h1 : m ≤ room - r
  · by_cases h2 : (room - r) % m = 0 <;> simp [m_was_in, b_was_in, h1, h2, hm, h64]
  · simp [m_was_in, b_was_in, h1]
theorem free_room_eq (m r k : Int) (hm : 0 < m) (hk : k.natAbs < 2 ^ 400) (h64 : m.natAbs < 2 ^ 64) : m_free_room [some (.d (.tuple [.int m, .int r])), I k] =
    .ok (.d (if k < m + r then .int k else if m = 1 then .none else .int (m + r + (k - (m + r)) / (m - 1) * m + (k - (m + r)) % (m - 1) + 1))) [none, none] := by
  by_cases h1 : k < m + r
  · simp [m_free_room, b_free_room, h1]
  · by_cases h2 : m = 1
    · subst h2; simp [m_free_room, b_free_room, h1]
    · have h3 : 0 < m - 1 := by omega
      have h4 : (m - 1).natAbs < 2 ^ 64 := by omega
      have h5 := divOk_of (k - (m + r)) (m - 1) h3 h4
      simp [m_free_room, b_free_room, h1, h2, h5, h64]
theorem by_diagonals_eq (c s : Int) (hc : c.natAbs < 2 ^ 400) (hs : s.natAbs < 2 ^ 400) : m_by_diagonals [I c, I s] = .ok (.d (.int ((c + s - 2) * (c + s - 1) / 2 + c))) [none, none] := by
  have h := mulOk_bits (a := c + s - 2) (b := c + s - 1) 402 402 (by omega) (by omega) (by decide)
  simp [m_by_diagonals, b_by_diagonals, h]
theorem root_eq (n : Int) (h0 : 0 ≤ n) (hb : n.natAbs < 2 ^ 1000) : ∃ r : Int, m_root_of [I n] = .ok (.d (.int r)) [none] ∧ 0 ≤ r ∧ r * r ≤ n ∧ n < (r + 1) * (r + 1) := by
  have mo : ∀ h : Int, 0 ≤ h → h ≤ 2 * n + 1 → mulOk h h = true := fun h h1 h2 => mulOk_bits 1002 1002 (by omega) (by omega) (by decide)
  obtain ⟨σ1, e1, h, hσ, h1, h2, h3⟩ := while_run (T := w_root_of_1) (B := l_root_of_1) (fun σ => ∃ h : Int, σ = [I n, I 0, I h, none] ∧ 1 ≤ h ∧ h ≤ 2 * n + 1) (fun σ => match σ with | [_, _, some (.d (.int h)), _] => (n + 1 - h).toNat | _ => 0)
    (fun σ => ∃ h : Int, σ = [I n, I 0, I h, none] ∧ 1 ≤ h ∧ h ≤ 2 * n + 1 ∧ n < h * h) (fun σ ⟨h, hs, h1, h2⟩ => by
      subst hs
      have hm := mo h (by omega) h2
      by_cases hc : h * h ≤ n
      · have hn : h ≤ n := by
          have : h * 1 ≤ h * h := Int.mul_le_mul_of_nonneg_left h1 (by omega)
          omega
        refine .inr ⟨[I n, I 0, I h, none], by simp [w_root_of_1, hm, hc], [I n, I 0, I (h * 2), none], .inl (by simp [l_root_of_1]), ⟨h * 2, rfl, by omega, by omega⟩, ?_⟩
        show (n + 1 - h * 2).toNat < (n + 1 - h).toNat
        omega
      · exact .inl ⟨[I n, I 0, I h, none], by simp [w_root_of_1, hm, hc], h, rfl, h1, h2, by omega⟩) _ [I n, I 0, I 1, none] (Nat.le_refl _) ⟨1, rfl, by omega, by omega⟩
  subst hσ
  obtain ⟨σ2, e2, lo, hi, c, hσ, l0, l1, l2, l3⟩ := while_run (T := w_root_of_2) (B := l_root_of_2) (fun σ => ∃ (lo hi : Int) (c : Option C), Fr c ∧ σ = [I n, I lo, I hi, c] ∧ 0 ≤ lo ∧ lo < hi ∧ hi ≤ 2 * n + 1 ∧ lo * lo ≤ n ∧ n < hi * hi) (fun σ => match σ with | [_, some (.d (.int lo)), some (.d (.int hi)), _] => (hi - lo).toNat | _ => 0)
    (fun σ => ∃ (lo hi : Int) (c : Option C), σ = [I n, I lo, I hi, c] ∧ 0 ≤ lo ∧ hi = lo + 1 ∧ lo * lo ≤ n ∧ n < hi * hi) (fun σ ⟨lo, hi, c, hc, hs, q0, q1, q2, q3, q4⟩ => by
      subst hs
      by_cases hd : 1 < hi - lo
      · have hm := mo ((lo + hi) / 2) (by omega) (by omega)
        by_cases hk : (lo + hi) / 2 * ((lo + hi) / 2) ≤ n
        · refine .inr ⟨[I n, I lo, I hi, c], by simp [w_root_of_2, hd], [I n, I ((lo + hi) / 2), I hi, I ((lo + hi) / 2)], .inl (by rcases hc with rfl | ⟨x, rfl⟩ <;> simp [l_root_of_2, hm, hk]), ⟨_, _, _, Fr.d, rfl, by omega, by omega, q2, hk, q4⟩, ?_⟩
          show (hi - (lo + hi) / 2).toNat < (hi - lo).toNat
          omega
        · refine .inr ⟨[I n, I lo, I hi, c], by simp [w_root_of_2, hd], [I n, I lo, I ((lo + hi) / 2), I ((lo + hi) / 2)], .inl (by rcases hc with rfl | ⟨x, rfl⟩ <;> simp [l_root_of_2, hm, hk]), ⟨_, _, _, Fr.d, rfl, q0, by omega, by omega, q3, by omega⟩, ?_⟩
          show ((lo + hi) / 2 - lo).toNat < (hi - lo).toNat
          omega
      · exact .inl ⟨[I n, I lo, I hi, c], by simp [w_root_of_2, hd], lo, hi, c, rfl, q0, by omega, q3, q4⟩) _ [I n, I 0, I h, none] (Nat.le_refl _) ⟨0, h, none, .none, rfl, by omega, by omega, h2, by omega, h3⟩
  subst hσ
  refine ⟨lo, ?_, l0, l2, by rw [← l1]; exact l3⟩
  simp [m_root_of, b_root_of, e1, e2]
/-- the root's bounds tell the diagonal -/
theorem diag (room r : Int) (h0 : 1 ≤ room) (hr : 0 ≤ r) (h1 : r * r ≤ 8 * room - 7) (h2 : 8 * room - 7 < (r + 1) * (r + 1)) : ∃ w t : Int, (r - 1) / 2 = w ∧ 0 ≤ w ∧ w * (w + 1) = 2 * t ∧ 1 ≤ room - t ∧ room - t ≤ w + 1 := by
  have hr1 : 1 ≤ r := by
    by_cases h : r = 0
    · subst h; omega
    · omega
  have hw : r = 2 * ((r - 1) / 2) + 1 ∨ r = 2 * ((r - 1) / 2) + 2 := by omega
  generalize he : (r - 1) / 2 = w at hw
  have hw0 : 0 ≤ w := by omega
  have ht : ∃ t, w * (w + 1) = 2 * t := by
    rcases (by omega : w % 2 = 0 ∨ w % 2 = 1) with h | h
    · have h' : w = 2 * (w / 2) := by omega
      exact ⟨w / 2 * (w + 1), by generalize w / 2 = z at h'; subst h'; grind⟩
    · have h' : w + 1 = 2 * ((w + 1) / 2) := by omega
      exact ⟨w * ((w + 1) / 2), by generalize (w + 1) / 2 = z at h'; rw [h']; grind⟩
  obtain ⟨t, ht⟩ := ht
  have hww : w * w = 2 * t - w := by grind
  refine ⟨w, t, rfl, hw0, ht, ?_, ?_⟩
  · have : r * r ≥ 4 * (w * w) + 4 * w + 1 := by
      rcases hw with h | h <;> subst h <;> grind
    omega
  · have : (r + 1) * (r + 1) ≤ 4 * (w * w) + 12 * w + 9 := by
      rcases hw with h | h <;> subst h <;> grind
    omega
theorem on_diagonal_eq (room : Int) (h0 : 1 ≤ room) (hb : room.natAbs < 2 ^ 900) : ∃ w t : Int, 0 ≤ w ∧ w * (w + 1) = 2 * t ∧ 1 ≤ room - t ∧ room - t ≤ w + 1 ∧ m_on_diagonal [I room] = .ok (.d (.tuple [.int (room - t), .int (w + 2 - (room - t))])) [none] := by
  obtain ⟨r, e, h1, h2, h3⟩ := root_eq (8 * room - 7) (by omega) (by omega)
  obtain ⟨w, t, q1, q2, q3, q4, q5⟩ := diag room r h0 h1 h2 h3
  have hr : r ≤ 8 * room := by
    by_cases h : r = 0
    · omega
    · have : r * 1 ≤ r * r := Int.mul_le_mul_of_nonneg_left (by omega) (by omega)
      omega
  have hm := mulOk_bits (a := w) (b := w + 1) 910 910 (by omega) (by omega) (by decide)
  have hd : w * (w + 1) / 2 = t := by omega
  refine ⟨w, t, q2, q3, q4, q5, ?_⟩
  simp [m_on_diagonal, b_on_diagonal, e, q1, hm, hd]
end K89

set_option Elab.async false
set_option linter.all false
set_option maxRecDepth 100000
set_option exponentiation.threshold 2000
set_option maxHeartbeats 4000000
/-! k89: the plain law, part 2 -/
namespace K89
open PySem FL FL.Com
theorem by_powers_eq (c s : Int) (hc : 1 ≤ c) (hc2 : c ≤ 100000) : m_by_powers [I c, I s] = .ok (.d (.int ((2 * s - 1) * 2 ^ (c - 1).toNat))) [none, none] := by
  obtain ⟨σ1, e1, v, hv, hσ⟩ := for_run (g := gN 3) (B := l_by_powers_1) (ds := rngL 0 (c - 1).toNat) (σ := [I c, I s, I (2 * s - 1), none]) (fun i σ => ∃ v, Fr v ∧ σ = [I c, I s, I ((2 * s - 1) * 2 ^ i), v]) ⟨none, .none, by simp⟩ fun i d σ hd ⟨v, hv, hs⟩ => by
    subst hs
    refine ⟨[I c, I s, I ((2 * s - 1) * 2 ^ i), some (.d d)], by rcases hv with rfl | ⟨x, rfl⟩ <;> simp, [I c, I s, I ((2 * s - 1) * 2 ^ i * 2), some (.d d)], .inl (by simp [l_by_powers_1]), some (.d d), Fr.d, ?_⟩
    rw [Int.pow_succ, Int.mul_assoc]
  subst hσ
  have hl : (rngL 0 (c - 1).toNat).length = (c - 1).toNat := by simp [rngL]
  rw [hl] at e1
  have ht : (c - 1).toNat = c.toNat - 1 := by omega
  rw [ht] at e1 ⊢
  have hr : rOk (c - 1) := ⟨by omega, by omega⟩
  simp [m_by_powers, b_by_powers, hr, e1]
theorem of_power_eq (m : Int) (k : Nat) (hm : 1 ≤ m) (ho : m % 2 = 1) : m_of_power [I (m * 2 ^ k)] = .ok (.d (.tuple [.int (k + 1), .int ((m + 1) / 2)])) [none] := by
  obtain ⟨σ1, e1, hσ⟩ := while_run (T := w_of_power_1) (B := l_of_power_1) (fun σ => ∃ j : Nat, j ≤ k ∧ σ = [I (m * 2 ^ j), I ((k : Int) - j + 1)]) (fun σ => match σ with | [some (.d (.int r)), _] => r.toNat | _ => 0) (fun σ => σ = [I m, I ((k : Int) + 1)]) (fun σ ⟨j, hj, hs⟩ => by
      subst hs
      cases j with
      | zero => exact .inl ⟨[I m, I ((k : Int) + 1)], by simp [w_of_power_1, ho], rfl⟩
      | succ j =>
        have e : m * 2 ^ (j + 1) = m * 2 ^ j * 2 := by rw [Int.pow_succ, Int.mul_assoc]
        have h2 : (1 : Int) ≤ 2 ^ j := by have := Int.pow_pos (n := 2) (m := j) (by decide); omega
        have hp : 1 ≤ m * 2 ^ j := by
          have : m * 1 ≤ m * 2 ^ j := Int.mul_le_mul_of_nonneg_left h2 (by omega)
          omega
        rw [e]
        generalize hz : m * 2 ^ j = z at hp
        refine .inr ⟨[I (z * 2), I ((k : Int) - ((j + 1 : Nat) : Int) + 1)], by simp [w_of_power_1], [I z, I ((k : Int) - (j : Int) + 1)], .inl ?_, ⟨j, by omega, by rw [hz]⟩, ?_⟩
        · have : (k : Int) - ((j : Int) + 1) + 1 + 1 = (k : Int) - j + 1 := by omega
          simp [l_of_power_1, this]
        · show z.toNat < (z * 2).toNat
          omega) _ [I (m * 2 ^ k), I 1] (Nat.le_refl _) ⟨k, Nat.le_refl _, by simp⟩
  subst hσ
  simp [m_of_power, b_of_power, e1]
theorem take3 (ds : List Int) : takeX ds 3 = 0 ∨ takeX ds 3 = 1 ∨ takeX ds 3 = 2 := by
  have := takeX_pos ds (b := 3) (by decide)
  have := takeX_lt ds (b := 3) (by decide)
  omega
theorem take2 (ds : List Int) : takeX ds 2 = 0 ∨ takeX ds 2 = 1 := by
  have := takeX_pos ds (b := 2) (by decide)
  have := takeX_lt ds (b := 2) (by decide)
  omega
abbrev L (ds : List Int) : Option C := some (.l .par (iL ds))
theorem great_ok (ds : List Int) : ∃ (v : Int) (ds' : List Int), 1 ≤ v ∧ v.natAbs < 2 ^ 399 ∧ m__law_great [L ds] = .ok (.d (.int v)) [L ds'] := by
  have loop : ∀ (n : Nat) (v0 : Int) (ds : List Int), n ≤ 30 → 1 ≤ v0 → v0 ≤ 60 → ∃ σ', forL (gN 2) l__law_great_1 (rngL 0 n) [L ds, I v0, none] = .nx σ' ∧ ∃ (v : Int) (ds' : List Int) (c : Option C), 1 ≤ v ∧ v.natAbs < 2 ^ 399 ∧ σ' = [L ds', I v, c] := by
    intro n v0 ds hn h1 h2
    obtain ⟨σ', e, v, ds', c, _, q1, q2, q3⟩ := for_run (g := gN 2) (B := l__law_great_1) (ds := rngL 0 n) (σ := [L ds, I v0, none]) (fun i σ => ∃ (v : Int) (ds' : List Int) (c : Option C), Fr c ∧ 1 ≤ v ∧ v < 61 * 1000 ^ i ∧ σ = [L ds', I v, c]) ⟨v0, ds, none, .none, h1, by simp; omega, rfl⟩
      fun i d σ hd ⟨v, ds', c, hc, q1, q2, q3⟩ => by
        subst q3
        have hk : (0 : Int) < 1000 := by decide
        have t1 := takeX_pos ds' (b := 1000) (by decide)
        have t2 := takeX_lt ds' (b := 1000) (by decide)
        refine ⟨[L ds', I v, some (.d d)], by rcases hc with rfl | ⟨x, rfl⟩ <;> simp, [L ds'.dropLast, I (v * 1000 + takeX ds' 1000), some (.d d)], .inl ?_, _, _, _, Fr.d, by omega, ?_, rfl⟩
        · simp [l__law_great_1, take_eq _ 1000 hk]
        · rw [Int.pow_succ]
          generalize (1000 : Int) ^ i = z at q2
          omega
    refine ⟨σ', e, v, ds', c, q1, ?_, q3⟩
    have hl : (rngL 0 n).length = n := by simp [rngL]
    rw [hl] at q2
    have h3 : (1000 : Int) ^ n ≤ 1000 ^ 30 := by
      have : (1000 : Nat) ^ n ≤ 1000 ^ 30 := Nat.pow_le_pow_right (by decide) hn
      exact_mod_cast this
    have h4 : (61 : Int) * 1000 ^ 30 < 2 ^ 399 := by decide
    omega
  have t1 := takeX_pos ds (b := 60) (by decide)
  have t2 := takeX_lt ds (b := 60) (by decide)
  obtain ⟨n, hn, hx⟩ : ∃ n : Nat, n ≤ 30 ∧ L2.atI [PyData.int 0, PyData.int 3, PyData.int 30] (takeX ds.dropLast 3) = some (.int n) := by
    rcases take3 ds.dropLast with h | h | h <;> rw [h]
    · exact ⟨0, by decide, rfl⟩
    · exact ⟨3, by decide, rfl⟩
    · exact ⟨30, by decide, rfl⟩
  obtain ⟨σ', e, v, ds', c, q1, q2, q3⟩ := loop n (1 + takeX ds 60) ds.dropLast.dropLast hn (by omega) (by omega)
  subst q3
  refine ⟨v, ds', q1, q2, ?_⟩
  have hr : rOk (n : Int) := ⟨by omega, by omega⟩
  have hr2 : ((n : Int)).toNat = n := by omega
  simp [-List.map_dropLast, m__law_great, b__law_great, take_eq, hx, hr, e]
end K89

set_option Elab.async false
set_option linter.all false
set_option maxRecDepth 100000
set_option maxHeartbeats 4000000
set_option exponentiation.threshold 2000
/-! k89: the plain law, part 3 -/
namespace K89
open PySem FL FL.Com
abbrev pk (p : Int × Int) : D := .tuple [.int p.1, .int p.2]
def good (p : Int × Int) : Prop := 1 ≤ p.1 ∧ p.1 ≤ 1000 ∧ 0 ≤ p.2 ∧ p.2 ≤ 1000
theorem is_shift_eq (p : Int × Int) (h : good p) : m_is_shift [some (.d (pk p))] = .ok (.d (.bool true)) [none] := by
  obtain ⟨h1, h2, h3, h4⟩ := h
  have e1 : isNum (.int p.1) 1 1000 = true := by simp [isNum, h1, h2]
  have e2 : isNum (.int p.2) 0 1000 = true := by simp [isNum, h3, h4]
  have f1 := is_number_eq (.int p.1) 1 1000 rfl
  have f2 := is_number_eq (.int p.2) 0 1000 rfl
  rw [e1] at f1
  rw [e2] at f2
  simp [m_is_shift, b_is_shift, f1, f2]
theorem pick (ds : List Int) (a b : Int) : ∃ c, (c = a ∨ c = b) ∧ L2.atI [PyData.int a, PyData.int b] (takeX ds 2) = some (.int c) := by
  rcases take2 ds with h | h <;> rw [h]
  · exact ⟨a, .inl rfl, rfl⟩
  · exact ⟨b, .inr rfl, rfl⟩
theorem e1_ok (ds : List Int) (r : S) : ∃ (p : Int × Int) (ds' : List Int), good p ∧ e__law_shifts_1 (L ds :: r) = .ok (.d (pk p)) (L ds' :: r) := by
  obtain ⟨c, hc, e1⟩ := pick ds 4 1000
  obtain ⟨d, hd, e2⟩ := pick ds.dropLast.dropLast 5 1001
  have c0 : 0 < c := by omega
  have d0 : 0 < d := by omega
  have t1 := takeX_pos ds.dropLast c0
  have t2 := takeX_lt ds.dropLast c0
  have t3 := takeX_pos ds.dropLast.dropLast.dropLast d0
  have t4 := takeX_lt ds.dropLast.dropLast.dropLast d0
  refine ⟨(1 + takeX ds.dropLast c, takeX ds.dropLast.dropLast.dropLast d), ds.dropLast.dropLast.dropLast.dropLast, ⟨by simp; omega, by simp; omega, by simp; omega, by simp; omega⟩, ?_⟩
  simp [-List.map_dropLast, e__law_shifts_1, take_eq, e1, e2, c0, d0]
def runN (ps : List (Int × Int)) (n : Int) : Int := ps.foldl (fun n p => p.1 * n + p.2) n
def runT (ps : List (Int × Int)) (t : Int) : Int := ps.foldl (fun t p => p.1 * t) t
theorem run_law (ps : List (Int × Int)) : ∀ (t m room : Int), runN ps (t * room + m) = runT ps t * room + runN ps m := by
  induction ps with
  | nil => intro t m room; rfl
  | cons p ps ih =>
    intro t m room
    show runN ps (p.1 * (t * room + m) + p.2) = runT ps (p.1 * t) * room + runN ps (p.1 * m + p.2)
    rw [← ih]
    congr 1
    rw [Int.mul_add, Int.mul_assoc, Int.add_assoc]
theorem runT_le (ps : List (Int × Int)) : ∀ (t : Int), (∀ p ∈ ps, good p) → 1 ≤ t → 1 ≤ runT ps t ∧ runT ps t ≤ 1000 ^ ps.length * t := by
  induction ps with
  | nil => intro t _ h; simp [runT, h]
  | cons p ps ih =>
    intro t hg h
    obtain ⟨h1, h2, _, _⟩ := hg p List.mem_cons_self
    have q1 : 1 * t ≤ p.1 * t := Int.mul_le_mul_of_nonneg_right h1 (by omega)
    have q2 : p.1 * t ≤ 1000 * t := Int.mul_le_mul_of_nonneg_right h2 (by omega)
    obtain ⟨i1, i2⟩ := ih (p.1 * t) (fun q hq => hg q (List.mem_cons_of_mem _ hq)) (by omega)
    refine ⟨i1, ?_⟩
    show runT ps (p.1 * t) ≤ 1000 ^ (ps.length + 1) * t
    have hp : (0 : Int) ≤ 1000 ^ ps.length := Int.le_of_lt (Int.pow_pos (by decide))
    have q3 : (1000 : Int) ^ ps.length * (p.1 * t) ≤ 1000 ^ ps.length * (1000 * t) := Int.mul_le_mul_of_nonneg_left q2 hp
    rw [Int.pow_succ, Int.mul_assoc]
    omega
theorem good_64 {p : Int × Int} (h : good p) : p.1.natAbs < 2 ^ 64 := by
  obtain ⟨h1, h2, _, _⟩ := h
  omega
theorem pk_get {ps : List (Int × Int)} {i : Nat} {d : D} (h : (ps.map pk)[i]? = some d) : ∃ p, ps[i]? = some p ∧ d = pk p := by
  rw [List.getElem?_map] at h
  obtain ⟨n, h1, h2⟩ := Option.map_eq_some_iff.mp h
  exact ⟨n, h1, h2.symm⟩
theorem take_snoc {α : Type} {l : List α} {i : Nat} {x : α} (h : l[i]? = some x) : l.take (i + 1) = l.take i ++ [x] := by
  rw [List.take_add_one, h]; rfl
theorem shifted_eq (ps : List (Int × Int)) (hg : ∀ p ∈ ps, good p) (room : Int) : m_shifted [some (.d (.tuple (ps.map pk))), I room] = .ok (.d (.int (runN ps room))) [none, none] := by
  obtain ⟨σ', e, a, b, _, _, hs⟩ := for_run (g := gT [gN 2, gN 3]) (B := l_shifted_1) (ds := ps.map pk) (σ := [some (.d (.tuple (ps.map pk))), I room, none, none]) (fun i σ => ∃ a b, Fr a ∧ Fr b ∧ σ = [some (.d (.tuple (ps.map pk))), I (runN (ps.take i) room), a, b]) ⟨none, none, .none, .none, rfl⟩
    fun i d σ hd ⟨a, b, ha, hb, hs⟩ => by
      obtain ⟨p, hp, rfl⟩ := pk_get hd
      have gp := good_64 (hg p (List.mem_of_getElem? hp))
      subst hs
      refine ⟨[some (.d (.tuple (ps.map pk))), I (runN (ps.take i) room), I p.1, I p.2], by rcases ha with rfl | ⟨x, rfl⟩ <;> rcases hb with rfl | ⟨y, rfl⟩ <;> simp, [some (.d (.tuple (ps.map pk))), I (p.1 * runN (ps.take i) room + p.2), I p.1, I p.2], .inl (by simp [l_shifted_1, gp]), I p.1, I p.2, Fr.d, Fr.d, ?_⟩
      rw [take_snoc hp]
      simp [runN]
  rw [List.length_map, List.take_length] at hs
  subst hs
  simp [m_shifted, b_shifted, e]
theorem as_one_eq (ps : List (Int × Int)) (hg : ∀ p ∈ ps, good p) : m_as_one [some (.d (.tuple (ps.map pk)))] = .ok (.d (.tuple [.int (runT ps 1), .int (runN ps 0)])) [none] := by
  obtain ⟨σ', e, a, b, _, _, hs⟩ := for_run (g := gT [gN 3, gN 4]) (B := l_as_one_1) (ds := ps.map pk) (σ := [some (.d (.tuple (ps.map pk))), I 1, I 0, none, none]) (fun i σ => ∃ a b, Fr a ∧ Fr b ∧ σ = [some (.d (.tuple (ps.map pk))), I (runT (ps.take i) 1), I (runN (ps.take i) 0), a, b]) ⟨none, none, .none, .none, rfl⟩
    fun i d σ hd ⟨a, b, ha, hb, hs⟩ => by
      obtain ⟨p, hp, rfl⟩ := pk_get hd
      have gp := good_64 (hg p (List.mem_of_getElem? hp))
      subst hs
      refine ⟨[some (.d (.tuple (ps.map pk))), I (runT (ps.take i) 1), I (runN (ps.take i) 0), I p.1, I p.2], by rcases ha with rfl | ⟨x, rfl⟩ <;> rcases hb with rfl | ⟨y, rfl⟩ <;> simp, [some (.d (.tuple (ps.map pk))), I (p.1 * runT (ps.take i) 1), I (p.1 * runN (ps.take i) 0 + p.2), I p.1, I p.2], .inl (by simp [l_as_one_1, gp]), I p.1, I p.2, Fr.d, Fr.d, ?_⟩
      rw [take_snoc hp]
      simp [runN, runT]
  rw [List.length_map, List.take_length] at hs
  subst hs
  simp [m_as_one, b_as_one, e]
/-! free rooms of small shifts -/
def tk (m r : Int) : List Int := (List.range 59).map fun i => m * (1 + (i : Nat)) + r
def frL (m r : Int) : List Int := ((List.range (m * 59 + r - 1).toNat).map fun i : Nat => (1 : Int) + i).filter fun p => !(tk m r).any (· == p)
def frF (m r k : Int) : Int := if k < m + r then k else m + r + (k - (m + r)) / (m - 1) * m + (k - (m + r)) % (m - 1) + 1
def chk (m r : Int) : Bool := (List.range (min (frL m r).length 40)).all fun j => (frL m r)[j]? == some (frF m r (j + 1)) && (m != 1 || decide ((j : Int) + 1 < 1 + r))
theorem chk_all : ∀ m ∈ [(1 : Int), 2, 3, 4], ∀ r ∈ [(0 : Int), 1, 2, 3, 4], chk m r = true := by decide +kernel
theorem chk_of {m r : Int} (h1 : 1 ≤ m) (h2 : m < 5) (h3 : 0 ≤ r) (h4 : r < 5) : chk m r = true := by
  refine chk_all m ?_ r ?_
  · have : m = 1 ∨ m = 2 ∨ m = 3 ∨ m = 4 := by omega
    rcases this with h | h | h | h <;> subst h <;> decide
  · have : r = 0 ∨ r = 1 ∨ r = 2 ∨ r = 3 ∨ r = 4 := by omega
    rcases this with h | h | h | h | h <;> subst h <;> decide
theorem free_small {m r : Int} (h : chk m r = true) {j : Nat} (hj : j < min (frL m r).length 40) : (frL m r)[j]? = some (frF m r (j + 1)) ∧ (m = 1 → (j : Int) + 1 < 1 + r) := by
  unfold chk at h
  have := List.all_eq_true.mp h j (List.mem_range.mpr hj)
  simp only [Bool.and_eq_true, beq_iff_eq, Bool.or_eq_true, bne_iff_ne, decide_eq_true_eq] at this
  refine ⟨this.1, fun hm => ?_⟩
  rcases this.2 with h | h
  · exact absurd hm h
  · exact h
theorem lay_iL (l : List Int) : PyData.canLayAll0 (iL l) = true := by
  induction l with
  | nil => rfl
  | cons x l ih => show (PyData.canLay0 (.int x) && PyData.canLayAll0 (iL l)) = true; rw [ih]; rfl
theorem depth_iL (l : List Int) : PyData.depthAll (iL l) = 0 := by
  induction l with
  | nil => rfl
  | cons x l ih => show max (PyData.depth (.int x)) (PyData.depthAll (iL l)) = 0; rw [ih]; rfl
theorem shaped_iL (l : List Int) : SeqAt.shaped (.list (iL l)) = true := by
  unfold SeqAt.shaped
  rw [show PyData.canLay0 (.list (iL l)) = PyData.canLayAll0 (iL l) from rfl, lay_iL, Bool.true_and, decide_eq_true_iff]
  rw [show PyData.depth (.list (iL l)) = PyData.depthAll (iL l) + 1 from rfl, depth_iL]
  decide
theorem mem_iL (p : Int) (l : List Int) : memD (.int p) (iL l) = l.any (· == p) := by
  unfold memD
  rw [List.any_map]
  rfl
theorem notin_iL (p : Int) (l : List Int) : gNotIn (.int p) (.list (iL l)) = some (.d (.bool (!l.any (· == p)))) := by
  show (if SeqAt.shaped (.int p) = true ∧ SeqAt.shaped (.list (iL l)) = true then some (R.d (.bool (!memD (.int p) (iL l)))) else none) = _
  rw [if_pos ⟨rfl, shaped_iL l⟩, mem_iL]
end K89

set_option Elab.async false
set_option linter.all false
set_option maxRecDepth 100000
set_option maxHeartbeats 4000000
set_option exponentiation.threshold 2000
/-! k89: the plain law, part 4 -/
namespace K89
open PySem FL FL.Com
theorem sm_int (n : Nat) (i : Int) : Sm (n + 1) (.int i) := .int n i
theorem sm_res {i j k : Int} : Sm 8 (.list [.int i, .tuple [.int j, .int k]]) := by
  refine .list 7 _ (by simp) fun d hd => ?_
  simp only [List.mem_cons, List.not_mem_nil, or_false] at hd
  rcases hd with rfl | rfl
  · exact .int 6 i
  · refine .tuple 6 _ (by simp) fun d hd => ?_
    simp only [List.mem_cons, List.not_mem_nil, or_false] at hd
    rcases hd with rfl | rfl
    · exact .int 5 j
    · exact .int 5 k
/-- the first comprehension -/
theorem shifts_ok (ds : List Int) (r : S) : ∃ (ps : List (Int × Int)) (ds' : List Int), (∀ p ∈ ps, good p) ∧ ps.length ≤ 3 ∧
    sSet 1 (eOp1 gTuple (eLc [11] (iRange1 (aCons (eCall m__law_take (mMut (eName 0) (mVal (eC (.int 4)) (mNil)))) (aNil))) (gN 11) (tT) (e__law_shifts_1))) [L ds, none, none, none, none, none, none, none, none, none, none, none, none, none, none] =
      .nx [L ds', some (.d (.tuple (ps.map pk))), none, none, none, none, none, none, none, none, none, none, none, none, none] := by
  have t1 := takeX_pos ds (b := 4) (by decide)
  have t2 := takeX_lt ds (b := 4) (by decide)
  have hr : rOk (takeX ds 4) := ⟨by omega, by omega⟩
  obtain ⟨xs, σ', e, ps, ds', hx, hg, hl, hs⟩ := lc_run (vs := [11]) (g := gN 11) (T := tT) (E := e__law_shifts_1) (ds := rngL 0 (takeX ds 4).toNat) (σ := [L ds.dropLast, none, none, none, none, none, none, none, none, none, none, none, none, none, none])
    (fun i σ acc => ∃ (ps : List (Int × Int)) (ds' : List Int), acc = ps.map pk ∧ (∀ p ∈ ps, good p) ∧ ps.length = i ∧ σ = [L ds', none, none, none, none, none, none, none, none, none, none, none, none, none, none]) ⟨[], ds.dropLast, rfl, fun _ h => (by cases h), rfl, rfl⟩
    fun i d σ acc hd ⟨ps, ds', hx, hg, hl, hs⟩ => by
      subst hs hx
      obtain ⟨p, ds2, hp, e⟩ := e1_ok ds' [none, none, none, none, none, none, none, none, none, none, some (.d d), none, none, none]
      refine ⟨[L ds', none, none, none, none, none, none, none, none, none, none, some (.d d), none, none, none], by simp, .inr ⟨_, pk p, [L ds2, none, none, none, none, none, none, none, none, none, none, some (.d d), none, none, none], rfl, by rw [e]; simp, ps ++ [p], ds2, by simp, fun q hq => ?_, by simp [hl], by simp⟩⟩
      rcases List.mem_append.mp hq with h | h
      · exact hg q h
      · rw [List.mem_singleton.mp h]; exact hp
  subst hx hs
  have hl2 : (rngL 0 (takeX ds 4).toNat).length = (takeX ds 4).toNat := by simp [rngL]
  rw [hl2] at hl
  have hl3 : ps.length ≤ 3 := by omega
  have hl4 : ps.length ≤ 16777216 := by omega
  refine ⟨ps, ds', hg, hl3, ?_⟩
  simp [-List.map_dropLast, take_eq, hr, e, hl4]
theorem none_bad (ps : List (Int × Int)) (hg : ∀ p ∈ ps, good p) (a : C) (r2 r3 r4 r5 r6 r7 r9 r10 r11 r12 r13 r14 r15 : Option C) :
    lcL [8] (gN 8) t__law_shifts_1 e__law_shifts_2 (ps.map pk) [some a, r2, r3, r4, r5, r6, r7, r9, none, r10, r11, r12, r13, r14, r15] = .ok [] [some a, r2, r3, r4, r5, r6, r7, r9, none, r10, r11, r12, r13, r14, r15] := by
  refine lc_none _ fun d hd => ?_
  obtain ⟨p, hp, rfl⟩ := List.mem_map.mp hd
  have e := is_shift_eq p (hg p hp)
  have e2 := says_bool true true
  refine ⟨[some a, r2, r3, r4, r5, r6, r7, r9, some (.d (pk p)), r10, r11, r12, r13, r14, r15], [some a, r2, r3, r4, r5, r6, r7, r9, some (.d (pk p)), r10, r11, r12, r13, r14, r15], by simp, ?_, by simp⟩
  simp [t__law_shifts_1, e, e2]
theorem run_ok (ps : List (Int × Int)) (hg : ∀ p ∈ ps, good p) (a : Option C) (room : Int) : ∃ x y, Fr x ∧ Fr y ∧ forL (gT [gN 6, gN 7]) l__law_shifts_1 (ps.map pk) [a, some (.d (.tuple (ps.map pk))), I room, I room, I 1, I 0, none, none, none, none, none, none, none, none, none] =
    .nx [a, some (.d (.tuple (ps.map pk))), I room, I (runN ps room), I (runT ps 1), I (runN ps 0), x, y, none, none, none, none, none, none, none] := by
  obtain ⟨σ', e, x, y, hx, hy, hs⟩ := for_run (g := gT [gN 6, gN 7]) (B := l__law_shifts_1) (ds := ps.map pk) (σ := [a, some (.d (.tuple (ps.map pk))), I room, I room, I 1, I 0, none, none, none, none, none, none, none, none, none])
    (fun i σ => ∃ x y, Fr x ∧ Fr y ∧ σ = [a, some (.d (.tuple (ps.map pk))), I room, I (runN (ps.take i) room), I (runT (ps.take i) 1), I (runN (ps.take i) 0), x, y, none, none, none, none, none, none, none]) ⟨none, none, .none, .none, rfl⟩
    fun i d σ hd ⟨x, y, hx, hy, hs⟩ => by
      obtain ⟨p, hp, rfl⟩ := pk_get hd
      have gp := good_64 (hg p (List.mem_of_getElem? hp))
      subst hs
      refine ⟨[a, some (.d (.tuple (ps.map pk))), I room, I (runN (ps.take i) room), I (runT (ps.take i) 1), I (runN (ps.take i) 0), I p.1, I p.2, none, none, none, none, none, none, none], by rcases hx with rfl | ⟨_, rfl⟩ <;> rcases hy with rfl | ⟨_, rfl⟩ <;> simp,
        [a, some (.d (.tuple (ps.map pk))), I room, I (p.1 * runN (ps.take i) room + p.2), I (runT (ps.take i) 1 * p.1), I (runN (ps.take i) 0 * p.1 + p.2), I p.1, I p.2, none, none, none, none, none, none, none], .inl (by simp [l__law_shifts_1, gp]), I p.1, I p.2, Fr.d, Fr.d, ?_⟩
      rw [take_snoc hp]
      simp [runN, runT, Int.mul_comm]
  rw [List.length_map, List.take_length] at hs
  subst hs
  exact ⟨x, y, hx, hy, e⟩
end K89

set_option Elab.async false
set_option linter.all false
set_option maxRecDepth 100000
set_option maxHeartbeats 8000000
set_option exponentiation.threshold 2000
/-! k89: the plain law, part 5 -/
namespace K89
open PySem FL FL.Com
theorem taken_ok (m r : Int) (h64 : m.natAbs < 2 ^ 64) (a b c d e f g h : Option C) : lcL [14] (gN 14) tT e__law_shifts_3 (rngL 1 59) [a, b, c, d, e, f, g, h, some (.d (pk (m, r))), none, none, none, none, none, none] = .ok (iL (tk m r)) [a, b, c, d, e, f, g, h, some (.d (pk (m, r))), none, none, none, none, none, none] := by
  have e := lc_map (vs := [14]) (g := gN 14) (T := tT) (E := e__law_shifts_3) (σ := [a, b, c, d, e, f, g, h, some (.d (pk (m, r))), none, none, none, none, none, none]) (fun _ => true) (fun d => match d with | .int g => .int (m * g + r) | _ => .none) (rngL 1 59) fun x hx => by
    obtain ⟨i, hi, rfl⟩ := rng_mem hx
    refine ⟨[a, b, c, d, e, f, g, h, some (.d (pk (m, r))), none, none, none, none, none, I (1 + i)], [a, b, c, d, e, f, g, h, some (.d (pk (m, r))), none, none, none, none, none, I (1 + i)], by simp, by simp, by simp, fun _ => ⟨[a, b, c, d, e, f, g, h, some (.d (pk (m, r))), none, none, none, none, none, I (1 + i)], by simp [e__law_shifts_3, h64], by simp⟩⟩
  rw [e]
  have : ((rngL 1 59).filter fun _ => true) = rngL 1 59 := List.filter_eq_self.mpr fun _ _ => rfl
  rw [this]
  congr 1
theorem free_ok (m r : Int) (h1 : 1 ≤ m) (h2 : m < 5) (h3 : 0 ≤ r) (h4 : r < 5) (a b c d e f g h : Option C) : lcL [12] (gN 12) t__law_shifts_2 e__law_shifts_4 (rngL 1 (m * 59 + r - 1).toNat) [a, b, c, d, e, f, g, h, some (.d (pk (m, r))), some (.l .own (iL (tk m r))), none, none, none, none, none] =
    .ok (iL (frL m r)) [a, b, c, d, e, f, g, h, some (.d (pk (m, r))), some (.l .own (iL (tk m r))), none, none, none, none, none] := by
  have e := lc_map (vs := [12]) (g := gN 12) (T := t__law_shifts_2) (E := e__law_shifts_4) (σ := [a, b, c, d, e, f, g, h, some (.d (pk (m, r))), some (.l .own (iL (tk m r))), none, none, none, none, none]) (fun d => match d with | .int p => !(tk m r).any (· == p) | _ => false) (fun d => d) (rngL 1 (m * 59 + r - 1).toNat) fun x hx => by
    obtain ⟨i, hi, rfl⟩ := rng_mem hx
    have hn := notin_iL (1 + i) (tk m r)
    refine ⟨[a, b, c, d, e, f, g, h, some (.d (pk (m, r))), some (.l .own (iL (tk m r))), none, none, I (1 + i), none, none], [a, b, c, d, e, f, g, h, some (.d (pk (m, r))), some (.l .own (iL (tk m r))), none, none, I (1 + i), none, none], by simp, ?_, fun _ => by simp, fun _ => ⟨[a, b, c, d, e, f, g, h, some (.d (pk (m, r))), some (.l .own (iL (tk m r))), none, none, I (1 + i), none, none], by simp [e__law_shifts_4], by simp⟩⟩
    generalize tk m r = l at hn
    simp [t__law_shifts_2, hn]
  rw [e]
  congr 1
  unfold frL rngL iL
  rw [List.map_id']
  generalize (m * 59 + r - 1).toNat = n
  generalize tk m r = l
  induction List.range n with
  | nil => rfl
  | cons x xs ih =>
    rw [List.map_cons, List.map_cons]
    by_cases hx : (!l.any (· == (1 : Int) + x)) = true
    · rw [List.filter_cons_of_pos (by exact hx), List.filter_cons_of_pos (by exact hx), List.map_cons, ih]
    · rw [List.filter_cons_of_neg (by exact hx), List.filter_cons_of_neg (by exact hx), ih]
theorem last_tk (m r : Int) : L2.atI (iL (tk m r)) (-1) = some (.int (m * 59 + r)) := by
  simp [L2.atI, L2.ixN, tk]
theorem int_self (i : Int) : m__law_alike 8 [I i, I i] = .ok (.d (.bool true)) [none, none] := alike_self 8 _ (.int 7 i)
/-- the told free rooms are the free rooms -/
theorem told_ok (m r : Int) (fr : List Int) (h1 : 1 ≤ m) (h3 : 0 ≤ r) (h64 : m.natAbs < 2 ^ 64) (hf : fr = [] ∨ (fr = frL m r ∧ chk m r = true)) (a b c d e f g h t : Option C) : ∃ k, Fr k ∧
    forL (gN 11) l__law_shifts_2 (rngL 1 (min fr.length 40)) [a, b, c, d, e, f, g, h, some (.d (pk (m, r))), t, some (.l .own (iL fr)), none, none, none, none] = .nx [a, b, c, d, e, f, g, h, some (.d (pk (m, r))), t, some (.l .own (iL fr)), k, none, none, none] := by
  obtain ⟨σ', e', k, hk, hs⟩ := for_run (g := gN 11) (B := l__law_shifts_2) (ds := rngL 1 (min fr.length 40)) (σ := [a, b, c, d, e, f, g, h, some (.d (pk (m, r))), t, some (.l .own (iL fr)), none, none, none, none])
    (fun i σ => ∃ k, Fr k ∧ σ = [a, b, c, d, e, f, g, h, some (.d (pk (m, r))), t, some (.l .own (iL fr)), k, none, none, none]) ⟨none, .none, rfl⟩
    fun i x σ hd ⟨k, hk, hs⟩ => by
      subst hs
      have hi : i < min fr.length 40 := by
        have := (List.getElem?_eq_some_iff.mp hd).1
        unfold rngL at this
        rw [List.length_map, List.length_range] at this
        exact this
      have hx : x = .int (1 + i) := by
        unfold rngL at hd
        rw [List.getElem?_map, List.getElem?_range hi] at hd
        exact (Option.some.inj hd).symm
      subst hx
      rcases hf with rfl | ⟨rfl, hc⟩
      · simp at hi
      obtain ⟨q1, q2⟩ := free_small hc hi
      have ef := free_room_eq m r (1 + i) (by omega) (by omega) h64
      have ef2 : (if (1 + (i : Int)) < m + r then PyData.int (1 + i) else if m = 1 then PyData.none else PyData.int (m + r + (1 + (i : Int) - (m + r)) / (m - 1) * m + (1 + (i : Int) - (m + r)) % (m - 1) + 1)) = .int (frF m r (i + 1)) := by
        unfold frF
        rw [Int.add_comm 1 (i : Int)]
        by_cases z : (i : Int) + 1 < m + r
        · rw [if_pos z, if_pos z]
        · rw [if_neg z, if_neg z, if_neg fun hm => z (by rw [hm]; exact q2 hm)]
      rw [ef2] at ef
      have ei : L2.atI (iL (frL m r)) (1 + (i : Int) - 1) = some (.int (frF m r (i + 1))) := by
        have : (1 : Int) + i - 1 = (i : Nat) := by omega
        rw [this, atI_n (iL (frL m r)) i (by rw [List.length_map]; omega)]
        rw [List.getElem_map]
        have q3 := (List.getElem?_eq_some_iff.mp q1).2
        rw [q3]
      have ea := int_self (frF m r (i + 1))
      refine ⟨[a, b, c, d, e, f, g, h, some (.d (pk (m, r))), t, some (.l .own (iL (frL m r))), I (1 + i), none, none, none], by rcases hk with rfl | ⟨_, rfl⟩ <;> simp, [a, b, c, d, e, f, g, h, some (.d (pk (m, r))), t, some (.l .own (iL (frL m r))), I (1 + i), none, none, none], .inl ?_, _, Fr.d, rfl⟩
      generalize iL (frL m r) = fl at ei
      simp [l__law_shifts_2, ef, ei, ea]
  subst hs
  exact ⟨k, hk, e'⟩
end K89

set_option Elab.async false
set_option linter.all false
set_option maxRecDepth 100000
set_option maxHeartbeats 16000000
set_option exponentiation.threshold 2000
/-! k89: the plain law, part 6 -/
namespace K89
open PySem FL FL.Com
theorem great_nat {v : Int} (h : v.natAbs < 2 ^ 399) : v.natAbs < 2 ^ 400 := Nat.lt_trans h (by decide)
theorem shifts_law (ds : List Int) : ∃ ds' : List Int, m__law_shifts [L ds] = .ok (.d (.bool true)) [L ds'] := by
  obtain ⟨ps, ds1, hg, hl, s1⟩ := shifts_ok ds []
  have hl16 : ps.length ≤ 16777216 := by omega
  obtain ⟨room, ds2, r1, r2, s3⟩ := great_ok ds1
  obtain ⟨x, y, hx, hy, s5⟩ := run_ok ps hg (L ds2) room
  have e6a := shifted_eq ps hg room
  have e6b := as_one_eq ps hg
  have e6c := alike_self 8 _ (sm_res (i := runN ps room) (j := runT ps 1) (k := runN ps 0))
  have e6d := run_law ps 1 0 room
  rw [Int.one_mul, Int.add_zero] at e6d
  obtain ⟨rt1, rt2⟩ := runT_le ps 1 hg (by decide)
  have rt3 : (runT ps 1).natAbs < 2 ^ 64 := by
    have : (1000 : Int) ^ ps.length ≤ 1000 ^ 3 := by
      have : (1000 : Nat) ^ ps.length ≤ 1000 ^ 3 := Nat.pow_le_pow_right (by decide) hl
      exact_mod_cast this
    omega
  obtain ⟨⟨m, r⟩, ds3, ⟨g1, g2, g3, g4⟩, s8⟩ := e1_ok ds2 [some (.d (.tuple (ps.map pk))), I room, I (runN ps room), I (runT ps 1), I (runN ps 0), x, y, none, none, none, none, none, none, none]
  simp only at g1 g2 g3 g4
  have h64 : m.natAbs < 2 ^ 64 := by omega
  unfold e__law_shifts_1 at s8
  -- up to the shift
  have A : ∀ rest : S → Out, True := fun _ => trivial
  obtain ⟨k, ds4, k1, k2, s12⟩ := great_ok ds3
  have z0 : ((m * 59 + r - 1 : Int)) = m * 59 + r - 1 := rfl
  have key : ∃ (σ' : S), b__law_shifts ([L ds] ++ List.replicate (15 - [L ds].length) none) = .ret (.d (.bool true)) (L ds4 :: σ') := by
    have st0 : ([L ds] ++ List.replicate (15 - [L ds].length) none : S) = [L ds, none, none, none, none, none, none, none, none, none, none, none, none, none, none] := rfl
    rw [st0]
    unfold b__law_shifts
    rw [seq_eq s1]
    have nb := none_bad ps hg (.l .par (iL ds1)) (some (.d (.tuple (ps.map pk)))) none none none none none none none none none none none none
    rw [seq_eq (σ1 := [L ds1, some (.d (.tuple (ps.map pk))), none, none, none, none, none, none, none, none, none, none, none, none, none]) (by simp [nb])]
    rw [seq_eq (σ1 := [L ds2, some (.d (.tuple (ps.map pk))), I room, none, none, none, none, none, none, none, none, none, none, none, none]) (by simp [s3])]
    rw [seq_eq (σ1 := [L ds2, some (.d (.tuple (ps.map pk))), I room, I room, I 1, I 0, none, none, none, none, none, none, none, none, none]) (by simp)]
    rw [seq_eq (σ1 := [L ds2, some (.d (.tuple (ps.map pk))), I room, I (runN ps room), I (runT ps 1), I (runN ps 0), x, y, none, none, none, none, none, none, none]) (by simp [s5])]
    rw [seq_eq (σ1 := [L ds2, some (.d (.tuple (ps.map pk))), I room, I (runN ps room), I (runT ps 1), I (runN ps 0), x, y, none, none, none, none, none, none, none]) (by simp [e6a, e6b, e6c, rt3, ← e6d])]
    rw [seq_eq (σ1 := [L ds3, some (.d (.tuple (ps.map pk))), I room, I (runN ps room), I (runT ps 1), I (runN ps 0), x, y, some (.d (pk (m, r))), none, none, none, none, none, none]) (by unfold sSet; unfold eMov; rw [s8]; simp)]
    have tk0 := taken_ok m r h64 (L ds3) (some (.d (.tuple (ps.map pk)))) (I room) (I (runN ps room)) (I (runT ps 1)) (I (runN ps 0)) x y
    have tkl : (iL (tk m r)).length = 59 := by simp [tk]
    have rk : rOk (m * 59 + r) := ⟨by omega, by omega⟩
    have r60 : rOk 60 := by decide
    have r1' : rOk 1 := by decide
    rw [seq_eq (σ1 := [L ds3, some (.d (.tuple (ps.map pk))), I room, I (runN ps room), I (runT ps 1), I (runN ps 0), x, y, some (.d (pk (m, r))), some (.l .own (iL (tk m r))), none, none, none, none, none]) (by simp [r60, r1', tk0, tkl])]
    -- free
    have fr : ∃ fr : List Int, (fr = [] ∨ (fr = frL m r ∧ chk m r = true)) ∧ sSet 10 (eIf (tAndF (tTru isBool (eOp2 gLt (eOp2 gIx (eName 8) (eC (.int 0))) (eC (.int 5)))) (tTru isBool (eOp2 gLt (eOp2 gIx (eName 8) (eC (.int 1))) (eC (.int 5))))) (eLc [12] (iRange2 (aCons (eC (.int 1)) (aCons (eOp2 gIx (eName 9) (eOp1 gNeg (eC (.int 1)))) (aNil)))) (gN 12) (t__law_shifts_2) (e__law_shifts_4)) (eLst (aNil)))
        [L ds3, some (.d (.tuple (ps.map pk))), I room, I (runN ps room), I (runT ps 1), I (runN ps 0), x, y, some (.d (pk (m, r))), some (.l .own (iL (tk m r))), none, none, none, none, none] =
        .nx [L ds3, some (.d (.tuple (ps.map pk))), I room, I (runN ps room), I (runT ps 1), I (runN ps 0), x, y, some (.d (pk (m, r))), some (.l .own (iL (tk m r))), some (.l .own (iL fr)), none, none, none, none] := by
      by_cases c1 : m < 5
      · by_cases c2 : r < 5
        · have f0 := free_ok m r g1 c1 g3 c2 (L ds3) (some (.d (.tuple (ps.map pk)))) (I room) (I (runN ps room)) (I (runT ps 1)) (I (runN ps 0)) x y
          have lt := last_tk m r
          have tn : (m * 59 + r - 1).toNat = (m * 59 + r).toNat - 1 := by omega
          rw [tn] at f0
          have fl : (iL (frL m r)).length ≤ 16777216 := by
            rw [List.length_map]
            refine Nat.le_trans (List.length_filter_le _ _) ?_
            rw [List.length_map, List.length_range]
            omega
          refine ⟨frL m r, .inr ⟨rfl, chk_of g1 c1 g3 c2⟩, ?_⟩
          generalize iL (tk m r) = tl at f0 lt
          generalize iL (frL m r) = fll at f0 fl
          simp [c1, c2, rk, r1', lt, f0, fl]
        · exact ⟨[], .inl rfl, by simp [c1, c2]⟩
      · exact ⟨[], .inl rfl, by simp [c1]⟩
    obtain ⟨fr, hfr, s10⟩ := fr
    rw [seq_eq s10]
    obtain ⟨kk, hkk, s11⟩ := told_ok m r fr g1 g3 h64 hfr (L ds3) (some (.d (.tuple (ps.map pk)))) (I room) (I (runN ps room)) (I (runT ps 1)) (I (runN ps 0)) x y (some (.l .own (iL (tk m r))))
    have mn : (if (40 : Int) < ((iL fr).length : Int) then (40 : Int) else ((iL fr).length : Int)) + 1 - 1 = ((min fr.length 40 : Nat) : Int) := by
      rw [List.length_map]
      split <;> omega
    have rk2 : rOk ((if (40 : Int) < ((iL fr).length : Int) then (40 : Int) else ((iL fr).length : Int)) + 1) := by
      unfold rOk
      omega
    have mn2 : ((if (40 : Int) < ((iL fr).length : Int) then (40 : Int) else ((iL fr).length : Int)) + 1 - 1).toNat = min fr.length 40 := by rw [mn]; rfl
    have s11' : sFor (iRange2 (aCons (eC (.int 1)) (aCons (eOp2 gAdd (eOp2 gMin2 (eOp1 gLen (eName 10)) (eC (.int 40))) (eC (.int 1))) (aNil)))) (gN 11) (l__law_shifts_2) [L ds3, some (.d (.tuple (ps.map pk))), I room, I (runN ps room), I (runT ps 1), I (runN ps 0), x, y, some (.d (pk (m, r))), some (.l .own (iL (tk m r))), some (.l .own (iL fr)), none, none, none, none] =
        .nx [L ds3, some (.d (.tuple (ps.map pk))), I room, I (runN ps room), I (runT ps 1), I (runN ps 0), x, y, some (.d (pk (m, r))), some (.l .own (iL (tk m r))), some (.l .own (iL fr)), kk, none, none, none] := by
      rw [← s11, ← mn2]
      generalize iL fr = fl at rk2
      simp [-Int.add_sub_cancel, r1', rk2]
    rw [seq_eq s11']
    have m0 : 0 < m := by omega
    have w1 : m_was_in [some (.d (pk (m, r))), I (m * room + r)] = .ok (.d (.int room)) [none, none] := by
      have e := was_in_eq m r (m * room + r) m0 h64
      have q1 : m * room + r - r = m * room := by omega
      have q2 : m ≤ m * room := by
        have : m * 1 ≤ m * room := Int.mul_le_mul_of_nonneg_left r1 (by omega)
        omega
      have q3 : m * room % m = 0 := Int.mul_emod_right m room
      have q4 : m * room / m = room := Int.mul_ediv_cancel_left room (by omega)
      rw [q1, if_pos ⟨q2, q3⟩, q4] at e
      exact e
    have w2 : m_was_in [some (.d (pk (m, r))), I r] = .ok (.d .none) [none, none] := by
      have e := was_in_eq m r r m0 h64
      rw [if_neg (by omega)] at e
      exact e
    have is := int_self room
    rw [seq_eq (σ1 := [L ds3, some (.d (.tuple (ps.map pk))), I room, I (runN ps room), I (runT ps 1), I (runN ps 0), x, y, some (.d (pk (m, r))), some (.l .own (iL (tk m r))), some (.l .own (iL fr)), kk, none, none, none]) (by by_cases c : 0 < r <;> simp [w1, w2, is, c, h64])]
    rw [seq_eq (σ1 := [L ds4, some (.d (.tuple (ps.map pk))), I room, I (runN ps room), I (runT ps 1), I (runN ps 0), x, y, some (.d (pk (m, r))), some (.l .own (iL (tk m r))), some (.l .own (iL fr)), I k, none, none, none]) (by rcases hkk with rfl | ⟨_, rfl⟩ <;> simp [s12])]
    have ef := free_room_eq m r k m0 (great_nat k2) h64
    have wk := fun v => was_in_eq m r v m0 h64
    have ik := int_self k
    have nn := alike_self 8 .none (.none 7)
    have dm : ∀ a, divOk a m = true := fun a => divOk_of a m m0 h64
    generalize iL (tk m r) = tl
    generalize iL fr = fl
    by_cases hk : k < m + r
    · rw [if_pos hk] at ef
      rw [seq_eq (σ1 := [L ds4, some (.d (.tuple (ps.map pk))), I room, I (runN ps room), I (runT ps 1), I (runN ps 0), x, y, some (.d (pk (m, r))), some (.l .own tl), some (.l .own fl), I k, I k, none, none]) (by simp [ef])]
      by_cases hm : m = 1
      · subst hm
        have hk2 : k ≤ r := by omega
        refine ⟨_, by simp [hk2, ik]; rfl⟩
      · have b1 : ¬ (0 < (k - r) / m) := by
          have : (k - r) / m < 1 := Int.ediv_lt_of_lt_mul m0 (by omega)
          omega
        have w3 := wk k
        rw [if_neg (by omega)] at w3
        have b2 : k - r < m := by omega
        refine ⟨_, by simp [hm, b1, w3, b2, dm]; rfl⟩
    · by_cases hm : m = 1
      · rw [if_neg hk, if_pos hm] at ef
        subst hm
        rw [seq_eq (σ1 := [L ds4, some (.d (.tuple (ps.map pk))), I room, I (runN ps room), I (runT ps 1), I (runN ps 0), x, y, some (.d (pk (1, r))), some (.l .own tl), some (.l .own fl), I k, some (.d .none), none, none]) (by simp [ef])]
        have hk2 : ¬ k ≤ r := by omega
        refine ⟨_, by simp [hk2, nn]; rfl⟩
      · rw [if_neg hk, if_neg hm] at ef
        have q1 : 0 ≤ (k - (m + r)) / (m - 1) := Int.ediv_nonneg (by omega) (by omega)
        have q2 : 0 ≤ (k - (m + r)) % (m - 1) := Int.emod_nonneg _ (by omega)
        have q3 : (k - (m + r)) % (m - 1) < m - 1 := Int.emod_lt_of_pos _ (by omega)
        have q4 := Int.mul_ediv_add_emod (k - (m + r)) (m - 1)
        generalize (k - (m + r)) / (m - 1) = q at ef q1 q4
        generalize (k - (m + r)) % (m - 1) = e at ef q2 q3 q4
        generalize hp : m + r + q * m + e + 1 = p at ef
        have p1 : p - r = (e + 1) + m * (q + 1) := by
          rw [← hp]; grind
        have p2 : (p - r) % m = e + 1 := by
          rw [p1, Int.add_mul_emod_self_left]
          exact Int.emod_eq_of_lt (by omega) (by omega)
        have p3 : (p - r) / m = q + 1 := by
          rw [p1, Int.add_mul_ediv_left _ _ (by omega), Int.ediv_eq_zero_of_lt (by omega) (by omega)]
          omega
        have p4 : p - (q + 1) = k := by
          rw [← hp]; grind
        have p5 : ¬ (p - r < m) := by
          have : m * 1 ≤ m * (q + 1) := Int.mul_le_mul_of_nonneg_left (by omega) (by omega)
          omega
        have w3 := wk p
        rw [if_neg (fun z => by have := z.2; omega)] at w3
        have b1 : 0 < q + 1 := by omega
        have b2 : ¬ (e + 1 = 0) := by omega
        rw [seq_eq (σ1 := [L ds4, some (.d (.tuple (ps.map pk))), I room, I (runN ps room), I (runT ps 1), I (runN ps 0), x, y, some (.d (pk (m, r))), some (.l .own tl), some (.l .own fl), I k, I p, none, none]) (by simp [ef])]
        refine ⟨_, by simp [hm, p2, p3, p4, p5, w3, b1, b2, dm, m0]; rfl⟩
  obtain ⟨σ', key⟩ := key
  refine ⟨ds4, ?_⟩
  unfold m__law_shifts
  rw [fun_ret key]
  rfl
end K89

set_option Elab.async false
set_option linter.all false
set_option maxRecDepth 100000
set_option maxHeartbeats 16000000
set_option exponentiation.threshold 2000
/-! k89: the plain law, part 7 -/
namespace K89
open PySem FL FL.Com
theorem half (u : Int) : ∃ t, u * (u + 1) = 2 * t := by
  rcases (by omega : u % 2 = 0 ∨ u % 2 = 1) with h | h
  · have h' : u = 2 * (u / 2) := by omega
    exact ⟨u / 2 * (u + 1), by generalize u / 2 = z at h'; subst h'; grind⟩
  · have h' : u + 1 = 2 * ((u + 1) / 2) := by omega
    exact ⟨u * ((u + 1) / 2), by generalize (u + 1) / 2 = z at h'; rw [h']; grind⟩
theorem diag_one {u w t t' c : Int} (hu : 0 ≤ u) (hw : 0 ≤ w) (h1 : u * (u + 1) = 2 * t') (h2 : w * (w + 1) = 2 * t) (c1 : 1 ≤ c) (c2 : c ≤ u + 1) (d1 : 1 ≤ t' + c - t) (d2 : t' + c - t ≤ w + 1) : w = u ∧ t = t' := by
  have hw2 : w = u := by
    rcases Int.lt_trichotomy w u with h | h | h
    · exfalso
      have : (w + 1) * (w + 2) ≤ u * (u + 1) := Int.mul_le_mul (by omega) (by omega) (by omega) (by omega)
      have : (w + 1) * (w + 2) = w * (w + 1) + 2 * (w + 1) := by grind
      omega
    · exact h
    · exfalso
      have : (u + 1) * (u + 2) ≤ w * (w + 1) := Int.mul_le_mul (by omega) (by omega) (by omega) (by omega)
      have : (u + 1) * (u + 2) = u * (u + 1) + 2 * (u + 1) := by grind
      omega
  subst hw2
  exact ⟨rfl, by omega⟩
theorem on_diag_of (c s : Int) (hc : 1 ≤ c) (hs : 1 ≤ s) (hc2 : c.natAbs < 2 ^ 399) (hs2 : s.natAbs < 2 ^ 399) :
    m_on_diagonal [I ((c + s - 2) * (c + s - 1) / 2 + c)] = .ok (.d (.tuple [.int c, .int s])) [none] ∧ ((c + s - 2) * (c + s - 1) / 2 + c).natAbs < 2 ^ 900 := by
  obtain ⟨t', ht'⟩ := half (c + s - 2)
  have e1 : c + s - 2 + 1 = c + s - 1 := by omega
  rw [e1] at ht'
  have e2 : (c + s - 2) * (c + s - 1) / 2 = t' := by omega
  have b1 : (c + s - 2) * (c + s - 1) ≤ 2 ^ 400 * 2 ^ 400 := Int.mul_le_mul (by omega) (by omega) (by omega) (by decide)
  have b2 : 0 ≤ (c + s - 2) * (c + s - 1) := Int.mul_nonneg (by omega) (by omega)
  have b3 : (2 : Int) ^ 400 * 2 ^ 400 = 2 ^ 800 := by decide
  rw [e2]
  have hb : (t' + c).natAbs < 2 ^ 900 := by omega
  refine ⟨?_, hb⟩
  obtain ⟨w, t, h0, h1, h2, h3, h4⟩ := on_diagonal_eq (t' + c) (by omega) hb
  obtain ⟨rfl, rfl⟩ := diag_one (u := c + s - 2) (w := w) (t := t) (t' := t') (c := c) (by omega) h0 (by rw [e1]; exact ht') h1 hc (by omega) h2 h3
  rw [h4]
  have e3 : t + c - t = c := by omega
  have e4 : c + s - 2 + 2 - c = s := by omega
  rw [e3, e4]
theorem sm9 {n : Int} (h : n.natAbs ≤ 1000) : n.natAbs < 2 ^ 399 := Nat.lt_of_le_of_lt h (by decide)
theorem sm0 {n : Int} (h : n.natAbs ≤ 1000) : n.natAbs < 2 ^ 400 := Nat.lt_of_le_of_lt h (by decide)
abbrev W (ns : List Int) : Option C := some (.d (.list (iL ns)))
abbrev O (ds : List Int) : Option C := some (.l .own (iL ds))
theorem row1 (ns ds : List Int) (i j : Nat) (a : Int) (ha : (i : Int) * (i + 1) = 2 * a) (hi : i < 7) (hj : j < i + 1) : l_law_1 [W ns, O ds, I (a + j), I (2 + i), I (1 + j), none, none, none, none, none] = .nx [W ns, O ds, I (a + j + 1), I (2 + i), I (1 + j), none, none, none, none, none] := by
  have bd := by_diagonals_eq (1 + j) (2 + (i : Int) - (1 + j)) (sm0 (by omega)) (sm0 (by omega))
  have od := (on_diag_of (1 + j) (2 + (i : Int) - (1 + j)) (by omega) (by omega) (sm9 (by omega)) (sm9 (by omega))).1
  have e1 : (1 : Int) + j + (2 + (i : Int) - (1 + j)) - 2 = i := by omega
  have e2 : (1 : Int) + j + (2 + (i : Int) - (1 + j)) - 1 = i + 1 := by omega
  rw [e1, e2] at bd od
  have e3 : (i : Int) * (i + 1) / 2 + (1 + j) = a + j + 1 := by omega
  rw [e3] at bd od
  have sm := alike_self 8 _ (sm_res (i := a + j + 1) (j := 1 + j) (k := 2 + (i : Int) - (1 + j)))
  simp [l_law_1, bd, od, sm]
theorem rng_at {lo : Int} {n i : Nat} {d : D} (hd : (rngL lo n)[i]? = some d) : i < n ∧ d = .int (lo + i) := by
  have hi : i < n := by
    have := (List.getElem?_eq_some_iff.mp hd).1
    unfold rngL at this
    rw [List.length_map, List.length_range] at this
    exact this
  refine ⟨hi, ?_⟩
  unfold rngL at hd
  rw [List.getElem?_map, List.getElem?_range hi] at hd
  exact (Option.some.inj hd).symm
theorem rngL_len (lo : Int) (n : Nat) : (rngL lo n).length = n := by simp [rngL]
theorem row2 (ns ds : List Int) (i : Nat) (a : Int) (c : Option C) (hc : Fr c) (ha : (i : Int) * (i + 1) = 2 * a) (hi : i < 7) : ∃ c2, Fr c2 ∧ forL (gN 4) l_law_1 (rngL 1 (i + 1)) [W ns, O ds, I a, I (2 + i), c, none, none, none, none, none] = .nx [W ns, O ds, I (a + (i + 1)), I (2 + i), c2, none, none, none, none, none] := by
  obtain ⟨σ2, e2, a2, c2, ha2, hc2, hs2⟩ := for_run (g := gN 4) (B := l_law_1) (ds := rngL 1 (i + 1)) (σ := [W ns, O ds, I a, I (2 + i), c, none, none, none, none, none])
    (fun j σ => ∃ a2 c2, a2 = a + (j : Nat) ∧ Fr c2 ∧ σ = [W ns, O ds, I a2, I (2 + i), c2, none, none, none, none, none]) ⟨a, c, by simp, hc, rfl⟩
    fun j d σ hd ⟨a2, c2, ha2, hc2, hs⟩ => by
      subst hs ha2
      obtain ⟨hj, rfl⟩ := rng_at hd
      refine ⟨[W ns, O ds, I (a + j), I (2 + i), I (1 + j), none, none, none, none, none], by rcases hc2 with rfl | ⟨_, rfl⟩ <;> simp, [W ns, O ds, I (a + j + 1), I (2 + i), I (1 + j), none, none, none, none, none], .inl (row1 ns ds i j a ha hi hj), a + j + 1, I (1 + j), by omega, Fr.d, rfl⟩
  subst hs2
  rw [rngL_len] at ha2
  refine ⟨c2, hc2, ?_⟩
  rw [e2, ha2]
  simp
theorem row3a (ns ds : List Int) (i : Nat) (a k : Int) (c : Option C) (r2 : rOk k) : iRange2 (aCons (eC (.int 1)) (aCons (eName 3) (aNil))) [W ns, O ds, I a, I k, c, none, none, none, none, none] = .ok (rngL 1 (k - 1).toNat) [W ns, O ds, I a, I k, c, none, none, none, none, none] := by
  have r1 : rOk 1 := by decide
  simp [r1, r2]
theorem row3b (ns ds : List Int) (i : Nat) (a k : Int) (c : Option C) (r2 : rOk k) : l_law_2 [W ns, O ds, I a, I k, c, none, none, none, none, none] = forL (gN 4) l_law_1 (rngL 1 (k - 1).toNat) [W ns, O ds, I a, I k, c, none, none, none, none, none] := by
  unfold l_law_2 sFor
  rw [row3a ns ds i a k c r2]
theorem row3c (ns ds : List Int) (i : Nat) (a k : Int) (c : Option C) (h : k = 2 + (i : Int)) (hc : Fr c) (ha : (i : Int) * (i + 1) = 2 * a) (hi : i < 7) : ∃ c2, Fr c2 ∧ l_law_2 [W ns, O ds, I a, I k, c, none, none, none, none, none] = .nx [W ns, O ds, I (a + (i + 1)), I k, c2, none, none, none, none, none] := by
  obtain ⟨c2, hc2, e⟩ := row2 ns ds i a c hc ha hi
  refine ⟨c2, hc2, ?_⟩
  have r2 : rOk k := by subst h; exact ⟨by omega, by omega⟩
  rw [row3b ns ds i a k c r2]
  have tn : (k - 1).toNat = i + 1 := by omega
  rw [tn, h]
  exact e
theorem rooms1 (ns ds : List Int) : ∃ a b c, Fr b ∧ Fr c ∧ forL (gN 3) l_law_2 (rngL 2 7) [W ns, O ds, I 0, none, none, none, none, none, none, none] = .nx [W ns, O ds, I a, b, c, none, none, none, none, none] := by
  obtain ⟨σ', e, a, b, c, _, hb, hc, hs⟩ := for_run (g := gN 3) (B := l_law_2) (ds := rngL 2 7) (σ := [W ns, O ds, I 0, none, none, none, none, none, none, none])
    (fun i σ => ∃ a b c, (i : Int) * (i + 1) = 2 * a ∧ Fr b ∧ Fr c ∧ σ = [W ns, O ds, I a, b, c, none, none, none, none, none]) ⟨0, none, none, by simp, .none, .none, rfl⟩
    fun i d σ hd ⟨a, b, c, ha, hb, hc, hs⟩ => by
      subst hs
      obtain ⟨hi, rfl⟩ := rng_at hd
      obtain ⟨c2, hc2, e⟩ := row3c ns ds i a (2 + i) c rfl hc ha hi
      refine ⟨[W ns, O ds, I a, I (2 + i), c, none, none, none, none, none], by rcases hb with rfl | ⟨_, rfl⟩ <;> simp, _, .inl e, a + (i + 1), I (2 + i), c2, ?_, Fr.d, hc2, rfl⟩
      have h1 : ((i + 1 : Nat) : Int) = (i : Int) + 1 := by omega
      rw [h1]
      have h2 : ((i : Int) + 1) * (i + 1 + 1) = (i : Int) * (i + 1) + 2 * (i + 1) := by grind
      omega
  subst hs
  exact ⟨a, b, c, hb, hc, e⟩
/-- a room as a power of two times an odd number -/
theorem odd_part : ∀ (n : Nat) (r : Int), r.toNat ≤ n → 1 ≤ r → ∃ (m : Int) (k : Nat), 1 ≤ m ∧ m % 2 = 1 ∧ r = m * 2 ^ k
  | 0, r, h, h1 => by omega
  | n + 1, r, h, h1 => by
    rcases (by omega : r % 2 = 1 ∨ r % 2 = 0) with ho | he
    · exact ⟨r, 0, h1, ho, by simp⟩
    · obtain ⟨m, k, m1, mo, e⟩ := odd_part n (r / 2) (by omega) (by omega)
      refine ⟨m, k + 1, m1, mo, ?_⟩
      rw [Int.pow_succ, ← Int.mul_assoc, ← e]
      omega
theorem sm_res2 {i j k : Int} : Sm 8 (.list [.tuple [.int j, .int k], .int i]) := by
  refine .list 7 _ (by simp) fun d hd => ?_
  simp only [List.mem_cons, List.not_mem_nil, or_false] at hd
  rcases hd with rfl | rfl
  · refine .tuple 6 _ (by simp) fun d hd => ?_
    simp only [List.mem_cons, List.not_mem_nil, or_false] at hd
    rcases hd with rfl | rfl
    · exact .int 5 j
    · exact .int 5 k
  · exact .int 6 i
theorem pow_room (m : Int) (k : Nat) (h1 : 1 ≤ m) (ho : m % 2 = 1) (hk : (k : Int) ≤ 99999) : m_of_power [I (m * 2 ^ k)] = .ok (.d (.tuple [.int (k + 1), .int ((m + 1) / 2)])) [none] ∧ m_by_powers [I (k + 1), I ((m + 1) / 2)] = .ok (.d (.int (m * 2 ^ k))) [none, none] := by
  refine ⟨of_power_eq m k h1 ho, ?_⟩
  rw [by_powers_eq (k + 1) ((m + 1) / 2) (by omega) (by omega)]
  have e1 : ((k : Int) + 1 - 1).toNat = k := by omega
  have e2 : 2 * ((m + 1) / 2) - 1 = m := by omega
  rw [e1, e2]
theorem halve (ns ds : List Int) (m room : Int) (k : Nat) (b : Option C) (h1 : 1 ≤ m) (ho : m % 2 = 1) : sWhile w_law_1 l_law_3 [W ns, O ds, I room, b, I 1, I (m * 2 ^ k), none, none, none, none] = .nx [W ns, O ds, I room, b, I (k + 1), I m, none, none, none, none] := by
  obtain ⟨σ1, e1, hσ⟩ := while_run (T := w_law_1) (B := l_law_3) (fun σ => ∃ j : Nat, j ≤ k ∧ σ = [W ns, O ds, I room, b, I ((k : Int) - j + 1), I (m * 2 ^ j), none, none, none, none]) (fun σ => match σ with | [_, _, _, _, _, some (.d (.int r)), _, _, _, _] => r.toNat | _ => 0)
    (fun σ => σ = [W ns, O ds, I room, b, I ((k : Int) + 1), I m, none, none, none, none]) (fun σ ⟨j, hj, hs⟩ => by
      subst hs
      cases j with
      | zero =>
        have : ¬ (m / 2 * 2 = m) := by omega
        exact .inl ⟨[W ns, O ds, I room, b, I ((k : Int) + 1), I m, none, none, none, none], by simp [w_law_1, this], rfl⟩
      | succ j =>
        have e : m * 2 ^ (j + 1) = m * 2 ^ j * 2 := by rw [Int.pow_succ, Int.mul_assoc]
        have h2 : (1 : Int) ≤ 2 ^ j := by have := Int.pow_pos (n := 2) (m := j) (by decide); omega
        have hp : 1 ≤ m * 2 ^ j := by
          have : m * 1 ≤ m * 2 ^ j := Int.mul_le_mul_of_nonneg_left h2 (by omega)
          omega
        rw [e]
        generalize hz : m * 2 ^ j = z at hp
        have hd : z * 2 / 2 = z := by omega
        refine .inr ⟨[W ns, O ds, I room, b, I ((k : Int) - ((j + 1 : Nat) : Int) + 1), I (z * 2), none, none, none, none], by simp [w_law_1, hd], [W ns, O ds, I room, b, I ((k : Int) - (j : Int) + 1), I z, none, none, none, none], .inl ?_, ⟨j, by omega, by rw [hz]⟩, ?_⟩
        · have : (k : Int) - ((j : Int) + 1) + 1 + 1 = (k : Int) - j + 1 := by omega
          simp [l_law_3, this]
        · show z.toNat < (z * 2).toNat
          omega) _ [W ns, O ds, I room, b, I 1, I (m * 2 ^ k), none, none, none, none] (Nat.le_refl _) ⟨k, Nat.le_refl _, by simp⟩
  rw [e1, hσ]
theorem row4 (ns ds : List Int) (room : Int) (b c d : Option C) (hc : Fr c) (hd : Fr d) (h1 : 1 ≤ room) (h2 : room ≤ 29) : ∃ c' d', Fr c' ∧ Fr d' ∧ l_law_4 [W ns, O ds, I room, b, c, d, none, none, none, none] = .nx [W ns, O ds, I room, b, c', d', none, none, none, none] := by
  obtain ⟨m, k, m1, mo, e⟩ := odd_part _ room (Nat.le_refl _) h1
  have hk : (k : Int) ≤ 99999 := by
    have q1 : k < 2 ^ k := Nat.lt_two_pow_self
    have q2 : (1 : Int) * 2 ^ k ≤ m * 2 ^ k := Int.mul_le_mul_of_nonneg_right m1 (Int.le_of_lt (Int.pow_pos (by decide)))
    have q3 : ((2 ^ k : Nat) : Int) = (2 : Int) ^ k := by simp
    omega
  have hw := halve ns ds m room k b m1 mo
  obtain ⟨p1, p2⟩ := pow_room m k m1 mo hk
  rw [← e] at hw p1 p2
  have sm := alike_self 8 _ (sm_res2 (i := room) (j := (k : Int) + 1) (k := (m + 1) / 2))
  have sp : sPar [4, 5] (rCons (eC (.int 1)) (rCons (eName 2) (rNil))) [W ns, O ds, I room, b, c, d, none, none, none, none] = .nx [W ns, O ds, I room, b, I 1, I room, none, none, none, none] := by
    rcases hc with rfl | ⟨_, rfl⟩ <;> rcases hd with rfl | ⟨_, rfl⟩ <;> simp
  refine ⟨I (k + 1), I m, Fr.d, Fr.d, ?_⟩
  unfold l_law_4
  rw [seq_eq sp, seq_eq hw]
  simp [p1, p2, sm]
end K89

set_option Elab.async false
set_option linter.all false
set_option maxRecDepth 100000
set_option maxHeartbeats 16000000
set_option exponentiation.threshold 2000
/-! k89: the plain law, the whole -/
namespace K89
open PySem FL FL.Com
theorem rooms2 (ns ds : List Int) (a : Int) (b c : Option C) (hc : Fr c) : ∃ a' c' d', Fr c' ∧ Fr d' ∧ forL (gN 2) l_law_4 (rngL 1 29) [W ns, O ds, I a, b, c, none, none, none, none, none] = .nx [W ns, O ds, I a', b, c', d', none, none, none, none] := by
  obtain ⟨σ', e, a', c', d', hc', hd', hs⟩ := for_run (g := gN 2) (B := l_law_4) (ds := rngL 1 29) (σ := [W ns, O ds, I a, b, c, none, none, none, none, none])
    (fun i σ => ∃ a c d, Fr c ∧ Fr d ∧ σ = [W ns, O ds, I a, b, c, d, none, none, none, none]) ⟨a, c, none, hc, .none, rfl⟩
    fun i x σ hx ⟨a, c, d, hc, hd, hs⟩ => by
      subst hs
      obtain ⟨hi, rfl⟩ := rng_at hx
      obtain ⟨c', d', hc', hd', e⟩ := row4 ns ds (1 + i) b c d hc hd (by omega) (by omega)
      exact ⟨[W ns, O ds, I (1 + i), b, c, d, none, none, none, none], by simp, _, .inl e, 1 + i, c', d', hc', hd', rfl⟩
  subst hs
  exact ⟨a', c', d', hc', hd', e⟩
def odds : List D := [.none, .list [.int 1, .int 0], .tuple [.int 1], .tuple [.int 1, .int 0, .int 0], .tuple [.int 0, .int 0], .tuple [.int 1001, .int 0], .tuple [.int 1, .int (-1)], .tuple [.int 1, .int 1001], .tuple [.bool true, .int 0], .tuple [.int 1, .none], .tuple [.str "1", .int 0]]
theorem odd_no : ∀ d ∈ odds, m_is_shift [some (.d d)] = .ok (.d (.bool false)) [none] := by
  intro d hd
  have n1 := fun v => is_number_eq v 1 1000
  have n2 := fun v => is_number_eq v 0 1000
  simp only [odds, List.mem_cons, List.not_mem_nil, or_false] at hd
  rcases hd with rfl | rfl | rfl | rfl | rfl | rfl | rfl | rfl | rfl | rfl | rfl
  · simp [m_is_shift, b_is_shift]
  · simp [m_is_shift, b_is_shift]
  · simp [m_is_shift, b_is_shift]
  · simp [m_is_shift, b_is_shift]
  · have e := n1 (.int 0) rfl; simp [isNum] at e; simp [m_is_shift, b_is_shift, e]
  · have e := n1 (.int 1001) rfl; simp [isNum] at e; simp [m_is_shift, b_is_shift, e]
  · have e := n1 (.int 1) rfl; have f := n2 (.int (-1)) rfl; simp [isNum] at e f; simp [m_is_shift, b_is_shift, e, f]
  · have e := n1 (.int 1) rfl; have f := n2 (.int 1001) rfl; simp [isNum] at e f; simp [m_is_shift, b_is_shift, e, f]
  · have e := n1 (.bool true) rfl; simp [isNum] at e; simp [m_is_shift, b_is_shift, e]
  · have e := n1 (.int 1) rfl; have f := n2 .none rfl; simp [isNum] at e f; simp [m_is_shift, b_is_shift, e, f]
  · have e := n1 (.str "1") rfl; simp [isNum] at e; simp [m_is_shift, b_is_shift, e]
theorem last_ok (a1 a2 a3 a4 a5 a6 a7 a8 : Option C) (c : Option C) (hc : c = some (.d (.list odds))) : lcL [9] (gN 9) t_law_1 e_law_1 odds [a1, a2, a3, a4, a5, c, a6, a7, a8, none] = .ok [] [a1, a2, a3, a4, a5, c, a6, a7, a8, none] := by
  refine lc_none _ fun d hd => ?_
  have e := odd_no d hd
  exact ⟨[a1, a2, a3, a4, a5, c, a6, a7, a8, some (.d d)], [a1, a2, a3, a4, a5, c, a6, a7, a8, some (.d d)], by simp, by simp [t_law_1, e], by simp⟩
theorem law_true (ns : List Int) (hn : ns.length ≤ 63) : ∃ σ', m_law [some (.d (.list (ns.map PyData.int)))] = .ok (.d (.bool true)) σ' := by
  obtain ⟨ds0, e1⟩ := draws_ok ns hn
  obtain ⟨ds1, e2⟩ := shifts_law ds0
  obtain ⟨a4, b4, c4, hb4, hc4, e4⟩ := rooms1 ns ds1
  obtain ⟨a5, c5, d5, hc5, hd5, e5⟩ := rooms2 ns ds1 a4 b4 c4 hc4
  obtain ⟨c, ds2, c1, c2, e6⟩ := great_ok ds1
  obtain ⟨s, ds3, s1, s2, e7⟩ := great_ok ds2
  have e8 := by_diagonals_eq c s (great_nat c2) (great_nat s2)
  obtain ⟨e9, b9⟩ := on_diag_of c s c1 s1 c2 s2
  have m9 := mulOk_bits (a := c + s - 2) (b := c + s - 1) 402 402 (by have := great_nat c2; have := great_nat s2; omega) (by have := great_nat c2; have := great_nat s2; omega) (by decide)
  generalize hfar : (c + s - 2) * (c + s - 1) / 2 + c = far at e8 e9 b9
  have sm8 := alike_self 8 _ (sm_res (i := far) (j := c) (k := s))
  obtain ⟨room, ds4, r1, r2, e10⟩ := great_ok ds3
  obtain ⟨w, t, w0, wt, t1, t2, e11⟩ := on_diagonal_eq room r1 (Nat.lt_trans r2 (by decide))
  have wsum : room - t + (w + 2 - (room - t)) - 2 = w := by omega
  have wsum2 : room - t + (w + 2 - (room - t)) - 1 = w + 1 := by omega
  have wdiv : w * (w + 1) / 2 + (room - t) = room := by omega
  have wb : w.natAbs < 2 ^ 402 := by
    have h : w * 1 ≤ w * (w + 1) := Int.mul_le_mul_of_nonneg_left (by omega) w0
    have := great_nat r2
    omega
  have wb2 : (w + 1).natAbs < 2 ^ 403 := by omega
  have wm := mulOk_bits (a := w) (b := w + 1) 402 403 wb wb2 (by decide)
  have wp : 1 ≤ w + 2 - (room - t) := by omega
  generalize room - t = p at e11 t1 t2 wsum wsum2 wdiv wp
  generalize w + 2 - p = q at e11 wsum wsum2 wp
  obtain ⟨cc, hcc, e12⟩ := pick ds4 9 1000
  have cc0 : 0 < cc := by omega
  have x1 := takeX_pos ds4.dropLast cc0
  have x2 := takeX_lt ds4.dropLast cc0
  have e13 := take_eq ds4.dropLast cc cc0
  have e12t := take_eq ds4 2 (by decide)
  generalize takeX ds4.dropLast cc = g at x1 x2 e13
  have cg : c = c := rfl
  have q1 : (2 * s - 1).natAbs < 2 ^ 401 := by have := great_nat s2; omega
  have hg0 : 0 ≤ 1 + g - 1 := by omega
  have e14 := by_powers_eq (1 + g) s (by omega) (by omega)
  have e15 := of_power_eq (2 * s - 1) (1 + g - 1).toNat (by omega) (by omega)
  have hk : (((1 + g - 1).toNat : Nat) : Int) + 1 = 1 + g := by omega
  have hs2 : (2 * s - 1 + 1) / 2 = s := by omega
  rw [hk, hs2] at e15
  have hpw : ((2 : Int) ^ (1 + g - 1).toNat).natAbs < 2 ^ 1001 := by
    have h1 : ((2 : Int) ^ (1 + g - 1).toNat).natAbs = 2 ^ (1 + g - 1).toNat := by rw [Int.natAbs_pow]; rfl
    rw [h1]
    exact Nat.pow_lt_pow_right (by decide) (by omega)
  have m15 := mulOk_bits (a := 2 ^ (1 + g - 1).toNat) (b := 2 * s - 1) 1001 401 hpw q1 (by decide)
  have sh : shlOk 1 (1 + g - 1) = true := by
    unfold shlOk
    have h1 : Builtin.Int.intBits 1 = 1 := by decide
    rw [h1, decide_eq_true hg0, Bool.true_and, decide_eq_true_iff]
    omega
  have far2 : (2 : Int) ^ (1 + g - 1).toNat * (2 * s - 1) = (2 * s - 1) * 2 ^ (1 + g - 1).toNat := Int.mul_comm _ _
  generalize h2s : (2 * s - 1) * 2 ^ (1 + g - 1).toNat = fr2 at e14 e15 far2
  generalize hpow : (2 : Int) ^ (1 + g - 1).toNat = pw at m15 far2
  have sm15 := alike_self 8 _ (sm_res (i := fr2) (j := 1 + g) (k := s))
  have key : ∃ σ', b_law ([some (.d (.list (iL ns)))] ++ List.replicate (10 - [some (C.d (.list (iL ns)))].length) none) = .ret (.d (.bool true)) σ' := by
    have st0 : ([some (.d (.list (iL ns)))] ++ List.replicate (10 - [some (C.d (.list (iL ns)))].length) none : S) = [W ns, none, none, none, none, none, none, none, none, none] := rfl
    rw [st0]
    unfold b_law
    rw [seq_eq (σ1 := [W ns, O ds0, none, none, none, none, none, none, none, none]) (by simp [e1])]
    rw [seq_eq (σ1 := [W ns, O ds1, none, none, none, none, none, none, none, none]) (by simp [e2])]
    rw [seq_eq (σ1 := [W ns, O ds1, I 0, none, none, none, none, none, none, none]) (by simp)]
    rw [seq_eq (σ1 := [W ns, O ds1, I a4, b4, c4, none, none, none, none, none]) (by simp [rOk, e4])]
    rw [seq_eq (σ1 := [W ns, O ds1, I a5, b4, c5, d5, none, none, none, none]) (by simp [rOk, e5])]
    rw [seq_eq (σ1 := [W ns, O ds3, I a5, b4, I c, d5, I s, none, none, none]) (by rcases hc5 with rfl | ⟨_, rfl⟩ <;> simp [e6, e7])]
    rw [seq_eq (σ1 := [W ns, O ds3, I a5, b4, I c, d5, I s, I far, none, none]) (by simp [m9, hfar])]
    rw [seq_eq (σ1 := [W ns, O ds3, I a5, b4, I c, d5, I s, I far, none, none]) (by simp [e8, e9, sm8])]
    rw [seq_eq (σ1 := [W ns, O ds4, I room, b4, I c, d5, I s, I far, none, none]) (by simp [e10])]
    rw [seq_eq (σ1 := [W ns, O ds4, I room, b4, I c, d5, I s, I far, some (.d (.tuple [.int p, .int q])), none]) (by simp [e11])]
    have np : ¬ p < 1 := by omega
    have nq : ¬ q < 1 := by omega
    rw [seq_eq (σ1 := [W ns, O ds4, I room, b4, I c, d5, I s, I far, some (.d (.tuple [.int p, .int q])), none]) (by simp [np, nq, wsum, wsum2, wm, wdiv])]
    rw [seq_eq (σ1 := [W ns, O ds4.dropLast.dropLast, I room, b4, I (1 + g), d5, I s, I far, some (.d (.tuple [.int p, .int q])), none]) (by simp [-List.map_dropLast, e12t, e12, e13])]
    rw [seq_eq (σ1 := [W ns, O ds4.dropLast.dropLast, I room, b4, I (1 + g), d5, I s, I fr2, some (.d (.tuple [.int p, .int q])), none]) (by
      generalize (1 : Int) + g = gg at sh hpow
      have tn : (gg - 1).toNat = gg.toNat - 1 := by omega
      rw [tn] at hpow
      simp [sh, hpow, m15, far2])]
    rw [seq_eq (σ1 := [W ns, O ds4.dropLast.dropLast, I room, b4, I (1 + g), d5, I s, I fr2, some (.d (.tuple [.int p, .int q])), none]) (by
      simp [e14, e15, sm15])]
    rw [seq_eq (σ1 := [W ns, O ds4.dropLast.dropLast, I room, b4, I (1 + g), some (.l .own odds), I s, I fr2, some (.d (.tuple [.int p, .int q])), none]) (by
      rcases hd5 with rfl | ⟨_, rfl⟩ <;> simp [odds])]
    have lo := last_ok (W ns) (O ds4.dropLast.dropLast) (I room) b4 (I (1 + g)) (I s) (I fr2) (some (.d (.tuple [.int p, .int q]))) (some (.d (.list odds))) rfl
    generalize odds = od at lo
    exact ⟨_, by simp [lo]; rfl⟩
  obtain ⟨σ', key⟩ := key
  exact ⟨_, fun_ret key⟩
end K89

theorem PySem.Challenge.cw_guestsheld_k89_whole_endless_inns_holds : PySem.Challenge.rw_guestsheld_k89_whole_endless_inns.Holds :=
  K89.holds_of K89.law_true
