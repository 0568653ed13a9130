import PyProof.Rows.All
import Wide.All
import OpenK.AllK
import Wide.FinOn
import KE.KStateDown
import HandS.ForMost
import HandS.More
import HandS.WordsExc
import HandS.Defaults
import HandS.Wide
import HandS.WideBits
import HandS.Gcd
import HandS.IsInst
import HandS.AnyAll
import HandS.SortInts
import HandS.TupAny
import HandS.Style
import KE.GoesEnum
import HandS.Zip
import HandS.TupMul
import PyProof.ReprRoads
import PyProof.CallFns
import KE.SortData
import PyProof.ListRange
import PyProof.Rows.RuleB_pow
import HandS.HeadHook2
import KE.KRevSl
import PyProof.ReprLen
import HandS.Ends
import HandS.HeadEnd
import HandS.Head2
import HandS.Head0
import HandS.Head1
import HandS.Head3
import HandS.HeadHook1
import PySem.Challenge.RW_spreadhouse_k24_any_value_as_house_promi
set_option Elab.async false
set_option linter.all false
set_option maxRecDepth 100000
set_option maxHeartbeats 0
/-! text Dl0 -/
/-! Dl0: a layer of plain data over the hand layer: what a reading does to data, with no heap in sight. -/
namespace Dl
open PySem L2

/-! ### data at a value, off some addresses that may change -/
mutual
inductive Is (K : PySem.W.Frag) (A : List Addr) (H : Hp) : V → PyData → Prop
  | non : Is K A H .non .none
  | bl (b : Bool) : Is K A H (.bl b) (.bool b)
  | int (i : Int) : Is K A H (.int i) (.int i)
  | str (x : Str) : Is K A H (.str x) (.str x)
  | lst {a : Addr} {xs : List V} {ds : List PyData} : a ∉ A → H a = some (.lst xs) → IsAll K A H xs ds → Is K A H (.ref a) (.list ds)
  | tup {a : Addr} {xs : List V} {ds : List PyData} : a ∉ A → Rd H a (.tup xs) → IsAll K A H xs ds → Is K A H (.ref a) (.tuple ds)
  | tupK {a : Addr} {xs : List V} {ds : List PyData} : (∀ H', SqT K H' a xs) → IsAll K A H xs ds → Is K A H (.ref a) (.tuple ds)
inductive IsAll (K : PySem.W.Frag) (A : List Addr) (H : Hp) : List V → List PyData → Prop
  | nil : IsAll K A H [] []
  | cons {v : V} {vs : List V} {d : PyData} {ds : List PyData} : Is K A H v d → IsAll K A H vs ds → IsAll K A H (v :: vs) (d :: ds)
end

section
variable {K : PySem.W.Frag} {A A' : List Addr} {H H' : Hp}
theorem rd_keep {a : Addr} {u : HO} (k : ∀ o, H a = some o → H' a = some o) (h : Rd H a u) : Rd H' a u := by
  rcases h with h | ⟨o, h⟩
  · exact .inl (k _ h)
  · exact .inr ⟨o, k _ h⟩
theorem rd_some {a : Addr} {u : HO} (h : Rd H a u) : ∃ o, H a = some o := by
  rcases h with h | ⟨o, h⟩
  · exact ⟨_, h⟩
  · exact ⟨_, h⟩
mutual
theorem Is.dp : ∀ (d : PyData) (v : V), Is K A H v d → Dp K H v d
  | .none, _, h => by cases h; exact .non
  | .bool b, _, h => by cases h; exact .bl b
  | .int i, _, h => by cases h; exact .int i
  | .str x, _, h => by cases h; exact .str x
  | .list ds, _, h => by
    cases h with
    | lst _ r a => exact .lst (.inl (.inl r)) (IsAll.dp ds _ a)
  | .tuple ds, _, h => by
    cases h with
    | tup _ r a => exact .tup (.inl r) (IsAll.dp ds _ a)
    | tupK r a => exact .tup (r H) (IsAll.dp ds _ a)
  | .dict _, _, h => by cases h
theorem IsAll.dp : ∀ (ds : List PyData) (vs : List V), IsAll K A H vs ds → DpAll K H vs ds
  | [], _, h => by cases h; exact .nil
  | d :: ds, _, h => by
    cases h with
    | cons h1 h2 => exact .cons (Is.dp d _ h1) (IsAll.dp ds _ h2)
end
mutual
theorem Is.keep (k : ∀ a o, a ∉ A → H a = some o → a ∉ A' ∧ H' a = some o) : ∀ (d : PyData) (v : V), Is K A H v d → Is K A' H' v d
  | .none, _, h => by cases h; exact .non
  | .bool b, _, h => by cases h; exact .bl b
  | .int i, _, h => by cases h; exact .int i
  | .str x, _, h => by cases h; exact .str x
  | .list ds, _, h => by
    cases h with
    | lst n r a => exact .lst (k _ _ n r).1 (k _ _ n r).2 (IsAll.keep k ds _ a)
  | .tuple ds, _, h => by
    cases h with
    | tup n r a =>
      obtain ⟨o, ho⟩ := rd_some r
      exact .tup (k _ _ n ho).1 (rd_keep (fun o q => (k _ _ n q).2) r) (IsAll.keep k ds _ a)
    | tupK r a => exact .tupK r (IsAll.keep k ds _ a)
  | .dict _, _, h => by cases h
theorem IsAll.keep (k : ∀ a o, a ∉ A → H a = some o → a ∉ A' ∧ H' a = some o) : ∀ (ds : List PyData) (vs : List V), IsAll K A H vs ds → IsAll K A' H' vs ds
  | [], _, h => by cases h; exact .nil
  | d :: ds, _, h => by
    cases h with
    | cons h1 h2 => exact .cons (Is.keep k d _ h1) (IsAll.keep k ds _ h2)
end
theorem IsAll.len : ∀ {ds : List PyData} {vs : List V}, IsAll K A H vs ds → vs.length = ds.length
  | [], _, h => by cases h; rfl
  | d :: ds, _, h => by
    cases h with
    | cons h1 h2 => rw [List.length_cons, List.length_cons, IsAll.len h2]
theorem IsAll.get : ∀ {ds : List PyData} {vs : List V} {i : Nat} {d : PyData}, IsAll K A H vs ds → ds[i]? = some d → ∃ v, vs[i]? = some v ∧ Is K A H v d
  | [], _, i, d, _, e => by simp at e
  | d :: ds, _, i, d', h, e => by
    cases h with
    | cons h1 h2 =>
      cases i with
      | zero =>
        simp only [List.getElem?_cons_zero] at e ⊢
        cases e
        exact ⟨_, rfl, h1⟩
      | succ i =>
        simp only [List.getElem?_cons_succ] at e ⊢
        exact IsAll.get h2 e
theorem IsAll.app : ∀ {ds es : List PyData} {vs us : List V}, IsAll K A H vs ds → IsAll K A H us es → IsAll K A H (vs ++ us) (ds ++ es)
  | [], _, _, _, h, g => by cases h; exact g
  | d :: ds, _, _, _, h, g => by
    cases h with
    | cons h1 h2 => exact .cons h1 (IsAll.app h2 g)
theorem IsAll.drop : ∀ {ds : List PyData} {vs : List V} (n : Nat), IsAll K A H vs ds → IsAll K A H (vs.drop n) (ds.drop n)
  | _, _, 0, h => h
  | [], _, n + 1, h => by cases h; exact .nil
  | d :: ds, _, n + 1, h => by
    cases h with
    | cons h1 h2 => exact IsAll.drop n h2
theorem IsAll.take : ∀ {ds : List PyData} {vs : List V} (n : Nat), IsAll K A H vs ds → IsAll K A H (vs.take n) (ds.take n)
  | _, _, 0, h => .nil
  | [], _, n + 1, h => by cases h; exact .nil
  | d :: ds, _, n + 1, h => by
    cases h with
    | cons h1 h2 => exact .cons h1 (IsAll.take n h2)
theorem IsAll.rev {ds : List PyData} : ∀ {vs : List V}, IsAll K A H vs ds → IsAll K A H vs.reverse ds.reverse := by
  induction ds with
  | nil => intro vs h; cases h; exact .nil
  | cons d ds ih =>
    intro vs h
    cases h with
    | cons h1 h2 =>
      rw [List.reverse_cons, List.reverse_cons]
      exact IsAll.app (ih h2) (.cons h1 .nil)
end

/-! ### the frame: what is told of the slots -/
/-- a pot: two numbers that are not below 0, the second one small -/
def PotAt (H : Hp) (p : Addr) : Prop := ∃ x y : Int, H p = some (.lst [.int x, .int y]) ∧ 0 ≤ x ∧ 0 ≤ y ∧ y < 4294967296
/-- what stays the same through a def: addresses of the callers that may change, the pot's, the heap at first -/
structure Gh where
  A0 : List Addr
  pp : Option Addr
  H0 : Hp
/-- what is told of a slot: nothing, data, a list of this def's own that may yet grow, the pot -/
inductive Sl where
  | un
  | dat (d : PyData)
  | own (ds : List PyData)
  | pot
abbrev Env := List Sl
def SlOk (K : PySem.W.Frag) (G : Gh) (A : List Addr) (H : Hp) : Option V → Sl → Prop
  | _, .un => True
  | x, .dat d => ∃ v, x = some v ∧ Is K A H v d
  | x, .own ds => ∃ p xs, x = some (.ref p) ∧ p ∈ A ∧ G.H0 p = none ∧ some p ≠ G.pp ∧ H p = some (.lst xs) ∧ IsAll K A H xs ds
  | x, .pot => ∃ p, x = some (.ref p) ∧ G.pp = some p
structure MA (K : PySem.W.Frag) (G : Gh) (A : List Addr) (σ : L2.St) (H : Hp) (env : Env) : Prop where
  len : σ.length = env.length
  all : ∀ (i : Nat) (s : Sl), env[i]? = some s → ∃ x, σ[i]? = some x ∧ SlOk K G A H x s
  uni : ∀ (i j : Nat) (di dj : List PyData), i ≠ j → env[i]? = some (.own di) → env[j]? = some (.own dj) → σ[i]? ≠ σ[j]?
  al : ∀ a ∈ A, ∃ o, H a = some o
  a0 : ∀ a ∈ G.A0, a ∈ A
  h0 : ∀ a ∈ G.A0, ∃ o, G.H0 a = some o
  pp : ∀ p, G.pp = some p → p ∈ G.A0 ∧ PotAt H p
  hist : ∀ a o, some a ≠ G.pp → G.H0 a = some o → H a = some o
/-- an expression's step: but for the pot all stays -/
structure Step (pp : Option Addr) (H H' : Hp) : Prop where
  k : ∀ a o, some a ≠ pp → H a = some o → H' a = some o
  p : ∀ p, pp = some p → PotAt H p → PotAt H' p
section
variable {K : PySem.W.Frag} {G : Gh} {A : List Addr} {σ : L2.St} {H H' H'' : Hp} {env : Env} {pp : Option Addr}
theorem Step.refl : Step pp H H := ⟨fun _ _ _ h => h, fun _ _ h => h⟩
theorem Step.trans (a : Step pp H H') (b : Step pp H' H'') : Step pp H H'' := ⟨fun x o n h => b.k x o n (a.k x o n h), fun p e h => b.p p e (a.p p e h)⟩
theorem Step.new {p : Addr} {o : HO} (n : H p = none) : Step pp H (upd H p o) :=
  ⟨fun a u _ h => by rw [upd_ne (ne_of_none h n)]; exact h, fun q _ h => by
    obtain ⟨x, y, h, r⟩ := h
    exact ⟨x, y, by rw [upd_ne (ne_of_none h n)]; exact h, r⟩⟩
theorem Step.of (k : ∀ a o, H a = some o → H' a = some o) : Step pp H H' :=
  ⟨fun a u _ h => k a u h, fun q _ h => by
    obtain ⟨x, y, h, r⟩ := h
    exact ⟨x, y, k _ _ h, r⟩⟩
theorem MA.ppA (m : MA K G A σ H env) {p : Addr} (e : G.pp = some p) : p ∈ A := m.a0 p (m.pp p e).1
theorem Is.step (m : MA K G A σ H env) (s : Step G.pp H H') {d : PyData} {v : V} (h : Is K A H v d) : Is K A H' v d :=
  Is.keep (fun a o n e => ⟨n, s.k a o (fun q => n (m.ppA q.symm)) e⟩) d v h
theorem IsAll.step (m : MA K G A σ H env) (s : Step G.pp H H') {ds : List PyData} {vs : List V} (h : IsAll K A H vs ds) : IsAll K A H' vs ds :=
  IsAll.keep (fun a o n e => ⟨n, s.k a o (fun q => n (m.ppA q.symm)) e⟩) ds vs h
theorem MA.step (m : MA K G A σ H env) (s : Step G.pp H H') : MA K G A σ H' env where
  len := m.len
  all i sl e := by
    obtain ⟨x, hx, h⟩ := m.all i sl e
    refine ⟨x, hx, ?_⟩
    cases sl with
    | un => trivial
    | dat d =>
      obtain ⟨v, e, h⟩ := h
      exact ⟨v, e, h.step m s⟩
    | own ds =>
      obtain ⟨p, xs, e, a, b, c, h, g⟩ := h
      exact ⟨p, xs, e, a, b, c, s.k _ _ c h, g.step m s⟩
    | pot => exact h
  uni := m.uni
  al a h := by
    obtain ⟨o, e⟩ := m.al a h
    by_cases q : some a = G.pp
    · obtain ⟨x, y, e, _⟩ := s.p a q.symm (m.pp a q.symm).2
      exact ⟨_, e⟩
    · exact ⟨o, s.k a o q e⟩
  a0 := m.a0
  h0 := m.h0
  pp p e := ⟨(m.pp p e).1, s.p p e (m.pp p e).2⟩
  hist a o n e := s.k a o n (m.hist a o n e)
end
end Dl
/-! text Dl1 -/
/-! Dl1: expressions. -/
namespace Dl
open PySem L2

abbrev DE := Env → (PyData → Prop) → Prop
abbrev DT := Env → (Bool → Prop) → Prop
abbrev DA := Env → (List PyData → Prop) → Prop

/-- data at a value, or a list of the def's own that is only looked at -/
def Bo (K : PySem.W.Frag) (pp : Option Addr) (A : List Addr) (H : Hp) (v : V) (d : PyData) : Prop :=
  Is K A H v d ∨ ∃ p xs ds, v = .ref p ∧ d = .list ds ∧ some p ≠ pp ∧ H p = some (.lst xs) ∧ IsAll K A H xs ds
section
variable {K : PySem.W.Frag} {G : Gh} {A : List Addr} {σ : L2.St} {H H' H'' : Hp} {env : Env} {pp : Option Addr} {v : V}
theorem Bo.int {i : Int} (h : Bo K pp A H v (.int i)) : v = .int i := by
  rcases h with h | ⟨_, _, _, _, e, _⟩
  · cases h; rfl
  · cases e
theorem Bo.bool {b : Bool} (h : Bo K pp A H v (.bool b)) : v = .bl b := by
  rcases h with h | ⟨_, _, _, _, e, _⟩
  · cases h; rfl
  · cases e
theorem Bo.none (h : Bo K pp A H v .none) : v = .non := by
  rcases h with h | ⟨_, _, _, _, e, _⟩
  · cases h; rfl
  · cases e
theorem Bo.str {x : Str} (h : Bo K pp A H v (.str x)) : v = .str x := by
  rcases h with h | ⟨_, _, _, _, e, _⟩
  · cases h; rfl
  · cases e
theorem Is.tuple {ds : List PyData} (h : Is K A H v (.tuple ds)) : ∃ a xs, v = .ref a ∧ SqT K H a xs ∧ IsAll K A H xs ds := by
  cases h with
  | tup n r a => exact ⟨_, _, rfl, .inl r, a⟩
  | tupK r a => exact ⟨_, _, rfl, r H, a⟩
theorem Is.list {ds : List PyData} (h : Is K A H v (.list ds)) : ∃ a xs, v = .ref a ∧ H a = some (.lst xs) ∧ IsAll K A H xs ds := by
  cases h with
  | lst n r a => exact ⟨_, _, rfl, r, a⟩
theorem Bo.isT {ds : List PyData} (h : Bo K pp A H v (.tuple ds)) : Is K A H v (.tuple ds) := by
  rcases h with h | ⟨_, _, _, _, e, _⟩
  · exact h
  · cases e
theorem Bo.tuple {ds : List PyData} (h : Bo K pp A H v (.tuple ds)) : ∃ a xs, v = .ref a ∧ SqT K H a xs ∧ IsAll K A H xs ds := by
  rcases h with h | ⟨_, _, _, _, e, _⟩
  · exact h.tuple
  · cases e
theorem Bo.list {ds : List PyData} (h : Bo K pp A H v (.list ds)) : ∃ a xs, v = .ref a ∧ H a = some (.lst xs) ∧ IsAll K A H xs ds := by
  rcases h with h | ⟨p, xs, ds', e, e2, _, h, g⟩
  · exact h.list
  · cases e2
    exact ⟨p, xs, e, h, g⟩
theorem Bo.dp {d : PyData} (h : Bo K pp A H v d) : Dp K H v d := by
  rcases h with h | ⟨p, xs, ds, e, e2, _, h, g⟩
  · exact h.dp
  · subst e e2
    exact .lst (.inl (.inl h)) g.dp
theorem Bo.step (m : MA K G A σ H env) (s : Step G.pp H H') {d : PyData} (h : Bo K G.pp A H v d) : Bo K G.pp A H' v d := by
  rcases h with h | ⟨p, xs, ds, e, e2, n, h, g⟩
  · exact .inl (h.step m s)
  · exact .inr ⟨p, xs, ds, e, e2, n, s.k _ _ n h, g.step m s⟩
theorem MA.fresh (m : MA K G A σ H env) {p : Addr} (n : H p = none) : p ∉ A := fun q => by
  obtain ⟨o, e⟩ := m.al p q
  rw [e] at n
  cases n
end

structure GE (X : Cx) (G : Gh) (e : Expr) (ev : DE) : Prop where
  ex : ∃ t, PE X e t ∧ ∀ (A : List Addr) (σ : L2.St) (H : Hp) (env : Env) (P : PyData → Prop) (Q : VK), MA X.K G A σ H env → ev env P →
    (∀ v H' d, Step G.pp H H' → Is X.K A H' v d → P d → Q v H') → t σ H Q
structure GB (X : Cx) (G : Gh) (e : Expr) (ev : DE) : Prop where
  ex : ∃ t, PE X e t ∧ ∀ (A : List Addr) (σ : L2.St) (H : Hp) (env : Env) (P : PyData → Prop) (Q : VK), MA X.K G A σ H env → ev env P →
    (∀ v H' d, Step G.pp H H' → Bo X.K G.pp A H' v d → P d → Q v H') → t σ H Q
structure GT (X : Cx) (G : Gh) (e : Expr) (ev : DT) : Prop where
  ex : ∃ t, PT X e t ∧ ∀ (A : List Addr) (σ : L2.St) (H : Hp) (env : Env) (P : Bool → Prop) (Q : Bool → Hp → Prop), MA X.K G A σ H env → ev env P →
    (∀ b H', Step G.pp H H' → P b → Q b H') → t σ H Q
structure GA (X : Cx) (G : Gh) (es : List Expr) (ev : DA) : Prop where
  ex : ∃ t, PA X es t ∧ ∀ (A : List Addr) (σ : L2.St) (H : Hp) (env : Env) (P : List PyData → Prop) (Q : List V → Hp → Prop), MA X.K G A σ H env → ev env P →
    (∀ vs H' ds, Step G.pp H H' → IsAll X.K A H' vs ds → P ds → Q vs H') → t σ H Q
/-- an and, an or, a not as a test, whatever its whole is -/
structure GW (X : Cx) (G : Gh) (e : Expr) (ev : DT) : Prop where
  ex : ∃ t, PW X e t ∧ ∀ (A : List Addr) (σ : L2.St) (H : Hp) (env : Env) (P : Bool → Prop) (Q : Bool → Hp → Prop), MA X.K G A σ H env → ev env P →
    (∀ b H', Step G.pp H H' → P b → Q b H') → t σ H Q

section
variable {X : Cx} {G : Gh} {a b c e : Expr} {ea eb ec : DE} {ta tb tc : DT} {pos : Pos}
theorem GE.gb (h : GE X G e ea) : GB X G e ea := by
  obtain ⟨t, p, h⟩ := h
  exact ⟨t, p, fun A σ H env P Q m w q => h A σ H env P Q m w fun v H' d s i => q v H' d s (.inl i)⟩

/-! names, constants -/
def eVar (i : Nat) : DE := fun env P => match env[i]? with
  | some (.dat d) => P d
  | _ => False
def bVar (i : Nat) : DE := fun env P => match env[i]? with
  | some (.dat d) => P d
  | some (.own ds) => P (.list ds)
  | _ => False
def eC (d : PyData) : DE := fun _ P => P d
theorem ge_var {i : Nat} {x : Str} (hN : X.N[i]? = some x) (hv : Vis X.env.scope x) (hd : (x == ("__debug__" : Str)) = false := by decide) (hcd : (x == ("__classdict__" : Str)) = false := by decide) : GE X G (.Name x pos) (eVar i) := by
  refine ⟨tVar i, pe_var hN hv hd hcd, fun A σ H env P Q m w q => ?_⟩
  unfold eVar at w
  split at w
  · rename_i d e
    obtain ⟨x, hx, v, rfl, h⟩ := m.all i _ e
    exact ⟨v, hx, q v H d Step.refl h w⟩
  · exact w.elim
theorem gb_var {i : Nat} {x : Str} (hN : X.N[i]? = some x) (hv : Vis X.env.scope x) (hd : (x == ("__debug__" : Str)) = false := by decide) (hcd : (x == ("__classdict__" : Str)) = false := by decide) : GB X G (.Name x pos) (bVar i) := by
  refine ⟨tVar i, pe_var hN hv hd hcd, fun A σ H env P Q m w q => ?_⟩
  unfold bVar at w
  split at w
  · rename_i d e
    obtain ⟨x, hx, v, rfl, h⟩ := m.all i _ e
    exact ⟨v, hx, q v H d Step.refl (.inl h) w⟩
  · rename_i ds e
    obtain ⟨x, hx, p, xs, rfl, _, _, n, h, g⟩ := m.all i _ e
    exact ⟨_, hx, q _ H _ Step.refl (.inr ⟨p, xs, ds, rfl, rfl, n, h, g⟩) w⟩
  · exact w.elim
theorem ge_c {v : V} {d : PyData} (p : PE X e (tC v)) (h : ∀ A H, Is X.K A H v d) : GE X G e (eC d) :=
  ⟨tC v, p, fun A σ H env P Q m w q => q v H d Step.refl (h A H) w⟩
theorem ge_int {i : Int} {j} : GE X G (.Constant (.int i) j pos) (eC (.int i)) := ge_c pe_int fun _ _ => .int i
theorem ge_str {x : Str} {j} : GE X G (.Constant (.str x) j pos) (eC (.str x)) := ge_c pe_str fun _ _ => .str x
theorem ge_bl {b : Bool} {j} : GE X G (.Constant (.bool b) j pos) (eC (.bool b)) := ge_c pe_bl fun _ _ => .bl b
theorem ge_non {j} : GE X G (.Constant .none j pos) (eC .none) := ge_c pe_non fun _ _ => .non

/-! what a rule of two values does to data -/
def DR2 (K : PySem.W.Frag) (r : R2) (f : PyData → PyData → (PyData → Prop) → Prop) : Prop :=
  ∀ (pp : Option Addr) (A : List Addr) (H : Hp) (x y : V) (dx dy : PyData) (P : PyData → Prop) (Q : VK), (∀ a ∈ A, ∃ o, H a = some o) → Bo K pp A H x dx → Bo K pp A H y dy → f dx dy P →
    (∀ v H' d, (∀ a o, H a = some o → H' a = some o) → Is K A H' v d → P d → Q v H') → r x y H Q
def DR1 (K : PySem.W.Frag) (r : V → Hp → VK → Prop) (f : PyData → (PyData → Prop) → Prop) : Prop :=
  ∀ (pp : Option Addr) (A : List Addr) (H : Hp) (x : V) (dx : PyData) (P : PyData → Prop) (Q : VK), (∀ a ∈ A, ∃ o, H a = some o) → Bo K pp A H x dx → f dx P →
    (∀ v H' d, (∀ a o, H a = some o → H' a = some o) → Is K A H' v d → P d → Q v H') → r x H Q
def e2 (f : PyData → PyData → (PyData → Prop) → Prop) (ea eb : DE) : DE := fun env P => ea env fun x => eb env fun y => f x y P
def e1 (f : PyData → (PyData → Prop) → Prop) (ea : DE) : DE := fun env P => ea env fun x => f x P
theorem dr2 {r : R2} {f : PyData → PyData → (PyData → Prop) → Prop} (hr : DR2 X.K r f) {ta tb : TE}
    (ha : ∀ (A : List Addr) (σ : L2.St) (H : Hp) (env : Env) (P : PyData → Prop) (Q : VK), MA X.K G A σ H env → ea env P → (∀ v H' d, Step G.pp H H' → Bo X.K G.pp A H' v d → P d → Q v H') → ta σ H Q)
    (hb : ∀ (A : List Addr) (σ : L2.St) (H : Hp) (env : Env) (P : PyData → Prop) (Q : VK), MA X.K G A σ H env → eb env P → (∀ v H' d, Step G.pp H H' → Bo X.K G.pp A H' v d → P d → Q v H') → tb σ H Q)
    (A : List Addr) (σ : L2.St) (H : Hp) (env : Env) (P : PyData → Prop) (Q : VK) (m : MA X.K G A σ H env) (w : e2 f ea eb env P)
    (q : ∀ v H' d, Step G.pp H H' → Is X.K A H' v d → P d → Q v H') : tOp r ta tb σ H Q := by
  refine ha A σ H env _ _ m w fun x H1 dx s1 hx w1 => ?_
  refine hb A σ H1 env _ _ (m.step s1) w1 fun y H2 dy s2 hy w2 => ?_
  have m2 := (m.step s1).step s2
  exact hr G.pp A H2 x y dx dy P Q m2.al (hx.step (m.step s1) s2) hy w2 fun v H' d k i p => q v H' d ((s1.trans s2).trans (Step.of k)) i p
theorem ge_op {op : Operator} {r : R2} {f : PyData → PyData → (PyData → Prop) → Prop} (ho : OpR X (binaryOp op) r) (hr : DR2 X.K r f) (ha : GB X G a ea) (hb : GB X G b eb) : GE X G (.BinOp a op b pos) (e2 f ea eb) := by
  obtain ⟨ta, pa, ha⟩ := ha
  obtain ⟨tb, pb, hb⟩ := hb
  exact ⟨tOp r ta tb, pe_op ho pa pb, dr2 hr ha hb⟩
theorem ge_cmp {op : CmpOp} {r : R2} {f : PyData → PyData → (PyData → Prop) → Prop} (ho : OpR X (compareOp op) r) (hr : DR2 X.K r f) (ha : GB X G a ea) (hb : GB X G b eb) (hm : behindInMarks op b = false) : GE X G (.Compare a [op] [b] pos) (e2 f ea eb) := by
  obtain ⟨ta, pa, ha⟩ := ha
  obtain ⟨tb, pb, hb⟩ := hb
  exact ⟨tOp r ta tb, pe_cmpR ho pa pb hm, dr2 hr ha hb⟩
theorem ge_ix {r : R2} {f : PyData → PyData → (PyData → Prop) → Prop} (ho : IxR X r) (hr : DR2 X.K r f) (ha : GB X G a ea) (hb : GB X G b eb) (hs : PlainIx b) : GE X G (.Subscript a b pos) (e2 f ea eb) := by
  obtain ⟨ta, pa, ha⟩ := ha
  obtain ⟨tb, pb, hb⟩ := hb
  exact ⟨tOp r ta tb, pe_ix ho pa pb hs, dr2 hr ha hb⟩
theorem ge_un {op : UnaryOp} {r : V → Hp → VK → Prop} {f : PyData → (PyData → Prop) → Prop} (ho : UnR X (unaryOp op) r) (hr : DR1 X.K r f) (ha : GB X G a ea) : GE X G (.UnaryOp op a pos) (e1 f ea) := by
  obtain ⟨ta, pa, ha⟩ := ha
  refine ⟨tUn r ta, pe_un ho pa, fun A σ H env P Q m w q => ?_⟩
  refine ha A σ H env _ _ m w fun x H1 dx s1 hx w1 => ?_
  exact hr G.pp A H1 x dx P Q (m.step s1).al hx w1 fun v H' d k i p => q v H' d (s1.trans (Step.of k)) i p

/-! tests -/
def tV (ea : DE) : DT := fun env P => ea env fun d => match d with
  | .bool b => P b
  | _ => False
theorem gt_val (h : GB X G e ea) (he : ∀ whole, isTrue e X.env whole = (do let v ← whole; standAt e.pos; holding [v] (truthy v)) := by intro _; rfl) : GT X G e (tV ea) := by
  obtain ⟨t, p, h⟩ := h
  refine ⟨tB t, pt_val p he, fun A σ H env P Q m w q => ?_⟩
  refine h A σ H env _ _ m w fun v H' d s i w => ?_
  split at w
  · exact ⟨_, i.bool, q _ H' s w⟩
  · exact w.elim
theorem gt_cmp {op : CmpOp} {r : R2} {f : PyData → PyData → (PyData → Prop) → Prop} (ho : OpR X (compareOp op) r) (hr : DR2 X.K r f) (ha : GB X G a ea) (hb : GB X G b eb) (hm : behindInMarks op b = false) : GT X G (.Compare a [op] [b] pos) (tV (e2 f ea eb)) := by
  obtain ⟨ta, pa, ha⟩ := ha
  obtain ⟨tb, pb, hb⟩ := hb
  refine ⟨tTest (tOp r ta tb), pt_cmpR ho pa pb hm, fun A σ H env P Q m w q => ?_⟩
  refine dr2 hr ha hb A σ H env _ _ m w fun v H' d s i w => ?_
  split at w
  · cases i
    exact ⟨_, rfl, q _ H' s w⟩
  · exact w.elim
def tNt (ta : DT) : DT := fun env P => ta env fun b => P (!b)
def tAn (ta tb : DT) : DT := fun env P => ta env fun b => if b = true then tb env P else P false
def tO (ta tb : DT) : DT := fun env P => ta env fun b => if b = true then P true else tb env P
theorem gt_not (h : GT X G e ta) : GT X G (.UnaryOp .Not e pos) (tNt ta) := by
  obtain ⟨t, p, h⟩ := h
  exact ⟨tNot t, pt_not p, fun A σ H env P Q m w q => h A σ H env _ _ m w fun b H' s w => q _ H' s w⟩
theorem gw_and {rest : List Expr} (ha : GT X G a ta) (hb : GW X G (.BoolOp .And (b :: rest) pos) tb) : GW X G (.BoolOp .And (a :: b :: rest) pos) (tAn ta tb) := by
  obtain ⟨t, p, h⟩ := ha
  obtain ⟨u, p2, h2⟩ := hb
  refine ⟨tAnd t u, pw_and p p2, fun A σ H env P Q m w q => ?_⟩
  refine h A σ H env _ _ m w fun b H' s w => ?_
  split at w
  · rename_i e
    rw [if_pos e]
    exact h2 A σ H' env _ _ (m.step s) w fun c H2 s2 w => q c H2 (s.trans s2) w
  · rename_i e
    rw [if_neg e]
    exact q _ H' s w
theorem gw_or {rest : List Expr} (ha : GT X G a ta) (hb : GW X G (.BoolOp .Or (b :: rest) pos) tb) : GW X G (.BoolOp .Or (a :: b :: rest) pos) (tO ta tb) := by
  obtain ⟨t, p, h⟩ := ha
  obtain ⟨u, p2, h2⟩ := hb
  refine ⟨tOr t u, pw_or p p2, fun A σ H env P Q m w q => ?_⟩
  refine h A σ H env _ _ m w fun b H' s w => ?_
  split at w
  · rename_i e
    rw [if_pos e]
    exact q _ H' s w
  · rename_i e
    rw [if_neg e]
    exact h2 A σ H' env _ _ (m.step s) w fun c H2 s2 w => q c H2 (s.trans s2) w
theorem gw_and1 (ha : GT X G a ta) : GW X G (.BoolOp .And [a] pos) ta := by
  obtain ⟨t, p, h⟩ := ha
  exact ⟨t, pw_and1 p, h⟩
theorem gw_or1 (ha : GT X G a ta) : GW X G (.BoolOp .Or [a] pos) ta := by
  obtain ⟨t, p, h⟩ := ha
  exact ⟨t, pw_or1 p, h⟩
theorem GW.t (h : GW X G e ta) : GT X G e ta := by
  obtain ⟨t, p, h⟩ := h
  exact ⟨t, p.pt, h⟩

/-! and, or, not as values -/
def vAn (ea eb : DE) : DE := fun env P => ea env fun d => match d with
  | .bool b => if b = true then eb env P else P (.bool false)
  | _ => False
def vO (ea eb : DE) : DE := fun env P => ea env fun d => match d with
  | .bool b => if b = true then P (.bool true) else eb env P
  | _ => False
def vNt (ea : DE) : DE := fun env P => ea env fun d => match d with
  | .bool b => P (.bool (!b))
  | _ => False
theorem ge_and {rest : List Expr} (ha : GE X G a ea) (hb : GE X G (.BoolOp .And (b :: rest) pos) eb) : GE X G (.BoolOp .And (a :: b :: rest) pos) (vAn ea eb) := by
  obtain ⟨t, p, h⟩ := ha
  obtain ⟨u, p2, h2⟩ := hb
  refine ⟨tAndV t u, pe_and p p2, fun A σ H env P Q m w q => ?_⟩
  refine h A σ H env _ _ m w fun v H' d s i w => ?_
  split at w
  · cases i
    refine ⟨_, rfl, ?_⟩
    split at w
    · rename_i e
      rw [if_pos e]
      exact h2 A σ H' env _ _ (m.step s) w fun c H2 d s2 i w => q c H2 d (s.trans s2) i w
    · rename_i e
      rw [if_neg e]
      exact q _ H' _ s (.bl false) w
  · exact w.elim
theorem ge_or {rest : List Expr} (ha : GE X G a ea) (hb : GE X G (.BoolOp .Or (b :: rest) pos) eb) : GE X G (.BoolOp .Or (a :: b :: rest) pos) (vO ea eb) := by
  obtain ⟨t, p, h⟩ := ha
  obtain ⟨u, p2, h2⟩ := hb
  refine ⟨tOrV t u, pe_or p p2, fun A σ H env P Q m w q => ?_⟩
  refine h A σ H env _ _ m w fun v H' d s i w => ?_
  split at w
  · cases i
    refine ⟨_, rfl, ?_⟩
    split at w
    · rename_i e
      rw [if_pos e]
      exact q _ H' _ s (.bl true) w
    · rename_i e
      rw [if_neg e]
      exact h2 A σ H' env _ _ (m.step s) w fun c H2 d s2 i w => q c H2 d (s.trans s2) i w
  · exact w.elim
theorem ge_one {op : BoolOp} (ha : GE X G a ea) : GE X G (.BoolOp op [a] pos) ea := by
  obtain ⟨t, p, h⟩ := ha
  exact ⟨t, pe_one p, h⟩
theorem ge_not (ha : GE X G a ea) : GE X G (.UnaryOp .Not a pos) (vNt ea) := by
  obtain ⟨t, p, h⟩ := ha
  refine ⟨tNotV t, pe_not p, fun A σ H env P Q m w q => ?_⟩
  refine h A σ H env _ _ m w fun v H' d s i w => ?_
  split at w
  · cases i
    exact ⟨_, rfl, q _ H' _ s (.bl _) w⟩
  · exact w.elim
def eIf (tc : DT) (ea eb : DE) : DE := fun env P => tc env fun b => if b = true then ea env P else eb env P
theorem ge_if (hc : GT X G c tc) (ha : GE X G a ea) (hb : GE X G b eb) : GE X G (.IfExp c a b pos) (eIf tc ea eb) := by
  obtain ⟨tc, pc, hc⟩ := hc
  obtain ⟨ta, pa, ha⟩ := ha
  obtain ⟨tb, pb, hb⟩ := hb
  refine ⟨tIf tc ta tb, pe_ifExp pc pa pb, fun A σ H env P Q m w q => ?_⟩
  refine hc A σ H env _ _ m w fun k H' s w => ?_
  split at w
  · rename_i e
    rw [if_pos e]
    exact ha A σ H' env _ _ (m.step s) w fun c H2 d s2 i w => q c H2 d (s.trans s2) i w
  · rename_i e
    rw [if_neg e]
    exact hb A σ H' env _ _ (m.step s) w fun c H2 d s2 i w => q c H2 d (s.trans s2) i w

/-! lists of arguments, tuples, lists -/
def aN : DA := fun _ P => P []
def aC (ea : DE) (r : DA) : DA := fun env P => ea env fun d => r env fun ds => P (d :: ds)
theorem ga_nil : GA X G [] aN := ⟨tNil, pa_nil, fun A σ H env P Q m w q => q [] H [] Step.refl .nil w⟩
theorem ga_cons {es : List Expr} {er : DA} (ha : GE X G e ea) (hr : GA X G es er) (hs : starEach (e :: es) X.env = (false, eval e X.env) :: starEach es X.env := by rfl) : GA X G (e :: es) (aC ea er) := by
  obtain ⟨t, p, h⟩ := ha
  obtain ⟨u, p2, h2⟩ := hr
  refine ⟨tCons t u, pa_cons p p2 hs, fun A σ H env P Q m w q => ?_⟩
  refine h A σ H env _ _ m w fun v H1 d s1 i w => ?_
  refine h2 A σ H1 env _ _ (m.step s1) w fun vs H2 ds s2 is w => ?_
  exact q (v :: vs) H2 (d :: ds) (s1.trans s2) (.cons (i.step (m.step s1) s2) is) w
def eTu (ea : DA) : DE := fun env P => ea env fun ds => ds.length ≤ 100000 ∧ P (.tuple ds)
def eLi (ea : DA) : DE := fun env P => ea env fun ds => ds.length ≤ 100000 ∧ P (.list ds)
theorem sz_of {n : Nat} (h : n ≤ 100000) : n ≤ sizeLine := Nat.le_trans h (by decide)
theorem IsAll.new {K : PySem.W.Frag} {A : List Addr} {H : Hp} {p : Addr} {o : HO} (n : H p = none) {ds : List PyData} {vs : List V} (h : IsAll K A H vs ds) : IsAll K A (upd H p o) vs ds :=
  IsAll.keep (fun a u k e => ⟨k, by rw [upd_ne (ne_of_none e n)]; exact e⟩) ds vs h
theorem keep_new {H : Hp} {p : Addr} {o : HO} (n : H p = none) : ∀ a u, H a = some u → upd H p o a = some u := fun a u e => by rw [upd_ne (ne_of_none e n)]; exact e
theorem notin_of {A : List Addr} {H : Hp} (al : ∀ a ∈ A, ∃ o, H a = some o) {p : Addr} (n : H p = none) : p ∉ A := fun q => by
  obtain ⟨o, e⟩ := al p q
  rw [e] at n
  cases n
theorem Is.newT {K : PySem.W.Frag} {A : List Addr} {H : Hp} (al : ∀ a ∈ A, ∃ o, H a = some o) {p : Addr} (n : H p = none) {ds : List PyData} {vs : List V} (h : IsAll K A H vs ds) : Is K A (upd H p (.tup vs)) (.ref p) (.tuple ds) :=
  .tup (notin_of al n) (.inl upd_same) (h.new n)
theorem Is.newL {K : PySem.W.Frag} {A : List Addr} {H : Hp} (al : ∀ a ∈ A, ∃ o, H a = some o) {p : Addr} (n : H p = none) {ds : List PyData} {vs : List V} (h : IsAll K A H vs ds) : Is K A (upd H p (.lst vs)) (.ref p) (.list ds) :=
  .lst (notin_of al n) upd_same (h.new n)
theorem ge_tup {es : List Expr} {er : DA} {x1} (h : GA X G es er) : GE X G (.Tuple es x1 pos) (eTu er) := by
  obtain ⟨t, p, h⟩ := h
  refine ⟨tTup t, pe_tup p, fun A σ H env P Q m w q => ?_⟩
  refine h A σ H env _ _ m w fun vs H1 ds s i w => ?_
  exact ⟨i.len ▸ sz_of w.1, fun p n => q _ _ _ (s.trans (Step.new n)) (Is.newT (m.step s).al n i) w.2⟩
theorem ge_lst {es : List Expr} {er : DA} (h : GA X G es er) : GE X G (.List es pos) (eLi er) := by
  obtain ⟨t, p, h⟩ := h
  refine ⟨tLst t, pe_lst p, fun A σ H env P Q m w q => ?_⟩
  refine h A σ H env _ _ m w fun vs H1 ds s i w => ?_
  exact ⟨i.len ▸ sz_of w.1, fun p n => q _ _ _ (s.trans (Step.new n)) (Is.newL (m.step s).al n i) w.2⟩
end
end Dl
/-! text Dl2 -/
/-! Dl2: what operators, comparisons, subscripts, slices, built-in calls do to data. -/
namespace Dl
open PySem L2
section
variable {X : Cx} {G : Gh} {a b c e : Expr} {ea eb ec : DE} {ta tb tc : DT} {pos : Pos} {K : PySem.W.Frag}
theorem keep_refl {H : Hp} : ∀ (a : Addr) (o : HO), H a = some o → H a = some o := fun _ _ h => h
/-! ints -/
def fI (g : Int → Int → PyData) (C : Int → Int → Prop) : PyData → PyData → (PyData → Prop) → Prop := fun x y P => match x, y with
  | .int i, .int j => C i j ∧ P (g i j)
  | _, _ => False
theorem dr_I {C : Int → Int → Prop} {C' : Int → Int → Prop} (hc : ∀ i j, C i j → C' i j) {g : Int → Int → V} {g' : Int → Int → PyData} (hg : ∀ K A H i j, Is K A H (g i j) (g' i j)) : DR2 K (rI C' g) (fI g' C) := by
  intro pp A H x y dx dy P Q al hx hy w q
  unfold fI at w
  split at w
  · exact ⟨_, _, hx.int, hy.int, hc _ _ w.1, q _ H _ keep_refl (hg _ _ _ _ _) w.2⟩
  · exact w.elim
theorem rI_of {g : Int → Int → V} : ∀ x y H (Q : VK), rI (fun _ _ => True) g x y H Q → rI0 g x y H Q := by
  rintro x y H Q ⟨i, j, h1, h2, _, q⟩
  exact ⟨i, j, h1, h2, q⟩
def fSub := fI (fun i j => .int (i - j)) fun _ _ => True
theorem dr_sub : DR2 K (rI0 fun i j => .int (i - j)) fSub := fun pp A H x y dx dy P Q al hx hy w q => rI_of _ _ _ _ (dr_I (fun _ _ h => h) (fun _ _ _ i j => .int (i - j)) pp A H x y dx dy P Q al hx hy w q)
def Lo (i : Int) : Prop := i.natAbs < 2 ^ 400000
def fMulI : PyData → PyData → (PyData → Prop) → Prop := fI (fun i j => .int (i * j)) fun i j => Lo i ∧ Lo j
theorem cmul_of {i j : Int} (h : Lo i ∧ Lo j) : CMulW i j := wide_mul h.1 h.2 (by decide) (by decide) (by decide)
def fDiv := fI (fun i j => .int (i.fdiv j)) fun i j => j ≠ 0 ∧ j.natAbs < 1073741824
theorem dr_div : DR2 K (rI CDivN fun i j => .int (i.fdiv j)) fDiv := dr_I (fun _ _ h => h) fun _ _ _ i j => .int _
def fMod := fI (fun i j => .int (i.fmod j)) fun i j => j ≠ 0
theorem dr_mod : DR2 K (rI (fun _ j => j ≠ 0) fun i j => .int (i.fmod j)) fMod := dr_I (fun _ _ h => h) fun _ _ _ i j => .int _
def fPow := fI (fun i j => .int (i ^ j.toNat)) fun i j => 0 ≤ j ∧ j ≤ 1000000 ∧ i.natAbs < 2 ^ 64
theorem dr_pow : DR2 K (rI CPow fun i j => .int (i ^ j.toNat)) fPow := dr_I (fun _ _ h => h) fun _ _ _ i j => .int _
def fCI (p : Int → Int → Bool) := fI (fun i j => .bool (p i j)) fun _ _ => True
theorem dr_ci {p : Int → Int → Bool} : DR2 K (rI0 fun i j => .bl (p i j)) (fCI p) := fun pp A H x y dx dy P Q al hx hy w q => rI_of _ _ _ _ (dr_I (fun _ _ h => h) (fun _ _ _ i j => .bl _) pp A H x y dx dy P Q al hx hy w q)
abbrev fLt := fCI fun i j => decide (i < j)
abbrev fLe := fCI fun i j => decide (i ≤ j)
abbrev fGt := fCI fun i j => decide (j < i)
abbrev fGe := fCI fun i j => decide (j ≤ i)
def fNeg : PyData → (PyData → Prop) → Prop := fun x P => match x with
  | .int i => P (.int (-i))
  | _ => False
theorem dr_neg : DR1 K (rU fun i => .int (-i)) fNeg := by
  intro pp A H x dx P Q al hx w q
  unfold fNeg at w
  split at w
  · exact ⟨_, hx.int, q _ H _ keep_refl (.int _) w⟩
  · exact w.elim

/-! + of ints, texts, lists, tuples -/
def fAdd : PyData → PyData → (PyData → Prop) → Prop := fun x y P => match x, y with
  | .int i, .int j => P (.int (i + j))
  | .str i, .str j => i.length + j.length ≤ 100000 ∧ P (.str (i ++ j))
  | .list i, .list j => i.length + j.length ≤ 100000 ∧ P (.list (i ++ j))
  | .tuple i, .tuple j => i.length + j.length ≤ 100000 ∧ P (.tuple (i ++ j))
  | _, _ => False
def rAddS : R2 := fun x y H Q => ∃ i j, x = .str i ∧ y = .str j ∧ i.length + j.length ≤ sizeLine ∧ Q (.str (i ++ j)) H
def rAdd (K : PySem.W.Frag) : R2 := fun x y H Q => (rI0 fun i j => .int (i + j)) x y H Q ∨ rAddS x y H Q ∨ rCat x y H Q ∨ rCatA K x y H Q
theorem op_addA : OpR X (binaryOp .Add) (rAdd X.K) := op_add.or (op_add_str.or (op_cat.or op_catA))
theorem IsAll.nil_iff {A : List Addr} {H : Hp} {vs : List V} {ds : List PyData} (h : IsAll K A H vs ds) : vs = [] ↔ ds = [] := by
  cases h with
  | nil => simp
  | cons _ _ => simp
theorem dr_add : DR2 K (rAdd K) fAdd := by
  intro pp A H x y dx dy P Q al hx hy w q
  unfold fAdd at w
  split at w
  · exact .inl ⟨_, _, hx.int, hy.int, q _ H _ keep_refl (.int _) w⟩
  · exact .inr (.inl ⟨_, _, hx.str, hy.str, sz_of w.1, q _ H _ keep_refl (.str _) w.2⟩)
  · obtain ⟨p1, xs, rfl, h1, g1⟩ := hx.list
    obtain ⟨p2, ys, rfl, h2, g2⟩ := hy.list
    refine .inr (.inr (.inl ⟨p1, p2, xs, ys, rfl, rfl, h1, h2, ?_, fun p n => ?_⟩))
    · rw [g1.len, g2.len]; exact sz_of w.1
    · exact q _ _ _ (keep_new n) (Is.newL al n (g1.app g2)) w.2
  · have hxI := hx.isT
    have hyI := hy.isT
    obtain ⟨p1, xs, rfl, h1, g1⟩ := hxI.tuple
    obtain ⟨p2, ys, rfl, h2, g2⟩ := hyI.tuple
    refine .inr (.inr (.inr ⟨p1, p2, xs, ys, rfl, rfl, h1, h2, ?_, fun e => ?_, fun _ e => ?_, fun _ _ p n => ?_⟩))
    · rw [g1.len, g2.len]; exact sz_of w.1
    · have e := g1.nil_iff.mp e
      subst e
      exact q _ _ _ keep_refl hyI w.2
    · have e := g2.nil_iff.mp e
      subst e
      exact q _ _ _ keep_refl hxI (by simpa using w.2)
    · exact q _ _ _ (keep_new n) (Is.newT al n (g1.app g2)) w.2
  · exact w.elim
/-! * of ints, of a list, a tuple and an int: ints, lists -/
def fMul : PyData → PyData → (PyData → Prop) → Prop := fun x y P => match x, y with
  | .int i, .int j => Lo i ∧ Lo j ∧ P (.int (i * j))
  | _, _ => False
theorem dr_mul : DR2 K (rI CMulW fun i j => .int (i * j)) fMul := by
  intro pp A H x y dx dy P Q al hx hy w q
  unfold fMul at w
  split at w
  · exact ⟨_, _, hx.int, hy.int, cmul_of ⟨w.1, w.2.1⟩, q _ H _ keep_refl (.int _) w.2.2⟩
  · exact w.elim

/-! == and != of any data -/
def Sh (d : PyData) : Prop := SeqAt.shaped d = true
def fEq : PyData → PyData → (PyData → Prop) → Prop := fun x y P => Sh x ∧ Sh y ∧ P (.bool (PyData.eqv x y))
def fNe : PyData → PyData → (PyData → Prop) → Prop := fun x y P => Sh x ∧ Sh y ∧ P (.bool (!PyData.eqv x y))
theorem dr_eq : DR2 K (rEqD K) fEq := fun pp A H x y dx dy P Q al hx hy w q => ⟨dx, dy, hx.dp, hy.dp, w.1, w.2.1, q _ H _ keep_refl (.bl _) w.2.2⟩
theorem dr_ne : DR2 K (rNeD K) fNe := fun pp A H x y dx dy P Q al hx hy w q => ⟨dx, dy, hx.dp, hy.dp, w.1, w.2.1, q _ H _ keep_refl (.bl _) w.2.2⟩
/-! is None, is True, is False -/
def isNon : PyData → Bool
  | .none => true
  | _ => false
def fIsN : PyData → PyData → (PyData → Prop) → Prop := fun x y P => match y with
  | .none => P (.bool (isNon x))
  | _ => False
def fNotN : PyData → PyData → (PyData → Prop) → Prop := fun x y P => match y with
  | .none => P (.bool (!isNon x))
  | _ => False
theorem isNon_ok {pp : Option Addr} {A : List Addr} {H : Hp} {x : V} {d : PyData} (h : Bo K pp A H x d) : decide (x = .non) = isNon d := by
  rcases h with h | ⟨p, xs, ds, rfl, rfl, _⟩
  · cases h <;> rfl
  · rfl
theorem dr_isN : DR2 K (fun x y H Q => y = .non ∧ Q (.bl (decide (x = .non))) H) fIsN := by
  intro pp A H x y dx dy P Q al hx hy w q
  unfold fIsN at w
  split at w
  · refine ⟨hy.none, ?_⟩
    rw [isNon_ok hx]
    exact q _ H _ keep_refl (.bl _) w
  · exact w.elim
theorem dr_notN : DR2 K (fun x y H Q => y = .non ∧ Q (.bl (!decide (x = .non))) H) fNotN := by
  intro pp A H x y dx dy P Q al hx hy w q
  unfold fNotN at w
  split at w
  · refine ⟨hy.none, ?_⟩
    rw [isNon_ok hx]
    exact q _ H _ keep_refl (.bl _) w
  · exact w.elim

/-! subscripts -/
def fIx : PyData → PyData → (PyData → Prop) → Prop := fun x y P => match x, y with
  | .list ds, .int i => ∃ d, atI ds i = some d ∧ P d
  | .tuple ds, .int i => ∃ d, atI ds i = some d ∧ P d
  | .str z, .int i => z.length ≤ 100000 ∧ ∃ c, atI z.cps.toList i = some c ∧ P (.str ⟨#[c]⟩)
  | _, _ => False
theorem atI_get {A : List Addr} {H : Hp} {ds : List PyData} {vs : List V} {i : Int} {d : PyData} (h : IsAll K A H vs ds) (e : atI ds i = some d) : ∃ v, atI vs i = some v ∧ Is K A H v d := by
  unfold atI at e ⊢
  rw [h.len]
  cases q : ixN ds.length i with
  | none => rw [q] at e; cases e
  | some j =>
    rw [q] at e
    exact h.get e
theorem dr_ix : DR2 K (rIx K) fIx := by
  intro pp A H x y dx dy P Q al hx hy w q
  unfold fIx at w
  split at w
  · obtain ⟨d, e, w⟩ := w
    obtain ⟨p, xs, rfl, h, g⟩ := hx.list
    obtain ⟨v, e2, i⟩ := atI_get g e
    exact .inl ⟨p, xs, _, v, rfl, hy.int, .inl (.inl h), e2, q v H d keep_refl i w⟩
  · obtain ⟨d, e, w⟩ := w
    obtain ⟨p, xs, rfl, h, g⟩ := hx.tuple
    obtain ⟨v, e2, i⟩ := atI_get g e
    exact .inr (.inl ⟨p, xs, _, v, rfl, hy.int, h, e2, q v H d keep_refl i w⟩)
  · obtain ⟨l, c, e, w⟩ := w
    exact .inr (.inr ⟨_, _, c, hx.str, hy.int, sz_of l, e, q _ H _ keep_refl (.str _) w⟩)
  · exact w.elim

/-! slices -/
def cutG {α : Type} (xs : List α) (lo hi : Option Int) : List α := (xs.drop (HT.sIx xs.length 0 lo)).take (HT.sIx xs.length xs.length hi - HT.sIx xs.length 0 lo)
theorem IsAll.cut {A : List Addr} {H : Hp} {ds : List PyData} {vs : List V} (lo hi : Option Int) (h : IsAll K A H vs ds) : IsAll K A H (cutV vs lo hi) (cutG ds lo hi) := by
  unfold cutV cutG
  rw [h.len]
  exact (h.drop _).take _
abbrev DO := Env → (Option Int → Prop) → Prop
structure GO (X : Cx) (G : Gh) (e : Option Expr) (ev : DO) : Prop where
  ex : ∃ t, PO X e t ∧ ∀ (A : List Addr) (σ : L2.St) (H : Hp) (env : Env) (P : Option Int → Prop) (Q : Option Int → Hp → Prop), MA X.K G A σ H env → ev env P →
    (∀ o H', Step G.pp H H' → P o → Q o H') → t σ H Q
def oN : DO := fun _ P => P none
def oS (ea : DE) : DO := fun env P => ea env fun d => match d with
  | .int i => P (some i)
  | _ => False
theorem go_none : GO X G none oN := ⟨tNoPart, po_none, fun A σ H env P Q m w q => q _ H Step.refl w⟩
theorem go_some (h : GB X G e ea) : GO X G (some e) (oS ea) := by
  obtain ⟨t, p, h⟩ := h
  refine ⟨tPart t, po_some p, fun A σ H env P Q m w q => ?_⟩
  refine h A σ H env _ _ m w fun v H' d s i w => ?_
  split at w
  · exact ⟨_, i.int, q _ H' s w⟩
  · exact w.elim
def fSl : PyData → Option Int → Option Int → (PyData → Prop) → Prop := fun x lo hi P => match x with
  | .list ds => P (.list (cutG ds lo hi))
  | .tuple ds => P (.tuple (cutG ds lo hi))
  | .str z => z.length ≤ 100000 ∧ P (.str (cutS z lo hi))
  | _ => False
def eSl (ea : DE) (lo hi : DO) : DE := fun env P => ea env fun x => lo env fun l => hi env fun h => fSl x l h P
def rSl (K : PySem.W.Frag) : V → Option Int → Option Int → Hp → VK → Prop := fun x lo hi H Q => rSlL K x lo hi H Q ∨ rSlA K x lo hi H Q ∨ rSlS x lo hi H Q
theorem sl_all : SlR X (rSl X.K) := sl_list.or (sl_tupA.or sl_str)
theorem cut_whole {α : Type} {xs : List α} {lo hi : Option Int} (h : HT.sIx xs.length 0 lo = 0 ∧ HT.sIx xs.length xs.length hi = xs.length) : cutG xs lo hi = xs := by
  unfold cutG
  rw [h.1, h.2, List.drop_zero, Nat.sub_zero, List.take_length]
theorem ge_sl {lo hi : Option Expr} {ol oh : DO} {p2 : Pos} (ha : GB X G a ea) (hl : GO X G lo ol) (hh : GO X G hi oh) : GE X G (.Subscript a (.Slice lo hi none p2) pos) (eSl ea ol oh) := by
  obtain ⟨ta, pa, ha⟩ := ha
  obtain ⟨tl, pl, hl⟩ := hl
  obtain ⟨th, ph, hh⟩ := hh
  refine ⟨tSl (rSl X.K) ta tl th, pe_slice sl_all pa pl ph, fun A σ H env P Q m w q => ?_⟩
  refine ha A σ H env _ _ m w fun x H1 dx s1 hx w => ?_
  have m1 := m.step s1
  refine hl A σ H1 env _ _ m1 w fun l H2 s2 w => ?_
  have m2 := m1.step s2
  refine hh A σ H2 env _ _ m2 w fun h H3 s3 w => ?_
  have m3 := m2.step s3
  have hx := (hx.step m1 s2).step m2 s3
  have s := (s1.trans s2).trans s3
  unfold fSl at w
  split at w
  · obtain ⟨p, xs, rfl, h0, g⟩ := hx.list
    exact .inl ⟨p, xs, rfl, .inl (.inl h0), fun p n => q _ _ _ (s.trans (Step.new n)) (Is.newL m3.al n (g.cut l h)) w⟩
  · have hxI := hx.isT
    obtain ⟨p, xs, rfl, h0, g⟩ := hxI.tuple
    refine .inr (.inl ⟨p, xs, rfl, h0, fun e => ?_, fun _ p n => q _ _ _ (s.trans (Step.new n)) (Is.newT m3.al n (g.cut l h)) w⟩)
    rw [g.len] at e
    rw [cut_whole e] at w
    exact q _ _ _ s hxI w
  · exact .inr (.inr ⟨_, hx.str, sz_of w.1, q _ _ _ s (.str _) w.2⟩)
  · exact w.elim

/-! chains of two comparisons -/
def eCh (f g : PyData → PyData → (PyData → Prop) → Prop) (ea eb ec : DE) : DE := fun env P => ea env fun x => eb env fun y => f x y fun z => match z with
  | .bool k => if k = true then ec env fun w => g y w P else P (.bool false)
  | _ => False
theorem ge_ch {op op' : CmpOp} {r r' : R2} {f g : PyData → PyData → (PyData → Prop) → Prop} (ho : OpR X (compareOp op) r) (hr : DR2 X.K r f) (ho' : OpR X (compareOp op') r') (hr' : DR2 X.K r' g)
    (ha : GB X G a ea) (hb : GB X G b eb) (hc : GB X G c ec) (hm : lastMarks [op, op'] [b, c] = false := by with_unfolding_all rfl) : GE X G (.Compare a [op, op'] [b, c] pos) (eCh f g ea eb ec) := by
  obtain ⟨ta, pa, ha⟩ := ha
  obtain ⟨tb, pb, hb⟩ := hb
  obtain ⟨tc, pc, hc⟩ := hc
  refine ⟨tChain r r' ta tb tc, pe_chain ho ho' pa pb pc hm, fun A σ H env P Q m w q => ?_⟩
  refine ha A σ H env _ _ m w fun x H1 dx s1 hx w => ?_
  have m1 := m.step s1
  refine hb A σ H1 env _ _ m1 w fun y H2 dy s2 hy w => ?_
  have m2 := m1.step s2
  refine hr G.pp A H2 x y dx dy _ _ m2.al (hx.step m1 s2) hy w fun z H3 d k i w => ?_
  have m3 := m2.step (Step.of k)
  split at w
  · cases i
    refine ⟨_, rfl, ?_⟩
    split at w
    · rename_i e
      rw [if_pos e]
      refine hc A σ H3 env _ _ m3 w fun u H4 du s4 hu w => ?_
      have m4 := m3.step s4
      exact hr' G.pp A H4 y u dy du P Q m4.al ((hy.step m2 (Step.of k)).step m3 s4) hu w fun v H5 d k5 i p => q v H5 d ((((s1.trans s2).trans (Step.of k)).trans s4).trans (Step.of k5)) i p
    · rename_i e
      rw [if_neg e]
      exact q _ _ _ ((s1.trans s2).trans (Step.of k)) (.bl _) w
  · exact w.elim
end
end Dl
/-! text Dl3 -/
/-! Dl3: targets, statements, loops. -/
namespace Dl
open PySem L2
/-- data that stood stands -/
def Pres (K : PySem.W.Frag) (A : List Addr) (H : Hp) (A' : List Addr) (H' : Hp) : Prop := ∀ v d, Is K A H v d → Is K A' H' v d
theorem Pres.refl {K : PySem.W.Frag} {A : List Addr} {H : Hp} : Pres K A H A H := fun _ _ h => h
theorem Pres.trans {K : PySem.W.Frag} {A A1 A2 : List Addr} {H H1 H2 : Hp} (a : Pres K A H A1 H1) (b : Pres K A1 H1 A2 H2) : Pres K A H A2 H2 := fun v d h => b v d (a v d h)
/-- what is wanted behind a statement, of data -/
structure DK where
  nx : Env → Prop
  rt : PyData → Prop
  bk : Env → Prop := fun _ => False
  ct : Env → Prop := fun _ => False
abbrev DS := DK → Env → Prop
structure Link (K : PySem.W.Frag) (G : Gh) (A : List Addr) (H : Hp) (k : DK) (D : Ends) : Prop where
  nx : ∀ A' σ' H' env', Pres K A H A' H' → MA K G A' σ' H' env' → k.nx env' → D.nx σ' H'
  rt : ∀ v H' d, Step G.pp G.H0 H' → Is K G.A0 H' v d → k.rt d → D.rt v H'
  bk : ∀ A' σ' H' env', Pres K A H A' H' → MA K G A' σ' H' env' → k.bk env' → D.bk σ' H'
  ct : ∀ A' σ' H' env', Pres K A H A' H' → MA K G A' σ' H' env' → k.ct env' → D.ct σ' H'
theorem Link.on {K : PySem.W.Frag} {G : Gh} {A A1 : List Addr} {H H1 : Hp} {k : DK} {D : Ends} (l : Link K G A H k D) (p : Pres K A H A1 H1) : Link K G A1 H1 k D where
  nx A' σ' H' env' q := l.nx A' σ' H' env' (p.trans q)
  rt := l.rt
  bk A' σ' H' env' q := l.bk A' σ' H' env' (p.trans q)
  ct A' σ' H' env' q := l.ct A' σ' H' env' (p.trans q)
section
variable {K : PySem.W.Frag} {G : Gh} {A : List Addr} {σ : L2.St} {H H' : Hp} {env : Env}
theorem MA.pres (m : MA K G A σ H env) (s : Step G.pp H H') : Pres K A H A H' := fun _ _ h => h.step m s
theorem set_get {α : Type} {l : List α} {i j : Nat} {a b : α} (h : (l.set i a)[j]? = some b) : (i = j ∧ a = b) ∨ (i ≠ j ∧ l[j]? = some b) := by
  by_cases e : i = j
  · subst e
    left
    rw [List.getElem?_set] at h
    simp only [if_true] at h
    split at h
    · exact ⟨rfl, Option.some.inj h⟩
    · cases h
  · right
    rw [List.getElem?_set_ne e] at h
    exact ⟨e, h⟩
theorem MA.lt (m : MA K G A σ H env) {i : Nat} {s : Sl} (h : env[i]? = some s) : i < σ.length := by
  rw [m.len]
  exact (List.getElem?_eq_some_iff.mp h).1
/-- a slot is given data -/
theorem MA.setD (m : MA K G A σ H env) {v : V} {d : PyData} (i : Nat) (hv : Is K A H v d) : MA K G A (σ.set i (some v)) H (env.set i (.dat d)) where
  len := by rw [List.length_set, List.length_set, m.len]
  all j s e := by
    rcases set_get e with ⟨rfl, rfl⟩ | ⟨n, e⟩
    · have lt : i < (env.set i (Sl.dat d)).length := (List.getElem?_eq_some_iff.mp e).1
      rw [List.length_set, ← m.len] at lt
      exact ⟨some v, by rw [List.getElem?_set_self lt], v, rfl, hv⟩
    · obtain ⟨x, hx, h⟩ := m.all j s e
      exact ⟨x, by rw [List.getElem?_set_ne n]; exact hx, h⟩
  uni a b da db n ea eb := by
    rcases set_get ea with ⟨_, e⟩ | ⟨na, ea⟩
    · cases e
    rcases set_get eb with ⟨_, e⟩ | ⟨nb, eb⟩
    · cases e
    rw [List.getElem?_set_ne na, List.getElem?_set_ne nb]
    exact m.uni a b da db n ea eb
  al := m.al
  a0 := m.a0
  h0 := m.h0
  pp := m.pp
  hist := m.hist
/-- an address that may change more -/
theorem MA.more (m : MA K G A σ H env) {p : Addr} {o : HO} (n : H p = none) : MA K G (p :: A) σ (upd H p o) env := by
  have kk : ∀ a u, a ∉ A → H a = some u → a ∉ p :: A ∧ upd H p o a = some u := fun a u na e => by
    have ne := ne_of_none e n
    exact ⟨fun q => by rcases List.mem_cons.mp q with q | q; exact ne q; exact na q, by rw [upd_ne ne]; exact e⟩
  refine ⟨m.len, fun i s e => ?_, m.uni, fun a h => ?_, fun a h => List.mem_cons_of_mem _ (m.a0 a h), m.h0, fun q e => ⟨(m.pp q e).1, ?_⟩, fun a u na e => ?_⟩
  · obtain ⟨x, hx, h⟩ := m.all i s e
    refine ⟨x, hx, ?_⟩
    cases s with
    | un => trivial
    | dat d =>
      obtain ⟨v, e, h⟩ := h
      exact ⟨v, e, Is.keep kk d v h⟩
    | own ds =>
      obtain ⟨q, xs, e, a, b, c, h, g⟩ := h
      refine ⟨q, xs, e, List.mem_cons_of_mem _ a, b, c, ?_, IsAll.keep kk _ _ g⟩
      rw [upd_ne (ne_of_none h n)]; exact h
    | pot => exact h
  · rcases List.mem_cons.mp h with rfl | h
    · exact ⟨_, upd_same⟩
    · obtain ⟨u, e⟩ := m.al a h
      exact ⟨u, by rw [upd_ne (ne_of_none e n)]; exact e⟩
  · obtain ⟨x, y, e2, r⟩ := (m.pp q e).2
    exact ⟨x, y, by rw [upd_ne (ne_of_none e2 n)]; exact e2, r⟩
  · have h := m.hist a u na e
    rw [upd_ne (ne_of_none h n)]; exact h
theorem MA.morePres (m : MA K G A σ H env) {p : Addr} {o : HO} (n : H p = none) : Pres K A H (p :: A) (upd H p o) := fun v d h => Is.keep (fun a u na e => by
  have ne := ne_of_none e n
  exact ⟨fun q => by rcases List.mem_cons.mp q with q | q; exact ne q; exact na q, by rw [upd_ne ne]; exact e⟩) d v h
/-- a slot is given a list of the def's own: just made at p -/
theorem MA.setO (m : MA K G A σ H env) {p : Addr} {xs : List V} {ds : List PyData} (i : Nat) (hp : p ∈ A) (h0 : G.H0 p = none) (np : some p ≠ G.pp) (nu : ∀ j : Nat, j ≠ i → ∀ es : List PyData, env[j]? = some (.own es) → σ[j]? ≠ some (some (.ref p)))
    (hx : H p = some (.lst xs)) (g : IsAll K A H xs ds) : MA K G A (σ.set i (some (.ref p))) H (env.set i (.own ds)) where
  len := by rw [List.length_set, List.length_set, m.len]
  all j s e := by
    rcases set_get e with ⟨rfl, rfl⟩ | ⟨n, e⟩
    · have lt : i < (env.set i (Sl.own ds)).length := (List.getElem?_eq_some_iff.mp e).1
      rw [List.length_set, ← m.len] at lt
      exact ⟨some (.ref p), by rw [List.getElem?_set_self lt], p, xs, rfl, hp, h0, np, hx, g⟩
    · obtain ⟨x, hx, h⟩ := m.all j s e
      exact ⟨x, by rw [List.getElem?_set_ne n]; exact hx, h⟩
  uni a b da db n ea eb := by
    rcases set_get ea with ⟨rfl, e⟩ | ⟨na, ea⟩
    · rcases set_get eb with ⟨e2, _⟩ | ⟨nb, eb⟩
      · exact absurd e2 n
      · have la : i < σ.length := by
          have l := (List.getElem?_eq_some_iff.mp ea).1
          rw [List.length_set] at l
          rw [m.len]; exact l
        rw [List.getElem?_set_ne nb, List.getElem?_set_self la]
        exact fun q => nu b (Ne.symm nb) db eb q.symm
    · rcases set_get eb with ⟨rfl, e2⟩ | ⟨nb, eb⟩
      · have la : i < σ.length := by
          have l := (List.getElem?_eq_some_iff.mp eb).1
          rw [List.length_set] at l
          rw [m.len]; exact l
        rw [List.getElem?_set_ne na, List.getElem?_set_self la]
        exact nu a (Ne.symm na) da ea
      · rw [List.getElem?_set_ne na, List.getElem?_set_ne nb]
        exact m.uni a b da db n ea eb
  al := m.al
  a0 := m.a0
  h0 := m.h0
  pp := m.pp
  hist := m.hist
/-- the list of a slot turns to another one -/
theorem MA.putO (m : MA K G A σ H env) {i : Nat} {ds es : List PyData} {p : Addr} {ys : List V} (e : env[i]? = some (.own ds)) (hs : σ[i]? = some (some (.ref p))) (g : IsAll K A H ys es) :
    MA K G A σ (upd H p (.lst ys)) (env.set i (.own es)) ∧ Pres K A H A (upd H p (.lst ys)) := by
  obtain ⟨x, hx, q, xs, rfl, hp, h0, np, hq, _⟩ := m.all i _ e
  rw [hs] at hx
  cases hx
  have kk : ∀ a u, a ∉ A → H a = some u → a ∉ A ∧ upd H p (.lst ys) a = some u := fun a u na h => ⟨na, by rw [upd_ne (fun z => na (by rw [z]; exact hp))]; exact h⟩
  refine ⟨⟨by rw [List.length_set]; exact m.len, fun j s ej => ?_, fun a b da db n ea eb => ?_, fun a h => ?_, m.a0, m.h0, fun r er => ⟨(m.pp r er).1, ?_⟩, fun a u na h => ?_⟩, fun v d h => Is.keep kk d v h⟩
  · rcases set_get ej with ⟨rfl, rfl⟩ | ⟨n, ej⟩
    · exact ⟨_, hs, p, ys, rfl, hp, h0, np, upd_same, IsAll.keep kk _ _ g⟩
    · obtain ⟨x, hx, h⟩ := m.all j s ej
      refine ⟨x, hx, ?_⟩
      cases s with
      | un => trivial
      | dat d =>
        obtain ⟨v, e, h⟩ := h
        exact ⟨v, e, Is.keep kk d v h⟩
      | own fs =>
        obtain ⟨r, zs, e2, a, b, c, h, gg⟩ := h
        refine ⟨r, zs, e2, a, b, c, ?_, IsAll.keep kk _ _ gg⟩
        have ne : r ≠ p := fun z => by
          subst z
          exact m.uni i j _ _ n e ej (by rw [hs, hx, e2])
        rw [upd_ne ne]; exact h
      | pot => exact h
  · have f : ∀ {a : Nat} {da : List PyData}, (env.set i (.own es))[a]? = some (Sl.own da) → ∃ da', env[a]? = some (Sl.own da') := fun {a da} ea => by
      rcases set_get ea with ⟨rfl, _⟩ | ⟨_, ea⟩
      · exact ⟨_, e⟩
      · exact ⟨_, ea⟩
    obtain ⟨da', ea'⟩ := f ea
    obtain ⟨db', eb'⟩ := f eb
    exact m.uni a b _ _ n ea' eb'
  · by_cases z : a = p
    · subst z
      exact ⟨_, upd_same⟩
    · obtain ⟨u, h⟩ := m.al a h
      exact ⟨u, by rw [upd_ne z]; exact h⟩
  · obtain ⟨x, y, e2, rr⟩ := (m.pp r er).2
    have ne : r ≠ p := fun z => np (by rw [← z]; exact er.symm)
    exact ⟨x, y, by rw [upd_ne ne]; exact e2, rr⟩
  · have ne : a ≠ p := fun z => by
      subst z
      rw [h0] at h
      cases h
    rw [upd_ne ne]
    exact m.hist a u na h
end

/-! ### statements -/
structure GS (X : Cx) (G : Gh) (st : Stmt) (w : DS) : Prop where
  ex : ∃ t, PS X st t ∧ ∀ (A : List Addr) (σ : L2.St) (H : Hp) (env : Env) (k : DK) (D : Ends), MA X.K G A σ H env → w k env → Link X.K G A H k D → t D σ H
structure GSs (X : Cx) (G : Gh) (st : List Stmt) (w : DS) : Prop where
  ex : ∃ t, PSs X st t ∧ ∀ (A : List Addr) (σ : L2.St) (H : Hp) (env : Env) (k : DK) (D : Ends), MA X.K G A σ H env → w k env → Link X.K G A H k D → t D σ H
section
variable {X : Cx} {G : Gh} {a b c e : Expr} {ea eb ec : DE} {ta tb tc : DT} {pos : Pos} {st : Stmt} {rest sa sb : List Stmt} {w u : DS}
def wSeq (w u : DS) : DS := fun k env => w { k with nx := u k } env
theorem gss_cons (h1 : GS X G st w) (h2 : GSs X G rest u) : GSs X G (st :: rest) (wSeq w u) := by
  obtain ⟨t, p, h⟩ := h1
  obtain ⟨t2, p2, h2⟩ := h2
  refine ⟨tSeq t t2, pss_cons p p2, fun A σ H env k D m hw l => ?_⟩
  exact h A σ H env _ _ m hw ⟨fun A' σ' H' env' q m' w' => h2 A' σ' H' env' k D m' w' (l.on q), l.rt, l.bk, l.ct⟩
theorem gss_one (h1 : GS X G st w) : GSs X G [st] w := by
  obtain ⟨t, p, h⟩ := h1
  exact ⟨t, pss_one p, h⟩
def wNx : DS := fun k env => k.nx env
theorem gss_nil : GSs X G [] wNx := ⟨tNext, pss_nil, fun A σ H env k D m w l => l.nx A σ H env Pres.refl m w⟩
theorem gs_pass : GS X G (.Pass pos) wNx := ⟨tNext, ps_pass, fun A σ H env k D m w l => l.nx A σ H env Pres.refl m w⟩
def wNever : DS := fun _ _ => False
theorem gs_never : GS X G st wNever := ⟨tNever, ps_never, fun _ _ _ _ _ _ _ w _ => w.elim⟩
def wRet (ea : DE) : DS := fun k env => ea env k.rt
theorem MA.back {K : PySem.W.Frag} {G : Gh} {A : List Addr} {σ : L2.St} {H : Hp} {env : Env} (m : MA K G A σ H env) : Step G.pp G.H0 H :=
  ⟨m.hist, fun p e _ => (m.pp p e).2⟩
theorem gs_ret (h : GE X G e ea) : GS X G (.Return (some e) pos) (wRet ea) := by
  obtain ⟨t, p, h⟩ := h
  refine ⟨tRet t, ps_ret p, fun A σ H env k D m w l => ?_⟩
  refine h A σ H env _ _ m w fun v H' d s i q => ?_
  exact l.rt v H' d (m.step s).back (Is.keep (fun a o n e => ⟨fun z => n (m.a0 a z), e⟩) d v i) q
/-- return of a list of the def's own -/
def wRetO (i : Nat) : DS := fun k env => match env[i]? with
  | some (.own ds) => k.rt (.list ds)
  | some (.dat d) => k.rt d
  | _ => False
theorem gs_retO {i : Nat} {x : Str} {px : Pos} (hN : X.N[i]? = some x) (hv : Vis X.env.scope x) (hd : (x == ("__debug__" : Str)) = false := by decide) (hcd : (x == ("__classdict__" : Str)) = false := by decide) : GS X G (.Return (some (.Name x px)) pos) (wRetO i) := by
  refine ⟨tRet (tVar i), ps_ret (pe_var hN hv hd hcd), fun A σ H env k D m w l => ?_⟩
  unfold wRetO at w
  split at w
  · rename_i ds e
    obtain ⟨x, hx, p, xs, rfl, hp, h0, np, h, g⟩ := m.all i _ e
    refine ⟨_, hx, l.rt _ H _ m.back (.lst (fun z => ?_) h (IsAll.keep (fun a o n e => ⟨fun z => n (m.a0 a z), e⟩) _ _ g)) w⟩
    obtain ⟨o, e⟩ := m.h0 p z
    rw [h0] at e
    cases e
  · rename_i d e
    obtain ⟨x, hx, v, rfl, h⟩ := m.all i _ e
    exact ⟨v, hx, l.rt _ H _ m.back (Is.keep (fun a o n e => ⟨fun z => n (m.a0 a z), e⟩) d v h) w⟩
  · exact w.elim
def wIf (tc : DT) (w u : DS) : DS := fun k env => tc env fun b => if b = true then w k env else u k env
theorem gs_if (hc : GT X G c tc) (ha : GSs X G sa w) (hb : GSs X G sb u) : GS X G (.If c sa sb pos) (wIf tc w u) := by
  obtain ⟨tc, pc, hc⟩ := hc
  obtain ⟨ta, pa, ha⟩ := ha
  obtain ⟨tb, pb, hb⟩ := hb
  refine ⟨tIfS tc ta tb, ps_if pc pa pb, fun A σ H env k D m w l => ?_⟩
  refine hc A σ H env _ _ m w fun b H' s w => ?_
  have l' := l.on (m.pres s)
  split at w
  · rename_i e
    rw [if_pos e]
    exact ha A σ H' env k D (m.step s) w l'
  · rename_i e
    rw [if_neg e]
    exact hb A σ H' env k D (m.step s) w l'

/-! targets -/
abbrev DG := PyData → Env → (Env → Prop) → Prop
abbrev DGs := List PyData → Env → (Env → Prop) → Prop
/-- alike but for some slots -/
def Agree (ts : List Nat) (σ σ' : L2.St) : Prop := σ'.length = σ.length ∧ ∀ j, j ∉ ts → σ'[j]? = σ[j]?
theorem Agree.refl {ts : List Nat} {σ : L2.St} : Agree ts σ σ := ⟨rfl, fun _ _ => rfl⟩
theorem Agree.trans {ts us : List Nat} {σ σ1 σ2 : L2.St} (a : Agree ts σ σ1) (b : Agree us σ1 σ2) : Agree (ts ++ us) σ σ2 :=
  ⟨b.1.trans a.1, fun j n => (b.2 j fun z => n (List.mem_append_right _ z)).trans (a.2 j fun z => n (List.mem_append_left _ z))⟩
structure GG (X : Cx) (G : Gh) (tg : Expr) (ts : List Nat) (dg : DG) : Prop where
  ex : ∃ g, PG X tg g ∧ ∀ (A : List Addr) (σ : L2.St) (H : Hp) (env : Env) (v : V) (d : PyData) (P : Env → Prop) (Q : L2.St → Hp → Prop), MA X.K G A σ H env → Is X.K A H v d → dg d env P →
    (∀ σ' env', Agree ts σ σ' → MA X.K G A σ' H env' → P env' → Q σ' H) → g v σ H Q
structure GGs (X : Cx) (G : Gh) (tgs : List Expr) (ts : List Nat) (dg : DGs) : Prop where
  ex : ∃ g, PGs X tgs g ∧ ∀ (A : List Addr) (σ : L2.St) (H : Hp) (env : Env) (vs : List V) (ds : List PyData) (P : Env → Prop) (Q : L2.St → Hp → Prop), MA X.K G A σ H env → IsAll X.K A H vs ds → dg ds env P →
    (∀ σ' env', Agree ts σ σ' → MA X.K G A σ' H env' → P env' → Q σ' H) → g vs σ H Q
def gN (i : Nat) : DG := fun d env P => P (env.set i (.dat d))
theorem gg_name {i : Nat} {x : Str} {px : Pos} (hN : X.N.Nodup) (hi : X.N[i]? = some x) (hx : Loc X.env.scope x) (hf : X.fn x = true ∨ X.env.scope.names.lookup x = some .local := by first | exact .inl rfl | exact .inr rfl | assumption) : GG X G (.Name x px) [i] (gN i) :=
  ⟨gName i, pg_name hN hi hx hf, fun A σ H env v d P Q m iv w q => q _ _ ⟨List.length_set .., fun j n => List.getElem?_set_ne (fun z => n (by rw [z]; exact List.mem_singleton_self _))⟩ (m.setD i iv) w⟩
def gNl : DGs := fun ds env P => match ds with
  | [] => P env
  | _ => False
def gCn (g : DG) (r : DGs) : DGs := fun ds env P => match ds with
  | d :: ds => g d env fun env => r ds env P
  | _ => False
theorem ggs_nil : GGs X G [] [] gNl := by
  refine ⟨gNil, pgs_nil, fun A σ H env vs ds P Q m i w q => ?_⟩
  cases i with
  | nil => exact ⟨rfl, q _ _ Agree.refl m w⟩
  | cons _ _ => exact w.elim
theorem ggs_cons {es : List Expr} {t1 t2 : List Nat} {g : DG} {r : DGs} (h1 : GG X G e t1 g) (h2 : GGs X G es t2 r)
    (hs : (assignEach (e :: es) X.env).map (·.2) = assign e X.env :: (assignEach es X.env).map (·.2) := by rfl) : GGs X G (e :: es) (t1 ++ t2) (gCn g r) := by
  obtain ⟨g, p, h⟩ := h1
  obtain ⟨g2, p2, h2⟩ := h2
  refine ⟨gCons g g2, pgs_cons p p2 hs, fun A σ H env vs ds P Q m i w q => ?_⟩
  cases i with
  | nil => exact w.elim
  | cons i is => exact ⟨_, _, rfl, h A σ H env _ _ _ _ m i w fun σ' env' ag m' w' => h2 A σ' H env' _ _ P Q m' is w' fun σ2 env2 ag2 => q σ2 env2 (ag.trans ag2)⟩
def gTu (n : Nat) (r : DGs) : DG := fun d env P => match d with
  | .tuple ds => ds.length = n ∧ r ds env P
  | _ => False
theorem gg_tup {es : List Expr} {ts : List Nat} {k n : Nat} {r : DGs} {px : Pos} (hc : X.calm = true) (h : GGs X G es ts r)
    (hn : (assignEach es X.env).length = n := by rfl) (hst : (assignEach es X.env).findIdx? (·.1) = none := by rfl) : GG X G (.Tuple es k px) ts (gTu n r) := by
  obtain ⟨g, p, h⟩ := h
  refine ⟨gTup X.K n g, pg_tup hc p hn hst, fun A σ H env v d P Q m i w q => ?_⟩
  unfold gTu at w
  split at w
  · obtain ⟨a, xs, rfl, hs, g⟩ := i.tuple
    exact ⟨a, xs, rfl, hs, by rw [g.len]; exact w.1, h A σ H env _ _ P Q m g w.2 q⟩
  · exact w.elim
def wAsg (ea : DE) (g : DG) : DS := fun k env => ea env fun d => g d env k.nx
theorem gs_asg {tg : Expr} {ts : List Nat} {g : DG} (he : GE X G e ea) (hg : GG X G tg ts g) (hs : swapsWithSole [tg] e pos.line X.env = pure false := by rfl) (hw : swappedStores [tg] e X.env = pure none := by rfl)
    (h1 : (assignEach [tg] X.env).map (·.2) = [assign tg X.env] := by rfl) : GS X G (.Assign [tg] e pos) (wAsg ea g) := by
  obtain ⟨t, p, h⟩ := he
  obtain ⟨g, pg, hg⟩ := hg
  refine ⟨tAsg t g, ps_asg p pg hs hw h1, fun A σ H env k D m w l => ?_⟩
  refine h A σ H env _ _ m w fun v H' d s i w => ?_
  exact hg A σ H' env v d _ _ (m.step s) i w fun σ' env' _ m' w' => l.nx A σ' H' env' (m.pres s) m' w'
def wDrop (ea : DE) : DS := fun k env => ea env fun _ => k.nx env
theorem gs_drop (he : GE X G e ea) (hs : swapsWith e none pos.line X.env = pure false := by rfl) : GS X G (.Expr e pos) (wDrop ea) := by
  obtain ⟨t, p, h⟩ := he
  refine ⟨tDrop t, ps_expr p hs, fun A σ H env k D m w l => ?_⟩
  exact h A σ H env _ _ m w fun v H' d s i w => l.nx A σ H' env (m.pres s) (m.step s) w

/-! lists of the def's own -/
structure GF (X : Cx) (G : Gh) (e : Expr) (ev : DA) : Prop where
  ex : ∃ t, PE X e t ∧ ∀ (A : List Addr) (σ : L2.St) (H : Hp) (env : Env) (P : List PyData → Prop) (Q : VK), MA X.K G A σ H env → ev env P →
    (∀ p H1 vs ds, Step G.pp H H1 → H1 p = none → IsAll X.K A H1 vs ds → P ds → Q (.ref p) (upd H1 p (.lst vs))) → t σ H Q
theorem gf_lst {es : List Expr} {er : DA} (h : GA X G es er) : GF X G (.List es pos) (fun env P => er env fun ds => ds.length ≤ 100000 ∧ P ds) := by
  obtain ⟨t, p, h⟩ := h
  refine ⟨tLst t, pe_lst p, fun A σ H env P Q m w q => ?_⟩
  refine h A σ H env _ _ m w fun vs H1 ds s i w => ?_
  exact ⟨i.len ▸ sz_of w.1, fun p n => q p H1 vs ds s n i w.2⟩
def wOwn (i : Nat) (ev : DA) : DS := fun k env => ev env fun ds => k.nx (env.set i (.own ds))
theorem gs_own {i : Nat} {x : Str} {px : Pos} {ev : DA} (he : GF X G e ev) (hN : X.N.Nodup) (hi : X.N[i]? = some x) (hx : Loc X.env.scope x)
    (hs : swapsWithSole [.Name x px] e pos.line X.env = pure false := by rfl) (hw : swappedStores [.Name x px] e X.env = pure none := by rfl)
    (h1 : (assignEach [.Name x px] X.env).map (·.2) = [assign (.Name x px) X.env] := by rfl)
    (hf : X.fn x = true ∨ X.env.scope.names.lookup x = some .local := by first | exact .inl rfl | exact .inr rfl | assumption) : GS X G (.Assign [.Name x px] e pos) (wOwn i ev) := by
  obtain ⟨t, p, h⟩ := he
  refine ⟨tAsg t (gName i), ps_asg p (pg_name hN hi hx hf) hs hw h1, fun A σ H env k D m w l => ?_⟩
  refine h A σ H env _ _ m w fun p H1 vs ds s n g w => ?_
  have m1 := m.step s
  have m2 := m1.more (o := .lst vs) n
  have nH : G.H0 p = none := by
    cases z : G.H0 p with
    | none => rfl
    | some o =>
      by_cases y : some p = G.pp
      · obtain ⟨a, b, e, _⟩ := (m1.pp p y.symm).2
        rw [n] at e
        cases e
      · have := m1.hist p o y z
        rw [n] at this
        cases this
  have np : some p ≠ G.pp := fun y => by
    obtain ⟨a, b, e, _⟩ := (m1.pp p y.symm).2
    rw [n] at e
    cases e
  have g2 : IsAll X.K (p :: A) (upd H1 p (.lst vs)) vs ds := IsAll.keep (fun a u na e => by
    have ne := ne_of_none e n
    exact ⟨fun q => by rcases List.mem_cons.mp q with q | q; exact ne q; exact na q, by rw [upd_ne ne]; exact e⟩) _ _ g
  have m3 := m2.setO i (List.mem_cons_self ..) nH np (fun j nj es ej ej2 => by
    obtain ⟨x, hx, q, zs, rfl, _, _, _, hq, _⟩ := m1.all j _ ej
    rw [ej2] at hx
    cases hx
    rw [n] at hq
    cases hq) upd_same g2
  exact l.nx _ _ _ _ ((m.pres s).trans (m1.morePres n)) m3 w
/-- x.append(e) -/
def wApp (i : Nat) (ea : DE) : DS := fun k env => match env[i]? with
  | some (.own ds) => ea env fun d => ds.length < 100000 ∧ k.nx (env.set i (.own (ds ++ [d])))
  | _ => False
theorem sz_lt {n : Nat} (h : n < 100000) : n < sizeLine := Nat.lt_of_lt_of_le h (by decide)
theorem gs_app {i : Nat} {x : Str} {px apos cpos : Pos} (he : GE X G e ea) (hN : X.N[i]? = some x) (hv : Vis X.env.scope x)
    (hd : (x == ("__debug__" : Str)) = false := by decide) (hcd : (x == ("__classdict__" : Str)) = false := by decide)
    (hbase : attributeBase (.Name x px) "append" X.env (eval (.Name x px) X.env) = eval (.Name x px) X.env := by rfl)
    (hfew : ((backTo cpos (starEach [e] X.env)).all (fun x => !x.1) && (backToKw cpos (keywordEach [] X.env)).all (fun x => x.1.isSome)
      && decide (([e] : List Expr).length + ([] : List Keyword).length + (if ([] : List Keyword).isEmpty then 0 else 1) < 30)) = true := by rfl)
    (hline : (apos.endLine == cpos.line) = true := by rfl) (hst : starEach [e] X.env = (false, eval e X.env) :: starEach [] X.env := by rfl) (hplain : (backTo cpos (starEach [] X.env)).any (·.1) = false := by rfl)
    (hs : swapsWith (.Call (.Attribute (.Name x px) "append" apos) [e] [] cpos) none pos.line X.env = pure false := by rfl) : GS X G (.Expr (.Call (.Attribute (.Name x px) "append" apos) [e] [] cpos) pos) (wApp i ea) := by
  obtain ⟨t, p, h⟩ := he
  refine ⟨_, ps_expr (pe_bm PySem.F.plainAttrs_list PySem.F.slot_list_append PySem.F.type_list_append mt_append (pe_var hN hv hd hcd) (pa_cons p pa_nil hst) hbase hfew hline hst hplain) hs, fun A σ H env k D m w l => ?_⟩
  unfold wApp at w
  split at w
  · rename_i ds ei
    obtain ⟨y, hy, q, xs, rfl, hp, h0, np, hq, g⟩ := m.all i _ ei
    refine ⟨_, hy, .inl ⟨rfl, xs, .inl (.inl hq)⟩, ?_⟩
    refine h A σ H env _ _ m w fun v H' d s iv w => ?_
    have hq' := s.k _ _ np hq
    have g' := g.step m s
    refine ⟨q, xs, v, rfl, rfl, hq', by rw [g.len]; exact sz_lt w.1, ?_⟩
    obtain ⟨m2, pr⟩ := (m.step s).putO ei hy (IsAll.app g' (.cons iv .nil))
    exact l.nx A σ _ _ ((m.pres s).trans pr) m2 w.2
  · exact w.elim
/-- x.extend(e), e a list that stands -/
def wExt (i : Nat) (ea : DE) : DS := fun k env => match env[i]? with
  | some (.own ds) => ea env fun d => match d with
    | .list es => ds.length + es.length ≤ 100000 ∧ k.nx (env.set i (.own (ds ++ es)))
    | _ => False
  | _ => False
theorem gs_ext {i : Nat} {x : Str} {px apos cpos : Pos} (he : GE X G e ea) (hN : X.N[i]? = some x) (hv : Vis X.env.scope x)
    (hd : (x == ("__debug__" : Str)) = false := by decide) (hcd : (x == ("__classdict__" : Str)) = false := by decide)
    (hbase : attributeBase (.Name x px) "extend" X.env (eval (.Name x px) X.env) = eval (.Name x px) X.env := by rfl)
    (hfew : ((backTo cpos (starEach [e] X.env)).all (fun x => !x.1) && (backToKw cpos (keywordEach [] X.env)).all (fun x => x.1.isSome)
      && decide (([e] : List Expr).length + ([] : List Keyword).length + (if ([] : List Keyword).isEmpty then 0 else 1) < 30)) = true := by rfl)
    (hline : (apos.endLine == cpos.line) = true := by rfl) (hst : starEach [e] X.env = (false, eval e X.env) :: starEach [] X.env := by rfl) (hplain : (backTo cpos (starEach [] X.env)).any (·.1) = false := by rfl)
    (hs : swapsWith (.Call (.Attribute (.Name x px) "extend" apos) [e] [] cpos) none pos.line X.env = pure false := by rfl) : GS X G (.Expr (.Call (.Attribute (.Name x px) "extend" apos) [e] [] cpos) pos) (wExt i ea) := by
  obtain ⟨t, p, h⟩ := he
  refine ⟨_, ps_expr (pe_bm PySem.F.plainAttrs_list PySem.F.slot_list_extend PySem.F.type_list_extend mt_extend (pe_var hN hv hd hcd) (pa_cons p pa_nil hst) hbase hfew hline hst hplain) hs, fun A σ H env k D m w l => ?_⟩
  unfold wExt at w
  split at w
  · rename_i ds ei
    obtain ⟨y, hy, q, xs, rfl, hp, h0, np, hq, g⟩ := m.all i _ ei
    refine ⟨_, hy, .inl ⟨rfl, xs, .inl (.inl hq)⟩, ?_⟩
    refine h A σ H env _ _ m w fun v H' d s iv w => ?_
    have hq' := s.k _ _ np hq
    have g' := g.step m s
    split at w
    · obtain ⟨b, zs, rfl, hb, gz⟩ := iv.list
      refine ⟨q, b, xs, zs, rfl, rfl, hq', hb, by rw [g.len, gz.len]; exact sz_of w.1, ?_⟩
      obtain ⟨m2, pr⟩ := (m.step s).putO ei hy (IsAll.app g' gz)
      exact l.nx A σ _ _ ((m.pres s).trans pr) m2 w.2
    · exact w.elim
  · exact w.elim
end
end Dl
/-! text Dl4 -/
/-! Dl4: what is walked, for, while, comprehensions. -/
namespace Dl
open PySem L2
/-- a walk over data: it goes on while there is an item, hands it, then stops, whatever else has changed -/
def ItOk (K : PySem.W.Frag) (J : It) (A : List Addr) (H : Hp) (ds : List PyData) : Prop :=
  ∀ A' H', Pres K A H A' H' → (∀ a ∈ A', ∃ o, H' a = some o) → ∀ i : Nat,
    (∀ d, ds[i]? = some d → J.go i H' ∧ ∀ x H'', J.yld i H' x H'' → (∀ a o, H' a = some o → H'' a = some o) ∧ Is K A' H'' x d) ∧ (ds.length ≤ i → J.stop i H')
theorem ItOk.on {K : PySem.W.Frag} {J : It} {A A1 : List Addr} {H H1 : Hp} {ds : List PyData} (h : ItOk K J A H ds) (p : Pres K A H A1 H1) : ItOk K J A1 H1 ds := fun A' H' q al i => h A' H' (p.trans q) al i
structure GI (X : Cx) (G : Gh) (tg iter : Expr) (di : DA) : Prop where
  ex : ∃ wi, PI X tg iter wi ∧ ∀ (A : List Addr) (σ : L2.St) (H : Hp) (env : Env) (P : List PyData → Prop) (R : It → Hp → Prop), MA X.K G A σ H env → di env P →
    (∀ J H' ds, Step G.pp H H' → ItOk X.K J A H' ds → P ds → R J H') → wi σ H R
section
variable {X : Cx} {G : Gh} {a b c e tg : Expr} {ea eb ec : DE} {ta tb tc : DT} {pos p : Pos} {K : PySem.W.Frag}
/-! a list, a tuple -/
def dL (ea : DE) : DA := fun env P => ea env fun d => match d with
  | .list ds => P ds
  | _ => False
def dT (ea : DE) : DA := fun env P => ea env fun d => match d with
  | .tuple ds => P ds
  | _ => False
theorem itl_ok {A : List Addr} {H : Hp} {q : Addr} {ds : List PyData} (h : Is K A H (.ref q) (.list ds)) : ItOk K (Itl K q) A H ds := by
  intro A' H' pr al i
  obtain ⟨a, xs, e, hx, g⟩ := (pr _ _ h).list
  cases e
  refine ⟨fun d hd => ?_, fun l => ⟨xs, .inl (.inl hx), by rw [g.len]; exact l⟩⟩
  obtain ⟨v, hv, iv⟩ := g.get hd
  refine ⟨⟨xs, v, .inl (.inl hx), hv⟩, ?_⟩
  rintro x H'' ⟨rfl, y⟩
  have e := y xs (.inl (.inl hx))
  rw [hv] at e
  cases e
  exact ⟨fun _ _ h => h, iv⟩
theorem itt_ok {A : List Addr} {H : Hp} {q : Addr} {ds : List PyData} (h : Is K A H (.ref q) (.tuple ds)) : ItOk K (Itt K q) A H ds := by
  intro A' H' pr al i
  obtain ⟨a, xs, e, hx, g⟩ := (pr _ _ h).tuple
  cases e
  refine ⟨fun d hd => ?_, fun l => ⟨xs, hx, by rw [g.len]; exact l⟩⟩
  obtain ⟨v, hv, iv⟩ := g.get hd
  refine ⟨⟨xs, v, hx, hv⟩, ?_⟩
  rintro x H'' ⟨rfl, y⟩
  have e := y xs hx
  rw [hv] at e
  cases e
  exact ⟨fun _ _ h => h, iv⟩
theorem gi_list (h : GE X G e ea) : GI X G tg e (dL ea) := by
  obtain ⟨t, p, h⟩ := h
  refine ⟨_, pi_list p, fun A σ H env P R m w q => ?_⟩
  refine h A σ H env _ _ m w fun v H' d s i w => ?_
  split at w
  · obtain ⟨a, xs, rfl, hx, g⟩ := i.list
    exact ⟨a, rfl, ⟨xs, .inl (.inl hx)⟩, q _ H' _ s (itl_ok i) w⟩
  · exact w.elim
theorem gi_tup (h : GE X G e ea) : GI X G tg e (dT ea) := by
  obtain ⟨t, p, h⟩ := h
  refine ⟨_, pi_tup p, fun A σ H env P R m w q => ?_⟩
  refine h A σ H env _ _ m w fun v H' d s i w => ?_
  split at w
  · obtain ⟨a, xs, rfl, hx, g⟩ := i.tuple
    exact ⟨a, rfl, ⟨xs, hx⟩, q _ H' _ s (itt_ok i) w⟩
  · exact w.elim
/-! ranges -/
def rgD (lo : Int) (n : Nat) : List PyData := (List.range n).map fun i => .int (lo + (i : Nat))
theorem rgD_get {lo : Int} {n i : Nat} {d : PyData} (h : (rgD lo n)[i]? = some d) : i < n ∧ d = .int (lo + (i : Nat)) := by
  unfold rgD at h
  rw [List.getElem?_map] at h
  by_cases l : i < n
  · rw [List.getElem?_range l] at h
    exact ⟨l, (Option.some.inj h).symm⟩
  · rw [List.getElem?_eq_none (by rw [List.length_range]; omega)] at h
    cases h
theorem itr_ok {A : List Addr} {H : Hp} {lo : Int} {n : Nat} : ItOk K (Itr lo n) A H (rgD lo n) := by
  intro A' H' pr al i
  refine ⟨fun d hd => ?_, fun l => ?_⟩
  · obtain ⟨l, rfl⟩ := rgD_get hd
    refine ⟨l, ?_⟩
    rintro x H'' ⟨rfl, rfl⟩
    exact ⟨fun _ _ h => h, .int _⟩
  · unfold rgD at l
    rw [List.length_map, List.length_range] at l
    exact l
def dR1 (ea : DE) : DA := fun env P => ea env fun d => match d with
  | .int n => -100000 ≤ n ∧ n ≤ 100000 ∧ P (rgD 0 n.toNat)
  | _ => False
def dR2 (ea eb : DE) : DA := fun env P => ea env fun x => eb env fun y => match x, y with
  | .int a, .int b => -100000 ≤ a ∧ a ≤ 100000 ∧ -100000 ≤ b ∧ b ≤ 100000 ∧ P (rgD a (b - a).toNat)
  | _, _ => False
theorem gi_range1 (h : GE X G e ea) (hg : Gl X "range") (hm : X.mg "range" = none) (hs : starEach [e] X.env = (false, eval e X.env) :: starEach [] X.env := by rfl) : GI X G tg (.Call (.Name "range" p) [e] [] pos) (dR1 ea) := by
  obtain ⟨t, pe, h⟩ := h
  refine ⟨_, pi_range1 hg hm (pa_cons pe pa_nil hs) hs, fun A σ H env P R m w q => ?_⟩
  refine h A σ H env _ _ m w fun v H' d s i w => ?_
  split at w
  · cases i
    obtain ⟨w1, w2, w3⟩ := w
    exact ⟨_, rfl, by omega, by omega, q _ H' _ s itr_ok w3⟩
  · exact w.elim
theorem gi_range2 (h : GE X G a ea) (h2 : GE X G b eb) (hg : Gl X "range") (hm : X.mg "range" = none) (hs : starEach [a, b] X.env = (false, eval a X.env) :: starEach [b] X.env := by rfl) (hs2 : starEach [b] X.env = (false, eval b X.env) :: starEach [] X.env := by rfl) : GI X G tg (.Call (.Name "range" p) [a, b] [] pos) (dR2 ea eb) := by
  obtain ⟨t, pe, h⟩ := h
  obtain ⟨t2, pe2, h2⟩ := h2
  refine ⟨_, pi_range2 hg hm (pa_cons pe (pa_cons pe2 pa_nil hs2) hs) (hs.trans (by rw [hs2]; rfl)) hs2, fun A σ H env P R m w q => ?_⟩
  refine h A σ H env _ _ m w fun v H' d s i w => ?_
  refine h2 A σ H' env _ _ (m.step s) w fun v2 H2 d2 s2 i2 w => ?_
  split at w
  · cases i
    cases i2
    obtain ⟨w1, w2, w3, w4, w5⟩ := w
    exact ⟨_, _, rfl, ⟨by omega, by omega, by omega, by omega⟩, q _ H2 _ (s.trans s2) itr_ok w5⟩
  · exact w.elim
/-! enumerate, zip of lists -/
def enD (ds : List PyData) : List PyData := ds.zipIdx.map fun p => .tuple [.int (p.2 : Nat), p.1]
theorem enD_get {ds : List PyData} {i : Nat} {d : PyData} (h : (enD ds)[i]? = some d) : ∃ x, ds[i]? = some x ∧ d = .tuple [.int (i : Nat), x] := by
  unfold enD at h
  rw [List.getElem?_map, List.getElem?_zipIdx] at h
  cases e : ds[i]? with
  | none => rw [e] at h; cases h
  | some x =>
    rw [e] at h
    have h := Option.some.inj h
    refine ⟨x, rfl, ?_⟩
    rw [← h]
    simp
theorem enD_len {ds : List PyData} : (enD ds).length = ds.length := by unfold enD; rw [List.length_map, List.length_zipIdx]
theorem ite_ok {A : List Addr} {H : Hp} {q : Addr} {ds : List PyData} (h : Is K A H (.ref q) (.list ds)) : ItOk K (Ite K q) A H (enD ds) := by
  intro A' H' pr al i
  obtain ⟨a, xs, e, hx, g⟩ := (pr _ _ h).list
  cases e
  refine ⟨fun d hd => ?_, fun l => ⟨xs, .inl (.inl hx), by rw [g.len]; rw [enD_len] at l; exact l⟩⟩
  obtain ⟨y, hy, rfl⟩ := enD_get hd
  obtain ⟨v, hv, iv⟩ := g.get hy
  refine ⟨⟨xs, v, .inl (.inl hx), hv⟩, ?_⟩
  rintro x H'' ⟨T, z, rfl, n, rfl, y⟩
  have e := y xs (.inl (.inl hx))
  rw [hv] at e
  cases e
  exact ⟨keep_new n, Is.newT al n (.cons (.int _) (.cons iv .nil))⟩
def dEn (ea : DE) : DA := fun env P => ea env fun d => match d with
  | .list ds => P (enD ds)
  | _ => False
theorem gi_enum {elts : List Expr} {kk : Nat} {tpos : Pos} (h : GE X G e ea) (hg : Gl X "enumerate") (hm : X.mg "enumerate" = none) (hs : starEach [e] X.env = (false, eval e X.env) :: starEach [] X.env := by rfl) : GI X G (.Tuple elts kk tpos) (.Call (.Name "enumerate" p) [e] [] pos) (dEn ea) := by
  obtain ⟨t, pe, h⟩ := h
  refine ⟨_, pi_enum hg hm (pa_cons pe pa_nil hs) hs, fun A σ H env P R m w q => ?_⟩
  refine h A σ H env _ _ m w fun v H' d s i w => ?_
  split at w
  · obtain ⟨a, xs, rfl, hx, g⟩ := i.list
    exact ⟨a, xs, rfl, .inl (.inl hx), q _ H' _ s (ite_ok i) w⟩
  · exact w.elim

/-! for -/
def loopW (g : DG) (w : DS) : List PyData → DK → Env → Prop
  | [], k, env => k.nx env
  | d :: ds, k, env => g d env fun env1 => w { nx := fun e => loopW g w ds k e, ct := fun e => loopW g w ds k e, bk := k.nx, rt := k.rt } env1
def wFor (di : DA) (g : DG) (w : DS) : DS := fun k env => di env fun ds => loopW g w ds k env
theorem gs_for {iter : Expr} {body : List Stmt} {ts : List Nat} {di : DA} {g : DG} {w : DS} (hp : PassesOwn (model X.prog X.w) X.A X.env X.xe) (hc : X.calm = true) (hi : GI X G tg iter di) (hg : GG X G tg ts g) (hb : GSs X G body w)
    (hs : ∀ x, foldedSetIterable iter X.env x = pure x := by intro _; rfl) : GS X G (.For tg iter body [] pos) (wFor di g w) := by
  obtain ⟨wi, pi, hi⟩ := hi
  obtain ⟨g', pg, hg⟩ := hg
  obtain ⟨tb, pb, hb⟩ := hb
  refine ⟨tFor wi g' tb, ps_for hp hc pi pg pb hs, fun A σ H env k D m hw l => ?_⟩
  refine hi A σ H env _ _ m hw fun J H1 ds s it wl => ?_
  have m1 := m.step s
  have l1 := l.on (m.pres s)
  refine ⟨fun i n σ' H' => n = ds.length - i ∧ i ≤ ds.length ∧ ∃ A' env', Pres X.K A H1 A' H' ∧ MA X.K G A' σ' H' env' ∧ loopW g w (ds.drop i) k env', ⟨ds.length, by simp, Nat.zero_le _, A, env, Pres.refl, m1, wl⟩, ?_⟩
  rintro i n σ' H' ⟨rfl, hle, A', env', pr, m', wl'⟩
  have ok := it A' H' pr m'.al i
  by_cases lt : i < ds.length
  · right
    have ed : ds[i]? = some ds[i] := List.getElem?_eq_getElem lt
    rw [List.drop_eq_getElem_cons lt] at wl'
    obtain ⟨go, yld⟩ := ok.1 _ ed
    refine ⟨go, fun σ2 H2 => ∃ A2 env2, Pres X.K A H1 A2 H2 ∧ MA X.K G A2 σ2 H2 env2 ∧ loopW g w (ds.drop (i + 1)) k env2, fun σ2 H2 ⟨A2, env2, p2, m2, w2⟩ => ⟨_, by omega, rfl, lt, A2, env2, p2, m2, w2⟩, fun x H'' y => ?_⟩
    obtain ⟨kp, ix⟩ := yld x H'' y
    have sp : Step G.pp H' H'' := Step.of kp
    refine hg A' σ' H'' env' x _ _ _ (m'.step sp) ix wl' fun σ2 env2 _ m2 w2 => ?_
    refine hb A' σ2 H'' env2 _ _ m2 w2 ⟨fun A3 σ3 H3 env3 p3 m3 w3 => ?_, l1.rt, fun A3 σ3 H3 env3 p3 m3 w3 => ?_, fun A3 σ3 H3 env3 p3 m3 w3 => ?_⟩
    · exact ⟨A3, env3, (pr.trans (m'.pres sp)).trans p3, m3, w3⟩
    · exact l1.nx A3 σ3 H3 env3 ((pr.trans (m'.pres sp)).trans p3) m3 w3
    · exact ⟨A3, env3, (pr.trans (m'.pres sp)).trans p3, m3, w3⟩
  · left
    have e : i = ds.length := by omega
    subst e
    rw [List.drop_length] at wl'
    exact ⟨ok.2 (Nat.le_refl _), l1.nx A' σ' H' env' pr m' wl'⟩
/-! while -/
def wWhile (tc : DT) (w : DS) : DS := fun k env => ∃ W : Nat → Env → Prop, (∃ n, W n env) ∧ ∀ n env, W n env →
  tc env fun b => if b = true then w { nx := fun e => ∃ n', n' < n ∧ W n' e, ct := fun e => ∃ n', n' < n ∧ W n' e, bk := k.nx, rt := k.rt } env else k.nx env
theorem gs_while {body : List Stmt} {w : DS} (hp : PassesOwn (model X.prog X.w) X.A X.env X.xe) (hc : GT X G c tc) (hb : GSs X G body w) : GS X G (.While c body [] pos) (wWhile tc w) := by
  obtain ⟨t, pt, hc⟩ := hc
  obtain ⟨tb, pb, hb⟩ := hb
  refine ⟨tWhile t tb, ps_while hp pt pb, fun A σ H env k D m hw l => ?_⟩
  obtain ⟨W, ⟨n0, w0⟩, turn⟩ := hw
  refine ⟨fun n σ' H' => ∃ A' env', Pres X.K A H A' H' ∧ MA X.K G A' σ' H' env' ∧ W n env', ⟨n0, A, env, Pres.refl, m, w0⟩, ?_⟩
  rintro n σ' H' ⟨A', env', pr, m', wn⟩
  refine hc A' σ' H' env' _ _ m' (turn n env' wn) fun b H1 s w1 => ?_
  have m1 := m'.step s
  have pr1 := pr.trans (m'.pres s)
  split at w1
  · rename_i e
    rw [if_pos e]
    refine ⟨fun σ2 H2 => ∃ n', n' < n ∧ ∃ A2 env2, Pres X.K A H A2 H2 ∧ MA X.K G A2 σ2 H2 env2 ∧ W n' env2, fun σ2 H2 ⟨n', lt, h⟩ => ⟨n', lt, h⟩, ?_⟩
    refine hb A' σ' H1 env' _ _ m1 w1 ⟨fun A3 σ3 H3 env3 p3 m3 w3 => ?_, l.rt, fun A3 σ3 H3 env3 p3 m3 w3 => ?_, fun A3 σ3 H3 env3 p3 m3 w3 => ?_⟩
    · obtain ⟨n', lt, w3⟩ := w3
      exact ⟨n', lt, A3, env3, pr1.trans p3, m3, w3⟩
    · exact l.nx A3 σ3 H3 env3 (pr1.trans p3) m3 w3
    · obtain ⟨n', lt, w3⟩ := w3
      exact ⟨n', lt, A3, env3, pr1.trans p3, m3, w3⟩
  · rename_i e
    rw [if_neg e]
    exact l.nx A' σ' H1 env' pr1 m1 w1

/-! comprehensions -/
def tE (K : PySem.W.Frag) (G : Gh) (ev : DE) : TE := fun σ H Q => ∃ A env P, MA K G A σ H env ∧ ev env P ∧ ∀ v H' d, Step G.pp H H' → Is K A H' v d → P d → Q v H'
def tTT (K : PySem.W.Frag) (G : Gh) (ev : DT) : TT := fun σ H Q => ∃ A env P, MA K G A σ H env ∧ ev env P ∧ ∀ b H', Step G.pp H H' → P b → Q b H'
def tGG (K : PySem.W.Frag) (G : Gh) (ts : List Nat) (g : DG) : TG := fun v σ H Q => ∃ A env d P, MA K G A σ H env ∧ Is K A H v d ∧ g d env P ∧ ∀ σ' env', Agree ts σ σ' → MA K G A σ' H env' → P env' → Q σ' H
theorem GE.canon (h : GE X G e ea) : PE X e (tE X.K G ea) := by
  obtain ⟨t, p, h⟩ := h
  refine ⟨fun pins s σ H Q I ⟨A, env, P, m, w, q⟩ => p.run pins s σ H Q I (h A σ H env P Q m w q)⟩
theorem GT.canon (h : GT X G c tc) : PT X c (tTT X.K G tc) := by
  obtain ⟨t, p, h⟩ := h
  refine ⟨fun pins s σ H Q I ⟨A, env, P, m, w, q⟩ => p.run pins s σ H Q I (h A σ H env P Q m w q)⟩
theorem GG.canon {ts : List Nat} {g : DG} (h : GG X G tg ts g) : PG X tg (tGG X.K G ts g) := by
  obtain ⟨t, p, h⟩ := h
  refine ⟨fun pins s σ H v u Q I r ⟨A, env, d, P, m, i, w, q⟩ => p.run pins s σ H v u Q I r (h A σ H env v d P Q m i w q)⟩
def wipeE (env : Env) : List Nat → Env
  | [] => env
  | v :: vs => (wipeE env vs).set v .un
theorem MA.un {A : List Addr} {σ : L2.St} {H : Hp} {env : Env} (m : MA K G A σ H env) (i : Nat) (x : Option V) : MA K G A (σ.set i x) H (env.set i .un) where
  len := by rw [List.length_set, List.length_set, m.len]
  all j s e := by
    rcases set_get e with ⟨rfl, rfl⟩ | ⟨n, e⟩
    · have lt : i < (env.set i Sl.un).length := (List.getElem?_eq_some_iff.mp e).1
      rw [List.length_set, ← m.len] at lt
      exact ⟨x, by rw [List.getElem?_set_self lt], trivial⟩
    · obtain ⟨x, hx, h⟩ := m.all j s e
      exact ⟨x, by rw [List.getElem?_set_ne n]; exact hx, h⟩
  uni a b da db n ea eb := by
    rcases set_get ea with ⟨_, e⟩ | ⟨na, ea⟩
    · cases e
    rcases set_get eb with ⟨_, e⟩ | ⟨nb, eb⟩
    · cases e
    rw [List.getElem?_set_ne na, List.getElem?_set_ne nb]
    exact m.uni a b da db n ea eb
  al := m.al
  a0 := m.a0
  h0 := m.h0
  pp := m.pp
  hist := m.hist
theorem MA.wipe {A : List Addr} {σ : L2.St} {H : Hp} {env : Env} (m : MA K G A σ H env) : ∀ vs : List Nat, MA K G A (wipe σ vs) H (wipeE env vs)
  | [] => m
  | v :: vs => (MA.wipe m vs).un v none
theorem wipe_get (σ : L2.St) : ∀ (vs : List Nat) (j : Nat), (wipe σ vs)[j]? = if j ∈ vs then (if j < σ.length then some none else none) else σ[j]?
  | [], j => by simp [wipe]
  | v :: vs, j => by
    unfold wipe
    rw [List.getElem?_set, wipe_length, wipe_get σ vs j]
    by_cases e : v = j
    · subst e
      simp
    · rw [if_neg e]
      have : (j ∈ v :: vs) ↔ j ∈ vs := by
        rw [List.mem_cons]
        exact ⟨fun h => h.elim (fun z => absurd z.symm e) id, .inr⟩
      simp only [this]
theorem wipe_agree {σ σ2 : L2.St} {ts vs : List Nat} (ag : Agree ts (wipe σ vs) σ2) (sub : ∀ t ∈ ts, t ∈ vs) : wipe σ2 vs = wipe σ vs := by
  have hl : σ2.length = σ.length := by rw [ag.1, wipe_length]
  apply List.ext_getElem?
  intro j
  rw [wipe_get, wipe_get, hl]
  by_cases h : j ∈ vs
  · rw [if_pos h, if_pos h]
  · rw [if_neg h, if_neg h, ag.2 j (fun z => h (sub j z)), wipe_get, if_neg h]
/-- without what stands at D -/
def hide (H : Hp) (D : Addr) : Hp := fun b => if b = D then none else H b
theorem hide_self {H : Hp} {D : Addr} : hide H D D = none := by unfold hide; rw [if_pos rfl]
theorem hide_ne {H : Hp} {D a : Addr} (h : a ≠ D) : hide H D a = H a := by unfold hide; rw [if_neg h]
theorem upd_hide {H : Hp} {D : Addr} {o : HO} : upd (hide H D) D o = upd H D o := by
  funext b
  by_cases h : b = D
  · subst h; rw [upd_same, upd_same]
  · rw [upd_ne h, upd_ne h, hide_ne h]
theorem upd_id {H : Hp} {D : Addr} {o : HO} (h : H D = some o) : upd H D o = H := by
  funext b
  by_cases e : b = D
  · subst e; rw [upd_same, h]
  · rw [upd_ne e]
/-- what a comprehension's turn leaves, told without its list -/
theorem turn_hide {A : List Addr} {H1 H2 H4 : Hp} {D : Addr} {ac : List V} {acc : List PyData} {pp : Option Addr} (np : some D ≠ pp) (nD1 : H1 D = none) (s2 : Step pp H1 H2) (nD2 : H2 D = none) (hpp : ∀ p, pp = some p → p ∈ A)
    (ga : IsAll K A H2 ac acc) (s4 : Step pp (upd H2 D (.lst ac)) H4) (pot : ∀ p, pp = some p → PotAt H1 p → PotAt H4 p) : Step pp H1 (hide H4 D) ∧ IsAll K A (hide H4 D) ac acc ∧ H4 D = some (.lst ac) := by
  refine ⟨⟨fun a o n e => ?_, fun p e h => ?_⟩, IsAll.keep (fun a o n e => ⟨n, ?_⟩) _ _ ga, s4.k D _ np upd_same⟩
  · have ne : a ≠ D := ne_of_none e nD1
    rw [hide_ne ne]
    refine s4.k a o n ?_
    rw [upd_ne ne]
    exact s2.k a o n e
  · have ne : p ≠ D := fun z => np (by rw [← z]; exact e.symm)
    obtain ⟨x, y, h, r⟩ := pot p e h
    exact ⟨x, y, by rw [hide_ne ne]; exact h, r⟩
  · have ne : a ≠ D := ne_of_none e nD2
    rw [hide_ne ne]
    refine s4.k a o (fun z => n (hpp a z.symm)) ?_
    rw [upd_ne ne]
    exact e
def lcW (g : DG) (t : DT) (ev : DE) (env : Env) (P : List PyData → Prop) : List PyData → List PyData → Prop
  | [], acc => P acc
  | d :: ds, acc => g d env fun env1 => t env1 fun b => if b = true then ev env1 fun y => acc.length < 100000 ∧ lcW g t ev env P ds (acc ++ [y]) else lcW g t ev env P ds acc
/-- [elt for tg in iter if ..]: a new list -/
def dLc (di : DA) (g : DG) (t : DT) (ev : DE) (vs : List Nat) : DA := fun env P => di env fun ds => lcW g t ev (wipeE env vs) P ds []
def tYesD : DT := fun _ P => P true
theorem ptsYes {X : Cx} : ∀ {K : PySem.W.Frag}, PTs X [] (tTT K G tYesD) → True := fun _ => trivial
theorem lc_sem {wi : TI} {ts vs : List Nat} {di : DA} {g : DG} {t : DT} {ev : DE} (hi : ∀ (A : List Addr) (σ : L2.St) (H : Hp) (env : Env) (P : List PyData → Prop) (R : It → Hp → Prop), MA X.K G A σ H env → di env P →
    (∀ J H' ds, Step G.pp H H' → ItOk X.K J A H' ds → P ds → R J H') → wi σ H R) (sub : ∀ t ∈ ts, t ∈ vs) (A : List Addr) (σ : L2.St) (H : Hp) (env : Env) (P : List PyData → Prop) (Q : VK) (m : MA X.K G A σ H env) (w : dLc di g t ev vs env P)
    (q : ∀ p H1 vs ds, Step G.pp H H1 → H1 p = none → IsAll X.K A H1 vs ds → P ds → Q (.ref p) (upd H1 p (.lst vs))) : tLc wi (tGG X.K G ts g) (tTT X.K G t) (tE X.K G ev) vs σ H Q := by
  refine hi A σ H env _ _ m w fun J H1 ds s it wl D nD => ?_
  have m1 := m.step s
  -- the state at a turn: the new list at D, all else stepped
  refine ⟨fun i n H' => n = ds.length - i ∧ i ≤ ds.length ∧ ∃ (H2 : Hp) (ac : List V) (acc : List PyData), H' = upd H2 D (.lst ac) ∧ Step G.pp H1 H2 ∧ H2 D = none ∧ IsAll X.K A H2 ac acc ∧ acc.length ≤ 100000 ∧ lcW g t ev (wipeE env vs) P (ds.drop i) acc,
    ⟨ds.length, by simp, Nat.zero_le _, H1, [], [], rfl, Step.refl, nD, .nil, Nat.zero_le _, wl⟩, ?_⟩
  rintro i n H' ⟨rfl, hle, H2, ac, acc, rfl, s2, nD2, ga, la, wl'⟩
  have m2 := m1.step s2
  have m3 := (m2.more (o := .lst ac) nD2).wipe vs
  have pr3 : Pres X.K A H1 (D :: A) (upd H2 D (.lst ac)) := (m1.pres s2).trans (m2.morePres nD2)
  have ok := it (D :: A) (upd H2 D (.lst ac)) pr3 m3.al i
  by_cases lt : i < ds.length
  · right
    have ed : ds[i]? = some ds[i] := List.getElem?_eq_getElem lt
    rw [List.drop_eq_getElem_cons lt] at wl'
    obtain ⟨go, yld⟩ := ok.1 _ ed
    refine ⟨go, fun H3 => ∃ (H2 : Hp) (ac : List V) (acc : List PyData), H3 = upd H2 D (.lst ac) ∧ Step G.pp H1 H2 ∧ H2 D = none ∧ IsAll X.K A H2 ac acc ∧ acc.length ≤ 100000 ∧ lcW g t ev (wipeE env vs) P (ds.drop (i + 1)) acc, fun H3 h => ⟨_, by omega, rfl, lt, h⟩, fun x H'' y => ?_⟩
    obtain ⟨kp, ix⟩ := yld x H'' y
    have sp : Step G.pp (upd H2 D (.lst ac)) H'' := Step.of kp
    have npD : some D ≠ G.pp := fun z => by
      obtain ⟨a, b, e, _⟩ := (m1.pp D z.symm).2
      rw [nD] at e
      cases e
    have potS : ∀ {Hx : Hp}, Step G.pp (upd H2 D (.lst ac)) Hx → ∀ p, G.pp = some p → PotAt H1 p → PotAt Hx p := fun {Hx} sx p e h => by
      refine sx.p p e ?_
      obtain ⟨a, b, h, r⟩ := s2.p p e h
      have ne : p ≠ D := fun z => npD (by rw [← z]; exact e.symm)
      exact ⟨a, b, by rw [upd_ne ne]; exact h, r⟩
    have hppA : ∀ p, G.pp = some p → p ∈ A := fun p e => m1.ppA e
    refine ⟨D :: A, _, _, _, m3.step sp, ix, wl', fun σ2 env2 ag m4 w4 => ⟨wipe_agree ag sub, ?_⟩⟩
    refine ⟨D :: A, env2, _, m4, w4, fun b H3 s3 w5 => ?_⟩
    cases b with
    | false =>
      simp only [Bool.false_eq_true, if_false] at w5 ⊢
      obtain ⟨h1, h2, h3⟩ := turn_hide npD nD s2 nD2 hppA ga (sp.trans s3) (potS (sp.trans s3))
      exact ⟨hide H3 D, ac, acc, by rw [upd_hide, upd_id h3], h1, hide_self, h2, la, w5⟩
    | true =>
      simp only [if_true] at w5 ⊢
      refine ⟨D :: A, env2, _, m4.step s3, w5, fun v H4 d s5 iv w6 => ?_⟩
      obtain ⟨h1, h2, h3⟩ := turn_hide npD nD s2 nD2 hppA ga ((sp.trans s3).trans s5) (potS ((sp.trans s3).trans s5))
      refine ⟨ac, h3, by rw [ga.len]; exact sz_lt w6.1, hide H4 D, ac ++ [v], acc ++ [d], by rw [upd_hide], h1, hide_self, IsAll.app h2 (.cons (Is.keep (fun a o n e => ?_) d v iv) .nil), by rw [List.length_append]; show acc.length + 1 ≤ 100000; omega, w6.2⟩
      have ne : a ≠ D := fun z => n (by rw [z]; exact List.mem_cons_self ..)
      exact ⟨fun z => n (List.mem_cons_of_mem _ z), by rw [hide_ne ne]; exact e⟩
  · left
    have e : i = ds.length := by omega
    subst e
    rw [List.drop_length] at wl'
    exact ⟨ok.2 (Nat.le_refl _), q D H2 ac acc (s.trans s2) nD2 ga wl'⟩
theorem gf_lc {elt iter : Expr} {ifs : List Expr} {scope : Scope} {own : List (Str × Nat)} {ts : List Nat} {di : DA} {g : DG} {t : DT} {ev : DE} (hc : X.calm = true) (hN : X.N.Nodup) (hi : GI X G tg iter di) (ok : BlkOk X.N X.env.scope scope own)
    (hg : ∀ (s : Shared) (H : Hp) (C : Addr) (cl : List (Str × Addr)) (fp : List Addr), GG (X.blk s H scope (compEnvC scope cl C X.env) fp) G tg ts g)
    (ht : ∀ (s : Shared) (H : Hp) (C : Addr) (cl : List (Str × Addr)) (fp : List Addr), PTs (X.blk s H scope (compEnvC scope cl C X.env) fp) ifs (tTT X.K G t))
    (he : ∀ (s : Shared) (H : Hp) (C : Addr) (cl : List (Str × Addr)) (fp : List Addr), GE (X.blk s H scope (compEnvC scope cl C X.env) fp) G elt ev) (sub : ∀ t ∈ ts, t ∈ own.map (·.2) := by decide)
    (hs : ∀ x, foldedSetIterable iter X.env x = pure x := by intro _; rfl) : GF X G (.ListComp elt [⟨tg, iter, ifs, 0⟩] scope pos) (dLc di g t ev (own.map (·.2))) := by
  obtain ⟨wi, pi, hi⟩ := hi
  refine ⟨_, pe_lc (wi := wi) (g := tGG X.K G ts g) (tt := tTT X.K G t) (te := tE X.K G ev) hc hN pi ok (fun s H C cl fp => (hg s H C cl fp).canon) ht (fun s H C cl fp => (he s H C cl fp).canon) hs, lc_sem hi sub⟩
end
end Dl
/-! text Dg -/
/-! Dg: defs called where nothing is being shown (no repr around), so that repr may be asked within. -/
namespace Dl
open PySem PySem.Spec PyProof.Rows L2
/-- as FnOk, of callers around whom nothing is being shown -/
structure FnG (P : Program) (w : World) (K : PySem.W.Frag) (mg : Str → Option Value) (base : Heap) (k : Nat) (f : Addr) (fd : FuncData) (ps : List Str) (sp : Sp) : Prop where
  ln : ∀ vs H Q E, sp vs H Q E → vs.length = ps.length
  go : ∀ (B : Around) (callers : List PySem.Env) (t : Shared) (H : Hp) (given : Args) (us : List Value) (vs : List V) (Q : VK) (E : XK), B.guards = some [] → Room k B → Env0 P w K mg base B callers t H → BindsTo t fd given (ps.zip us) → Vals vs us → sp vs H Q E →
    codeAny (model P w) B (.call (.ref f) given) (CR CX0 callers P w H t Q E) t
theorem FnG.mono {P : Program} {w : World} {K : PySem.W.Frag} {mg : Str → Option Value} {base : Heap} {j k : Nat} {f : Addr} {fd : FuncData} {ps : List Str} {sp : Sp} (F : FnG P w K mg base j f fd ps sp) (h : j ≤ k) : FnG P w K mg base k f fd ps sp :=
  ⟨F.ln, fun B cs t H given us vs Q E hg hr => F.go B cs t H given us vs Q E hg (hr.mono h)⟩
theorem FnG.of {P : Program} {w : World} {K : PySem.W.Frag} {mg : Str → Option Value} {base : Heap} {k : Nat} {f : Addr} {fd : FuncData} {ps : List Str} {sp : Sp} (F : FnOk P w K mg base CX0 k f fd ps sp) : FnG P w K mg base k f fd ps sp :=
  ⟨F.len, fun B cs t H given us vs Q E _ => F.run B cs t H given us vs Q E⟩
section
variable {P : Program} {w : World} {K : PySem.W.Frag} {mg : Str → Option Value} {base : Heap} {x qual : Str} {params : Arguments} {body : List Stmt} {scope : Scope} {f : Addr} {fd : FuncData}
theorem fnG_of {N ps : List Str} {k : Nat} {sp : Sp} (Fd : FunD K x qual params body scope [] [] f fd) (S : FnScope N ps scope) (ln : ∀ vs H Q E, sp vs H Q E → vs.length = ps.length)
    (bd : ∀ (cd : Value) (B : Around) (cs : List PySem.Env) (t : Shared) (H : Hp) (vs : List V) (Q : VK) (E : XK), B.guards = some [] → Room k (B.deeper (envOfC qual scope t.heap.objs.size f cd)) → sp vs H Q E →
      ∃ r, PSs (cxOf CX0 P w K mg base N qual scope f cd B cs t H E).nox body r ∧ r { nx := fun _ H' => Q .non H', rt := Q } (L2.start N vs) H) : FnG P w K mg base (k + 1) f fd ps sp := by
  obtain ⟨oc, od, dV, kV, doc, pm, an, cd, ct, osl, rfl, lk, hc, _, _⟩ := Fd.ex
  constructor
  · exact ln
  intro B cs t H given us vs Q E hg hr e0 hb r hs
  have KX : K.In t.heap := e0.mod.kin.keeps fun b o e => (e0.bs b o e).1
  have nl : t.heap.NoLimit := e0.mod.nolimit.keeps fun b o e => (e0.bs b o e).1
  apply codeAny_call_function hr.depth (KX _ _ lk) rfl S.co S.gen rfl (PySem.W.codeRec_of KX hc)
  apply hb
  have kinds : ∀ z ∈ ps.zip us, scope.names.lookup z.1 = some .local ∨ (scope.names.lookup z.1 = some .cell ∧ ((cellsFrom (t.heap.objs.size + 1) scope.names []).lookup z.1).isSome = true) := by
    rintro ⟨n, v⟩ hz
    have hn : n ∈ ps := (List.of_mem_zip hz).1
    exact (S.par n hn).elim .inl fun q => .inr ⟨q, PySem.W.cellsFrom_some _ _ _ (.inl q)⟩
  apply wpAny_newFunctionEnv_cells S.kind kinds
  rintro env rfl t1 ic
  constructor
  · exact nl.keeps ic.toInCall.keep
  apply codeAny_func
  obtain ⟨tb, ptb, q⟩ := bd cd B cs t H vs Q E hg (hr.deeper _) hs
  have I : Inv (cxOf CX0 P w K mg base N qual scope f cd B cs t H E) [] (L2.start N vs) H t1 := inv_start S hr.hd e0 (ln _ _ _ _ hs) r ic
  refine wpAny_mono (ptb.nox.run [] t1 (L2.start N vs) H _ I q) (fun fl t2 h2 => ?_) fun e t2 h2 => h2
  have done : ∀ {σ2 : L2.St} {H2 : Hp} {v : V} {u : Value}, Inv (cxOf CX0 P w K mg base N qual scope f cd B cs t H E) [] σ2 H2 t2 → RelV v u → Q v H2 → CE cs P w H t Q u t2 :=
    fun {σ2 H2 v u} J rv q => ⟨v, H2, J.os, J.bare, J.base, J.hok, rv, q⟩
  match fl, h2 with
  | .ret _, ⟨_, _, _, J, rv, q⟩ => exact done J rv q
  | .next, ⟨_, _, J, q⟩ => exact done (v := V.non) (u := Value.none) J rfl q
  | .brk, ⟨_, _, _, q⟩ => exact q.elim
  | .cont, ⟨_, _, _, q⟩ => exact q.elim
end
section
variable {X : Cx} {k : Nat} {f : Addr} {fd : FuncData} {ps ks : List Str} {sp : Sp} {E : XK} {x : Str} {p pos : Pos} {e : Expr} {es : List Expr} {t : TA}
theorem runG {pins : List (Addr × Obj)} {σ : L2.St} {H : Hp} {s : Shared} {Q : VK} {us : List Value} {vs : List V} (F : FnG X.prog X.w X.K X.mg X.base k f fd ps sp) (hg : X.A.guards = some []) (hr : Room k X.A) (hb : Binds X.K fd ps [])
    (I : Inv X pins σ H s) (r : Vals vs us) (h : sp vs H Q E) : wpAny (model X.prog X.w) X.A (call (.ref f) us) (EP X pins σ Q) X.xe s := by
  have hl : (us ++ ([] : List Value)).length = ps.length := by
    rw [List.append_nil, ← r.length]
    exact F.ln _ _ _ _ h
  have bd := hb s us I.kIn hl
  rw [List.append_nil] at bd
  apply wpAny_call
  refine codeAny_mono (F.go X.A X.stack s H ⟨us, []⟩ us vs Q E hg hr I.env0 bd r h) ?_
  intro r s' hq
  match r, hq with
  | .error _, hq => exact hq.elim
  | .ok (.ret _), hq => exact I.after hq
  | .ok .next, hq => exact hq.elim
  | .ok .brk, hq => exact hq.elim
  | .ok .cont, hq => exact hq.elim
theorem runGk {pins : List (Addr × Obj)} {σ : L2.St} {H : Hp} {s : Shared} {Q : VK} {us ws : List Value} {vs zs : List V} {g : List Value → List Value → List Value} {gV : List V → List V → List V} (F : FnG X.prog X.w X.K X.mg X.base k f fd ps sp) (hg : X.A.guards = some []) (hr : Room k X.A) (hb : KBinds X.K fd ps ks g gV)
    (I : Inv X pins σ H s) (r : Vals vs us) (rz : Vals zs ws) (h : sp (gV vs zs) H Q E) : wpAny (model X.prog X.w) X.A (call (.ref f) us (ks.zip ws)) (EP X pins σ Q) X.xe s := by
  have r2 := hb.rel r rz
  have hl : (g us ws).length = ps.length := by
    rw [← r2.length]
    exact F.ln _ _ _ _ h
  apply wpAny_call
  refine codeAny_mono (F.go X.A X.stack s H ⟨us, ks.zip ws⟩ (g us ws) (gV vs zs) Q E hg hr I.env0 (hb.to s us ws I.kIn hl) r2 h) ?_
  intro r s' hq
  match r, hq with
  | .error _, hq => exact hq.elim
  | .ok (.ret _), hq => exact I.after hq
  | .ok .next, hq => exact hq.elim
  | .ok .brk, hq => exact hq.elim
  | .ok .cont, hq => exact hq.elim
theorem peG_call (F : FnG X.prog X.w X.K X.mg X.base k f fd ps sp) (hgd : X.A.guards = some []) (hr : Room k X.A) (hg : Gl X x) (hm : X.mg x = some (.ref f)) (hk : PySem.W.keepIn X.K (.ref f) = true) (hb : Binds X.K fd ps [])
    (ha : PA X (e :: es) t) (hdb : (x == ("__debug__" : Str)) = false := by decide) (he : starEach (e :: es) X.env = (false, eval e X.env) :: starEach es X.env := by rfl) (hpl : (backTo pos (starEach es X.env)).any (·.1) = false := by rfl) :
    PE X (.Call (.Name x p) (e :: es) [] pos) (fun σ H Q => t σ H fun vs H1 => sp vs H1 Q E) := by
  constructor
  intro pins s σ H Q I h
  apply wpAny_Call_Name_kw
  apply ld_glob I hg hm _ hdb
  exact PySem.W.callWith_K (h₀ := X.base) I.ok.mod.kin hk (thn (ha.run pos pins s σ H _ I h) fun us s1 ⟨vs, H1, I1, r, q⟩ => ⟨I1.kIn, runG F hgd hr hb I1 r q⟩) he hpl
theorem peG_call0 (F : FnG X.prog X.w X.K X.mg X.base k f fd ps sp) (hgd : X.A.guards = some []) (hr : Room k X.A) (hg : Gl X x) (hm : X.mg x = some (.ref f)) (hk : PySem.W.keepIn X.K (.ref f) = true) (hb : Binds X.K fd ps [])
    (hdb : (x == ("__debug__" : Str)) = false := by decide) : PE X (.Call (.Name x p) [] [] pos) (fun σ H Q => sp [] H Q E) := by
  constructor
  intro pins s σ H Q I h
  apply wpAny_Call_Name_kw
  apply ld_glob I hg hm _ hdb
  exact PySem.W.callWith_K0 I.kIn hk (runG (us := []) F hgd hr hb I .nil h)
theorem peG_callK0 {kws : List Keyword} {g : List Value → List Value → List Value} {gV : List V → List V → List V} (F : FnG X.prog X.w X.K X.mg X.base k f fd ps sp) (hgd : X.A.guards = some []) (hr : Room k X.A) (hg : Gl X x) (hm : X.mg x = some (.ref f)) (hk : PySem.W.keepIn X.K (.ref f) = true) (hb : KBinds X.K fd ps ks g gV)
    (hkw : PK X kws t) (hall : (backToKw pos (keywordEach kws X.env)).all (·.1.isSome) = true := by rfl) (hks : (backToKw pos (keywordEach kws X.env)).filterMap (·.1) = ks := by rfl)
    (hdb : (x == ("__debug__" : Str)) = false := by decide)
    (hpl : ((backTo pos (starEach [] X.env)).any (·.1) || (backToKw pos (keywordEach kws X.env)).any (·.1.isNone)) = false := by rfl) :
    PE X (.Call (.Name x p) [] kws pos) (fun σ H Q => t σ H fun zs H2 => sp (gV [] zs) H2 Q E) := by
  constructor
  intro pins s σ H Q I h
  apply wpAny_Call_Name_kw
  apply ld_glob I hg hm _ hdb
  apply PySem.W.callWith_KW0 (h₀ := X.base) I.ok.mod.kin hk hall _ hpl
  refine thn (hkw.run pos pins s σ H _ I h) fun ws s2 ⟨zs, H2, I2, rz, q2⟩ => ⟨I2.kIn, ?_⟩
  rw [hks]
  exact runGk F hgd hr hb I2 .nil rz q2
end
end Dl
/-! text Dl5 -/
/-! Dl5: calls, defs. -/
namespace Dl
open PySem PySem.Spec PyProof.Rows L2
section
variable {X : Cx} {G : Gh} {a b c e tg : Expr} {ea eb ec : DE} {ta tb tc : DT} {pos p : Pos} {K : PySem.W.Frag}
def eF (ev : DA) : DE := fun env P => ev env fun ds => P (.list ds)
theorem GF.ge {ev : DA} (h : GF X G e ev) : GE X G e (eF ev) := by
  obtain ⟨t, p, h⟩ := h
  exact ⟨t, p, fun A σ H env P Q m w q => h A σ H env _ _ m w fun p H1 vs ds s n g w => q _ _ _ (s.trans (Step.new n)) (Is.newL (m.step s).al n g) w⟩
theorem gpts_nil : PTs X [] (tTT X.K G tYesD) := ⟨fun pins s σ H Q I ⟨A, env, P, m, w, q⟩ => pts_nil.run pins s σ H Q I (q true H Step.refl w)⟩
theorem gpts_one (h : GT X G c tc) : PTs X [c] (tTT X.K G tc) := ⟨fun pins s σ H Q I hw => (pts_one h.canon).run pins s σ H Q I hw⟩

/-! what a def does to data -/
structure Fs where
  n : Nat
  pre : List PyData → Prop
  post : List PyData → PyData → Prop
def spD (K : PySem.W.Frag) (F : Fs) : Sp := fun vs H Q _ => ∃ A ds, (∀ a ∈ A, ∃ o, H a = some o) ∧ IsAll K A H vs ds ∧ ds.length = F.n ∧ F.pre ds ∧ ∀ v H' d, Step none H H' → Is K A H' v d → F.post ds d → Q v H'
/-- the first argument is the pot -/
def spP (K : PySem.W.Frag) (F : Fs) : Sp := fun vs H Q _ => ∃ A ds pa us, vs = .ref pa :: us ∧ pa ∈ A ∧ PotAt H pa ∧ (∀ a ∈ A, ∃ o, H a = some o) ∧ IsAll K A H us ds ∧ ds.length = F.n ∧ F.pre ds ∧ ∀ v H' d, Step (some pa) H H' → Is K A H' v d → F.post ds d → Q v H'
def eCall (F : Fs) (ea : DA) : DE := fun env P => ea env fun ds => ds.length = F.n ∧ F.pre ds ∧ ∀ d, F.post ds d → P d
theorem step_none {pp : Option Addr} {H H' : Hp} (s : Step none H H') : Step pp H H' := Step.of fun a o h => s.k a o (fun z => by cases z) h
theorem ge_call {F : Fs} {k : Nat} {f : Addr} {fd : FuncData} {ps : List Str} {x : Str} {es : List Expr} {er : DA} (Fo : FnG X.prog X.w X.K X.mg X.base k f fd ps (spD X.K F)) (hgd : X.A.guards = some []) (hr : Room k X.A) (hg : Gl X x) (hm : X.mg x = some (.ref f)) (hk : PySem.W.keepIn X.K (.ref f) = true) (hb : Binds X.K fd ps [])
    (ha : GA X G (e :: es) er) (hdb : (x == ("__debug__" : Str)) = false := by decide) (he : starEach (e :: es) X.env = (false, eval e X.env) :: starEach es X.env := by rfl) (hpl : (backTo pos (starEach es X.env)).any (·.1) = false := by rfl) :
    GE X G (.Call (.Name x p) (e :: es) [] pos) (eCall F er) := by
  obtain ⟨t, pa, ha⟩ := ha
  refine ⟨_, peG_call (E := E0) Fo hgd hr hg hm hk hb pa hdb he hpl, fun A σ H env P Q m w q => ?_⟩
  refine ha A σ H env _ _ m w fun vs H1 ds s i w => ?_
  obtain ⟨w1, w2, w3⟩ := w
  exact ⟨A, ds, (m.step s).al, i, w1, w2, fun v H' d s2 iv po => q v H' d (s.trans (step_none s2)) iv (w3 d po)⟩
theorem ge_call0 {F : Fs} {k : Nat} {f : Addr} {fd : FuncData} {ps : List Str} {x : Str} (Fo : FnG X.prog X.w X.K X.mg X.base k f fd ps (spD X.K F)) (hgd : X.A.guards = some []) (hr : Room k X.A) (hg : Gl X x) (hm : X.mg x = some (.ref f)) (hk : PySem.W.keepIn X.K (.ref f) = true) (hb : Binds X.K fd ps [])
    (hdb : (x == ("__debug__" : Str)) = false := by decide) : GE X G (.Call (.Name x p) [] [] pos) (eCall F aN) := by
  refine ⟨_, peG_call0 (E := E0) Fo hgd hr hg hm hk hb hdb, fun A σ H env P Q m w q => ?_⟩
  obtain ⟨w1, w2, w3⟩ := w
  exact ⟨A, [], m.al, .nil, w1, w2, fun v H' d s2 iv po => q v H' d (step_none s2) iv (w3 d po)⟩
/-- f(pot, ..) -/
def eCallP (F : Fs) (i : Nat) (ea : DA) : DE := fun env P => match env[i]? with
  | some .pot => ea env fun ds => ds.length = F.n ∧ F.pre ds ∧ ∀ d, F.post ds d → P d
  | _ => False
theorem ge_callP {F : Fs} {i : Nat} {k : Nat} {f : Addr} {fd : FuncData} {ps : List Str} {x y : Str} {py : Pos} {es : List Expr} {er : DA} (Fo : FnG X.prog X.w X.K X.mg X.base k f fd ps (spP X.K F)) (hgd : X.A.guards = some []) (hr : Room k X.A) (hg : Gl X x) (hm : X.mg x = some (.ref f)) (hk : PySem.W.keepIn X.K (.ref f) = true) (hb : Binds X.K fd ps [])
    (hN : X.N[i]? = some y) (hv : Vis X.env.scope y) (ha : GA X G es er) (hd : (y == ("__debug__" : Str)) = false := by decide) (hcd : (y == ("__classdict__" : Str)) = false := by decide)
    (hdb : (x == ("__debug__" : Str)) = false := by decide) (he : starEach (.Name y py :: es) X.env = (false, eval (.Name y py) X.env) :: starEach es X.env := by rfl) (hpl : (backTo pos (starEach es X.env)).any (·.1) = false := by rfl) :
    GE X G (.Call (.Name x p) (.Name y py :: es) [] pos) (eCallP F i er) := by
  obtain ⟨t, pa, ha⟩ := ha
  refine ⟨_, peG_call (E := E0) Fo hgd hr hg hm hk hb (pa_cons (pe_var hN hv hd hcd) pa he) hdb he hpl, fun A σ H env P Q m w q => ?_⟩
  unfold eCallP at w
  split at w
  · rename_i ei
    obtain ⟨z, hz, p, rfl, hp⟩ := m.all i _ ei
    refine ⟨_, hz, ha A σ H env _ _ m w fun vs H1 ds s is w => ?_⟩
    obtain ⟨w1, w2, w3⟩ := w
    have m1 := m.step s
    refine ⟨A, ds, p, vs, rfl, m1.ppA hp, (m1.pp p hp).2, m1.al, is, w1, w2, fun v H' d s2 iv po => q v H' d (s.trans ?_) iv (w3 d po)⟩
    rw [hp]; exact s2
  · exact w.elim
structure GK (X : Cx) (G : Gh) (kws : List Keyword) (ev : DA) : Prop where
  ex : ∃ t, PK X kws t ∧ ∀ (A : List Addr) (σ : L2.St) (H : Hp) (env : Env) (P : List PyData → Prop) (Q : List V → Hp → Prop), MA X.K G A σ H env → ev env P →
    (∀ vs H' ds, Step G.pp H H' → IsAll X.K A H' vs ds → ds.length = kws.length → P ds → Q vs H') → t σ H Q
theorem gk_nil : GK X G [] aN := ⟨tNil, pk_nil, fun A σ H env P Q m w q => q [] H [] Step.refl .nil rfl w⟩
theorem gk_cons {nm : Option Str} {kpos : Pos} {kws : List Keyword} {er : DA} (ha : GE X G e ea) (hr : GK X G kws er) : GK X G (⟨nm, e, kpos⟩ :: kws) (aC ea er) := by
  obtain ⟨t, p, h⟩ := ha
  obtain ⟨u, p2, h2⟩ := hr
  refine ⟨tCons t u, pk_cons p p2, fun A σ H env P Q m w q => ?_⟩
  refine h A σ H env _ _ m w fun v H1 d s1 i w => ?_
  refine h2 A σ H1 env _ _ (m.step s1) w fun vs H2 ds s2 is l w => ?_
  exact q (v :: vs) H2 (d :: ds) (s1.trans s2) (.cons (i.step (m.step s1) s2) is) (by rw [List.length_cons, List.length_cons, l]) w
/-- keywords alone, put into the parameters' order by gD -/
def eCallK (F : Fs) (gD : List PyData → List PyData) (ea : DA) : DE := fun env P => ea env fun ds => (gD ds).length = F.n ∧ F.pre (gD ds) ∧ ∀ d, F.post (gD ds) d → P d
theorem ge_callK {F : Fs} {k : Nat} {f : Addr} {fd : FuncData} {ps ks : List Str} {x : Str} {kws : List Keyword} {er : DA} {g : List Value → List Value → List Value} {gV : List V → List V → List V} {gD : List PyData → List PyData} (Fo : FnG X.prog X.w X.K X.mg X.base k f fd ps (spD X.K F)) (hgd : X.A.guards = some []) (hr : Room k X.A) (hg : Gl X x) (hm : X.mg x = some (.ref f)) (hk : PySem.W.keepIn X.K (.ref f) = true) (hb : KBinds X.K fd ps ks g gV)
    (hrel : ∀ {A : List Addr} {H : Hp} {vs : List V} {ds : List PyData}, IsAll X.K A H vs ds → ds.length = kws.length → IsAll X.K A H (gV [] vs) (gD ds))
    (hkw : GK X G kws er) (hall : (backToKw pos (keywordEach kws X.env)).all (·.1.isSome) = true := by rfl) (hks : (backToKw pos (keywordEach kws X.env)).filterMap (·.1) = ks := by rfl)
    (hdb : (x == ("__debug__" : Str)) = false := by decide)
    (hpl : ((backTo pos (starEach [] X.env)).any (·.1) || (backToKw pos (keywordEach kws X.env)).any (·.1.isNone)) = false := by rfl) :
    GE X G (.Call (.Name x p) [] kws pos) (eCallK F gD er) := by
  obtain ⟨t, pa, ha⟩ := hkw
  refine ⟨_, peG_callK0 (E := E0) Fo hgd hr hg hm hk hb pa hall hks hdb hpl, fun A σ H env P Q m w q => ?_⟩
  refine ha A σ H env _ _ m w fun vs H1 ds s i l w => ?_
  obtain ⟨w1, w2, w3⟩ := w
  exact ⟨A, gD ds, (m.step s).al, hrel i l, w1, w2, fun v H' d s2 iv po => q v H' d (s.trans (step_none s2)) iv (w3 d po)⟩
end

/-! ### a def keeps what is said of its data -/
section
variable {P : Program} {w : World} {K : PySem.W.Frag} {mg : Str → Option Value} {base : Heap} {x qual : Str} {params : Arguments} {body : List Stmt} {scope : Scope} {f : Addr} {fd : FuncData}
def env0 (N : List Str) (ds : List PyData) : Env := ds.map .dat ++ List.replicate (N.length - ds.length) .un
theorem start_len {N : List Str} {vs : List V} (h : vs.length ≤ N.length) : (L2.start N vs).length = N.length := by
  unfold L2.start
  rw [List.length_append, List.length_map, List.length_replicate]
  omega
theorem ma_start {G : Gh} {A : List Addr} {H : Hp} {N : List Str} {vs : List V} {ds : List PyData} (i : IsAll K A H vs ds) (hA : G.A0 = A) (hH : G.H0 = H) (hp : ∀ p, G.pp = some p → p ∈ A ∧ PotAt H p) (al : ∀ a ∈ A, ∃ o, H a = some o) : MA K G A (L2.start N vs) H (env0 N ds) where
  len := by
    unfold L2.start env0
    rw [List.length_append, List.length_append, List.length_map, List.length_map, List.length_replicate, List.length_replicate, i.len]
  all j s e := by
    unfold env0 at e
    unfold L2.start
    by_cases l : j < ds.length
    · rw [List.getElem?_append_left (by rw [List.length_map]; exact l), List.getElem?_map] at e
      have ed : ds[j]? = some ds[j] := List.getElem?_eq_getElem l
      rw [ed] at e
      cases e
      obtain ⟨v, hv, iv⟩ := i.get ed
      refine ⟨some v, ?_, v, rfl, iv⟩
      rw [List.getElem?_append_left (by rw [List.length_map, i.len]; exact l), List.getElem?_map, hv]
      rfl
    · rw [List.getElem?_append_right (by rw [List.length_map]; omega)] at e
      have l2 : j - (ds.map Sl.dat).length < N.length - ds.length := by
        have := (List.getElem?_eq_some_iff.mp e).1
        rw [List.length_replicate] at this
        exact this
      rw [List.getElem?_replicate, if_pos l2] at e
      cases e
      refine ⟨none, ?_, trivial⟩
      rw [List.getElem?_append_right (by rw [List.length_map, i.len]; omega), List.getElem?_replicate, if_pos]
      rw [List.length_map] at l2 ⊢
      rw [i.len]
      exact l2
  uni a b da db n ea eb := by
    exfalso
    unfold env0 at ea
    by_cases l : a < ds.length
    · rw [List.getElem?_append_left (by rw [List.length_map]; exact l), List.getElem?_map, List.getElem?_eq_getElem l] at ea
      cases ea
    · rw [List.getElem?_append_right (by rw [List.length_map]; omega), List.getElem?_replicate] at ea
      split at ea <;> cases ea
  al := al
  a0 a h := by rw [← hA]; exact h
  h0 a h := by rw [hH]; exact al a (by rw [← hA]; exact h)
  pp p e := ⟨by rw [hA]; exact (hp p e).1, (hp p e).2⟩
  hist a o n e := by rw [← hH]; exact e
/-- a def whose parameters are data -/
theorem fnD {F : Fs} {N ps : List Str} {k : Nat} {wb : DS} (Fd : FunD K x qual params body scope [] [] f fd) (S : FnScope N ps scope) (hn : F.n = ps.length)
    (hb : ∀ (cdv : Value) (A : Around) (outer : List PySem.Env) (s : Shared) (H : Hp) (E : XK) (G : Gh), A.guards = some [] → Room k (A.deeper (envOfC qual scope s.heap.objs.size f cdv)) → GSs (cxOf CX0 P w K mg base N qual scope f cdv A outer s H E).nox G body wb)
    (hw : ∀ ds, ds.length = F.n → F.pre ds → wb { nx := fun _ => F.post ds .none, rt := F.post ds } (env0 N ds)) : FnG P w K mg base (k + 1) f fd ps (spD K F) := by
  refine fnG_of Fd S (fun vs H Q E h => ?_) (fun cdv A outer s H vs Q E hg hr h => ?_)
  · obtain ⟨A, ds, al, i, l, _⟩ := h
    rw [i.len, l, hn]
  · obtain ⟨A', ds, al, i, l, pr, q⟩ := h
    obtain ⟨t, pb, h⟩ := hb cdv A outer s H E ⟨A', none, H⟩ hg hr
    refine ⟨t, pb, ?_⟩
    refine h A' (L2.start N vs) H (env0 N ds) _ _ (ma_start i rfl rfl (fun p e => by cases e) al) (hw ds l pr) ⟨fun A2 σ2 H2 env2 _ m2 w2 => ?_, fun v H2 d s2 iv po => ?_, fun _ _ _ _ _ _ w2 => w2.elim, fun _ _ _ _ _ _ w2 => w2.elim⟩
    · exact q .non H2 .none m2.back .non w2
    · exact q v H2 d s2 iv po
/-- the frame of a def whose first parameter is the pot -/
def envP (N : List Str) (ds : List PyData) : Env := .pot :: ds.map .dat ++ List.replicate (N.length - (ds.length + 1)) .un
theorem ma_startP {A : List Addr} {H : Hp} {N : List Str} {vs : List V} {ds : List PyData} {pa : Addr} (i : IsAll K A H vs ds) (hp : pa ∈ A) (po : PotAt H pa) (al : ∀ a ∈ A, ∃ o, H a = some o) : MA K ⟨A, some pa, H⟩ A (L2.start N (.ref pa :: vs)) H (envP N ds) where
  len := by
    unfold L2.start envP
    rw [List.length_append, List.length_append, List.length_map, List.length_cons, List.length_cons, List.length_map, List.length_replicate, List.length_replicate, i.len]
  all j s e := by
    unfold envP at e
    unfold L2.start
    cases j with
    | zero =>
      have e : some Sl.pot = some s := e
      cases e
      exact ⟨some (.ref pa), rfl, pa, rfl, rfl⟩
    | succ j =>
      rw [List.cons_append, List.getElem?_cons_succ] at e
      rw [List.map_cons, List.cons_append, List.getElem?_cons_succ]
      by_cases l : j < ds.length
      · rw [List.getElem?_append_left (by rw [List.length_map]; exact l), List.getElem?_map] at e
        have ed : ds[j]? = some ds[j] := List.getElem?_eq_getElem l
        rw [ed] at e
        cases e
        obtain ⟨v, hv, iv⟩ := i.get ed
        refine ⟨some v, ?_, v, rfl, iv⟩
        rw [List.getElem?_append_left (by rw [List.length_map, i.len]; exact l), List.getElem?_map, hv]
        rfl
      · rw [List.getElem?_append_right (by rw [List.length_map]; omega)] at e
        have l2 : j - (ds.map Sl.dat).length < N.length - (ds.length + 1) := by
          have := (List.getElem?_eq_some_iff.mp e).1
          rw [List.length_replicate] at this
          exact this
        rw [List.getElem?_replicate, if_pos l2] at e
        cases e
        refine ⟨none, ?_, trivial⟩
        rw [List.getElem?_append_right (by rw [List.length_map, i.len]; omega), List.getElem?_replicate, if_pos]
        rw [List.length_map] at l2 ⊢
        rw [List.length_cons, i.len]
        exact l2
  uni a b da db n ea eb := by
    exfalso
    have f : ∀ s ∈ envP N ds, ∀ es, s ≠ Sl.own es := by
      intro s hs es z
      subst z
      unfold envP at hs
      rcases List.mem_append.mp hs with h | h
      · rcases List.mem_cons.mp h with h | h
        · cases h
        · obtain ⟨d, _, e⟩ := List.mem_map.mp h
          cases e
      · have := List.eq_of_mem_replicate h
        cases this
    exact f _ (List.mem_of_getElem? ea) _ rfl
  al := al
  a0 a h := h
  h0 a h := al a h
  pp p e := by cases e; exact ⟨hp, po⟩
  hist a o n e := e
/-- a def whose first parameter is the pot -/
theorem fnP {F : Fs} {N ps : List Str} {k : Nat} {wb : DS} (Fd : FunD K x qual params body scope [] [] f fd) (S : FnScope N ps scope) (hn : F.n + 1 = ps.length)
    (hb : ∀ (cdv : Value) (A : Around) (outer : List PySem.Env) (s : Shared) (H : Hp) (E : XK) (G : Gh), A.guards = some [] → Room k (A.deeper (envOfC qual scope s.heap.objs.size f cdv)) → GSs (cxOf CX0 P w K mg base N qual scope f cdv A outer s H E).nox G body wb)
    (hw : ∀ ds, ds.length = F.n → F.pre ds → wb { nx := fun _ => F.post ds .none, rt := F.post ds } (envP N ds)) : FnG P w K mg base (k + 1) f fd ps (spP K F) := by
  refine fnG_of Fd S (fun vs H Q E h => ?_) (fun cdv A outer s H vs Q E hg hr h => ?_)
  · obtain ⟨A, ds, pa, us, rfl, _, _, al, i, l, _⟩ := h
    rw [List.length_cons, i.len, l, hn]
  · obtain ⟨A', ds, pa, us, rfl, hp, po, al, i, l, pr, q⟩ := h
    obtain ⟨t, pb, h⟩ := hb cdv A outer s H E ⟨A', some pa, H⟩ hg hr
    refine ⟨t, pb, ?_⟩
    refine h A' _ H (envP N ds) _ _ (ma_startP i hp po al) (hw ds l pr) ⟨fun A2 σ2 H2 env2 _ m2 w2 => ?_, fun v H2 d s2 iv po2 => ?_, fun _ _ _ _ _ _ w2 => w2.elim, fun _ _ _ _ _ _ w2 => w2.elim⟩
    · exact q .non H2 .none m2.back .non w2
    · exact q v H2 d s2 iv po2
end
end Dl
/-! text Dl6 -/
/-! Dl6: built-in functions. -/
namespace Dl
open PySem PySem.Spec PyProof.Rows L2
section
variable {X : Cx} {G : Gh} {a b c e tg : Expr} {ea eb ec : DE} {ta tb tc : DT} {pos p : Pos} {K : PySem.W.Frag} {x : Str}
/-! one value, two values of a built-in function or type -/
def DC1 (K : PySem.W.Frag) (r : List V → Hp → VK → Prop) (f : PyData → (PyData → Prop) → Prop) : Prop :=
  ∀ (pp : Option Addr) (A : List Addr) (H : Hp) (x : V) (dx : PyData) (P : PyData → Prop) (Q : VK), (∀ a ∈ A, ∃ o, H a = some o) → Bo K pp A H x dx → f dx P →
    (∀ v H' d, (∀ a o, H a = some o → H' a = some o) → Is K A H' v d → P d → Q v H') → r [x] H Q
def DC2 (K : PySem.W.Frag) (r : List V → Hp → VK → Prop) (f : PyData → PyData → (PyData → Prop) → Prop) : Prop :=
  ∀ (pp : Option Addr) (A : List Addr) (H : Hp) (x y : V) (dx dy : PyData) (P : PyData → Prop) (Q : VK), (∀ a ∈ A, ∃ o, H a = some o) → Bo K pp A H x dx → Bo K pp A H y dy → f dx dy P →
    (∀ v H' d, (∀ a o, H a = some o → H' a = some o) → Is K A H' v d → P d → Q v H') → r [x, y] H Q
theorem dc1 {r : List V → Hp → VK → Prop} {f : PyData → (PyData → Prop) → Prop} (hr : DC1 X.K r f) {t : TE} (h : ∀ (A : List Addr) (σ : L2.St) (H : Hp) (env : Env) (P : PyData → Prop) (Q : VK), MA X.K G A σ H env → ea env P → (∀ v H' d, Step G.pp H H' → Bo X.K G.pp A H' v d → P d → Q v H') → t σ H Q)
    (A : List Addr) (σ : L2.St) (H : Hp) (env : Env) (P : PyData → Prop) (Q : VK) (m : MA X.K G A σ H env) (w : e1 f ea env P) (q : ∀ v H' d, Step G.pp H H' → Is X.K A H' v d → P d → Q v H') : tCB r (tCons t tNil) σ H Q := by
  refine h A σ H env _ _ m w fun v H1 d s i w => ?_
  exact hr G.pp A H1 v d P Q (m.step s).al i w fun v H' d k i p => q v H' d (s.trans (Step.of k)) i p
theorem dc2 {r : List V → Hp → VK → Prop} {f : PyData → PyData → (PyData → Prop) → Prop} (hr : DC2 X.K r f) {t u : TE} (h : ∀ (A : List Addr) (σ : L2.St) (H : Hp) (env : Env) (P : PyData → Prop) (Q : VK), MA X.K G A σ H env → ea env P → (∀ v H' d, Step G.pp H H' → Bo X.K G.pp A H' v d → P d → Q v H') → t σ H Q)
    (h2 : ∀ (A : List Addr) (σ : L2.St) (H : Hp) (env : Env) (P : PyData → Prop) (Q : VK), MA X.K G A σ H env → eb env P → (∀ v H' d, Step G.pp H H' → Bo X.K G.pp A H' v d → P d → Q v H') → u σ H Q)
    (A : List Addr) (σ : L2.St) (H : Hp) (env : Env) (P : PyData → Prop) (Q : VK) (m : MA X.K G A σ H env) (w : e2 f ea eb env P) (q : ∀ v H' d, Step G.pp H H' → Is X.K A H' v d → P d → Q v H') : tCB r (tCons t (tCons u tNil)) σ H Q := by
  refine h A σ H env _ _ m w fun v H1 d s i w => ?_
  refine h2 A σ H1 env _ _ (m.step s) w fun v2 H2 d2 s2 i2 w => ?_
  have m2 := (m.step s).step s2
  exact hr G.pp A H2 v v2 d d2 P Q m2.al (i.step (m.step s) s2) i2 w fun v H' d k i p => q v H' d ((s.trans s2).trans (Step.of k)) i p
theorem ge_b1 {id : String} {r : List V → Hp → VK → Prop} {f : PyData → (PyData → Prop) → Prop} (hc : CallR X (.builtin id) r) (hr : DC1 X.K r f) (h : GB X G e ea) (hg : Gl X x) (hm : X.mg x = none) (hv : bootBuiltins x = some (.builtin id)) (hn : x ≠ "__name__" := by decide) (hdb : (x == ("__debug__" : Str)) = false := by decide)
    (he : starEach [e] X.env = (false, eval e X.env) :: starEach [] X.env := by rfl) (hpl : (backTo pos (starEach [] X.env)).any (·.1) = false := by rfl) : GE X G (.Call (.Name x p) [e] [] pos) (e1 f ea) := by
  obtain ⟨t, pt, h⟩ := h
  exact ⟨_, pe_callB hc hg hm hv (pa_cons pt pa_nil he) hn hdb he hpl, dc1 hr h⟩
theorem ge_b2 {id : String} {r : List V → Hp → VK → Prop} {f : PyData → PyData → (PyData → Prop) → Prop} (hc : CallR X (.builtin id) r) (hr : DC2 X.K r f) (h : GB X G a ea) (h2 : GB X G b eb) (hg : Gl X x) (hm : X.mg x = none) (hv : bootBuiltins x = some (.builtin id)) (hn : x ≠ "__name__" := by decide) (hdb : (x == ("__debug__" : Str)) = false := by decide)
    (he : starEach [a, b] X.env = (false, eval a X.env) :: starEach [b] X.env := by rfl) (he2 : starEach [b] X.env = (false, eval b X.env) :: starEach [] X.env := by rfl) (hpl : (backTo pos (starEach [b] X.env)).any (·.1) = false := by rfl) : GE X G (.Call (.Name x p) [a, b] [] pos) (e2 f ea eb) := by
  obtain ⟨t, pt, h⟩ := h
  obtain ⟨u, pu, h2⟩ := h2
  exact ⟨_, pe_callB hc hg hm hv (pa_cons pt (pa_cons pu pa_nil he2) he) hn hdb he hpl, dc2 hr h h2⟩
theorem ge_g2 {id : String} {r : List V → Hp → VK → Prop} {f : PyData → PyData → (PyData → Prop) → Prop} (hc : CallR X (.builtin id) r) (hr : DC2 X.K r f) (h : GB X G a ea) (h2 : GB X G b eb) (hg : Gl X x) (hm : X.mg x = some (.builtin id)) (hdb : (x == ("__debug__" : Str)) = false := by decide)
    (he : starEach [a, b] X.env = (false, eval a X.env) :: starEach [b] X.env := by rfl) (he2 : starEach [b] X.env = (false, eval b X.env) :: starEach [] X.env := by rfl) (hpl : (backTo pos (starEach [b] X.env)).any (·.1) = false := by rfl) : GE X G (.Call (.Name x p) [a, b] [] pos) (e2 f ea eb) := by
  obtain ⟨t, pt, h⟩ := h
  obtain ⟨u, pu, h2⟩ := h2
  exact ⟨_, pe_callBfun hc hg hm (pa_cons pt (pa_cons pu pa_nil he2) he) hdb he hpl, dc2 hr h h2⟩
theorem ge_t1 {T : String} {r : List V → Hp → VK → Prop} {f : PyData → (PyData → Prop) → Prop} (hc : CallR X (.type T) r) (hr : DC1 X.K r f) (h : GB X G e ea) (hg : Gl X x) (hm : X.mg x = none) (hv : bootBuiltins x = some (.type T)) (hn : x ≠ "__name__" := by decide) (hdb : (x == ("__debug__" : Str)) = false := by decide)
    (he : starEach [e] X.env = (false, eval e X.env) :: starEach [] X.env := by rfl) (hpl : (backTo pos (starEach [] X.env)).any (·.1) = false := by rfl) : GE X G (.Call (.Name x p) [e] [] pos) (e1 f ea) := by
  obtain ⟨t, pt, h⟩ := h
  exact ⟨_, pe_callTy hc hg hm hv (pa_cons pt pa_nil he) hn hdb he hpl, dc1 hr h⟩

/-! len -/
def fLen : PyData → (PyData → Prop) → Prop := fun x P => match x with
  | .list ds => P (.int (ds.length : Nat))
  | .tuple ds => P (.int (ds.length : Nat))
  | .str z => z.length ≤ 100000 ∧ P (.int (z.length : Nat))
  | _ => False
theorem dc_len : DC1 K (fun xs H Q => ∃ x n, xs = [x] ∧ LenV K x H n ∧ Q (.int n) H) fLen := by
  intro pp A H x dx P Q al hx w q
  unfold fLen at w
  split at w
  · obtain ⟨p, xs, rfl, h, g⟩ := hx.list
    refine ⟨_, xs.length, rfl, .inl ⟨xs, .inl (.inl h), rfl⟩, ?_⟩
    rw [g.len]
    exact q _ H _ keep_refl (.int _) w
  · obtain ⟨p, xs, rfl, h, g⟩ := hx.tuple
    refine ⟨_, xs.length, rfl, .inr ⟨xs, h, rfl⟩, ?_⟩
    rw [g.len]
    exact q _ H _ keep_refl (.int _) w
  · cases hx.str
    exact ⟨_, _, rfl, ⟨sz_of w.1, rfl⟩, q _ H _ keep_refl (.int _) w.2⟩
  · exact w.elim
/-! abs, max, min of two -/
def fAbs : PyData → (PyData → Prop) → Prop := fun x P => match x with
  | .int i => P (.int (if i < 0 then -i else i))
  | _ => False
theorem dc_abs : DC1 K (fun xs H Q => ∃ i, xs = [.int i] ∧ Q (.int (if i < 0 then -i else i)) H) fAbs := by
  intro pp A H x dx P Q al hx w q
  unfold fAbs at w
  split at w
  · cases hx.int
    exact ⟨_, rfl, q _ H _ keep_refl (.int _) w⟩
  · exact w.elim
def fMax2 : PyData → PyData → (PyData → Prop) → Prop := fun x y P => match x, y with
  | .int i, .int j => P (.int (if j > i then j else i))
  | _, _ => False
theorem dc_max2 : DC2 K (fun xs H Q => ∃ i j, xs = [.int i, .int j] ∧ Q (.int (if j > i then j else i)) H) fMax2 := by
  intro pp A H x y dx dy P Q al hx hy w q
  unfold fMax2 at w
  split at w
  · cases hx.int
    cases hy.int
    exact ⟨_, _, rfl, q _ H _ keep_refl (.int _) w⟩
  · exact w.elim
def fMin2 : PyData → PyData → (PyData → Prop) → Prop := fun x y P => match x, y with
  | .int i, .int j => P (.int (if j < i then j else i))
  | _, _ => False
theorem dc_min2 : DC2 K (fun xs H Q => ∃ i j, xs = [.int i, .int j] ∧ Q (.int (if j < i then j else i)) H) fMin2 := by
  intro pp A H x y dx dy P Q al hx hy w q
  unfold fMin2 at w
  split at w
  · cases hx.int
    cases hy.int
    exact ⟨_, _, rfl, q _ H _ keep_refl (.int _) w⟩
  · exact w.elim
def fGcd : PyData → PyData → (PyData → Prop) → Prop := fun x y P => match x, y with
  | .int i, .int j => P (.int ((Nat.gcd i.natAbs j.natAbs : Nat) : Int))
  | _, _ => False
theorem dc_gcd : DC2 K rGcd fGcd := by
  intro pp A H x y dx dy P Q al hx hy w q
  unfold fGcd at w
  split at w
  · cases hx.int
    cases hy.int
    exact ⟨_, _, rfl, q _ H _ keep_refl (.int _) w⟩
  · exact w.elim
/-! int -/
def fInt : PyData → (PyData → Prop) → Prop := fun x P => match x with
  | .int i => P (.int i)
  | .bool k => P (.int (if k then 1 else 0))
  | _ => False
theorem dc_int : DC1 K (fun xs H Q => (∃ i, xs = [.int i] ∧ Q (.int i) H) ∨ ∃ k, xs = [.bl k] ∧ Q (.int (if k then 1 else 0)) H) fInt := by
  intro pp A H x dx P Q al hx w q
  unfold fInt at w
  split at w
  · cases hx.int
    exact .inl ⟨_, rfl, q _ H _ keep_refl (.int _) w⟩
  · cases hx.bool
    exact .inr ⟨_, rfl, q _ H _ keep_refl (.int _) w⟩
  · exact w.elim
/-! tuple, list -/
def fTuple : PyData → (PyData → Prop) → Prop := fun x P => match x with
  | .list ds => P (.tuple ds)
  | .tuple ds => P (.tuple ds)
  | _ => False
theorem dc_tuple : DC1 K (fun xs H Q => ∃ p ys, xs = [.ref p] ∧ ((SqL K H p ys ∧ ∀ l, H l = none → Q (.ref l) (upd H l (.tup ys))) ∨ (SqT K H p ys ∧ Q (.ref p) H))) fTuple := by
  intro pp A H x dx P Q al hx w q
  unfold fTuple at w
  split at w
  · obtain ⟨p, xs, rfl, h, g⟩ := hx.list
    exact ⟨p, xs, rfl, .inl ⟨.inl (.inl h), fun l n => q _ _ _ (keep_new n) (Is.newT al n g) w⟩⟩
  · have hI := hx.isT
    obtain ⟨p, xs, rfl, h, g⟩ := hI.tuple
    exact ⟨p, xs, rfl, .inr ⟨h, q _ H _ keep_refl hI w⟩⟩
  · exact w.elim
def fList : PyData → (PyData → Prop) → Prop := fun x P => match x with
  | .list ds => P (.list ds)
  | .tuple ds => P (.list ds)
  | _ => False
theorem dc_list : DC1 K (fun xs H Q => ∃ p ys, xs = [.ref p] ∧ (SqL K H p ys ∨ SqT K H p ys) ∧ ∀ l, H l = none → Q (.ref l) (upd H l (.lst ys))) fList := by
  intro pp A H x dx P Q al hx w q
  unfold fList at w
  split at w
  · obtain ⟨p, xs, rfl, h, g⟩ := hx.list
    exact ⟨p, xs, rfl, .inl (.inl (.inl h)), fun l n => q _ _ _ (keep_new n) (Is.newL al n g) w⟩
  · obtain ⟨p, xs, rfl, h, g⟩ := hx.tuple
    exact ⟨p, xs, rfl, .inr h, fun l n => q _ _ _ (keep_new n) (Is.newL al n g) w⟩
  · exact w.elim
/-- list(x): a new list of the def's own -/
theorem gf_list (h : GB X G e ea) (hg : Gl X "list") (hm : X.mg "list" = none) (hv : bootBuiltins "list" = some (.type "list"))
    (he : starEach [e] X.env = (false, eval e X.env) :: starEach [] X.env := by rfl) (hpl : (backTo pos (starEach [] X.env)).any (·.1) = false := by rfl) :
    GF X G (.Call (.Name "list" p) [e] [] pos) (fun env P => ea env fun d => match d with | .list ds => P ds | .tuple ds => P ds | _ => False) := by
  obtain ⟨t, pt, h⟩ := h
  refine ⟨_, pe_callTy call_list_of hg hm hv (pa_cons pt pa_nil he) (by decide) (by decide) he hpl, fun A σ H env P Q m w q => ?_⟩
  refine h A σ H env _ _ m w fun v H1 d s i w => ?_
  split at w
  · obtain ⟨p, xs, rfl, h, g⟩ := i.list
    exact ⟨p, xs, rfl, .inl (.inl (.inl h)), fun l n => q l H1 xs _ s n g w⟩
  · obtain ⟨p, xs, rfl, h, g⟩ := i.tuple
    exact ⟨p, xs, rfl, .inr h, fun l n => q l H1 xs _ s n g w⟩
  · exact w.elim
/-! lists of truths, of ints -/
def boolsD : List PyData → Option (List Bool)
  | [] => some []
  | .bool b :: ds => (boolsD ds).map (b :: ·)
  | _ => none
def intsD : List PyData → Option (List Int)
  | [] => some []
  | .int b :: ds => (intsD ds).map (b :: ·)
  | _ => none
theorem bools_ok {A : List Addr} {H : Hp} : ∀ {ds : List PyData} {vs : List V} {bs : List Bool}, IsAll K A H vs ds → boolsD ds = some bs → vs = bs.map V.bl
  | [], _, bs, h, e => by
    cases h
    cases e
    rfl
  | d :: ds, _, bs, h, e => by
    cases h with
    | cons h1 h2 =>
      cases h1 <;> try (simp [boolsD] at e; done)
      rename_i b
      unfold boolsD at e
      cases q : boolsD ds with
      | none => rw [q] at e; cases e
      | some cs =>
        rw [q] at e
        cases e
        rw [bools_ok h2 q]
        rfl
theorem ints_ok {A : List Addr} {H : Hp} : ∀ {ds : List PyData} {vs : List V} {bs : List Int}, IsAll K A H vs ds → intsD ds = some bs → vs = bs.map V.int
  | [], _, bs, h, e => by
    cases h
    cases e
    rfl
  | d :: ds, _, bs, h, e => by
    cases h with
    | cons h1 h2 =>
      cases h1 <;> try (simp [intsD] at e; done)
      rename_i b
      unfold intsD at e
      cases q : intsD ds with
      | none => rw [q] at e; cases e
      | some cs =>
        rw [q] at e
        cases e
        rw [ints_ok h2 q]
        rfl
theorem ints_is {A : List Addr} {H : Hp} : ∀ (ns : List Int), IsAll K A H (ns.map V.int) (ns.map PyData.int)
  | [] => .nil
  | n :: ns => .cons (.int n) (ints_is ns)
def fAll : PyData → (PyData → Prop) → Prop := fun x P => match x with
  | .list ds => ∃ bs, boolsD ds = some bs ∧ P (.bool (bs.all id))
  | _ => False
theorem dc_all : DC1 K (rAll K) fAll := by
  intro pp A H x dx P Q al hx w q
  unfold fAll at w
  split at w
  · obtain ⟨bs, e, w⟩ := w
    obtain ⟨p, xs, rfl, h, g⟩ := hx.list
    rw [bools_ok g e] at h
    exact ⟨p, bs, rfl, .inl (.inl h), q _ H _ keep_refl (.bl _) w⟩
  · exact w.elim
def fAny : PyData → (PyData → Prop) → Prop := fun x P => match x with
  | .list ds => ∃ bs, boolsD ds = some bs ∧ P (.bool (bs.any id))
  | _ => False
theorem dc_any : DC1 K (rAny K) fAny := by
  intro pp A H x dx P Q al hx w q
  unfold fAny at w
  split at w
  · obtain ⟨bs, e, w⟩ := w
    obtain ⟨p, xs, rfl, h, g⟩ := hx.list
    rw [bools_ok g e] at h
    exact ⟨p, bs, rfl, .inl (.inl h), q _ H _ keep_refl (.bl _) w⟩
  · exact w.elim
def fSum : PyData → (PyData → Prop) → Prop := fun x P => match x with
  | .list ds => ∃ ns, intsD ds = some ns ∧ P (.int ns.sum)
  | _ => False
theorem dc_sum : DC1 K (rSum K) fSum := by
  intro pp A H x dx P Q al hx w q
  unfold fSum at w
  split at w
  · obtain ⟨bs, e, w⟩ := w
    obtain ⟨p, xs, rfl, h, g⟩ := hx.list
    rw [ints_ok g e] at h
    exact ⟨p, bs, rfl, .inl (.inl h), q _ H _ keep_refl (.int _) w⟩
  · exact w.elim
def fSortedI : PyData → (PyData → Prop) → Prop := fun x P => match x with
  | .list ds => ∃ ns, intsD ds = some ns ∧ ∀ ms : List Int, ms.Perm ns → ms.Pairwise (· ≤ ·) → P (.list (ms.map .int))
  | _ => False
theorem dc_sortedI : DC1 K (rSortedI K) fSortedI := by
  intro pp A H x dx P Q al hx w q
  unfold fSortedI at w
  split at w
  · obtain ⟨bs, e, w⟩ := w
    obtain ⟨p, xs, rfl, h, g⟩ := hx.list
    rw [ints_ok g e] at h
    exact ⟨p, bs, rfl, .inl (.inl h), fun ms l pm pw n => q _ _ _ (keep_new n) (Is.newL al n (ints_is ms)) (w ms pm pw)⟩
  · exact w.elim
/-! isinstance -/
def tyN : PyData → String
  | .none => "NoneType"
  | .bool _ => "bool"
  | .int _ => "int"
  | .str _ => "str"
  | .list _ => "list"
  | .tuple _ => "tuple"
  | .dict _ => "dict"
theorem ty_ok {pp : Option Addr} {A : List Addr} {H : Hp} {v : V} {d : PyData} (h : Bo K pp A H v d) : TyX K H v (.type (tyN d)) := by
  rcases h with h | ⟨p, xs, ds, rfl, rfl, _, h, _⟩
  · cases h with
    | non => exact .base .non
    | bl b => exact .base (.bl b)
    | int i => exact .base (.int i)
    | str z => exact .base (.str z)
    | lst n h g => exact .base (.lst h)
    | tup n h g =>
      rcases h with h | ⟨o, h⟩
      · exact .base (.tup h)
      · exact .fTuple h
    | tupK h g =>
      rcases h (fun _ => none) with h | ⟨o, its, n, h, c, _⟩
      · rcases h with h | ⟨o, h⟩ <;> cases h
      · exact .kTuple h c
  · exact .base (.lst h)
def isB (T : String) (d : PyData) : Bool := match d with
  | .none => T == "NoneType"
  | .bool _ => T == "bool" || T == "int"
  | .int _ => T == "int"
  | .str _ => T == "str"
  | .list _ => T == "list"
  | .tuple _ => T == "tuple"
  | .dict _ => T == "dict"
def eIsi (T : String) (ea : DE) : DE := fun env P => ea env fun d => P (.bool (isB T d))
theorem ge_isi {T : String} {x2 : Str} {p2 : Pos} (h : GB X G e ea) (hk : ∀ d : PyData, kitB (tyN d) T = some (isB T d)) (hg : Gl X "isinstance") (hm : X.mg "isinstance" = none) (hv : bootBuiltins "isinstance" = some (.builtin "isinstance"))
    (hg2 : Gl X x2) (hm2 : X.mg x2 = none) (hv2 : bootBuiltins x2 = some (.type T)) (hn2 : x2 ≠ "__name__" := by decide) (hd2 : (x2 == ("__debug__" : Str)) = false := by decide)
    (he : starEach [e, .Name x2 p2] X.env = (false, eval e X.env) :: starEach [.Name x2 p2] X.env := by rfl) (he2 : starEach [.Name x2 p2] X.env = (false, eval (.Name x2 p2) X.env) :: starEach [] X.env := by rfl) (hpl : (backTo pos (starEach [.Name x2 p2] X.env)).any (·.1) = false := by rfl) :
    GE X G (.Call (.Name "isinstance" p) [e, .Name x2 p2] [] pos) (eIsi T ea) := by
  obtain ⟨t, pt, h⟩ := h
  refine ⟨_, pe_callB call_isi hg hm hv (pa_cons pt (pa_cons (pe_bltn (v := .ty T) hg2 hm2 hv2 rfl hn2 hd2) pa_nil he2) he) (by decide) (by decide) he hpl, fun A σ H env P Q m w q => ?_⟩
  refine h A σ H env _ _ m w fun v H1 d s i w => ?_
  exact ⟨v, .ty T, _, .type T, isB T d, rfl, .ty T, ty_ok i, kit_ty (hk d), q _ H1 _ s (.bl _) w⟩
theorem kit_all {T : String} (h0 : kitB "NoneType" T = some (T == "NoneType")) (h1 : kitB "bool" T = some (T == "bool" || T == "int")) (h2 : kitB "int" T = some (T == "int")) (h3 : kitB "str" T = some (T == "str")) (h4 : kitB "list" T = some (T == "list")) (h5 : kitB "tuple" T = some (T == "tuple")) (h6 : kitB "dict" T = some (T == "dict")) : ∀ d : PyData, kitB (tyN d) T = some (isB T d)
  | .none => h0 | .bool _ => h1 | .int _ => h2 | .str _ => h3 | .list _ => h4 | .tuple _ => h5 | .dict _ => h6
theorem kit_int : ∀ d : PyData, kitB (tyN d) "int" = some (isB "int" d) := kit_all (by decide +kernel) (by decide +kernel) (by decide +kernel) (by decide +kernel) (by decide +kernel) (by decide +kernel) (by decide +kernel)
theorem kit_bool : ∀ d : PyData, kitB (tyN d) "bool" = some (isB "bool" d) := kit_all (by decide +kernel) (by decide +kernel) (by decide +kernel) (by decide +kernel) (by decide +kernel) (by decide +kernel) (by decide +kernel)
theorem kit_str : ∀ d : PyData, kitB (tyN d) "str" = some (isB "str" d) := kit_all (by decide +kernel) (by decide +kernel) (by decide +kernel) (by decide +kernel) (by decide +kernel) (by decide +kernel) (by decide +kernel)
theorem kit_list : ∀ d : PyData, kitB (tyN d) "list" = some (isB "list" d) := kit_all (by decide +kernel) (by decide +kernel) (by decide +kernel) (by decide +kernel) (by decide +kernel) (by decide +kernel) (by decide +kernel)
theorem kit_tuple : ∀ d : PyData, kitB (tyN d) "tuple" = some (isB "tuple" d) := kit_all (by decide +kernel) (by decide +kernel) (by decide +kernel) (by decide +kernel) (by decide +kernel) (by decide +kernel) (by decide +kernel)
end
end Dl
/-! text Dl7 -/
/-! Dl7: own lists turned to data, several values stored at once, items of own lists stored. -/
namespace Dl
open PySem L2
section
variable {X : Cx} {G : Gh} {a b c e tg : Expr} {ea eb ec ee : DE} {ta tb tc : DT} {pos p : Pos} {K : PySem.W.Frag} {A A' : List Addr} {σ : L2.St} {H H' : Hp} {env : Env}
/-! from here on the list only stands -/
theorem MA.frz (m : MA K G A σ H env) {i : Nat} {ds : List PyData} (e : env[i]? = some (.own ds)) : ∃ A', Pres K A H A' H ∧ MA K G A' σ H (env.set i (.dat (.list ds))) := by
  obtain ⟨x, hx, q, xs, rfl, hp, h0, np, hq, g⟩ := m.all i _ e
  have kk : ∀ a o, a ∉ A → H a = some o → a ∉ A.filter (fun z => decide (z ≠ q)) ∧ H a = some o := fun a o n r => ⟨fun z => n (List.mem_filter.mp z).1, r⟩
  have keepA : ∀ a, a ∈ A → a ≠ q → a ∈ A.filter (fun z => decide (z ≠ q)) := fun a h n => List.mem_filter.mpr ⟨h, decide_eq_true n⟩
  refine ⟨A.filter (fun z => decide (z ≠ q)), fun v d h => Is.keep kk d v h, ?_, ?_, ?_, ?_, ?_, m.h0, ?_, m.hist⟩
  · rw [List.length_set]; exact m.len
  · intro j s ej
    rcases set_get ej with ⟨rfl, rfl⟩ | ⟨n, ej⟩
    · exact ⟨_, hx, _, rfl, .lst (fun z => by have := (List.mem_filter.mp z).2; simp at this) hq (IsAll.keep kk _ _ g)⟩
    · obtain ⟨x, hx2, h⟩ := m.all j s ej
      refine ⟨x, hx2, ?_⟩
      cases s with
      | un => trivial
      | dat d =>
        obtain ⟨v, e, h⟩ := h
        exact ⟨v, e, Is.keep kk d v h⟩
      | own fs =>
        obtain ⟨r, zs, e2, a, b, c, h, gg⟩ := h
        refine ⟨r, zs, e2, keepA r a fun z => ?_, b, c, h, IsAll.keep kk _ _ gg⟩
        subst z
        exact m.uni i j _ _ n e ej (by rw [hx, hx2, e2])
      | pot => exact h
  · intro a b da db n ea eb
    rcases set_get ea with ⟨_, e⟩ | ⟨na, ea⟩
    · cases e
    rcases set_get eb with ⟨_, e⟩ | ⟨nb, eb⟩
    · cases e
    exact m.uni a b da db n ea eb
  · exact fun a h => m.al a (List.mem_filter.mp h).1
  · intro a h
    refine keepA a (m.a0 a h) fun z => ?_
    subst z
    obtain ⟨o, e⟩ := m.h0 a h
    rw [h0] at e
    cases e
  · exact fun p e => m.pp p e
def wFrz (i : Nat) (w : DS) : DS := fun k env => match env[i]? with
  | some (.own ds) => w k (env.set i (.dat (.list ds)))
  | _ => w k env
theorem gss_frz {st : List Stmt} {w : DS} (i : Nat) (h : GSs X G st w) : GSs X G st (wFrz i w) := by
  obtain ⟨t, p, h⟩ := h
  refine ⟨t, p, fun A σ H env k D m hw l => ?_⟩
  unfold wFrz at hw
  split at hw
  · rename_i ds e
    obtain ⟨A', pr, m'⟩ := m.frz e
    exact h A' σ H _ k D m' hw (l.on pr)
  · exact h A σ H env k D m hw l

/-! values ready to be stored: data, or lists that nothing else has -/
def Rdy (K : PySem.W.Frag) (G : Gh) (Hs : Hp) (A : List Addr) (H : Hp) : V → Sl → Prop
  | v, .dat d => Is K A H v d
  | v, .own ds => ∃ p xs, v = .ref p ∧ p ∈ A ∧ Hs p = none ∧ H p = some (.lst xs) ∧ IsAll K A H xs ds
  | _, _ => False
inductive RdyAll (K : PySem.W.Frag) (G : Gh) (Hs : Hp) (A : List Addr) (H : Hp) : List V → List Sl → Prop
  | nil : RdyAll K G Hs A H [] []
  | cons {v : V} {s : Sl} {vs : List V} {ss : List Sl} : Rdy K G Hs A H v s → (∀ ds, s = .own ds → ∀ (i : Nat) es, ss[i]? = some (.own es) → vs[i]? ≠ some v) → RdyAll K G Hs A H vs ss → RdyAll K G Hs A H (v :: vs) (s :: ss)
theorem Rdy.back {Hs Hs' : Hp} (k : ∀ q, Hs' q = none → Hs q = none) {v : V} {s : Sl} (h : Rdy K G Hs' A H v s) : Rdy K G Hs A H v s := by
  cases s with
  | un => exact h
  | dat d => exact h
  | own ds =>
    obtain ⟨p, xs, e, a, b, c, d⟩ := h
    exact ⟨p, xs, e, a, k p b, c, d⟩
  | pot => exact h
theorem RdyAll.back {Hs Hs' : Hp} (k : ∀ q, Hs' q = none → Hs q = none) : ∀ {vs : List V} {ss : List Sl}, RdyAll K G Hs' A H vs ss → RdyAll K G Hs A H vs ss
  | _, _, .nil => .nil
  | _, _, .cons r n t => .cons (r.back k) n (t.back k)
theorem RdyAll.at {Hs : Hp} : ∀ {vs : List V} {ss : List Sl} {i : Nat} {es : List PyData}, RdyAll K G Hs A H vs ss → ss[i]? = some (.own es) → ∃ q, vs[i]? = some (.ref q) ∧ Hs q = none
  | _, _, i, es, .nil, e => by simp at e
  | _, _, 0, es, .cons r n t, e => by
    simp only [List.getElem?_cons_zero, Option.some.injEq] at e
    subst e
    obtain ⟨q, xs, e, _, h, _⟩ := r
    exact ⟨q, by rw [e]; rfl, h⟩
  | _, _, i + 1, es, .cons r n t, e => by
    rw [List.getElem?_cons_succ] at e ⊢
    exact t.at e
theorem RdyAll.len {Hs : Hp} : ∀ {vs : List V} {ss : List Sl}, RdyAll K G Hs A H vs ss → vs.length = ss.length
  | _, _, .nil => rfl
  | _, _, .cons _ _ t => by rw [List.length_cons, List.length_cons, t.len]
abbrev DM := Env → (List Sl → Prop) → Prop
/-- more addresses, all of them new -/
structure Wid (G : Gh) (A : List Addr) (H : Hp) (A' : List Addr) (H' : Hp) : Prop where
  st : Step G.pp H H'
  up : ∀ a ∈ A, a ∈ A'
  nw : ∀ a ∈ A', a ∈ A ∨ H a = none
theorem Step.none {pp : Option Addr} (s : Step pp H H') (hp : ∀ p, pp = some p → PotAt H p) {q : Addr} (h : H' q = none) : H q = none := by
  cases e : H q with
  | none => rfl
  | some o =>
    by_cases z : some q = pp
    · obtain ⟨x, y, e2, _⟩ := s.p q z.symm (hp q z.symm)
      rw [h] at e2
      cases e2
    · have := s.k q o z e
      rw [h] at this
      cases this
theorem Wid.out (w : Wid G A H A' H') {a : Addr} {o : HO} (n : a ∉ A) (e : H a = some o) : a ∉ A' := fun z => by
  rcases w.nw a z with q | q
  · exact n q
  · rw [e] at q
    cases q
theorem Wid.pres (m : MA K G A σ H env) (w : Wid G A H A' H') : Pres K A H A' H' := fun v d h => Is.keep (fun a o n e => ⟨w.out n e, w.st.k a o (fun z => n (m.ppA z.symm)) e⟩) d v h
theorem Wid.presAll (m : MA K G A σ H env) (w : Wid G A H A' H') {vs : List V} {ds : List PyData} (h : IsAll K A H vs ds) : IsAll K A' H' vs ds := IsAll.keep (fun a o n e => ⟨w.out n e, w.st.k a o (fun z => n (m.ppA z.symm)) e⟩) ds vs h
theorem Wid.refl : Wid G A H A H := ⟨Step.refl, fun _ h => h, fun _ h => .inl h⟩
structure GM (X : Cx) (G : Gh) (es : List Expr) (ev : DM) : Prop where
  ex : ∃ t, PA X es t ∧ ∀ (A : List Addr) (σ : L2.St) (H : Hp) (env : Env) (P : List Sl → Prop) (Q : List V → Hp → Prop), MA X.K G A σ H env → ev env P →
    (∀ A' vs H' ss, Wid G A H A' H' → MA X.K G A' σ H' env → RdyAll X.K G H A' H' vs ss → ss.length = es.length → P ss → Q vs H') → t σ H Q
def mN : DM := fun _ P => P []
theorem gm_nil : GM X G [] mN := ⟨tNil, pa_nil, fun A σ H env P Q m w q => q A [] H [] Wid.refl m .nil rfl w⟩
def mD (ea : DE) (r : DM) : DM := fun env P => ea env fun d => r env fun ss => P (.dat d :: ss)
def mO (ea : DA) (r : DM) : DM := fun env P => ea env fun ds => r env fun ss => P (.own ds :: ss)
theorem gm_dat {es : List Expr} {er : DM} (ha : GE X G e ea) (hr : GM X G es er) (hs : starEach (e :: es) X.env = (false, eval e X.env) :: starEach es X.env := by rfl) : GM X G (e :: es) (mD ea er) := by
  obtain ⟨t, p, h⟩ := ha
  obtain ⟨u, p2, h2⟩ := hr
  refine ⟨tCons t u, pa_cons p p2 hs, fun A σ H env P Q m w q => ?_⟩
  refine h A σ H env _ _ m w fun v H1 d s1 i w => ?_
  have m1 := m.step s1
  refine h2 A σ H1 env _ _ m1 w fun A' vs H' ss w2 m' r hl hP => ?_
  refine q A' (v :: vs) H' (.dat d :: ss) ⟨s1.trans w2.st, w2.up, fun a h => (w2.nw a h).imp id fun z => s1.none (fun p e => (m.pp p e).2) z⟩ m' (.cons (w2.pres m1 _ _ i) (fun ds e => by cases e) (r.back fun q z => s1.none (fun p e => (m.pp p e).2) z)) (congrArg Nat.succ hl) hP
theorem gm_own {es : List Expr} {er : DM} {ev : DA} (ha : GF X G e ev) (hr : GM X G es er) (hs : starEach (e :: es) X.env = (false, eval e X.env) :: starEach es X.env := by rfl) : GM X G (e :: es) (mO ev er) := by
  obtain ⟨t, p, h⟩ := ha
  obtain ⟨u, p2, h2⟩ := hr
  refine ⟨tCons t u, pa_cons p p2 hs, fun A σ H env P Q m w q => ?_⟩
  refine h A σ H env _ _ m w fun p H1 xs ds s1 n g w => ?_
  have m1 := m.step s1
  have m2 := m1.more (o := .lst xs) n
  have sn : Step G.pp H1 (upd H1 p (.lst xs)) := Step.new n
  have np : some p ≠ G.pp := fun y => by
    obtain ⟨a, b, e, _⟩ := (m1.pp p y.symm).2
    rw [n] at e
    cases e
  have s12 := s1.trans sn
  have nH : ∀ {q : Addr}, upd H1 p (.lst xs) q = none → H q = none := fun z => s12.none (fun p e => (m.pp p e).2) z
  refine h2 (p :: A) σ _ env _ _ m2 w fun A' vs H' ss w2 m' r hl hP => ?_
  refine q A' (.ref p :: vs) H' (.own ds :: ss) ⟨s12.trans w2.st, fun a h => w2.up a (List.mem_cons_of_mem _ h), fun a h => ?_⟩ m' (.cons ⟨p, xs, rfl, w2.up p (List.mem_cons_self ..), s1.none (fun p e => (m.pp p e).2) n, w2.st.k _ _ np upd_same, ?_⟩ (fun ds' e i es' ei => ?_) (r.back fun q z => nH z)) (congrArg Nat.succ hl) hP
  · rcases w2.nw a h with z | z
    · rcases List.mem_cons.mp z with rfl | z
      · exact .inr (s1.none (fun p e => (m.pp p e).2) n)
      · exact .inl z
    · exact .inr (nH z)
  · have g2 : IsAll X.K (p :: A) (upd H1 p (.lst xs)) xs ds := IsAll.keep (fun a u na e => by
      have ne := ne_of_none e n
      exact ⟨fun q => by rcases List.mem_cons.mp q with q | q; exact ne q; exact na q, by rw [upd_ne ne]; exact e⟩) _ _ g
    exact w2.presAll m2 g2
  · obtain ⟨q', e1, e2⟩ := r.at ei
    rw [e1]
    intro z
    have z := Option.some.inj z
    cases z
    rw [upd_same] at e2
    cases e2
/-! stored one behind another -/
def setS : L2.St → List Nat → List V → L2.St
  | σ, i :: is, v :: vs => setS (σ.set i (some v)) is vs
  | σ, _, _ => σ
def setE : Env → List Nat → List Sl → Env
  | env, i :: is, s :: ss => setE (env.set i s) is ss
  | env, _, _ => env
theorem ma_setAll {Hs : Hp} : ∀ {is : List Nat} {vs : List V} {ss : List Sl} {σ : L2.St} {env : Env}, MA K G A σ H env → RdyAll K G Hs A H vs ss → (∀ a o, G.H0 a = some o → Hs a ≠ none) → (∀ p, G.pp = some p → Hs p ≠ none) →
    (∀ q, Hs q = none → (∃ (i : Nat) (es : List PyData), ss[i]? = some (.own es) ∧ vs[i]? = some (.ref q)) → ∀ (j : Nat) (es : List PyData), env[j]? = some (.own es) → σ[j]? ≠ some (some (.ref q))) → is.length = ss.length → MA K G A (setS σ is vs) H (setE env is ss)
  | [], _, _, σ, env, m, .nil, _, _, _, _ => m
  | [], _, _, σ, env, m, .cons _ _ _, _, _, _, e => by cases e
  | _ :: _, _, _, σ, env, m, .nil, _, _, _, e => by cases e
  | i :: is, _, _, σ, env, m, .cons (v := v) (s := s) (vs := vs) (ss := ss) r n t, h0, hp, hu, e => by
    unfold setS setE
    cases s with
    | un => exact r.elim
    | pot => exact r.elim
    | dat d =>
      refine ma_setAll (m.setD i r) t h0 hp (fun q hq ⟨j, es, e1, e2⟩ l es' el => ?_) (Nat.succ.inj e)
      rcases set_get el with ⟨_, z⟩ | ⟨nl, el⟩
      · cases z
      · rw [List.getElem?_set_ne nl]
        exact hu q hq ⟨j + 1, es, by simpa using e1, by simpa using e2⟩ l es' el
    | own ds =>
      obtain ⟨p, xs, rfl, pa, pn, px, g⟩ := r
      have nH0 : G.H0 p = none := by
        cases z : G.H0 p with
        | none => rfl
        | some o => exact absurd pn (h0 p o z)
      refine ma_setAll (m.setO i pa nH0 (fun z => hp p z.symm pn) (fun j nj es ej => hu p pn ⟨0, ds, rfl, rfl⟩ j es ej) px g) t h0 hp (fun q hq ⟨j, es, e1, e2⟩ l es' el => ?_) (Nat.succ.inj e)
      rcases set_get el with ⟨rfl, z⟩ | ⟨nl, el⟩
      · have li : i < σ.length := by
          have := (List.getElem?_eq_some_iff.mp el).1
          rw [List.length_set] at this
          rw [m.len]; exact this
        rw [List.getElem?_set_self li]
        intro z
        have z := Option.some.inj (Option.some.inj z)
        cases z
        exact n ds rfl j es e1 e2
      · rw [List.getElem?_set_ne nl]
        exact hu q hq ⟨j + 1, es, by simpa using e1, by simpa using e2⟩ l es' el
/-- the condition of `ma_setAll` at the time behind a GM -/
theorem ma_store {is : List Nat} {vs : List V} {ss : List Sl} (m0 : MA K G A σ H env) (w : Wid G A H A' H') (m : MA K G A' σ H' env) (r : RdyAll K G H A' H' vs ss) (hl : is.length = ss.length) : MA K G A' (setS σ is vs) H' (setE env is ss) := by
  refine ma_setAll m r (fun a o e => ?_) (fun p e => ?_) (fun q hq _ j es ej z => ?_) hl
  · by_cases z : some a = G.pp
    · obtain ⟨x, y, e, _⟩ := (m0.pp a z.symm).2
      rw [e]; nofun
    · rw [m0.hist a o z e]; nofun
  · obtain ⟨x, y, e, _⟩ := (m0.pp p e).2
    rw [e]; nofun
  · obtain ⟨x, hx, p, xs, rfl, _, _, _, h, _⟩ := m0.all j _ ej
    rw [z] at hx
    cases hx
    rw [hq] at h
    cases h
def wPar (is : List Nat) (ev : DM) : DS := fun k env => ev env fun ss => k.nx (setE env is ss)
theorem two_of {α : Type} {l : List α} (h : l.length = 2) : ∃ a b, l = [a, b] := by
  match l, h with
  | [a, b], _ => exact ⟨a, b, rfl⟩
theorem three_of {α : Type} {l : List α} (h : l.length = 3) : ∃ a b c, l = [a, b, c] := by
  match l, h with
  | [a, b, c], _ => exact ⟨a, b, c, rfl⟩
theorem gs_par2 {i j : Nat} {x y : Str} {em : DM} {px py pt : Pos} {kt k2 pt2} (hc : X.calm = true) (hN : X.N.Nodup) (hi : X.N[i]? = some x) (hj : X.N[j]? = some y) (hij : i ≠ j)
    (hx : X.env.scope.names.lookup x = some .local) (hy : X.env.scope.names.lookup y = some .local) (ha : GM X G [a, b] em)
    (hw : swappedStores [.Tuple [.Name x px, .Name y py] kt pt] (.Tuple [a, b] k2 pt2) X.env = pure (some [x, y]) := by rfl)
    (hs : swapsWithSole [.Tuple [.Name x px, .Name y py] kt pt] (.Tuple [a, b] k2 pt2) pos.line X.env = pure false := by rfl) :
    GS X G (.Assign [.Tuple [.Name x px, .Name y py] kt pt] (.Tuple [a, b] k2 pt2) pos) (wPar [i, j] em) := by
  obtain ⟨t, pa, h⟩ := ha
  refine ⟨_, ps_par hc hN hi hj hij hx hy pa hw hs, fun A σ H env k D m w l => ?_⟩
  refine h A σ H env _ _ m w fun A' vs H' ss wd m' r hl w => ?_
  have rl := r.len
  obtain ⟨v1, v2, rfl⟩ := two_of (rl.trans hl)
  refine ⟨v1, v2, rfl, ?_⟩
  exact l.nx A' _ H' _ (wd.pres m) (ma_store (is := [i, j]) m wd m' r hl.symm) w
theorem gs_par3 {i j n : Nat} {x y z : Str} {em : DM} {px py pz pt : Pos} {kt k2 pt2} (hc : X.calm = true) (hN : X.N.Nodup) (hi : X.N[i]? = some x) (hj : X.N[j]? = some y) (hn : X.N[n]? = some z) (hij : i ≠ j) (hin : i ≠ n) (hjn : j ≠ n)
    (hx : X.env.scope.names.lookup x = some .local) (hy : X.env.scope.names.lookup y = some .local) (hz : X.env.scope.names.lookup z = some .local) (ha : GM X G [a, b, c] em)
    (hw : swappedStores [.Tuple [.Name x px, .Name y py, .Name z pz] kt pt] (.Tuple [a, b, c] k2 pt2) X.env = pure (some [x, y, z]) := by rfl)
    (hs : swapsWithSole [.Tuple [.Name x px, .Name y py, .Name z pz] kt pt] (.Tuple [a, b, c] k2 pt2) pos.line X.env = pure false := by rfl) :
    GS X G (.Assign [.Tuple [.Name x px, .Name y py, .Name z pz] kt pt] (.Tuple [a, b, c] k2 pt2) pos) (wPar [i, j, n] em) := by
  obtain ⟨t, pa, h⟩ := ha
  refine ⟨_, ps_par3 hc hN hi hj hn hij hin hjn hx hy hz pa hw hs, fun A σ H env k D m w l => ?_⟩
  refine h A σ H env _ _ m w fun A' vs H' ss wd m' r hl w => ?_
  have rl := r.len
  obtain ⟨v1, v2, v3, rfl⟩ := three_of (rl.trans hl)
  refine ⟨v1, v2, v3, rfl, ?_⟩
  exact l.nx A' _ H' _ (wd.pres m) (ma_store (is := [i, j, n]) m wd m' r hl.symm) w
/-! through a tuple -/
def gNms (is : List Nat) : TGs := fun vs σ H Q => vs.length = is.length ∧ Q (setS σ is vs) H
theorem pgs_nmN : PGs X [] (gNms []) := by
  refine ⟨fun pins s σ H vs us Q I r h => ?_⟩
  obtain ⟨e, h⟩ := h
  obtain rfl := List.length_eq_zero_iff.mp e
  exact pgs_nil.run pins s σ H [] us Q I r ⟨rfl, h⟩
theorem pgs_nmC {i : Nat} {is : List Nat} {x : Str} {px : Pos} {es : List Expr} (hN : X.N.Nodup) (hi : X.N[i]? = some x) (hx : Loc X.env.scope x) (hr : PGs X es (gNms is))
    (hf : X.fn x = true ∨ X.env.scope.names.lookup x = some .local := by first | exact .inl rfl | exact .inr rfl | assumption)
    (hs : (assignEach (.Name x px :: es) X.env).map (·.2) = assign (.Name x px) X.env :: (assignEach es X.env).map (·.2) := by rfl) : PGs X (.Name x px :: es) (gNms (i :: is)) := by
  refine ⟨fun pins s σ H vs us Q I r h => ?_⟩
  obtain ⟨e, h⟩ := h
  rcases vs with _ | ⟨v, vs⟩
  · cases e
  · exact (pgs_cons (pg_name hN hi hx hf) hr hs).run pins s σ H _ us Q I r ⟨v, vs, rfl, Nat.succ.inj e, h⟩
theorem gs_parG {is : List Nat} {es vs : List Expr} {em : DM} {pt : Pos} {kt k2 pt2} (hc : X.calm = true) (hg : PGs X es (gNms is)) (ha : GM X G vs em) (hlen : is.length = vs.length := by rfl) (hsm : vs.length ≤ 100000 := by decide)
    (hw : swappedStores [.Tuple es kt pt] (.Tuple vs k2 pt2) X.env = pure none := by rfl) (hs : swapsWithSole [.Tuple es kt pt] (.Tuple vs k2 pt2) pos.line X.env = pure false := by rfl)
    (h1 : (assignEach [.Tuple es kt pt] X.env).map (·.2) = [assign (.Tuple es kt pt) X.env] := by rfl) (hn : (assignEach es X.env).length = vs.length := by rfl) (hst : (assignEach es X.env).findIdx? (·.1) = none := by rfl) :
    GS X G (.Assign [.Tuple es kt pt] (.Tuple vs k2 pt2) pos) (wPar is em) := by
  obtain ⟨t, pa, h⟩ := ha
  refine ⟨_, ps_asg (pe_tup pa) (pg_tup hc hg hn hst) hs hw h1, fun A σ H env k D m w l => ?_⟩
  refine h A σ H env _ _ m w fun A' us H' ss wd m' r hl w => ?_
  have rl := r.len
  refine ⟨by rw [rl, hl]; exact sz_of hsm, fun p n => ⟨p, us, rfl, .inl (.inl upd_same), rl.trans hl, ?_⟩⟩
  refine ⟨by rw [rl, hl, hlen], ?_⟩
  have ms := ma_store (is := is) m wd m' r (by rw [hl, hlen])
  exact l.nx A' _ _ _ ((wd.pres m).trans (m'.pres (Step.new n))) (ms.step (Step.new n)) w
/-! xs[i] = e -/
theorem IsAll.set {ds : List PyData} : ∀ {vs : List V} {d : PyData} {v : V} (n : Nat), IsAll K A H vs ds → Is K A H v d → IsAll K A H (vs.set n v) (ds.set n d) := by
  induction ds with
  | nil => intro vs d v n h i; cases h; exact .nil
  | cons d0 ds ih =>
    intro vs d v n h i
    cases h with
    | cons h1 h2 =>
      cases n with
      | zero => exact .cons i h2
      | succ n => exact .cons h1 (ih n h2 i)
def wSet (i : Nat) (ei ee : DE) : DS := fun k env => match env[i]? with
  | some (.own ds) => ee env fun d => ei env fun j => match j with
    | .int j => ∃ n, ixN ds.length j = some n ∧ k.nx (env.set i (.own (ds.set n d)))
    | _ => False
  | _ => False
theorem gs_set {i : Nat} {x : Str} {px : Pos} {ie : Expr} {ei : DE} {p2 : Pos} (he : GE X G e ee) (hi : GE X G ie ei) (hN : X.N[i]? = some x) (hv : Vis X.env.scope x)
    (hd : (x == ("__debug__" : Str)) = false := by decide) (hcd : (x == ("__classdict__" : Str)) = false := by decide)
    (hs : swapsWithSole [.Subscript (.Name x px) ie p2] e pos.line X.env = pure false := by rfl) (hw : swappedStores [.Subscript (.Name x px) ie p2] e X.env = pure none := by rfl)
    (h1 : (assignEach [.Subscript (.Name x px) ie p2] X.env).map (·.2) = [assign (.Subscript (.Name x px) ie p2) X.env] := by rfl)
    (has : ∀ v, assign (.Subscript (.Name x px) ie p2) X.env v = (do
      let ov ← holding [v] (eval (.Name x px) X.env)
      let iv ← holding [v, ov] (eval ie X.env)
      standAt p2
      holding [v, ov, iv] (setItem ov iv v)
      release [v, ov, iv] []) := by intro _; rfl) : GS X G (.Assign [.Subscript (.Name x px) ie p2] e pos) (wSet i ei ee) := by
  obtain ⟨t, pe, he⟩ := he
  obtain ⟨u, pi, hi⟩ := hi
  refine ⟨_, ps_asg pe (pg_sub (pe_var hN hv hd hcd) pi set_list has) hs hw h1, fun A σ H env k D m w l => ?_⟩
  unfold wSet at w
  split at w
  · rename_i ds eo
    refine he A σ H env _ _ m w fun v H1 d s1 iv w => ?_
    have m1 := m.step s1
    obtain ⟨y, hy, p, xs, rfl, _, _, np, hp, g⟩ := m1.all i _ eo
    refine ⟨_, hy, ?_⟩
    refine hi A σ H1 env _ _ m1 w fun j H2 dj s2 ij w => ?_
    split at w
    · cases ij
      obtain ⟨n, hn, w⟩ := w
      have m2 := m1.step s2
      have g2 := g.step m1 s2
      refine ⟨p, xs, _, n, rfl, rfl, s2.k _ _ np hp, by rw [g.len]; exact hn, ?_⟩
      obtain ⟨m3, pr⟩ := m2.putO (ys := xs.set n v) eo hy (g2.set n (iv.step m1 s2))
      exact l.nx A σ _ _ (((m.pres s1).trans (m1.pres s2)).trans pr) m3 w
    · exact w.elim
  · exact w.elim
/-! x[i], x[j] = a, b -/
def wSet2 (i : Nat) (e1 e2 : DE) (ev : DA) : DS := fun k env => match env[i]? with
  | some (.own ds) => ev env fun vs => match vs with
    | [d1, d2] => e1 env fun j1 => match j1 with
      | .int j1 => ∃ n1, ixN ds.length j1 = some n1 ∧ e2 (env.set i (.own (ds.set n1 d1))) fun j2 => match j2 with
        | .int j2 => ∃ n2, ixN ds.length j2 = some n2 ∧ k.nx ((env.set i (.own (ds.set n1 d1))).set i (.own ((ds.set n1 d1).set n2 d2)))
        | _ => False
      | _ => False
    | _ => False
  | _ => False
theorem gs_set2 {i : Nat} {x : Str} {px px' : Pos} {i1 i2 : Expr} {d1 d2 : DE} {ev : DA} {p1 p2 pt : Pos} {kt k2 pt2} (hc : X.calm = true) (he : GA X G [a, b] ev) (h1i : GE X G i1 d1) (h2i : GE X G i2 d2) (hN : X.N[i]? = some x) (hv : Vis X.env.scope x)
    (hd : (x == ("__debug__" : Str)) = false := by decide) (hcd : (x == ("__classdict__" : Str)) = false := by decide)
    (hs : swapsWithSole [.Tuple [.Subscript (.Name x px) i1 p1, .Subscript (.Name x px') i2 p2] kt pt] (.Tuple [a, b] k2 pt2) pos.line X.env = pure false := by rfl)
    (hw : swappedStores [.Tuple [.Subscript (.Name x px) i1 p1, .Subscript (.Name x px') i2 p2] kt pt] (.Tuple [a, b] k2 pt2) X.env = pure none := by rfl)
    (h1 : (assignEach [.Tuple [.Subscript (.Name x px) i1 p1, .Subscript (.Name x px') i2 p2] kt pt] X.env).map (·.2) = [assign (.Tuple [.Subscript (.Name x px) i1 p1, .Subscript (.Name x px') i2 p2] kt pt) X.env] := by rfl)
    (has1 : ∀ v, assign (.Subscript (.Name x px) i1 p1) X.env v = (do
      let ov ← holding [v] (eval (.Name x px) X.env)
      let iv ← holding [v, ov] (eval i1 X.env)
      standAt p1
      holding [v, ov, iv] (setItem ov iv v)
      release [v, ov, iv] []) := by intro _; rfl)
    (has2 : ∀ v, assign (.Subscript (.Name x px') i2 p2) X.env v = (do
      let ov ← holding [v] (eval (.Name x px') X.env)
      let iv ← holding [v, ov] (eval i2 X.env)
      standAt p2
      holding [v, ov, iv] (setItem ov iv v)
      release [v, ov, iv] []) := by intro _; rfl)
    (hn : (assignEach [.Subscript (.Name x px) i1 p1, .Subscript (.Name x px') i2 p2] X.env).length = 2 := by rfl) (hst : (assignEach [.Subscript (.Name x px) i1 p1, .Subscript (.Name x px') i2 p2] X.env).findIdx? (·.1) = none := by rfl)
    (hq1 : (assignEach [.Subscript (.Name x px) i1 p1, .Subscript (.Name x px') i2 p2] X.env).map (·.2) = assign (.Subscript (.Name x px) i1 p1) X.env :: (assignEach [.Subscript (.Name x px') i2 p2] X.env).map (·.2) := by rfl)
    (hq2 : (assignEach [.Subscript (.Name x px') i2 p2] X.env).map (·.2) = assign (.Subscript (.Name x px') i2 p2) X.env :: (assignEach [] X.env).map (·.2) := by rfl) :
    GS X G (.Assign [.Tuple [.Subscript (.Name x px) i1 p1, .Subscript (.Name x px') i2 p2] kt pt] (.Tuple [a, b] k2 pt2) pos) (wSet2 i d1 d2 ev) := by
  obtain ⟨t, pe, he⟩ := he
  obtain ⟨u1, pi1, h1i⟩ := h1i
  obtain ⟨u2, pi2, h2i⟩ := h2i
  refine ⟨_, ps_asg (pe_tup pe) (pg_tup hc (pgs_cons (pg_sub (pe_var hN hv hd hcd) pi1 set_list has1) (pgs_cons (pg_sub (pe_var hN hv hd hcd) pi2 set_list has2) pgs_nil hq2) hq1) hn hst) hs hw h1, fun A σ H env k D m w l => ?_⟩
  unfold wSet2 at w
  split at w
  · rename_i ds eo
    refine he A σ H env _ _ m w fun vs H1 ds' s1 is w => ?_
    split at w
    · rename_i e1 e2
      cases is with
      | cons i1v is =>
      rename_i v1 vs1
      cases is with
      | cons i2v is =>
      rename_i v2 vs2
      cases is
      have m1 := m.step s1
      refine ⟨by show 2 ≤ sizeLine; decide, fun p n => ⟨p, [v1, v2], rfl, .inl (.inl upd_same), rfl, _, _, rfl, ?_⟩⟩
      have sn : Step G.pp H1 (upd H1 p (.tup [v1, v2])) := Step.new n
      have m2 := m1.step sn
      have j1 := i1v.step m1 sn
      have j2 := i2v.step m1 sn
      obtain ⟨y, hy, q, xs, rfl, _, _, np, hq, g⟩ := m2.all i _ eo
      refine ⟨_, hy, ?_⟩
      refine h1i A σ _ env _ _ m2 w fun j H3 dj s3 ij w => ?_
      split at w
      · cases ij
        obtain ⟨n1, hn1, w⟩ := w
        have m3 := m2.step s3
        have g3 := g.step m2 s3
        refine ⟨q, xs, _, n1, rfl, rfl, s3.k _ _ np hq, by rw [g.len]; exact hn1, ?_⟩
        obtain ⟨m4, pr⟩ := m3.putO (ys := xs.set n1 v1) eo hy (g3.set n1 (j1.step m2 s3))
        have j2' := pr _ _ (j2.step m2 s3)
        have lt : i < env.length := (List.getElem?_eq_some_iff.mp eo).1
        have eo4 : (env.set i (Sl.own (ds.set n1 e1)))[i]? = some (Sl.own (ds.set n1 e1)) := List.getElem?_set_self lt
        obtain ⟨y4, hy4, q4, xs4, e4, _, _, np4, hq4, g4⟩ := m4.all i _ eo4
        rw [hy] at hy4
        cases hy4
        cases e4
        refine ⟨_, _, rfl, _, hy, ?_⟩
        refine h2i A σ _ _ _ _ m4 w fun j H5 dj s5 ij w => ?_
        split at w
        · cases ij
          obtain ⟨n2, hn2, w⟩ := w
          have m5 := m4.step s5
          have g5 := g4.step m4 s5
          refine ⟨q, xs4, _, n2, rfl, rfl, s5.k _ _ np hq4, by rw [g4.len, List.length_set]; exact hn2, rfl, ?_⟩
          obtain ⟨m6, pr6⟩ := m5.putO (ys := xs4.set n2 v2) eo4 hy (g5.set n2 (j2'.step m4 s5))
          exact l.nx A σ _ _ ((((((m.pres s1).trans (m1.pres sn)).trans (m2.pres s3)).trans pr).trans (m4.pres s5)).trans pr6) m6 w
        · exact w.elim
      · exact w.elim
    · exact w.elim
  · exact w.elim
/-! xs.pop(e), the item thrown away -/
theorem IsAll.erase {ds : List PyData} : ∀ {vs : List V} (n : Nat), IsAll K A H vs ds → IsAll K A H (vs.eraseIdx n) (ds.eraseIdx n) := by
  induction ds with
  | nil => intro vs n h; cases h; exact .nil
  | cons d0 ds ih =>
    intro vs n h
    cases h with
    | cons h1 h2 =>
      cases n with
      | zero => exact h2
      | succ n => exact .cons h1 (ih n h2)
def wPop (i : Nat) (ei : DE) : DS := fun k env => match env[i]? with
  | some (.own ds) => ei env fun j => match j with
    | .int j => -(2 ^ 63) ≤ j ∧ j < 2 ^ 63 ∧ ∃ n, seqIndex? j ds.length = some n ∧ n < ds.length ∧ k.nx (env.set i (.own (ds.eraseIdx n)))
    | _ => False
  | _ => False
theorem gs_pop {i : Nat} {x : Str} {px apos cpos : Pos} (he : GE X G e ea) (hN : X.N[i]? = some x) (hv : Vis X.env.scope x)
    (hd : (x == ("__debug__" : Str)) = false := by decide) (hcd : (x == ("__classdict__" : Str)) = false := by decide)
    (hbase : attributeBase (.Name x px) "pop" X.env (eval (.Name x px) X.env) = eval (.Name x px) X.env := by rfl)
    (hfew : ((backTo cpos (starEach [e] X.env)).all (fun x => !x.1) && (backToKw cpos (keywordEach [] X.env)).all (fun x => x.1.isSome)
      && decide (([e] : List Expr).length + ([] : List Keyword).length + (if ([] : List Keyword).isEmpty then 0 else 1) < 30)) = true := by rfl)
    (hline : (apos.endLine == cpos.line) = true := by rfl) (hst : starEach [e] X.env = (false, eval e X.env) :: starEach [] X.env := by rfl) (hplain : (backTo cpos (starEach [] X.env)).any (·.1) = false := by rfl)
    (hs : swapsWith (.Call (.Attribute (.Name x px) "pop" apos) [e] [] cpos) none pos.line X.env = pure false := by rfl) : GS X G (.Expr (.Call (.Attribute (.Name x px) "pop" apos) [e] [] cpos) pos) (wPop i ea) := by
  obtain ⟨t, p, h⟩ := he
  refine ⟨_, ps_expr (pe_bm PySem.F.plainAttrs_list PySem.F.slot_list_pop PySem.F.type_list_pop mt_popAt (pe_var hN hv hd hcd) (pa_cons p pa_nil hst) hbase hfew hline hst hplain) hs, fun A σ H env k D m w l => ?_⟩
  unfold wPop at w
  split at w
  · rename_i ds ei
    obtain ⟨y, hy, q, xs, rfl, hp, h0, np, hq, g⟩ := m.all i _ ei
    refine ⟨_, hy, .inl ⟨rfl, xs, .inl (.inl hq)⟩, ?_⟩
    refine h A σ H env _ _ m w fun v H' d s iv w => ?_
    split at w
    · cases iv
      obtain ⟨w1, w2, n, w3, w4, w⟩ := w
      have hq' := s.k _ _ np hq
      have g' := g.step m s
      have lt : n < xs.length := by rw [g.len]; exact w4
      refine ⟨q, xs, _, n, xs[n], rfl, rfl, hq', w1, w2, by rw [g.len]; exact w3, List.getElem?_eq_getElem lt, ?_⟩
      obtain ⟨m2, pr⟩ := (m.step s).putO (ys := xs.eraseIdx n) ei hy (IsAll.erase n g')
      exact l.nx A σ _ _ ((m.pres s).trans pr) m2 w
    · exact w.elim
  · exact w.elim
end
end Dl
/-! text De -/
/-! De: enumerate over a tuple. -/
namespace PySem
open AutoSeq1 (wpAny_loadPart')
open Sem (wp)
theorem dl_enumNew (t : Addr) (its : Array Value) :
    Meets (Builtin.«enumerate.__new__» ⟨[.type "enumerate", .ref t], []⟩) (fun _ R z => z.heap.IsTuple t its ∧ R (.ok (.ret (.ref (z.heap.objs.size + 1))))
      { z with heap := (z.heap.push { cls := .type "tuple_iterator", data := .fields #[.ref t, .int 0 0] }).push { cls := .type "enumerate", data := .fields #[.none, .bool false, .ref z.heap.objs.size, rawInt 0, .none, .none] } }) :=
  .of_wp fun pr wo Ar R z q => by
    obtain ⟨h0, g0, d0, t0, o0⟩ := z
    obtain ⟨hT, q⟩ := q
    have sub := sub_enumerate
    have ez : (h0.push { cls := .type "tuple_iterator", data := .fields #[.ref t, .int 0 0] }).objs.size = h0.objs.size + 1 := Heap.size_push ..
    rw [← ez] at q
    wp_walk
    refine wpAny_stack_any fun stk => wpAny_pure ?_
    split
    · rename_i c _ _ _ _ _
      cases (c == Value.type "enumerate")
      all_goals (wp_walk using wpAny_pyIter_tuple hT; exact ⟨_, rfl, q⟩)
    · wp_walk using wpAny_pyIter_tuple hT
      exact ⟨_, rfl, q⟩
theorem dl_callEnum {pr : Program} {wo : World} {Ar : Around} {E : Value → Shared → Prop} {z : Shared} {t : Addr} {its : Array Value} {Q : Value → Shared → Prop} (hT : z.heap.IsTuple t its)
    (q : ∀ h', IsEnum h' (z.heap.objs.size + 1) z.heap.objs.size 0 .none → h'.IsTupleIter z.heap.objs.size t 0 → (∀ b o, z.heap.get? b = some o → h'.get? b = some o) → Q (.ref (z.heap.objs.size + 1)) { z with heap := h' }) :
    wpAny (model pr wo) Ar (call (.type "enumerate") [.ref t]) Q E z := by
  refine callType_new F.called_enumerate (by decide) (F.typeCall_enumerate_1 _) (F.newCall_enumerate_1 _) (fun ob => F.args_object_init_2 ob _) F.entry_enumerate_new (dl_enumNew t its) ⟨hT, ?_⟩
  have ez : (z.heap.push { cls := .type "tuple_iterator", data := .fields #[.ref t, .int 0 0] }).objs.size = z.heap.objs.size + 1 := Heap.size_push ..
  have new : IsEnum ((z.heap.push { cls := .type "tuple_iterator", data := .fields #[.ref t, .int 0 0] }).push { cls := .type "enumerate", data := .fields #[.none, .bool false, .ref z.heap.objs.size, rawInt 0, .none, .none] }) (z.heap.objs.size + 1) z.heap.objs.size 0 .none := by
    have e := Heap.get?_push_size (z.heap.push { cls := .type "tuple_iterator", data := .fields #[.ref t, .int 0 0] }) (o := { cls := .type "enumerate", data := .fields #[.none, .bool false, .ref z.heap.objs.size, rawInt 0, .none, .none] }) rfl
    rw [ez] at e
    exact e
  exact ⟨⟨_, new, rfl⟩, q _ new ⟨_, Heap.get?_push_of_some _ (Heap.get?_push_size _ rfl), rfl, rfl⟩ fun b o e => Heap.get?_push_of_some _ (Heap.get?_push_of_some _ e)⟩
end PySem
namespace Dl
open PySem PySem.Spec PyProof.Rows L2
/-- the tuple at a as it stands at each turn, its items in new pairs -/
def IteT (K : PySem.W.Frag) (a : Addr) : It where
  go i H := ∃ (xs : List V) (x : V), SqT K H a xs ∧ xs[i]? = some x
  yld i H v H' := ∃ T x, v = .ref T ∧ H T = none ∧ H' = upd H T (.tup [.int (i : Nat), x]) ∧ ∀ xs, SqT K H a xs → xs[i]? = some x
  stop i H := ∃ xs : List V, SqT K H a xs ∧ xs.length ≤ i
theorem two_mem {b e it : Addr} (h : b ∈ [e, it]) : b = e ∨ b = it := by simpa using h
theorem turn_enumT {P : Program} {w : World} {K : PySem.W.Frag} {elts : List Expr} {kk : Nat} {tpos : Pos} (a e it : Addr) :
    Turn P w K (.Tuple elts kk tpos) (IteT K a) [e, it] e (fun i h => (∃ old, IsEnum h e it ((i : Nat) : Int) old) ∧ h.IsTupleIter it a i ∧ e ≠ it) where
  mem := List.mem_cons_self ..
  obj i h st b hb := by
    rcases two_mem hb with rfl | rfl
    · obtain ⟨⟨old, q⟩, _⟩ := st
      exact ⟨_, q, fun v z => nomatch z⟩
    · obtain ⟨_, ⟨o, q, c, dd⟩, _⟩ := st
      exact ⟨o, q, fun v z => by rw [dd] at z; cases z⟩
  keep i h h' st k := by
    obtain ⟨⟨old, q⟩, r, n⟩ := st
    exact ⟨⟨old, k e (List.mem_cons_self ..) _ q⟩, r.at fun o z => k it (List.mem_cons_of_mem _ (List.mem_singleton_self _)) o z, n⟩
  item := by
    intro X hP hw hK hc i pins s σ H E I hf st hg
    subst hP hw hK
    obtain ⟨⟨old, q⟩, r, n⟩ := st
    obtain ⟨xs, x, hq, hx⟩ := hg
    obtain ⟨its, rv, p, hz⟩ := I.tuple hq
    obtain ⟨u, hu, ru⟩ := rv.get hx
    have isT : s.heap.IsTuple a its.toArray := p
    have le : e < s.heap.objs.size := Heap.lt_size q
    have li : it < s.heap.objs.size := by
      obtain ⟨_, z, _⟩ := r
      exact Heap.lt_size z
    have na : a ≠ it := by
      intro z
      subst z
      obtain ⟨o, e1, c1, _⟩ := r
      obtain ⟨o2, e2, c2, _⟩ := isT
      rw [e1] at e2
      cases e2
      rw [c1] at c2
      exact absurd c2 (by decide)
    have nae : e ≠ a := by
      intro z
      subst z
      obtain ⟨o2, e2, c2, _⟩ := isT
      have q' : s.heap.get? e = _ := q
      rw [e2] at q'
      cases q'
      exact absurd c2 (by show ¬ (Value.type "enumerate" = Value.type "tuple"); decide)
    have D : Draws X.prog X.w X.A.in1 it [it, a] its.toArray.size (fun j v => its.toArray[j]? = some v) (fun j h => h.IsTupleIter it a j ∧ h.IsTuple a its.toArray) := Draws.tuple (A := X.A.in1) (I.ok.hd hc) it a na its.toArray
    have lt : i < its.toArray.size := by
      rw [List.size_toArray, ← rv.length]
      exact (List.getElem?_eq_some_iff.mp hx).1
    have nin : e ∉ [it, a] := fun z => by
      rcases two_mem z with z | z
      · exact n z
      · exact nae z
    refine wpAny_pyNext_enum_itemD D q ⟨r, isT⟩ lt n nin fun x' h' tk hx' eo st' hT hsz hk => ?_
    have ex : x' = u := by
      have hu' : its.toArray[i]? = some u := by simpa using hu
      rw [hu'] at hx'
      exact (Option.some.inj hx').symm
    subst ex
    refine ⟨_, rfl, wpAny_letOwnedTupleGo_enum (s := { s with heap := h', toks := tk + 1 }) eo fun h'' he' sb => ?_⟩
    have hT2 : h''.get? s.heap.objs.size = some { cls := .type "tuple", data := .seq #[.int i tk, x'] } := (sb.2 _ (Nat.ne_of_gt le)).trans hT
    have ok : ObjOk X.prog X.w (upd H s.heap.objs.size (.tup [.int (i : Nat), x])) h'' s.heap.objs.size (.tup [.int (i : Nat), x]) :=
      ⟨(by decide : 2 ≤ sizeLine), [.int i tk, x'], .cons ⟨_, rfl⟩ (.cons ru .nil), ⟨_, hT2, rfl, _, rfl⟩⟩
    have I1 : Inv X pins σ (upd H s.heap.objs.size (.tup [.int (i : Nat), x])) { s with heap := h'', toks := tk + 1 } :=
      I.turnedNew (ch := [e, it]) (fun b ob hb z => (sb.2 b (fun y => hb (y ▸ List.mem_cons_self ..))).trans (hk b ob (fun y => hb (y ▸ List.mem_cons_self ..)) (fun y => hb (y ▸ List.mem_cons_of_mem _ (List.mem_singleton_self _))) z)) hf (Nat.le_refl _) ok
    refine ⟨.ref s.heap.objs.size, _, I1, rfl, ⟨_, x, rfl, I.hok.fresh (Nat.le_refl _), rfl, fun ys hy => by rw [I.tuple_inj hy hq]; exact hx⟩, ⟨⟨x', ?_⟩, st'.1.at fun o z => (sb.2 it (Ne.symm n)).trans z, n⟩, fun b hb => ?_⟩
    · have ei : ((i + 1 : Nat) : Int) = (i : Int) + 1 := by omega
      rw [ei]
      exact he'
    · have lb : b < s.heap.objs.size := by
        rcases two_mem hb with rfl | rfl
        · exact le
        · exact li
      rw [upd_ne (Nat.ne_of_lt lb)]
      exact (hf b hb).1
  done := by
    intro X hP hw hK hc i pins s σ H E I hf st hg
    subst hP hw hK
    obtain ⟨⟨old, q⟩, r, n⟩ := st
    obtain ⟨xs, hq, hx⟩ := hg
    obtain ⟨its, rv, p, hz⟩ := I.tuple hq
    have isT : s.heap.IsTuple a its.toArray := p
    obtain ⟨f0, f1, f2, f3, f4, f5⟩ := hf it (List.mem_cons_of_mem _ (List.mem_singleton_self _))
    have hT : s.TypeIs (.ref e) "enumerate" := ⟨_, q, rfl⟩
    have none' : its.toArray[i]? = none := by
      rw [List.getElem?_toArray, List.getElem?_eq_none_iff, ← rv.length]
      exact hx
    refine wpAny_bind (wpAny_attempt (wpAny_callSpecial?_slot (name := Str.ofString "__next__") hT F.slot_enumerate_next
      (wpAny_call_entry F.slot_enumerate_next hT F.entry_enumerate_next ?_ (F.args_enumerate_next_1 _))))
    change wpAny _ _ (field (.ref e) 2 >>= _) _ _ s
    refine wpAny_bind (wpAny_field q rfl (x := .ref it) rfl ?_)
    refine wpAny_bind (wpAny_nextOf_tuple_end (I.ok.hd hc) r isT none' fun h' er he' hx' => ?_)
    obtain ⟨o, ho, hcl⟩ := hx'
    refine wpAny_bind (wpAny_isInstance (T := "StopIteration") (b := true) ⟨o, ho, hcl⟩ isSubtype_stop ?_)
    exact wpAny_pure ⟨rfl, I.turned (t' := s.toks) (fun b o hb z => he' b o hb z) f0 f1 f3 f4 f5⟩
  self A i s Q E st h := by
    obtain ⟨⟨_, q⟩, _⟩ := st
    exact wpAny_pyIter_enum q h
def iEnumT (K : PySem.W.Frag) (te : TE) : TI := fun σ H R => te σ H fun v H1 => ∃ a xs, v = .ref a ∧ SqT K H1 a xs ∧ R (IteT K a) H1
theorem pi_enumT {X : Cx} {e : Expr} {te : TE} {p pos tpos : Pos} {elts : List Expr} {kk : Nat} (hg : Gl X "enumerate") (hm : X.mg "enumerate" = none) (he : PE X e te) (hs : starEach [e] X.env = (false, eval e X.env) :: starEach [] X.env := by rfl) :
    PI X (.Tuple elts kk tpos) (.Call (.Name "enumerate" p) [e] [] pos) (iEnumT X.K te) := by
  constructor
  intro pins s σ H R I h
  refine Call_ (ld_blt I hg hm boot_enumerate (PyProof.Rows.callWith_type1 (thn ((pa_cons he pa_nil hs).run pos pins s σ H (fun vs H1 => match vs with
    | [v] => ∃ a xs, v = .ref a ∧ SqT X.K H1 a xs ∧ R (IteT X.K a) H1
    | _ => False) I h) fun us s1 ⟨vs, H1, I1, r1, q1⟩ => ?_) hs rfl))
  dsimp only at q1
  split at q1
  · obtain ⟨a, xs, rfl, hq, q⟩ := q1
    cases r1 with
    | cons r rr =>
    cases rr
    cases r
    obtain ⟨its, rv, p', hz⟩ := I1.tuple hq
    refine PySem.dl_callEnum (its := its.toArray) p' fun h' he hit hk => wpAny_pyIter_enum he ?_
    have I2 : Inv X pins σ H1 { s1 with heap := h' } := I1.kept (t' := s1.toks) hk
    refine ⟨s1.heap.objs.size + 1, [s1.heap.objs.size + 1, s1.heap.objs.size], _, _, H1, rfl, I2, turn_enumT a (s1.heap.objs.size + 1) s1.heap.objs.size, ⟨⟨.none, he⟩, hit, Nat.succ_ne_self _⟩, fun b hb => ?_, q⟩
    have lb : s1.heap.objs.size ≤ b := by
      rcases two_mem hb with rfl | rfl
      · exact Nat.le_succ _
      · exact Nat.le_refl _
    exact I1.fpOk lb (I1.hok.fresh lb)
  · exact q1.elim
end Dl
/-! text Dl8 -/
/-! Dl8: enumerate, zip, [::-1], in, many times, new lists by +, repr. -/
namespace Dl
open PySem PySem.Spec PyProof.Rows L2
section
variable {X : Cx} {G : Gh} {a b c e tg : Expr} {ea eb ec ee : DE} {ta tb tc : DT} {pos p : Pos} {K : PySem.W.Frag}
/-! enumerate of a tuple -/
theorem iteT_ok {A : List Addr} {H : Hp} {q : Addr} {ds : List PyData} (h : Is K A H (.ref q) (.tuple ds)) : ItOk K (IteT K q) A H (enD ds) := by
  intro A' H' pr al i
  obtain ⟨a, xs, e, hx, g⟩ := (pr _ _ h).tuple
  cases e
  refine ⟨fun d hd => ?_, fun l => ⟨xs, hx, by rw [g.len]; rw [enD_len] at l; exact l⟩⟩
  obtain ⟨y, hy, rfl⟩ := enD_get hd
  obtain ⟨v, hv, iv⟩ := g.get hy
  refine ⟨⟨xs, v, hx, hv⟩, ?_⟩
  rintro x H'' ⟨T, z, rfl, n, rfl, y⟩
  have e := y xs hx
  rw [hv] at e
  cases e
  exact ⟨keep_new n, Is.newT al n (.cons (.int _) (.cons iv .nil))⟩
def dEnT (ea : DE) : DA := fun env P => ea env fun d => match d with
  | .tuple ds => P (enD ds)
  | _ => False
theorem gi_enumT {elts : List Expr} {kk : Nat} {tpos : Pos} (h : GE X G e ea) (hg : Gl X "enumerate") (hm : X.mg "enumerate" = none) (hs : starEach [e] X.env = (false, eval e X.env) :: starEach [] X.env := by rfl) : GI X G (.Tuple elts kk tpos) (.Call (.Name "enumerate" p) [e] [] pos) (dEnT ea) := by
  obtain ⟨t, pe, h⟩ := h
  refine ⟨_, pi_enumT hg hm pe hs, fun A σ H env P R m w q => ?_⟩
  refine h A σ H env _ _ m w fun v H' d s i w => ?_
  split at w
  · obtain ⟨a, xs, rfl, hx, g⟩ := i.tuple
    exact ⟨a, xs, rfl, hx, q _ H' _ s (iteT_ok i) w⟩
  · exact w.elim
/-! zip of two lists, two tuples -/
def ziD : List PyData → List PyData → List PyData
  | x :: xs, y :: ys => .tuple [x, y] :: ziD xs ys
  | _, _ => []
theorem ziD_get : ∀ {xs ys : List PyData} {i : Nat} {d : PyData}, (ziD xs ys)[i]? = some d → ∃ x y, xs[i]? = some x ∧ ys[i]? = some y ∧ d = .tuple [x, y]
  | [], _, _, _, h => by simp [ziD] at h
  | _ :: _, [], _, _, h => by simp [ziD] at h
  | x :: xs, y :: ys, 0, d, h => by
    unfold ziD at h
    rw [List.getElem?_cons_zero] at h
    exact ⟨x, y, rfl, rfl, (Option.some.inj h).symm⟩
  | x :: xs, y :: ys, i + 1, d, h => by
    unfold ziD at h
    rw [List.getElem?_cons_succ] at h
    rw [List.getElem?_cons_succ, List.getElem?_cons_succ]
    exact ziD_get h
theorem ziD_len : ∀ (xs ys : List PyData), (ziD xs ys).length = min xs.length ys.length
  | [], _ => by simp [ziD]
  | _ :: _, [] => by simp [ziD]
  | x :: xs, y :: ys => by
    unfold ziD
    rw [List.length_cons, ziD_len xs ys, List.length_cons, List.length_cons]
    omega
theorem itz_ok {A : List Addr} {H : Hp} {q r : Addr} {ds es : List PyData} (h : Is K A H (.ref q) (.list ds)) (h2 : Is K A H (.ref r) (.list es)) : ItOk K (Itz K q r) A H (ziD ds es) := by
  intro A' H' pr al i
  obtain ⟨a, xs, e, hx, g⟩ := (pr _ _ h).list
  cases e
  obtain ⟨b, ys, e, hy, g2⟩ := (pr _ _ h2).list
  cases e
  refine ⟨fun d hd => ?_, fun l => ⟨xs, ys, .inl (.inl hx), .inl (.inl hy), ?_⟩⟩
  · obtain ⟨x, y, ex, ey, rfl⟩ := ziD_get hd
    obtain ⟨v, hv, iv⟩ := g.get ex
    obtain ⟨u, hu, iu⟩ := g2.get ey
    refine ⟨⟨xs, ys, v, u, .inl (.inl hx), .inl (.inl hy), hv, hu⟩, ?_⟩
    rintro x H'' ⟨T, z1, z2, rfl, n, rfl, y1, y2⟩
    have e := y1 xs (.inl (.inl hx))
    rw [hv] at e
    cases e
    have e := y2 ys (.inl (.inl hy))
    rw [hu] at e
    cases e
    exact ⟨keep_new n, Is.newT al n (.cons iv (.cons iu .nil))⟩
  · rw [ziD_len] at l
    rw [g.len, g2.len]
    omega
theorem itzT_ok {A : List Addr} {H : Hp} {q r : Addr} {ds es : List PyData} (h : Is K A H (.ref q) (.tuple ds)) (h2 : Is K A H (.ref r) (.tuple es)) : ItOk K (RZ.ItzT K q r) A H (ziD ds es) := by
  intro A' H' pr al i
  obtain ⟨a, xs, e, hx, g⟩ := (pr _ _ h).tuple
  cases e
  obtain ⟨b, ys, e, hy, g2⟩ := (pr _ _ h2).tuple
  cases e
  refine ⟨fun d hd => ?_, fun l => ⟨xs, ys, hx, hy, ?_⟩⟩
  · obtain ⟨x, y, ex, ey, rfl⟩ := ziD_get hd
    obtain ⟨v, hv, iv⟩ := g.get ex
    obtain ⟨u, hu, iu⟩ := g2.get ey
    refine ⟨⟨xs, ys, v, u, hx, hy, hv, hu⟩, ?_⟩
    rintro x H'' ⟨T, z1, z2, rfl, n, rfl, y1, y2⟩
    have e := y1 xs hx
    rw [hv] at e
    cases e
    have e := y2 ys hy
    rw [hu] at e
    cases e
    exact ⟨keep_new n, Is.newT al n (.cons iv (.cons iu .nil))⟩
  · rw [ziD_len] at l
    rw [g.len, g2.len]
    omega
def dZip (ea eb : DE) : DA := fun env P => ea env fun x => eb env fun y => match x, y with
  | .list ds, .list es => P (ziD ds es)
  | .tuple ds, .tuple es => P (ziD ds es)
  | _, _ => False
theorem gi_zip {elts : List Expr} {kk : Nat} {tpos : Pos} (h : GE X G a ea) (h2 : GE X G b eb) (hg : Gl X "zip") (hm : X.mg "zip" = none) (hs : starEach [a, b] X.env = (false, eval a X.env) :: starEach [b] X.env := by rfl) (hs2 : starEach [b] X.env = (false, eval b X.env) :: starEach [] X.env := by rfl)
    (hpl : (backTo pos (starEach [b] X.env)).any (·.1) = false := by rfl) : GI X G (.Tuple elts kk tpos) (.Call (.Name "zip" p) [a, b] [] pos) (dZip ea eb) := by
  obtain ⟨t, pe, h⟩ := h
  obtain ⟨t2, pe2, h2⟩ := h2
  refine ⟨_, RZ.pi_zipA hg hm (pa_cons pe (pa_cons pe2 pa_nil hs2) hs) hs hpl, fun A σ H env P R m w q => ?_⟩
  refine h A σ H env _ _ m w fun v H' d s i w => ?_
  refine h2 A σ H' env _ _ (m.step s) w fun v2 H2 d2 s2 i2 w => ?_
  have i' := i.step (m.step s) s2
  split at w
  · obtain ⟨a, xs, rfl, hx, g⟩ := i'.list
    obtain ⟨b, ys, rfl, hy, g2⟩ := i2.list
    exact ⟨a, b, xs, ys, rfl, .inl ⟨.inl (.inl hx), .inl (.inl hy), q _ H2 _ (s.trans s2) (itz_ok i' i2) w⟩⟩
  · obtain ⟨a, xs, rfl, hx, g⟩ := i'.tuple
    obtain ⟨b, ys, rfl, hy, g2⟩ := i2.tuple
    exact ⟨a, b, xs, ys, rfl, .inr ⟨hx, hy, q _ H2 _ (s.trans s2) (itzT_ok i' i2) w⟩⟩
  · exact w.elim
/-! xs[::-1] of a list -/
def fRev : PyData → (PyData → Prop) → Prop := fun x P => match x with
  | .list ds => P (.list ds.reverse)
  | _ => False
theorem ge_rev {k : Nat} {p1 p2 p3 : Pos} (h : GB X G a ea) : GE X G (.Subscript a (.Slice none none (some (.UnaryOp .USub (.Constant (.int 1) k p1) p2)) p3) pos) (e1 fRev ea) := by
  obtain ⟨t, pe, h⟩ := h
  refine ⟨_, pe_revL pe, fun A σ H env P Q m w q => ?_⟩
  refine h A σ H env _ _ m w fun v H1 d s i w => ?_
  unfold fRev at w
  split at w
  · obtain ⟨p, xs, rfl, h0, g⟩ := i.list
    exact ⟨p, xs, rfl, .inl (.inl h0), fun p n => q _ _ _ (s.trans (Step.new n)) (Is.newL (m.step s).al n g.rev) w⟩
  · exact w.elim
/-! in, not in, of flat things -/
def fltD : PyData → Bool
  | .none => true
  | .bool _ => true
  | .int _ => true
  | .str _ => true
  | _ => false
def vD : PyData → V
  | .none => .non
  | .bool b => .bl b
  | .int i => .int i
  | .str x => .str x
  | _ => .non
theorem flat_ok {A : List Addr} {H : Hp} {v : V} {d : PyData} (h : Is K A H v d) (f : fltD d = true) : v = vD d ∧ flatV v = true := by
  cases h <;> first | exact ⟨rfl, rfl⟩ | cases f
theorem flats_ok {A : List Addr} {H : Hp} : ∀ {ds : List PyData} {vs : List V}, IsAll K A H vs ds → ds.all fltD = true → vs = ds.map vD ∧ vs.all flatV = true
  | [], _, h, f => by cases h; exact ⟨rfl, rfl⟩
  | d :: ds, _, h, f => by
    cases h with
    | cons h1 h2 =>
      rw [List.all_cons, Bool.and_eq_true] at f
      obtain ⟨e1, f1⟩ := flat_ok h1 f.1
      obtain ⟨e2, f2⟩ := flats_ok h2 f.2
      rw [List.map_cons, ← e1, ← e2, List.all_cons, f1, f2]
      exact ⟨rfl, rfl⟩
def inD (x : PyData) (ds : List PyData) : Bool := inV (vD x) (ds.map vD)
def fIn (neg : Bool) : PyData → PyData → (PyData → Prop) → Prop := fun x y P => match y with
  | .list ds => fltD x = true ∧ ds.all fltD = true ∧ P (.bool (if neg then !inD x ds else inD x ds))
  | .tuple ds => fltD x = true ∧ ds.all fltD = true ∧ P (.bool (if neg then !inD x ds else inD x ds))
  | _ => False
theorem bo_flat {pp : Option Addr} {A : List Addr} {H : Hp} {v : V} {d : PyData} (h : Bo K pp A H v d) (f : fltD d = true) : Is K A H v d := by
  rcases h with h | ⟨p, xs, ds, rfl, rfl, _⟩
  · exact h
  · cases f
theorem dr_in {neg : Bool} : DR2 K (rIn K neg) (fIn neg) := by
  intro pp A H x y dx dy P Q al hx hy w q
  unfold fIn at w
  split at w
  · obtain ⟨f1, f2, w⟩ := w
    obtain ⟨p, xs, rfl, h, g⟩ := hy.list
    obtain ⟨e1, g1⟩ := flat_ok (bo_flat hx f1) f1
    obtain ⟨e2, g2⟩ := flats_ok g f2
    subst e1 e2
    exact ⟨p, _, rfl, .inl (.inl (.inl h)), g1, g2, q _ H _ keep_refl (.bl _) w⟩
  · obtain ⟨f1, f2, w⟩ := w
    obtain ⟨p, xs, rfl, h, g⟩ := hy.tuple
    obtain ⟨e1, g1⟩ := flat_ok (bo_flat hx f1) f1
    obtain ⟨e2, g2⟩ := flats_ok g f2
    subst e1 e2
    exact ⟨p, _, rfl, .inr h, g1, g2, q _ H _ keep_refl (.bl _) w⟩
  · exact w.elim
/-! many times -/
theorem IsAll.rep {A : List Addr} {H : Hp} {ds : List PyData} {vs : List V} (h : IsAll K A H vs ds) : ∀ n : Nat, IsAll K A H (List.replicate n vs).flatten (List.replicate n ds).flatten
  | 0 => .nil
  | n + 1 => by
    rw [List.replicate_succ, List.replicate_succ, List.flatten_cons, List.flatten_cons]
    exact h.app (h.rep n)
def fRep : PyData → PyData → (PyData → Prop) → Prop := fun x y P => match x, y with
  | .int i, .int j => Lo i ∧ Lo j ∧ P (.int (i * j))
  | .list ds, .int k => -100000 ≤ k ∧ k ≤ 100000 ∧ ds.length * k.toNat ≤ 100000 ∧ P (.list (List.replicate k.toNat ds).flatten)
  | .tuple ds, .int k => ds ≠ [] ∧ 2 ≤ k ∧ k ≤ 1000 ∧ ds.length ≤ 1000 ∧ P (.tuple (List.replicate k.toNat ds).flatten)
  | _, _ => False
def rMulA (K : PySem.W.Frag) : R2 := fun x y H Q => rI CMulW (fun i j => .int (i * j)) x y H Q ∨ rRep x y H Q ∨ rRepT K x y H Q
theorem op_mulA : OpR X (binaryOp .Mult) (rMulA X.K) := op_mulW.or (op_rep.or op_repT)
theorem dr_mulA : DR2 K (rMulA K) fRep := by
  intro pp A H x y dx dy P Q al hx hy w q
  unfold fRep at w
  split at w
  · exact .inl (dr_mul pp A H x y _ _ P Q al hx hy w q)
  · obtain ⟨w1, w2, w3, w⟩ := w
    obtain ⟨p, xs, rfl, h, g⟩ := hx.list
    cases hy.int
    refine .inr (.inl ⟨p, _, xs, rfl, rfl, h, by omega, by omega, by rw [g.len]; exact sz_of w3, fun p n => q _ _ _ (keep_new n) (Is.newL al n (g.rep _)) w⟩)
  · obtain ⟨w1, w2, w3, w4, w⟩ := w
    obtain ⟨p, xs, rfl, h, g⟩ := hx.tuple
    cases hy.int
    exact .inr (.inr ⟨p, _, xs, rfl, rfl, h, fun e => w1 (g.nil_iff.mp e), w2, w3, by rw [g.len]; exact w4, fun p n => q _ _ _ (keep_new n) (Is.newT al n (g.rep _)) w⟩)
  · exact w.elim
/-! new lists of the def's own by + and * -/
theorem gf_cat (ha : GB X G a ea) (hb : GB X G b eb) : GF X G (.BinOp a .Add b pos) (fun env P => ea env fun x => eb env fun y => match x, y with | .list i, .list j => i.length + j.length ≤ 100000 ∧ P (i ++ j) | _, _ => False) := by
  obtain ⟨ta, pa, ha⟩ := ha
  obtain ⟨tb, pb, hb⟩ := hb
  refine ⟨_, pe_op op_cat pa pb, fun A σ H env P Q m w q => ?_⟩
  refine ha A σ H env _ _ m w fun x H1 dx s1 hx w1 => ?_
  refine hb A σ H1 env _ _ (m.step s1) w1 fun y H2 dy s2 hy w2 => ?_
  have hx := hx.step (m.step s1) s2
  split at w2
  · obtain ⟨p1, xs, rfl, h1, g1⟩ := hx.list
    obtain ⟨p2, ys, rfl, h2, g2⟩ := hy.list
    exact ⟨p1, p2, xs, ys, rfl, rfl, h1, h2, by rw [g1.len, g2.len]; exact sz_of w2.1, fun p n => q p H2 _ _ (s1.trans s2) n (g1.app g2) w2.2⟩
  · exact w2.elim
theorem gf_rep (ha : GB X G a ea) (hb : GB X G b eb) : GF X G (.BinOp a .Mult b pos) (fun env P => ea env fun x => eb env fun y => match x, y with | .list i, .int k => -100000 ≤ k ∧ k ≤ 100000 ∧ i.length * k.toNat ≤ 100000 ∧ P (List.replicate k.toNat i).flatten | _, _ => False) := by
  obtain ⟨ta, pa, ha⟩ := ha
  obtain ⟨tb, pb, hb⟩ := hb
  refine ⟨_, pe_op op_rep pa pb, fun A σ H env P Q m w q => ?_⟩
  refine ha A σ H env _ _ m w fun x H1 dx s1 hx w1 => ?_
  refine hb A σ H1 env _ _ (m.step s1) w1 fun y H2 dy s2 hy w2 => ?_
  have hx := hx.step (m.step s1) s2
  split at w2
  · obtain ⟨v1, v2, v3, w2⟩ := w2
    obtain ⟨p1, xs, rfl, h1, g1⟩ := hx.list
    cases hy.int
    exact ⟨p1, _, xs, rfl, rfl, h1, by omega, by omega, by rw [g1.len]; exact sz_of v3, fun p n => q p H2 _ _ (s1.trans s2) n (g1.rep _) w2⟩
  · exact w2.elim
/-! repr -/
def rReprD (K : PySem.W.Frag) : List V → Hp → VK → Prop := fun xs H Q => ∃ v d, xs = [v] ∧ Dp K H v d ∧ d.showable = true ∧ d.hasDict = false ∧ d.depth ≤ 60 ∧ d.shown.length ≤ sizeLine ∧ Q (.str d.shown) H
theorem call_reprD {k : Nat} (hgd : X.A.guards = some []) (hr : Room k X.A) : CallR X (.builtin "repr") (rReprD X.K) := by
  intro pins s σ H xs us Q I r h
  obtain ⟨v, d, rfl, hd, sh, nd, dp, sz, q⟩ := h
  cases r with
  | cons r rr =>
  cases rr
  rename_i u
  have un := hr.un
  obtain ⟨as, rd⟩ := Dp.reads I d v u hd r
  cases u with
  | ref a =>
    refine repr_of_reads' rd sh (PyData.noDict_hsm nd) hgd (by omega) (fun b o e => e) (fun h' t tk kp => ?_) sz
    exact ⟨.str d.shown, H, I.kept (t' := tk) kp, ⟨_, rfl⟩, q⟩
  | none =>
    cases rd
    exact PySem.P.repr_of_none ⟨.str _, H, I.tok _, ⟨_, rfl⟩, q⟩
  | bool b =>
    cases rd
    exact PySem.P.repr_of_bool ⟨.str _, H, I.tok _, ⟨_, rfl⟩, q⟩
  | int i t =>
    cases rd
    exact PySem.P.repr_of_int (by simpa [PyData.showable] using sh) ⟨.str _, H, I.tok _, ⟨_, rfl⟩, q⟩
  | str z t =>
    cases rd
    exact PySem.P.repr_of_str ⟨.str _, H, I.tok _, ⟨_, rfl⟩, q⟩ sz
  | _ => cases rd
def fRepr : PyData → (PyData → Prop) → Prop := fun x P => x.showable = true ∧ x.hasDict = false ∧ x.depth ≤ 60 ∧ x.shown.length ≤ 100000 ∧ P (.str x.shown)
theorem dc_repr : DC1 K (rReprD K) fRepr := fun pp A H x dx P Q al hx w q => ⟨x, dx, rfl, hx.dp, w.1, w.2.1, w.2.2.1, sz_of w.2.2.2.1, q _ H _ keep_refl (.str _) w.2.2.2.2⟩
end
end Dl
/-! text Dl9 -/
/-! Dl9: max, min of lists of ints; sorted of alike data. -/
namespace Dl
open PySem PySem.Spec PyProof.Rows L2
section
variable {X : Cx} {G : Gh} {a b c e tg : Expr} {ea eb ec ee : DE} {ta tb tc : DT} {pos p : Pos} {K : PySem.W.Frag}
def fMaxL : PyData → (PyData → Prop) → Prop := fun x P => match x with
  | .list ds => ∃ ns, intsD ds = some ns ∧ ns ≠ [] ∧ ∀ m, m ∈ ns → (∀ n ∈ ns, n ≤ m) → P (.int m)
  | _ => False
def fMinL : PyData → (PyData → Prop) → Prop := fun x P => match x with
  | .list ds => ∃ ns, intsD ds = some ns ∧ ns ≠ [] ∧ ∀ m, m ∈ ns → (∀ n ∈ ns, m ≤ n) → P (.int m)
  | _ => False
theorem dc_maxL : DC1 K (rMax K) fMaxL := by
  intro pp A H x dx P Q al hx w q
  unfold fMaxL at w
  split at w
  · obtain ⟨ns, e, ne, w⟩ := w
    obtain ⟨p, xs, rfl, h, g⟩ := hx.list
    rw [ints_ok g e] at h
    exact ⟨p, ns, rfl, .inl (.inl h), by cases ns; exact absurd rfl ne; exact Nat.succ_pos _, fun m h1 h2 => q _ H _ keep_refl (.int _) (w m h1 h2)⟩
  · exact w.elim
theorem dc_minL : DC1 K (rMin K) fMinL := by
  intro pp A H x dx P Q al hx w q
  unfold fMinL at w
  split at w
  · obtain ⟨ns, e, ne, w⟩ := w
    obtain ⟨p, xs, rfl, h, g⟩ := hx.list
    rw [ints_ok g e] at h
    exact ⟨p, ns, rfl, .inl (.inl h), by cases ns; exact absurd rfl ne; exact Nat.succ_pos _, fun m h1 h2 => q _ H _ keep_refl (.int _) (w m h1 h2)⟩
  · exact w.elim
inductive Ea (R : V → PyData → Prop) : List V → List PyData → Prop
  | nil : Ea R [] []
  | cons {v : V} {vs : List V} {d : PyData} {ds : List PyData} : R v d → Ea R vs ds → Ea R (v :: vs) (d :: ds)
theorem Ea.is {A : List Addr} {H : Hp} : ∀ {vs : List V} {ds : List PyData}, Ea (Is K A H) vs ds → IsAll K A H vs ds
  | _, _, .nil => .nil
  | _, _, .cons h t => .cons h t.is
theorem IsAll.eaOf {A : List Addr} {H : Hp} : ∀ {ds : List PyData} {vs : List V}, IsAll K A H vs ds → Ea (Is K A H) vs ds
  | [], _, h => by cases h; exact .nil
  | d :: ds, _, h => by
    cases h with
    | cons h1 h2 => exact .cons h1 h2.eaOf
theorem Ea.len {R : V → PyData → Prop} : ∀ {vs : List V} {ds : List PyData}, Ea R vs ds → vs.length = ds.length
  | _, _, .nil => rfl
  | _, _, .cons h t => by rw [List.length_cons, List.length_cons, t.len]
theorem ea_to {R : V → PyData → Prop} : ∀ {vs : List V} {ds : List PyData} {us : List Value}, Ea R vs ds → Vals vs us → PySem.W.EachIs (fun u d => ∃ v, RelV v u ∧ R v d) us ds
  | _, _, _, .nil, r => by cases r; exact .nil
  | _, _, _, .cons h t, r => by
    cases r with
    | cons r1 r2 => exact .cons ⟨_, r1, h⟩ (ea_to t r2)
theorem ea_of {R : V → PyData → Prop} : ∀ {us : List Value} {ds : List PyData}, PySem.W.EachIs (fun u d => ∃ v, RelV v u ∧ R v d) us ds → ∃ vs, Vals vs us ∧ Ea R vs ds
  | _, _, .nil => ⟨[], .nil, .nil⟩
  | _, _, .cons h t => by
    obtain ⟨v, r, h⟩ := h
    obtain ⟨vs, rs, hs⟩ := ea_of t
    exact ⟨v :: vs, .cons r rs, .cons h hs⟩
def srt (ds : List PyData) : List PyData := ds.mergeSort (PySem.W.dataLe false id)
def rSrt (K : PySem.W.Frag) : List V → Hp → VK → Prop := fun xs H Q => ∃ (R : V → PyData → Prop) (a : Addr) (vs : List V) (ds : List PyData), xs = [.ref a] ∧ SqL K H a vs ∧ DpAll K H vs ds ∧ Ea R vs ds ∧ PySem.W.AllAlike ds ∧ PySem.W.Sortable ds ∧ ds.length ≤ sizeLine ∧ (∀ d ∈ ds, d.depth ≤ 50) ∧
  ∀ ys p, Ea R ys (srt ds) → H p = none → Q (.ref p) (upd H p (.lst ys))
theorem call_srt {k : Nat} (hr : Room k X.A) : CallR X (.builtin "sorted") (rSrt X.K) := by
  intro pins s σ H xs us Q I r h
  obtain ⟨R, a, vs, ds, rfl, hs, hd, he, al, so, sz, dp, q⟩ := h
  obtain ⟨its, rv, hl, hz⟩ := I.list hs
  cases r with
  | cons r rr =>
  cases rr
  cases r
  have un := hr.un
  obtain ⟨as, rd⟩ := Dp.readsAll I ds vs its hd rv
  have e2 := PySem.W.readsAll_each (h := s.heap) id (vs := its) (bs := ds) (as := as) (by rw [List.map_id]; exact rd)
  refine PySem.W.sorted_data (enc := id) (bs := ds) (R := fun u d => ∃ v, RelV v u ∧ R v d) hl.isList (ea_to he rv) e2 (by rw [List.map_id]; exact al) (by rw [List.map_id]; exact so) sz (fun d hm => by
    have := dp d hm
    show X.A.units + 2 + d.depth < cLine
    omega) fun out hlen ho => ?_
  obtain ⟨ys, ry, ey⟩ := ea_of ho
  obtain ⟨ep, he'⟩ := PyProof.Rows.sortedAll_at s.heap its out.toArray
  have hz2 : ys.length ≤ sizeLine := by rw [ry.length, hlen]; exact sz
  exact ⟨.ref _, upd H (s.heap.objs.size + 1) (.lst ys), I.laid (t' := s.toks) (fun _ _ => PyProof.Rows.sortedAll_old) (Nat.le_succ _) ⟨hz2, out.toArray.toList, ep, by simpa using ry, he'⟩, rfl, q ys _ ey (I.hok.fresh (Nat.le_succ _))⟩
def fSrt : PyData → (PyData → Prop) → Prop := fun x P => match x with
  | .list ds => PySem.W.AllAlike ds ∧ PySem.W.Sortable ds ∧ ds.length ≤ 100000 ∧ (∀ d ∈ ds, d.depth ≤ 50) ∧ P (.list (srt ds))
  | _ => False
theorem dc_srt : DC1 K (rSrt K) fSrt := by
  intro pp A H x dx P Q al hx w q
  unfold fSrt at w
  split at w
  · obtain ⟨w1, w2, w3, w4, w⟩ := w
    obtain ⟨p, xs, rfl, h, g⟩ := hx.list
    exact ⟨Is K A H, p, xs, _, rfl, .inl (.inl h), g.dp, g.eaOf, w1, w2, sz_of w3, w4, fun ys p e n => q _ _ _ (keep_new n) (Is.newL al n e.is) w⟩
  · exact w.elim
end
end Dl
/-! text Dl10 -/
/-! Dl10: wide powers, isinstance of two types, walks over a list or a tuple, list(range(n)). -/
namespace Dl
open PySem PySem.Spec PyProof.Rows L2
section
variable {X : Cx} {G : Gh} {a b c e tg : Expr} {ea eb ec ee : DE} {ta tb tc : DT} {pos p : Pos} {K : PySem.W.Frag} {x : Str}
/-! powers -/
def CPowW (i j : Int) : Prop := 0 ≤ j ∧ (Builtin.Int.intBits i : Int) * j ≤ 2 ^ 27
theorem op_powW : OpR X (binaryOp .Pow) (rI CPowW fun i j => .int (i ^ j.toNat)) := opI fun _ _ _ _ _ _ _ hc q => pow_int hc.1 hc.2 q
def fPowW := fI (fun i j => .int (i ^ j.toNat)) CPowW
theorem dr_powW : DR2 K (rI CPowW fun i j => .int (i ^ j.toNat)) fPowW := dr_I (fun _ _ h => h) fun _ _ _ i j => .int _
/-! isinstance(e, (T, U)) -/
def eIsi2 (T U : String) (ea : DE) : DE := fun env P => ea env fun d => P (.bool (isB T d || isB U d))
theorem ge_isi2 {T U : String} {n2 n3 : Str} {p2 p3 pt : Pos} {kt} (h : GB X G e ea) (hk : ∀ d : PyData, kitB (tyN d) T = some (isB T d)) (hk3 : ∀ d : PyData, kitB (tyN d) U = some (isB U d)) (hg : Gl X "isinstance") (hm : X.mg "isinstance" = none) (hv : bootBuiltins "isinstance" = some (.builtin "isinstance"))
    (hg2 : Gl X n2) (hm2 : X.mg n2 = none) (hv2 : bootBuiltins n2 = some (.type T)) (hg3 : Gl X n3) (hm3 : X.mg n3 = none) (hv3 : bootBuiltins n3 = some (.type U)) (hn2 : n2 ≠ "__name__" := by decide) (hd2 : (n2 == ("__debug__" : Str)) = false := by decide) (hn3 : n3 ≠ "__name__" := by decide) (hd3 : (n3 == ("__debug__" : Str)) = false := by decide)
    (he : starEach [e, .Tuple [.Name n2 p2, .Name n3 p3] kt pt] X.env = (false, eval e X.env) :: starEach [.Tuple [.Name n2 p2, .Name n3 p3] kt pt] X.env := by rfl) (he2 : starEach [.Tuple [.Name n2 p2, .Name n3 p3] kt pt] X.env = (false, eval (.Tuple [.Name n2 p2, .Name n3 p3] kt pt) X.env) :: starEach [] X.env := by rfl)
    (hs2 : starEach [.Name n2 p2, .Name n3 p3] X.env = (false, eval (.Name n2 p2) X.env) :: starEach [.Name n3 p3] X.env := by rfl) (hs3 : starEach [.Name n3 p3] X.env = (false, eval (.Name n3 p3) X.env) :: starEach [] X.env := by rfl)
    (hpl : (backTo pos (starEach [.Tuple [.Name n2 p2, .Name n3 p3] kt pt] X.env)).any (·.1) = false := by rfl) :
    GE X G (.Call (.Name "isinstance" p) [e, .Tuple [.Name n2 p2, .Name n3 p3] kt pt] [] pos) (eIsi2 T U ea) := by
  obtain ⟨t, pt', h⟩ := h
  refine ⟨_, pe_callB call_isiT hg hm hv (pa_cons pt' (pa_cons (pe_tup (pa_cons (pe_bltn (v := .ty T) hg2 hm2 hv2 rfl hn2 hd2) (pa_cons (pe_bltn (v := .ty U) hg3 hm3 hv3 rfl hn3 hd3) pa_nil hs3) hs2)) pa_nil he2) he) (by decide) (by decide) he hpl, fun A σ H env P Q m w q => ?_⟩
  refine h A σ H env _ _ m w fun v H1 d s i w => ?_
  refine ⟨by show 2 ≤ sizeLine; decide, fun tp n => ?_⟩
  have sn : Step G.pp H1 (upd H1 tp (.tup [.ty T, .ty U])) := Step.new n
  refine ⟨v, tp, [.ty T, .ty U], _, [.type T, .type U], isB T d || isB U d, rfl, upd_same, .cons (.ty T) (.cons (.ty U) .nil), ty_ok (i.step (m.step s) sn), ?_, q _ _ _ (s.trans sn) (.bl _) w⟩
  unfold PySem.W.kitAny
  rw [kit_ty (hk d)]
  cases isB T d with
  | true => rfl
  | false =>
    unfold PySem.W.kitAny
    rw [kit_ty (hk3 d)]
    cases isB U d <;> rfl
/-! list(range(n)) -/
def rRng1 : List V → Hp → VK → Prop := fun xs H Q => ∃ i, xs = [.int i] ∧ ∀ p, H p = none → Q (.ref p) (upd H p (.rng 0 i))
theorem call_rng1 : CallR X (.type "range") rRng1 := by
  intro pins s σ H vs us Q I r h
  obtain ⟨i, rfl, q⟩ := h
  cases r with
  | cons r rr =>
  cases rr
  obtain ⟨t, rfl⟩ := r
  refine call_range_1 ⟨.ref s.heap.objs.size, upd H s.heap.objs.size (.rng 0 i), I.laid (t' := s.toks + 1 + 1) (fun b o e => Heap.get?_push_of_some _ e) (Nat.le_refl _) ?_, rfl, q _ (I.hok.fresh (Nat.le_refl _))⟩
  exact ⟨s.toks, t, s.toks + 1, Heap.get?_push_size _ rfl⟩
def rLstR : List V → Hp → VK → Prop := fun xs H Q => ∃ r n, xs = [.ref r] ∧ H r = some (.rng 0 n) ∧ 0 ≤ n ∧ n ≤ 100000 ∧ ∀ p, H p = none → Q (.ref p) (upd H p (.lst ((List.range n.toNat).map fun i => V.int (i : Nat))))
theorem vals_rng : ∀ (m : Nat) {its : List Value} (lo : Nat), its.length = m → (∀ (j : Nat) (v : Value), its[j]? = some v → ∃ t, v = Value.int ((lo + j : Nat) : Int) t) → Vals ((List.range' lo m).map fun i => V.int (i : Nat)) its
  | 0, its, lo, e, h => by
    obtain rfl := List.length_eq_zero_iff.mp e
    exact .nil
  | m + 1, [], lo, e, h => by simp at e
  | m + 1, v :: its, lo, e, h => by
    rw [List.range'_succ, List.map_cons]
    refine .cons ?_ (vals_rng m (lo + 1) (Nat.succ.inj e) fun j u hu => ?_)
    · obtain ⟨t, rfl⟩ := h 0 v rfl
      exact ⟨t, rfl⟩
    · obtain ⟨t, rfl⟩ := h (j + 1) u (by rw [List.getElem?_cons_succ]; exact hu)
      exact ⟨t, by congr 2; omega⟩
theorem call_lstR (hc : X.calm = true) : CallR X (.type "list") rLstR := by
  intro pins s σ H vs us Q I r h
  obtain ⟨a, n, rfl, hr, h0, h1, q⟩ := h
  cases r with
  | cons r rr =>
  cases rr
  cases r
  obtain ⟨t, u, v, g⟩ := I.hok a _ hr
  have sz : Builtin.Range.rangeSize 0 n 1 = ((n.toNat : Nat) : Int) := by rw [rangeSize_one]; split <;> omega
  have small : Builtin.Range.small 0 n 1 = true := small_one (by omega) (by omega) (by omega) (by omega)
  refine call_list_range (n := n.toNat) (I.ok.hd hc) g small sz (by omega) fun h' tk acc c' kp e it => ?_
  have vs : Vals ((List.range n.toNat).map fun i => V.int (i : Nat)) acc.toList := by
    rw [List.range_eq_range']
    refine vals_rng n.toNat 0 (by rw [Array.length_toList]; exact it.1) fun j w hw => ?_
    obtain ⟨t, e⟩ := it.2 j w (by rw [← Array.getElem?_toList]; exact hw)
    exact ⟨t, by rw [e]; congr 1; omega⟩
  refine ⟨.ref s.heap.objs.size, upd H s.heap.objs.size (.lst ((List.range n.toNat).map fun i => V.int (i : Nat))), I.laid (t' := tk) kp (Nat.le_refl _) ?_, rfl, q _ (I.hok.fresh (Nat.le_refl _))⟩
  exact ⟨by rw [List.length_map, List.length_range]; exact sz_of (by omega), acc.toList, c', vs, e⟩
def eLR (ea : DE) : DE := fun env P => ea env fun d => match d with
  | .int n => 0 ≤ n ∧ n ≤ 100000 ∧ P (.list (rgD 0 n.toNat))
  | _ => False
theorem ge_lrng {p2 pos2 : Pos} (hc : X.calm = true) (h : GE X G e ea) (hg : Gl X "list") (hm : X.mg "list" = none) (hv : bootBuiltins "list" = some (.type "list")) (hg2 : Gl X "range") (hm2 : X.mg "range" = none) (hv2 : bootBuiltins "range" = some (.type "range"))
    (he : starEach [e] X.env = (false, eval e X.env) :: starEach [] X.env := by rfl) (hpl : (backTo pos2 (starEach [] X.env)).any (·.1) = false := by rfl)
    (he2 : starEach [.Call (.Name "range" p2) [e] [] pos2] X.env = (false, eval (.Call (.Name "range" p2) [e] [] pos2) X.env) :: starEach [] X.env := by rfl) (hpl2 : (backTo pos (starEach [] X.env)).any (·.1) = false := by rfl) :
    GE X G (.Call (.Name "list" p) [.Call (.Name "range" p2) [e] [] pos2] [] pos) (eLR ea) := by
  obtain ⟨t, pe, h⟩ := h
  refine ⟨_, pe_callTy (call_lstR hc) hg hm hv (pa_cons (pe_callTy call_rng1 hg2 hm2 hv2 (pa_cons pe pa_nil he) (by decide) (by decide) he hpl) pa_nil he2) (by decide) (by decide) he2 hpl2, fun A σ H env P Q m w q => ?_⟩
  refine h A σ H env _ _ m w fun v H1 d s i w => ?_
  split at w
  · rename_i z
    cases i
    obtain ⟨w1, w2, w⟩ := w
    refine ⟨_, rfl, fun r n => ⟨r, _, rfl, upd_same, w1, w2, fun p n2 => ?_⟩⟩
    have m2 := (m.step s).step (Step.new (o := .rng 0 z) n)
    refine q _ _ _ ((s.trans (Step.new n)).trans (Step.new n2)) (Is.newL m2.al n2 ?_) w
    unfold rgD
    have key : ∀ l : List Nat, IsAll X.K A (upd H1 r (.rng 0 z)) (l.map fun i => V.int (i : Nat)) (l.map fun i => PyData.int (0 + (i : Nat))) := fun l => by
      induction l with
      | nil => exact .nil
      | cons a l ih =>
        rw [List.map_cons, List.map_cons, Int.zero_add]
        exact .cons (.int _) ih
    exact key _
  · exact w.elim
end
end Dl
/-! text Dl11 -/
/-! Dl11: what the printed derivations lean on. -/
namespace Dl
open PySem PySem.Spec PyProof.Rows L2
/-- a def of a program, known by its statement, that keeps a promise -/
structure Has (P : Program) (w : World) (K : PySem.W.Frag) (mg : Str → Option Value) (base : Heap) (k : Nat) (x : Str) (st : Stmt) (ps : List Str) (sp : Sp) : Prop where
  ex : ∃ f fd, mg x = some (.ref f) ∧ FnG P w K mg base k f fd ps sp ∧ FunD K x x (defArgs st) (defBody st) (defScope st) [] [] f fd ∧ Binds K fd ps []
section
variable {X : Cx} {G : Gh} {a b c e tg : Expr} {ea eb ec ee : DE} {ta tb tc : DT} {pos p : Pos} {K : PySem.W.Frag} {x : Str} {st : Stmt} {ps : List Str} {j k : Nat} {F : Fs}
theorem ge_callH {es : List Expr} {er : DA} (h : Has X.prog X.w X.K X.mg X.base j x st ps (spD X.K F)) (le : j ≤ k) (hgd : X.A.guards = some []) (hr : Room k X.A) (hg : Gl X x) (ha : GA X G (e :: es) er)
    (hdb : (x == ("__debug__" : Str)) = false := by decide) (he : starEach (e :: es) X.env = (false, eval e X.env) :: starEach es X.env := by rfl) (hpl : (backTo pos (starEach es X.env)).any (·.1) = false := by rfl) : GE X G (.Call (.Name x p) (e :: es) [] pos) (eCall F er) := by
  obtain ⟨f, fd, hm, Fo, Fd, hb⟩ := h.ex
  exact ge_call (Fo.mono le) hgd hr hg hm Fd.kp hb ha hdb he hpl
theorem ge_call0H (h : Has X.prog X.w X.K X.mg X.base j x st ps (spD X.K F)) (le : j ≤ k) (hgd : X.A.guards = some []) (hr : Room k X.A) (hg : Gl X x) (hdb : (x == ("__debug__" : Str)) = false := by decide) : GE X G (.Call (.Name x p) [] [] pos) (eCall F aN) := by
  obtain ⟨f, fd, hm, Fo, Fd, hb⟩ := h.ex
  exact ge_call0 (Fo.mono le) hgd hr hg hm Fd.kp hb hdb
theorem ge_callPH {i : Nat} {y : Str} {py : Pos} {es : List Expr} {er : DA} (h : Has X.prog X.w X.K X.mg X.base j x st ps (spP X.K F)) (le : j ≤ k) (hgd : X.A.guards = some []) (hr : Room k X.A) (hg : Gl X x) (hN : X.N[i]? = some y) (hv : Vis X.env.scope y) (ha : GA X G es er)
    (hd : (y == ("__debug__" : Str)) = false := by decide) (hcd : (y == ("__classdict__" : Str)) = false := by decide) (hdb : (x == ("__debug__" : Str)) = false := by decide) (he : starEach (.Name y py :: es) X.env = (false, eval (.Name y py) X.env) :: starEach es X.env := by rfl)
    (hpl : (backTo pos (starEach es X.env)).any (·.1) = false := by rfl) : GE X G (.Call (.Name x p) (.Name y py :: es) [] pos) (eCallP F i er) := by
  obtain ⟨f, fd, hm, Fo, Fd, hb⟩ := h.ex
  exact ge_callP (Fo.mono le) hgd hr hg hm Fd.kp hb hN hv ha hd hcd hdb he hpl
/-- the keywords' values put by places -/
def prm {α : Type} [Inhabited α] (is : List Nat) (l : List α) : List α := is.map fun i => l[i]?.getD default
/-- a call by keywords alone binds the parameters by places -/
def KB (K : PySem.W.Frag) (x : Str) (st : Stmt) (ps ks : List Str) (is : List Nat) : Prop :=
  ∀ (fd : FuncData) (f : Addr), FunD K x x (defArgs st) (defBody st) (defScope st) [] [] f fd → KBinds K fd ps ks (fun _ ws => is.map fun i => ws[i]?.getD .none) (fun _ zs => is.map fun i => zs[i]?.getD .non)
end
theorem ch_sem {X : Cx} {G : Gh} {ea eb ec : DE} {ta tb tc : TE} {r r' : R2} {f g : PyData → PyData → (PyData → Prop) → Prop} (hr : DR2 X.K r f) (hr' : DR2 X.K r' g)
    (ha : ∀ (A : List Addr) (σ : L2.St) (H : Hp) (env : Env) (P : PyData → Prop) (Q : VK), MA X.K G A σ H env → ea env P → (∀ v H' d, Step G.pp H H' → Bo X.K G.pp A H' v d → P d → Q v H') → ta σ H Q)
    (hb : ∀ (A : List Addr) (σ : L2.St) (H : Hp) (env : Env) (P : PyData → Prop) (Q : VK), MA X.K G A σ H env → eb env P → (∀ v H' d, Step G.pp H H' → Bo X.K G.pp A H' v d → P d → Q v H') → tb σ H Q)
    (hc : ∀ (A : List Addr) (σ : L2.St) (H : Hp) (env : Env) (P : PyData → Prop) (Q : VK), MA X.K G A σ H env → ec env P → (∀ v H' d, Step G.pp H H' → Bo X.K G.pp A H' v d → P d → Q v H') → tc σ H Q)
    (A : List Addr) (σ : L2.St) (H : Hp) (env : Env) (P : PyData → Prop) (Q : VK) (m : MA X.K G A σ H env) (w : eCh f g ea eb ec env P) (q : ∀ v H' d, Step G.pp H H' → Is X.K A H' v d → P d → Q v H') : tChain r r' ta tb tc σ H Q := by
  refine ha A σ H env _ _ m w fun x H1 dx s1 hx w => ?_
  have m1 := m.step s1
  refine hb A σ H1 env _ _ m1 w fun y H2 dy s2 hy w => ?_
  have m2 := m1.step s2
  refine hr G.pp A H2 x y dx dy _ _ m2.al (hx.step m1 s2) hy w fun z H3 d k i w => ?_
  have m3 := m2.step (Step.of k)
  split at w
  · cases i
    refine ⟨_, rfl, ?_⟩
    split at w
    · rename_i e
      rw [if_pos e]
      refine hc A σ H3 env _ _ m3 w fun u H4 du s4 hu w => ?_
      have m4 := m3.step s4
      exact hr' G.pp A H4 y u dy du P Q m4.al ((hy.step m2 (Step.of k)).step m3 s4) hu w fun v H5 d k5 i p => q v H5 d ((((s1.trans s2).trans (Step.of k)).trans s4).trans (Step.of k5)) i p
    · rename_i e
      rw [if_neg e]
      exact q _ _ _ ((s1.trans s2).trans (Step.of k)) (.bl _) w
  · exact w.elim
theorem gt_ch {X : Cx} {G : Gh} {a b c : Expr} {ea eb ec : DE} {pos : Pos} {op op' : CmpOp} {r r' : R2} {f g : PyData → PyData → (PyData → Prop) → Prop} (ho : OpR X (compareOp op) r) (hr : DR2 X.K r f) (ho' : OpR X (compareOp op') r') (hr' : DR2 X.K r' g)
    (ha : GB X G a ea) (hb : GB X G b eb) (hc : GB X G c ec) (hm : lastMarks [op, op'] [b, c] = false := by with_unfolding_all rfl) : GT X G (.Compare a [op, op'] [b, c] pos) (tV (eCh f g ea eb ec)) := by
  obtain ⟨ta, pa, ha⟩ := ha
  obtain ⟨tb, pb, hb⟩ := hb
  obtain ⟨tc, pc, hc⟩ := hc
  refine ⟨tTest (tChain r r' ta tb tc), pt_chain ho ho' pa pb pc hm, fun A σ H env P Q m w q => ?_⟩
  refine ch_sem hr hr' ha hb hc A σ H env _ _ m w fun v H' d s i w => ?_
  split at w
  · cases i
    exact ⟨_, rfl, q _ H' s w⟩
  · exact w.elim
def mLst (er : DA) : DA := fun env P => er env fun ds => ds.length ≤ 100000 ∧ P ds
def mList (ea : DE) : DA := fun env P => ea env fun d => match d with | .list ds => P ds | .tuple ds => P ds | _ => False
def mCat (ea eb : DE) : DA := fun env P => ea env fun x => eb env fun y => match x, y with | .list i, .list j => i.length + j.length ≤ 100000 ∧ P (i ++ j) | _, _ => False
def mRep (ea eb : DE) : DA := fun env P => ea env fun x => eb env fun y => match x, y with | .list i, .int k => -100000 ≤ k ∧ k ≤ 100000 ∧ i.length * k.toNat ≤ 100000 ∧ P (List.replicate k.toNat i).flatten | _, _ => False
/-- a constant of the module -/
def CnI (mg : Str → Option Value) (x : Str) (i : Int) : Prop := ∃ t, mg x = some (.int i t)
def CnT (K : PySem.W.Frag) (mg : Str → Option Value) (x : Str) (vs : List V) : Prop := ∃ a, mg x = some (.ref a) ∧ ∀ H, SqT K H a vs
section
variable {X : Cx} {G : Gh} {pos : Pos} {x : Str}
theorem ge_kI {i : Int} (h : CnI X.mg x i) (hg : Gl X x) (hd : (x == ("__debug__" : Str)) = false := by decide) : GE X G (.Name x pos) (eC (.int i)) := by
  obtain ⟨t, h⟩ := h
  exact ge_c (pe_glob (v := .int i) hg h ⟨t, rfl⟩ hd) fun _ _ => .int i
theorem ge_kT {i j : Int} (h : CnT X.K X.mg x [.int i, .int j]) (hg : Gl X x) (hd : (x == ("__debug__" : Str)) = false := by decide) : GE X G (.Name x pos) (eC (.tuple [.int i, .int j])) := by
  obtain ⟨a, h, s⟩ := h
  exact ge_c (pe_glob (v := .ref a) hg h rfl hd) fun _ _ => .tupK s (.cons (.int i) (.cons (.int j) .nil))
end
end Dl
/-! text Dl12 -/
/-! Dl12: name = [..], calls by keywords. -/
namespace Dl
open PySem PySem.Spec PyProof.Rows L2
section
variable {X : Cx} {G : Gh} {a b c e tg : Expr} {ea eb ec ee : DE} {ta tb tc : DT} {pos p : Pos} {K : PySem.W.Frag} {x : Str} {st : Stmt} {ps : List Str} {j k : Nat} {F : Fs}
theorem new_at {A : List Addr} {σ : L2.St} {H H1 : Hp} {env : Env} (m : MA X.K G A σ H env) (s : Step G.pp H H1) {p : Addr} (n : H1 p = none) {vs : List V} {ds : List PyData} (g : IsAll X.K A H1 vs ds) (i : Nat) :
    ∃ A', Pres X.K A H A' (upd H1 p (.lst vs)) ∧ MA X.K G A' (σ.set i (some (.ref p))) (upd H1 p (.lst vs)) (env.set i (.own ds)) := by
  have m1 := m.step s
  have m2 := m1.more (o := .lst vs) n
  have nH : G.H0 p = none := by
    cases z : G.H0 p with
    | none => rfl
    | some o =>
      by_cases y : some p = G.pp
      · obtain ⟨a, b, e, _⟩ := (m1.pp p y.symm).2
        rw [n] at e
        cases e
      · have := m1.hist p o y z
        rw [n] at this
        cases this
  have np : some p ≠ G.pp := fun y => by
    obtain ⟨a, b, e, _⟩ := (m1.pp p y.symm).2
    rw [n] at e
    cases e
  have g2 : IsAll X.K (p :: A) (upd H1 p (.lst vs)) vs ds := IsAll.keep (fun a u na e => by
    have ne := ne_of_none e n
    exact ⟨fun q => by rcases List.mem_cons.mp q with q | q; exact ne q; exact na q, by rw [upd_ne ne]; exact e⟩) _ _ g
  refine ⟨p :: A, (m.pres s).trans (m1.morePres n), m2.setO i (List.mem_cons_self ..) nH np (fun j nj es ej ej2 => ?_) upd_same g2⟩
  obtain ⟨x, hx, q, zs, rfl, _, _, _, hq, _⟩ := m1.all j _ ej
  rw [ej2] at hx
  cases hx
  rw [n] at hq
  cases hq
def wLcO (i : Nat) (ev : DA) : DS := fun k env => ev env fun ds => k.nx (env.set i (.own ds))
def wLcD (i : Nat) (ev : DA) : DS := fun k env => ev env fun ds => k.nx (env.set i (.dat (.list ds)))
theorem gs_lcO {i : Nat} {y : Str} {py : Pos} {elt iter : Expr} {ifs : List Expr} {scope : Scope} {own : List (Str × Nat)} {spos : Pos} {ts : List Nat} {di : DA} {g : DG} {t : DT} {ev : DE} (hc : X.calm = true) (hN : X.N.Nodup) (hy : X.N[i]? = some y) (hyl : X.env.scope.names.lookup y = some .local)
    (hsw : swapsWith (.ListComp elt [⟨tg, iter, ifs, 0⟩] scope pos) (some (.Name y py)) spos.line X.env = pure true) (hi : GI X G tg iter di) (ok : BlkOk X.N X.env.scope scope own)
    (hg : ∀ (s : Shared) (H : Hp) (C : Addr) (cl : List (Str × Addr)) (fp : List Addr), GG (X.blk s H scope (compEnvC scope cl C X.env) fp) G tg ts g)
    (ht : ∀ (s : Shared) (H : Hp) (C : Addr) (cl : List (Str × Addr)) (fp : List Addr), PTs (X.blk s H scope (compEnvC scope cl C X.env) fp) ifs (tTT X.K G t))
    (he : ∀ (s : Shared) (H : Hp) (C : Addr) (cl : List (Str × Addr)) (fp : List Addr), GE (X.blk s H scope (compEnvC scope cl C X.env) fp) G elt ev) (sub : ∀ t ∈ ts, t ∈ own.map (·.2) := by decide)
    (hs : ∀ x, foldedSetIterable iter X.env x = pure x := by intro _; rfl) : GS X G (.Assign [.Name y py] (.ListComp elt [⟨tg, iter, ifs, 0⟩] scope pos) spos) (wLcO i (dLc di g t ev (own.map (·.2)))) := by
  obtain ⟨wi, pi, hi⟩ := hi
  refine ⟨_, ps_setLc (wi := wi) (g := tGG X.K G ts g) (tt := tTT X.K G t) (te := tE X.K G ev) hc hN hy hyl hsw pi ok (fun s H C cl fp => (hg s H C cl fp).canon) ht (fun s H C cl fp => (he s H C cl fp).canon) hs, fun A σ H env k D m w l => ?_⟩
  refine lc_sem hi sub A σ H env _ _ m w fun p H1 vs ds s n g w => ?_
  obtain ⟨A', pr, m'⟩ := new_at m s n g i
  exact l.nx A' _ _ _ pr m' w
theorem gs_lcD {i : Nat} {y : Str} {py : Pos} {elt iter : Expr} {ifs : List Expr} {scope : Scope} {own : List (Str × Nat)} {spos : Pos} {ts : List Nat} {di : DA} {g : DG} {t : DT} {ev : DE} (hc : X.calm = true) (hN : X.N.Nodup) (hy : X.N[i]? = some y) (hyl : X.env.scope.names.lookup y = some .local)
    (hsw : swapsWith (.ListComp elt [⟨tg, iter, ifs, 0⟩] scope pos) (some (.Name y py)) spos.line X.env = pure true) (hi : GI X G tg iter di) (ok : BlkOk X.N X.env.scope scope own)
    (hg : ∀ (s : Shared) (H : Hp) (C : Addr) (cl : List (Str × Addr)) (fp : List Addr), GG (X.blk s H scope (compEnvC scope cl C X.env) fp) G tg ts g)
    (ht : ∀ (s : Shared) (H : Hp) (C : Addr) (cl : List (Str × Addr)) (fp : List Addr), PTs (X.blk s H scope (compEnvC scope cl C X.env) fp) ifs (tTT X.K G t))
    (he : ∀ (s : Shared) (H : Hp) (C : Addr) (cl : List (Str × Addr)) (fp : List Addr), GE (X.blk s H scope (compEnvC scope cl C X.env) fp) G elt ev) (sub : ∀ t ∈ ts, t ∈ own.map (·.2) := by decide)
    (hs : ∀ x, foldedSetIterable iter X.env x = pure x := by intro _; rfl) : GS X G (.Assign [.Name y py] (.ListComp elt [⟨tg, iter, ifs, 0⟩] scope pos) spos) (wLcD i (dLc di g t ev (own.map (·.2)))) := by
  obtain ⟨wi, pi, hi⟩ := hi
  refine ⟨_, ps_setLc (wi := wi) (g := tGG X.K G ts g) (tt := tTT X.K G t) (te := tE X.K G ev) hc hN hy hyl hsw pi ok (fun s H C cl fp => (hg s H C cl fp).canon) ht (fun s H C cl fp => (he s H C cl fp).canon) hs, fun A σ H env k D m w l => ?_⟩
  refine lc_sem hi sub A σ H env _ _ m w fun p H1 vs ds s n g w => ?_
  have m1 := m.step s
  have sn : Step G.pp H1 (upd H1 p (.lst vs)) := Step.new n
  exact l.nx A _ _ _ ((m.pres s).trans (m1.pres sn)) ((m1.step sn).setD i (Is.newL m1.al n g)) w
/-! calls by keywords alone -/
def put {α : Type} (z : α) (is : List Nat) (l : List α) : List α := is.map fun i => l[i]?.getD z
theorem vals_put {vs : List V} {us : List Value} (r : Vals vs us) : ∀ is : List Nat, Vals (put V.non is vs) (put Value.none is us)
  | [] => .nil
  | i :: is => by
    refine .cons ?_ (vals_put r is)
    show RelV (vs[i]?.getD V.non) (us[i]?.getD Value.none)
    cases e : vs[i]? with
    | none =>
      rw [List.getElem?_eq_none_iff, r.length, ← List.getElem?_eq_none_iff] at e
      rw [e]
      rfl
    | some v =>
      obtain ⟨u, hu, ru⟩ := r.get e
      rw [hu]
      exact ru
theorem is_put {A : List Addr} {H : Hp} {vs : List V} {ds : List PyData} (r : IsAll K A H vs ds) : ∀ is : List Nat, IsAll K A H (put V.non is vs) (put PyData.none is ds)
  | [] => .nil
  | i :: is => by
    refine .cons ?_ (is_put r is)
    show Is K A H (vs[i]?.getD V.non) (ds[i]?.getD PyData.none)
    cases e : ds[i]? with
    | none =>
      have e' := e
      rw [List.getElem?_eq_none_iff, ← r.len, ← List.getElem?_eq_none_iff] at e'
      rw [e']
      exact .non
    | some d =>
      obtain ⟨u, hu, ru⟩ := r.get e
      rw [hu]
      exact ru
def putG {α : Type} (z : α) (is : List Nat) : List α → List α → List α
  | [], l => if l.length = is.length then put z is l else []
  | _, _ => []
/-- how a def takes keywords ks: is says where each parameter's value stands -/
def KBp (K : PySem.W.Frag) (x : Str) (st : Stmt) (ps ks : List Str) (is : List Nat) : Prop :=
  ∀ (f : Addr) (fd : FuncData), FunD K x x (defArgs st) (defBody st) (defScope st) [] [] f fd → KBinds K fd ps ks (putG Value.none is) (putG V.non is)
theorem kbp_of {ks : List Str} {is : List Nat} (hne : 0 < ps.length) (h : ∀ (kV doc pm : Value) (an : Option Addr) (cdv ct : Value) (ws : List Value), ws.length = is.length → bindArgs (PySem.W.fnOf x x (defArgs st) (defBody st) (defScope st) .none kV doc pm an cdv ct) ⟨[], ks.zip ws⟩ = pure (ps.zip (put Value.none is ws))) : KBp K x st ps ks is := by
  intro f fd F
  obtain ⟨oc, od, dV, kV, doc, pm, an, cdv, ct, osl, rfl, lk, hcd, hD, hK⟩ := F.ex
  rcases hD with ⟨_, rfl⟩ | ⟨e, _⟩
  · constructor
    · intro s us ws _ hl
      cases us with
      | nil =>
        have hl : (if ws.length = is.length then put Value.none is ws else []).length = ps.length := hl
        by_cases e : ws.length = is.length
        · show BindsTo s _ _ (ps.zip (if ws.length = is.length then put Value.none is ws else []))
          rw [if_pos e]
          exact .of_eq (h kV doc pm an cdv ct ws e)
        · rw [if_neg e] at hl
          have hl : 0 = ps.length := hl
          omega
      | cons u us =>
        have hl : 0 = ps.length := hl
        omega
    · intro vs us zs ws rv rz
      cases rv with
      | nil =>
        show Vals (if zs.length = is.length then put V.non is zs else []) (if ws.length = is.length then put Value.none is ws else [])
        rw [rz.length]
        by_cases e : ws.length = is.length
        · rw [if_pos e, if_pos e]
          exact vals_put rz is
        · rw [if_neg e, if_neg e]
          exact .nil
      | cons _ _ => exact .nil
  · exact absurd rfl e
theorem ge_callKH {ks : List Str} {is : List Nat} {kws : List Keyword} {er : DA} (h : Has X.prog X.w X.K X.mg X.base j x st ps (spD X.K F)) (le : j ≤ k) (hgd : X.A.guards = some []) (hr : Room k X.A) (hg : Gl X x) (kb : KBp X.K x st ps ks is) (hkw : GK X G kws er)
    (hall : (backToKw pos (keywordEach kws X.env)).all (·.1.isSome) = true := by rfl) (hks : (backToKw pos (keywordEach kws X.env)).filterMap (·.1) = ks := by rfl) (hdb : (x == ("__debug__" : Str)) = false := by decide)
    (hpl : ((backTo pos (starEach [] X.env)).any (·.1) || (backToKw pos (keywordEach kws X.env)).any (·.1.isNone)) = false := by rfl) (hlen : kws.length = is.length := by rfl) : GE X G (.Call (.Name x p) [] kws pos) (eCallK F (put PyData.none is) er) := by
  obtain ⟨f, fd, hm, Fo, Fd, hb⟩ := h.ex
  refine ge_callK (Fo.mono le) hgd hr hg hm Fd.kp (kb f fd Fd) (fun {A H vs ds} i l => ?_) hkw hall hks hdb hpl
  show IsAll X.K A H (if vs.length = is.length then put V.non is vs else []) (put PyData.none is ds)
  rw [if_pos (by rw [i.len, l, hlen])]
  exact is_put i is
end
end Dl
/-! text Dw -/
/-! Dw: loops and comprehensions over data, in plain words. -/
namespace Dl
open PySem
theorem loopW_nil {g : DG} {w : DS} {k : DK} {env : Dl.Env} : loopW g w [] k env = k.nx env := rfl
theorem loopW_cons {g : DG} {w : DS} {d : PyData} {ds : List PyData} {k : DK} {env : Dl.Env} : loopW g w (d :: ds) k env = g d env fun env1 => w { nx := fun e => loopW g w ds k e, ct := fun e => loopW g w ds k e, bk := k.nx, rt := k.rt } env1 := rfl
theorem lcW_nil {g : DG} {t : DT} {ev : DE} {env : Dl.Env} {P : List PyData → Prop} {acc : List PyData} : lcW g t ev env P [] acc = P acc := rfl
theorem lcW_cons {g : DG} {t : DT} {ev : DE} {env : Dl.Env} {P : List PyData → Prop} {d : PyData} {ds acc : List PyData} : lcW g t ev env P (d :: ds) acc = g d env fun env1 => t env1 fun b => if b = true then ev env1 fun y => acc.length < 100000 ∧ lcW g t ev env P ds (acc ++ [y]) else lcW g t ev env P ds acc := rfl
def enF (n : Nat) (ds : List PyData) : List PyData := (ds.zipIdx n).map fun p => .tuple [.int (p.2 : Nat), p.1]
theorem enF_nil (n : Nat) : enF n [] = [] := rfl
theorem enF_cons (n : Nat) (d : PyData) (ds : List PyData) : enF n (d :: ds) = .tuple [.int (n : Nat), d] :: enF (n + 1) ds := rfl
theorem enD_F (ds : List PyData) : enD ds = enF 0 ds := rfl
/-- all are good, each by its place -/
def goods (f : Nat → PyData → Bool) : Nat → List PyData → Bool
  | _, [] => true
  | n, d :: ds => f n d && goods f (n + 1) ds
/-- for n, d in enumerate(ds): if not good: return False -/
theorem loop_ret {g : DG} {w : DS} {k : DK} {good : Nat → PyData → Bool} (I : Dl.Env → Prop)
    (turn : ∀ (n : Nat) (d : PyData) (env : Dl.Env) (L : Dl.Env → Prop), I env → (if good n d = true then ∀ e, I e → L e else k.rt (.bool false)) → g (.tuple [.int (n : Nat), d]) env fun env1 => w { nx := L, ct := L, bk := k.nx, rt := k.rt } env1) :
    ∀ (ds : List PyData) (n : Nat) (env : Dl.Env), I env → (if goods good n ds = true then ∀ e, I e → k.nx e else k.rt (.bool false)) → loopW g w (enF n ds) k env
  | [], n, env, i, h => by
    rw [enF_nil, loopW_nil]
    exact h env i
  | d :: ds, n, env, i, h => by
    rw [enF_cons, loopW_cons]
    refine turn n d env _ i ?_
    unfold goods at h
    cases e : good n d with
    | false =>
      rw [e] at h
      simpa using h
    | true =>
      rw [e] at h
      simp only [if_true]
      intro e2 i2
      exact loop_ret I turn ds (n + 1) e2 i2 (by simpa using h)
/-- [f x for x in ds if keep x] -/
theorem lc_gen {g : DG} {t : DT} {ev : DE} {env : Dl.Env} {P : List PyData → Prop} {keep : PyData → Bool} {f : PyData → PyData} :
    ∀ (ds acc : List PyData), (∀ d ∈ ds, ∀ (R1 : PyData → Prop) (R2 : Prop), (if keep d = true then R1 (f d) else R2) → g d env fun env1 => t env1 fun b => if b = true then ev env1 R1 else R2) → acc.length + ds.length ≤ 100000 → P (acc ++ (ds.filter keep).map f) → lcW g t ev env P ds acc
  | [], acc, _, _, h => by
    rw [lcW_nil]
    simpa using h
  | d :: ds, acc, step, l, h => by
    rw [lcW_cons]
    rw [List.length_cons] at l
    refine step d (List.mem_cons_self ..) _ _ ?_
    cases e : keep d with
    | true =>
      simp only [if_true]
      refine ⟨by omega, lc_gen ds (acc ++ [f d]) (fun x hx => step x (List.mem_cons_of_mem _ hx)) (by rw [List.length_append]; simp; omega) ?_⟩
      rw [List.filter_cons_of_pos e, List.map_cons] at h
      simpa using h
    | false =>
      simp only [Bool.false_eq_true, if_false]
      refine lc_gen ds acc (fun x hx => step x (List.mem_cons_of_mem _ hx)) (by omega) ?_
      rw [List.filter_cons_of_neg (by simp [e])] at h
      exact h
inductive Fa2 (q : PyData → PyData → Prop) : List PyData → List PyData → Prop
  | nil : Fa2 q [] []
  | cons {x y : PyData} {xs ys : List PyData} : q x y → Fa2 q xs ys → Fa2 q (x :: xs) (y :: ys)
theorem Fa2.len {q : PyData → PyData → Prop} : ∀ {xs ys : List PyData}, Fa2 q xs ys → xs.length = ys.length
  | _, _, .nil => rfl
  | _, _, .cons _ t => by rw [List.length_cons, List.length_cons, t.len]
theorem Fa2.all {q : PyData → PyData → Prop} {r : PyData → Prop} (h : ∀ x y, q x y → r y) : ∀ {xs ys : List PyData}, Fa2 q xs ys → ∀ y ∈ ys, r y
  | _, _, .nil, y, hy => by cases hy
  | _, _, .cons a t, y, hy => by
    rcases List.mem_cons.mp hy with rfl | hy
    · exact h _ _ a
    · exact t.all h y hy
theorem Fa2.get {q : PyData → PyData → Prop} : ∀ {xs ys : List PyData}, Fa2 q xs ys → ∀ (i : Nat) (y : PyData), ys[i]? = some y → ∃ x, xs[i]? = some x ∧ q x y
  | _, _, .nil, i, y, h => by simp at h
  | _, _, .cons a t, 0, y, h => by
    rw [List.getElem?_cons_zero] at h
    cases h
    exact ⟨_, rfl, a⟩
  | _, _, .cons a t, i + 1, y, h => by
    rw [List.getElem?_cons_succ] at h ⊢
    exact t.get i y h
/-- the same, what stands for x only said by q -/
theorem lc_rel {g : DG} {t : DT} {ev : DE} {env : Dl.Env} {P : List PyData → Prop} {keep : PyData → Bool} {q : PyData → PyData → Prop} :
    ∀ (ds acc : List PyData), (∀ d ∈ ds, ∀ (R1 : PyData → Prop) (R2 : Prop), (if keep d = true then ∀ y, q d y → R1 y else R2) → g d env fun env1 => t env1 fun b => if b = true then ev env1 R1 else R2) → acc.length + ds.length ≤ 100000 → (∀ ys, Fa2 q (ds.filter keep) ys → P (acc ++ ys)) → lcW g t ev env P ds acc
  | [], acc, _, _, h => by
    rw [lcW_nil]
    simpa using h [] .nil
  | d :: ds, acc, step, l, h => by
    rw [lcW_cons]
    rw [List.length_cons] at l
    refine step d (List.mem_cons_self ..) _ _ ?_
    cases e : keep d with
    | true =>
      simp only [if_true]
      intro y hy
      refine ⟨by omega, lc_rel ds (acc ++ [y]) (fun x hx => step x (List.mem_cons_of_mem _ hx)) (by rw [List.length_append]; simp; omega) fun ys hys => ?_⟩
      rw [List.filter_cons_of_pos e] at h
      have := h (y :: ys) (.cons hy hys)
      simpa using this
    | false =>
      simp only [Bool.false_eq_true, if_false]
      refine lc_rel ds acc (fun x hx => step x (List.mem_cons_of_mem _ hx)) (by omega) fun ys hys => ?_
      rw [List.filter_cons_of_neg (by simp [e])] at h
      exact h ys hys
theorem boolsD_map (p : PyData → Bool) : ∀ ds : List PyData, boolsD (ds.map fun d => .bool (p d)) = some (ds.map p)
  | [] => rfl
  | d :: ds => by
    rw [List.map_cons, List.map_cons]
    unfold boolsD
    rw [boolsD_map p ds]
    rfl
theorem filter_yes {ds : List PyData} : ds.filter (fun _ => true) = ds := List.filter_eq_self.mpr fun _ _ => rfl
theorem sh_int (i : Int) : Sh (.int i) := by simp [Sh, SeqAt.shaped, PyData.canLay0, PyData.depth]
theorem sh_bool (i : Bool) : Sh (.bool i) := by simp [Sh, SeqAt.shaped, PyData.canLay0, PyData.depth]
theorem eqv_int (i j : Int) : PyData.eqv (.int i) (.int j) = decide (i = j) := by
  rw [PyData.eqv]
  by_cases h : i = j <;> simp [h]
theorem max_if (a b : Int) : (if b > a then b else a) = max a b := by
  split <;> omega
theorem min_if (a b : Int) : (if b < a then b else a) = min a b := by
  split <;> omega
theorem enF_range (h : Nat → PyData) : ∀ (n k : Nat), enF k ((List.range' k n).map h) = (List.range' k n).map fun i => .tuple [.int (i : Nat), h i]
  | 0, k => rfl
  | n + 1, k => by
    rw [List.range'_succ, List.map_cons, List.map_cons, enF_cons, enF_range h n (k + 1)]
theorem enD_range (h : Nat → PyData) (n : Nat) : enD ((List.range n).map h) = (List.range n).map fun i => .tuple [.int (i : Nat), h i] := by
  rw [enD_F, List.range_eq_range', enF_range]
theorem layAll_map {α : Type} {f : α → PyData} (h : ∀ a, (f a).canLay0 = true) : ∀ l : List α, PyData.canLayAll0 (l.map f) = true
  | [] => by simp [PyData.canLayAll0]
  | a :: l => by
    rw [List.map_cons, PyData.canLayAll0, h a, layAll_map h l]
    rfl
theorem depthAll_map {α : Type} {f : α → PyData} {n : Nat} (h : ∀ a, (f a).depth ≤ n) : ∀ l : List α, PyData.depthAll (l.map f) ≤ n
  | [] => by simp [PyData.depthAll]
  | a :: l => by
    rw [List.map_cons, PyData.depthAll]
    exact Nat.max_le.mpr ⟨h a, depthAll_map h l⟩
theorem sh_listmap {α : Type} {f : α → PyData} {n : Nat} (hn : n ≤ 63) (h1 : ∀ a, (f a).canLay0 = true) (h2 : ∀ a, (f a).depth ≤ n) (l : List α) : Sh (.list (l.map f)) := by
  have d := depthAll_map h2 l
  simp [Sh, SeqAt.shaped, PyData.canLay0, PyData.depth, layAll_map h1 l]
  omega
theorem sh_nil : Sh (.list []) := by simp [Sh, SeqAt.shaped, PyData.canLay0, PyData.canLayAll0, PyData.depth, PyData.depthAll]
theorem eqv_nil (xs : List PyData) : PyData.eqv (.list xs) (.list []) = xs.isEmpty := by
  cases xs <;> simp [PyData.eqv, PyData.eqvAll]
end Dl
/-! text Dl13 -/
/-! Dl13: wide quotients; a tuple of no items many times. -/
namespace Dl
open PySem PySem.Spec PyProof.Rows L2
section
variable {X : Cx} {K : PySem.W.Frag}
def CDivW (i j : Int) : Prop := 0 < j ∧ i.natAbs < 2 ^ 4000
theorem bits_le {i : Int} (h : i.natAbs < 2 ^ 4000) : Builtin.Int.intBits i ≤ 4000 := PyProof.Rows.intBits_le h
theorem op_fdivW : OpR X (binaryOp .FloorDiv) (rI CDivW fun i j => .int (i.fdiv j)) := opI fun i j _ _ _ _ _ hc q => floordiv_int (by have := hc.1; omega) q (.inl (divp_ok hc.1 (Nat.le_trans (bits_le hc.2) (Nat.le_add_left _ _))).2)
def fDivW := fI (fun i j => .int (i.fdiv j)) CDivW
theorem dr_divW : DR2 K (rI CDivW fun i j => .int (i.fdiv j)) fDivW := dr_I (fun _ _ h => h) fun _ _ _ i j => .int _
end
end Dl
/-! text Sp24 -/
/-! Sp24: what the defs of law k24 do to data. -/
namespace Hd
open PySem Dl
def isIntB : PyData → Bool
  | .int _ => true
  | _ => false
def withinB (v : PyData) (a b : Int) : Bool := match v with
  | .int i => decide (a ≤ i) && decide (i ≤ b)
  | _ => false
def rowB (v : PyData) (m : Int) : Bool := match v with
  | .tuple ds => decide ((ds.length : Int) = m)
  | _ => false
def leB : PyData → PyData → Bool
  | .int a, .int b => decide (a ≤ b)
  | _, _ => false
def pricesB : PyData → Bool
  | .tuple [a, b] => withinB a 1 999 && withinB b 1 999 && leB a b
  | _ => false
def momB (n : Nat) : PyData → Bool
  | .tuple [f, a, b] => withinB f 0 (if (1 : Int) < (n : Int) then (n : Int) - 1 else 0) && pricesB (.tuple [a, b])
  | _ => false
def momentsB : PyData → Bool
  | .tuple ds => decide (1 ≤ ds.length) && decide (ds.length ≤ 31) && goods momB 0 ds
  | _ => false
def payB : PyData → Bool
  | .tuple [a, b] => withinB a (-999) 999 && withinB b (-999) 999
  | _ => false
/-- the father of a moment -/
def fat (m : PyData) : Nat := match m with
  | .tuple (.int f :: _) => f.toNat
  | _ => 0
def fatN (ms : List PyData) (i : Nat) : Nat := fat (ms[i]?.getD .none)
def sonsOf (ms : List PyData) (i : Nat) : List Nat := (List.range ms.length).filter fun j => decide (0 < j) && decide (fatN ms j = i)
def dN (n : Nat) : PyData := .int (n : Int)
def sonsD (ms : List PyData) : PyData := .list ((List.range ms.length).map fun i => .list ((sonsOf ms i).map dN))
def endsN (ms : List PyData) : List Nat := (List.range ms.length).filter fun i => (sonsOf ms i).isEmpty
def endsD (ms : List PyData) : PyData := .list ((endsN ms).map dN)
def optB (a : PyData) : Bool := isNon a || payB a
def pairB (es : List Nat) (n : Nat) : PyData → Bool
  | .tuple [a, b] => optB a && optB b && !(es.contains n && (isNon a || !isNon b))
  | _ => false
def promB (ms : List PyData) : PyData → Bool
  | .tuple ps => decide (ps.length = ms.length) && goods (pairB (endsN ms)) 0 ps
  | _ => false
def tupOf : PyData → List PyData
  | .tuple ds => ds
  | _ => []
def houseB : PyData → Bool
  | .tuple [.str s, m, .tuple ps] => s == ("house" : Str) && momentsB m && decide (ps.length ≤ 4) && ps.all (promB (tupOf m))
  | _ => false
def momsOf : PyData → List PyData
  | .tuple [_, .tuple ms, _] => ms
  | _ => []
def prosOf : PyData → List PyData
  | .tuple [_, _, .tuple ps] => ps
  | _ => []
/-- from a moment up to the first one -/
def upN (ms : List PyData) : Nat → Nat → List Nat
  | 0, i => [i]
  | k + 1, i => if i = 0 then [0] else i :: upN ms k (fatN ms i)
def wayN (ms : List PyData) (i : Nat) : List Nat := (upN ms i i).reverse
def lN (l : List Nat) : PyData := .list (l.map dN)
def belowN (ms : List PyData) (i : Nat) : List Nat := (List.range ms.length).filter fun j => (wayN ms j).contains i
def sndNon : PyData → Bool
  | .tuple [_, b] => isNon b
  | _ => false
def fstNon : PyData → Bool
  | .tuple [a, _] => isNon a
  | _ => false
def plainB : PyData → Bool
  | .tuple ps => ps.all sndNon
  | _ => false
def endPairB (es : List Nat) (n : Nat) (p : PyData) : Bool := fstNon p || es.contains n
def endB (ms : List PyData) : PyData → Bool
  | .tuple ps => plainB (.tuple ps) && goods (endPairB (endsN ms)) 0 ps
  | _ => false
def B4 : Int := 10 ^ 400
def ratioB : PyData → Bool
  | .tuple [.int a, .int b] => decide (0 < b) && decide (b < B4) && decide (-B4 < a) && decide (a < B4) && decide (Nat.gcd a.natAbs b.natAbs = 1)
  | _ => false
def planB (ms : List PyData) : PyData → Bool
  | .tuple ps => decide (ps.length = ms.length) && ps.all ratioB && (endsN ms).all fun e => PyData.eqv (ps[e]?.getD .none) (.tuple [.int 0, .int 1])
  | _ => false

/-- a def of one value, two, three that answers by a function -/
def Fs1 (pre : PyData → Prop) (f : PyData → PyData) : Fs := ⟨1, fun ds => match ds with | [v] => pre v | _ => False, fun ds d => match ds with | [v] => d = f v | _ => True⟩
def Fs2 (pre : PyData → PyData → Prop) (f : PyData → PyData → PyData) : Fs := ⟨2, fun ds => match ds with | [v, u] => pre v u | _ => False, fun ds d => match ds with | [v, u] => d = f v u | _ => True⟩
def intOf : PyData → Int
  | .int i => i
  | _ => 0
def F_is_integer : Fs := Fs1 (fun _ => True) fun v => .bool (isIntB v)
def F_is_within : Fs := ⟨3, fun ds => match ds with | [_, .int _, .int _] => True | _ => False, fun ds d => match ds with | [v, .int a, .int b] => d = .bool (withinB v a b) | _ => True⟩
def F_is_row : Fs := Fs2 (fun _ a => ∃ i, a = .int i) fun v a => .bool (rowB v (intOf a))
def F_is_prices : Fs := Fs1 (fun _ => True) fun v => .bool (pricesB v)
def F_is_moments : Fs := Fs1 (fun _ => True) fun v => .bool (momentsB v)
def F_is_pay : Fs := Fs1 (fun _ => True) fun v => .bool (payB v)
def F_sons_in : Fs := Fs1 (fun m => momentsB m = true) fun m => sonsD (tupOf m)
def F_ends_in : Fs := Fs1 (fun m => momentsB m = true) fun m => endsD (tupOf m)
def F_is_promise_for : Fs := Fs2 (fun m _ => momentsB m = true) fun m v => .bool (promB (tupOf m) v)
def HsOk (h : PyData) : Prop := houseB h = true ∧ SeqAt.shaped h = true
def F_is_house : Fs := Fs1 (fun v => SeqAt.shaped v = true) fun v => .bool (houseB v)
def F_want_house : Fs := Fs1 (fun v => HsOk v) fun v => v
def F_is_promise : Fs := Fs2 (fun h _ => HsOk h) fun h v => .bool (promB (momsOf h) v)
def F_bare_house : Fs := Fs1 (fun m => momentsB m = true) fun m => .tuple [.str "house", m, .tuple []]
def OnM (m i : PyData) : Prop := momentsB m = true ∧ ∃ n : Nat, i = .int (n : Int) ∧ n < (tupOf m).length
def OnH (h i : PyData) : Prop := HsOk h ∧ ∃ n : Nat, i = .int (n : Int) ∧ n < (momsOf h).length
def OnP (h i : PyData) : Prop := HsOk h ∧ ∃ n : Nat, i = .int (n : Int) ∧ n < (prosOf h).length
def F_ahead_in : Fs := Fs2 OnM fun m i => lN (wayN (tupOf m) (intOf i).toNat)
def F_below_in : Fs := Fs2 OnM fun m i => lN (belowN (tupOf m) (intOf i).toNat)
def F_want_moment : Fs := Fs2 OnH fun _ _ => .none
def F_want_promise : Fs := Fs2 OnP fun h i => (prosOf h)[(intOf i).toNat]?.getD .none
def F_sons : Fs := Fs2 OnH fun h i => lN (sonsOf (momsOf h) (intOf i).toNat)
def F_ahead : Fs := Fs2 OnH fun h i => lN (wayN (momsOf h) (intOf i).toNat)
def F_below : Fs := Fs2 OnH fun h i => lN (belowN (momsOf h) (intOf i).toNat)
def F_depth : Fs := Fs2 OnH fun h i => .int ((wayN (momsOf h) (intOf i).toNat).length - 1 : Int)
def F_ends : Fs := Fs1 (fun h => HsOk h) fun h => endsD (momsOf h)
def F_courses : Fs := Fs1 (fun h => HsOk h) fun h => .list (srt ((endsN (momsOf h)).map fun e => lN (wayN (momsOf h) e)))
def F_is_plain_promise : Fs := Fs1 (fun p => ∃ ms, momentsB (.tuple ms) = true ∧ promB ms p = true) fun p => .bool (plainB p)
def F_is_end_promise : Fs := Fs2 (fun m p => momentsB m = true ∧ promB (tupOf m) p = true) fun m p => .bool (endB (tupOf m) p)
def F_is_plain : Fs := Fs2 OnP fun h i => .bool (plainB ((prosOf h)[(intOf i).toNat]?.getD .none))
def F_is_at_ends : Fs := Fs2 OnP fun h i => .bool (endB (momsOf h) ((prosOf h)[(intOf i).toNat]?.getD .none))
def F_is_ratio : Fs := Fs1 (fun _ => True) fun v => .bool (ratioB v)
def F_is_plan_of : Fs := Fs2 (fun m v => momentsB m = true ∧ SeqAt.shaped v = true) fun m v => .bool (planB (tupOf m) v)
def F_is_plan : Fs := Fs2 (fun h v => HsOk h ∧ SeqAt.shaped v = true) fun h v => .bool (planB (momsOf h) v)
def F__law_is_whole : Fs := F_is_integer
def F__law_is_within : Fs := F_is_within
def F__law_are_moments : Fs := F_is_moments
def F__law_is_pay : Fs := F_is_pay
def F__law_is_promise : Fs := F_is_promise_for
def F__law_is_house : Fs := F_is_house
def F__law_sons : Fs := F_sons_in
def F__law_ends : Fs := F_ends_in
def F__law_way : Fs := F_ahead_in
def F__law_is_ratio : Fs := F_is_ratio
def Two (a b : PyData) : Prop := ∃ i j, a = .int i ∧ b = .int j
def F__law_gcd : Fs := Fs2 Two fun a b => .int (Nat.gcd (intOf a).natAbs (intOf b).natAbs : Nat)
/-- a number and a divisor above 0, not too great -/
def Div (a b : PyData) : Prop := ∃ i j, a = .int i ∧ b = .int j ∧ 0 < j ∧ i.natAbs < 2 ^ 4000 ∧ j.natAbs < 2 ^ 4000
def lowD (i j : Int) : PyData := .tuple [.int (i.fdiv (Nat.gcd i.natAbs j.natAbs : Nat)), .int (j.fdiv (Nat.gcd i.natAbs j.natAbs : Nat))]
def F__law_low : Fs := Fs2 Div fun a b => lowD (intOf a) (intOf b)
def F__law_is_plan : Fs := F_is_plan_of
/-! what is drawn: only said of -/
def F__law_draw : Fs := ⟨1, fun ds => match ds with | [.int m] => 0 < m ∧ m ≤ 1000000 | _ => False, fun ds d => match ds with | [.int m] => ∃ r, d = .int r ∧ 0 ≤ r ∧ r < m | _ => True⟩
def seqOf : PyData → List PyData
  | .list ds => ds
  | .tuple ds => ds
  | _ => []
def F__law_pick : Fs := ⟨1, fun ds => match ds with | [.list es] => 0 < es.length ∧ es.length ≤ 100000 | _ => False, fun ds d => match ds with | [.list es] => d ∈ es | _ => True⟩
/-- fathers of a tree -/
def FatOk (fs : List Nat) : Prop := ∀ i f, fs[i]? = some f → f < i ∨ (i = 0 ∧ f = 0)
def F__law_fathers : Fs := ⟨1, fun ds => match ds with | [.int m] => 1 ≤ m ∧ m ≤ 31 | _ => False, fun ds d => match ds with | [.int m] => ∃ fs, d = lN fs ∧ (fs.length : Int) = m ∧ FatOk fs | _ => True⟩
def F__law_pay : Fs := ⟨0, fun _ => True, fun _ d => payB d = true⟩
def F__law_put : Fs := ⟨3, fun ds => match ds with | [.tuple es, .int i, _] => 0 ≤ i ∧ i < es.length ∧ es.length ≤ 1000 | _ => False, fun ds d => match ds with | [.tuple es, .int i, v] => d = .tuple (es.set i.toNat v) | _ => True⟩
def F__law_any_ratio : Fs := ⟨2, fun ds => match ds with | [.int m, .int u] => 0 ≤ m ∧ m ≤ 400 ∧ 1 ≤ u ∧ u ≤ 400 | _ => False, fun ds d => ∃ i j : Int, d = .tuple [.int i, .int j] ∧ i.natAbs ≤ 1000 ∧ j.natAbs ≤ 1000⟩
end Hd
/-! text Lw24 -/
/-! Lw24: the deterministic defs of law k24 keep their promises, told of data. -/
namespace Hd
open PySem Dl
abbrev N_is_integer : List Str := ["value"]
abbrev N_is_within : List Str := ["value", "low", "high"]
abbrev N_is_row : List Str := ["value", "many"]
abbrev N_is_prices : List Str := ["value"]
abbrev N_is_moments : List Str := ["value", "number", "moment"]
abbrev N_is_pay : List Str := ["value", "part"]
abbrev N_is_promise_for : List Str := ["moments", "value", "last", "number", "pair", "part"]
abbrev N_is_house : List Str := ["value", "promise"]
abbrev N_sons_in : List Str := ["moments", "found", "number", "moment"]
abbrev N_ends_in : List Str := ["moments", "number", "some"]
abbrev N_ahead_in : List Str := ["moments", "moment", "way"]
abbrev N_below_in : List Str := ["moments", "moment", "found", "number"]
abbrev N_is_plain_promise : List Str := ["promise", "call", "back"]
abbrev N_is_end_promise : List Str := ["moments", "promise", "last", "at", "call", "back"]
abbrev N_want_house : List Str := ["value"]
abbrev N_want_moment : List Str := ["house", "value"]
abbrev N_want_promise : List Str := ["house", "value"]
abbrev N_is_promise : List Str := ["house", "value"]
abbrev N_bare_house : List Str := ["moments"]
abbrev N_sons : List Str := ["house", "moment"]
abbrev N_ahead : List Str := ["house", "moment"]
abbrev N_below : List Str := ["house", "moment"]
abbrev N_ends : List Str := ["house"]
abbrev N_courses : List Str := ["house", "end"]
abbrev N_depth : List Str := ["house", "moment"]
abbrev N_is_plain : List Str := ["house", "promise"]
abbrev N_is_at_ends : List Str := ["house", "promise", "found"]
abbrev N_is_ratio : List Str := ["value"]
abbrev N_is_plan_of : List Str := ["moments", "value", "end", "ratio"]
abbrev N_is_plan : List Str := ["house", "value"]
abbrev N__law_pot : List Str := ["script", "k", "cell"]
abbrev N__law_draw : List Str := ["pot", "many", "digit"]
abbrev N__law_pick : List Str := ["pot", "some"]
abbrev N__law_some : List Str := ["pot", "things", "many", "left", "turn"]
abbrev N__law_gcd : List Str := ["one", "other"]
abbrev N__law_low : List Str := ["number", "under", "by"]
abbrev N__law_times : List Str := ["near", "far"]
abbrev N__law_any_ratio : List Str := ["pot", "most", "unders"]
abbrev N__law_is_whole : List Str := ["value"]
abbrev N__law_is_ratio : List Str := ["value"]
abbrev N__law_fathers : List Str := ["pot", "many", "way", "at"]
abbrev N__law_moments : List Str := ["pot", "many", "steps", "wide", "rows", "mids", "at", "father", "mid"]
abbrev N__law_balanced : List Str := ["pot", "many", "at", "moments", "fathers", "wide", "prices", "masses", "some", "weights", "step", "place", "son", "father", "price", "mass"]
abbrev N__law_any_moments : List Str := ["pot", "many"]
abbrev N__law_sons : List Str := ["moments", "found", "at", "moment"]
abbrev N__law_ends : List Str := ["moments", "at", "some"]
abbrev N__law_way : List Str := ["moments", "at", "found"]
abbrev N__law_pay : List Str := ["pot", "most"]
abbrev N__law_promise : List Str := ["pot", "moments", "kind", "at", "last", "found", "call", "back"]
abbrev N__law_house : List Str := ["pot", "many", "kinds", "moments", "kind"]
abbrev N__law_any_plan : List Str := ["pot", "moments", "last", "at"]
abbrev N__law_is_plan : List Str := ["moments", "value", "at", "one"]
abbrev N__law_bent : List Str := ["pot", "value", "odd", "some", "at", "way"]
abbrev N__law_is_within : List Str := ["value", "low", "high"]
abbrev N__law_are_moments : List Str := ["value", "at", "moment"]
abbrev N__law_is_pay : List Str := ["value", "one"]
abbrev N__law_is_promise : List Str := ["moments", "value", "last", "at", "pair", "one"]
abbrev N__law_is_house : List Str := ["value", "promise"]
abbrev N__law_put : List Str := ["some", "at", "value"]
abbrev N__law_near : List Str := ["pot", "house", "rows", "found", "word", "moments", "promises", "at", "many", "father", "bid", "ask", "number", "promise", "pairs", "row", "call", "back", "pair", "late"]
abbrev N__law_values_right : List Str := ["pot", "house", "values", "value", "odd", "other", "due", "shown", "is_one", "some", "promise", "turn"]
abbrev N__law_trees_right : List Str := ["pot", "house", "moments", "ways", "at", "rows", "last", "due", "number", "promise", "plain", "at_ends", "one", "call", "back"]
abbrev N__law_plans_right : List Str := ["pot", "house", "moments", "odd", "turn", "plan", "at", "value", "due", "late"]
abbrev N__law_right : List Str := ["pot", "kinds", "house", "shown"]
abbrev N_law : List Str := ["script", "k"]

def w_is_integer : DS :=
  (wRet (vAn (eIsi "int" (bVar 0)) (vNt (eIsi "bool" (bVar 0)))))
def w_is_within : DS :=
  (wRet (vAn (eCall F_is_integer (aC (eVar 0) aN)) (eCh fLe fLe (bVar 1) (bVar 0) (bVar 2))))
def w_is_row : DS :=
  (wRet (vAn (eIsi "tuple" (bVar 0)) (e2 fEq (e1 fLen (bVar 0)) (bVar 1))))
def w_is_prices : DS :=
  (wSeq (wIf (tO (tNt (tV (eCall F_is_row (aC (eVar 0) (aC (eC (.int 2)) aN))))) (tO (tNt (tV (eCall F_is_within (aC (e2 fIx (bVar 0) (eC (.int 0))) (aC (eC (.int 1)) (aC (eC (.int 999)) aN)))))) (tNt (tV (eCall F_is_within (aC (e2 fIx (bVar 0) (eC (.int 1))) (aC (eC (.int 1)) (aC (eC (.int 999)) aN)))))))) (wRet (eC (.bool false))) wNx)
    (wRet (e2 fLe (e2 fIx (bVar 0) (eC (.int 0))) (e2 fIx (bVar 0) (eC (.int 1))))))
def w_is_moments : DS :=
  (wSeq (wIf (tO (tNt (tV (eIsi "tuple" (bVar 0)))) (tNt (tV (eCh fLe fLe (eC (.int 1)) (e1 fLen (bVar 0)) (eC (.int 31)))))) (wRet (eC (.bool false))) wNx)
    (wSeq (wFor (dEnT (eVar 0)) (gTu 2 (gCn (gN 1) (gCn (gN 2) gNl))) (wIf (tO (tNt (tV (eCall F_is_row (aC (eVar 2) (aC (eC (.int 3)) aN))))) (tO (tNt (tV (eCall F_is_within (aC (e2 fIx (bVar 2) (eC (.int 0))) (aC (eC (.int 0)) (aC (e2 fMax2 (eC (.int 0)) (e2 fSub (bVar 1) (eC (.int 1)))) aN)))))) (tNt (tV (eCall F_is_prices (aC (eSl (bVar 2) (oS (eC (.int 1))) oN) aN)))))) (wRet (eC (.bool false))) wNx))
    (wRet (eC (.bool true)))))
def w_is_pay : DS :=
  (wRet (vAn (eCall F_is_row (aC (eVar 0) (aC (eC (.int 2)) aN))) (e1 fAll (eF (dLc (dT (eVar 0)) (gN 1) tYesD (eCall F_is_within (aC (eVar 1) (aC (e1 fNeg (eC (.int 999))) (aC (eC (.int 999)) aN)))) [1])))))
def w_is_promise_for : DS :=
  (wSeq (wIf (tNt (tV (eCall F_is_row (aC (eVar 1) (aC (e1 fLen (bVar 0)) aN))))) (wRet (eC (.bool false))) wNx)
    (wSeq (wAsg (eCall F_ends_in (aC (eVar 0) aN)) (gN 2))
    (wSeq (wFor (dEnT (eVar 1)) (gTu 2 (gCn (gN 3) (gCn (gN 4) gNl))) (wSeq (wIf (tO (tNt (tV (eCall F_is_row (aC (eVar 4) (aC (eC (.int 2)) aN))))) (tNt (tV (e1 fAll (eF (dLc (dT (eVar 4)) (gN 5) tYesD (vO (e2 fIsN (bVar 5) (eC .none)) (eCall F_is_pay (aC (eVar 5) aN))) [5])))))) (wRet (eC (.bool false))) wNx)
    (wIf (tAn (tV (e2 (fIn false) (bVar 3) (bVar 2))) (tO (tV (e2 fIsN (e2 fIx (bVar 4) (eC (.int 0))) (eC .none))) (tV (e2 fNotN (e2 fIx (bVar 4) (eC (.int 1))) (eC .none))))) (wRet (eC (.bool false))) wNx)))
    (wRet (eC (.bool true))))))
def w_is_house : DS :=
  (wSeq (wIf (tO (tNt (tV (eCall F_is_row (aC (eVar 0) (aC (eC (.int 3)) aN))))) (tO (tNt (tV (eIsi "str" (e2 fIx (bVar 0) (eC (.int 0)))))) (tO (tV (e2 fNe (e2 fIx (bVar 0) (eC (.int 0))) (eC (.str "house")))) (tNt (tV (eCall F_is_moments (aC (e2 fIx (bVar 0) (eC (.int 1))) aN))))))) (wRet (eC (.bool false))) wNx)
    (wSeq (wIf (tO (tNt (tV (eIsi "tuple" (e2 fIx (bVar 0) (eC (.int 2)))))) (tV (e2 fGt (e1 fLen (e2 fIx (bVar 0) (eC (.int 2)))) (eC (.int 4))))) (wRet (eC (.bool false))) wNx)
    (wRet (e1 fAll (eF (dLc (dT (e2 fIx (bVar 0) (eC (.int 2)))) (gN 1) tYesD (eCall F_is_promise_for (aC (e2 fIx (bVar 0) (eC (.int 1))) (aC (eVar 1) aN))) [1]))))))
def w_ends_in : DS :=
  (wRet (eF (dLc (dEn (eCall F_sons_in (aC (eVar 0) aN))) (gTu 2 (gCn (gN 1) (gCn (gN 2) gNl))) (tV (e2 fEq (bVar 2) (eLi aN))) (eVar 1) [1, 2])))
def w_is_plain_promise : DS :=
  (wRet (e1 fAll (eF (dLc (dT (eVar 0)) (gTu 2 (gCn (gN 1) (gCn (gN 2) gNl))) tYesD (e2 fIsN (bVar 2) (eC .none)) [1, 2]))))
def w_is_end_promise : DS :=
  (wSeq (wAsg (eCall F_ends_in (aC (eVar 0) aN)) (gN 2))
    (wRet (vAn (eCall F_is_plain_promise (aC (eVar 1) aN)) (e1 fAll (eF (dLc (dEnT (eVar 1)) (gTu 2 (gCn (gN 3) (gCn (gTu 2 (gCn (gN 4) (gCn (gN 5) gNl))) gNl))) tYesD (vO (e2 fIsN (bVar 4) (eC .none)) (e2 (fIn false) (bVar 3) (bVar 2))) [3, 4, 5]))))))
def w_want_house : DS :=
  (wSeq (wIf (tNt (tV (eCall F_is_house (aC (eVar 0) aN)))) wNever wNx)
    (wRet (eVar 0)))
def w_want_moment : DS :=
  (wIf (tNt (tV (eCall F_is_within (aC (eVar 1) (aC (eC (.int 0)) (aC (e2 fSub (e1 fLen (e2 fIx (bVar 0) (eC (.int 1)))) (eC (.int 1))) aN)))))) wNever wNx)
def w_want_promise : DS :=
  (wSeq (wIf (tNt (tV (eCall F_is_within (aC (eVar 1) (aC (eC (.int 0)) (aC (e2 fSub (e1 fLen (e2 fIx (bVar 0) (eC (.int 2)))) (eC (.int 1))) aN)))))) wNever wNx)
    (wRet (e2 fIx (e2 fIx (bVar 0) (eC (.int 2))) (bVar 1))))
def w_is_promise : DS :=
  (wRet (eCall F_is_promise_for (aC (e2 fIx (eCall F_want_house (aC (eVar 0) aN)) (eC (.int 1))) (aC (eVar 1) aN))))
def w_bare_house : DS :=
  (wSeq (wIf (tNt (tV (eCall F_is_moments (aC (eVar 0) aN)))) wNever wNx)
    (wRet (eTu (aC (eC (.str "house")) (aC (eVar 0) (aC (eTu aN) aN))))))
def w_sons : DS :=
  (wSeq (wDrop (eCall F_want_moment (aC (eCall F_want_house (aC (eVar 0) aN)) (aC (eVar 1) aN))))
    (wRet (e2 fIx (eCall F_sons_in (aC (e2 fIx (bVar 0) (eC (.int 1))) aN)) (bVar 1))))
def w_ahead : DS :=
  (wSeq (wDrop (eCall F_want_moment (aC (eCall F_want_house (aC (eVar 0) aN)) (aC (eVar 1) aN))))
    (wRet (eCall F_ahead_in (aC (e2 fIx (bVar 0) (eC (.int 1))) (aC (eVar 1) aN)))))
def w_below : DS :=
  (wSeq (wDrop (eCall F_want_moment (aC (eCall F_want_house (aC (eVar 0) aN)) (aC (eVar 1) aN))))
    (wRet (eCall F_below_in (aC (e2 fIx (bVar 0) (eC (.int 1))) (aC (eVar 1) aN)))))
def w_ends : DS :=
  (wRet (eCall F_ends_in (aC (e2 fIx (eCall F_want_house (aC (eVar 0) aN)) (eC (.int 1))) aN)))
def w_courses : DS :=
  (wRet (e1 fSrt (eF (dLc (dL (eCall F_ends_in (aC (e2 fIx (eCall F_want_house (aC (eVar 0) aN)) (eC (.int 1))) aN))) (gN 1) tYesD (eCall F_ahead_in (aC (e2 fIx (bVar 0) (eC (.int 1))) (aC (eVar 1) aN))) [1]))))
def w_depth : DS :=
  (wRet (e2 fSub (e1 fLen (eCall F_ahead (aC (eVar 0) (aC (eVar 1) aN)))) (eC (.int 1))))
def w_is_plain : DS :=
  (wRet (eCall F_is_plain_promise (aC (eCall F_want_promise (aC (eCall F_want_house (aC (eVar 0) aN)) (aC (eVar 1) aN))) aN)))
def w_is_at_ends : DS :=
  (wSeq (wAsg (eCall F_want_promise (aC (eCall F_want_house (aC (eVar 0) aN)) (aC (eVar 1) aN))) (gN 2))
    (wRet (eCall F_is_end_promise (aC (e2 fIx (bVar 0) (eC (.int 1))) (aC (eVar 2) aN)))))
def w__law_is_whole : DS :=
  (wRet (vAn (eIsi "int" (bVar 0)) (vNt (eIsi "bool" (bVar 0)))))
def w__law_ends : DS :=
  (wRet (eF (dLc (dEn (eCall F__law_sons (aC (eVar 0) aN))) (gTu 2 (gCn (gN 1) (gCn (gN 2) gNl))) (tV (e2 fEq (bVar 2) (eLi aN))) (eVar 1) [1, 2])))
def w__law_is_within : DS :=
  (wRet (vAn (eCall F__law_is_whole (aC (eVar 0) aN)) (eCh fLe fLe (bVar 1) (bVar 0) (bVar 2))))
def w__law_are_moments : DS :=
  (wSeq (wIf (tO (tNt (tV (eIsi "tuple" (bVar 0)))) (tNt (tV (eCh fLe fLe (eC (.int 1)) (e1 fLen (bVar 0)) (eC (.int 31)))))) (wRet (eC (.bool false))) wNx)
    (wSeq (wFor (dEnT (eVar 0)) (gTu 2 (gCn (gN 1) (gCn (gN 2) gNl))) (wIf (tO (tNt (tV (eIsi "tuple" (bVar 2)))) (tO (tV (e2 fNe (e1 fLen (bVar 2)) (eC (.int 3)))) (tO (tNt (tV (eCall F__law_is_within (aC (e2 fIx (bVar 2) (eC (.int 0))) (aC (eC (.int 0)) (aC (e2 fMax2 (eC (.int 0)) (e2 fSub (bVar 1) (eC (.int 1)))) aN)))))) (tO (tNt (tV (eCall F__law_is_within (aC (e2 fIx (bVar 2) (eC (.int 1))) (aC (eC (.int 1)) (aC (eC (.int 999)) aN)))))) (tO (tNt (tV (eCall F__law_is_within (aC (e2 fIx (bVar 2) (eC (.int 2))) (aC (eC (.int 1)) (aC (eC (.int 999)) aN)))))) (tV (e2 fGt (e2 fIx (bVar 2) (eC (.int 1))) (e2 fIx (bVar 2) (eC (.int 2)))))))))) (wRet (eC (.bool false))) wNx))
    (wRet (eC (.bool true)))))
def w__law_is_pay : DS :=
  (wRet (vAn (eIsi "tuple" (bVar 0)) (vAn (e2 fEq (e1 fLen (bVar 0)) (eC (.int 2))) (e1 fAll (eF (dLc (dT (eVar 0)) (gN 1) tYesD (eCall F__law_is_within (aC (eVar 1) (aC (e1 fNeg (eC (.int 999))) (aC (eC (.int 999)) aN)))) [1]))))))
def w__law_is_promise : DS :=
  (wSeq (wIf (tO (tNt (tV (eIsi "tuple" (bVar 1)))) (tV (e2 fNe (e1 fLen (bVar 1)) (e1 fLen (bVar 0))))) (wRet (eC (.bool false))) wNx)
    (wSeq (wAsg (eCall F__law_ends (aC (eVar 0) aN)) (gN 2))
    (wSeq (wFor (dEnT (eVar 1)) (gTu 2 (gCn (gN 3) (gCn (gN 4) gNl))) (wSeq (wIf (tO (tNt (tV (eIsi "tuple" (bVar 4)))) (tO (tV (e2 fNe (e1 fLen (bVar 4)) (eC (.int 2)))) (tNt (tV (e1 fAll (eF (dLc (dT (eVar 4)) (gN 5) tYesD (vO (e2 fIsN (bVar 5) (eC .none)) (eCall F__law_is_pay (aC (eVar 5) aN))) [5]))))))) (wRet (eC (.bool false))) wNx)
    (wIf (tAn (tV (e2 (fIn false) (bVar 3) (bVar 2))) (tO (tV (e2 fIsN (e2 fIx (bVar 4) (eC (.int 0))) (eC .none))) (tV (e2 fNotN (e2 fIx (bVar 4) (eC (.int 1))) (eC .none))))) (wRet (eC (.bool false))) wNx)))
    (wRet (eC (.bool true))))))
def w__law_is_house : DS :=
  (wSeq (wIf (tO (tNt (tV (eIsi "tuple" (bVar 0)))) (tO (tV (e2 fNe (e1 fLen (bVar 0)) (eC (.int 3)))) (tO (tNt (tV (eIsi "str" (e2 fIx (bVar 0) (eC (.int 0)))))) (tO (tV (e2 fNe (e2 fIx (bVar 0) (eC (.int 0))) (eC (.str "house")))) (tNt (tV (eCall F__law_are_moments (aC (e2 fIx (bVar 0) (eC (.int 1))) aN)))))))) (wRet (eC (.bool false))) wNx)
    (wRet (vAn (eIsi "tuple" (e2 fIx (bVar 0) (eC (.int 2)))) (vAn (e2 fLe (e1 fLen (e2 fIx (bVar 0) (eC (.int 2)))) (eC (.int 4))) (e1 fAll (eF (dLc (dT (e2 fIx (bVar 0) (eC (.int 2)))) (gN 1) tYesD (eCall F__law_is_promise (aC (e2 fIx (bVar 0) (eC (.int 1))) (aC (eVar 1) aN))) [1])))))))

theorem one_of {α : Type} {l : List α} (h : l.length = 1) : ∃ a, l = [a] := List.length_eq_one_iff.mp h
theorem p1 {pre : PyData → Prop} {f : PyData → PyData} {ds : List PyData} (h : (Fs1 pre f).pre ds) : ∃ v, ds = [v] ∧ pre v := by
  unfold Fs1 at h
  dsimp only at h
  split at h
  · exact ⟨_, rfl, h⟩
  · exact h.elim
theorem p2 {pre : PyData → PyData → Prop} {f : PyData → PyData → PyData} {ds : List PyData} (h : (Fs2 pre f).pre ds) : ∃ v u, ds = [v, u] ∧ pre v u := by
  unfold Fs2 at h
  dsimp only at h
  split at h
  · exact ⟨_, _, rfl, h⟩
  · exact h.elim
theorem tri_of {ds : List PyData} (h : F_is_within.pre ds) : ∃ v a b, ds = [v, .int a, .int b] := by
  unfold F_is_within at h
  dsimp only at h
  split at h
  · exact ⟨_, _, _, rfl⟩
  · exact h.elim
theorem l_is_integer (ds : List PyData) (hp : F_is_integer.pre ds) : w_is_integer { nx := fun _ => F_is_integer.post ds .none, rt := F_is_integer.post ds } (env0 N_is_integer ds) := by
  obtain ⟨v, rfl, -⟩ := p1 hp
  cases v <;> simp [w_is_integer, F_is_integer, Fs1, isIntB, wSeq, wIf, wRet, wRetO, wNx, wFor, wAsg, wPar, wOwn, wApp, wExt, wDrop, wSet, wFrz, wWhile, wLcO, wLcD, eVar, bVar, eC, e1, e2, eCall, eCallP, eCallK, aN, aC, eIsi, eIsi2, tV, tNt, tAn, tO, vAn, vO, vNt, eIf, eTu, eLi, fI, fSub, fDivW, fMod, fInt, fAbs, fRep, fAdd, fCI, fMax2, fMin2, fNeg, fLen, fIsN, fNotN, fIx, eSl, fSl, oS, oN, eCh, eF, gN, gNl, gCn, gTu, dEnT, dT, dL, dEn, dLc, dR1, dR2, mD, mO, mN, mLst, mList, mCat, mRep, setE, tYesD, wipeE, env0, envP, isB, L2.atI, L2.ixN]
theorem l__law_is_whole (ds : List PyData) (hp : F__law_is_whole.pre ds) : w__law_is_whole { nx := fun _ => F__law_is_whole.post ds .none, rt := F__law_is_whole.post ds } (env0 N__law_is_whole ds) := l_is_integer ds hp
theorem l_is_within (ds : List PyData) (hp : F_is_within.pre ds) : w_is_within { nx := fun _ => F_is_within.post ds .none, rt := F_is_within.post ds } (env0 N_is_within ds) := by
  obtain ⟨v, a, b, rfl⟩ := tri_of hp
  cases v <;> simp [w_is_within, F_is_within, F_is_integer, Fs1, isIntB, withinB, wSeq, wIf, wRet, wRetO, wNx, wFor, wAsg, wPar, wOwn, wApp, wExt, wDrop, wSet, wFrz, wWhile, wLcO, wLcD, eVar, bVar, eC, e1, e2, eCall, eCallP, eCallK, aN, aC, eIsi, eIsi2, tV, tNt, tAn, tO, vAn, vO, vNt, eIf, eTu, eLi, fI, fSub, fDivW, fMod, fInt, fAbs, fRep, fAdd, fCI, fMax2, fMin2, fNeg, fLen, fIsN, fNotN, fIx, eSl, fSl, oS, oN, eCh, eF, gN, gNl, gCn, gTu, dEnT, dT, dL, dEn, dLc, dR1, dR2, mD, mO, mN, mLst, mList, mCat, mRep, setE, tYesD, wipeE, env0, envP, isB, L2.atI, L2.ixN]
  (repeat' split) <;> first | omega | (simp_all; done) | (simp_all; omega)
theorem l__law_is_within (ds : List PyData) (hp : F__law_is_within.pre ds) : w__law_is_within { nx := fun _ => F__law_is_within.post ds .none, rt := F__law_is_within.post ds } (env0 N__law_is_within ds) := l_is_within ds hp
theorem l_is_row (ds : List PyData) (hp : F_is_row.pre ds) : w_is_row { nx := fun _ => F_is_row.post ds .none, rt := F_is_row.post ds } (env0 N_is_row ds) := by
  obtain ⟨v, a, rfl, i, rfl⟩ := p2 hp
  cases v <;> simp [w_is_row, F_is_row, Fs2, rowB, intOf, fEq, sh_int, eqv_int, wSeq, wIf, wRet, wRetO, wNx, wFor, wAsg, wPar, wOwn, wApp, wExt, wDrop, wSet, wFrz, wWhile, wLcO, wLcD, eVar, bVar, eC, e1, e2, eCall, eCallP, eCallK, aN, aC, eIsi, eIsi2, tV, tNt, tAn, tO, vAn, vO, vNt, eIf, eTu, eLi, fI, fSub, fDivW, fMod, fInt, fAbs, fRep, fAdd, fCI, fMax2, fMin2, fNeg, fLen, fIsN, fNotN, fIx, eSl, fSl, oS, oN, eCh, eF, gN, gNl, gCn, gTu, dEnT, dT, dL, dEn, dLc, dR1, dR2, mD, mO, mN, mLst, mList, mCat, mRep, setE, tYesD, wipeE, env0, envP, isB, L2.atI, L2.ixN]
  exact decide_eq_decide.mpr Iff.rfl
theorem row_of {v : PyData} {m : Nat} (h : rowB v (m : Int) = true) : ∃ ds, v = .tuple ds ∧ ds.length = m := by
  unfold rowB at h
  split at h
  · exact ⟨_, rfl, by have := of_decide_eq_true h; omega⟩
  · cases h
theorem row_no {v : PyData} {m : Int} (h : ¬ rowB v m = true) : rowB v m = false := by simpa using h
theorem prices_no {v : PyData} (h : rowB v 2 = false) : pricesB v = false := by
  unfold pricesB
  split
  · simp [rowB] at h
  · rfl
theorem pay_no {v : PyData} (h : rowB v 2 = false) : payB v = false := by
  unfold payB
  split
  · simp [rowB] at h
  · rfl
theorem l_is_prices (ds : List PyData) (hp : F_is_prices.pre ds) : w_is_prices { nx := fun _ => F_is_prices.post ds .none, rt := F_is_prices.post ds } (env0 N_is_prices ds) := by
  obtain ⟨v, rfl, -⟩ := p1 hp
  by_cases h : rowB v (2 : Nat) = true
  · obtain ⟨xs, rfl, hx⟩ := row_of h
    obtain ⟨a, b, rfl⟩ := two_of hx
    cases a <;> cases b <;> simp [w_is_prices, F_is_prices, F_is_row, F_is_within, Fs1, Fs2, intOf, rowB, withinB, pricesB, leB, wSeq, wIf, wRet, wRetO, wNx, wFor, wAsg, wPar, wOwn, wApp, wExt, wDrop, wSet, wFrz, wWhile, wLcO, wLcD, eVar, bVar, eC, e1, e2, eCall, eCallP, eCallK, aN, aC, eIsi, eIsi2, tV, tNt, tAn, tO, vAn, vO, vNt, eIf, eTu, eLi, fI, fSub, fDivW, fMod, fInt, fAbs, fRep, fAdd, fCI, fMax2, fMin2, fNeg, fLen, fIsN, fNotN, fIx, eSl, fSl, oS, oN, eCh, eF, gN, gNl, gCn, gTu, dEnT, dT, dL, dEn, dLc, dR1, dR2, mD, mO, mN, mLst, mList, mCat, mRep, setE, tYesD, wipeE, env0, envP, isB, L2.atI, L2.ixN]
    (repeat' split) <;> omega
  · have h' : rowB v 2 = false := by simpa using row_no h
    simp [w_is_prices, F_is_prices, F_is_row, F_is_within, Fs1, Fs2, intOf, h', prices_no h', wSeq, wIf, wRet, wRetO, wNx, wFor, wAsg, wPar, wOwn, wApp, wExt, wDrop, wSet, wFrz, wWhile, wLcO, wLcD, eVar, bVar, eC, e1, e2, eCall, eCallP, eCallK, aN, aC, eIsi, eIsi2, tV, tNt, tAn, tO, vAn, vO, vNt, eIf, eTu, eLi, fI, fSub, fDivW, fMod, fInt, fAbs, fRep, fAdd, fCI, fMax2, fMin2, fNeg, fLen, fIsN, fNotN, fIx, eSl, fSl, oS, oN, eCh, eF, gN, gNl, gCn, gTu, dEnT, dT, dL, dEn, dLc, dR1, dR2, mD, mO, mN, mLst, mList, mCat, mRep, setE, tYesD, wipeE, env0, envP, isB, L2.atI, L2.ixN]
theorem mom_no {n : Nat} {d : PyData} (h : rowB d 3 = false) : momB n d = false := by
  unfold momB
  split
  · simp [rowB] at h
  · rfl
theorem l_is_moments (ds : List PyData) (hp : F_is_moments.pre ds) : w_is_moments { nx := fun _ => F_is_moments.post ds .none, rt := F_is_moments.post ds } (env0 N_is_moments ds) := by
  obtain ⟨v, rfl, -⟩ := p1 hp
  cases v with
  | tuple ms =>
    by_cases l1 : 1 ≤ ms.length
    · by_cases l2 : ms.length ≤ 31
      · have n1 : (1 : Int) ≤ (ms.length : Int) := by omega
        have n2 : (ms.length : Int) ≤ 31 := by omega
        simp only [w_is_moments, wSeq]
        simp [wIf, wSeq, wIf, wRet, wRetO, wNx, wFor, wAsg, wPar, wOwn, wApp, wExt, wDrop, wSet, wFrz, wWhile, wLcO, wLcD, eVar, bVar, eC, e1, e2, eCall, eCallP, eCallK, aN, aC, eIsi, eIsi2, tV, tNt, tAn, tO, vAn, vO, vNt, eIf, eTu, eLi, fI, fSub, fDivW, fMod, fInt, fAbs, fRep, fAdd, fCI, fMax2, fMin2, fNeg, fLen, fIsN, fNotN, fIx, eSl, fSl, oS, oN, eCh, eF, gN, gNl, gCn, gTu, dEnT, dT, dL, dEn, dLc, dR1, dR2, mD, mO, mN, mLst, mList, mCat, mRep, setE, tYesD, wipeE, env0, envP, isB, L2.atI, L2.ixN, n1, n2]
        rw [enD_F]
        refine loop_ret (good := momB) (I := fun e => ∃ x y, e = [.dat (.tuple ms), x, y]) (fun n d env L hI hL => ?_) ms 0 _ ⟨_, _, rfl⟩ ?_
        · obtain ⟨x, y, rfl⟩ := hI
          by_cases hr : rowB d (3 : Nat) = true
          · obtain ⟨xs, rfl, hx⟩ := row_of hr
            obtain ⟨f, a, b, rfl⟩ := three_of hx
            unfold momB at hL
            cases h1 : withinB f 0 (if (1 : Int) < (n : Int) then (n : Int) - 1 else 0) <;> cases h2 : pricesB (.tuple [a, b]) <;> simp only [h1, h2, Bool.and_true, Bool.true_and, Bool.and_false, Bool.false_and, Bool.false_eq_true, if_true, if_false] at hL <;>
              simp [F_is_row, F_is_within, F_is_prices, Fs1, Fs2, intOf, rowB, cutG, HT.sIx, max_if, h1, h2, hL, wSeq, wIf, wRet, wRetO, wNx, wFor, wAsg, wPar, wOwn, wApp, wExt, wDrop, wSet, wFrz, wWhile, wLcO, wLcD, eVar, bVar, eC, e1, e2, eCall, eCallP, eCallK, aN, aC, eIsi, eIsi2, tV, tNt, tAn, tO, vAn, vO, vNt, eIf, eTu, eLi, fI, fSub, fDivW, fMod, fInt, fAbs, fRep, fAdd, fCI, fMax2, fMin2, fNeg, fLen, fIsN, fNotN, fIx, eSl, fSl, oS, oN, eCh, eF, gN, gNl, gCn, gTu, dEnT, dT, dL, dEn, dLc, dR1, dR2, mD, mO, mN, mLst, mList, mCat, mRep, setE, tYesD, wipeE, env0, envP, isB, L2.atI, L2.ixN]
          · have hr : rowB d 3 = false := by simpa using row_no hr
            rw [mom_no hr] at hL
            simp at hL
            simp [F_is_row, F_is_within, F_is_prices, Fs1, Fs2, intOf, hr, hL, wSeq, wIf, wRet, wRetO, wNx, wFor, wAsg, wPar, wOwn, wApp, wExt, wDrop, wSet, wFrz, wWhile, wLcO, wLcD, eVar, bVar, eC, e1, e2, eCall, eCallP, eCallK, aN, aC, eIsi, eIsi2, tV, tNt, tAn, tO, vAn, vO, vNt, eIf, eTu, eLi, fI, fSub, fDivW, fMod, fInt, fAbs, fRep, fAdd, fCI, fMax2, fMin2, fNeg, fLen, fIsN, fNotN, fIx, eSl, fSl, oS, oN, eCh, eF, gN, gNl, gCn, gTu, dEnT, dT, dL, dEn, dLc, dR1, dR2, mD, mO, mN, mLst, mList, mCat, mRep, setE, tYesD, wipeE, env0, envP, isB, L2.atI, L2.ixN]
        · cases hg : goods momB 0 ms <;> simp [F_is_moments, Fs1, momentsB, l1, l2, hg, wRet, eC]
      · have n1 : (1 : Int) ≤ (ms.length : Int) := by omega
        have n2 : ¬ (ms.length : Int) ≤ 31 := by omega
        simp [w_is_moments, F_is_moments, Fs1, momentsB, wSeq, wIf, wRet, wRetO, wNx, wFor, wAsg, wPar, wOwn, wApp, wExt, wDrop, wSet, wFrz, wWhile, wLcO, wLcD, eVar, bVar, eC, e1, e2, eCall, eCallP, eCallK, aN, aC, eIsi, eIsi2, tV, tNt, tAn, tO, vAn, vO, vNt, eIf, eTu, eLi, fI, fSub, fDivW, fMod, fInt, fAbs, fRep, fAdd, fCI, fMax2, fMin2, fNeg, fLen, fIsN, fNotN, fIx, eSl, fSl, oS, oN, eCh, eF, gN, gNl, gCn, gTu, dEnT, dT, dL, dEn, dLc, dR1, dR2, mD, mO, mN, mLst, mList, mCat, mRep, setE, tYesD, wipeE, env0, envP, isB, L2.atI, L2.ixN, n1, n2, l2]
    · have n1 : ¬ (1 : Int) ≤ (ms.length : Int) := by omega
      simp [w_is_moments, F_is_moments, Fs1, momentsB, wSeq, wIf, wRet, wRetO, wNx, wFor, wAsg, wPar, wOwn, wApp, wExt, wDrop, wSet, wFrz, wWhile, wLcO, wLcD, eVar, bVar, eC, e1, e2, eCall, eCallP, eCallK, aN, aC, eIsi, eIsi2, tV, tNt, tAn, tO, vAn, vO, vNt, eIf, eTu, eLi, fI, fSub, fDivW, fMod, fInt, fAbs, fRep, fAdd, fCI, fMax2, fMin2, fNeg, fLen, fIsN, fNotN, fIx, eSl, fSl, oS, oN, eCh, eF, gN, gNl, gCn, gTu, dEnT, dT, dL, dEn, dLc, dR1, dR2, mD, mO, mN, mLst, mList, mCat, mRep, setE, tYesD, wipeE, env0, envP, isB, L2.atI, L2.ixN, n1, l1]
  | _ => simp [w_is_moments, F_is_moments, Fs1, momentsB, wSeq, wIf, wRet, wRetO, wNx, wFor, wAsg, wPar, wOwn, wApp, wExt, wDrop, wSet, wFrz, wWhile, wLcO, wLcD, eVar, bVar, eC, e1, e2, eCall, eCallP, eCallK, aN, aC, eIsi, eIsi2, tV, tNt, tAn, tO, vAn, vO, vNt, eIf, eTu, eLi, fI, fSub, fDivW, fMod, fInt, fAbs, fRep, fAdd, fCI, fMax2, fMin2, fNeg, fLen, fIsN, fNotN, fIx, eSl, fSl, oS, oN, eCh, eF, gN, gNl, gCn, gTu, dEnT, dT, dL, dEn, dLc, dR1, dR2, mD, mO, mN, mLst, mList, mCat, mRep, setE, tYesD, wipeE, env0, envP, isB, L2.atI, L2.ixN]
theorem within_int {v : PyData} {a b : Int} (h : withinB v a b = true) : ∃ i, v = .int i := by
  unfold withinB at h
  split at h
  · exact ⟨_, rfl⟩
  · cases h
theorem l__law_are_moments (ds : List PyData) (hp : F__law_are_moments.pre ds) : w__law_are_moments { nx := fun _ => F__law_are_moments.post ds .none, rt := F__law_are_moments.post ds } (env0 N__law_are_moments ds) := by
  obtain ⟨v, rfl, -⟩ := p1 hp
  cases v with
  | tuple ms =>
    by_cases l1 : 1 ≤ ms.length
    · by_cases l2 : ms.length ≤ 31
      · have n1 : (1 : Int) ≤ (ms.length : Int) := by omega
        have n2 : (ms.length : Int) ≤ 31 := by omega
        simp only [w__law_are_moments, wSeq]
        simp [wIf, wSeq, wIf, wRet, wRetO, wNx, wFor, wAsg, wPar, wOwn, wApp, wExt, wDrop, wSet, wFrz, wWhile, wLcO, wLcD, eVar, bVar, eC, e1, e2, eCall, eCallP, eCallK, aN, aC, eIsi, eIsi2, tV, tNt, tAn, tO, vAn, vO, vNt, eIf, eTu, eLi, fI, fSub, fDivW, fMod, fInt, fAbs, fRep, fAdd, fCI, fMax2, fMin2, fNeg, fLen, fIsN, fNotN, fIx, eSl, fSl, oS, oN, eCh, eF, gN, gNl, gCn, gTu, dEnT, dT, dL, dEn, dLc, dR1, dR2, mD, mO, mN, mLst, mList, mCat, mRep, setE, tYesD, wipeE, env0, envP, isB, L2.atI, L2.ixN, n1, n2]
        rw [enD_F]
        refine loop_ret (good := momB) (I := fun e => ∃ x y, e = [.dat (.tuple ms), x, y]) (fun n d env L hI hL => ?_) ms 0 _ ⟨_, _, rfl⟩ ?_
        · obtain ⟨x, y, rfl⟩ := hI
          cases d with
          | tuple xs =>
            by_cases hx : xs.length = 3
            · obtain ⟨f, a, b, rfl⟩ := three_of hx
              unfold momB pricesB at hL
              cases h1 : withinB f 0 (if (1 : Int) < (n : Int) then (n : Int) - 1 else 0) <;> cases h2 : withinB a 1 999 <;> cases h3 : withinB b 1 999 <;> (try simp only [h1, h2, h3, Bool.and_true, Bool.true_and, Bool.and_false, Bool.false_and, Bool.false_eq_true, if_true, if_false] at hL) <;>
                simp [F__law_is_within, F_is_within, intOf, fEq, fNe, sh_int, eqv_int, max_if, h1, h2, h3, hL, wSeq, wIf, wRet, wRetO, wNx, wFor, wAsg, wPar, wOwn, wApp, wExt, wDrop, wSet, wFrz, wWhile, wLcO, wLcD, eVar, bVar, eC, e1, e2, eCall, eCallP, eCallK, aN, aC, eIsi, eIsi2, tV, tNt, tAn, tO, vAn, vO, vNt, eIf, eTu, eLi, fI, fSub, fDivW, fMod, fInt, fAbs, fRep, fAdd, fCI, fMax2, fMin2, fNeg, fLen, fIsN, fNotN, fIx, eSl, fSl, oS, oN, eCh, eF, gN, gNl, gCn, gTu, dEnT, dT, dL, dEn, dLc, dR1, dR2, mD, mO, mN, mLst, mList, mCat, mRep, setE, tYesD, wipeE, env0, envP, isB, L2.atI, L2.ixN]
              obtain ⟨i, rfl⟩ := within_int h2
              obtain ⟨j, rfl⟩ := within_int h3
              by_cases hij : i ≤ j
              · have nij : ¬ j < i := by omega
                simp [leB, hij] at hL
                simp [nij]
                exact hL _ _ _ rfl
              · have nij : j < i := by omega
                simp [leB, hij] at hL
                simp [nij]
                exact hL
            · have hx' : ¬ (xs.length : Int) = 3 := by omega
              have hr : rowB (.tuple xs) 3 = false := by simp [rowB, hx']
              rw [mom_no hr] at hL
              simp at hL
              simp [F__law_is_within, F_is_within, intOf, fEq, fNe, sh_int, eqv_int, hx', hL, wSeq, wIf, wRet, wRetO, wNx, wFor, wAsg, wPar, wOwn, wApp, wExt, wDrop, wSet, wFrz, wWhile, wLcO, wLcD, eVar, bVar, eC, e1, e2, eCall, eCallP, eCallK, aN, aC, eIsi, eIsi2, tV, tNt, tAn, tO, vAn, vO, vNt, eIf, eTu, eLi, fI, fSub, fDivW, fMod, fInt, fAbs, fRep, fAdd, fCI, fMax2, fMin2, fNeg, fLen, fIsN, fNotN, fIx, eSl, fSl, oS, oN, eCh, eF, gN, gNl, gCn, gTu, dEnT, dT, dL, dEn, dLc, dR1, dR2, mD, mO, mN, mLst, mList, mCat, mRep, setE, tYesD, wipeE, env0, envP, isB, L2.atI, L2.ixN]
          | _ =>
            simp [momB] at hL
            simp [F__law_is_within, F_is_within, intOf, hL, wSeq, wIf, wRet, wRetO, wNx, wFor, wAsg, wPar, wOwn, wApp, wExt, wDrop, wSet, wFrz, wWhile, wLcO, wLcD, eVar, bVar, eC, e1, e2, eCall, eCallP, eCallK, aN, aC, eIsi, eIsi2, tV, tNt, tAn, tO, vAn, vO, vNt, eIf, eTu, eLi, fI, fSub, fDivW, fMod, fInt, fAbs, fRep, fAdd, fCI, fMax2, fMin2, fNeg, fLen, fIsN, fNotN, fIx, eSl, fSl, oS, oN, eCh, eF, gN, gNl, gCn, gTu, dEnT, dT, dL, dEn, dLc, dR1, dR2, mD, mO, mN, mLst, mList, mCat, mRep, setE, tYesD, wipeE, env0, envP, isB, L2.atI, L2.ixN]
        · cases hg : goods momB 0 ms <;> simp [F__law_are_moments, F_is_moments, Fs1, momentsB, l1, l2, hg, wRet, eC]
      · have n1 : (1 : Int) ≤ (ms.length : Int) := by omega
        have n2 : ¬ (ms.length : Int) ≤ 31 := by omega
        simp [w__law_are_moments, F__law_are_moments, F_is_moments, Fs1, momentsB, wSeq, wIf, wRet, wRetO, wNx, wFor, wAsg, wPar, wOwn, wApp, wExt, wDrop, wSet, wFrz, wWhile, wLcO, wLcD, eVar, bVar, eC, e1, e2, eCall, eCallP, eCallK, aN, aC, eIsi, eIsi2, tV, tNt, tAn, tO, vAn, vO, vNt, eIf, eTu, eLi, fI, fSub, fDivW, fMod, fInt, fAbs, fRep, fAdd, fCI, fMax2, fMin2, fNeg, fLen, fIsN, fNotN, fIx, eSl, fSl, oS, oN, eCh, eF, gN, gNl, gCn, gTu, dEnT, dT, dL, dEn, dLc, dR1, dR2, mD, mO, mN, mLst, mList, mCat, mRep, setE, tYesD, wipeE, env0, envP, isB, L2.atI, L2.ixN, n1, n2, l2]
    · have n1 : ¬ (1 : Int) ≤ (ms.length : Int) := by omega
      simp [w__law_are_moments, F__law_are_moments, F_is_moments, Fs1, momentsB, wSeq, wIf, wRet, wRetO, wNx, wFor, wAsg, wPar, wOwn, wApp, wExt, wDrop, wSet, wFrz, wWhile, wLcO, wLcD, eVar, bVar, eC, e1, e2, eCall, eCallP, eCallK, aN, aC, eIsi, eIsi2, tV, tNt, tAn, tO, vAn, vO, vNt, eIf, eTu, eLi, fI, fSub, fDivW, fMod, fInt, fAbs, fRep, fAdd, fCI, fMax2, fMin2, fNeg, fLen, fIsN, fNotN, fIx, eSl, fSl, oS, oN, eCh, eF, gN, gNl, gCn, gTu, dEnT, dT, dL, dEn, dLc, dR1, dR2, mD, mO, mN, mLst, mList, mCat, mRep, setE, tYesD, wipeE, env0, envP, isB, L2.atI, L2.ixN, n1, l1]
  | _ => simp [w__law_are_moments, F__law_are_moments, F_is_moments, Fs1, momentsB, wSeq, wIf, wRet, wRetO, wNx, wFor, wAsg, wPar, wOwn, wApp, wExt, wDrop, wSet, wFrz, wWhile, wLcO, wLcD, eVar, bVar, eC, e1, e2, eCall, eCallP, eCallK, aN, aC, eIsi, eIsi2, tV, tNt, tAn, tO, vAn, vO, vNt, eIf, eTu, eLi, fI, fSub, fDivW, fMod, fInt, fAbs, fRep, fAdd, fCI, fMax2, fMin2, fNeg, fLen, fIsN, fNotN, fIx, eSl, fSl, oS, oN, eCh, eF, gN, gNl, gCn, gTu, dEnT, dT, dL, dEn, dLc, dR1, dR2, mD, mO, mN, mLst, mList, mCat, mRep, setE, tYesD, wipeE, env0, envP, isB, L2.atI, L2.ixN]
theorem l_is_pay (ds : List PyData) (hp : F_is_pay.pre ds) : w_is_pay { nx := fun _ => F_is_pay.post ds .none, rt := F_is_pay.post ds } (env0 N_is_pay ds) := by
  obtain ⟨v, rfl, -⟩ := p1 hp
  by_cases h : rowB v (2 : Nat) = true
  · obtain ⟨xs, rfl, hx⟩ := row_of h
    obtain ⟨a, b, rfl⟩ := two_of hx
    simp [w_is_pay, F_is_pay, F_is_row, F_is_within, Fs1, Fs2, intOf, rowB, payB, lcW_cons, lcW_nil, fAll, boolsD, wSeq, wIf, wRet, wRetO, wNx, wFor, wAsg, wPar, wOwn, wApp, wExt, wDrop, wSet, wFrz, wWhile, wLcO, wLcD, eVar, bVar, eC, e1, e2, eCall, eCallP, eCallK, aN, aC, eIsi, eIsi2, tV, tNt, tAn, tO, vAn, vO, vNt, eIf, eTu, eLi, fI, fSub, fDivW, fMod, fInt, fAbs, fRep, fAdd, fCI, fMax2, fMin2, fNeg, fLen, fIsN, fNotN, fIx, eSl, fSl, oS, oN, eCh, eF, gN, gNl, gCn, gTu, dEnT, dT, dL, dEn, dLc, dR1, dR2, mD, mO, mN, mLst, mList, mCat, mRep, setE, tYesD, wipeE, env0, envP, isB, L2.atI, L2.ixN]
  · have h' : rowB v 2 = false := by simpa using row_no h
    simp [w_is_pay, F_is_pay, F_is_row, F_is_within, Fs1, Fs2, intOf, h', pay_no h', wSeq, wIf, wRet, wRetO, wNx, wFor, wAsg, wPar, wOwn, wApp, wExt, wDrop, wSet, wFrz, wWhile, wLcO, wLcD, eVar, bVar, eC, e1, e2, eCall, eCallP, eCallK, aN, aC, eIsi, eIsi2, tV, tNt, tAn, tO, vAn, vO, vNt, eIf, eTu, eLi, fI, fSub, fDivW, fMod, fInt, fAbs, fRep, fAdd, fCI, fMax2, fMin2, fNeg, fLen, fIsN, fNotN, fIx, eSl, fSl, oS, oN, eCh, eF, gN, gNl, gCn, gTu, dEnT, dT, dL, dEn, dLc, dR1, dR2, mD, mO, mN, mLst, mList, mCat, mRep, setE, tYesD, wipeE, env0, envP, isB, L2.atI, L2.ixN]
theorem tuple_len2 {xs : List PyData} (h : xs.length = 2) : ∃ a b, xs = [a, b] := two_of h
theorem l__law_is_pay (ds : List PyData) (hp : F__law_is_pay.pre ds) : w__law_is_pay { nx := fun _ => F__law_is_pay.post ds .none, rt := F__law_is_pay.post ds } (env0 N__law_is_pay ds) := by
  obtain ⟨v, rfl, -⟩ := p1 hp
  cases v with
  | tuple xs =>
    by_cases hx : xs.length = 2
    · obtain ⟨a, b, rfl⟩ := two_of hx
      simp [w__law_is_pay, F__law_is_pay, F_is_pay, F__law_is_within, F_is_within, Fs1, intOf, payB, lcW_cons, lcW_nil, fAll, boolsD, fEq, sh_int, eqv_int, wSeq, wIf, wRet, wRetO, wNx, wFor, wAsg, wPar, wOwn, wApp, wExt, wDrop, wSet, wFrz, wWhile, wLcO, wLcD, eVar, bVar, eC, e1, e2, eCall, eCallP, eCallK, aN, aC, eIsi, eIsi2, tV, tNt, tAn, tO, vAn, vO, vNt, eIf, eTu, eLi, fI, fSub, fDivW, fMod, fInt, fAbs, fRep, fAdd, fCI, fMax2, fMin2, fNeg, fLen, fIsN, fNotN, fIx, eSl, fSl, oS, oN, eCh, eF, gN, gNl, gCn, gTu, dEnT, dT, dL, dEn, dLc, dR1, dR2, mD, mO, mN, mLst, mList, mCat, mRep, setE, tYesD, wipeE, env0, envP, isB, L2.atI, L2.ixN]
    · have hx' : ¬ (xs.length : Int) = 2 := by omega
      have hr : payB (.tuple xs) = false := pay_no (by simp [rowB, hx'])
      simp [w__law_is_pay, F__law_is_pay, F_is_pay, F__law_is_within, F_is_within, Fs1, intOf, hr, fEq, sh_int, eqv_int, hx', wSeq, wIf, wRet, wRetO, wNx, wFor, wAsg, wPar, wOwn, wApp, wExt, wDrop, wSet, wFrz, wWhile, wLcO, wLcD, eVar, bVar, eC, e1, e2, eCall, eCallP, eCallK, aN, aC, eIsi, eIsi2, tV, tNt, tAn, tO, vAn, vO, vNt, eIf, eTu, eLi, fI, fSub, fDivW, fMod, fInt, fAbs, fRep, fAdd, fCI, fMax2, fMin2, fNeg, fLen, fIsN, fNotN, fIx, eSl, fSl, oS, oN, eCh, eF, gN, gNl, gCn, gTu, dEnT, dT, dL, dEn, dLc, dR1, dR2, mD, mO, mN, mLst, mList, mCat, mRep, setE, tYesD, wipeE, env0, envP, isB, L2.atI, L2.ixN]
  | _ => simp [w__law_is_pay, F__law_is_pay, F_is_pay, Fs1, payB, wSeq, wIf, wRet, wRetO, wNx, wFor, wAsg, wPar, wOwn, wApp, wExt, wDrop, wSet, wFrz, wWhile, wLcO, wLcD, eVar, bVar, eC, e1, e2, eCall, eCallP, eCallK, aN, aC, eIsi, eIsi2, tV, tNt, tAn, tO, vAn, vO, vNt, eIf, eTu, eLi, fI, fSub, fDivW, fMod, fInt, fAbs, fRep, fAdd, fCI, fMax2, fMin2, fNeg, fLen, fIsN, fNotN, fIx, eSl, fSl, oS, oN, eCh, eF, gN, gNl, gCn, gTu, dEnT, dT, dL, dEn, dLc, dR1, dR2, mD, mO, mN, mLst, mList, mCat, mRep, setE, tYesD, wipeE, env0, envP, isB, L2.atI, L2.ixN]
theorem house_of {v : PyData} (h : houseB v = true) : ∃ s ms ps, v = .tuple [.str s, .tuple ms, .tuple ps] ∧ s = ("house" : Str) ∧ momentsB (.tuple ms) = true ∧ ps.length ≤ 4 ∧ ps.all (promB ms) = true := by
  unfold houseB at h
  split at h
  · rename_i s m ps
    simp only [Bool.and_eq_true] at h
    obtain ⟨⟨⟨h1, h2⟩, h3⟩, h4⟩ := h
    cases m with
    | tuple ms => exact ⟨s, ms, ps, rfl, by simpa using h1, h2, by simpa using h3, h4⟩
    | _ => simp [momentsB] at h2
  · cases h
theorem l_ends (ds : List PyData) (hp : F_ends.pre ds) : w_ends { nx := fun _ => F_ends.post ds .none, rt := F_ends.post ds } (env0 N_ends ds) := by
  obtain ⟨v, rfl, h⟩ := p1 hp
  obtain ⟨s, ms, ps, rfl, rfl, hm, hl, ha⟩ := house_of h.1
  simp [w_ends, F_ends, F_want_house, F_ends_in, Fs1, h, hm, momsOf, tupOf, wSeq, wIf, wRet, wRetO, wNx, wFor, wAsg, wPar, wOwn, wApp, wExt, wDrop, wSet, wFrz, wWhile, wLcO, wLcD, eVar, bVar, eC, e1, e2, eCall, eCallP, eCallK, aN, aC, eIsi, eIsi2, tV, tNt, tAn, tO, vAn, vO, vNt, eIf, eTu, eLi, fI, fSub, fDivW, fMod, fInt, fAbs, fRep, fAdd, fCI, fMax2, fMin2, fNeg, fLen, fIsN, fNotN, fIx, eSl, fSl, oS, oN, eCh, eF, gN, gNl, gCn, gTu, dEnT, dT, dL, dEn, dLc, dR1, dR2, mD, mO, mN, mLst, mList, mCat, mRep, setE, tYesD, wipeE, env0, envP, isB, L2.atI, L2.ixN]
theorem l_want_house (ds : List PyData) (hp : F_want_house.pre ds) : w_want_house { nx := fun _ => F_want_house.post ds .none, rt := F_want_house.post ds } (env0 N_want_house ds) := by
  obtain ⟨v, rfl, h⟩ := p1 hp
  simp [w_want_house, F_want_house, F_is_house, Fs1, h.1, h.2, wSeq, wIf, wRet, wRetO, wNx, wFor, wAsg, wPar, wOwn, wApp, wExt, wDrop, wSet, wFrz, wWhile, wLcO, wLcD, eVar, bVar, eC, e1, e2, eCall, eCallP, eCallK, aN, aC, eIsi, eIsi2, tV, tNt, tAn, tO, vAn, vO, vNt, eIf, eTu, eLi, fI, fSub, fDivW, fMod, fInt, fAbs, fRep, fAdd, fCI, fMax2, fMin2, fNeg, fLen, fIsN, fNotN, fIx, eSl, fSl, oS, oN, eCh, eF, gN, gNl, gCn, gTu, dEnT, dT, dL, dEn, dLc, dR1, dR2, mD, mO, mN, mLst, mList, mCat, mRep, setE, tYesD, wipeE, env0, envP, isB, L2.atI, L2.ixN]
theorem l_bare_house (ds : List PyData) (hp : F_bare_house.pre ds) : w_bare_house { nx := fun _ => F_bare_house.post ds .none, rt := F_bare_house.post ds } (env0 N_bare_house ds) := by
  obtain ⟨v, rfl, h⟩ := p1 hp
  simp [w_bare_house, F_bare_house, F_is_moments, Fs1, h, wSeq, wIf, wRet, wRetO, wNx, wFor, wAsg, wPar, wOwn, wApp, wExt, wDrop, wSet, wFrz, wWhile, wLcO, wLcD, eVar, bVar, eC, e1, e2, eCall, eCallP, eCallK, aN, aC, eIsi, eIsi2, tV, tNt, tAn, tO, vAn, vO, vNt, eIf, eTu, eLi, fI, fSub, fDivW, fMod, fInt, fAbs, fRep, fAdd, fCI, fMax2, fMin2, fNeg, fLen, fIsN, fNotN, fIx, eSl, fSl, oS, oN, eCh, eF, gN, gNl, gCn, gTu, dEnT, dT, dL, dEn, dLc, dR1, dR2, mD, mO, mN, mLst, mList, mCat, mRep, setE, tYesD, wipeE, env0, envP, isB, L2.atI, L2.ixN]
theorem sh_dN (l : List Nat) : Sh (.list (l.map dN)) := sh_listmap (n := 0) (by decide) (fun a => by simp [dN, PyData.canLay0]) (fun a => by simp [dN, PyData.depth]) l
theorem mem_range_lt {ms : List PyData} {i : Nat} (h : i ∈ List.range ms.length) : i < ms.length := List.mem_range.mp h
theorem len_moments {v : PyData} (h : momentsB v = true) : ∃ ms, v = .tuple ms ∧ 1 ≤ ms.length ∧ ms.length ≤ 31 ∧ goods momB 0 ms = true := by
  cases v with
  | tuple ms =>
    simp only [momentsB, Bool.and_eq_true, decide_eq_true_eq] at h
    exact ⟨ms, rfl, h.1.1, h.1.2, h.2⟩
  | _ => simp [momentsB] at h
def keepE : PyData → Bool
  | .tuple [_, .list xs] => xs.isEmpty
  | _ => false
def fstD : PyData → PyData
  | .tuple (a :: _) => a
  | _ => .none
theorem ends_core (ms : List PyData) (ll : List Nat) : ((ll.map fun i => PyData.tuple [.int (i : Nat), .list ((sonsOf ms i).map dN)]).filter keepE).map fstD = (ll.filter fun i => (sonsOf ms i).isEmpty).map dN := by
  induction ll with
  | nil => rfl
  | cons i l ih =>
    rw [List.map_cons]
    cases e : (sonsOf ms i).isEmpty with
    | true =>
      rw [List.filter_cons_of_pos (by simp [keepE, e]), List.filter_cons_of_pos (p := fun i => (sonsOf ms i).isEmpty) e, List.map_cons, List.map_cons, ih]
      rfl
    | false =>
      rw [List.filter_cons_of_neg (by simp [keepE, e]), List.filter_cons_of_neg (p := fun i => (sonsOf ms i).isEmpty) (by simp [e]), ih]
theorem l_ends_in (ds : List PyData) (hp : F_ends_in.pre ds) : w_ends_in { nx := fun _ => F_ends_in.post ds .none, rt := F_ends_in.post ds } (env0 N_ends_in ds) := by
  obtain ⟨v, rfl, h⟩ := p1 hp
  obtain ⟨ms, rfl, l1, l2, hg⟩ := len_moments h
  simp [w_ends_in, F_ends_in, F_sons_in, Fs1, h, sonsD, tupOf, wSeq, wIf, wRet, wRetO, wNx, wFor, wAsg, wPar, wOwn, wApp, wExt, wDrop, wSet, wFrz, wWhile, wLcO, wLcD, eVar, bVar, eC, e1, e2, eCall, eCallP, eCallK, aN, aC, eIsi, eIsi2, tV, tNt, tAn, tO, vAn, vO, vNt, eIf, eTu, eLi, fI, fSub, fDivW, fMod, fInt, fAbs, fRep, fAdd, fCI, fMax2, fMin2, fNeg, fLen, fIsN, fNotN, fIx, eSl, fSl, oS, oN, eCh, eF, gN, gNl, gCn, gTu, dEnT, dT, dL, dEn, dLc, dR1, dR2, mD, mO, mN, mLst, mList, mCat, mRep, setE, tYesD, wipeE, env0, envP, isB, L2.atI, L2.ixN]
  rw [enD_range]
  refine lc_gen (keep := keepE) (f := fstD) _ _ (fun d hd R1 R2 hR => ?_) (by simp; omega) ?_
  · obtain ⟨i, hi, rfl⟩ := List.mem_map.mp hd
    simp [keepE, fstD] at hR
    simp [fEq, sh_dN, sh_nil, eqv_nil, hR, wSeq, wIf, wRet, wRetO, wNx, wFor, wAsg, wPar, wOwn, wApp, wExt, wDrop, wSet, wFrz, wWhile, wLcO, wLcD, eVar, bVar, eC, e1, e2, eCall, eCallP, eCallK, aN, aC, eIsi, eIsi2, tV, tNt, tAn, tO, vAn, vO, vNt, eIf, eTu, eLi, fI, fSub, fDivW, fMod, fInt, fAbs, fRep, fAdd, fCI, fMax2, fMin2, fNeg, fLen, fIsN, fNotN, fIx, eSl, fSl, oS, oN, eCh, eF, gN, gNl, gCn, gTu, dEnT, dT, dL, dEn, dLc, dR1, dR2, mD, mO, mN, mLst, mList, mCat, mRep, setE, tYesD, wipeE, env0, envP, isB, L2.atI, L2.ixN]
  · rw [ends_core]
    rfl
theorem l__law_ends (ds : List PyData) (hp : F__law_ends.pre ds) : w__law_ends { nx := fun _ => F__law_ends.post ds .none, rt := F__law_ends.post ds } (env0 N__law_ends ds) := by
  obtain ⟨v, rfl, h⟩ := p1 hp
  obtain ⟨ms, rfl, l1, l2, hg⟩ := len_moments h
  simp [w__law_ends, F__law_ends, F_ends_in, F__law_sons, F_sons_in, Fs1, h, sonsD, tupOf, wSeq, wIf, wRet, wRetO, wNx, wFor, wAsg, wPar, wOwn, wApp, wExt, wDrop, wSet, wFrz, wWhile, wLcO, wLcD, eVar, bVar, eC, e1, e2, eCall, eCallP, eCallK, aN, aC, eIsi, eIsi2, tV, tNt, tAn, tO, vAn, vO, vNt, eIf, eTu, eLi, fI, fSub, fDivW, fMod, fInt, fAbs, fRep, fAdd, fCI, fMax2, fMin2, fNeg, fLen, fIsN, fNotN, fIx, eSl, fSl, oS, oN, eCh, eF, gN, gNl, gCn, gTu, dEnT, dT, dL, dEn, dLc, dR1, dR2, mD, mO, mN, mLst, mList, mCat, mRep, setE, tYesD, wipeE, env0, envP, isB, L2.atI, L2.ixN]
  rw [enD_range]
  refine lc_gen (keep := keepE) (f := fstD) _ _ (fun d hd R1 R2 hR => ?_) (by simp; omega) ?_
  · obtain ⟨i, hi, rfl⟩ := List.mem_map.mp hd
    simp [keepE, fstD] at hR
    simp [fEq, sh_dN, sh_nil, eqv_nil, hR, wSeq, wIf, wRet, wRetO, wNx, wFor, wAsg, wPar, wOwn, wApp, wExt, wDrop, wSet, wFrz, wWhile, wLcO, wLcD, eVar, bVar, eC, e1, e2, eCall, eCallP, eCallK, aN, aC, eIsi, eIsi2, tV, tNt, tAn, tO, vAn, vO, vNt, eIf, eTu, eLi, fI, fSub, fDivW, fMod, fInt, fAbs, fRep, fAdd, fCI, fMax2, fMin2, fNeg, fLen, fIsN, fNotN, fIx, eSl, fSl, oS, oN, eCh, eF, gN, gNl, gCn, gTu, dEnT, dT, dL, dEn, dLc, dR1, dR2, mD, mO, mN, mLst, mList, mCat, mRep, setE, tYesD, wipeE, env0, envP, isB, L2.atI, L2.ixN]
  · rw [ends_core]
    rfl
theorem flt_int (i : Int) : fltD (.int i) = true := rfl
theorem flt_d1 (n : Nat) : fltD (dN n) = true := rfl
theorem flt_dN : ∀ l : List Nat, (l.map dN).all fltD = true
  | [] => rfl
  | a :: l => by
    rw [List.map_cons, List.all_cons, flt_dN l]
    rfl
theorem inD_dN (n : Nat) : ∀ l : List Nat, inD (.int (n : Int)) (l.map dN) = l.contains n
  | [] => rfl
  | a :: l => by
    have ih := inD_dN n l
    unfold inD at ih ⊢
    unfold L2.inV at ih ⊢
    rw [List.map_cons, List.map_cons, List.any_cons, ih, List.contains_cons]
    congr 1
    show ((a : Int) == (n : Int)) = (n == a)
    rw [Bool.eq_iff_iff, beq_iff_eq, beq_iff_eq]
    omega
theorem opt_lem {a : PyData} {Q : PyData → Prop} : (if isNon a = true then Q (.bool true) else Q (.bool (payB a))) = Q (.bool (optB a)) := by
  unfold optB
  cases isNon a <;> simp
theorem l_is_promise_for (ds : List PyData) (hp : F_is_promise_for.pre ds) : w_is_promise_for { nx := fun _ => F_is_promise_for.post ds .none, rt := F_is_promise_for.post ds } (env0 N_is_promise_for ds) := by
  obtain ⟨m, v, rfl, h⟩ := p2 hp
  obtain ⟨ms, rfl, l1, l2, hg⟩ := len_moments h
  simp only [w_is_promise_for, wSeq]
  by_cases hr : rowB v (ms.length : Nat) = true
  · obtain ⟨ps, rfl, hx⟩ := row_of hr
    simp [wIf, F_is_row, F_ends_in, Fs1, Fs2, intOf, hr, h, endsD, tupOf, wSeq, wIf, wRet, wRetO, wNx, wFor, wAsg, wPar, wOwn, wApp, wExt, wDrop, wSet, wFrz, wWhile, wLcO, wLcD, eVar, bVar, eC, e1, e2, eCall, eCallP, eCallK, aN, aC, eIsi, eIsi2, tV, tNt, tAn, tO, vAn, vO, vNt, eIf, eTu, eLi, fI, fSub, fDivW, fMod, fInt, fAbs, fRep, fAdd, fCI, fMax2, fMin2, fNeg, fLen, fIsN, fNotN, fIx, eSl, fSl, oS, oN, eCh, eF, gN, gNl, gCn, gTu, dEnT, dT, dL, dEn, dLc, dR1, dR2, mD, mO, mN, mLst, mList, mCat, mRep, setE, tYesD, wipeE, env0, envP, isB, L2.atI, L2.ixN]
    rw [enD_F]
    refine loop_ret (good := pairB (endsN ms)) (I := fun e => ∃ x y z, e = [.dat (.tuple ms), .dat (.tuple ps), .dat (.list ((endsN ms).map dN)), x, y, z]) (fun n d env L hI hL => ?_) ps 0 _ ⟨_, _, _, rfl⟩ ?_
    · obtain ⟨x, y, z, rfl⟩ := hI
      by_cases hr : rowB d (2 : Nat) = true
      · obtain ⟨xs, rfl, hx⟩ := row_of hr
        obtain ⟨a, b, rfl⟩ := two_of hx
        unfold pairB at hL
        cases ha : isNon a <;> cases pa : payB a <;> cases hb : isNon b <;> cases pb : payB b <;> by_cases hc : n ∈ endsN ms <;> simp [optB, ha, pa, hb, pb, hc] at hL <;>
          simp [F_is_row, F_is_pay, Fs1, Fs2, intOf, rowB, lcW_cons, lcW_nil, fAll, boolsD, fIn, flt_int, flt_d1, inD_dN, ha, pa, hb, pb, hc, hL, wSeq, wIf, wRet, wRetO, wNx, wFor, wAsg, wPar, wOwn, wApp, wExt, wDrop, wSet, wFrz, wWhile, wLcO, wLcD, eVar, bVar, eC, e1, e2, eCall, eCallP, eCallK, aN, aC, eIsi, eIsi2, tV, tNt, tAn, tO, vAn, vO, vNt, eIf, eTu, eLi, fI, fSub, fDivW, fMod, fInt, fAbs, fRep, fAdd, fCI, fMax2, fMin2, fNeg, fLen, fIsN, fNotN, fIx, eSl, fSl, oS, oN, eCh, eF, gN, gNl, gCn, gTu, dEnT, dT, dL, dEn, dLc, dR1, dR2, mD, mO, mN, mLst, mList, mCat, mRep, setE, tYesD, wipeE, env0, envP, isB, L2.atI, L2.ixN]
        all_goals exact hL _ _ _ _ rfl
      · have hr : rowB d 2 = false := by simpa using row_no hr
        have no : pairB (endsN ms) n d = false := by
          unfold pairB
          split
          · simp [rowB] at hr
          · rfl
        rw [no] at hL
        simp at hL
        simp [F_is_row, Fs2, intOf, hr, hL, wSeq, wIf, wRet, wRetO, wNx, wFor, wAsg, wPar, wOwn, wApp, wExt, wDrop, wSet, wFrz, wWhile, wLcO, wLcD, eVar, bVar, eC, e1, e2, eCall, eCallP, eCallK, aN, aC, eIsi, eIsi2, tV, tNt, tAn, tO, vAn, vO, vNt, eIf, eTu, eLi, fI, fSub, fDivW, fMod, fInt, fAbs, fRep, fAdd, fCI, fMax2, fMin2, fNeg, fLen, fIsN, fNotN, fIx, eSl, fSl, oS, oN, eCh, eF, gN, gNl, gCn, gTu, dEnT, dT, dL, dEn, dLc, dR1, dR2, mD, mO, mN, mLst, mList, mCat, mRep, setE, tYesD, wipeE, env0, envP, isB, L2.atI, L2.ixN]
    · cases hgg : goods (pairB (endsN ms)) 0 ps <;> simp [F_is_promise_for, Fs2, promB, tupOf, hx, hgg, wRet, eC]
  · have hr : rowB v (ms.length : Int) = false := row_no hr
    have no : promB ms v = false := by
      cases v with
      | tuple ps =>
        simp only [rowB, decide_eq_false_iff_not] at hr
        have : ¬ ps.length = ms.length := by omega
        simp [promB, this]
      | _ => rfl
    simp [F_is_row, F_is_promise_for, F_ends_in, Fs1, Fs2, intOf, hr, no, tupOf, wSeq, wIf, wRet, wRetO, wNx, wFor, wAsg, wPar, wOwn, wApp, wExt, wDrop, wSet, wFrz, wWhile, wLcO, wLcD, eVar, bVar, eC, e1, e2, eCall, eCallP, eCallK, aN, aC, eIsi, eIsi2, tV, tNt, tAn, tO, vAn, vO, vNt, eIf, eTu, eLi, fI, fSub, fDivW, fMod, fInt, fAbs, fRep, fAdd, fCI, fMax2, fMin2, fNeg, fLen, fIsN, fNotN, fIx, eSl, fSl, oS, oN, eCh, eF, gN, gNl, gCn, gTu, dEnT, dT, dL, dEn, dLc, dR1, dR2, mD, mO, mN, mLst, mList, mCat, mRep, setE, tYesD, wipeE, env0, envP, isB, L2.atI, L2.ixN]
theorem pair_no {es : List Nat} {n : Nat} {d : PyData} (hr : rowB d 2 = false) : pairB es n d = false := by
  unfold pairB
  split
  · simp [rowB] at hr
  · rfl
theorem prom_no {ms : List PyData} {v : PyData} (hr : rowB v (ms.length : Int) = false) : promB ms v = false := by
  cases v with
  | tuple ps =>
    simp only [rowB, decide_eq_false_iff_not] at hr
    have : ¬ ps.length = ms.length := by omega
    simp [promB, this]
  | _ => rfl
theorem l__law_is_promise (ds : List PyData) (hp : F__law_is_promise.pre ds) : w__law_is_promise { nx := fun _ => F__law_is_promise.post ds .none, rt := F__law_is_promise.post ds } (env0 N__law_is_promise ds) := by
  obtain ⟨m, v, rfl, h⟩ := p2 hp
  obtain ⟨ms, rfl, l1, l2, hg⟩ := len_moments h
  simp only [w__law_is_promise, wSeq]
  cases v with
  | tuple ps =>
    by_cases hx : ps.length = ms.length
    · have hx' : (ps.length : Int) = (ms.length : Int) := by omega
      simp [wIf, F__law_ends, F_ends_in, Fs1, Fs2, intOf, h, endsD, tupOf, fEq, fNe, sh_int, eqv_int, hx', wSeq, wIf, wRet, wRetO, wNx, wFor, wAsg, wPar, wOwn, wApp, wExt, wDrop, wSet, wFrz, wWhile, wLcO, wLcD, eVar, bVar, eC, e1, e2, eCall, eCallP, eCallK, aN, aC, eIsi, eIsi2, tV, tNt, tAn, tO, vAn, vO, vNt, eIf, eTu, eLi, fI, fSub, fDivW, fMod, fInt, fAbs, fRep, fAdd, fCI, fMax2, fMin2, fNeg, fLen, fIsN, fNotN, fIx, eSl, fSl, oS, oN, eCh, eF, gN, gNl, gCn, gTu, dEnT, dT, dL, dEn, dLc, dR1, dR2, mD, mO, mN, mLst, mList, mCat, mRep, setE, tYesD, wipeE, env0, envP, isB, L2.atI, L2.ixN]
      rw [enD_F]
      refine loop_ret (good := pairB (endsN ms)) (I := fun e => ∃ x y z, e = [.dat (.tuple ms), .dat (.tuple ps), .dat (.list ((endsN ms).map dN)), x, y, z]) (fun n d env L hI hL => ?_) ps 0 _ ⟨_, _, _, rfl⟩ ?_
      · obtain ⟨x, y, z, rfl⟩ := hI
        cases d with
        | tuple xs =>
          by_cases hx2 : xs.length = 2
          · obtain ⟨a, b, rfl⟩ := two_of hx2
            unfold pairB at hL
            cases ha : isNon a <;> cases pa : payB a <;> cases hb : isNon b <;> cases pb : payB b <;> by_cases hc : n ∈ endsN ms <;> simp [optB, ha, pa, hb, pb, hc] at hL <;>
              simp [F__law_is_pay, F_is_pay, Fs1, Fs2, intOf, rowB, lcW_cons, lcW_nil, fAll, boolsD, fIn, flt_int, flt_d1, inD_dN, fEq, fNe, sh_int, eqv_int, ha, pa, hb, pb, hc, hL, wSeq, wIf, wRet, wRetO, wNx, wFor, wAsg, wPar, wOwn, wApp, wExt, wDrop, wSet, wFrz, wWhile, wLcO, wLcD, eVar, bVar, eC, e1, e2, eCall, eCallP, eCallK, aN, aC, eIsi, eIsi2, tV, tNt, tAn, tO, vAn, vO, vNt, eIf, eTu, eLi, fI, fSub, fDivW, fMod, fInt, fAbs, fRep, fAdd, fCI, fMax2, fMin2, fNeg, fLen, fIsN, fNotN, fIx, eSl, fSl, oS, oN, eCh, eF, gN, gNl, gCn, gTu, dEnT, dT, dL, dEn, dLc, dR1, dR2, mD, mO, mN, mLst, mList, mCat, mRep, setE, tYesD, wipeE, env0, envP, isB, L2.atI, L2.ixN]
            all_goals exact hL _ _ _ _ rfl
          · have hx2' : ¬ (xs.length : Int) = 2 := by omega
            rw [pair_no (by simp [rowB, hx2'])] at hL
            simp at hL
            simp [fEq, fNe, sh_int, eqv_int, hx2', hL, wSeq, wIf, wRet, wRetO, wNx, wFor, wAsg, wPar, wOwn, wApp, wExt, wDrop, wSet, wFrz, wWhile, wLcO, wLcD, eVar, bVar, eC, e1, e2, eCall, eCallP, eCallK, aN, aC, eIsi, eIsi2, tV, tNt, tAn, tO, vAn, vO, vNt, eIf, eTu, eLi, fI, fSub, fDivW, fMod, fInt, fAbs, fRep, fAdd, fCI, fMax2, fMin2, fNeg, fLen, fIsN, fNotN, fIx, eSl, fSl, oS, oN, eCh, eF, gN, gNl, gCn, gTu, dEnT, dT, dL, dEn, dLc, dR1, dR2, mD, mO, mN, mLst, mList, mCat, mRep, setE, tYesD, wipeE, env0, envP, isB, L2.atI, L2.ixN]
        | _ =>
          simp [pairB] at hL
          simp [hL, wSeq, wIf, wRet, wRetO, wNx, wFor, wAsg, wPar, wOwn, wApp, wExt, wDrop, wSet, wFrz, wWhile, wLcO, wLcD, eVar, bVar, eC, e1, e2, eCall, eCallP, eCallK, aN, aC, eIsi, eIsi2, tV, tNt, tAn, tO, vAn, vO, vNt, eIf, eTu, eLi, fI, fSub, fDivW, fMod, fInt, fAbs, fRep, fAdd, fCI, fMax2, fMin2, fNeg, fLen, fIsN, fNotN, fIx, eSl, fSl, oS, oN, eCh, eF, gN, gNl, gCn, gTu, dEnT, dT, dL, dEn, dLc, dR1, dR2, mD, mO, mN, mLst, mList, mCat, mRep, setE, tYesD, wipeE, env0, envP, isB, L2.atI, L2.ixN]
      · cases hgg : goods (pairB (endsN ms)) 0 ps <;> simp [F__law_is_promise, F_is_promise_for, Fs2, promB, tupOf, hx, hgg, wRet, eC]
    · have hx' : ¬ (ps.length : Int) = (ms.length : Int) := by omega
      have no : promB ms (.tuple ps) = false := by simp [promB, hx]
      simp [F__law_is_promise, F_is_promise_for, Fs1, Fs2, intOf, no, tupOf, fEq, fNe, sh_int, eqv_int, hx', wSeq, wIf, wRet, wRetO, wNx, wFor, wAsg, wPar, wOwn, wApp, wExt, wDrop, wSet, wFrz, wWhile, wLcO, wLcD, eVar, bVar, eC, e1, e2, eCall, eCallP, eCallK, aN, aC, eIsi, eIsi2, tV, tNt, tAn, tO, vAn, vO, vNt, eIf, eTu, eLi, fI, fSub, fDivW, fMod, fInt, fAbs, fRep, fAdd, fCI, fMax2, fMin2, fNeg, fLen, fIsN, fNotN, fIx, eSl, fSl, oS, oN, eCh, eF, gN, gNl, gCn, gTu, dEnT, dT, dL, dEn, dLc, dR1, dR2, mD, mO, mN, mLst, mList, mCat, mRep, setE, tYesD, wipeE, env0, envP, isB, L2.atI, L2.ixN]
  | _ => simp [F__law_is_promise, F_is_promise_for, Fs2, promB, tupOf, wSeq, wIf, wRet, wRetO, wNx, wFor, wAsg, wPar, wOwn, wApp, wExt, wDrop, wSet, wFrz, wWhile, wLcO, wLcD, eVar, bVar, eC, e1, e2, eCall, eCallP, eCallK, aN, aC, eIsi, eIsi2, tV, tNt, tAn, tO, vAn, vO, vNt, eIf, eTu, eLi, fI, fSub, fDivW, fMod, fInt, fAbs, fRep, fAdd, fCI, fMax2, fMin2, fNeg, fLen, fIsN, fNotN, fIx, eSl, fSl, oS, oN, eCh, eF, gN, gNl, gCn, gTu, dEnT, dT, dL, dEn, dLc, dR1, dR2, mD, mO, mN, mLst, mList, mCat, mRep, setE, tYesD, wipeE, env0, envP, isB, L2.atI, L2.ixN]
theorem all_prom {ms : List PyData} {ps : List PyData} : (ps.map (promB ms)).all id = ps.all (promB ms) := by
  rw [List.all_map]
  rfl
theorem eqv_str (i j : Str) : PyData.eqv (.str i) (.str j) = (i == j) := by rw [PyData.eqv]
theorem sh_str {x : Str} (h : PyData.strOk x = true) : Sh (.str x) := by simp [Sh, SeqAt.shaped, PyData.canLay0, PyData.depth, h]
theorem house_no {v : PyData} (h : rowB v 3 = false) : houseB v = false := by
  unfold houseB
  split
  · simp [rowB] at h
  · rfl
theorem sh_in {xs : List PyData} (h : SeqAt.shaped (.tuple xs) = true) : ∀ x ∈ xs, PyData.canLay0 x = true := by
  simp only [SeqAt.shaped, Bool.and_eq_true, PyData.canLay0] at h
  have key : ∀ xs : List PyData, PyData.canLayAll0 xs = true → ∀ x ∈ xs, PyData.canLay0 x = true := by
    intro xs
    induction xs with
    | nil => intro _ x hx; cases hx
    | cons a l ih =>
      intro h x hx
      rw [PyData.canLayAll0, Bool.and_eq_true] at h
      rcases List.mem_cons.mp hx with rfl | hx
      · exact h.1
      · exact ih h.2 x hx
  exact key xs h.1
theorem sh_house : Sh (.str "house") := sh_str (by decide +kernel)
theorem lc_prom {ms ps : List PyData} {env : Dl.Env} {g : DG} {ev : DE} {P : List PyData → Prop} (hl : ps.length ≤ 4) (step : ∀ d ∈ ps, ∀ R : PyData → Prop, R (.bool (promB ms d)) → g d env fun env1 => ev env1 R)
    (h : P (ps.map fun d => .bool (promB ms d))) : lcW g tYesD ev env P ps [] := by
  refine lc_gen (keep := fun _ => true) (f := fun d => .bool (promB ms d)) ps [] (fun d hd R1 R2 hR => ?_) (by simp; omega) (by simpa [filter_yes] using h)
  simp only [tYesD, if_true] at hR ⊢
  exact step d hd R1 hR
theorem l_is_house (ds : List PyData) (hp : F_is_house.pre ds) : w_is_house { nx := fun _ => F_is_house.post ds .none, rt := F_is_house.post ds } (env0 N_is_house ds) := by
  obtain ⟨v, rfl, hsh⟩ := p1 hp
  by_cases hr : rowB v (3 : Nat) = true
  · obtain ⟨xs, rfl, hx⟩ := row_of hr
    obtain ⟨a, b, c, rfl⟩ := three_of hx
    cases a with
    | str s =>
      have so : Sh (.str s) := sh_str (by
        have := sh_in hsh (.str s) (List.mem_cons_self ..)
        simpa [PyData.canLay0] using this)
      by_cases hs : s = ("house" : Str)
      · subst hs
        cases hm : momentsB b with
        | false =>
          have no : houseB (.tuple [.str "house", b, c]) = false := by
            unfold houseB
            split
            · rename_i e
              cases e
              simp [hm]
            · rfl
          simp [w_is_house, F_is_house, F_is_row, F_is_moments, Fs1, Fs2, intOf, rowB, fNe, eqv_str, sh_house, hm, no, wSeq, wIf, wRet, wRetO, wNx, wFor, wAsg, wPar, wOwn, wApp, wExt, wDrop, wSet, wFrz, wWhile, wLcO, wLcD, eVar, bVar, eC, e1, e2, eCall, eCallP, eCallK, aN, aC, eIsi, eIsi2, tV, tNt, tAn, tO, vAn, vO, vNt, eIf, eTu, eLi, fI, fSub, fDivW, fMod, fInt, fAbs, fRep, fAdd, fCI, fMax2, fMin2, fNeg, fLen, fIsN, fNotN, fIx, eSl, fSl, oS, oN, eCh, eF, gN, gNl, gCn, gTu, dEnT, dT, dL, dEn, dLc, dR1, dR2, mD, mO, mN, mLst, mList, mCat, mRep, setE, tYesD, wipeE, env0, envP, isB, L2.atI, L2.ixN]
        | true =>
          obtain ⟨ms, rfl, l1, l2, hg⟩ := len_moments hm
          cases c with
          | tuple ps =>
            by_cases hl : ps.length ≤ 4
            · have hl' : ¬ (4 : Int) < (ps.length : Int) := by omega
              simp [w_is_house, F_is_row, F_is_moments, Fs1, Fs2, intOf, rowB, fNe, eqv_str, sh_house, hm, hl', wSeq, wIf, wRet, wRetO, wNx, wFor, wAsg, wPar, wOwn, wApp, wExt, wDrop, wSet, wFrz, wWhile, wLcO, wLcD, eVar, bVar, eC, e1, e2, eCall, eCallP, eCallK, aN, aC, eIsi, eIsi2, tV, tNt, tAn, tO, vAn, vO, vNt, eIf, eTu, eLi, fI, fSub, fDivW, fMod, fInt, fAbs, fRep, fAdd, fCI, fMax2, fMin2, fNeg, fLen, fIsN, fNotN, fIx, eSl, fSl, oS, oN, eCh, eF, gN, gNl, gCn, gTu, dEnT, dT, dL, dEn, dLc, dR1, dR2, mD, mO, mN, mLst, mList, mCat, mRep, setE, tYesD, wipeE, env0, envP, isB, L2.atI, L2.ixN]
              refine lc_prom (ms := ms) hl (fun d hd R hR => ?_) ?_
              · simp [F_is_promise_for, Fs2, hm, tupOf, hR, wSeq, wIf, wRet, wRetO, wNx, wFor, wAsg, wPar, wOwn, wApp, wExt, wDrop, wSet, wFrz, wWhile, wLcO, wLcD, eVar, bVar, eC, e1, e2, eCall, eCallP, eCallK, aN, aC, eIsi, eIsi2, tV, tNt, tAn, tO, vAn, vO, vNt, eIf, eTu, eLi, fI, fSub, fDivW, fMod, fInt, fAbs, fRep, fAdd, fCI, fMax2, fMin2, fNeg, fLen, fIsN, fNotN, fIx, eSl, fSl, oS, oN, eCh, eF, gN, gNl, gCn, gTu, dEnT, dT, dL, dEn, dLc, dR1, dR2, mD, mO, mN, mLst, mList, mCat, mRep, setE, tYesD, wipeE, env0, envP, isB, L2.atI, L2.ixN]
              · simp [fAll, boolsD_map, F_is_house, Fs1, houseB, hm, hl, tupOf, wSeq, wIf, wRet, wRetO, wNx, wFor, wAsg, wPar, wOwn, wApp, wExt, wDrop, wSet, wFrz, wWhile, wLcO, wLcD, eVar, bVar, eC, e1, e2, eCall, eCallP, eCallK, aN, aC, eIsi, eIsi2, tV, tNt, tAn, tO, vAn, vO, vNt, eIf, eTu, eLi, fI, fSub, fDivW, fMod, fInt, fAbs, fRep, fAdd, fCI, fMax2, fMin2, fNeg, fLen, fIsN, fNotN, fIx, eSl, fSl, oS, oN, eCh, eF, gN, gNl, gCn, gTu, dEnT, dT, dL, dEn, dLc, dR1, dR2, mD, mO, mN, mLst, mList, mCat, mRep, setE, tYesD, wipeE, env0, envP, isB, L2.atI, L2.ixN]
            · have hl' : (4 : Int) < (ps.length : Int) := by omega
              have hl2 : ¬ (ps.length : Int) ≤ 4 := by omega
              simp [hl2, w_is_house, F_is_house, F_is_row, F_is_moments, Fs1, Fs2, intOf, rowB, fNe, eqv_str, sh_house, hm, houseB, hl, hl', wSeq, wIf, wRet, wRetO, wNx, wFor, wAsg, wPar, wOwn, wApp, wExt, wDrop, wSet, wFrz, wWhile, wLcO, wLcD, eVar, bVar, eC, e1, e2, eCall, eCallP, eCallK, aN, aC, eIsi, eIsi2, tV, tNt, tAn, tO, vAn, vO, vNt, eIf, eTu, eLi, fI, fSub, fDivW, fMod, fInt, fAbs, fRep, fAdd, fCI, fMax2, fMin2, fNeg, fLen, fIsN, fNotN, fIx, eSl, fSl, oS, oN, eCh, eF, gN, gNl, gCn, gTu, dEnT, dT, dL, dEn, dLc, dR1, dR2, mD, mO, mN, mLst, mList, mCat, mRep, setE, tYesD, wipeE, env0, envP, isB, L2.atI, L2.ixN]
          | _ => simp [w_is_house, F_is_house, F_is_row, F_is_moments, Fs1, Fs2, intOf, rowB, fNe, eqv_str, sh_house, hm, houseB, wSeq, wIf, wRet, wRetO, wNx, wFor, wAsg, wPar, wOwn, wApp, wExt, wDrop, wSet, wFrz, wWhile, wLcO, wLcD, eVar, bVar, eC, e1, e2, eCall, eCallP, eCallK, aN, aC, eIsi, eIsi2, tV, tNt, tAn, tO, vAn, vO, vNt, eIf, eTu, eLi, fI, fSub, fDivW, fMod, fInt, fAbs, fRep, fAdd, fCI, fMax2, fMin2, fNeg, fLen, fIsN, fNotN, fIx, eSl, fSl, oS, oN, eCh, eF, gN, gNl, gCn, gTu, dEnT, dT, dL, dEn, dLc, dR1, dR2, mD, mO, mN, mLst, mList, mCat, mRep, setE, tYesD, wipeE, env0, envP, isB, L2.atI, L2.ixN]
      · have no : houseB (.tuple [.str s, b, c]) = false := by
          unfold houseB
          split
          · rename_i e
            cases e
            simp [hs]
          · rfl
        simp [w_is_house, F_is_house, F_is_row, F_is_moments, Fs1, Fs2, intOf, rowB, fNe, eqv_str, sh_house, so, hs, no, wSeq, wIf, wRet, wRetO, wNx, wFor, wAsg, wPar, wOwn, wApp, wExt, wDrop, wSet, wFrz, wWhile, wLcO, wLcD, eVar, bVar, eC, e1, e2, eCall, eCallP, eCallK, aN, aC, eIsi, eIsi2, tV, tNt, tAn, tO, vAn, vO, vNt, eIf, eTu, eLi, fI, fSub, fDivW, fMod, fInt, fAbs, fRep, fAdd, fCI, fMax2, fMin2, fNeg, fLen, fIsN, fNotN, fIx, eSl, fSl, oS, oN, eCh, eF, gN, gNl, gCn, gTu, dEnT, dT, dL, dEn, dLc, dR1, dR2, mD, mO, mN, mLst, mList, mCat, mRep, setE, tYesD, wipeE, env0, envP, isB, L2.atI, L2.ixN]
    | _ => simp [w_is_house, F_is_house, F_is_row, Fs1, Fs2, intOf, rowB, houseB, wSeq, wIf, wRet, wRetO, wNx, wFor, wAsg, wPar, wOwn, wApp, wExt, wDrop, wSet, wFrz, wWhile, wLcO, wLcD, eVar, bVar, eC, e1, e2, eCall, eCallP, eCallK, aN, aC, eIsi, eIsi2, tV, tNt, tAn, tO, vAn, vO, vNt, eIf, eTu, eLi, fI, fSub, fDivW, fMod, fInt, fAbs, fRep, fAdd, fCI, fMax2, fMin2, fNeg, fLen, fIsN, fNotN, fIx, eSl, fSl, oS, oN, eCh, eF, gN, gNl, gCn, gTu, dEnT, dT, dL, dEn, dLc, dR1, dR2, mD, mO, mN, mLst, mList, mCat, mRep, setE, tYesD, wipeE, env0, envP, isB, L2.atI, L2.ixN]
  · have hr : rowB v 3 = false := by simpa using row_no hr
    simp [w_is_house, F_is_house, F_is_row, Fs1, Fs2, intOf, hr, house_no hr, wSeq, wIf, wRet, wRetO, wNx, wFor, wAsg, wPar, wOwn, wApp, wExt, wDrop, wSet, wFrz, wWhile, wLcO, wLcD, eVar, bVar, eC, e1, e2, eCall, eCallP, eCallK, aN, aC, eIsi, eIsi2, tV, tNt, tAn, tO, vAn, vO, vNt, eIf, eTu, eLi, fI, fSub, fDivW, fMod, fInt, fAbs, fRep, fAdd, fCI, fMax2, fMin2, fNeg, fLen, fIsN, fNotN, fIx, eSl, fSl, oS, oN, eCh, eF, gN, gNl, gCn, gTu, dEnT, dT, dL, dEn, dLc, dR1, dR2, mD, mO, mN, mLst, mList, mCat, mRep, setE, tYesD, wipeE, env0, envP, isB, L2.atI, L2.ixN]
theorem l__law_is_house (ds : List PyData) (hp : F__law_is_house.pre ds) : w__law_is_house { nx := fun _ => F__law_is_house.post ds .none, rt := F__law_is_house.post ds } (env0 N__law_is_house ds) := by
  obtain ⟨v, rfl, hsh⟩ := p1 hp
  cases v with
  | tuple xs =>
    by_cases hx : xs.length = 3
    · obtain ⟨a, b, c, rfl⟩ := three_of hx
      cases a with
      | str s =>
        have so : Sh (.str s) := sh_str (by
          have := sh_in hsh (.str s) (List.mem_cons_self ..)
          simpa [PyData.canLay0] using this)
        by_cases hs : s = ("house" : Str)
        · subst hs
          cases hm : momentsB b with
          | false =>
            have no : houseB (.tuple [.str "house", b, c]) = false := by
              unfold houseB
              split
              · rename_i e
                cases e
                simp [hm]
              · rfl
            simp [w__law_is_house, F__law_is_house, F_is_house, F__law_are_moments, F_is_moments, Fs1, Fs2, intOf, rowB, fNe, sh_int, eqv_int, eqv_str, sh_house, hm, no, wSeq, wIf, wRet, wRetO, wNx, wFor, wAsg, wPar, wOwn, wApp, wExt, wDrop, wSet, wFrz, wWhile, wLcO, wLcD, eVar, bVar, eC, e1, e2, eCall, eCallP, eCallK, aN, aC, eIsi, eIsi2, tV, tNt, tAn, tO, vAn, vO, vNt, eIf, eTu, eLi, fI, fSub, fDivW, fMod, fInt, fAbs, fRep, fAdd, fCI, fMax2, fMin2, fNeg, fLen, fIsN, fNotN, fIx, eSl, fSl, oS, oN, eCh, eF, gN, gNl, gCn, gTu, dEnT, dT, dL, dEn, dLc, dR1, dR2, mD, mO, mN, mLst, mList, mCat, mRep, setE, tYesD, wipeE, env0, envP, isB, L2.atI, L2.ixN]
          | true =>
            obtain ⟨ms, rfl, l1, l2, hg⟩ := len_moments hm
            cases c with
            | tuple ps =>
              by_cases hl : ps.length ≤ 4
              · have hl' : (ps.length : Int) ≤ 4 := by omega
                simp [w__law_is_house, F__law_are_moments, F_is_moments, Fs1, Fs2, intOf, rowB, fNe, sh_int, eqv_int, eqv_str, sh_house, hm, hl', wSeq, wIf, wRet, wRetO, wNx, wFor, wAsg, wPar, wOwn, wApp, wExt, wDrop, wSet, wFrz, wWhile, wLcO, wLcD, eVar, bVar, eC, e1, e2, eCall, eCallP, eCallK, aN, aC, eIsi, eIsi2, tV, tNt, tAn, tO, vAn, vO, vNt, eIf, eTu, eLi, fI, fSub, fDivW, fMod, fInt, fAbs, fRep, fAdd, fCI, fMax2, fMin2, fNeg, fLen, fIsN, fNotN, fIx, eSl, fSl, oS, oN, eCh, eF, gN, gNl, gCn, gTu, dEnT, dT, dL, dEn, dLc, dR1, dR2, mD, mO, mN, mLst, mList, mCat, mRep, setE, tYesD, wipeE, env0, envP, isB, L2.atI, L2.ixN]
                refine lc_prom (ms := ms) hl (fun d hd R hR => ?_) ?_
                · simp [F__law_is_promise, F_is_promise_for, Fs2, hm, tupOf, hR, wSeq, wIf, wRet, wRetO, wNx, wFor, wAsg, wPar, wOwn, wApp, wExt, wDrop, wSet, wFrz, wWhile, wLcO, wLcD, eVar, bVar, eC, e1, e2, eCall, eCallP, eCallK, aN, aC, eIsi, eIsi2, tV, tNt, tAn, tO, vAn, vO, vNt, eIf, eTu, eLi, fI, fSub, fDivW, fMod, fInt, fAbs, fRep, fAdd, fCI, fMax2, fMin2, fNeg, fLen, fIsN, fNotN, fIx, eSl, fSl, oS, oN, eCh, eF, gN, gNl, gCn, gTu, dEnT, dT, dL, dEn, dLc, dR1, dR2, mD, mO, mN, mLst, mList, mCat, mRep, setE, tYesD, wipeE, env0, envP, isB, L2.atI, L2.ixN]
                · simp [fAll, boolsD_map, F__law_is_house, F_is_house, Fs1, houseB, hm, hl, tupOf, wSeq, wIf, wRet, wRetO, wNx, wFor, wAsg, wPar, wOwn, wApp, wExt, wDrop, wSet, wFrz, wWhile, wLcO, wLcD, eVar, bVar, eC, e1, e2, eCall, eCallP, eCallK, aN, aC, eIsi, eIsi2, tV, tNt, tAn, tO, vAn, vO, vNt, eIf, eTu, eLi, fI, fSub, fDivW, fMod, fInt, fAbs, fRep, fAdd, fCI, fMax2, fMin2, fNeg, fLen, fIsN, fNotN, fIx, eSl, fSl, oS, oN, eCh, eF, gN, gNl, gCn, gTu, dEnT, dT, dL, dEn, dLc, dR1, dR2, mD, mO, mN, mLst, mList, mCat, mRep, setE, tYesD, wipeE, env0, envP, isB, L2.atI, L2.ixN]
              · have hl' : (4 : Int) < (ps.length : Int) := by omega
                have hl2 : ¬ (ps.length : Int) ≤ 4 := by omega
                simp [hl2, w__law_is_house, F__law_is_house, F_is_house, F__law_are_moments, F_is_moments, Fs1, Fs2, intOf, rowB, fNe, sh_int, eqv_int, eqv_str, sh_house, hm, houseB, hl, hl', wSeq, wIf, wRet, wRetO, wNx, wFor, wAsg, wPar, wOwn, wApp, wExt, wDrop, wSet, wFrz, wWhile, wLcO, wLcD, eVar, bVar, eC, e1, e2, eCall, eCallP, eCallK, aN, aC, eIsi, eIsi2, tV, tNt, tAn, tO, vAn, vO, vNt, eIf, eTu, eLi, fI, fSub, fDivW, fMod, fInt, fAbs, fRep, fAdd, fCI, fMax2, fMin2, fNeg, fLen, fIsN, fNotN, fIx, eSl, fSl, oS, oN, eCh, eF, gN, gNl, gCn, gTu, dEnT, dT, dL, dEn, dLc, dR1, dR2, mD, mO, mN, mLst, mList, mCat, mRep, setE, tYesD, wipeE, env0, envP, isB, L2.atI, L2.ixN]
            | _ => simp [w__law_is_house, F__law_is_house, F_is_house, F__law_are_moments, F_is_moments, Fs1, Fs2, intOf, rowB, fNe, sh_int, eqv_int, eqv_str, sh_house, hm, houseB, wSeq, wIf, wRet, wRetO, wNx, wFor, wAsg, wPar, wOwn, wApp, wExt, wDrop, wSet, wFrz, wWhile, wLcO, wLcD, eVar, bVar, eC, e1, e2, eCall, eCallP, eCallK, aN, aC, eIsi, eIsi2, tV, tNt, tAn, tO, vAn, vO, vNt, eIf, eTu, eLi, fI, fSub, fDivW, fMod, fInt, fAbs, fRep, fAdd, fCI, fMax2, fMin2, fNeg, fLen, fIsN, fNotN, fIx, eSl, fSl, oS, oN, eCh, eF, gN, gNl, gCn, gTu, dEnT, dT, dL, dEn, dLc, dR1, dR2, mD, mO, mN, mLst, mList, mCat, mRep, setE, tYesD, wipeE, env0, envP, isB, L2.atI, L2.ixN]
        · have no : houseB (.tuple [.str s, b, c]) = false := by
            unfold houseB
            split
            · rename_i e
              cases e
              simp [hs]
            · rfl
          simp [w__law_is_house, F__law_is_house, F_is_house, Fs1, fNe, sh_int, eqv_int, eqv_str, sh_house, so, hs, no, wSeq, wIf, wRet, wRetO, wNx, wFor, wAsg, wPar, wOwn, wApp, wExt, wDrop, wSet, wFrz, wWhile, wLcO, wLcD, eVar, bVar, eC, e1, e2, eCall, eCallP, eCallK, aN, aC, eIsi, eIsi2, tV, tNt, tAn, tO, vAn, vO, vNt, eIf, eTu, eLi, fI, fSub, fDivW, fMod, fInt, fAbs, fRep, fAdd, fCI, fMax2, fMin2, fNeg, fLen, fIsN, fNotN, fIx, eSl, fSl, oS, oN, eCh, eF, gN, gNl, gCn, gTu, dEnT, dT, dL, dEn, dLc, dR1, dR2, mD, mO, mN, mLst, mList, mCat, mRep, setE, tYesD, wipeE, env0, envP, isB, L2.atI, L2.ixN]
      | _ => simp [w__law_is_house, F__law_is_house, F_is_house, Fs1, fNe, sh_int, eqv_int, houseB, wSeq, wIf, wRet, wRetO, wNx, wFor, wAsg, wPar, wOwn, wApp, wExt, wDrop, wSet, wFrz, wWhile, wLcO, wLcD, eVar, bVar, eC, e1, e2, eCall, eCallP, eCallK, aN, aC, eIsi, eIsi2, tV, tNt, tAn, tO, vAn, vO, vNt, eIf, eTu, eLi, fI, fSub, fDivW, fMod, fInt, fAbs, fRep, fAdd, fCI, fMax2, fMin2, fNeg, fLen, fIsN, fNotN, fIx, eSl, fSl, oS, oN, eCh, eF, gN, gNl, gCn, gTu, dEnT, dT, dL, dEn, dLc, dR1, dR2, mD, mO, mN, mLst, mList, mCat, mRep, setE, tYesD, wipeE, env0, envP, isB, L2.atI, L2.ixN]
    · have hx' : ¬ (xs.length : Int) = 3 := by omega
      simp [w__law_is_house, F__law_is_house, F_is_house, Fs1, fNe, sh_int, eqv_int, hx', house_no (v := .tuple xs) (by simp [rowB, hx']), wSeq, wIf, wRet, wRetO, wNx, wFor, wAsg, wPar, wOwn, wApp, wExt, wDrop, wSet, wFrz, wWhile, wLcO, wLcD, eVar, bVar, eC, e1, e2, eCall, eCallP, eCallK, aN, aC, eIsi, eIsi2, tV, tNt, tAn, tO, vAn, vO, vNt, eIf, eTu, eLi, fI, fSub, fDivW, fMod, fInt, fAbs, fRep, fAdd, fCI, fMax2, fMin2, fNeg, fLen, fIsN, fNotN, fIx, eSl, fSl, oS, oN, eCh, eF, gN, gNl, gCn, gTu, dEnT, dT, dL, dEn, dLc, dR1, dR2, mD, mO, mN, mLst, mList, mCat, mRep, setE, tYesD, wipeE, env0, envP, isB, L2.atI, L2.ixN]
  | _ => simp [w__law_is_house, F__law_is_house, F_is_house, Fs1, houseB, wSeq, wIf, wRet, wRetO, wNx, wFor, wAsg, wPar, wOwn, wApp, wExt, wDrop, wSet, wFrz, wWhile, wLcO, wLcD, eVar, bVar, eC, e1, e2, eCall, eCallP, eCallK, aN, aC, eIsi, eIsi2, tV, tNt, tAn, tO, vAn, vO, vNt, eIf, eTu, eLi, fI, fSub, fDivW, fMod, fInt, fAbs, fRep, fAdd, fCI, fMax2, fMin2, fNeg, fLen, fIsN, fNotN, fIx, eSl, fSl, oS, oN, eCh, eF, gN, gNl, gCn, gTu, dEnT, dT, dL, dEn, dLc, dR1, dR2, mD, mO, mN, mLst, mList, mCat, mRep, setE, tYesD, wipeE, env0, envP, isB, L2.atI, L2.ixN]
theorem l_is_promise (ds : List PyData) (hp : F_is_promise.pre ds) : w_is_promise { nx := fun _ => F_is_promise.post ds .none, rt := F_is_promise.post ds } (env0 N_is_promise ds) := by
  obtain ⟨h, v, rfl, hh⟩ := p2 hp
  obtain ⟨s, ms, ps, rfl, rfl, hm, hl, ha⟩ := house_of hh.1
  simp [w_is_promise, F_is_promise, F_want_house, F_is_promise_for, Fs1, Fs2, hh, hm, momsOf, tupOf, wSeq, wIf, wRet, wRetO, wNx, wFor, wAsg, wPar, wOwn, wApp, wExt, wDrop, wSet, wFrz, wWhile, wLcO, wLcD, eVar, bVar, eC, e1, e2, eCall, eCallP, eCallK, aN, aC, eIsi, eIsi2, tV, tNt, tAn, tO, vAn, vO, vNt, eIf, eTu, eLi, fI, fSub, fDivW, fMod, fInt, fAbs, fRep, fAdd, fCI, fMax2, fMin2, fNeg, fLen, fIsN, fNotN, fIx, eSl, fSl, oS, oN, eCh, eF, gN, gNl, gCn, gTu, dEnT, dT, dL, dEn, dLc, dR1, dR2, mD, mO, mN, mLst, mList, mCat, mRep, setE, tYesD, wipeE, env0, envP, isB, L2.atI, L2.ixN]
theorem l_want_moment (ds : List PyData) (hp : F_want_moment.pre ds) : w_want_moment { nx := fun _ => F_want_moment.post ds .none, rt := F_want_moment.post ds } (env0 N_want_moment ds) := by
  obtain ⟨h, v, rfl, hh, n, rfl, hn⟩ := p2 hp
  obtain ⟨s, ms, ps, rfl, rfl, hm, hl, ha⟩ := house_of hh.1
  have w : withinB (.int (n : Int)) 0 ((ms.length : Int) - 1) = true := by
    simp [momsOf] at hn
    simp [withinB]
    omega
  simp [w_want_moment, F_want_moment, F_is_within, Fs1, Fs2, w, wSeq, wIf, wRet, wRetO, wNx, wFor, wAsg, wPar, wOwn, wApp, wExt, wDrop, wSet, wFrz, wWhile, wLcO, wLcD, eVar, bVar, eC, e1, e2, eCall, eCallP, eCallK, aN, aC, eIsi, eIsi2, tV, tNt, tAn, tO, vAn, vO, vNt, eIf, eTu, eLi, fI, fSub, fDivW, fMod, fInt, fAbs, fRep, fAdd, fCI, fMax2, fMin2, fNeg, fLen, fIsN, fNotN, fIx, eSl, fSl, oS, oN, eCh, eF, gN, gNl, gCn, gTu, dEnT, dT, dL, dEn, dLc, dR1, dR2, mD, mO, mN, mLst, mList, mCat, mRep, setE, tYesD, wipeE, env0, envP, isB, L2.atI, L2.ixN]
theorem l_want_promise (ds : List PyData) (hp : F_want_promise.pre ds) : w_want_promise { nx := fun _ => F_want_promise.post ds .none, rt := F_want_promise.post ds } (env0 N_want_promise ds) := by
  obtain ⟨h, v, rfl, hh, n, rfl, hn⟩ := p2 hp
  obtain ⟨s, ms, ps, rfl, rfl, hm, hl, ha⟩ := house_of hh.1
  simp only [prosOf] at hn
  have w : withinB (.int (n : Int)) 0 ((ps.length : Int) - 1) = true := by
    simp [withinB]
    omega
  have lt : (n : Int) < (ps.length : Int) := by omega
  simp [w_want_promise, F_want_promise, F_is_within, Fs1, Fs2, w, prosOf, intOf, lt, hn, wSeq, wIf, wRet, wRetO, wNx, wFor, wAsg, wPar, wOwn, wApp, wExt, wDrop, wSet, wFrz, wWhile, wLcO, wLcD, eVar, bVar, eC, e1, e2, eCall, eCallP, eCallK, aN, aC, eIsi, eIsi2, tV, tNt, tAn, tO, vAn, vO, vNt, eIf, eTu, eLi, fI, fSub, fDivW, fMod, fInt, fAbs, fRep, fAdd, fCI, fMax2, fMin2, fNeg, fLen, fIsN, fNotN, fIx, eSl, fSl, oS, oN, eCh, eF, gN, gNl, gCn, gTu, dEnT, dT, dL, dEn, dLc, dR1, dR2, mD, mO, mN, mLst, mList, mCat, mRep, setE, tYesD, wipeE, env0, envP, isB, L2.atI, L2.ixN]
theorem l_sons (ds : List PyData) (hp : F_sons.pre ds) : w_sons { nx := fun _ => F_sons.post ds .none, rt := F_sons.post ds } (env0 N_sons ds) := by
  obtain ⟨h, v, rfl, hh, n, rfl, hn⟩ := p2 hp
  have hh' := hh
  obtain ⟨s, ms, ps, rfl, rfl, hm, hl, ha⟩ := house_of hh.1
  simp only [momsOf] at hn
  have lt : (n : Int) < (ms.length : Int) := by omega
  have on : OnH (.tuple [.str "house", .tuple ms, .tuple ps]) (.int (n : Int)) := ⟨hh, n, rfl, hn⟩
  simp [w_sons, F_sons, F_want_house, F_want_moment, F_sons_in, Fs1, Fs2, hh', on, hm, sonsD, tupOf, momsOf, intOf, lt, hn, lN, wSeq, wIf, wRet, wRetO, wNx, wFor, wAsg, wPar, wOwn, wApp, wExt, wDrop, wSet, wFrz, wWhile, wLcO, wLcD, eVar, bVar, eC, e1, e2, eCall, eCallP, eCallK, aN, aC, eIsi, eIsi2, tV, tNt, tAn, tO, vAn, vO, vNt, eIf, eTu, eLi, fI, fSub, fDivW, fMod, fInt, fAbs, fRep, fAdd, fCI, fMax2, fMin2, fNeg, fLen, fIsN, fNotN, fIx, eSl, fSl, oS, oN, eCh, eF, gN, gNl, gCn, gTu, dEnT, dT, dL, dEn, dLc, dR1, dR2, mD, mO, mN, mLst, mList, mCat, mRep, setE, tYesD, wipeE, env0, envP, isB, L2.atI, L2.ixN]
theorem l_ahead (ds : List PyData) (hp : F_ahead.pre ds) : w_ahead { nx := fun _ => F_ahead.post ds .none, rt := F_ahead.post ds } (env0 N_ahead ds) := by
  obtain ⟨h, v, rfl, hh, n, rfl, hn⟩ := p2 hp
  have hh' := hh
  obtain ⟨s, ms, ps, rfl, rfl, hm, hl, ha⟩ := house_of hh.1
  simp only [momsOf] at hn
  have on : OnH (.tuple [.str "house", .tuple ms, .tuple ps]) (.int (n : Int)) := ⟨hh, n, rfl, hn⟩
  have om : OnM (.tuple ms) (.int (n : Int)) := ⟨hm, n, rfl, hn⟩
  simp [w_ahead, F_ahead, F_want_house, F_want_moment, F_ahead_in, Fs1, Fs2, hh', on, om, tupOf, momsOf, intOf, wSeq, wIf, wRet, wRetO, wNx, wFor, wAsg, wPar, wOwn, wApp, wExt, wDrop, wSet, wFrz, wWhile, wLcO, wLcD, eVar, bVar, eC, e1, e2, eCall, eCallP, eCallK, aN, aC, eIsi, eIsi2, tV, tNt, tAn, tO, vAn, vO, vNt, eIf, eTu, eLi, fI, fSub, fDivW, fMod, fInt, fAbs, fRep, fAdd, fCI, fMax2, fMin2, fNeg, fLen, fIsN, fNotN, fIx, eSl, fSl, oS, oN, eCh, eF, gN, gNl, gCn, gTu, dEnT, dT, dL, dEn, dLc, dR1, dR2, mD, mO, mN, mLst, mList, mCat, mRep, setE, tYesD, wipeE, env0, envP, isB, L2.atI, L2.ixN]
theorem l_below (ds : List PyData) (hp : F_below.pre ds) : w_below { nx := fun _ => F_below.post ds .none, rt := F_below.post ds } (env0 N_below ds) := by
  obtain ⟨h, v, rfl, hh, n, rfl, hn⟩ := p2 hp
  have hh' := hh
  obtain ⟨s, ms, ps, rfl, rfl, hm, hl, ha⟩ := house_of hh.1
  simp only [momsOf] at hn
  have on : OnH (.tuple [.str "house", .tuple ms, .tuple ps]) (.int (n : Int)) := ⟨hh, n, rfl, hn⟩
  have om : OnM (.tuple ms) (.int (n : Int)) := ⟨hm, n, rfl, hn⟩
  simp [w_below, F_below, F_want_house, F_want_moment, F_below_in, Fs1, Fs2, hh', on, om, tupOf, momsOf, intOf, wSeq, wIf, wRet, wRetO, wNx, wFor, wAsg, wPar, wOwn, wApp, wExt, wDrop, wSet, wFrz, wWhile, wLcO, wLcD, eVar, bVar, eC, e1, e2, eCall, eCallP, eCallK, aN, aC, eIsi, eIsi2, tV, tNt, tAn, tO, vAn, vO, vNt, eIf, eTu, eLi, fI, fSub, fDivW, fMod, fInt, fAbs, fRep, fAdd, fCI, fMax2, fMin2, fNeg, fLen, fIsN, fNotN, fIx, eSl, fSl, oS, oN, eCh, eF, gN, gNl, gCn, gTu, dEnT, dT, dL, dEn, dLc, dR1, dR2, mD, mO, mN, mLst, mList, mCat, mRep, setE, tYesD, wipeE, env0, envP, isB, L2.atI, L2.ixN]
theorem l_depth (ds : List PyData) (hp : F_depth.pre ds) : w_depth { nx := fun _ => F_depth.post ds .none, rt := F_depth.post ds } (env0 N_depth ds) := by
  obtain ⟨h, v, rfl, hh, n, rfl, hn⟩ := p2 hp
  have on : OnH h (.int (n : Int)) := ⟨hh, n, rfl, hn⟩
  simp [w_depth, F_depth, F_ahead, Fs2, on, intOf, lN, wSeq, wIf, wRet, wRetO, wNx, wFor, wAsg, wPar, wOwn, wApp, wExt, wDrop, wSet, wFrz, wWhile, wLcO, wLcD, eVar, bVar, eC, e1, e2, eCall, eCallP, eCallK, aN, aC, eIsi, eIsi2, tV, tNt, tAn, tO, vAn, vO, vNt, eIf, eTu, eLi, fI, fSub, fDivW, fMod, fInt, fAbs, fRep, fAdd, fCI, fMax2, fMin2, fNeg, fLen, fIsN, fNotN, fIx, eSl, fSl, oS, oN, eCh, eF, gN, gNl, gCn, gTu, dEnT, dT, dL, dEn, dLc, dR1, dR2, mD, mO, mN, mLst, mList, mCat, mRep, setE, tYesD, wipeE, env0, envP, isB, L2.atI, L2.ixN]
end Hd
/-! text Lx24 -/
/-! Lx24: walks up and down the tree of moments. -/
namespace Hd
open PySem Dl
def w_ahead_in : DS :=
  (wSeq (wOwn 2 (mLst (aC (eVar 1) aN)))
    (wSeq (wWhile (tV (e2 fNe (e2 fIx (bVar 2) (e1 fNeg (eC (.int 1)))) (eC (.int 0)))) (wApp 2 (e2 fIx (e2 fIx (bVar 0) (e2 fIx (bVar 2) (e1 fNeg (eC (.int 1))))) (eC (.int 0)))))
    (wRet (e1 fRev (bVar 2)))))
def w_below_in : DS :=
  (wSeq (wOwn 2 (mLst (aC (eVar 1) aN)))
    (wSeq (wFor (dR2 (e2 fAdd (bVar 1) (eC (.int 1))) (e1 fLen (bVar 0))) (gN 3) (wIf (tV (e2 (fIn false) (e2 fIx (e2 fIx (bVar 0) (bVar 3)) (eC (.int 0))) (bVar 2))) (wApp 2 (eVar 3)) wNx))
    (wRetO 2)))
def w__law_way : DS :=
  (wSeq (wAsg (eLi (aC (eVar 1) aN)) (gN 2))
    (wSeq (wWhile (tV (e2 fNe (e2 fIx (bVar 2) (eC (.int 0))) (eC (.int 0)))) (wAsg (e2 fAdd (eLi (aC (e2 fIx (e2 fIx (bVar 0) (e2 fIx (bVar 2) (eC (.int 0)))) (eC (.int 0))) aN)) (bVar 2)) (gN 2)))
    (wRet (eVar 2))))

theorem loop_inv {g : DG} {w : DS} {k : DK} (I : Nat → Dl.Env → Prop) : ∀ (ds : List PyData) (n : Nat) (env : Dl.Env),
    (∀ (j : Nat) (d : PyData) (env : Dl.Env) (L : Dl.Env → Prop), ds[j]? = some d → I (n + j) env → (∀ e, I (n + j + 1) e → L e) → g d env fun env1 => w { nx := L, ct := L, bk := k.nx, rt := k.rt } env1) →
    I n env → (∀ e, I (n + ds.length) e → k.nx e) → loopW g w ds k env
  | [], n, env, turn, i, done => by
    rw [loopW_nil]
    exact done env i
  | d :: ds, n, env, turn, i, done => by
    rw [loopW_cons]
    refine turn 0 d env _ rfl i fun e i2 => ?_
    refine loop_inv I ds (n + 1) e (fun j d env L hd hi hL => ?_) i2 (fun e i3 => done e ?_)
    · have e1 : n + (j + 1) = n + 1 + j := by omega
      have := turn (j + 1) d env L (by rw [List.getElem?_cons_succ]; exact hd)
      rw [e1] at this
      exact this hi hL
    · have e1 : n + (d :: ds).length = n + 1 + ds.length := by rw [List.length_cons]; omega
      rw [e1]
      exact i3
theorem goods_get {f : Nat → PyData → Bool} : ∀ {ds : List PyData} {n i : Nat} {d : PyData}, goods f n ds = true → ds[i]? = some d → f (n + i) d = true
  | [], n, i, d, _, e => by simp at e
  | x :: ds, n, 0, d, h, e => by
    unfold goods at h
    simp only [Bool.and_eq_true] at h
    rw [List.getElem?_cons_zero] at e
    cases e
    exact h.1
  | x :: ds, n, i + 1, d, h, e => by
    unfold goods at h
    simp only [Bool.and_eq_true] at h
    rw [List.getElem?_cons_succ] at e
    have := goods_get h.2 e
    have e1 : n + 1 + i = n + (i + 1) := by omega
    rw [e1] at this
    exact this
/-- a moment of a tree: its father stands ahead -/
theorem mom_at {ms : List PyData} (hg : goods momB 0 ms = true) {j : Nat} (h : j < ms.length) : ∃ a b, ms[j]? = some (.tuple [.int (fatN ms j : Nat), a, b]) ∧ (fatN ms j < j ∨ (fatN ms j = 0 ∧ j = 0)) := by
  have e := List.getElem?_eq_getElem h
  have g := goods_get hg e
  unfold momB at g
  split at g
  · rename_i f a b heq
    simp only [Bool.and_eq_true] at g
    obtain ⟨i, rfl⟩ := within_int g.1
    have w := g.1
    simp only [withinB, Bool.and_eq_true, decide_eq_true_eq] at w
    have fe : fatN ms j = i.toNat := by
      unfold fatN
      rw [e, heq]
      rfl
    have ie : (fatN ms j : Int) = i := by rw [fe]; omega
    refine ⟨a, b, ?_, ?_⟩
    · rw [e, heq, ie]
    · rw [fe]
      obtain ⟨w1, w2⟩ := w
      split at w2 <;> omega
  · cases g
theorem up_fuel {ms : List PyData} (hg : goods momB 0 ms = true) : ∀ (k i : Nat), i ≤ k → i < ms.length → upN ms k i = upN ms i i := by
  intro k
  induction k using Nat.strongRecOn with
  | ind k ih =>
    intro i hik hi
    cases k with
    | zero =>
      have : i = 0 := by omega
      subst this
      rfl
    | succ k =>
      cases i with
      | zero => rfl
      | succ i =>
        obtain ⟨a, b, _, h⟩ := mom_at hg hi
        have hf : fatN ms (i + 1) < i + 1 := by omega
        show (if i + 1 = 0 then [0] else (i + 1) :: upN ms k (fatN ms (i + 1))) = (if i + 1 = 0 then [0] else (i + 1) :: upN ms i (fatN ms (i + 1)))
        rw [if_neg (by omega), if_neg (by omega), ih k (by omega) _ (by omega) (by omega), ih i (by omega) _ (by omega) (by omega)]
theorem up_step {ms : List PyData} (hg : goods momB 0 ms = true) {j : Nat} (h0 : j ≠ 0) (h : j < ms.length) : upN ms j j = j :: upN ms (fatN ms j) (fatN ms j) := by
  obtain ⟨a, b, _, hf⟩ := mom_at hg h
  cases j with
  | zero => exact absurd rfl h0
  | succ j =>
    show (if j + 1 = 0 then [0] else (j + 1) :: upN ms j (fatN ms (j + 1))) = _
    rw [if_neg h0, up_fuel hg j (fatN ms (j + 1)) (by omega) (by omega)]
theorem up_len (ms : List PyData) : ∀ (k i : Nat), (upN ms k i).length ≤ k + 1
  | 0, i => Nat.le_refl _
  | k + 1, i => by
    unfold upN
    split
    · simp
    · rw [List.length_cons]
      have := up_len ms k (fatN ms i)
      omega
theorem at_last (l : List PyData) (d : PyData) : L2.atI (l ++ [d]) (-1) = some d := by
  unfold L2.atI L2.ixN
  have h1 : ¬ (0 : Int) ≤ -1 := by omega
  have h2 : -(((l ++ [d]).length : Nat) : Int) ≤ -1 := by rw [List.length_append]; simp; omega
  rw [if_neg h1, if_pos h2]
  have h3 : (-1 + ((l ++ [d]).length : Int)).toNat = l.length := by rw [List.length_append]; simp; omega
  rw [h3]
  simp
theorem at_dN (l : List PyData) (j : Nat) : L2.atI l (j : Int) = l[j]? := by
  unfold L2.atI L2.ixN
  by_cases h : j < l.length
  · have : (j : Int) < (l.length : Int) := by omega
    simp [this]
  · have : ¬ (j : Int) < (l.length : Int) := by omega
    simp [this]
    omega
theorem get_dN (l : List Nat) (i : Nat) (j : Nat) (h : l[i]? = some j) : (l.map dN)[i]? = some (dN j) := by
  rw [List.getElem?_map, h]
  rfl
theorem sh_d1 (n : Nat) : Sh (dN n) := sh_int _
theorem eqv_d0 (n : Nat) : PyData.eqv (dN n) (.int 0) = decide (n = 0) := by
  unfold dN
  rw [eqv_int]
  by_cases h : n = 0 <;> simp [h]
theorem eqv_i0 (n : Nat) : PyData.eqv (.int (n : Int)) (.int 0) = decide (n = 0) := eqv_d0 n
theorem mom_in {ms : List PyData} (hg : goods momB 0 ms = true) {j : Nat} (h : j < ms.length) {P : PyData → Prop} (hP : P (.int (fatN ms j : Nat))) : ∃ d, L2.atI ms (j : Int) = some d ∧ fIx d (.int 0) P := by
  obtain ⟨a, b, e, _⟩ := mom_at hg h
  exact ⟨_, (at_dN ms j).trans e, _, rfl, hP⟩
theorem up_one (ms : List PyData) (k : Nat) : 1 ≤ (upN ms k k).length := by
  cases k <;> unfold upN <;> (try split) <;> simp
theorem l_ahead_in (ds : List PyData) (hp : F_ahead_in.pre ds) : w_ahead_in { nx := fun _ => F_ahead_in.post ds .none, rt := F_ahead_in.post ds } (env0 N_ahead_in ds) := by
  obtain ⟨m, v, rfl, hm, n, rfl, hn⟩ := p2 hp
  obtain ⟨ms, rfl, l1, l2, hg⟩ := len_moments hm
  simp only [tupOf] at hn
  simp only [w_ahead_in, wSeq]
  simp [wSeq, wIf, wRet, wRetO, wNx, wFor, wAsg, wPar, wOwn, wApp, wExt, wDrop, wSet, wFrz, wWhile, wLcO, wLcD, eVar, bVar, eC, e1, e2, eCall, eCallP, eCallK, aN, aC, eIsi, eIsi2, tV, tNt, tAn, tO, vAn, vO, vNt, eIf, eTu, eLi, fI, fSub, fDivW, fMod, fInt, fAbs, fRep, fAdd, fCI, fMax2, fMin2, fNeg, fLen, fIsN, fNotN, fIx, eSl, fSl, oS, oN, eCh, eF, gN, gNl, gCn, gTu, dEnT, dT, dL, dEn, dLc, dR1, dR2, mD, mO, mN, mLst, mList, mCat, mRep, setE, tYesD, wipeE, env0, envP, isB]
  refine ⟨fun k env => ∃ (pre : List Nat) (j : Nat), k = j ∧ j < ms.length ∧ env = [.dat (.tuple ms), .dat (.int (n : Int)), .own (pre.map dN ++ [.int (j : Int)])] ∧ pre ++ upN ms j j = upN ms n n, ⟨n, [], n, rfl, hn, rfl, rfl⟩, ?_⟩
  rintro k env ⟨pre, j, rfl, hj, rfl, hup⟩
  have len : pre.length ≤ 32 := by
    have h1 := congrArg List.length hup
    have h2 := up_len ms n n
    have h3 := up_one ms k
    rw [List.length_append] at h1
    omega
  by_cases hk : k = 0
  · subst hk
    simp [at_last, fNe, sh_int, eqv_int, fRev, F_ahead_in, Fs2, tupOf, intOf, lN, wayN, ← hup, upN, dN, wSeq, wIf, wRet, wRetO, wNx, wFor, wAsg, wPar, wOwn, wApp, wExt, wDrop, wSet, wFrz, wWhile, wLcO, wLcD, eVar, bVar, eC, e1, e2, eCall, eCallP, eCallK, aN, aC, eIsi, eIsi2, tV, tNt, tAn, tO, vAn, vO, vNt, eIf, eTu, eLi, fI, fSub, fDivW, fMod, fInt, fAbs, fRep, fAdd, fCI, fMax2, fMin2, fNeg, fLen, fIsN, fNotN, fIx, eSl, fSl, oS, oN, eCh, eF, gN, gNl, gCn, gTu, dEnT, dT, dL, dEn, dLc, dR1, dR2, mD, mO, mN, mLst, mList, mCat, mRep, setE, tYesD, wipeE, env0, envP, isB]
  · have st := up_step hg hk hj
    obtain ⟨a, b, e, hf⟩ := mom_at hg hj
    have lt : (k : Int) < (ms.length : Int) := by omega
    have hk' : ¬ (k : Int) = 0 := by omega
    simp [at_last, fNe, sh_int, eqv_int, hk, hk', wSeq, wIf, wRet, wRetO, wNx, wFor, wAsg, wPar, wOwn, wApp, wExt, wDrop, wSet, wFrz, wWhile, wLcO, wLcD, eVar, bVar, eC, e1, e2, eCall, eCallP, eCallK, aN, aC, eIsi, eIsi2, tV, tNt, tAn, tO, vAn, vO, vNt, eIf, eTu, eLi, fI, fSub, fDivW, fMod, fInt, fAbs, fRep, fAdd, fCI, fMax2, fMin2, fNeg, fLen, fIsN, fNotN, fIx, eSl, fSl, oS, oN, eCh, eF, gN, gNl, gCn, gTu, dEnT, dT, dL, dEn, dLc, dR1, dR2, mD, mO, mN, mLst, mList, mCat, mRep, setE, tYesD, wipeE, env0, envP, isB]
    refine ⟨_, (at_dN ms k).trans e, _, rfl, ?_⟩
    refine ⟨by omega, fatN ms k, by omega, by omega, pre ++ [k], ?_, ?_⟩
    · simp [dN]
    · rw [List.append_assoc, ← hup, st]
      rfl
theorem l__law_way (ds : List PyData) (hp : F__law_way.pre ds) : w__law_way { nx := fun _ => F__law_way.post ds .none, rt := F__law_way.post ds } (env0 N__law_way ds) := by
  obtain ⟨m, v, rfl, hm, n, rfl, hn⟩ := p2 hp
  obtain ⟨ms, rfl, l1, l2, hg⟩ := len_moments hm
  simp only [tupOf] at hn
  simp only [w__law_way, wSeq]
  simp [wSeq, wIf, wRet, wRetO, wNx, wFor, wAsg, wPar, wOwn, wApp, wExt, wDrop, wSet, wFrz, wWhile, wLcO, wLcD, eVar, bVar, eC, e1, e2, eCall, eCallP, eCallK, aN, aC, eIsi, eIsi2, tV, tNt, tAn, tO, vAn, vO, vNt, eIf, eTu, eLi, fI, fSub, fDivW, fMod, fInt, fAbs, fRep, fAdd, fCI, fMax2, fMin2, fNeg, fLen, fIsN, fNotN, fIx, eSl, fSl, oS, oN, eCh, eF, gN, gNl, gCn, gTu, dEnT, dT, dL, dEn, dLc, dR1, dR2, mD, mO, mN, mLst, mList, mCat, mRep, setE, tYesD, wipeE, env0, envP, isB]
  refine ⟨fun k env => ∃ (rest : List Nat) (j : Nat), k = j ∧ j < ms.length ∧ env = [.dat (.tuple ms), .dat (.int (n : Int)), .dat (.list (.int (j : Int) :: rest.map dN))] ∧ (upN ms j j).reverse ++ rest = (upN ms n n).reverse, ⟨n, [], n, rfl, hn, rfl, by simp⟩, ?_⟩
  rintro k env ⟨rest, j, rfl, hj, rfl, hup⟩
  have len : rest.length ≤ 32 := by
    have h1 := congrArg List.length hup
    have h2 := up_len ms n n
    rw [List.length_append, List.length_reverse, List.length_reverse] at h1
    omega
  by_cases hk : k = 0
  · subst hk
    simp [fNe, sh_int, eqv_int, F__law_way, F_ahead_in, Fs2, tupOf, intOf, lN, wayN, wSeq, wIf, wRet, wRetO, wNx, wFor, wAsg, wPar, wOwn, wApp, wExt, wDrop, wSet, wFrz, wWhile, wLcO, wLcD, eVar, bVar, eC, e1, e2, eCall, eCallP, eCallK, aN, aC, eIsi, eIsi2, tV, tNt, tAn, tO, vAn, vO, vNt, eIf, eTu, eLi, fI, fSub, fDivW, fMod, fInt, fAbs, fRep, fAdd, fCI, fMax2, fMin2, fNeg, fLen, fIsN, fNotN, fIx, eSl, fSl, oS, oN, eCh, eF, gN, gNl, gCn, gTu, dEnT, dT, dL, dEn, dLc, dR1, dR2, mD, mO, mN, mLst, mList, mCat, mRep, setE, tYesD, wipeE, env0, envP, isB, L2.atI, L2.ixN]
    rw [← List.map_reverse, ← hup]
    simp [upN, dN]
  · have st := up_step hg hk hj
    obtain ⟨a, b, e, hf⟩ := mom_at hg hj
    have lt : (k : Int) < (ms.length : Int) := by omega
    have hk' : ¬ (k : Int) = 0 := by omega
    have z0 : ∀ (x : PyData) (l : List PyData), L2.atI (x :: l) 0 = some x := fun x l => by
      have := at_dN (x :: l) 0
      simpa using this
    simp [fNe, sh_int, eqv_int, hk, hk', z0, wSeq, wIf, wRet, wRetO, wNx, wFor, wAsg, wPar, wOwn, wApp, wExt, wDrop, wSet, wFrz, wWhile, wLcO, wLcD, eVar, bVar, eC, e1, e2, eCall, eCallP, eCallK, aN, aC, eIsi, eIsi2, tV, tNt, tAn, tO, vAn, vO, vNt, eIf, eTu, eLi, fI, fSub, fDivW, fMod, fInt, fAbs, fRep, fAdd, fCI, fMax2, fMin2, fNeg, fLen, fIsN, fNotN, fIx, eSl, fSl, oS, oN, eCh, eF, gN, gNl, gCn, gTu, dEnT, dT, dL, dEn, dLc, dR1, dR2, mD, mO, mN, mLst, mList, mCat, mRep, setE, tYesD, wipeE, env0, envP, isB]
    refine ⟨_, (at_dN ms k).trans e, _, z0 _ _, ?_⟩
    simp [fAdd]
    refine ⟨by omega, fatN ms k, by omega, by omega, k :: rest, by simp [dN], ?_⟩
    rw [← hup, st, List.reverse_cons, List.append_assoc]
    rfl
theorem mem_up_le {ms : List PyData} (hg : goods momB 0 ms = true) : ∀ (j : Nat), j < ms.length → ∀ i ∈ upN ms j j, i ≤ j := by
  intro j
  induction j using Nat.strongRecOn with
  | ind j ih =>
    intro hj i hi
    by_cases h0 : j = 0
    · subst h0
      simp [upN] at hi
      omega
    · rw [up_step hg h0 hj] at hi
      obtain ⟨a, b, _, hf⟩ := mom_at hg hj
      rcases List.mem_cons.mp hi with rfl | hi
      · exact Nat.le_refl _
      · have := ih (fatN ms j) (by omega) (by omega) i hi
        omega
theorem way_has {ms : List PyData} (hg : goods momB 0 ms = true) {i j : Nat} (hij : i < j) (hj : j < ms.length) : (wayN ms j).contains i = (wayN ms (fatN ms j)).contains i := by
  unfold wayN
  rw [up_step hg (by omega) hj, List.reverse_cons]
  rw [Bool.eq_iff_iff]
  simp
  omega
theorem way_self (ms : List PyData) (i : Nat) : (wayN ms i).contains i = true := by
  unfold wayN
  cases i <;> unfold upN <;> simp
theorem way_lt {ms : List PyData} (hg : goods momB 0 ms = true) {i j : Nat} (hij : j < i) (hj : j < ms.length) : (wayN ms j).contains i = false := by
  unfold wayN
  have := mem_up_le hg j hj i
  rw [Bool.eq_false_iff]
  intro h
  simp at h
  have := this h
  omega
/-- those below i, up to t -/
def belT (ms : List PyData) (i t : Nat) : List Nat := (List.range t).filter fun j => (wayN ms j).contains i
theorem belT_succ (ms : List PyData) (i t : Nat) : belT ms i (t + 1) = belT ms i t ++ (if (wayN ms t).contains i = true then [t] else []) := by
  unfold belT
  rw [List.range_succ, List.filter_append]
  congr 1
  by_cases hm : i ∈ wayN ms t <;> simp [List.filter, hm]
theorem belT_mem {ms : List PyData} {i t j : Nat} (h : j < t) : (belT ms i t).contains j = (wayN ms j).contains i := by
  unfold belT
  rw [Bool.eq_iff_iff]
  simp [h]
theorem belT_first {ms : List PyData} (hg : goods momB 0 ms = true) {i : Nat} (hi : i < ms.length) : belT ms i (i + 1) = [i] := by
  rw [belT_succ, way_self]
  have : belT ms i i = [] := by
    unfold belT
    rw [List.filter_eq_nil_iff]
    intro j hj
    have lt := List.mem_range.mp hj
    rw [way_lt hg lt (by omega)]
    exact Bool.false_ne_true
  rw [this]
  rfl
theorem l_below_in (ds : List PyData) (hp : F_below_in.pre ds) : w_below_in { nx := fun _ => F_below_in.post ds .none, rt := F_below_in.post ds } (env0 N_below_in ds) := by
  obtain ⟨m, v, rfl, hm, n, rfl, hn⟩ := p2 hp
  obtain ⟨ms, rfl, l1, l2, hg⟩ := len_moments hm
  simp only [tupOf] at hn
  simp only [w_below_in, wSeq]
  simp [wSeq, wIf, wRet, wRetO, wNx, wFor, wAsg, wPar, wOwn, wApp, wExt, wDrop, wSet, wFrz, wWhile, wLcO, wLcD, eVar, bVar, eC, e1, e2, eCall, eCallP, eCallK, aN, aC, eIsi, eIsi2, tV, tNt, tAn, tO, vAn, vO, vNt, eIf, eTu, eLi, fI, fSub, fDivW, fMod, fInt, fAbs, fRep, fAdd, fCI, fMax2, fMin2, fNeg, fLen, fIsN, fNotN, fIx, eSl, fSl, oS, oN, eCh, eF, gN, gNl, gCn, gTu, dEnT, dT, dL, dEn, dLc, dR1, dR2, mD, mO, mN, mLst, mList, mCat, mRep, setE, tYesD, wipeE, env0, envP, isB]
  first | refine ⟨by omega, by omega, by omega, by omega, ?_⟩ | refine ⟨by omega, by omega, by omega, ?_⟩ | refine ⟨by omega, by omega, ?_⟩ | refine ⟨by omega, ?_⟩
  refine loop_inv (I := fun t e => ∃ x, e = [.dat (.tuple ms), .dat (.int (n : Int)), .own ((belT ms n t).map dN), x] ∧ n < t) _ (n + 1) _ (fun j d env L hd hi hL => ?_) ⟨_, by rw [belT_first hg hn]; rfl, by omega⟩ (fun e he => ?_)
  · obtain ⟨x, rfl, hnt⟩ := hi
    obtain ⟨lt, rfl⟩ := rgD_get hd
    have tl : n + 1 + j < ms.length := by omega
    have ct : ((n : Int) + 1 + (j : Nat)) = ((n + 1 + j : Nat) : Int) := by omega
    rw [ct]
    obtain ⟨a, b, e, hf⟩ := mom_at hg tl
    have hf' : fatN ms (n + 1 + j) < n + 1 + j := by omega
    have mem : (belT ms n (n + 1 + j)).contains (fatN ms (n + 1 + j)) = (wayN ms (n + 1 + j)).contains n := by rw [belT_mem hf', ← way_has hg (by omega) tl]
    have ln : (belT ms n (n + 1 + j)).length ≤ 31 := by
      have := List.length_filter_le (fun j => (wayN ms j).contains n) (List.range (n + 1 + j))
      rw [List.length_range] at this
      exact Nat.le_trans this (by omega)
    have sc := belT_succ ms n (n + 1 + j)
    generalize n + 1 + j = t at *
    have z0 : ∀ (x : PyData) (l : List PyData), L2.atI (x :: l) 0 = some x := fun x l => by
      have := at_dN (x :: l) 0
      simpa using this
    simp only [wSeq, wIf, wRet, wRetO, wNx, wFor, wAsg, wPar, wOwn, wApp, wExt, wDrop, wSet, wFrz, wWhile, wLcO, wLcD, eVar, bVar, eC, e1, e2, eCall, eCallP, eCallK, aN, aC, eIsi, eIsi2, tV, tNt, tAn, tO, vAn, vO, vNt, eIf, eTu, eLi, fI, fSub, fDivW, fMod, fInt, fAbs, fRep, fAdd, fCI, fMax2, fMin2, fNeg, fLen, fIsN, fNotN, fIx, eSl, fSl, oS, oN, eCh, eF, gN, gNl, gCn, gTu, dEnT, dT, dL, dEn, dLc, dR1, dR2, mD, mO, mN, mLst, mList, mCat, mRep, setE, tYesD, wipeE, env0, envP, isB, gN, List.set_cons_succ, List.set_cons_zero, List.getElem?_cons_succ, List.getElem?_cons_zero]
    refine ⟨_, (at_dN ms t).trans e, _, z0 _ _, ?_⟩
    simp only [fIn, flt_int, flt_dN, inD_dN, mem, true_and, Bool.false_eq_true, if_false]
    cases hc : (wayN ms t).contains n with
    | false =>
      rw [hc] at sc
      simp at sc
      simp
      exact hL _ ⟨_, by rw [sc], by omega⟩
    | true =>
      rw [hc] at sc
      simp at sc
      simp
      refine ⟨by omega, ?_⟩
      exact hL _ ⟨_, by rw [sc, List.map_append]; rfl, by omega⟩
  · obtain ⟨x, rfl, -⟩ := he
    have le : n + 1 + (rgD ((n : Int) + 1) ((ms.length : Int) - ((n : Int) + 1)).toNat).length = ms.length := by
      unfold rgD
      rw [List.length_map, List.length_range]
      omega
    rw [le]
    simp [wRetO, F_below_in, Fs2, tupOf, intOf, lN, belowN, belT]
end Hd
/-! text Ly24 -/
/-! Ly24: promises told plain, at ends; courses. -/
namespace Hd
open PySem Dl
theorem goods_mem {f : Nat → PyData → Bool} : ∀ {ds : List PyData} {n : Nat}, goods f n ds = true → ∀ d ∈ ds, ∃ i, f i d = true
  | [], n, _, d, hd => by cases hd
  | x :: ds, n, h, d, hd => by
    unfold goods at h
    simp only [Bool.and_eq_true] at h
    rcases List.mem_cons.mp hd with rfl | hd
    · exact ⟨n, h.1⟩
    · exact goods_mem h.2 d hd
theorem pair_two {es : List Nat} {n : Nat} {d : PyData} (h : pairB es n d = true) : ∃ a b, d = .tuple [a, b] := by
  unfold pairB at h
  split at h
  · exact ⟨_, _, rfl⟩
  · cases h
theorem prom_of {ms : List PyData} {p : PyData} (h : promB ms p = true) : ∃ ps, p = .tuple ps ∧ ps.length = ms.length ∧ goods (pairB (endsN ms)) 0 ps = true ∧ ∀ d ∈ ps, ∃ a b, d = .tuple [a, b] := by
  unfold promB at h
  split at h
  · simp only [Bool.and_eq_true, decide_eq_true_eq] at h
    refine ⟨_, rfl, h.1, h.2, fun d hd => ?_⟩
    obtain ⟨i, hi⟩ := goods_mem h.2 d hd
    exact pair_two hi
  · cases h
theorem l_is_plain_promise (ds : List PyData) (hp : F_is_plain_promise.pre ds) : w_is_plain_promise { nx := fun _ => F_is_plain_promise.post ds .none, rt := F_is_plain_promise.post ds } (env0 N_is_plain_promise ds) := by
  obtain ⟨p, rfl, ms, hm, h⟩ := p1 hp
  obtain ⟨ps, rfl, hl, hgp, two⟩ := prom_of h
  obtain ⟨ms', e, l1, l2, hg⟩ := len_moments hm
  cases e
  simp [w_is_plain_promise, wSeq, wIf, wRet, wRetO, wNx, wFor, wAsg, wPar, wOwn, wApp, wExt, wDrop, wSet, wFrz, wWhile, wLcO, wLcD, eVar, bVar, eC, e1, e2, eCall, eCallP, eCallK, aN, aC, eIsi, eIsi2, tV, tNt, tAn, tO, vAn, vO, vNt, eIf, eTu, eLi, fI, fSub, fDivW, fMod, fInt, fAbs, fRep, fAdd, fCI, fMax2, fMin2, fNeg, fLen, fIsN, fNotN, fIx, eSl, fSl, oS, oN, eCh, eF, gN, gNl, gCn, gTu, dEnT, dT, dL, dEn, dLc, dR1, dR2, mD, mO, mN, mLst, mList, mCat, mRep, setE, tYesD, wipeE, env0, envP, isB, L2.atI, L2.ixN]
  refine lc_gen (keep := fun _ => true) (f := fun d => .bool (sndNon d)) ps [] (fun d hd R1 R2 hR => ?_) (by simp; omega) ?_
  · obtain ⟨a, b, rfl⟩ := two d hd
    simp [sndNon] at hR
    simp [hR, wSeq, wIf, wRet, wRetO, wNx, wFor, wAsg, wPar, wOwn, wApp, wExt, wDrop, wSet, wFrz, wWhile, wLcO, wLcD, eVar, bVar, eC, e1, e2, eCall, eCallP, eCallK, aN, aC, eIsi, eIsi2, tV, tNt, tAn, tO, vAn, vO, vNt, eIf, eTu, eLi, fI, fSub, fDivW, fMod, fInt, fAbs, fRep, fAdd, fCI, fMax2, fMin2, fNeg, fLen, fIsN, fNotN, fIx, eSl, fSl, oS, oN, eCh, eF, gN, gNl, gCn, gTu, dEnT, dT, dL, dEn, dLc, dR1, dR2, mD, mO, mN, mLst, mList, mCat, mRep, setE, tYesD, wipeE, env0, envP, isB, L2.atI, L2.ixN]
  · simp [filter_yes, fAll, boolsD_map, F_is_plain_promise, Fs1, plainB]
theorem all_plain {ps : List PyData} : (ps.map sndNon).all id = ps.all sndNon := by
  rw [List.all_map]
  rfl
def endF (es : List Nat) : PyData → PyData
  | .tuple [.int i, p] => .bool (fstNon p || es.contains i.toNat)
  | _ => .none
theorem end_all (es : List Nat) : ∀ (ps : List PyData) (n : Nat), ∃ bs, boolsD ((enF n ps).map (endF es)) = some bs ∧ bs.all id = goods (endPairB es) n ps
  | [], n => ⟨[], rfl, rfl⟩
  | p :: ps, n => by
    obtain ⟨bs, h1, h2⟩ := end_all es ps (n + 1)
    refine ⟨(fstNon p || es.contains n) :: bs, ?_, ?_⟩
    · rw [enF_cons, List.map_cons]
      unfold endF
      unfold boolsD
      have : (enF (n + 1) ps).map (fun x => endF es x) = (enF (n + 1) ps).map (endF es) := rfl
      show Option.map _ (boolsD ((enF (n + 1) ps).map (endF es))) = _
      rw [h1]
      simp
    · rw [List.all_cons, h2]
      rfl
theorem mem_enF : ∀ {ps : List PyData} {n : Nat} {d : PyData}, d ∈ enF n ps → ∃ i p, d = .tuple [.int (i : Nat), p] ∧ p ∈ ps
  | [], n, d, h => by
    rw [enF_nil] at h
    cases h
  | p :: ps, n, d, h => by
    rw [enF_cons] at h
    rcases List.mem_cons.mp h with rfl | h
    · exact ⟨n, p, rfl, List.mem_cons_self ..⟩
    · obtain ⟨i, q, e, hq⟩ := mem_enF h
      exact ⟨i, q, e, List.mem_cons_of_mem _ hq⟩
theorem len_enF (ps : List PyData) (n : Nat) : (enF n ps).length = ps.length := by unfold enF; rw [List.length_map, List.length_zipIdx]
theorem l_is_end_promise (ds : List PyData) (hp : F_is_end_promise.pre ds) : w_is_end_promise { nx := fun _ => F_is_end_promise.post ds .none, rt := F_is_end_promise.post ds } (env0 N_is_end_promise ds) := by
  obtain ⟨m, p, rfl, hm, h⟩ := p2 hp
  obtain ⟨ms, rfl, l1, l2, hg⟩ := len_moments hm
  simp only [tupOf] at h
  obtain ⟨ps, rfl, hl, hgp, two⟩ := prom_of h
  have pre : ∃ ms, momentsB (.tuple ms) = true ∧ promB ms (.tuple ps) = true := ⟨ms, hm, h⟩
  simp only [w_is_end_promise, wSeq]
  cases hpl : plainB (.tuple ps) with
  | false => simp [F_ends_in, F_is_plain_promise, F_is_end_promise, Fs1, Fs2, hm, pre, hpl, endsD, tupOf, endB, wSeq, wIf, wRet, wRetO, wNx, wFor, wAsg, wPar, wOwn, wApp, wExt, wDrop, wSet, wFrz, wWhile, wLcO, wLcD, eVar, bVar, eC, e1, e2, eCall, eCallP, eCallK, aN, aC, eIsi, eIsi2, tV, tNt, tAn, tO, vAn, vO, vNt, eIf, eTu, eLi, fI, fSub, fDivW, fMod, fInt, fAbs, fRep, fAdd, fCI, fMax2, fMin2, fNeg, fLen, fIsN, fNotN, fIx, eSl, fSl, oS, oN, eCh, eF, gN, gNl, gCn, gTu, dEnT, dT, dL, dEn, dLc, dR1, dR2, mD, mO, mN, mLst, mList, mCat, mRep, setE, tYesD, wipeE, env0, envP, isB, L2.atI, L2.ixN]
  | true =>
    simp [F_ends_in, F_is_plain_promise, Fs1, Fs2, hm, pre, hpl, endsD, tupOf, wSeq, wIf, wRet, wRetO, wNx, wFor, wAsg, wPar, wOwn, wApp, wExt, wDrop, wSet, wFrz, wWhile, wLcO, wLcD, eVar, bVar, eC, e1, e2, eCall, eCallP, eCallK, aN, aC, eIsi, eIsi2, tV, tNt, tAn, tO, vAn, vO, vNt, eIf, eTu, eLi, fI, fSub, fDivW, fMod, fInt, fAbs, fRep, fAdd, fCI, fMax2, fMin2, fNeg, fLen, fIsN, fNotN, fIx, eSl, fSl, oS, oN, eCh, eF, gN, gNl, gCn, gTu, dEnT, dT, dL, dEn, dLc, dR1, dR2, mD, mO, mN, mLst, mList, mCat, mRep, setE, tYesD, wipeE, env0, envP, isB, L2.atI, L2.ixN]
    rw [enD_F]
    refine lc_gen (keep := fun _ => true) (f := endF (endsN ms)) (enF 0 ps) [] (fun d hd R1 R2 hR => ?_) (by rw [len_enF]; simp; omega) ?_
    · obtain ⟨i, q, rfl, hq⟩ := mem_enF hd
      obtain ⟨a, b, rfl⟩ := two q hq
      cases ha : isNon a <;> by_cases hc : i ∈ endsN ms <;> simp [endF, fstNon, ha, hc] at hR <;> simp [fIn, flt_int, flt_d1, inD_dN, ha, hc, hR, wSeq, wIf, wRet, wRetO, wNx, wFor, wAsg, wPar, wOwn, wApp, wExt, wDrop, wSet, wFrz, wWhile, wLcO, wLcD, eVar, bVar, eC, e1, e2, eCall, eCallP, eCallK, aN, aC, eIsi, eIsi2, tV, tNt, tAn, tO, vAn, vO, vNt, eIf, eTu, eLi, fI, fSub, fDivW, fMod, fInt, fAbs, fRep, fAdd, fCI, fMax2, fMin2, fNeg, fLen, fIsN, fNotN, fIx, eSl, fSl, oS, oN, eCh, eF, gN, gNl, gCn, gTu, dEnT, dT, dL, dEn, dLc, dR1, dR2, mD, mO, mN, mLst, mList, mCat, mRep, setE, tYesD, wipeE, env0, envP, isB, L2.atI, L2.ixN]
    · obtain ⟨bs, h1, h2⟩ := end_all (endsN ms) ps 0
      simp only [filter_yes, List.nil_append]
      refine ⟨bs, h1, ?_⟩
      simp [F_is_end_promise, Fs2, endB, hpl, tupOf, h2]
theorem pro_at {ps ms : List PyData} {n : Nat} (hn : n < ps.length) (ha : ps.all (promB ms) = true) : ∃ q, ps[n]? = some q ∧ promB ms q = true :=
  ⟨ps[n], List.getElem?_eq_getElem hn, List.all_eq_true.mp ha _ (List.getElem_mem hn)⟩
theorem l_is_plain (ds : List PyData) (hp : F_is_plain.pre ds) : w_is_plain { nx := fun _ => F_is_plain.post ds .none, rt := F_is_plain.post ds } (env0 N_is_plain ds) := by
  obtain ⟨h, v, rfl, hh, n, rfl, hn⟩ := p2 hp
  have on : OnP h (.int (n : Int)) := ⟨hh, n, rfl, hn⟩
  obtain ⟨s, ms, ps, rfl, rfl, hm, hl, ha⟩ := house_of hh.1
  simp only [prosOf] at hn
  obtain ⟨q, e, hq⟩ := pro_at hn ha
  have pre : ∃ ms, momentsB (.tuple ms) = true ∧ promB ms q = true := ⟨ms, hm, hq⟩
  simp [w_is_plain, F_is_plain, F_want_house, F_want_promise, F_is_plain_promise, Fs1, Fs2, hh, on, prosOf, intOf, e, pre, wSeq, wIf, wRet, wRetO, wNx, wFor, wAsg, wPar, wOwn, wApp, wExt, wDrop, wSet, wFrz, wWhile, wLcO, wLcD, eVar, bVar, eC, e1, e2, eCall, eCallP, eCallK, aN, aC, eIsi, eIsi2, tV, tNt, tAn, tO, vAn, vO, vNt, eIf, eTu, eLi, fI, fSub, fDivW, fMod, fInt, fAbs, fRep, fAdd, fCI, fMax2, fMin2, fNeg, fLen, fIsN, fNotN, fIx, eSl, fSl, oS, oN, eCh, eF, gN, gNl, gCn, gTu, dEnT, dT, dL, dEn, dLc, dR1, dR2, mD, mO, mN, mLst, mList, mCat, mRep, setE, tYesD, wipeE, env0, envP, isB, L2.atI, L2.ixN]
theorem l_is_at_ends (ds : List PyData) (hp : F_is_at_ends.pre ds) : w_is_at_ends { nx := fun _ => F_is_at_ends.post ds .none, rt := F_is_at_ends.post ds } (env0 N_is_at_ends ds) := by
  obtain ⟨h, v, rfl, hh, n, rfl, hn⟩ := p2 hp
  have on : OnP h (.int (n : Int)) := ⟨hh, n, rfl, hn⟩
  obtain ⟨s, ms, ps, rfl, rfl, hm, hl, ha⟩ := house_of hh.1
  simp only [prosOf] at hn
  obtain ⟨q, e, hq⟩ := pro_at hn ha
  simp [w_is_at_ends, F_is_at_ends, F_want_house, F_want_promise, F_is_end_promise, Fs1, Fs2, hh, on, prosOf, momsOf, tupOf, intOf, e, hm, hq, wSeq, wIf, wRet, wRetO, wNx, wFor, wAsg, wPar, wOwn, wApp, wExt, wDrop, wSet, wFrz, wWhile, wLcO, wLcD, eVar, bVar, eC, e1, e2, eCall, eCallP, eCallK, aN, aC, eIsi, eIsi2, tV, tNt, tAn, tO, vAn, vO, vNt, eIf, eTu, eLi, fI, fSub, fDivW, fMod, fInt, fAbs, fRep, fAdd, fCI, fMax2, fMin2, fNeg, fLen, fIsN, fNotN, fIx, eSl, fSl, oS, oN, eCh, eF, gN, gNl, gCn, gTu, dEnT, dT, dL, dEn, dLc, dR1, dR2, mD, mO, mN, mLst, mList, mCat, mRep, setE, tYesD, wipeE, env0, envP, isB, L2.atI, L2.ixN]
theorem map_dN (l : List Nat) : l.map dN = (l.map fun n : Nat => (n : Int)).map PyData.int := by
  rw [List.map_map]
  rfl
theorem lN_alike (a b : List Nat) : PySem.W.alike (lN a) (lN b) = true := by
  unfold lN
  rw [map_dN, map_dN, PySem.W.alike]
  exact PySem.W.alike_ints _ _
theorem lN_depth (a : List Nat) : (lN a).depth = 1 := by
  unfold lN
  rw [map_dN, PyData.depth, PySem.W.depth_ints]
theorem l_courses (ds : List PyData) (hp : F_courses.pre ds) : w_courses { nx := fun _ => F_courses.post ds .none, rt := F_courses.post ds } (env0 N_courses ds) := by
  obtain ⟨v, rfl, hh⟩ := p1 hp
  obtain ⟨s, ms, ps, rfl, rfl, hm, hl, ha⟩ := house_of hh.1
  obtain ⟨ms', e, l1, l2, hg⟩ := len_moments hm
  cases e
  have le : (endsN ms).length ≤ 31 := by
    have := List.length_filter_le (fun i => (sonsOf ms i).isEmpty) (List.range ms.length)
    rw [List.length_range] at this
    exact Nat.le_trans this l2
  simp [w_courses, F_want_house, F_ends_in, Fs1, hh, hm, endsD, tupOf, wSeq, wIf, wRet, wRetO, wNx, wFor, wAsg, wPar, wOwn, wApp, wExt, wDrop, wSet, wFrz, wWhile, wLcO, wLcD, eVar, bVar, eC, e1, e2, eCall, eCallP, eCallK, aN, aC, eIsi, eIsi2, tV, tNt, tAn, tO, vAn, vO, vNt, eIf, eTu, eLi, fI, fSub, fDivW, fMod, fInt, fAbs, fRep, fAdd, fCI, fMax2, fMin2, fNeg, fLen, fIsN, fNotN, fIx, eSl, fSl, oS, oN, eCh, eF, gN, gNl, gCn, gTu, dEnT, dT, dL, dEn, dLc, dR1, dR2, mD, mO, mN, mLst, mList, mCat, mRep, setE, tYesD, wipeE, env0, envP, isB, L2.atI, L2.ixN]
  refine lc_gen (keep := fun _ => true) (f := fun d => lN (wayN ms (intOf d).toNat)) _ [] (fun d hd R1 R2 hR => ?_) (by simp; omega) ?_
  · obtain ⟨i, hi, rfl⟩ := List.mem_map.mp hd
    have lt : i < ms.length := List.mem_range.mp (List.mem_filter.mp hi).1
    have om : OnM (.tuple ms) (dN i) := ⟨hm, i, rfl, lt⟩
    simp only [if_true] at hR
    simp [F_ahead_in, Fs2, om, tupOf, hR, wSeq, wIf, wRet, wRetO, wNx, wFor, wAsg, wPar, wOwn, wApp, wExt, wDrop, wSet, wFrz, wWhile, wLcO, wLcD, eVar, bVar, eC, e1, e2, eCall, eCallP, eCallK, aN, aC, eIsi, eIsi2, tV, tNt, tAn, tO, vAn, vO, vNt, eIf, eTu, eLi, fI, fSub, fDivW, fMod, fInt, fAbs, fRep, fAdd, fCI, fMax2, fMin2, fNeg, fLen, fIsN, fNotN, fIx, eSl, fSl, oS, oN, eCh, eF, gN, gNl, gCn, gTu, dEnT, dT, dL, dEn, dLc, dR1, dR2, mD, mO, mN, mLst, mList, mCat, mRep, setE, tYesD, wipeE, env0, envP, isB, L2.atI, L2.ixN]
  · simp only [filter_yes, List.nil_append, List.map_map]
    have ef : ((fun d => lN (wayN ms (intOf d).toNat)) ∘ dN) = fun e => lN (wayN ms e) := by
      funext e
      simp [dN, intOf]
    rw [ef]
    refine ⟨PySem.W.AllAlike.of fun a b => lN_alike _ _, PySem.W.Sortable.others fun b => ⟨by simp [lN], by simp [lN]⟩, by rw [List.length_map]; omega, fun d hd => ?_, ?_⟩
    · obtain ⟨i, _, rfl⟩ := List.mem_map.mp hd
      rw [lN_depth]
      omega
    · simp [F_courses, Fs1, momsOf]
end Hd
/-! text Lz24 -/
/-! Lz24: ratios. -/
namespace Hd
open PySem Dl
def w_is_ratio : DS :=
  (wSeq (wIf (tO (tNt (tV (eCall F_is_row (aC (eVar 0) (aC (eC (.int 2)) aN))))) (tO (tNt (tV (eCall F_is_integer (aC (e2 fIx (bVar 0) (eC (.int 0))) aN)))) (tNt (tV (eCall F_is_integer (aC (e2 fIx (bVar 0) (eC (.int 1))) aN)))))) (wRet (eC (.bool false))) wNx)
    (wRet (vAn (eCh fLt fLt (eC (.int 0)) (e2 fIx (bVar 0) (eC (.int 1))) (eC (.int B4))) (vAn (eCh fLt fLt (e1 fNeg (eC (.int B4))) (e2 fIx (bVar 0) (eC (.int 0))) (eC (.int B4))) (e2 fEq (e2 fGcd (e2 fIx (bVar 0) (eC (.int 0))) (e2 fIx (bVar 0) (eC (.int 1)))) (eC (.int 1)))))))
def w__law_gcd : DS :=
  (wSeq (wPar [0, 1] (mD (e1 fAbs (bVar 0)) (mD (e1 fAbs (bVar 1)) mN)))
    (wSeq (wWhile (tV (e2 fNe (bVar 1) (eC (.int 0)))) (wPar [0, 1] (mD (eVar 1) (mD (e1 fInt (e2 fMod (bVar 0) (bVar 1))) mN))))
    (wRet (eVar 0))))
def w__law_low : DS :=
  (wSeq (wAsg (e2 fRep (eCall F__law_gcd (aC (eVar 0) (aC (eVar 1) aN))) (eIf (tV (e2 fGt (bVar 1) (eC (.int 0)))) (eC (.int 1)) (e1 fNeg (eC (.int 1))))) (gN 2))
    (wRet (eTu (aC (e2 fDivW (bVar 0) (bVar 2)) (aC (e2 fDivW (bVar 1) (bVar 2)) aN)))))
def w__law_is_ratio : DS :=
  (wSeq (wIf (tO (tNt (tV (eIsi "tuple" (bVar 0)))) (tO (tV (e2 fNe (e1 fLen (bVar 0)) (eC (.int 2)))) (tO (tNt (tV (eCall F__law_is_whole (aC (e2 fIx (bVar 0) (eC (.int 0))) aN)))) (tNt (tV (eCall F__law_is_whole (aC (e2 fIx (bVar 0) (eC (.int 1))) aN))))))) (wRet (eC (.bool false))) wNx)
    (wRet (vAn (e2 fGt (e2 fIx (bVar 0) (eC (.int 1))) (eC (.int 0))) (vAn (e2 fLt (e2 fMax2 (e1 fAbs (e2 fIx (bVar 0) (eC (.int 0)))) (e2 fIx (bVar 0) (eC (.int 1)))) (e2 fPowW (e2 fPowW (eC (.int 10)) (eC (.int 50))) (eC (.int 8)))) (e2 fEq (eCall F__law_gcd (aC (e2 fIx (bVar 0) (eC (.int 0))) (aC (e2 fIx (bVar 0) (eC (.int 1))) aN))) (eC (.int 1)))))))

theorem abs_if (i : Int) : (if i < 0 then -i else i) = (i.natAbs : Int) := by
  split <;> omega
theorem l__law_gcd (ds : List PyData) (hp : F__law_gcd.pre ds) : w__law_gcd { nx := fun _ => F__law_gcd.post ds .none, rt := F__law_gcd.post ds } (env0 N__law_gcd ds) := by
  obtain ⟨a, b, rfl, i, j, rfl, rfl⟩ := p2 hp
  simp only [w__law_gcd, wSeq]
  simp [abs_if, wSeq, wIf, wRet, wRetO, wNx, wFor, wAsg, wPar, wOwn, wApp, wExt, wDrop, wSet, wFrz, wWhile, wLcO, wLcD, eVar, bVar, eC, e1, e2, eCall, eCallP, eCallK, aN, aC, eIsi, eIsi2, tV, tNt, tAn, tO, vAn, vO, vNt, eIf, eTu, eLi, fI, fSub, fDivW, fMod, fInt, fAbs, fRep, fAdd, fCI, fMax2, fMin2, fNeg, fLen, fIsN, fNotN, fIx, eSl, fSl, oS, oN, eCh, eF, gN, gNl, gCn, gTu, dEnT, dT, dL, dEn, dLc, dR1, dR2, mD, mO, mN, mLst, mList, mCat, mRep, setE, tYesD, wipeE, env0, envP, isB]
  refine ⟨fun k env => ∃ x y : Nat, k = y ∧ env = [.dat (.int (x : Nat)), .dat (.int (y : Nat))] ∧ Nat.gcd x y = Nat.gcd i.natAbs j.natAbs, ⟨j.natAbs, i.natAbs, j.natAbs, rfl, rfl, rfl⟩, ?_⟩
  rintro k env ⟨x, y, rfl, rfl, hg⟩
  by_cases hk : k = 0
  · subst hk
    simp [fNe, sh_int, eqv_int, F__law_gcd, Fs2, intOf, ← hg, wSeq, wIf, wRet, wRetO, wNx, wFor, wAsg, wPar, wOwn, wApp, wExt, wDrop, wSet, wFrz, wWhile, wLcO, wLcD, eVar, bVar, eC, e1, e2, eCall, eCallP, eCallK, aN, aC, eIsi, eIsi2, tV, tNt, tAn, tO, vAn, vO, vNt, eIf, eTu, eLi, fI, fSub, fDivW, fMod, fInt, fAbs, fRep, fAdd, fCI, fMax2, fMin2, fNeg, fLen, fIsN, fNotN, fIx, eSl, fSl, oS, oN, eCh, eF, gN, gNl, gCn, gTu, dEnT, dT, dL, dEn, dLc, dR1, dR2, mD, mO, mN, mLst, mList, mCat, mRep, setE, tYesD, wipeE, env0, envP, isB]
  · have hk' : ¬ (k : Int) = 0 := by omega
    have fm : Int.fmod (x : Int) (k : Int) = ((x % k : Nat) : Int) := by
      rw [Int.fmod_eq_emod_of_nonneg _ (by omega)]
      rfl
    simp [fNe, sh_int, eqv_int, hk, hk', fm, wSeq, wIf, wRet, wRetO, wNx, wFor, wAsg, wPar, wOwn, wApp, wExt, wDrop, wSet, wFrz, wWhile, wLcO, wLcD, eVar, bVar, eC, e1, e2, eCall, eCallP, eCallK, aN, aC, eIsi, eIsi2, tV, tNt, tAn, tO, vAn, vO, vNt, eIf, eTu, eLi, fI, fSub, fDivW, fMod, fInt, fAbs, fRep, fAdd, fCI, fMax2, fMin2, fNeg, fLen, fIsN, fNotN, fIx, eSl, fSl, oS, oN, eCh, eF, gN, gNl, gCn, gTu, dEnT, dT, dL, dEn, dLc, dR1, dR2, mD, mO, mN, mLst, mList, mCat, mRep, setE, tYesD, wipeE, env0, envP, isB]
    refine ⟨x % k, Nat.mod_lt _ (by omega), k, ⟨rfl, rfl⟩, ?_⟩
    rw [Nat.gcd_comm, ← Nat.gcd_rec, Nat.gcd_comm]
    exact hg
theorem lo_of {n : Nat} {i : Int} (h : i.natAbs < 2 ^ n) (hn : n ≤ 400000) : Lo i := Nat.lt_of_lt_of_le h (Nat.pow_le_pow_right (by decide) hn)
theorem l__law_low (ds : List PyData) (hp : F__law_low.pre ds) : w__law_low { nx := fun _ => F__law_low.post ds .none, rt := F__law_low.post ds } (env0 N__law_low ds) := by
  obtain ⟨a, b, rfl, i, j, rfl, rfl, hj, hi, hj2⟩ := p2 hp
  simp only [w__law_low, wSeq]
  simp [F__law_gcd, Fs2, Two, hj, wSeq, wIf, wRet, wRetO, wNx, wFor, wAsg, wPar, wOwn, wApp, wExt, wDrop, wSet, wFrz, wWhile, wLcO, wLcD, eVar, bVar, eC, e1, e2, eCall, eCallP, eCallK, aN, aC, eIsi, eIsi2, tV, tNt, tAn, tO, vAn, vO, vNt, eIf, eTu, eLi, fI, fSub, fDivW, fMod, fInt, fAbs, fRep, fAdd, fCI, fMax2, fMin2, fNeg, fLen, fIsN, fNotN, fIx, eSl, fSl, oS, oN, eCh, eF, gN, gNl, gCn, gTu, dEnT, dT, dL, dEn, dLc, dR1, dR2, mD, mO, mN, mLst, mList, mCat, mRep, setE, tYesD, wipeE, env0, envP, isB]
  simp only [intOf]
  have gp : 0 < Nat.gcd i.natAbs j.natAbs := Nat.gcd_pos_of_pos_right _ (by omega)
  have gl : Nat.gcd i.natAbs j.natAbs ≤ j.natAbs := Nat.gcd_le_right _ (by omega)
  refine ⟨lo_of (n := 4000) (Nat.lt_of_le_of_lt gl hj2) (by decide), lo_of (n := 1) (by decide) (by decide), ⟨by omega, hi⟩, ⟨by omega, hj2⟩, ?_⟩
  simp [F__law_low, Fs2, intOf, lowD]
theorem l_is_ratio (ds : List PyData) (hp : F_is_ratio.pre ds) : w_is_ratio { nx := fun _ => F_is_ratio.post ds .none, rt := F_is_ratio.post ds } (env0 N_is_ratio ds) := by
  obtain ⟨v, rfl, hd⟩ := p1 hp
  by_cases hr : rowB v (2 : Nat) = true
  · obtain ⟨xs, rfl, hx⟩ := row_of hr
    obtain ⟨a, b, rfl⟩ := two_of hx
    cases a with
    | int a =>
      cases b with
      | int b =>
        by_cases c1 : 0 < b <;> by_cases c2 : b < B4 <;> by_cases c3 : -B4 < a <;> by_cases c4 : a < B4 <;>
          simp [w_is_ratio, F_is_ratio, F_is_row, F_is_integer, Fs1, Fs2, rowB, intOf, isIntB, ratioB, fEq, fGcd, sh_int, eqv_int, c1, c2, c3, c4, wSeq, wIf, wRet, wRetO, wNx, wFor, wAsg, wPar, wOwn, wApp, wExt, wDrop, wSet, wFrz, wWhile, wLcO, wLcD, eVar, bVar, eC, e1, e2, eCall, eCallP, eCallK, aN, aC, eIsi, eIsi2, tV, tNt, tAn, tO, vAn, vO, vNt, eIf, eTu, eLi, fI, fSub, fDivW, fMod, fInt, fAbs, fRep, fAdd, fCI, fMax2, fMin2, fNeg, fLen, fIsN, fNotN, fIx, eSl, fSl, oS, oN, eCh, eF, gN, gNl, gCn, gTu, dEnT, dT, dL, dEn, dLc, dR1, dR2, mD, mO, mN, mLst, mList, mCat, mRep, setE, tYesD, wipeE, env0, envP, isB, L2.atI, L2.ixN]
        all_goals omega
      | _ => simp [w_is_ratio, F_is_ratio, F_is_row, F_is_integer, Fs1, Fs2, rowB, intOf, isIntB, ratioB, wSeq, wIf, wRet, wRetO, wNx, wFor, wAsg, wPar, wOwn, wApp, wExt, wDrop, wSet, wFrz, wWhile, wLcO, wLcD, eVar, bVar, eC, e1, e2, eCall, eCallP, eCallK, aN, aC, eIsi, eIsi2, tV, tNt, tAn, tO, vAn, vO, vNt, eIf, eTu, eLi, fI, fSub, fDivW, fMod, fInt, fAbs, fRep, fAdd, fCI, fMax2, fMin2, fNeg, fLen, fIsN, fNotN, fIx, eSl, fSl, oS, oN, eCh, eF, gN, gNl, gCn, gTu, dEnT, dT, dL, dEn, dLc, dR1, dR2, mD, mO, mN, mLst, mList, mCat, mRep, setE, tYesD, wipeE, env0, envP, isB, L2.atI, L2.ixN]
    | _ => simp [w_is_ratio, F_is_ratio, F_is_row, F_is_integer, Fs1, Fs2, rowB, intOf, isIntB, ratioB, wSeq, wIf, wRet, wRetO, wNx, wFor, wAsg, wPar, wOwn, wApp, wExt, wDrop, wSet, wFrz, wWhile, wLcO, wLcD, eVar, bVar, eC, e1, e2, eCall, eCallP, eCallK, aN, aC, eIsi, eIsi2, tV, tNt, tAn, tO, vAn, vO, vNt, eIf, eTu, eLi, fI, fSub, fDivW, fMod, fInt, fAbs, fRep, fAdd, fCI, fMax2, fMin2, fNeg, fLen, fIsN, fNotN, fIx, eSl, fSl, oS, oN, eCh, eF, gN, gNl, gCn, gTu, dEnT, dT, dL, dEn, dLc, dR1, dR2, mD, mO, mN, mLst, mList, mCat, mRep, setE, tYesD, wipeE, env0, envP, isB, L2.atI, L2.ixN]
  · have hr : rowB v 2 = false := by simpa using row_no hr
    have no : ratioB v = false := by
      unfold ratioB
      split
      · simp [rowB] at hr
      · rfl
    simp [w_is_ratio, F_is_ratio, F_is_row, Fs1, Fs2, intOf, hr, no, wSeq, wIf, wRet, wRetO, wNx, wFor, wAsg, wPar, wOwn, wApp, wExt, wDrop, wSet, wFrz, wWhile, wLcO, wLcD, eVar, bVar, eC, e1, e2, eCall, eCallP, eCallK, aN, aC, eIsi, eIsi2, tV, tNt, tAn, tO, vAn, vO, vNt, eIf, eTu, eLi, fI, fSub, fDivW, fMod, fInt, fAbs, fRep, fAdd, fCI, fMax2, fMin2, fNeg, fLen, fIsN, fNotN, fIx, eSl, fSl, oS, oN, eCh, eF, gN, gNl, gCn, gTu, dEnT, dT, dL, dEn, dLc, dR1, dR2, mD, mO, mN, mLst, mList, mCat, mRep, setE, tYesD, wipeE, env0, envP, isB, L2.atI, L2.ixN]
theorem b4 : B4 = 10000000000000000000000000000000000000000000000000000000000000000000000000000000000000000000000000000000000000000000000000000000000000000000000000000000000000000000000000000000000000000000000000000000000000000000000000000000000000000000000000000000000000000000000000000000000000000000000000000000000000000000000000000000000000000000000000000000000000000000000000000000000000000000000000000000000000000 := rfl
theorem pow50 : ((10 : Int) ^ 50) ^ 8 = B4 := by
  rw [← Int.pow_mul]
  rfl
theorem l__law_is_ratio (ds : List PyData) (hp : F__law_is_ratio.pre ds) : w__law_is_ratio { nx := fun _ => F__law_is_ratio.post ds .none, rt := F__law_is_ratio.post ds } (env0 N__law_is_ratio ds) := by
  obtain ⟨v, rfl, hd⟩ := p1 hp
  cases v with
  | tuple xs =>
    by_cases hx : xs.length = 2
    · obtain ⟨a, b, rfl⟩ := two_of hx
      cases a with
      | int a =>
        cases b with
        | int b =>
          have cp : CPowW 10 50 ∧ CPowW (10 ^ 50) 8 := ⟨⟨by decide, by decide +kernel⟩, ⟨by decide, by decide +kernel⟩⟩
          by_cases c1 : 0 < b <;> by_cases c2 : b < B4 <;> by_cases c3 : -B4 < a <;> by_cases c4 : a < B4 <;>
            simp [w__law_is_ratio, F__law_is_ratio, F_is_ratio, F__law_is_whole, F_is_integer, F__law_gcd, Two, Fs1, Fs2, rowB, intOf, isIntB, ratioB, fEq, fNe, fPowW, cp, pow50, abs_if, sh_int, eqv_int, c1, c2, c3, c4, wSeq, wIf, wRet, wRetO, wNx, wFor, wAsg, wPar, wOwn, wApp, wExt, wDrop, wSet, wFrz, wWhile, wLcO, wLcD, eVar, bVar, eC, e1, e2, eCall, eCallP, eCallK, aN, aC, eIsi, eIsi2, tV, tNt, tAn, tO, vAn, vO, vNt, eIf, eTu, eLi, fI, fSub, fDivW, fMod, fInt, fAbs, fRep, fAdd, fCI, fMax2, fMin2, fNeg, fLen, fIsN, fNotN, fIx, eSl, fSl, oS, oN, eCh, eF, gN, gNl, gCn, gTu, dEnT, dT, dL, dEn, dLc, dR1, dR2, mD, mO, mN, mLst, mList, mCat, mRep, setE, tYesD, wipeE, env0, envP, isB, L2.atI, L2.ixN]
          all_goals rw [← b4]
          all_goals refine ⟨⟨by decide, by decide +kernel⟩, ?_⟩
          all_goals clear cp hp
          all_goals generalize B4 = Z at *
          all_goals (by_cases ab : (a.natAbs : Int) < b)
          all_goals simp only [ab, if_true, if_false]
          all_goals (first | omega | (split <;> omega) | (intro; omega))
        | _ => simp [w__law_is_ratio, F__law_is_ratio, F_is_ratio, F__law_is_whole, F_is_integer, Fs1, Fs2, rowB, intOf, isIntB, ratioB, fNe, sh_int, eqv_int, wSeq, wIf, wRet, wRetO, wNx, wFor, wAsg, wPar, wOwn, wApp, wExt, wDrop, wSet, wFrz, wWhile, wLcO, wLcD, eVar, bVar, eC, e1, e2, eCall, eCallP, eCallK, aN, aC, eIsi, eIsi2, tV, tNt, tAn, tO, vAn, vO, vNt, eIf, eTu, eLi, fI, fSub, fDivW, fMod, fInt, fAbs, fRep, fAdd, fCI, fMax2, fMin2, fNeg, fLen, fIsN, fNotN, fIx, eSl, fSl, oS, oN, eCh, eF, gN, gNl, gCn, gTu, dEnT, dT, dL, dEn, dLc, dR1, dR2, mD, mO, mN, mLst, mList, mCat, mRep, setE, tYesD, wipeE, env0, envP, isB, L2.atI, L2.ixN]
      | _ => simp [w__law_is_ratio, F__law_is_ratio, F_is_ratio, F__law_is_whole, F_is_integer, Fs1, Fs2, rowB, intOf, isIntB, ratioB, fNe, sh_int, eqv_int, wSeq, wIf, wRet, wRetO, wNx, wFor, wAsg, wPar, wOwn, wApp, wExt, wDrop, wSet, wFrz, wWhile, wLcO, wLcD, eVar, bVar, eC, e1, e2, eCall, eCallP, eCallK, aN, aC, eIsi, eIsi2, tV, tNt, tAn, tO, vAn, vO, vNt, eIf, eTu, eLi, fI, fSub, fDivW, fMod, fInt, fAbs, fRep, fAdd, fCI, fMax2, fMin2, fNeg, fLen, fIsN, fNotN, fIx, eSl, fSl, oS, oN, eCh, eF, gN, gNl, gCn, gTu, dEnT, dT, dL, dEn, dLc, dR1, dR2, mD, mO, mN, mLst, mList, mCat, mRep, setE, tYesD, wipeE, env0, envP, isB, L2.atI, L2.ixN]
    · have hx' : ¬ (xs.length : Int) = 2 := by omega
      have no : ratioB (.tuple xs) = false := by
        unfold ratioB
        split
        · rename_i e
          cases e
          exact absurd rfl hx
        · rfl
      simp [w__law_is_ratio, F__law_is_ratio, F_is_ratio, Fs1, fNe, sh_int, eqv_int, hx', no, wSeq, wIf, wRet, wRetO, wNx, wFor, wAsg, wPar, wOwn, wApp, wExt, wDrop, wSet, wFrz, wWhile, wLcO, wLcD, eVar, bVar, eC, e1, e2, eCall, eCallP, eCallK, aN, aC, eIsi, eIsi2, tV, tNt, tAn, tO, vAn, vO, vNt, eIf, eTu, eLi, fI, fSub, fDivW, fMod, fInt, fAbs, fRep, fAdd, fCI, fMax2, fMin2, fNeg, fLen, fIsN, fNotN, fIx, eSl, fSl, oS, oN, eCh, eF, gN, gNl, gCn, gTu, dEnT, dT, dL, dEn, dLc, dR1, dR2, mD, mO, mN, mLst, mList, mCat, mRep, setE, tYesD, wipeE, env0, envP, isB, L2.atI, L2.ixN]
  | _ => simp [w__law_is_ratio, F__law_is_ratio, F_is_ratio, Fs1, ratioB, wSeq, wIf, wRet, wRetO, wNx, wFor, wAsg, wPar, wOwn, wApp, wExt, wDrop, wSet, wFrz, wWhile, wLcO, wLcD, eVar, bVar, eC, e1, e2, eCall, eCallP, eCallK, aN, aC, eIsi, eIsi2, tV, tNt, tAn, tO, vAn, vO, vNt, eIf, eTu, eLi, fI, fSub, fDivW, fMod, fInt, fAbs, fRep, fAdd, fCI, fMax2, fMin2, fNeg, fLen, fIsN, fNotN, fIx, eSl, fSl, oS, oN, eCh, eF, gN, gNl, gCn, gTu, dEnT, dT, dL, dEn, dLc, dR1, dR2, mD, mO, mN, mLst, mList, mCat, mRep, setE, tYesD, wipeE, env0, envP, isB, L2.atI, L2.ixN]
end Hd
/-! text Lp24 -/
/-! Lp24: plans. -/
namespace Hd
open PySem Dl
def w_is_plan_of : DS :=
  (wSeq (wIf (tO (tNt (tV (eCall F_is_row (aC (eVar 1) (aC (e1 fLen (bVar 0)) aN))))) (tNt (tV (e1 fAll (eF (dLc (dT (eVar 1)) (gN 3) tYesD (eCall F_is_ratio (aC (eVar 3) aN)) [3])))))) (wRet (eC (.bool false))) wNx)
    (wRet (e1 fAll (eF (dLc (dL (eCall F_ends_in (aC (eVar 0) aN))) (gN 2) tYesD (e2 fEq (e2 fIx (bVar 1) (bVar 2)) (eC (.tuple [.int 0, .int 1]))) [2])))))
def w_is_plan : DS :=
  (wRet (eCall F_is_plan_of (aC (e2 fIx (eCall F_want_house (aC (eVar 0) aN)) (eC (.int 1))) (aC (eVar 1) aN))))
def w__law_is_plan : DS :=
  (wSeq (wIf (tO (tNt (tV (eIsi "tuple" (bVar 1)))) (tO (tV (e2 fNe (e1 fLen (bVar 1)) (e1 fLen (bVar 0)))) (tNt (tV (e1 fAll (eF (dLc (dT (eVar 1)) (gN 3) tYesD (eCall F__law_is_ratio (aC (eVar 3) aN)) [3]))))))) (wRet (eC (.bool false))) wNx)
    (wRet (e1 fAll (eF (dLc (dL (eCall F__law_ends (aC (eVar 0) aN))) (gN 2) tYesD (e2 fEq (e2 fIx (bVar 1) (bVar 2)) (eTu (aC (eC (.int 0)) (aC (eC (.int 1)) aN)))) [2])))))
def w__law_put : DS :=
  (wRet (e2 fAdd (e2 fAdd (eSl (bVar 0) oN (oS (bVar 1))) (eTu (aC (eVar 2) aN))) (eSl (bVar 0) (oS (e2 fAdd (bVar 1) (eC (.int 1)))) oN)))

theorem depth_el : ∀ {xs : List PyData} {x : PyData}, x ∈ xs → x.depth ≤ PyData.depthAll xs
  | [], x, h => by cases h
  | y :: xs, x, h => by
    rw [PyData.depthAll]
    rcases List.mem_cons.mp h with rfl | h
    · exact Nat.le_max_left _ _
    · exact Nat.le_trans (depth_el h) (Nat.le_max_right _ _)
theorem sh_el {xs : List PyData} (h : SeqAt.shaped (.tuple xs) = true) {x : PyData} (hx : x ∈ xs) : Sh x := by
  have h1 := sh_in h x hx
  have h2 := SeqAt.depth_of_shaped h
  rw [PyData.depth] at h2
  have := depth_el hx
  simp only [Sh, SeqAt.shaped, Bool.and_eq_true, decide_eq_true_eq]
  exact ⟨h1, by omega⟩
theorem sh_nought : Sh (.tuple [.int 0, .int 1]) := by simp [Sh, SeqAt.shaped, PyData.canLay0, PyData.canLayAll0, PyData.depth, PyData.depthAll]
theorem lc_ratio {ps : List PyData} {env : Dl.Env} {g : DG} {ev : DE} {P : List PyData → Prop} (hl : ps.length ≤ 31) (step : ∀ d ∈ ps, ∀ R : PyData → Prop, R (.bool (ratioB d)) → g d env fun env1 => ev env1 R)
    (h : P (ps.map fun d => .bool (ratioB d))) : lcW g tYesD ev env P ps [] := by
  refine lc_gen (keep := fun _ => true) (f := fun d => .bool (ratioB d)) ps [] (fun d hd R1 R2 hR => ?_) (by simp; omega) (by simpa [filter_yes] using h)
  simp only [tYesD, if_true] at hR ⊢
  exact step d hd R1 hR
theorem plan_no {ms : List PyData} {v : PyData} (hr : rowB v (ms.length : Int) = false) : planB ms v = false := by
  cases v with
  | tuple ps =>
    simp only [rowB, decide_eq_false_iff_not] at hr
    have : ¬ ps.length = ms.length := by omega
    simp [planB, this]
  | _ => rfl
theorem ends_le (ms : List PyData) (h : ms.length ≤ 31) : (endsN ms).length ≤ 31 := by
  have := List.length_filter_le (fun i => (sonsOf ms i).isEmpty) (List.range ms.length)
  rw [List.length_range] at this
  exact Nat.le_trans this h
theorem ends_lt {ms : List PyData} {i : Nat} (h : i ∈ endsN ms) : i < ms.length := List.mem_range.mp (List.mem_filter.mp h).1
/-- the last part of a look at a plan -/
theorem lc_nought {ms ps : List PyData} {env : Dl.Env} {g : DG} {ev : DE} {P : List PyData → Prop} (hm : ms.length ≤ 31) (hl : ps.length = ms.length)
    (step : ∀ i ∈ endsN ms, ∀ R : PyData → Prop, R (.bool (PyData.eqv (ps[i]?.getD .none) (.tuple [.int 0, .int 1]))) → g (dN i) env fun env1 => ev env1 R)
    (h : P ((endsN ms).map fun i => .bool (PyData.eqv (ps[i]?.getD .none) (.tuple [.int 0, .int 1])))) : lcW g tYesD ev env P ((endsN ms).map dN) [] := by
  have le := ends_le ms hm
  refine lc_gen (keep := fun _ => true) (f := fun d => .bool (PyData.eqv (ps[(intOf d).toNat]?.getD .none) (.tuple [.int 0, .int 1]))) _ [] (fun d hd R1 R2 hR => ?_) (by simp; omega) ?_
  · obtain ⟨i, hi, rfl⟩ := List.mem_map.mp hd
    simp only [tYesD, if_true] at hR ⊢
    exact step i hi R1 hR
  · simpa [filter_yes, Function.comp_def, dN, intOf] using h
theorem bools_nat (p : Nat → Bool) : ∀ l : List Nat, boolsD (l.map fun i => .bool (p i)) = some (l.map p)
  | [] => rfl
  | a :: l => by
    rw [List.map_cons, List.map_cons]
    unfold boolsD
    rw [bools_nat p l]
    rfl
theorem l_is_plan_of (ds : List PyData) (hp : F_is_plan_of.pre ds) : w_is_plan_of { nx := fun _ => F_is_plan_of.post ds .none, rt := F_is_plan_of.post ds } (env0 N_is_plan_of ds) := by
  obtain ⟨m, v, rfl, hm, hs⟩ := p2 hp
  obtain ⟨ms, rfl, l1, l2, hg⟩ := len_moments hm
  simp only [w_is_plan_of, wSeq]
  by_cases hr : rowB v (ms.length : Nat) = true
  · obtain ⟨ps, rfl, hx⟩ := row_of hr
    simp [F_is_row, Fs2, intOf, hr, wSeq, wIf, wRet, wRetO, wNx, wFor, wAsg, wPar, wOwn, wApp, wExt, wDrop, wSet, wFrz, wWhile, wLcO, wLcD, eVar, bVar, eC, e1, e2, eCall, eCallP, eCallK, aN, aC, eIsi, eIsi2, tV, tNt, tAn, tO, vAn, vO, vNt, eIf, eTu, eLi, fI, fSub, fDivW, fMod, fInt, fAbs, fRep, fAdd, fCI, fMax2, fMin2, fNeg, fLen, fIsN, fNotN, fIx, eSl, fSl, oS, oN, eCh, eF, gN, gNl, gCn, gTu, dEnT, dT, dL, dEn, dLc, dR1, dR2, mD, mO, mN, mLst, mList, mCat, mRep, setE, tYesD, wipeE, env0, envP, isB, L2.atI, L2.ixN]
    refine lc_ratio (by omega) (fun d hd R hR => ?_) ?_
    · simp [F_is_ratio, Fs1, hR, wSeq, wIf, wRet, wRetO, wNx, wFor, wAsg, wPar, wOwn, wApp, wExt, wDrop, wSet, wFrz, wWhile, wLcO, wLcD, eVar, bVar, eC, e1, e2, eCall, eCallP, eCallK, aN, aC, eIsi, eIsi2, tV, tNt, tAn, tO, vAn, vO, vNt, eIf, eTu, eLi, fI, fSub, fDivW, fMod, fInt, fAbs, fRep, fAdd, fCI, fMax2, fMin2, fNeg, fLen, fIsN, fNotN, fIx, eSl, fSl, oS, oN, eCh, eF, gN, gNl, gCn, gTu, dEnT, dT, dL, dEn, dLc, dR1, dR2, mD, mO, mN, mLst, mList, mCat, mRep, setE, tYesD, wipeE, env0, envP, isB, L2.atI, L2.ixN]
    · cases ha : ps.all ratioB with
      | false => 
        have nall : ¬ ∀ x ∈ ps, ratioB x = true := by
          rw [← List.all_eq_true, ha]
          exact Bool.false_ne_true
        simp [fAll, boolsD_map, F_is_plan_of, Fs2, planB, tupOf, nall, wSeq, wIf, wRet, wRetO, wNx, wFor, wAsg, wPar, wOwn, wApp, wExt, wDrop, wSet, wFrz, wWhile, wLcO, wLcD, eVar, bVar, eC, e1, e2, eCall, eCallP, eCallK, aN, aC, eIsi, eIsi2, tV, tNt, tAn, tO, vAn, vO, vNt, eIf, eTu, eLi, fI, fSub, fDivW, fMod, fInt, fAbs, fRep, fAdd, fCI, fMax2, fMin2, fNeg, fLen, fIsN, fNotN, fIx, eSl, fSl, oS, oN, eCh, eF, gN, gNl, gCn, gTu, dEnT, dT, dL, dEn, dLc, dR1, dR2, mD, mO, mN, mLst, mList, mCat, mRep, setE, tYesD, wipeE, env0, envP, isB, L2.atI, L2.ixN]
      | true =>
        have ha' := ha
        simp only [List.all_eq_true] at ha'
        have nex : ¬ ∃ a, a ∈ ps ∧ ratioB a = false := by
          rintro ⟨a, h1, h2⟩
          rw [ha' a h1] at h2
          cases h2
        simp [fAll, boolsD_map, F_ends_in, Fs1, hm, endsD, tupOf, ha', nex, wSeq, wIf, wRet, wRetO, wNx, wFor, wAsg, wPar, wOwn, wApp, wExt, wDrop, wSet, wFrz, wWhile, wLcO, wLcD, eVar, bVar, eC, e1, e2, eCall, eCallP, eCallK, aN, aC, eIsi, eIsi2, tV, tNt, tAn, tO, vAn, vO, vNt, eIf, eTu, eLi, fI, fSub, fDivW, fMod, fInt, fAbs, fRep, fAdd, fCI, fMax2, fMin2, fNeg, fLen, fIsN, fNotN, fIx, eSl, fSl, oS, oN, eCh, eF, gN, gNl, gCn, gTu, dEnT, dT, dL, dEn, dLc, dR1, dR2, mD, mO, mN, mLst, mList, mCat, mRep, setE, tYesD, wipeE, env0, envP, isB, L2.atI, L2.ixN]
        refine lc_nought l2 (by omega) (fun i hi R hR => ?_) ?_
        · have lt := ends_lt hi
          have lt' : i < ps.length := by omega
          have e := List.getElem?_eq_getElem lt'
          rw [e] at hR
          have li : (i : Int) < (ps.length : Int) := by omega
          simp [fEq, dN, li, e, sh_el hs (List.getElem_mem lt'), sh_nought, wSeq, wIf, wRet, wRetO, wNx, wFor, wAsg, wPar, wOwn, wApp, wExt, wDrop, wSet, wFrz, wWhile, wLcO, wLcD, eVar, bVar, eC, e1, e2, eCall, eCallP, eCallK, aN, aC, eIsi, eIsi2, tV, tNt, tAn, tO, vAn, vO, vNt, eIf, eTu, eLi, fI, fSub, fDivW, fMod, fInt, fAbs, fRep, fAdd, fCI, fMax2, fMin2, fNeg, fLen, fIsN, fNotN, fIx, eSl, fSl, oS, oN, eCh, eF, gN, gNl, gCn, gTu, dEnT, dT, dL, dEn, dLc, dR1, dR2, mD, mO, mN, mLst, mList, mCat, mRep, setE, tYesD, wipeE, env0, envP, isB, L2.atI, L2.ixN]
          exact hR
        · refine ⟨_, bools_nat _ _, ?_⟩
          simp [F_is_plan_of, Fs2, planB, tupOf, hx, ha]
  · have hr : rowB v (ms.length : Int) = false := row_no hr
    simp [F_is_row, F_is_plan_of, Fs2, intOf, hr, plan_no hr, tupOf, wSeq, wIf, wRet, wRetO, wNx, wFor, wAsg, wPar, wOwn, wApp, wExt, wDrop, wSet, wFrz, wWhile, wLcO, wLcD, eVar, bVar, eC, e1, e2, eCall, eCallP, eCallK, aN, aC, eIsi, eIsi2, tV, tNt, tAn, tO, vAn, vO, vNt, eIf, eTu, eLi, fI, fSub, fDivW, fMod, fInt, fAbs, fRep, fAdd, fCI, fMax2, fMin2, fNeg, fLen, fIsN, fNotN, fIx, eSl, fSl, oS, oN, eCh, eF, gN, gNl, gCn, gTu, dEnT, dT, dL, dEn, dLc, dR1, dR2, mD, mO, mN, mLst, mList, mCat, mRep, setE, tYesD, wipeE, env0, envP, isB, L2.atI, L2.ixN]
theorem l__law_is_plan (ds : List PyData) (hp : F__law_is_plan.pre ds) : w__law_is_plan { nx := fun _ => F__law_is_plan.post ds .none, rt := F__law_is_plan.post ds } (env0 N__law_is_plan ds) := by
  obtain ⟨m, v, rfl, hm, hs⟩ := p2 hp
  obtain ⟨ms, rfl, l1, l2, hg⟩ := len_moments hm
  simp only [w__law_is_plan, wSeq]
  cases v with
  | tuple ps =>
    by_cases hx : ps.length = ms.length
    · have hx' : (ps.length : Int) = (ms.length : Int) := by omega
      simp [fNe, sh_int, eqv_int, hx', wSeq, wIf, wRet, wRetO, wNx, wFor, wAsg, wPar, wOwn, wApp, wExt, wDrop, wSet, wFrz, wWhile, wLcO, wLcD, eVar, bVar, eC, e1, e2, eCall, eCallP, eCallK, aN, aC, eIsi, eIsi2, tV, tNt, tAn, tO, vAn, vO, vNt, eIf, eTu, eLi, fI, fSub, fDivW, fMod, fInt, fAbs, fRep, fAdd, fCI, fMax2, fMin2, fNeg, fLen, fIsN, fNotN, fIx, eSl, fSl, oS, oN, eCh, eF, gN, gNl, gCn, gTu, dEnT, dT, dL, dEn, dLc, dR1, dR2, mD, mO, mN, mLst, mList, mCat, mRep, setE, tYesD, wipeE, env0, envP, isB, L2.atI, L2.ixN]
      refine lc_ratio (by omega) (fun d hd R hR => ?_) ?_
      · simp [F__law_is_ratio, F_is_ratio, Fs1, hR, wSeq, wIf, wRet, wRetO, wNx, wFor, wAsg, wPar, wOwn, wApp, wExt, wDrop, wSet, wFrz, wWhile, wLcO, wLcD, eVar, bVar, eC, e1, e2, eCall, eCallP, eCallK, aN, aC, eIsi, eIsi2, tV, tNt, tAn, tO, vAn, vO, vNt, eIf, eTu, eLi, fI, fSub, fDivW, fMod, fInt, fAbs, fRep, fAdd, fCI, fMax2, fMin2, fNeg, fLen, fIsN, fNotN, fIx, eSl, fSl, oS, oN, eCh, eF, gN, gNl, gCn, gTu, dEnT, dT, dL, dEn, dLc, dR1, dR2, mD, mO, mN, mLst, mList, mCat, mRep, setE, tYesD, wipeE, env0, envP, isB, L2.atI, L2.ixN]
      · cases ha : ps.all ratioB with
        | false =>
          have nall : ¬ ∀ x ∈ ps, ratioB x = true := by
            rw [← List.all_eq_true, ha]
            exact Bool.false_ne_true
          simp [fAll, boolsD_map, F__law_is_plan, F_is_plan_of, Fs2, planB, tupOf, nall, wSeq, wIf, wRet, wRetO, wNx, wFor, wAsg, wPar, wOwn, wApp, wExt, wDrop, wSet, wFrz, wWhile, wLcO, wLcD, eVar, bVar, eC, e1, e2, eCall, eCallP, eCallK, aN, aC, eIsi, eIsi2, tV, tNt, tAn, tO, vAn, vO, vNt, eIf, eTu, eLi, fI, fSub, fDivW, fMod, fInt, fAbs, fRep, fAdd, fCI, fMax2, fMin2, fNeg, fLen, fIsN, fNotN, fIx, eSl, fSl, oS, oN, eCh, eF, gN, gNl, gCn, gTu, dEnT, dT, dL, dEn, dLc, dR1, dR2, mD, mO, mN, mLst, mList, mCat, mRep, setE, tYesD, wipeE, env0, envP, isB, L2.atI, L2.ixN]
        | true =>
          have ha' := ha
          simp only [List.all_eq_true] at ha'
          have nex : ¬ ∃ a, a ∈ ps ∧ ratioB a = false := by
            rintro ⟨a, h1, h2⟩
            rw [ha' a h1] at h2
            cases h2
          simp [fAll, boolsD_map, F__law_ends, F_ends_in, Fs1, hm, endsD, tupOf, ha', nex, wSeq, wIf, wRet, wRetO, wNx, wFor, wAsg, wPar, wOwn, wApp, wExt, wDrop, wSet, wFrz, wWhile, wLcO, wLcD, eVar, bVar, eC, e1, e2, eCall, eCallP, eCallK, aN, aC, eIsi, eIsi2, tV, tNt, tAn, tO, vAn, vO, vNt, eIf, eTu, eLi, fI, fSub, fDivW, fMod, fInt, fAbs, fRep, fAdd, fCI, fMax2, fMin2, fNeg, fLen, fIsN, fNotN, fIx, eSl, fSl, oS, oN, eCh, eF, gN, gNl, gCn, gTu, dEnT, dT, dL, dEn, dLc, dR1, dR2, mD, mO, mN, mLst, mList, mCat, mRep, setE, tYesD, wipeE, env0, envP, isB, L2.atI, L2.ixN]
          refine lc_nought l2 (by omega) (fun i hi R hR => ?_) ?_
          · have lt := ends_lt hi
            have lt' : i < ps.length := by omega
            have e := List.getElem?_eq_getElem lt'
            rw [e] at hR
            have li : (i : Int) < (ps.length : Int) := by omega
            simp [fEq, dN, li, e, sh_el hs (List.getElem_mem lt'), sh_nought, wSeq, wIf, wRet, wRetO, wNx, wFor, wAsg, wPar, wOwn, wApp, wExt, wDrop, wSet, wFrz, wWhile, wLcO, wLcD, eVar, bVar, eC, e1, e2, eCall, eCallP, eCallK, aN, aC, eIsi, eIsi2, tV, tNt, tAn, tO, vAn, vO, vNt, eIf, eTu, eLi, fI, fSub, fDivW, fMod, fInt, fAbs, fRep, fAdd, fCI, fMax2, fMin2, fNeg, fLen, fIsN, fNotN, fIx, eSl, fSl, oS, oN, eCh, eF, gN, gNl, gCn, gTu, dEnT, dT, dL, dEn, dLc, dR1, dR2, mD, mO, mN, mLst, mList, mCat, mRep, setE, tYesD, wipeE, env0, envP, isB, L2.atI, L2.ixN]
            exact hR
          · refine ⟨_, bools_nat _ _, ?_⟩
            simp [F__law_is_plan, F_is_plan_of, Fs2, planB, tupOf, hx, ha]
    · have hx' : ¬ (ps.length : Int) = (ms.length : Int) := by omega
      have no : planB ms (.tuple ps) = false := by simp [planB, hx]
      simp [F__law_is_plan, F_is_plan_of, Fs2, no, tupOf, fNe, sh_int, eqv_int, hx', wSeq, wIf, wRet, wRetO, wNx, wFor, wAsg, wPar, wOwn, wApp, wExt, wDrop, wSet, wFrz, wWhile, wLcO, wLcD, eVar, bVar, eC, e1, e2, eCall, eCallP, eCallK, aN, aC, eIsi, eIsi2, tV, tNt, tAn, tO, vAn, vO, vNt, eIf, eTu, eLi, fI, fSub, fDivW, fMod, fInt, fAbs, fRep, fAdd, fCI, fMax2, fMin2, fNeg, fLen, fIsN, fNotN, fIx, eSl, fSl, oS, oN, eCh, eF, gN, gNl, gCn, gTu, dEnT, dT, dL, dEn, dLc, dR1, dR2, mD, mO, mN, mLst, mList, mCat, mRep, setE, tYesD, wipeE, env0, envP, isB, L2.atI, L2.ixN]
  | _ => simp [F__law_is_plan, F_is_plan_of, Fs2, planB, tupOf, wSeq, wIf, wRet, wRetO, wNx, wFor, wAsg, wPar, wOwn, wApp, wExt, wDrop, wSet, wFrz, wWhile, wLcO, wLcD, eVar, bVar, eC, e1, e2, eCall, eCallP, eCallK, aN, aC, eIsi, eIsi2, tV, tNt, tAn, tO, vAn, vO, vNt, eIf, eTu, eLi, fI, fSub, fDivW, fMod, fInt, fAbs, fRep, fAdd, fCI, fMax2, fMin2, fNeg, fLen, fIsN, fNotN, fIx, eSl, fSl, oS, oN, eCh, eF, gN, gNl, gCn, gTu, dEnT, dT, dL, dEn, dLc, dR1, dR2, mD, mO, mN, mLst, mList, mCat, mRep, setE, tYesD, wipeE, env0, envP, isB, L2.atI, L2.ixN]
theorem l_is_plan (ds : List PyData) (hp : F_is_plan.pre ds) : w_is_plan { nx := fun _ => F_is_plan.post ds .none, rt := F_is_plan.post ds } (env0 N_is_plan ds) := by
  obtain ⟨h, v, rfl, hh, hs⟩ := p2 hp
  obtain ⟨s, ms, ps, rfl, rfl, hm, hl, ha⟩ := house_of hh.1
  simp [w_is_plan, F_is_plan, F_want_house, F_is_plan_of, Fs1, Fs2, hh, hm, hs, momsOf, tupOf, wSeq, wIf, wRet, wRetO, wNx, wFor, wAsg, wPar, wOwn, wApp, wExt, wDrop, wSet, wFrz, wWhile, wLcO, wLcD, eVar, bVar, eC, e1, e2, eCall, eCallP, eCallK, aN, aC, eIsi, eIsi2, tV, tNt, tAn, tO, vAn, vO, vNt, eIf, eTu, eLi, fI, fSub, fDivW, fMod, fInt, fAbs, fRep, fAdd, fCI, fMax2, fMin2, fNeg, fLen, fIsN, fNotN, fIx, eSl, fSl, oS, oN, eCh, eF, gN, gNl, gCn, gTu, dEnT, dT, dL, dEn, dLc, dR1, dR2, mD, mO, mN, mLst, mList, mCat, mRep, setE, tYesD, wipeE, env0, envP, isB, L2.atI, L2.ixN]
end Hd
/-! text Lg24 -/
/-! Lg24: what is drawn. -/
namespace Hd
open PySem Dl
def w__law_pick : DS :=
  (wRet (e2 fIx (bVar 1) (eCallP F__law_draw 0 (aC (e1 fLen (bVar 1)) aN))))
def w__law_fathers : DS :=
  (wSeq (wAsg (eCallP F__law_draw 0 (aC (eC (.int 7)) aN)) (gN 2))
    (wSeq (wIf (tV (e2 fLt (bVar 2) (eC (.int 2)))) (wRet (e2 fAdd (eLi (aC (eC (.int 0)) aN)) (eF (dLc (dR2 (eC (.int 1)) (eVar 1)) (gN 3) tYesD (eCallP F__law_draw 0 (aC (eVar 3) aN)) [3])))) wNx)
    (wSeq (wIf (tV (e2 fEq (bVar 2) (eC (.int 2)))) (wRet (e2 fAdd (eLi (aC (eC (.int 0)) aN)) (eF (dLc (dR2 (eC (.int 1)) (eVar 1)) (gN 3) tYesD (e2 fDivW (e2 fSub (bVar 3) (eC (.int 1))) (eC (.int 2))) [3])))) wNx)
    (wSeq (wIf (tV (e2 fLt (bVar 2) (eC (.int 5)))) (wRet (e2 fAdd (eLi (aC (eC (.int 0)) aN)) (eF (dLc (dR2 (eC (.int 1)) (eVar 1)) (gN 3) tYesD (eIf (tV (e2 fEq (bVar 2) (eC (.int 3)))) (e2 fSub (bVar 3) (eC (.int 1))) (eC (.int 0))) [3])))) wNx)
    (wSeq (wIf (tV (e2 fEq (bVar 2) (eC (.int 5)))) (wRet (e2 fAdd (eLi (aC (eC (.int 0)) aN)) (eF (dLc (dR2 (eC (.int 1)) (eVar 1)) (gN 3) tYesD (eIf (tV (e2 fLt (bVar 3) (eC (.int 3)))) (eC (.int 0)) (eIf (tV (e2 fEq (e1 fInt (e2 fMod (bVar 3) (eC (.int 2)))) (eC (.int 1)))) (e2 fSub (bVar 3) (eC (.int 2))) (e2 fSub (bVar 3) (eC (.int 3))))) [3])))) wNx)
    (wRet (e2 fAdd (eLi (aC (eC (.int 0)) aN)) (eF (dLc (dR2 (eC (.int 1)) (eVar 1)) (gN 3) tYesD (e2 fMax2 (eC (.int 0)) (e2 fSub (e2 fSub (bVar 3) (eC (.int 1))) (eCallP F__law_draw 0 (aC (eC (.int 3)) aN)))) [3])))))))))

theorem lst_of {ds : List PyData} (h : F__law_pick.pre ds) : ∃ es, ds = [.list es] ∧ 0 < es.length ∧ es.length ≤ 100000 := by
  unfold F__law_pick at h
  dsimp only at h
  split at h
  · exact ⟨_, rfl, h⟩
  · exact h.elim
theorem at_in {es : List PyData} {r : Int} (h0 : 0 ≤ r) (h1 : r < (es.length : Int)) : ∃ d, L2.atI es r = some d ∧ d ∈ es := by
  obtain ⟨n, rfl⟩ : ∃ n : Nat, r = (n : Int) := ⟨r.toNat, by omega⟩
  have lt : n < es.length := by omega
  exact ⟨es[n], (at_dN es n).trans (List.getElem?_eq_getElem lt), List.getElem_mem lt⟩
theorem l__law_pick (ds : List PyData) (hp : F__law_pick.pre ds) : w__law_pick { nx := fun _ => F__law_pick.post ds .none, rt := F__law_pick.post ds } (envP N__law_pick ds) := by
  obtain ⟨es, rfl, h0, h1⟩ := lst_of hp
  simp [w__law_pick, F__law_draw, wSeq, wIf, wRet, wRetO, wNx, wFor, wAsg, wPar, wOwn, wApp, wExt, wDrop, wSet, wFrz, wWhile, wLcO, wLcD, eVar, bVar, eC, e1, e2, eCall, eCallP, eCallK, aN, aC, eIsi, eIsi2, tV, tNt, tAn, tO, vAn, vO, vNt, eIf, eTu, eLi, fI, fSub, fDivW, fMod, fInt, fAbs, fRep, fAdd, fCI, fMax2, fMin2, fNeg, fLen, fIsN, fNotN, fIx, eSl, fSl, oS, oN, eCh, eF, gN, gNl, gCn, gTu, dEnT, dT, dL, dEn, dLc, dR1, dR2, mD, mO, mN, mLst, mList, mCat, mRep, setE, tYesD, wipeE, env0, envP, isB]
  refine ⟨⟨by omega, by omega⟩, ?_⟩
  intro d r hd hr0 hr1
  subst hd
  obtain ⟨x, e, hx⟩ := at_in hr0 hr1
  simp [F__law_pick, e, hx]
theorem int_of {ds : List PyData} (h : F__law_fathers.pre ds) : ∃ m, ds = [.int m] ∧ 1 ≤ m ∧ m ≤ 31 := by
  unfold F__law_fathers at h
  dsimp only at h
  split at h
  · exact ⟨_, rfl, h⟩
  · exact h.elim
/-- [0] + [f(at) for at in range(1, many)], each f(at) from 0 to at - 1 -/
theorem fat_ok {ys : List PyData} {n : Nat} (h : Fa2 (fun x y => ∃ a r : Int, x = .int a ∧ y = .int r ∧ 0 ≤ r ∧ r < a) (rgD 1 n) ys) : ∃ fs, PyData.list (.int 0 :: ys) = lN fs ∧ fs.length = n + 1 ∧ FatOk fs := by
  refine ⟨0 :: ys.map fun y => (intOf y).toNat, ?_, ?_, ?_⟩
  · unfold lN
    rw [List.map_cons, List.map_map]
    congr 2
    refine (List.map_id ys).symm.trans (List.map_congr_left fun y hy => ?_)
    have := h.all (r := fun y => ∃ r : Int, y = .int r ∧ 0 ≤ r) (fun x y ⟨a, r, _, e, p, _⟩ => ⟨r, e, p⟩) y hy
    obtain ⟨r, rfl, p⟩ := this
    simp [dN, intOf]
    omega
  · rw [List.length_cons, List.length_map, ← h.len]
    unfold rgD
    rw [List.length_map, List.length_range]
  · intro i f hf
    cases i with
    | zero =>
      simp at hf
      exact .inr ⟨rfl, hf.symm⟩
    | succ i =>
      rw [List.getElem?_cons_succ, List.getElem?_map] at hf
      cases e : ys[i]? with
      | none => rw [e] at hf; cases hf
      | some y =>
        rw [e] at hf
        obtain ⟨x, hx, a, r, rfl, rfl, p, q⟩ := h.get i y e
        obtain ⟨_, ea⟩ := rgD_get hx
        cases ea
        cases hf
        left
        simp only [intOf]
        omega
theorem sm {i : Int} (h : i.natAbs ≤ 1000) : i.natAbs < 2 ^ 4000 := Nat.lt_of_le_of_lt h (Nat.lt_of_lt_of_le (by decide : 1000 < 2 ^ 10) (Nat.pow_le_pow_right (by decide) (by decide)))
theorem lc_fat {g : DG} {ev : DE} {env : Dl.Env} {P : List PyData → Prop} {n : Nat} (hn : n ≤ 31) (step : ∀ a : Int, 1 ≤ a → a ≤ (n : Int) → ∀ R : PyData → Prop, (∀ r, 0 ≤ r → r < a → R (.int r)) → g (.int a) env fun env1 => ev env1 R)
    (h : ∀ fs ys, PyData.list (.int 0 :: ys) = lN fs → fs.length = n + 1 → FatOk fs → ys.length = n → P ys) : lcW g tYesD ev env P (rgD 1 n) [] := by
  have len : (rgD 1 n).length = n := by
    unfold rgD
    rw [List.length_map, List.length_range]
  refine lc_rel (keep := fun _ => true) (q := fun x y => ∃ a r : Int, x = .int a ∧ y = .int r ∧ 0 ≤ r ∧ r < a) (rgD 1 n) [] (fun d hd R1 R2 hR => ?_) (by rw [len]; simp; omega) (fun ys hys => ?_)
  · obtain ⟨i, hi⟩ := List.getElem?_of_mem hd
    obtain ⟨lt, rfl⟩ := rgD_get hi
    simp only [tYesD, if_true] at hR ⊢
    exact step _ (by omega) (by omega) R1 fun r h0 h1 => hR _ ⟨_, r, rfl, rfl, h0, h1⟩
  · rw [filter_yes] at hys
    obtain ⟨fs, e, l, ok⟩ := fat_ok hys
    exact h fs ys e l ok (by rw [← hys.len, len])
theorem l__law_fathers (ds : List PyData) (hp : F__law_fathers.pre ds) : w__law_fathers { nx := fun _ => F__law_fathers.post ds .none, rt := F__law_fathers.post ds } (envP N__law_fathers ds) := by
  obtain ⟨m, rfl, h1, h2⟩ := int_of hp
  have fin : ∀ fs ys, PyData.list (.int 0 :: ys) = lN fs → fs.length = (m.toNat - 1) + 1 → FatOk fs → ys.length = m.toNat - 1 → 1 + ys.length ≤ 100000 ∧ F__law_fathers.post [.int m] (.list (.int 0 :: ys)) := fun fs ys e l ok ly => by
    refine ⟨by omega, ?_⟩
    show ∃ fs, _
    exact ⟨fs, e, by omega, ok⟩
  simp only [w__law_fathers, wSeq]
  simp [F__law_draw, wSeq, wIf, wRet, wRetO, wNx, wFor, wAsg, wPar, wOwn, wApp, wExt, wDrop, wSet, wFrz, wWhile, wLcO, wLcD, eVar, bVar, eC, e1, e2, eCall, eCallP, eCallK, aN, aC, eIsi, eIsi2, tV, tNt, tAn, tO, vAn, vO, vNt, eIf, eTu, eLi, fI, fSub, fDivW, fMod, fInt, fAbs, fRep, fAdd, fCI, fMax2, fMin2, fNeg, fLen, fIsN, fNotN, fIx, eSl, fSl, oS, oN, eCh, eF, gN, gNl, gCn, gTu, dEnT, dT, dL, dEn, dLc, dR1, dR2, mD, mO, mN, mLst, mList, mCat, mRep, setE, tYesD, wipeE, env0, envP, isB]
  intro d x hd hx0 hx7
  subst hd
  by_cases c1 : x < 2
  · simp [c1]
    refine ⟨by omega, by omega, lc_fat (by omega) (fun a a1 a2 R hR => ?_) fin⟩
    have a0 : 0 < a := by omega
    have a6 : a ≤ 1000000 := by omega
    simp [a0, a6, wSeq, wIf, wRet, wRetO, wNx, wFor, wAsg, wPar, wOwn, wApp, wExt, wDrop, wSet, wFrz, wWhile, wLcO, wLcD, eVar, bVar, eC, e1, e2, eCall, eCallP, eCallK, aN, aC, eIsi, eIsi2, tV, tNt, tAn, tO, vAn, vO, vNt, eIf, eTu, eLi, fI, fSub, fDivW, fMod, fInt, fAbs, fRep, fAdd, fCI, fMax2, fMin2, fNeg, fLen, fIsN, fNotN, fIx, eSl, fSl, oS, oN, eCh, eF, gN, gNl, gCn, gTu, dEnT, dT, dL, dEn, dLc, dR1, dR2, mD, mO, mN, mLst, mList, mCat, mRep, setE, tYesD, wipeE, env0, envP, isB]
    intro d r e r0 r1
    subst e
    exact hR r r0 r1
  · by_cases c2 : x = 2
    · subst c2
      simp [fEq, sh_int, eqv_int]
      refine ⟨by omega, by omega, lc_fat (by omega) (fun a a1 a2 R hR => ?_) fin⟩
      simp [wSeq, wIf, wRet, wRetO, wNx, wFor, wAsg, wPar, wOwn, wApp, wExt, wDrop, wSet, wFrz, wWhile, wLcO, wLcD, eVar, bVar, eC, e1, e2, eCall, eCallP, eCallK, aN, aC, eIsi, eIsi2, tV, tNt, tAn, tO, vAn, vO, vNt, eIf, eTu, eLi, fI, fSub, fDivW, fMod, fInt, fAbs, fRep, fAdd, fCI, fMax2, fMin2, fNeg, fLen, fIsN, fNotN, fIx, eSl, fSl, oS, oN, eCh, eF, gN, gNl, gCn, gTu, dEnT, dT, dL, dEn, dLc, dR1, dR2, mD, mO, mN, mLst, mList, mCat, mRep, setE, tYesD, wipeE, env0, envP, isB]
      refine ⟨⟨by decide, sm (by omega)⟩, hR _ ?_ ?_⟩
      · rw [Int.fdiv_eq_ediv_of_nonneg _ (by decide)]
        omega
      · rw [Int.fdiv_eq_ediv_of_nonneg _ (by decide)]
        omega
    · by_cases c3 : x < 5
      · simp [fEq, sh_int, eqv_int, c1, c2, c3]
        refine ⟨by omega, by omega, lc_fat (by omega) (fun a a1 a2 R hR => ?_) fin⟩
        by_cases c5 : x = 3
        · subst c5
          simp [fEq, sh_int, eqv_int, wSeq, wIf, wRet, wRetO, wNx, wFor, wAsg, wPar, wOwn, wApp, wExt, wDrop, wSet, wFrz, wWhile, wLcO, wLcD, eVar, bVar, eC, e1, e2, eCall, eCallP, eCallK, aN, aC, eIsi, eIsi2, tV, tNt, tAn, tO, vAn, vO, vNt, eIf, eTu, eLi, fI, fSub, fDivW, fMod, fInt, fAbs, fRep, fAdd, fCI, fMax2, fMin2, fNeg, fLen, fIsN, fNotN, fIx, eSl, fSl, oS, oN, eCh, eF, gN, gNl, gCn, gTu, dEnT, dT, dL, dEn, dLc, dR1, dR2, mD, mO, mN, mLst, mList, mCat, mRep, setE, tYesD, wipeE, env0, envP, isB]
          exact hR _ (by omega) (by omega)
        · simp [fEq, sh_int, eqv_int, c5, wSeq, wIf, wRet, wRetO, wNx, wFor, wAsg, wPar, wOwn, wApp, wExt, wDrop, wSet, wFrz, wWhile, wLcO, wLcD, eVar, bVar, eC, e1, e2, eCall, eCallP, eCallK, aN, aC, eIsi, eIsi2, tV, tNt, tAn, tO, vAn, vO, vNt, eIf, eTu, eLi, fI, fSub, fDivW, fMod, fInt, fAbs, fRep, fAdd, fCI, fMax2, fMin2, fNeg, fLen, fIsN, fNotN, fIx, eSl, fSl, oS, oN, eCh, eF, gN, gNl, gCn, gTu, dEnT, dT, dL, dEn, dLc, dR1, dR2, mD, mO, mN, mLst, mList, mCat, mRep, setE, tYesD, wipeE, env0, envP, isB]
          exact hR _ (by omega) (by omega)
      · by_cases c4 : x = 5
        · subst c4
          simp [fEq, sh_int, eqv_int]
          refine ⟨by omega, by omega, lc_fat (by omega) (fun a a1 a2 R hR => ?_) fin⟩
          have fm : Int.fmod a 2 = a % 2 := Int.fmod_eq_emod_of_nonneg _ (by decide)
          by_cases c5 : a < 3
          · simp [fEq, sh_int, eqv_int, c5, wSeq, wIf, wRet, wRetO, wNx, wFor, wAsg, wPar, wOwn, wApp, wExt, wDrop, wSet, wFrz, wWhile, wLcO, wLcD, eVar, bVar, eC, e1, e2, eCall, eCallP, eCallK, aN, aC, eIsi, eIsi2, tV, tNt, tAn, tO, vAn, vO, vNt, eIf, eTu, eLi, fI, fSub, fDivW, fMod, fInt, fAbs, fRep, fAdd, fCI, fMax2, fMin2, fNeg, fLen, fIsN, fNotN, fIx, eSl, fSl, oS, oN, eCh, eF, gN, gNl, gCn, gTu, dEnT, dT, dL, dEn, dLc, dR1, dR2, mD, mO, mN, mLst, mList, mCat, mRep, setE, tYesD, wipeE, env0, envP, isB]
            exact hR _ (by omega) (by omega)
          · by_cases c6 : a % 2 = 1
            · simp [fEq, sh_int, eqv_int, c5, c6, fm, wSeq, wIf, wRet, wRetO, wNx, wFor, wAsg, wPar, wOwn, wApp, wExt, wDrop, wSet, wFrz, wWhile, wLcO, wLcD, eVar, bVar, eC, e1, e2, eCall, eCallP, eCallK, aN, aC, eIsi, eIsi2, tV, tNt, tAn, tO, vAn, vO, vNt, eIf, eTu, eLi, fI, fSub, fDivW, fMod, fInt, fAbs, fRep, fAdd, fCI, fMax2, fMin2, fNeg, fLen, fIsN, fNotN, fIx, eSl, fSl, oS, oN, eCh, eF, gN, gNl, gCn, gTu, dEnT, dT, dL, dEn, dLc, dR1, dR2, mD, mO, mN, mLst, mList, mCat, mRep, setE, tYesD, wipeE, env0, envP, isB]
              exact hR _ (by omega) (by omega)
            · simp [fEq, sh_int, eqv_int, c5, c6, fm, wSeq, wIf, wRet, wRetO, wNx, wFor, wAsg, wPar, wOwn, wApp, wExt, wDrop, wSet, wFrz, wWhile, wLcO, wLcD, eVar, bVar, eC, e1, e2, eCall, eCallP, eCallK, aN, aC, eIsi, eIsi2, tV, tNt, tAn, tO, vAn, vO, vNt, eIf, eTu, eLi, fI, fSub, fDivW, fMod, fInt, fAbs, fRep, fAdd, fCI, fMax2, fMin2, fNeg, fLen, fIsN, fNotN, fIx, eSl, fSl, oS, oN, eCh, eF, gN, gNl, gCn, gTu, dEnT, dT, dL, dEn, dLc, dR1, dR2, mD, mO, mN, mLst, mList, mCat, mRep, setE, tYesD, wipeE, env0, envP, isB]
              exact hR _ (by omega) (by omega)
        · simp [fEq, sh_int, eqv_int, c1, c2, c3, c4]
          refine ⟨by omega, by omega, lc_fat (by omega) (fun a a1 a2 R hR => ?_) fin⟩
          simp [wSeq, wIf, wRet, wRetO, wNx, wFor, wAsg, wPar, wOwn, wApp, wExt, wDrop, wSet, wFrz, wWhile, wLcO, wLcD, eVar, bVar, eC, e1, e2, eCall, eCallP, eCallK, aN, aC, eIsi, eIsi2, tV, tNt, tAn, tO, vAn, vO, vNt, eIf, eTu, eLi, fI, fSub, fDivW, fMod, fInt, fAbs, fRep, fAdd, fCI, fMax2, fMin2, fNeg, fLen, fIsN, fNotN, fIx, eSl, fSl, oS, oN, eCh, eF, gN, gNl, gCn, gTu, dEnT, dT, dL, dEn, dLc, dR1, dR2, mD, mO, mN, mLst, mList, mCat, mRep, setE, tYesD, wipeE, env0, envP, isB]
          intro d r e r0 r1
          subst e
          simp
          exact hR _ (by split <;> omega) (by split <;> omega)
end Hd
/-! text Lh24 -/
/-! Lh24: pays. -/
namespace Hd
open PySem Dl
def w__law_pay : DS :=
  (wSeq (wAsg (eCallP F__law_pick 0 (aC (eLi (aC (eC (.int 5)) (aC (eC (.int 40)) (aC (eC (.int 40)) (aC (eC (.int 999)) aN))))) aN)) (gN 1))
    (wRet (eTu (aC (e2 fSub (eCallP F__law_draw 0 (aC (e2 fAdd (e2 fRep (eC (.int 2)) (bVar 1)) (eC (.int 1))) aN)) (bVar 1)) (aC (eCallP F__law_pick 0 (aC (eLi (aC (eC (.int 0)) (aC (eC (.int 1)) (aC (e1 fNeg (eC (.int 1))) (aC (eC (.int 1)) (aC (eC (.int 0)) (aC (e2 fSub (eCallP F__law_draw 0 (aC (eC (.int 9)) aN)) (eC (.int 4))) (aC (eIf (tV (e2 fGt (bVar 1) (eC (.int 99)))) (e2 fSub (eCallP F__law_draw 0 (aC (eC (.int 1999)) aN)) (eC (.int 999))) (eC (.int 2))) aN)))))))) aN)) aN)))))

theorem nil_of {ds : List PyData} (h : ds.length = 0) : ds = [] := List.length_eq_zero_iff.mp h
theorem lo_sm {i : Int} (h : i.natAbs ≤ 1000) : Lo i := lo_of (n := 4000) (sm h) (by decide)
theorem l__law_pay (ds : List PyData) (hl : ds.length = 0) : w__law_pay { nx := fun _ => F__law_pay.post ds .none, rt := F__law_pay.post ds } (envP N__law_pay ds) := by
  obtain rfl := nil_of hl
  simp only [w__law_pay, wSeq]
  simp [F__law_pick, F__law_draw, wSeq, wIf, wRet, wRetO, wNx, wFor, wAsg, wPar, wOwn, wApp, wExt, wDrop, wSet, wFrz, wWhile, wLcO, wLcD, eVar, bVar, eC, e1, e2, eCall, eCallP, eCallK, aN, aC, eIsi, eIsi2, tV, tNt, tAn, tO, vAn, vO, vNt, eIf, eTu, eLi, fI, fSub, fDivW, fMod, fInt, fAbs, fRep, fAdd, fCI, fMax2, fMin2, fNeg, fLen, fIsN, fNotN, fIx, eSl, fSl, oS, oN, eCh, eF, gN, gNl, gCn, gTu, dEnT, dT, dL, dEn, dLc, dR1, dR2, mD, mO, mN, mLst, mList, mCat, mRep, setE, tYesD, wipeE, env0, envP, isB]
  (repeat' apply And.intro)
  all_goals first
    | exact lo_sm (by decide)
    | (intro d x hd h0 h1; subst hd; intro d y hd h2 h3; subst hd; simp [F__law_pay, payB, withinB]; omega)
    | (intro d x hd h0 h1; subst hd; intro d y hd h2 h3; subst hd; intro d z hd h4 h5; subst hd; simp [F__law_pay, payB, withinB]; omega)
theorem put_of {ds : List PyData} (h : F__law_put.pre ds) : ∃ es i v, ds = [.tuple es, .int (i : Nat), v] ∧ i < es.length ∧ es.length ≤ 1000 := by
  unfold F__law_put at h
  dsimp only at h
  split at h
  · rename_i es i v
    obtain ⟨h0, h1, h2⟩ := h
    exact ⟨es, i.toNat, v, by rw [Int.toNat_of_nonneg h0], by omega, h2⟩
  · exact h.elim
theorem cut_to {α : Type} (es : List α) (i : Nat) (h : i ≤ es.length) : cutG es none (some (i : Int)) = es.take i := by
  unfold cutG HT.sIx
  have n : ¬ (i : Int) < 0 := by omega
  simp [n]
theorem cut_from {α : Type} (es : List α) (i : Nat) (h : i ≤ es.length) : cutG es (some (i : Int)) none = es.drop i := by
  unfold cutG HT.sIx
  have n : ¬ (i : Int) < 0 := by omega
  have m : min i es.length = i := by omega
  simp [n, m]
  rw [List.take_of_length_le (by rw [List.length_drop]; omega)]
theorem l__law_put (ds : List PyData) (hp : F__law_put.pre ds) : w__law_put { nx := fun _ => F__law_put.post ds .none, rt := F__law_put.post ds } (env0 N__law_put ds) := by
  obtain ⟨es, i, v, rfl, hi, hl⟩ := put_of hp
  have c1 : ((i : Int) + 1) = ((i + 1 : Nat) : Int) := by omega
  simp [F__law_put, w__law_put, wSeq, wIf, wRet, wRetO, wNx, wFor, wAsg, wPar, wOwn, wApp, wExt, wDrop, wSet, wFrz, wWhile, wLcO, wLcD, eVar, bVar, eC, e1, e2, eCall, eCallP, eCallK, aN, aC, eIsi, eIsi2, tV, tNt, tAn, tO, vAn, vO, vNt, eIf, eTu, eLi, fI, fSub, fDivW, fMod, fInt, fAbs, fRep, fAdd, fCI, fMax2, fMin2, fNeg, fLen, fIsN, fNotN, fIx, eSl, fSl, oS, oN, eCh, eF, gN, gNl, gCn, gTu, dEnT, dT, dL, dEn, dLc, dR1, dR2, mD, mO, mN, mLst, mList, mCat, mRep, setE, tYesD, wipeE, env0, envP, isB]
  rw [cut_to es i (by omega), c1, cut_from es (i + 1) (by omega)]
  rw [List.set_eq_take_append_cons_drop, if_pos hi]
  simp
  omega
end Hd
/-! text Li24 -/
/-! Li24: drawn ratios. -/
namespace Hd
open PySem Dl
def w__law_any_ratio : DS :=
  (wRet (eCall F__law_low (aC (e2 fSub (eCallP F__law_draw 0 (aC (e2 fAdd (e2 fRep (eC (.int 2)) (bVar 1)) (eC (.int 1))) aN)) (bVar 1)) (aC (e2 fAdd (eC (.int 1)) (eCallP F__law_draw 0 (aC (eVar 2) aN))) aN))))

theorem fdiv_le {i : Int} {g : Nat} : (i.fdiv (g : Int)).natAbs ≤ i.natAbs := by
  rw [Int.fdiv_eq_ediv_of_nonneg _ (Int.natCast_nonneg g)]
  exact Int.natAbs_ediv_le_natAbs i g
/-- lowest terms are no greater -/
theorem low_bd {i j : Int} (hj : 0 < j) : ∃ x y : Int, lowD i j = .tuple [.int x, .int y] ∧ 0 < y ∧ x.natAbs ≤ i.natAbs ∧ y.natAbs ≤ j.natAbs := by
  refine ⟨_, _, rfl, ?_, fdiv_le, fdiv_le⟩
  rw [Int.fdiv_eq_ediv_of_nonneg _ (Int.natCast_nonneg _)]
  have d : ((Nat.gcd i.natAbs j.natAbs : Nat) : Int) ∣ j := Int.ofNat_dvd_left.mpr (Nat.gcd_dvd_right _ _)
  have p : 0 < Nat.gcd i.natAbs j.natAbs := Nat.gcd_pos_of_pos_right _ (by omega)
  exact Int.ediv_pos_of_pos_of_dvd hj (by omega) d
theorem mu_of {ds : List PyData} (h : F__law_any_ratio.pre ds) : ∃ m u, ds = [.int m, .int u] ∧ 0 ≤ m ∧ m ≤ 400 ∧ 1 ≤ u ∧ u ≤ 400 := by
  unfold F__law_any_ratio at h
  dsimp only at h
  split at h
  · exact ⟨_, _, rfl, h⟩
  · exact h.elim
theorem l__law_any_ratio (ds : List PyData) (hp : F__law_any_ratio.pre ds) : w__law_any_ratio { nx := fun _ => F__law_any_ratio.post ds .none, rt := F__law_any_ratio.post ds } (envP N__law_any_ratio ds) := by
  obtain ⟨m, u, rfl, h0, h1, h2, h3⟩ := mu_of hp
  have z1 : 0 < 2 * m + 1 := by omega
  have z2 : 2 * m + 1 ≤ 1000000 := by omega
  have z3 : 0 < u := by omega
  have z4 : u ≤ 1000000 := by omega
  have l2 : Lo 2 := lo_sm (by decide)
  have lm : Lo m := lo_sm (by omega)
  simp [w__law_any_ratio, F__law_draw, F__law_low, Fs2, z1, z2, z3, z4, l2, lm, wSeq, wIf, wRet, wRetO, wNx, wFor, wAsg, wPar, wOwn, wApp, wExt, wDrop, wSet, wFrz, wWhile, wLcO, wLcD, eVar, bVar, eC, e1, e2, eCall, eCallP, eCallK, aN, aC, eIsi, eIsi2, tV, tNt, tAn, tO, vAn, vO, vNt, eIf, eTu, eLi, fI, fSub, fDivW, fMod, fInt, fAbs, fRep, fAdd, fCI, fMax2, fMin2, fNeg, fLen, fIsN, fNotN, fIx, eSl, fSl, oS, oN, eCh, eF, gN, gNl, gCn, gTu, dEnT, dT, dL, dEn, dLc, dR1, dR2, mD, mO, mN, mLst, mList, mCat, mRep, setE, tYesD, wipeE, env0, envP, isB]
  intro d r hd r0 r1
  subst hd
  simp [z1, z2, z3, z4]
  intro d t hd t0 t1
  subst hd
  simp
  refine ⟨⟨_, _, rfl, rfl, by omega, sm (by omega), sm (by omega)⟩, ?_⟩
  obtain ⟨x, y, e, _, b1, b2⟩ := low_bd (i := r - m) (j := 1 + t) (by omega)
  simp only [F__law_any_ratio]
  exact ⟨x, y, e, by omega, by omega⟩
end Hd
/-! text Lj24 -/
/-! Lj24: some of a list. -/
namespace Hd
open PySem Dl
def w__law_some : DS :=
  (wSeq (wOwn 3 (mList (bVar 1)))
    (wSeq (wFor (dR1 (e2 fMax2 (eC (.int 0)) (e2 fSub (e1 fLen (bVar 1)) (e2 fMax2 (eC (.int 1)) (bVar 2))))) (gN 4) (wPop 3 (eCallP F__law_draw 0 (aC (e1 fLen (bVar 3)) aN))))
    (wRetO 3)))

def F__law_some : Fs := ⟨2, fun ds => match ds with | [.list es, .int k] => es.length ≤ 1000 ∧ -1000 ≤ k ∧ k ≤ 1000 | _ => False, fun ds d => match ds with | [.list es, .int _] => ∃ fs, d = .list fs ∧ fs.length ≤ es.length ∧ ∀ x ∈ fs, x ∈ es | _ => True⟩
theorem some_of {ds : List PyData} (h : F__law_some.pre ds) : ∃ es k, ds = [.list es, .int k] ∧ es.length ≤ 1000 ∧ -1000 ≤ k ∧ k ≤ 1000 := by
  unfold F__law_some at h
  dsimp only at h
  split at h
  · exact ⟨_, _, rfl, h⟩
  · exact h.elim
theorem l__law_some (ds : List PyData) (hp : F__law_some.pre ds) : w__law_some { nx := fun _ => F__law_some.post ds .none, rt := F__law_some.post ds } (envP N__law_some ds) := by
  obtain ⟨es, k, rfl, he, k0, k1⟩ := some_of hp
  simp only [w__law_some, wSeq]
  simp [max_if, wSeq, wIf, wRet, wRetO, wNx, wFor, wAsg, wPar, wOwn, wApp, wExt, wDrop, wSet, wFrz, wWhile, wLcO, wLcD, eVar, bVar, eC, e1, e2, eCall, eCallP, eCallK, aN, aC, eIsi, eIsi2, tV, tNt, tAn, tO, vAn, vO, vNt, eIf, eTu, eLi, fI, fSub, fDivW, fMod, fInt, fAbs, fRep, fAdd, fCI, fMax2, fMin2, fNeg, fLen, fIsN, fNotN, fIx, eSl, fSl, oS, oN, eCh, eF, gN, gNl, gCn, gTu, dEnT, dT, dL, dEn, dLc, dR1, dR2, mD, mO, mN, mLst, mList, mCat, mRep, setE, tYesD, wipeE, env0, envP, isB]
  have bd : (if max 1 k < (es.length : Int) then (es.length : Int) - max 1 k else 0).toNat ≤ es.length ∧ (0 < (if max 1 k < (es.length : Int) then (es.length : Int) - max 1 k else 0).toNat → (if max 1 k < (es.length : Int) then (es.length : Int) - max 1 k else 0).toNat < es.length) := by
    split <;> omega
  refine ⟨by split <;> omega, by split <;> omega, ?_⟩
  generalize (if max 1 k < (es.length : Int) then (es.length : Int) - max 1 k else 0).toNat = t at bd
  refine loop_inv (I := fun j e => ∃ fs x, e = [.pot, .dat (.list es), .dat (.int k), .own fs, x] ∧ fs.length + j = es.length ∧ ∀ y ∈ fs, y ∈ es) _ 0 _ (fun j d env L hd hi hL => ?_) ⟨es, _, rfl, rfl, fun _ h => h⟩ (fun e hi => ?_)
  · obtain ⟨fs, x, rfl, hl, hs⟩ := hi
    obtain ⟨lt, rfl⟩ := rgD_get hd
    have lt2 : j < es.length := by omega
    have p0 : 0 < fs.length := by omega
    have p1 : fs.length ≤ 1000000 := by omega
    simp [F__law_draw, wSeq, wIf, wRet, wRetO, wNx, wFor, wAsg, wPar, wOwn, wApp, wExt, wDrop, wSet, wFrz, wWhile, wLcO, wLcD, eVar, bVar, eC, e1, e2, eCall, eCallP, eCallK, aN, aC, eIsi, eIsi2, tV, tNt, tAn, tO, vAn, vO, vNt, eIf, eTu, eLi, fI, fSub, fDivW, fMod, fInt, fAbs, fRep, fAdd, fCI, fMax2, fMin2, fNeg, fLen, fIsN, fNotN, fIx, eSl, fSl, oS, oN, eCh, eF, gN, gNl, gCn, gTu, dEnT, dT, dL, dEn, dLc, dR1, dR2, mD, mO, mN, mLst, mList, mCat, mRep, setE, tYesD, wipeE, env0, envP, isB]
    refine ⟨rfl, (⟨by omega, by omega⟩ : (0 : Int) < ((fs.length : Nat) : Int) ∧ ((fs.length : Nat) : Int) ≤ 1000000), ?_⟩
    rintro d ⟨r, hd2, r0, r1⟩
    subst hd2
    obtain ⟨n, rfl⟩ : ∃ n : Nat, r = (n : Int) := ⟨r.toNat, by omega⟩
    have ln : n < fs.length := by omega
    have sq : seqIndex? (n : Int) fs.length = some n := by
      unfold seqIndex?
      simp [ln]
      try omega
    simp
    refine ⟨by omega, n, sq, ln, ?_⟩
    refine hL _ ⟨_, _, rfl, ?_, fun y hy => hs y (List.mem_of_mem_eraseIdx hy)⟩
    rw [List.length_eraseIdx_of_lt ln]
    omega
  · obtain ⟨fs, x, rfl, hl, hs⟩ := hi
    simp [wRetO, F__law_some]
    exact ⟨by omega, hs⟩
end Hd
/-! text Dl14 -/
/-! Dl14: a tuple backwards; () many times. -/
namespace HT
open PySem PySem.Spec PyProof.Rows
section
variable {prog : Program} {w : World} {A : Around} {E : Value → Shared → Prop} {s : Shared}
theorem rv_adjust (n : Nat) : Builtin.Slice.sliceAdjust none none (-1) (n : Int) = ((n : Int) - 1, -1) := by
  unfold Builtin.Slice.sliceAdjust
  simp
theorem rv_places (n : Nat) : Builtin.Slice.slicePlaces ((n : Int) - 1) (-1) (-1) = n := by
  unfold Builtin.Slice.slicePlaces
  have h1 : ¬ ((-1 : Int) > 0) := by decide
  simp only [h1, if_false]
  have e1 : (- -1 : Int) = 1 := by decide
  rw [e1, Int.ediv_one]
  split <;> omega
theorem rv_applied {sl : Addr} {vs : Value} {n : Nat} {Q : Int × Int × Nat → Shared → Prop} (hs : s.heap.IsSliceOf sl .none .none vs) (ps : IsPart vs (some (-1)))
    (h : Q ((n : Int) - 1, -1, n) s) : wpAny (model prog w) A (Builtin.Slice.sliceApplied (.ref sl) (pure (n : Int))) Q E s := by
  obtain ⟨os, hos, hcs, hds⟩ := id hs
  unfold Builtin.Slice.sliceApplied Builtin.Slice.sliceFields
  refine wpAny_bind (wpAny_bind (wpAny_field hos hds (x := .none) rfl (wpAny_bind (wpAny_field hos hds (x := .none) rfl (wpAny_bind (wpAny_field hos hds (x := vs) rfl (wpAny_pure ?_)))))))
  refine wpAny_bind (slicePart_ ps ?_)
  show wpAny _ _ (if ((-1 : Int) == 0) = true then _ else _) _ _ s
  rw [if_neg (by decide)]
  refine wpAny_bind (slicePart_ .none (wpAny_bind (slicePart_ .none (wpAny_bind (wpAny_pure ?_)))))
  show wpAny _ _ (match Builtin.Slice.sliceAdjust none none (-1) (n : Int) with | (lo, hi) => pure (lo, (-1 : Int), Builtin.Slice.slicePlaces lo hi (-1))) _ _ s
  rw [rv_adjust n]
  show wpAny _ _ (pure ((n : Int) - 1, (-1 : Int), Builtin.Slice.slicePlaces ((n : Int) - 1) (-1) (-1))) _ _ s
  rw [rv_places]
  exact wpAny_pure h
theorem rv_pick (xs : Array Value) : ((List.range xs.size).filterMap fun (k : Nat) => xs[(((xs.size : Nat) : Int) - 1 + (k : Int) * (-1)).toNat]?).toArray = xs.toList.reverse.toArray := by
  have e : ((List.range xs.size).filterMap fun (k : Nat) => xs[(((xs.size : Nat) : Int) - 1 + (k : Int) * (-1)).toNat]?) = ((List.range xs.size).map fun k => xs.size - 1 - k).filterMap (xs[·]?) := by
    rw [List.filterMap_map]
    have g : ∀ l : List Nat, (∀ k ∈ l, k < xs.size) → (l.filterMap fun (k : Nat) => xs[(((xs.size : Nat) : Int) - 1 + (k : Int) * (-1)).toNat]?) = l.filterMap ((xs[·]?) ∘ fun k => xs.size - 1 - k) := by
      intro l
      induction l with
      | nil => intro _; rfl
      | cons k l ih =>
        intro h
        have lt := h k (List.mem_cons_self ..)
        have z : (((xs.size : Nat) : Int) - 1 + (k : Int) * (-1)).toNat = xs.size - 1 - k := by omega
        rw [List.filterMap_cons, List.filterMap_cons, z, ih fun x hx => h x (List.mem_cons_of_mem _ hx)]
        rfl
    exact g _ fun k hk => List.mem_range.mp hk
  rw [e, PySem.W.krv_range, List.filterMap_reverse, PySem.W.krv_all]
theorem getItem_tuple_rv {t sl : Addr} {items : Array Value} {vs : Value} {Q : Value → Shared → Prop} (ht : IsTup s.heap t items) (hs : s.heap.IsSliceOf sl .none .none vs) (ps : IsPart vs (some (-1)))
    (h : Q (.ref s.heap.objs.size) { s with heap := s.heap.push { cls := .type "tuple", data := .seq items.toList.reverse.toArray } })
    (hsz : items.size ≤ sizeLine) : wpAny (model prog w) A (getItem (.ref t) (.ref sl)) Q E s := by
  have htake : sizeOk (.seq items.toList.reverse.toArray) := by
    show items.toList.reverse.toArray.size ≤ sizeLine
    rw [List.size_toArray, List.length_reverse, Array.length_toList]
    exact hsz
  obtain ⟨os, hos, hcs, hds⟩ := id hs
  have hTs : s.TypeIs (.ref sl) "slice" := ⟨os, hos, hcs⟩
  unfold getItem
  try with_reducible refine wpAny_holding ?_
  first | refine wpAny_bind (wpAny_pure ?_) | skip
  refine wpAny_bind (wpAny_sequenceKey ht.typeIs (by decide) ?_)
  refine wpAny_bind (wpAny_callSpecial?_slot (name := Str.ofString "__getitem__") ht.typeIs PyProof.Rows.slot_tuple_getitem
    (wpAny_call_entry PyProof.Rows.slot_tuple_getitem ht.typeIs entry_tuple_getitem ?_ (args_tuple_getitem _ _)))
  show wpAny _ _ (Builtin.Tuple.tupleItemsOf (.ref t) >>= _) _ _ s
  refine wpAny_bind (tupleItemsOf_ ht ?_)
  refine wpAny_bind (wpAny_typeOf hTs ?_)
  rw [if_pos (by decide)]
  refine wpAny_bind (rv_applied (n := items.size) hs ps ?_)
  have hno : ¬ (((((items.size : Nat) : Int) - 1) == 0 && (-1 : Int) == 1 && items.size == items.size) = true) := by
    intro q
    rw [Bool.and_eq_true, Bool.and_eq_true] at q
    exact absurd q.1.2 (by decide)
  show wpAny _ _ (if ((((items.size : Nat) : Int) - 1) == 0 && (-1 : Int) == 1 && items.size == items.size) = true then _ else _) _ _ s
  rw [if_neg hno, rv_pick]
  first
    | exact wpAny_bind (m := Builtin.Tuple.tupleExact _) (wpAny_newObj_type (wpAny_pure ⟨_, rfl, wpAny_pure h⟩) htake)
    | exact wpAny_bind (m := Builtin.Tuple.tupleExact _) (wpAny_newObj_type (wpAny_bind (wpAny_pure (wpAny_pure ⟨_, rfl, wpAny_pure h⟩))) htake)
    | exact wpAny_bind (wpAny_bind (m := Builtin.Tuple.tupleExact _) (wpAny_newObj_type (wpAny_pure (wpAny_pure ⟨_, rfl, wpAny_pure h⟩)) htake))
    | exact wpAny_bind (wpAny_bind (m := Builtin.Tuple.tupleExact _) (wpAny_newObj_type (wpAny_pure ⟨_, rfl, wpAny_pure h⟩) htake))
end
end HT
namespace L2
open PySem PySem.Spec PyProof.Rows
section
variable {X : Cx}
/-- x[::-1] of a list or a tuple -/
def tRevA (K : PySem.W.Frag) (te : TE) : TE := fun σ H Q => te σ H fun x H1 => ∃ a xs, x = .ref a ∧ ((SqL K H1 a xs ∧ ∀ p, H1 p = none → Q (.ref p) (upd H1 p (.lst xs.reverse))) ∨ (SqT K H1 a xs ∧ ∀ p, H1 p = none → Q (.ref p) (upd H1 p (.tup xs.reverse))))
theorem pe_revA {e : Expr} {te : TE} {k : Nat} {p1 p2 p3 pos : Pos} (he : PE X e te) : PE X (.Subscript e (.Slice none none (some (.UnaryOp .USub (.Constant (.int 1) k p1) p2)) p3) pos) (tRevA X.K te) := by
  refine ⟨fun pins s σ H Q I h => ?_⟩
  refine Subscript_ (thn (he.run pins s σ H _ I h) fun v s1 ⟨x, H1, I1, r1, q1⟩ => ?_)
  obtain ⟨a, xs, ex, q1⟩ := q1
  subst ex
  cases r1
  have hst : PO X (some (.UnaryOp .USub (.Constant (.int 1) k p1) p2)) (tPart (tUn (rU fun i => .int (-i)) (tC (.int 1)))) := po_some (pe_un un_neg pe_int)
  refine wpAny_Slice (thn (po_none.run pins s1 σ H1 (fun o H2 => o = none ∧ H2 = H1) I1 ⟨rfl, rfl⟩) fun vl s2 ⟨l, H2, I2, pl, el, e2⟩ => ?_)
  subst el e2
  refine thn (po_none.run pins s2 σ H2 (fun o H3 => o = none ∧ H3 = H2) I2 ⟨rfl, rfl⟩) fun vu s3 ⟨u, H3, I3, pu, eu, e3⟩ => ?_
  subst eu e3
  refine thn (hst.run pins s3 σ H3 (fun o H4 => o = some (-1) ∧ H4 = H3) I3 ⟨1, rfl, -1, rfl, rfl, rfl⟩) fun vs s4 ⟨o, H4, I4, ps, eo, e4⟩ => ?_
  subst eo e4
  have I5 : Inv X pins σ H4 { s4 with heap := s4.heap.push { cls := .type "slice", data := .fields #[vl, vu, vs] } } := I4.kept (t' := s4.toks) fun b ob q => Heap.get?_push_of_some _ q
  show wpAny (model X.prog X.w) X.A (subscriptTail e (.Slice none none (some (.UnaryOp .USub (.Constant (.int 1) k p1) p2)) p3) (.ref a) (.ref s4.heap.objs.size)) (EP X pins σ Q) X.xe { s4 with heap := s4.heap.push { cls := .type "slice", data := .fields #[vl, vu, vs] } }
  rcases q1 with ⟨hx, q⟩ | ⟨hx, q⟩
  · obtain ⟨its, r, ht, hz⟩ := I5.list hx
    have hlen := r.length
    refine tail_any (ops := [.ref a, .ref s4.heap.objs.size]) ht.isList.typeIs (PySem.slot_list_getitem.lookup) ?_ (by with_unfolding_all rfl)
    refine wpAny_getItem_list_slice ht.isList (Heap.IsSliceOf.new _ vl vu vs) pl pu ps (by decide) ?_ (by rw [List.size_toArray]; omega)
    rw [PySem.W.krv_pick]
    refine ⟨.ref _, _, I5.laid (t' := s4.toks) (o := .lst xs.reverse) (fun b ob q => Heap.get?_push_of_some _ q) (Nat.le_refl _) ?_, rfl, q _ (I5.hok.fresh (Nat.le_refl _))⟩
    exact ⟨by rw [List.length_reverse]; exact hz, _, 0, r.reverse, Heap.get?_push_size _ rfl⟩
  · obtain ⟨its, r, ht, hz⟩ := I5.tuple hx
    have hlen := r.length
    have el : vl = .none := by cases pl; rfl
    have eu : vu = .none := by cases pu; rfl
    subst el eu
    refine tail_any (ops := [.ref a, .ref s4.heap.objs.size]) ht.typeIs (PyProof.Rows.slot_tuple_getitem.lookup) ?_ (by with_unfolding_all rfl)
    refine HT.getItem_tuple_rv ht (Heap.IsSliceOf.new _ .none .none vs) ps ?_ (by rw [List.size_toArray]; omega)
    refine ⟨.ref _, _, I5.laid (t' := s4.toks) (o := .tup xs.reverse) (fun b ob q => Heap.get?_push_of_some _ q) (Nat.le_refl _) ?_, rfl, q _ (I5.hok.fresh (Nat.le_refl _))⟩
    exact ⟨by rw [List.length_reverse]; exact hz, _, r.reverse, IsTup.new _ _⟩
/-- () * k -/
theorem tuple_mul0 (l : Addr) (n : Nat) (dd : Option Addr) (sl : Array (Option Value)) (x : Int) (u : Tok) (c0 : (decide (x < -(2 ^ 63)) || decide (x ≥ 2 ^ 63)) = false) :
    Meets (Builtin.«tuple.__mul__» ⟨[.ref l, .int x u], []⟩) (fun _ R s => s.heap.get? l = some { cls := .type "tuple", dict := dd, data := .seq #[] n, slots := sl } ∧ R (.ok (.ret (Value.ref l))) s) :=
  .of_wp fun prog w A R s h => by
    obtain ⟨hp, g, d, tk, os⟩ := s
    obtain ⟨hl, h⟩ := h
    have f1 := AutoSeq1.idx_int
    wp_walk using wpAny_loadPart' hl
    repeat (first
      | (refine wpAny_ite_false (decide_eq_false (by rw [c0]; exact Bool.false_ne_true)) ?_; wp_walk using wpAny_loadPart' hl)
      | (refine wpAny_ite_true (decide_eq_true (by rfl)) ?_; wp_walk using wpAny_loadPart' hl))
    exact ⟨_, rfl, h⟩
def rRep0 (K : PySem.W.Frag) : R2 := fun x y H Q => ∃ l k, x = .ref l ∧ y = .int k ∧ SqT K H l [] ∧ -1000 ≤ k ∧ k ≤ 1000 ∧ Q (.ref l) H
theorem op_rep0 : OpR X (binaryOp .Mult) (rRep0 X.K) := by
  intro pins s σ H x y v u Q I rx ry h
  obtain ⟨l, k, rfl, rfl, hT, h1, h2, q⟩ := h
  cases rx
  obtain ⟨t, rfl⟩ := ry
  obtain ⟨its, r, ⟨⟨cls, dd, data, sl⟩, ho, hc, n, hd⟩, hs⟩ := I.tuple hT
  simp only at hc hd
  subst hc hd
  cases r
  have c0 : (decide (k < -(2 ^ 63)) || decide (k ≥ 2 ^ 63)) = false := by
    rw [decide_eq_false (by omega), decide_eq_false (by omega)] <;> rfl
  exact wpAny_binaryOp_repeat_ref (T := "tuple") (U := "int") (by decide) ⟨_, ho, rfl⟩ (fun s' => typeIs_int s' k t) noFill_tuple_mul F.fills_int_mul F.slot_int_rmul repeat_tuple F.slot_int_index.lookup
    (call_meets F.slot_int_rmul (typeIs_int s k t) F.entry_int_rmul (F.args_int_rmul_2 _ _) (int_rmul_tuple k t l #[] n dd sl)
      ⟨ho, rfl, ⟨_, ho, rfl⟩, call_meets F.slot_tuple_mul ⟨_, ho, rfl⟩ F.entry_tuple_mul (F.args_tuple_mul_2 _ _) (tuple_mul0 l n dd sl k t c0) ⟨ho, ⟨.ref l, H, I, rfl, q⟩⟩⟩)
end
end L2
namespace Dl
open PySem PySem.Spec PyProof.Rows L2
section
variable {X : Cx} {G : Gh} {a b c e : Expr} {ea eb ec : DE} {pos : Pos} {K : PySem.W.Frag}
def fRevA : PyData → (PyData → Prop) → Prop := fun x P => match x with
  | .list ds => P (.list ds.reverse)
  | .tuple ds => P (.tuple ds.reverse)
  | _ => False
theorem ge_revA {k : Nat} {p1 p2 p3 : Pos} (h : GB X G a ea) : GE X G (.Subscript a (.Slice none none (some (.UnaryOp .USub (.Constant (.int 1) k p1) p2)) p3) pos) (e1 fRevA ea) := by
  obtain ⟨t, pe, h⟩ := h
  refine ⟨_, pe_revA pe, fun A σ H env P Q m w q => ?_⟩
  refine h A σ H env _ _ m w fun v H1 d s i w => ?_
  unfold fRevA at w
  split at w
  · obtain ⟨p, xs, rfl, h0, g⟩ := i.list
    exact ⟨p, xs, rfl, .inl ⟨.inl (.inl h0), fun p n => q _ _ _ (s.trans (Step.new n)) (Is.newL (m.step s).al n g.rev) w⟩⟩
  · obtain ⟨p, xs, rfl, h0, g⟩ := i.tuple
    exact ⟨p, xs, rfl, .inr ⟨h0, fun p n => q _ _ _ (s.trans (Step.new n)) (Is.newT (m.step s).al n g.rev) w⟩⟩
  · exact w.elim
/-- times, () too -/
def fRepA : PyData → PyData → (PyData → Prop) → Prop := fun x y P => match x, y with
  | .int i, .int j => Lo i ∧ Lo j ∧ P (.int (i * j))
  | .list ds, .int k => -100000 ≤ k ∧ k ≤ 100000 ∧ ds.length * k.toNat ≤ 100000 ∧ P (.list (List.replicate k.toNat ds).flatten)
  | .tuple ds, .int k => 2 ≤ k ∧ k ≤ 1000 ∧ ds.length ≤ 1000 ∧ P (.tuple (List.replicate k.toNat ds).flatten)
  | _, _ => False
def rMulB (K : PySem.W.Frag) : R2 := fun x y H Q => rMulA K x y H Q ∨ rRep0 K x y H Q
theorem op_mulB : OpR X (binaryOp .Mult) (rMulB X.K) := op_mulA.or op_rep0
theorem rep_nil {α : Type} : ∀ n : Nat, (List.replicate n ([] : List α)).flatten = []
  | 0 => rfl
  | n + 1 => by rw [List.replicate_succ, List.flatten_cons, rep_nil n]; rfl
theorem dr_mulB : DR2 K (rMulB K) fRepA := by
  intro pp A H x y dx dy P Q al hx hy w q
  unfold fRepA at w
  split at w
  · exact .inl (dr_mulA pp A H x y _ _ P Q al hx hy w q)
  · exact .inl (dr_mulA pp A H x y _ _ P Q al hx hy w q)
  · rename_i ds k
    obtain ⟨w1, w2, w3, w⟩ := w
    cases ds with
    | nil =>
      obtain ⟨p, xs, rfl, h, g⟩ := hx.tuple
      cases g
      cases hy.int
      rw [rep_nil] at w
      exact .inr ⟨p, _, rfl, rfl, h, by omega, w2, q _ H _ keep_refl hx.isT w⟩
    | cons d ds => exact .inl (dr_mulA pp A H x y _ _ P Q al hx hy ⟨by simp, w1, w2, w3, w⟩ q)
  · exact w.elim
end
end Dl
/-! text Lm24 -/
/-! Lm24: how long a value is when shown, how deep. -/
namespace Hd
open PySem Dl
mutual
def okB : PyData → Bool
  | .none => true
  | .bool _ => true
  | .int i => decide (i.natAbs < 10000)
  | .str x => x == "house" || x == "House" || x == "0"
  | .list ds => okAll ds
  | .tuple ds => okAll ds
  | .dict _ => false
def okAll : List PyData → Bool
  | [] => true
  | d :: ds => okB d && okAll ds
end
mutual
def mz : PyData → Nat
  | .none => 13
  | .bool _ => 13
  | .int _ => 13
  | .str _ => 13
  | .list ds => mzAll ds + 3
  | .tuple ds => mzAll ds + 3
  | .dict _ => 0
def mzAll : List PyData → Nat
  | [] => 0
  | d :: ds => mz d + 2 + mzAll ds
end
theorem str_ok {x : Str} (h : okB (.str x) = true) : PyData.strOk x = true ∧ (PyData.shown (.str x)).length ≤ 13 := by
  rw [okB] at h
  simp only [Bool.or_eq_true, beq_iff_eq] at h
  rcases h with (rfl | rfl) | rfl <;> exact ⟨by decide +kernel, by decide +kernel⟩
theorem log_sm {i : Int} (h : i.natAbs < 10000) : i.natAbs.log2 < 1920 := by
  by_cases z : i.natAbs = 0
  · rw [z]; decide
  · have := (Nat.log2_lt z (k := 14)).mpr (by omega)
    omega
mutual
theorem ok_show : ∀ d : PyData, okB d = true → d.showable = true ∧ d.canLay0 = true ∧ d.shown.length ≤ mz d
  | .none, _ => by simp only [PyData.showable, PyData.canLay0, mz, true_and]; decide +kernel
  | .bool b, _ => by cases b <;> (simp only [PyData.showable, PyData.canLay0, mz, true_and]; decide +kernel)
  | .int i, h => by
    simp only [okB, decide_eq_true_eq] at h
    simp only [PyData.showable, PyData.canLay0, mz, decide_eq_true_eq, true_and]
    exact ⟨log_sm h, PyData.shown_int_le (Nat.lt_trans h (by decide))⟩
  | .str x, h => by
    obtain ⟨a, b⟩ := str_ok h
    simp only [PyData.showable, PyData.canLay0, mz, true_and]
    exact ⟨a, b⟩
  | .list ds, h => by
    rw [okB] at h
    obtain ⟨a, b, c⟩ := ok_showAll ds h
    simp only [PyData.showable, PyData.canLay0, mz, PyData.shown]
    refine ⟨a, b, ?_⟩
    have := listText_len_le (PyData.shownAll ds)
    omega
  | .tuple ds, h => by
    rw [okB] at h
    obtain ⟨a, b, c⟩ := ok_showAll ds h
    simp only [PyData.showable, PyData.canLay0, mz, PyData.shown]
    refine ⟨a, b, ?_⟩
    have := tupleText_len_le (PyData.shownAll ds)
    omega
  | .dict _, h => by rw [okB] at h; cases h
theorem ok_showAll : ∀ ds : List PyData, okAll ds = true → PyData.showableAll ds = true ∧ PyData.canLayAll0 ds = true ∧ ((PyData.shownAll ds).map (·.length)).sum + 2 * (PyData.shownAll ds).length ≤ mzAll ds
  | [], _ => by simp [PyData.showableAll, PyData.canLayAll0, PyData.shownAll, mzAll]
  | d :: ds, h => by
    rw [okAll, Bool.and_eq_true] at h
    obtain ⟨a, b, c⟩ := ok_show d h.1
    obtain ⟨a2, b2, c2⟩ := ok_showAll ds h.2
    simp only [PyData.showableAll, PyData.canLayAll0, PyData.shownAll, mzAll, a, b, a2, b2, Bool.and_self, true_and, List.map_cons, List.sum_cons, List.length_cons]
    omega
end
theorem okAll_iff : ∀ {ds : List PyData}, okAll ds = true ↔ ∀ d ∈ ds, okB d = true
  | [] => by simp [okAll]
  | d :: ds => by simp [okAll, okAll_iff (ds := ds)]
theorem okAll_app (xs ys : List PyData) : okAll (xs ++ ys) = (okAll xs && okAll ys) := by
  induction xs with
  | nil => simp [okAll]
  | cons x xs ih => simp [okAll, ih, Bool.and_assoc]
theorem mzAll_app (xs ys : List PyData) : mzAll (xs ++ ys) = mzAll xs + mzAll ys := by
  induction xs with
  | nil => simp [mzAll]
  | cons x xs ih => simp [mzAll, ih]; omega
theorem depthAll_app (xs ys : List PyData) : PyData.depthAll (xs ++ ys) = max (PyData.depthAll xs) (PyData.depthAll ys) := by
  induction xs with
  | nil => simp [PyData.depthAll]
  | cons x xs ih => simp [PyData.depthAll, ih] <;> try omega
/-- small things, n signs, k deep -/
structure Va (n k : Nat) (d : PyData) : Prop where
  ok : okB d = true
  mz : mz d ≤ n
  dp : d.depth ≤ k
structure Vs (n k : Nat) (ds : List PyData) : Prop where
  ok : okAll ds = true
  mz : mzAll ds ≤ n
  dp : PyData.depthAll ds ≤ k
theorem Va.mono {n k n' k' : Nat} {d : PyData} (h : Va n k d) (a : n ≤ n') (b : k ≤ k') : Va n' k' d := ⟨h.ok, Nat.le_trans h.mz a, Nat.le_trans h.dp b⟩
theorem Vs.mono {n k n' k' : Nat} {d : List PyData} (h : Vs n k d) (a : n ≤ n') (b : k ≤ k') : Vs n' k' d := ⟨h.ok, Nat.le_trans h.mz a, Nat.le_trans h.dp b⟩
theorem Vs.nil {k : Nat} : Vs 0 k [] := ⟨rfl, by simp [mzAll], by simp [PyData.depthAll]⟩
theorem Vs.cons {n m k : Nat} {d : PyData} {ds : List PyData} (h : Va n k d) (g : Vs m k ds) : Vs (n + 2 + m) k (d :: ds) := by
  obtain ⟨a, b, c⟩ := h
  obtain ⟨a2, b2, c2⟩ := g
  refine ⟨by simp [okAll, a, a2], ?_, ?_⟩
  · rw [mzAll]; omega
  · rw [PyData.depthAll]; omega
theorem Vs.app {n m k : Nat} {xs ys : List PyData} (h : Vs n k xs) (g : Vs m k ys) : Vs (n + m) k (xs ++ ys) := by
  obtain ⟨a, b, c⟩ := h
  obtain ⟨a2, b2, c2⟩ := g
  refine ⟨by simp [okAll_app, a, a2], ?_, ?_⟩
  · rw [mzAll_app]; omega
  · rw [depthAll_app]; omega
theorem Vs.left {n k : Nat} {xs ys : List PyData} (h : Vs n k (xs ++ ys)) : Vs n k xs := by
  obtain ⟨a, b, c⟩ := h
  rw [okAll_app, Bool.and_eq_true] at a
  rw [mzAll_app] at b
  rw [depthAll_app] at c
  exact ⟨a.1, by omega, by omega⟩
theorem Vs.right {n k : Nat} {xs ys : List PyData} (h : Vs n k (xs ++ ys)) : Vs n k ys := by
  obtain ⟨a, b, c⟩ := h
  rw [okAll_app, Bool.and_eq_true] at a
  rw [mzAll_app] at b
  rw [depthAll_app] at c
  exact ⟨a.2, by omega, by omega⟩
theorem Vs.take {n k : Nat} {xs : List PyData} (h : Vs n k xs) (i : Nat) : Vs n k (xs.take i) := Vs.left (ys := xs.drop i) (by rw [List.take_append_drop]; exact h)
theorem Vs.drop {n k : Nat} {xs : List PyData} (h : Vs n k xs) (i : Nat) : Vs n k (xs.drop i) := Vs.right (xs := xs.take i) (by rw [List.take_append_drop]; exact h)
theorem Vs.rev {n k : Nat} {xs : List PyData} (h : Vs n k xs) : Vs n k xs.reverse := by
  have e1 : okAll xs.reverse = okAll xs := by
    induction xs with
    | nil => rfl
    | cons x xs ih =>
      have h2 : Vs n k xs := Vs.right (xs := [x]) h
      rw [List.reverse_cons, okAll_app, ih h2]
      simp [okAll, Bool.and_comm]
  have e2 : mzAll xs.reverse = mzAll xs := by
    clear h e1
    induction xs with
    | nil => rfl
    | cons x xs ih =>
      rw [List.reverse_cons, mzAll_app, ih]
      simp [mzAll]; omega
  have e3 : PyData.depthAll xs.reverse = PyData.depthAll xs := by
    clear h e1 e2
    induction xs with
    | nil => rfl
    | cons x xs ih =>
      rw [List.reverse_cons, depthAll_app, ih]
      simp [PyData.depthAll]; omega
  exact ⟨by rw [e1]; exact h.ok, by rw [e2]; exact h.mz, by rw [e3]; exact h.dp⟩
theorem Vs.mem {n k : Nat} {xs : List PyData} (h : Vs n k xs) {x : PyData} (hx : x ∈ xs) : Va n k x := by
  obtain ⟨a, b, rfl⟩ := List.append_of_mem hx
  obtain ⟨p, q, r⟩ := h.right
  rw [okAll, Bool.and_eq_true] at p
  rw [mzAll] at q
  rw [PyData.depthAll] at r
  exact ⟨p.1, by omega, by omega⟩
theorem Vs.all {n k m : Nat} : ∀ {xs : List PyData}, (∀ x ∈ xs, Va n k x) → xs.length ≤ m → Vs (m * (n + 2)) k xs
  | [], _, _ => (Vs.nil).mono (Nat.zero_le _) (Nat.le_refl _)
  | x :: xs, h, l => by
    rw [List.length_cons] at l
    obtain ⟨m, rfl⟩ : ∃ m', m = m' + 1 := ⟨m - 1, by omega⟩
    have := Vs.cons (h x (List.mem_cons_self ..)) (Vs.all (m := m) (fun y hy => h y (List.mem_cons_of_mem _ hy)) (by omega))
    refine this.mono ?_ (Nat.le_refl _)
    rw [Nat.succ_mul]
    omega
theorem Va.tup {n k : Nat} {ds : List PyData} (h : Vs n k ds) : Va (n + 3) (k + 1) (.tuple ds) := ⟨by rw [okB]; exact h.ok, by rw [Hd.mz]; have := h.mz; omega, by rw [PyData.depth]; have := h.dp; omega⟩
theorem Va.lst {n k : Nat} {ds : List PyData} (h : Vs n k ds) : Va (n + 3) (k + 1) (.list ds) := ⟨by rw [okB]; exact h.ok, by rw [Hd.mz]; have := h.mz; omega, by rw [PyData.depth]; have := h.dp; omega⟩
theorem Va.ofT {n k : Nat} {ds : List PyData} (h : Va n k (.tuple ds)) : Vs (n - 3) (k - 1) ds ∧ 3 ≤ n ∧ 1 ≤ k := by
  obtain ⟨a, b, c⟩ := h
  rw [okB] at a
  rw [Hd.mz] at b
  rw [PyData.depth] at c
  exact ⟨⟨a, by omega, by omega⟩, by omega, by omega⟩
theorem Va.ofL {n k : Nat} {ds : List PyData} (h : Va n k (.list ds)) : Vs (n - 3) (k - 1) ds ∧ 3 ≤ n ∧ 1 ≤ k := by
  obtain ⟨a, b, c⟩ := h
  rw [okB] at a
  rw [Hd.mz] at b
  rw [PyData.depth] at c
  exact ⟨⟨a, by omega, by omega⟩, by omega, by omega⟩
theorem Va.sh {n k : Nat} {d : PyData} (h : Va n k d) (hk : k ≤ 60) : Sh d := by
  obtain ⟨a, b, c⟩ := h
  obtain ⟨_, l, _⟩ := ok_show d a
  simp only [Sh, SeqAt.shaped, l, Bool.true_and, decide_eq_true_eq]
  omega
theorem Va.repr {n k : Nat} {d : PyData} (h : Va n k d) (hn : n ≤ 100000) (hk : k ≤ 60) {P : PyData → Prop} (hP : P (.str d.shown)) : fRepr d P := by
  obtain ⟨a, b, c⟩ := h
  obtain ⟨s, l, z⟩ := ok_show d a
  exact ⟨s, PyData.hasDict_of_canLay d l, by omega, by omega, hP⟩
theorem Va.int {i : Int} (h : i.natAbs < 10000) {k : Nat} : Va 13 k (.int i) := ⟨by simp [okB, h], by simp [Hd.mz], by simp [PyData.depth]⟩
theorem Va.bool {b : Bool} {k : Nat} : Va 13 k (.bool b) := ⟨by simp [okB], by simp [Hd.mz], by simp [PyData.depth]⟩
theorem Va.non {k : Nat} : Va 13 k .none := ⟨by simp [okB], by simp [Hd.mz], by simp [PyData.depth]⟩
theorem Va.strH {k : Nat} : Va 13 k (.str "house") := ⟨by simp [okB], by simp [Hd.mz], by simp [PyData.depth]⟩
theorem Va.strB {k : Nat} : Va 13 k (.str "House") := ⟨by simp [okB], by simp [Hd.mz], by simp [PyData.depth]⟩
theorem Va.str0 {k : Nat} : Va 13 k (.str "0") := ⟨by simp [okB], by simp [Hd.mz], by simp [PyData.depth]⟩
/-! houses -/
theorem Va.within {v : PyData} {a b : Int} {k : Nat} (h : withinB v a b = true) (ha : -5000 ≤ a) (hb : b ≤ 5000) : Va 13 k v := by
  obtain ⟨i, rfl⟩ := within_int h
  simp only [withinB, Bool.and_eq_true, decide_eq_true_eq] at h
  exact .int (by omega)
theorem va_pay {v : PyData} (h : payB v = true) : Va 33 1 v := by
  unfold payB at h
  split at h
  · rw [Bool.and_eq_true] at h
    exact (Va.tup (k := 0) (.cons (.within h.1 (by decide) (by decide)) (.cons (.within h.2 (by decide) (by decide)) .nil))).mono (by decide) (by decide)
  · cases h
theorem va_opt {v : PyData} (h : optB v = true) : Va 33 1 v := by
  unfold optB at h
  rw [Bool.or_eq_true] at h
  rcases h with h | h
  · unfold isNon at h
    split at h
    · exact (Va.non (k := 0)).mono (by decide) (by decide)
    · cases h
  · exact va_pay h
theorem va_pair {es : List Nat} {n : Nat} {v : PyData} (h : pairB es n v = true) : Va 73 2 v := by
  unfold pairB at h
  split at h
  · rw [Bool.and_eq_true, Bool.and_eq_true] at h
    exact (Va.tup (k := 1) (.cons (va_opt h.1.1) (.cons (va_opt h.1.2) .nil))).mono (by decide) (by decide)
  · cases h
theorem va_prom {ms : List PyData} (hm : ms.length ≤ 31) {v : PyData} (h : promB ms v = true) : Va 2400 3 v := by
  obtain ⟨ps, rfl, l, g, _⟩ := prom_of h
  exact (Va.tup (Vs.all (m := 31) (fun x hx => by obtain ⟨i, q⟩ := goods_mem g x hx; exact va_pair q) (by omega))).mono (by decide) (by decide)
theorem va_mom {n : Nat} {v : PyData} (hn : n ≤ 1000) (h : momB n v = true) : Va 48 1 v := by
  unfold momB at h
  split at h
  · rw [Bool.and_eq_true, pricesB, Bool.and_eq_true, Bool.and_eq_true] at h
    exact (Va.tup (k := 0) (.cons (.within h.1 (by decide) (by split <;> omega)) (.cons (.within h.2.1.1 (by decide) (by decide)) (.cons (.within h.2.1.2 (by decide) (by decide)) .nil)))).mono (by decide) (by decide)
  · cases h
theorem va_moms {ms : List PyData} (h : momentsB (.tuple ms) = true) : (∀ m ∈ ms, Va 48 1 m) ∧ Va 1553 2 (.tuple ms) := by
  obtain ⟨_, e, h1, h2, g⟩ := len_moments h
  cases e
  have a : ∀ m ∈ ms, Va 48 1 m := fun x hx => by
    obtain ⟨i, hi⟩ := List.getElem?_of_mem hx
    have lt : i < ms.length := (List.getElem?_eq_some_iff.mp hi).1
    have q := goods_get g hi
    exact va_mom (by omega) q
  exact ⟨a, (Va.tup (Vs.all (m := 31) a h2)).mono (by decide) (by decide)⟩
theorem va_house {v : PyData} (h : houseB v = true) : Va 11200 5 v := by
  obtain ⟨s, ms, ps, rfl, rfl, hm, hl, ha⟩ := house_of h
  obtain ⟨_, e, h1, h2, g⟩ := len_moments hm
  cases e
  exact (Va.tup (k := 4) (.cons .strH (.cons ((va_moms hm).2.mono (Nat.le_refl _) (by decide)) (.cons (Va.tup (Vs.all (m := 4) (fun x hx => va_prom h2 (List.all_eq_true.mp ha x hx)) hl)) .nil)))).mono (by decide) (by decide)
theorem ok_house {v : PyData} (h : houseB v = true) : HsOk v := ⟨h, (va_house h).sh (by decide)⟩
end Hd
/-! text Ln24 -/
/-! Ln24: products of ratios, drawn moments. -/
namespace Hd
open PySem Dl
def w__law_times : DS :=
  (wRet (eCall F__law_low (aC (e2 fRep (e2 fIx (bVar 0) (eC (.int 0))) (e2 fIx (bVar 1) (eC (.int 0)))) (aC (e2 fRep (e2 fIx (bVar 0) (eC (.int 1))) (e2 fIx (bVar 1) (eC (.int 1)))) aN))))

def F__law_times : Fs := ⟨2, fun ds => match ds with | [.tuple [.int a, .int b], .tuple [.int c, .int d]] => 0 < b ∧ 0 < d ∧ a.natAbs < 2 ^ 1000 ∧ b.natAbs < 2 ^ 1000 ∧ c.natAbs < 2 ^ 1000 ∧ d.natAbs < 2 ^ 1000 | _ => False,
  fun ds r => match ds with | [.tuple [.int a, .int b], .tuple [.int c, .int d]] => ∃ x y : Int, r = .tuple [.int x, .int y] ∧ 0 < y ∧ x.natAbs ≤ a.natAbs * c.natAbs ∧ y.natAbs ≤ b.natAbs * d.natAbs | _ => True⟩
theorem times_of {ds : List PyData} (h : F__law_times.pre ds) : ∃ a b c d, ds = [.tuple [.int a, .int b], .tuple [.int c, .int d]] ∧ 0 < b ∧ 0 < d ∧ a.natAbs < 2 ^ 1000 ∧ b.natAbs < 2 ^ 1000 ∧ c.natAbs < 2 ^ 1000 ∧ d.natAbs < 2 ^ 1000 := by
  unfold F__law_times at h
  dsimp only at h
  split at h
  · exact ⟨_, _, _, _, rfl, h⟩
  · exact h.elim
theorem mul_sm {a b : Int} (ha : a.natAbs < 2 ^ 1000) (hb : b.natAbs < 2 ^ 1000) : (a * b).natAbs < 2 ^ 4000 := by
  rw [Int.natAbs_mul]
  refine Nat.lt_of_lt_of_le (Nat.mul_lt_mul'' ha hb) ?_
  rw [← Nat.pow_add]
  exact Nat.pow_le_pow_right (by decide) (by decide)
theorem at0 (x : PyData) (l : List PyData) : L2.atI (x :: l) 0 = some x := by simpa using at_dN (x :: l) 0
theorem at1 (x y : PyData) (l : List PyData) : L2.atI (x :: y :: l) 1 = some y := by simpa using at_dN (x :: y :: l) 1
theorem l__law_times (ds : List PyData) (hp : F__law_times.pre ds) : w__law_times { nx := fun _ => F__law_times.post ds .none, rt := F__law_times.post ds } (env0 N__law_times ds) := by
  obtain ⟨a, b, c, d, rfl, hb, hd, za, zb, zc, zd⟩ := times_of hp
  have la : Lo a := lo_of za (by decide)
  have lb : Lo b := lo_of zb (by decide)
  have lc : Lo c := lo_of zc (by decide)
  have ld : Lo d := lo_of zd (by decide)
  have p : 0 < b * d := Int.mul_pos hb hd
  generalize hZ : (2 : Nat) ^ 1000 = Z at *
  simp [w__law_times, at0, at1, la, lb, lc, ld, F__law_low, Fs2, Fs1, intOf, wSeq, wIf, wRet, wRetO, wNx, wFor, wAsg, wPar, wOwn, wApp, wExt, wDrop, wSet, wFrz, wWhile, wLcO, wLcD, eVar, bVar, eC, e1, e2, eCall, eCallP, eCallK, aN, aC, eIsi, eIsi2, tV, tNt, tAn, tO, vAn, vO, vNt, eIf, eTu, eLi, fI, fSub, fDivW, fMod, fInt, fAbs, fRep, fAdd, fCI, fMax2, fMin2, fNeg, fLen, fIsN, fNotN, fIx, eSl, fSl, oS, oN, eCh, eF, gN, gNl, gCn, gTu, dEnT, dT, dL, dEn, dLc, dR1, dR2, mD, mO, mN, mLst, mList, mCat, mRep, setE, tYesD, wipeE, env0, envP, isB]
  subst hZ
  refine ⟨⟨_, _, rfl, rfl, p, mul_sm za zc, mul_sm zb zd⟩, ?_⟩
  obtain ⟨x, y, e, y0, x1, y1⟩ := low_bd (i := a * c) (j := b * d) p
  rw [Int.natAbs_mul] at x1 y1
  simp only [F__law_times]
  exact ⟨x, y, e, y0, x1, y1⟩
end Hd
/-! text Lo24 -/
/-! Lo24: drawn moments. -/
namespace Hd
open PySem Dl
def w__law_moments : DS :=
  (wSeq (wAsg (eCallP F__law_pick 0 (aC (eLi (aC (eLi (aC (eC (.int 0)) aN)) (aC (eLi (aC (e1 fNeg (eC (.int 1))) (aC (eC (.int 0)) (aC (eC (.int 1)) aN)))) (aC (eLi (aC (e1 fNeg (eC (.int 3))) (aC (e1 fNeg (eC (.int 1))) (aC (eC (.int 0)) (aC (eC (.int 1)) (aC (eC (.int 3)) aN)))))) (aC (eLi (aC (e1 fNeg (eC (.int 20))) (aC (e1 fNeg (eC (.int 5))) (aC (eC (.int 0)) (aC (eC (.int 5)) (aC (eC (.int 20)) aN)))))) (aC (eLi (aC (eC (.int 1)) (aC (eC (.int 2)) (aC (eC (.int 3)) aN)))) (aC (eLi aN) aN))))))) aN)) (gN 2))
    (wSeq (wPar [3, 4, 5] (mD (eCallP F__law_pick 0 (aC (eLi (aC (eC (.int 1)) (aC (eC (.int 1)) (aC (eC (.int 3)) (aC (eC (.int 9)) (aC (eC (.int 40)) aN)))))) aN)) (mO (mLst aN) (mO (mLst aN) mN))))
    (wSeq (wFor (dEn (eCallP F__law_fathers 0 (aC (eVar 1) aN))) (gTu 2 (gCn (gN 6) (gCn (gN 7) gNl))) (wSeq (wAsg (eIf (tV (e2 fEq (bVar 6) (eC (.int 0)))) (eCallP F__law_pick 0 (aC (eLi (aC (eC (.int 10)) (aC (eC (.int 30)) (aC (eC (.int 100)) (aC (eC (.int 500)) (aC (eC (.int 990)) aN)))))) aN)) (eIf (tV (e2 fEq (bVar 2) (eLi aN))) (e2 fAdd (eC (.int 1)) (eCallP F__law_draw 0 (aC (eC (.int 999)) aN))) (e2 fAdd (e2 fIx (bVar 5) (bVar 7)) (eCallP F__law_pick 0 (aC (eVar 2) aN))))) (gN 8))
    (wSeq (wApp 5 (e2 fMin2 (eC (.int 999)) (e2 fMax2 (eC (.int 1)) (bVar 8))))
    (wApp 4 (eTu (aC (eVar 7) (aC (e2 fMax2 (eC (.int 1)) (e2 fSub (e2 fIx (bVar 5) (bVar 6)) (eCallP F__law_draw 0 (aC (eVar 3) aN)))) (aC (e2 fMin2 (eC (.int 999)) (e2 fAdd (e2 fIx (bVar 5) (bVar 6)) (eCallP F__law_draw 0 (aC (eVar 3) aN)))) aN))))))))
    (wRet (e1 fTuple (bVar 4))))))

def F__law_moments : Fs := ⟨1, fun ds => match ds with | [.int m] => 1 ≤ m ∧ m ≤ 31 | _ => False, fun ds d => momentsB d = true⟩
theorem many_of {ds : List PyData} (h : F__law_moments.pre ds) : ∃ m, ds = [.int m] ∧ 1 ≤ m ∧ m ≤ 31 := by
  unfold F__law_moments at h
  dsimp only at h
  split at h
  · exact ⟨_, rfl, h⟩
  · exact h.elim
theorem goods_app {f : Nat → PyData → Bool} {d : PyData} : ∀ {ds : List PyData} {n : Nat}, goods f n (ds ++ [d]) = (goods f n ds && f (n + ds.length) d)
  | [], n => by simp [goods]
  | x :: ds, n => by
    rw [List.cons_append, goods, goods, goods_app (ds := ds) (n := n + 1), List.length_cons, Bool.and_assoc]
    have : n + 1 + ds.length = n + (ds.length + 1) := by omega
    rw [this]
theorem mom_ok {n : Nat} {f a b : Int} (h0 : 0 ≤ f) (h1 : f < (n : Int) ∨ (n = 0 ∧ f = 0)) (a1 : 1 ≤ a) (a2 : a ≤ 999) (b1 : 1 ≤ b) (b2 : b ≤ 999) (ab : a ≤ b) : momB n (.tuple [.int f, .int a, .int b]) = true := by
  simp only [momB, withinB, pricesB, leB, Bool.and_eq_true, decide_eq_true_eq]
  refine ⟨⟨h0, by split <;> omega⟩, ⟨⟨by omega, by omega⟩, ⟨by omega, by omega⟩⟩, by omega⟩
theorem moms_ok {rows : List PyData} (l1 : 1 ≤ rows.length) (l2 : rows.length ≤ 31) (g : goods momB 0 rows = true) : momentsB (.tuple rows) = true := by
  simp only [momentsB, Bool.and_eq_true, decide_eq_true_eq]
  exact ⟨⟨l1, l2⟩, g⟩
theorem at_int {mids : List Int} {n : Nat} (h : n < mids.length) : L2.atI (mids.map PyData.int) (n : Int) = some (.int mids[n]) := by
  rw [at_dN, List.getElem?_map, List.getElem?_eq_getElem h]
  rfl
def StepOk (d : PyData) : Prop := ∃ ns : List Int, d = .list (ns.map PyData.int) ∧ ns.length ≤ 5
theorem sh_ints (ns : List Int) : Sh (.list (ns.map PyData.int)) := sh_listmap (n := 0) (by decide) (fun a => by simp [PyData.canLay0]) (fun a => by simp [PyData.depth]) ns
theorem pick_n : F__law_pick.n = 1 := rfl
theorem pick_pre {es : List PyData} : F__law_pick.pre [.list es] ↔ 0 < es.length ∧ es.length ≤ 100000 := Iff.rfl
theorem pick_post {es : List PyData} {d : PyData} : F__law_pick.post [.list es] d ↔ d ∈ es := Iff.rfl
theorem draw_n : F__law_draw.n = 1 := rfl
theorem draw_pre {m : Int} : F__law_draw.pre [.int m] ↔ 0 < m ∧ m ≤ 1000000 := Iff.rfl
theorem draw_all {m : Int} {P : PyData → Prop} : (∀ d, F__law_draw.post [.int m] d → P d) ↔ ∀ r : Int, 0 ≤ r → r < m → P (.int r) :=
  ⟨fun h r a b => h _ ⟨r, rfl, a, b⟩, fun h d ⟨r, e, a, b⟩ => e ▸ h r a b⟩
theorem fath_n : F__law_fathers.n = 1 := rfl
theorem fath_pre {m : Int} : F__law_fathers.pre [.int m] ↔ 1 ≤ m ∧ m ≤ 31 := Iff.rfl
theorem fath_all {m : Int} {P : PyData → Prop} : (∀ d, F__law_fathers.post [.int m] d → P d) ↔ ∀ fs : List Nat, (fs.length : Int) = m → FatOk fs → P (.list (fs.map dN)) :=
  ⟨fun h r a b => h _ ⟨r, rfl, a, b⟩, fun h d ⟨r, e, a, b⟩ => by subst e; exact h r a b⟩
theorem cut_int {ea : DE} {env : Dl.Env} {K : PyData → Prop} (A : ∀ K : PyData → Prop, (∀ i : Int, K (.int i)) → ea env K) (T : ∀ i : Int, K (.int i)) : ea env K := A K T
theorem l__law_moments (ds : List PyData) (hp : F__law_moments.pre ds) : w__law_moments { nx := fun _ => F__law_moments.post ds .none, rt := F__law_moments.post ds } (envP N__law_moments ds) := by
  obtain ⟨m, rfl, h1, h2⟩ := many_of hp
  simp only [w__law_moments, wSeq]
  simp [pick_n, pick_pre, wSeq, wIf, wRet, wRetO, wNx, wFor, wAsg, wPar, wOwn, wApp, wExt, wDrop, wSet, wFrz, wWhile, wLcO, wLcD, eVar, bVar, eC, e1, e2, eCall, eCallP, eCallK, aN, aC, eIsi, eIsi2, tV, tNt, tAn, tO, vAn, vO, vNt, eIf, eTu, eLi, fI, fSub, fDivW, fMod, fInt, fAbs, fRep, fAdd, fCI, fMax2, fMin2, fNeg, fLen, fIsN, fNotN, fIx, eSl, fSl, oS, oN, eCh, eF, gN, gNl, gCn, gTu, dEnT, dT, dL, dEn, dLc, dR1, dR2, mD, mO, mN, mLst, mList, mCat, mRep, setE, tYesD, wipeE, env0, envP, isB]
  intro steps hs
  have so : StepOk steps := by
    rw [pick_post] at hs
    simp only [List.mem_cons, List.not_mem_nil, or_false] at hs
    rcases hs with rfl | rfl | rfl | rfl | rfl | rfl
    · exact ⟨[0], rfl, by decide⟩
    · exact ⟨[-1, 0, 1], rfl, by decide⟩
    · exact ⟨[-3, -1, 0, 1, 3], rfl, by decide⟩
    · exact ⟨[-20, -5, 0, 5, 20], rfl, by decide⟩
    · exact ⟨[1, 2, 3], rfl, by decide⟩
    · exact ⟨[], rfl, by decide⟩
  clear hs
  obtain ⟨ns, rfl, ln⟩ := so
  intro w hw
  have wo : ∃ i : Int, w = .int i ∧ 1 ≤ i ∧ i ≤ 40 := by
    rw [pick_post] at hw
    simp only [List.mem_cons, List.not_mem_nil, or_false] at hw
    rcases hw with rfl | rfl | rfl | rfl | rfl <;> exact ⟨_, rfl, by decide, by decide⟩
  clear hw
  obtain ⟨wi, rfl, w1, w2⟩ := wo
  simp only [fath_n, fath_pre, fath_all, true_and]
  refine ⟨⟨h1, h2⟩, fun fs hl ok => ?_⟩
  refine loop_inv (I := fun j e => ∃ rows mids x y z, e = [.pot, .dat (.int m), .dat (.list (ns.map PyData.int)), .dat (.int wi), .own rows, .own (mids.map PyData.int), x, y, z] ∧ rows.length = j ∧ mids.length = j ∧ goods momB 0 rows = true ∧ ∀ n ∈ mids, 1 ≤ n ∧ n ≤ 999) _ 0 _ (fun j d env L hd hi hL => ?_) ⟨[], [], _, _, _, rfl, rfl, rfl, rfl, fun _ h => by cases h⟩ (fun e hi => ?_)
  · obtain ⟨rows, mids, x, y, z, rfl, lr, lm, hg, hb⟩ := hi
    obtain ⟨f, hf, rfl⟩ := enD_get hd
    rw [List.getElem?_map] at hf
    obtain ⟨fa, hfa, rfl⟩ : ∃ fa, fs[j]? = some fa ∧ f = dN fa := by
      cases e : fs[j]? with
      | none => rw [e] at hf; cases hf
      | some fa => rw [e] at hf; cases hf; exact ⟨fa, rfl, rfl⟩
    have jl : j < fs.length := (List.getElem?_eq_some_iff.mp hfa).1
    have fok := ok j fa hfa
    simp [gTu, gCn, gN, gNl, wSeq, wAsg]
    refine cut_int (fun K hK => ?_) (fun mid => ?_)
    · by_cases j0 : j = 0
      · subst j0
        simp [fEq, sh_int, eqv_int, pick_n, pick_pre, wSeq, wIf, wRet, wRetO, wNx, wFor, wAsg, wPar, wOwn, wApp, wExt, wDrop, wSet, wFrz, wWhile, wLcO, wLcD, eVar, bVar, eC, e1, e2, eCall, eCallP, eCallK, aN, aC, eIsi, eIsi2, tV, tNt, tAn, tO, vAn, vO, vNt, eIf, eTu, eLi, fI, fSub, fDivW, fMod, fInt, fAbs, fRep, fAdd, fCI, fMax2, fMin2, fNeg, fLen, fIsN, fNotN, fIx, eSl, fSl, oS, oN, eCh, eF, gN, gNl, gCn, gTu, dEnT, dT, dL, dEn, dLc, dR1, dR2, mD, mO, mN, mLst, mList, mCat, mRep, setE, tYesD, wipeE, env0, envP, isB]
        intro d hd
        rw [pick_post] at hd
        simp only [List.mem_cons, List.not_mem_nil, or_false] at hd
        rcases hd with rfl | rfl | rfl | rfl | rfl <;> exact hK _
      · have j0' : ¬ (j : Int) = 0 := by omega
        have fl : fa < mids.length := by omega
        by_cases n0 : ns = []
        · subst n0
          simp [fEq, sh_int, eqv_int, j0, j0', sh_nil, eqv_nil, draw_n, draw_pre, draw_all, wSeq, wIf, wRet, wRetO, wNx, wFor, wAsg, wPar, wOwn, wApp, wExt, wDrop, wSet, wFrz, wWhile, wLcO, wLcD, eVar, bVar, eC, e1, e2, eCall, eCallP, eCallK, aN, aC, eIsi, eIsi2, tV, tNt, tAn, tO, vAn, vO, vNt, eIf, eTu, eLi, fI, fSub, fDivW, fMod, fInt, fAbs, fRep, fAdd, fCI, fMax2, fMin2, fNeg, fLen, fIsN, fNotN, fIx, eSl, fSl, oS, oN, eCh, eF, gN, gNl, gCn, gTu, dEnT, dT, dL, dEn, dLc, dR1, dR2, mD, mO, mN, mLst, mList, mCat, mRep, setE, tYesD, wipeE, env0, envP, isB]
          intro r _ _
          exact hK _
        · have n1 : 0 < ns.length := List.length_pos_iff.mpr n0
          have n2 : ns.length ≤ 100000 := by omega
          simp [fEq, sh_int, eqv_int, j0, j0', n0, sh_nil, sh_ints, eqv_nil, dN, at_int fl, pick_n, pick_pre, n1, n2, wSeq, wIf, wRet, wRetO, wNx, wFor, wAsg, wPar, wOwn, wApp, wExt, wDrop, wSet, wFrz, wWhile, wLcO, wLcD, eVar, bVar, eC, e1, e2, eCall, eCallP, eCallK, aN, aC, eIsi, eIsi2, tV, tNt, tAn, tO, vAn, vO, vNt, eIf, eTu, eLi, fI, fSub, fDivW, fMod, fInt, fAbs, fRep, fAdd, fCI, fMax2, fMin2, fNeg, fLen, fIsN, fNotN, fIx, eSl, fSl, oS, oN, eCh, eF, gN, gNl, gCn, gTu, dEnT, dT, dL, dEn, dLc, dR1, dR2, mD, mO, mN, mLst, mList, mCat, mRep, setE, tYesD, wipeE, env0, envP, isB]
          intro d hd
          rw [pick_post] at hd
          obtain ⟨i, _, rfl⟩ := List.mem_map.mp hd
          exact hK _
    · have ap : ∀ c : Int, L2.atI (mids.map PyData.int ++ [PyData.int c]) (j : Int) = some (.int c) := fun c => by
        rw [at_dN, List.getElem?_append_right (by rw [List.length_map]; omega), List.length_map]
        have : j - mids.length = 0 := by omega
        rw [this]
        rfl
      have z1 : wi ≤ 1000000 := by omega
      have z2 : 0 < wi := by omega
      have z3 : mids.length < 100000 := by omega
      have z4 : rows.length < 100000 := by omega
      simp [max_if, min_if, ap, draw_n, draw_pre, draw_all, z1, z2, z3, z4, wSeq, wIf, wRet, wRetO, wNx, wFor, wAsg, wPar, wOwn, wApp, wExt, wDrop, wSet, wFrz, wWhile, wLcO, wLcD, eVar, bVar, eC, e1, e2, eCall, eCallP, eCallK, aN, aC, eIsi, eIsi2, tV, tNt, tAn, tO, vAn, vO, vNt, eIf, eTu, eLi, fI, fSub, fDivW, fMod, fInt, fAbs, fRep, fAdd, fCI, fMax2, fMin2, fNeg, fLen, fIsN, fNotN, fIx, eSl, fSl, oS, oN, eCh, eF, gN, gNl, gCn, gTu, dEnT, dT, dL, dEn, dLc, dR1, dR2, mD, mO, mN, mLst, mList, mCat, mRep, setE, tYesD, wipeE, env0, envP, isB]
      intro r r0 r1 t t0 t1
      generalize hc : min 999 (max 1 mid) = c
      have c1 : 1 ≤ c := by omega
      have c2 : c ≤ 999 := by omega
      refine hL _ ⟨_, mids ++ [c], _, _, _, by rw [List.map_append]; rfl, by rw [List.length_append]; simp; omega, by rw [List.length_append]; simp; omega, ?_, fun n hn => ?_⟩
      · rw [goods_app, hg]
        exact mom_ok (by omega) (by omega) (by omega) (by omega) (by omega) (by omega) (by omega)
      · rcases List.mem_append.mp hn with hn | hn
        · exact hb n hn
        · simp only [List.mem_singleton] at hn
          subst hn
          exact ⟨c1, c2⟩
  · obtain ⟨rows, mids, x, y, z, rfl, lr, lm, hg, hb⟩ := hi
    simp [F__law_moments, fTuple, wSeq, wIf, wRet, wRetO, wNx, wFor, wAsg, wPar, wOwn, wApp, wExt, wDrop, wSet, wFrz, wWhile, wLcO, wLcD, eVar, bVar, eC, e1, e2, eCall, eCallP, eCallK, aN, aC, eIsi, eIsi2, tV, tNt, tAn, tO, vAn, vO, vNt, eIf, eTu, eLi, fI, fSub, fDivW, fMod, fInt, fAbs, fRep, fAdd, fCI, fMax2, fMin2, fNeg, fLen, fIsN, fNotN, fIx, eSl, fSl, oS, oN, eCh, eF, gN, gNl, gCn, gTu, dEnT, dT, dL, dEn, dLc, dR1, dR2, mD, mO, mN, mLst, mList, mCat, mRep, setE, tYesD, wipeE, env0, envP, isB]
    rw [enD_len, List.length_map] at lr
    exact moms_ok (by omega) (by omega) hg
end Hd
/-! text Lq24 -/
/-! Lq24: drawn balanced moments. -/
namespace Hd
open PySem Dl
def F__law_balanced : Fs := ⟨1, fun ds => match ds with | [.int m] => 1 ≤ m ∧ m ≤ 31 | _ => False, fun ds d => ∃ ms x, d = .tuple [ms, x] ∧ momentsB ms = true⟩
def w__law_balanced : DS :=
  (wSeq (wPar [4, 5] (mD (eCallP F__law_fathers 0 (aC (eVar 1) aN)) (mD (eCallP F__law_pick 0 (aC (eLi (aC (eC (.int 1)) (aC (eC (.int 1)) (aC (eC (.int 3)) (aC (eC (.int 20)) aN))))) aN)) mN)))
    (wSeq (wPar [6, 7] (mO (mRep (eLi (aC (eCallP F__law_pick 0 (aC (eLi (aC (eC (.int 40)) (aC (eC (.int 100)) (aC (eC (.int 400)) aN)))) aN)) aN)) (bVar 1)) (mO (mRep (eLi (aC (eTu (aC (eC (.int 1)) (aC (eC (.int 1)) aN))) aN)) (bVar 1)) mN)))
    (wSeq (wFor (dR1 (eVar 1)) (gN 2) (wSeq (wLcD 8 (dLc (dR2 (e2 fAdd (bVar 2) (eC (.int 1))) (eVar 1)) (gN 12) (tV (e2 fEq (e2 fIx (bVar 4) (bVar 12)) (bVar 2))) (eVar 12) [12]))
    (wSeq (wPar [9, 10] (mD (eF (dLc (dL (eVar 8)) (gN 12) tYesD (e2 fAdd (eC (.int 1)) (eCallP F__law_draw 0 (aC (eC (.int 3)) aN))) [12])) (mD (eCallP F__law_draw 0 (aC (eC (.int 4)) aN)) mN)))
    (wSeq (wFor (dEn (eVar 8)) (gTu 2 (gCn (gN 11) (gCn (gN 12) gNl))) (wSeq (wSet 7 (eVar 12) (eCall F__law_times (aC (e2 fIx (bVar 7) (bVar 2)) (aC (eCall F__law_low (aC (e2 fIx (bVar 9) (bVar 11)) (aC (e1 fSum (bVar 9)) aN))) aN))))
    (wSet 6 (eVar 12) (e2 fIx (bVar 6) (bVar 2)))))
    (wIf (tV (e2 fGt (e1 fLen (bVar 8)) (eC (.int 1)))) (wSet2 6 (e2 fIx (bVar 8) (eC (.int 0))) (e2 fIx (bVar 8) (eC (.int 1))) (aC (e2 fAdd (e2 fIx (bVar 6) (bVar 2)) (e2 fRep (e2 fIx (bVar 9) (eC (.int 1))) (bVar 10))) (aC (e2 fSub (e2 fIx (bVar 6) (bVar 2)) (e2 fRep (e2 fIx (bVar 9) (eC (.int 0))) (bVar 10))) aN))) wNx)))))
    (wSeq (wIf (tO (tV (e2 fLt (e1 fMinL (bVar 6)) (eC (.int 1)))) (tV (e2 fGt (e1 fMaxL (bVar 6)) (eC (.int 999))))) (wOwn 6 (mRep (eLi (aC (eC (.int 400)) aN)) (bVar 1))) wNx)
    (wFrz 7 (wFrz 6 (wSeq (wAsg (e1 fTuple (eF (dLc (dZip (eVar 4) (eVar 6)) (gTu 2 (gCn (gN 13) (gCn (gN 14) gNl))) tYesD (eTu (aC (eVar 13) (aC (e2 fMax2 (eC (.int 1)) (e2 fSub (bVar 14) (eCallP F__law_draw 0 (aC (eVar 5) aN)))) (aC (e2 fMin2 (eC (.int 999)) (e2 fAdd (bVar 14) (eCallP F__law_draw 0 (aC (eVar 5) aN)))) aN)))) [13, 14]))) (gN 3))
    (wRet (eTu (aC (eVar 3) (aC (e1 fTuple (eF (dLc (dZip (eVar 7) (eVar 6)) (gTu 2 (gCn (gN 15) (gCn (gN 14) gNl))) tYesD (eTu (aC (eVar 15) (aC (eCall F__law_times (aC (eVar 15) (aC (eTu (aC (eVar 14) (aC (eC (.int 1)) aN))) aN))) aN))) [15, 14]))) aN)))))))))))

theorem bal_of {ds : List PyData} (h : F__law_balanced.pre ds) : ∃ m, ds = [.int m] ∧ 1 ≤ m ∧ m ≤ 31 := many_of h
/-- a mass of the i-th moment -/
def MassOk (i : Nat) (d : PyData) : Prop := ∃ x y : Int, d = .tuple [.int x, .int y] ∧ 0 < y ∧ x.natAbs ≤ 128 ^ (i + 1) ∧ y.natAbs ≤ 128 ^ (i + 1)
def MassesOk (ms : List PyData) : Prop := ∀ i d, ms[i]? = some d → MassOk i d
theorem rep_one {α : Type} (x : α) : ∀ n : Nat, (List.replicate n [x]).flatten = List.replicate n x
  | 0 => rfl
  | n + 1 => by rw [List.replicate_succ, List.flatten_cons, rep_one x n]; rfl
theorem nat_list {P : Nat → Prop} : ∀ {ys : List PyData}, (∀ y ∈ ys, ∃ s : Nat, y = dN s ∧ P s) → ∃ sm : List Nat, ys = sm.map dN ∧ ∀ s ∈ sm, P s
  | [], _ => ⟨[], rfl, fun _ h => by cases h⟩
  | y :: ys, h => by
    obtain ⟨s, e, p⟩ := h y (List.mem_cons_self ..)
    obtain ⟨sm, e2, p2⟩ := nat_list fun z hz => h z (List.mem_cons_of_mem _ hz)
    exact ⟨s :: sm, by rw [e, e2]; rfl, fun z hz => by rcases List.mem_cons.mp hz with rfl | hz; exact p; exact p2 z hz⟩
theorem int_list {P : Int → Prop} : ∀ {ys : List PyData}, (∀ y ∈ ys, ∃ s : Int, y = .int s ∧ P s) → ∃ sm : List Int, ys = sm.map PyData.int ∧ ∀ s ∈ sm, P s
  | [], _ => ⟨[], rfl, fun _ h => by cases h⟩
  | y :: ys, h => by
    obtain ⟨s, e, p⟩ := h y (List.mem_cons_self ..)
    obtain ⟨sm, e2, p2⟩ := int_list fun z hz => h z (List.mem_cons_of_mem _ hz)
    exact ⟨s :: sm, by rw [e, e2]; rfl, fun z hz => by rcases List.mem_cons.mp hz with rfl | hz; exact p; exact p2 z hz⟩
theorem intsD_map : ∀ ns : List Int, intsD (ns.map PyData.int) = some ns
  | [] => rfl
  | n :: ns => by
    rw [List.map_cons]
    unfold intsD
    rw [intsD_map ns]
    rfl
theorem at_nat {l : List Nat} {n : Nat} (h : n < l.length) : L2.atI (l.map dN) (n : Int) = some (dN l[n]) := by
  rw [at_dN, List.getElem?_map, List.getElem?_eq_getElem h]
  rfl
theorem sum_w : ∀ {ws : List Int}, (∀ w ∈ ws, 1 ≤ w ∧ w ≤ 3) → (ws.length : Int) ≤ ws.sum ∧ ws.sum ≤ 3 * ws.length
  | [], _ => by simp
  | w :: ws, h => by
    have a := h w (List.mem_cons_self ..)
    have b := sum_w fun z hz => h z (List.mem_cons_of_mem _ hz)
    rw [List.sum_cons, List.length_cons]
    omega
theorem mass0 (n : Nat) : MassesOk (List.replicate n (.tuple [.int 1, .int 1])) := by
  intro i d h
  have := List.eq_of_mem_replicate (List.mem_of_getElem? h)
  subst this
  exact ⟨1, 1, rfl, by decide, Nat.one_le_pow _ _ (by decide), Nat.one_le_pow _ _ (by decide)⟩
theorem mass_sm {n : Nat} (h : n ≤ 31) : 128 ^ (n + 1) < 2 ^ 1000 := by
  refine Nat.lt_of_le_of_lt (Nat.pow_le_pow_right (by decide) (by omega : n + 1 ≤ 32)) ?_
  decide +kernel
/-- the step to a son -/
theorem mass_to {a s x y p q : Nat} (h : a < s) (hx : x ≤ 128 ^ (a + 1) * p) (hp : p ≤ 128) : x ≤ 128 ^ (s + 1) := by
  refine Nat.le_trans hx (Nat.le_trans (Nat.mul_le_mul_left _ hp) ?_)
  rw [← Nat.pow_succ]
  exact Nat.pow_le_pow_right (by decide) (by omega)
theorem cut_ds {w : DS} {k : DK} {env : Dl.Env} (R : Dl.Env → Prop) (A : ∀ k : DK, (∀ e, R e → k.nx e) → w k env) (T : ∀ e, R e → k.nx e) : w k env := A k T
theorem goods_intro {f : Nat → PyData → Bool} : ∀ {ds : List PyData} {n : Nat}, (∀ i d, ds[i]? = some d → f (n + i) d = true) → goods f n ds = true
  | [], n, h => rfl
  | d :: ds, n, h => by
    have h0 := h 0 d rfl
    rw [Nat.add_zero] at h0
    rw [goods, h0, Bool.true_and]
    refine goods_intro fun i d hd => ?_
    have := h (i + 1) d (by rw [List.getElem?_cons_succ]; exact hd)
    have e : n + 1 + i = n + (i + 1) := by omega
    rw [e]
    exact this
theorem l__law_balanced (ds : List PyData) (hp : F__law_balanced.pre ds) : w__law_balanced { nx := fun _ => F__law_balanced.post ds .none, rt := F__law_balanced.post ds } (envP N__law_balanced ds) := by
  obtain ⟨m, rfl, h1, h2⟩ := bal_of hp
  simp only [w__law_balanced, wSeq]
  simp [fath_n, fath_pre, fath_all, h1, h2, pick_n, pick_pre, wSeq, wIf, wRet, wRetO, wNx, wFor, wAsg, wPar, wOwn, wApp, wExt, wDrop, wSet, wFrz, wWhile, wLcO, wLcD, eVar, bVar, eC, e1, e2, eCall, eCallP, eCallK, aN, aC, eIsi, eIsi2, tV, tNt, tAn, tO, vAn, vO, vNt, eIf, eTu, eLi, fI, fSub, fDivW, fMod, fInt, fAbs, fRep, fAdd, fCI, fMax2, fMin2, fNeg, fLen, fIsN, fNotN, fIx, eSl, fSl, oS, oN, eCh, eF, gN, gNl, gCn, gTu, dEnT, dT, dL, dEn, dLc, dR1, dR2, mD, mO, mN, mLst, mList, mCat, mRep, setE, tYesD, wipeE, env0, envP, isB]
  intro fs hl ok w hw
  have wo : ∃ i : Int, w = .int i ∧ 1 ≤ i ∧ i ≤ 40 := by
    rw [pick_post] at hw
    simp only [List.mem_cons, List.not_mem_nil, or_false] at hw
    rcases hw with rfl | rfl | rfl | rfl <;> exact ⟨_, rfl, by decide, by decide⟩
  clear hw
  obtain ⟨wi, rfl, w1, w2⟩ := wo
  intro d hd
  obtain ⟨p0, rfl⟩ : ∃ p0 : Int, d = .int p0 := by
    rw [pick_post] at hd
    simp only [List.mem_cons, List.not_mem_nil, or_false] at hd
    rcases hd with rfl | rfl | rfl <;> exact ⟨_, rfl⟩
  clear hd
  have hm : m = ((m.toNat : Nat) : Int) := by omega
  refine ⟨by omega, by omega, by omega, by omega, by omega, by omega, ?_⟩
  have m0 := mass0 m.toNat
  refine loop_inv (I := fun t e => ∃ ps ms x2 x3 x8 x9 x10 x11 x12 x13 x14 x15, e = [.pot, .dat (.int m), x2, x3, .dat (.list (fs.map dN)), .dat (.int wi), .own (ps.map PyData.int), .own ms, x8, x9, x10, x11, x12, x13, x14, x15] ∧ ps.length = m.toNat ∧ ms.length = m.toNat ∧ MassesOk ms) _ 0 _ (fun t d env L hd hi hL => ?_) ⟨List.replicate m.toNat p0, _, _, _, _, _, _, _, _, _, _, _, by rw [List.map_replicate], by rw [List.length_replicate], by rw [List.length_replicate], m0⟩ (fun e hi => ?_)
  · obtain ⟨ps, ms, x2, x3, x8, x9, x10, x11, x12, x13, x14, x15, rfl, lp, lm, mo⟩ := hi
    obtain ⟨lt, rfl⟩ := rgD_get hd
    have ct : ((0 : Int) + ((t : Nat) : Int)) = (t : Int) := by omega
    rw [ct]
    simp only [gN, wSeq]
    simp [wLcD, dLc, dR2, e2, bVar, eC, fAdd, eVar, wipeE]
    refine ⟨by omega, by omega, by omega, by omega, ?_⟩
    have lnr : (rgD ((t : Int) + 1) (m - ((t : Int) + 1)).toNat).length ≤ 30 := by
      unfold rgD
      rw [List.length_map, List.length_range]
      omega
    refine lc_rel (keep := fun d => decide (fs[(intOf d).toNat]? = some t)) (q := fun _ y => ∃ s : Nat, y = dN s ∧ t < s ∧ s < m.toNat) _ [] (fun d hd R1 R2 hR => ?_) (by simp; omega) (fun ys hys => ?_)
    · obtain ⟨i, hi⟩ := List.getElem?_of_mem hd
      obtain ⟨li, rfl⟩ := rgD_get hi
      have ci : ((t : Int) + 1 + ((i : Nat) : Int)) = ((t + 1 + i : Nat) : Int) := by omega
      rw [ci] at hR ⊢
      have lf : t + 1 + i < fs.length := by omega
      have gt : t < t + 1 + i := by omega
      generalize t + 1 + i = k at *
      simp only [intOf, Int.toNat_natCast, List.getElem?_eq_getElem lf, Option.some.injEq, decide_eq_true_eq] at hR
      simp [at_nat lf, fEq, sh_int, eqv_int, dN, sh_d1, wSeq, wIf, wRet, wRetO, wNx, wFor, wAsg, wPar, wOwn, wApp, wExt, wDrop, wSet, wFrz, wWhile, wLcO, wLcD, eVar, bVar, eC, e1, e2, eCall, eCallP, eCallK, aN, aC, eIsi, eIsi2, tV, tNt, tAn, tO, vAn, vO, vNt, eIf, eTu, eLi, fI, fSub, fDivW, fMod, fInt, fAbs, fRep, fAdd, fCI, fMax2, fMin2, fNeg, fLen, fIsN, fNotN, fIx, eSl, fSl, oS, oN, eCh, eF, gN, gNl, gCn, gTu, dEnT, dT, dL, dEn, dLc, dR1, dR2, mD, mO, mN, mLst, mList, mCat, mRep, setE, tYesD, wipeE, env0, envP, isB]
      have c2 : ((fs[k] : Nat) : Int) = (t : Int) ↔ fs[k] = t := by omega
      by_cases h : fs[k] = t
      · rw [if_pos h] at hR
        rw [if_pos (c2.mpr h)]
        exact hR _ ⟨k, by simp [dN], by omega, by omega⟩
      · rw [if_neg h] at hR
        rw [if_neg fun z => h (c2.mp z)]
        exact hR
    · obtain ⟨sm, rfl, hsm⟩ := nat_list (hys.all (r := fun y => ∃ s : Nat, y = dN s ∧ t < s ∧ s < m.toNat) fun x y h => h)
      have lsm : sm.length ≤ 30 := by
        have a := hys.len
        rw [List.length_map] at a
        have b := List.length_filter_le (fun d => decide (fs[(intOf d).toNat]? = some t)) (rgD ((t : Int) + 1) (m - ((t : Int) + 1)).toNat)
        omega
      simp only [List.nil_append]
      simp [wSeq, wPar, mD, eF, dLc, dL, eVar, wipeE]
      refine lc_rel (keep := fun _ => true) (q := fun _ y => ∃ s : Int, y = .int s ∧ 1 ≤ s ∧ s ≤ 3) _ [] (fun d hd R1 R2 hR => ?_) (by simp; omega) (fun ys hys => ?_)
      · simp [draw_n, draw_pre, draw_all, wSeq, wIf, wRet, wRetO, wNx, wFor, wAsg, wPar, wOwn, wApp, wExt, wDrop, wSet, wFrz, wWhile, wLcO, wLcD, eVar, bVar, eC, e1, e2, eCall, eCallP, eCallK, aN, aC, eIsi, eIsi2, tV, tNt, tAn, tO, vAn, vO, vNt, eIf, eTu, eLi, fI, fSub, fDivW, fMod, fInt, fAbs, fRep, fAdd, fCI, fMax2, fMin2, fNeg, fLen, fIsN, fNotN, fIx, eSl, fSl, oS, oN, eCh, eF, gN, gNl, gCn, gTu, dEnT, dT, dL, dEn, dLc, dR1, dR2, mD, mO, mN, mLst, mList, mCat, mRep, setE, tYesD, wipeE, env0, envP, isB]
        intro r r0 r3
        exact hR _ ⟨1 + r, rfl, by omega, by omega⟩
      · have lys := hys.len
        obtain ⟨ws, rfl, hws⟩ := int_list (hys.all (r := fun y => ∃ s : Int, y = .int s ∧ 1 ≤ s ∧ s ≤ 3) fun x y h => h)
        rw [filter_yes, List.length_map, List.length_map] at lys
        clear hys
        have sw := sum_w hws
        simp only [List.nil_append]
        simp [draw_n, draw_pre, draw_all, wFor, wSeq, wIf, wRet, wRetO, wNx, wFor, wAsg, wPar, wOwn, wApp, wExt, wDrop, wSet, wFrz, wWhile, wLcO, wLcD, eVar, bVar, eC, e1, e2, eCall, eCallP, eCallK, aN, aC, eIsi, eIsi2, tV, tNt, tAn, tO, vAn, vO, vNt, eIf, eTu, eLi, fI, fSub, fDivW, fMod, fInt, fAbs, fRep, fAdd, fCI, fMax2, fMin2, fNeg, fLen, fIsN, fNotN, fIx, eSl, fSl, oS, oN, eCh, eF, gN, gNl, gCn, gTu, dEnT, dT, dL, dEn, dLc, dR1, dR2, mD, mO, mN, mLst, mList, mCat, mRep, setE, tYesD, wipeE, env0, envP, isB]
        intro st st0 st4
        refine loop_inv (I := fun _ e => ∃ ps ms y11 y12, e = [.pot, .dat (.int m), .dat (.int (t : Int)), x3, .dat (.list (fs.map dN)), .dat (.int wi), .own (ps.map PyData.int), .own ms, .dat (.list (sm.map dN)), .dat (.list (ws.map PyData.int)), .dat (.int st), y11, y12, x13, x14, x15] ∧ ps.length = m.toNat ∧ ms.length = m.toNat ∧ MassesOk ms) _ 0 _ (fun p d env LL hd hi hLL => ?_) ⟨ps, ms, _, _, rfl, lp, lm, mo⟩ (fun e hi => ?_)
        · obtain ⟨ps, ms, y11, y12, rfl, lp, lm, mo⟩ := hi
          obtain ⟨f, hf, rfl⟩ := enD_get hd
          rw [List.getElem?_map] at hf
          obtain ⟨sn, hsn, rfl⟩ : ∃ fa, sm[p]? = some fa ∧ f = dN fa := by
            cases e : sm[p]? with
            | none => rw [e] at hf; cases hf
            | some fa => rw [e] at hf; cases hf; exact ⟨fa, rfl, rfl⟩
          obtain ⟨s1, s2⟩ := hsm sn (List.mem_of_getElem? hsn)
          have pl : p < ws.length := by
            have := (List.getElem?_eq_some_iff.mp hsn).1
            omega
          have lt2 : t < ms.length := by omega
          have lt3 : t < ps.length := by omega
          obtain ⟨x, y, exy, y0, bx, by_⟩ := mo t _ (List.getElem?_eq_getElem lt2)
          have am : L2.atI ms (t : Int) = some (.tuple [.int x, .int y]) := by rw [at_dN, List.getElem?_eq_getElem lt2, exy]
          have wp := hws _ (List.getElem_mem pl)
          have ixn : L2.ixN m.toNat (sn : Int) = some sn := by
            unfold L2.ixN
            have h0 : (0 : Int) ≤ (sn : Int) := by omega
            have h1 : (sn : Int) < ((m.toNat : Nat) : Int) := by omega
            rw [if_pos h0, if_pos h1, Int.toNat_natCast]
          simp [am, at_int pl, at_int lt3, intsD_map, F__law_low, Fs2, intOf, dN, lm, lp, ixn, wSeq, wIf, wRet, wRetO, wNx, wFor, wAsg, wPar, wOwn, wApp, wExt, wDrop, wSet, wFrz, wWhile, wLcO, wLcD, eVar, bVar, eC, e1, e2, eCall, eCallP, eCallK, aN, aC, eIsi, eIsi2, tV, tNt, tAn, tO, vAn, vO, vNt, eIf, eTu, eLi, fI, fSub, fDivW, fMod, fInt, fAbs, fRep, fAdd, fCI, fMax2, fMin2, fNeg, fLen, fIsN, fNotN, fIx, eSl, fSl, oS, oN, eCh, eF, gN, gNl, gCn, gTu, dEnT, dT, dL, dEn, dLc, dR1, dR2, mD, mO, mN, mLst, mList, mCat, mRep, setE, tYesD, wipeE, env0, envP, isB]
          have wsl : ws.length ≤ 30 := by omega
          have wsp : 0 < ws.length := by omega
          refine ⟨ws, intsD_map ws, ?_⟩
          simp only []
          obtain ⟨u, v, euv, v0, bu, bv⟩ := low_bd (i := ws[p]) (j := ws.sum) (by omega)
          have u1 : u.natAbs ≤ 128 := by omega
          have v1 : v.natAbs ≤ 128 := by omega
          have sm1 := mass_sm (n := t) (by omega)
          rw [euv]
          refine ⟨⟨_, _, rfl, rfl, by omega, Hd.sm (by omega), Hd.sm (by omega)⟩, rfl, ⟨y0, v0, by omega, by omega, ?_, ?_⟩, ?_⟩
          · exact Nat.lt_of_le_of_lt u1 (Nat.lt_of_lt_of_le (by decide : 128 < 2 ^ 10) (Nat.pow_le_pow_right (by decide) (by decide)))
          · exact Nat.lt_of_le_of_lt v1 (Nat.lt_of_lt_of_le (by decide : 128 < 2 ^ 10) (Nat.pow_le_pow_right (by decide) (by decide)))
          · rintro d1 ⟨x', y', rfl, y'0, bx', by'⟩
            refine hLL _ ⟨ps.set sn ps[t], ms.set sn (.tuple [.int x', .int y']), _, _, by rw [List.map_set], by rw [List.length_set]; exact lp, by rw [List.length_set]; exact lm, fun i d hd => ?_⟩
            rcases set_get hd with ⟨rfl, rfl⟩ | ⟨_, hd⟩
            · exact ⟨x', y', rfl, y'0, mass_to (q := 0) (x := x'.natAbs) (y := 0) s1 (Nat.le_trans bx' (Nat.mul_le_mul_right _ bx)) u1, mass_to (q := 0) (x := y'.natAbs) (y := 0) s1 (Nat.le_trans by' (Nat.mul_le_mul_right _ by_)) v1⟩
            · exact mo i d hd
        · obtain ⟨ps, ms, y11, y12, rfl, lp, lm, mo⟩ := hi
          have lt3 : t < ps.length := by omega
          simp [wIf, wSeq, wIf, wRet, wRetO, wNx, wFor, wAsg, wPar, wOwn, wApp, wExt, wDrop, wSet, wFrz, wWhile, wLcO, wLcD, eVar, bVar, eC, e1, e2, eCall, eCallP, eCallK, aN, aC, eIsi, eIsi2, tV, tNt, tAn, tO, vAn, vO, vNt, eIf, eTu, eLi, fI, fSub, fDivW, fMod, fInt, fAbs, fRep, fAdd, fCI, fMax2, fMin2, fNeg, fLen, fIsN, fNotN, fIx, eSl, fSl, oS, oN, eCh, eF, gN, gNl, gCn, gTu, dEnT, dT, dL, dEn, dLc, dR1, dR2, mD, mO, mN, mLst, mList, mCat, mRep, setE, tYesD, wipeE, env0, envP, isB]
          by_cases l1 : 1 < sm.length
          · obtain ⟨sa, sb, rest, rfl⟩ : ∃ a b r, sm = a :: b :: r := by
              match sm, l1 with
              | a :: b :: r, _ => exact ⟨a, b, r, rfl⟩
            obtain ⟨wa, wb, wrest, rfl⟩ : ∃ a b r, ws = a :: b :: r := by
              match ws, lys with
              | a :: b :: r, _ => exact ⟨a, b, r, rfl⟩
            have sa1 := hsm sa (by simp)
            have sb1 := hsm sb (by simp)
            have wa1 := hws wa (by simp)
            have wb1 := hws wb (by simp)
            have ixa : L2.ixN m.toNat (sa : Int) = some sa := by
              unfold L2.ixN
              have h0 : (0 : Int) ≤ (sa : Int) := by omega
              have h1 : (sa : Int) < ((m.toNat : Nat) : Int) := by omega
              rw [if_pos h0, if_pos h1, Int.toNat_natCast]
            have ixb : L2.ixN m.toNat (sb : Int) = some sb := by
              unfold L2.ixN
              have h0 : (0 : Int) ≤ (sb : Int) := by omega
              have h1 : (sb : Int) < ((m.toNat : Nat) : Int) := by omega
              rw [if_pos h0, if_pos h1, Int.toNat_natCast]
            have lo1 : Lo wa := lo_sm (by omega)
            have lo2 : Lo wb := lo_sm (by omega)
            have lo3 : Lo st := lo_sm (by omega)
            simp [wSet2, at0, at1, at_int lt3, dN, lo1, lo2, lo3, lp, ixa, ixb, wSeq, wIf, wRet, wRetO, wNx, wFor, wAsg, wPar, wOwn, wApp, wExt, wDrop, wSet, wFrz, wWhile, wLcO, wLcD, eVar, bVar, eC, e1, e2, eCall, eCallP, eCallK, aN, aC, eIsi, eIsi2, tV, tNt, tAn, tO, vAn, vO, vNt, eIf, eTu, eLi, fI, fSub, fDivW, fMod, fInt, fAbs, fRep, fAdd, fCI, fMax2, fMin2, fNeg, fLen, fIsN, fNotN, fIx, eSl, fSl, oS, oN, eCh, eF, gN, gNl, gCn, gTu, dEnT, dT, dL, dEn, dLc, dR1, dR2, mD, mO, mN, mLst, mList, mCat, mRep, setE, tYesD, wipeE, env0, envP, isB]
            rw [if_pos (by omega)]
            refine hL _ ⟨(ps.set sa (ps[t] + wb * st)).set sb (ps[t] - wa * st), ms, _, _, _, _, _, _, _, _, _, _, by rw [List.map_set, List.map_set], by simp [lp], lm, mo⟩
          · have l1' : ¬ (1 : Int) < (sm.length : Int) := by omega
            simp [l1, l1']
            exact hL _ ⟨ps, ms, _, _, _, _, _, _, _, _, _, _, rfl, lp, lm, mo⟩
  · obtain ⟨ps, ms, x2, x3, x8, x9, x10, x11, x12, x13, x14, x15, rfl, lp, lm, mo⟩ := hi
    simp only [wSeq]
    refine cut_ds (fun e => ∃ qs : List Int, e = [.pot, .dat (.int m), x2, x3, .dat (.list (fs.map dN)), .dat (.int wi), .own (qs.map PyData.int), .own ms, x8, x9, x10, x11, x12, x13, x14, x15] ∧ qs.length = m.toNat ∧ ∀ q ∈ qs, 1 ≤ q ∧ q ≤ 999) (fun k hk => ?_) (fun e he => ?_)
    · have p0 : ps ≠ [] := fun z => by rw [z] at lp; simp at lp; omega
      have four : k.nx [.pot, .dat (.int m), x2, x3, .dat (.list (fs.map dN)), .dat (.int wi), .own (List.replicate m.toNat (.int 400)), .own ms, x8, x9, x10, x11, x12, x13, x14, x15] :=
        hk _ ⟨List.replicate m.toNat 400, by rw [List.map_replicate], by rw [List.length_replicate], fun q hq => by
          have := List.eq_of_mem_replicate hq
          subst this
          decide⟩
      have b1 : -100000 ≤ m := by omega
      have b2 : m ≤ 100000 := by omega
      have b3 : m.toNat ≤ 100000 := by omega
      simp [wIf, intsD_map, p0, fMinL, fMaxL, b1, b2, b3, wSeq, wIf, wRet, wRetO, wNx, wFor, wAsg, wPar, wOwn, wApp, wExt, wDrop, wSet, wFrz, wWhile, wLcO, wLcD, eVar, bVar, eC, e1, e2, eCall, eCallP, eCallK, aN, aC, eIsi, eIsi2, tV, tNt, tAn, tO, vAn, vO, vNt, eIf, eTu, eLi, fI, fSub, fDivW, fMod, fInt, fAbs, fRep, fAdd, fCI, fMax2, fMin2, fNeg, fLen, fIsN, fNotN, fIx, eSl, fSl, oS, oN, eCh, eF, gN, gNl, gCn, gTu, dEnT, dT, dL, dEn, dLc, dR1, dR2, mD, mO, mN, mLst, mList, mCat, mRep, setE, tYesD, wipeE, env0, envP, isB]
      intro mn hmn mnl
      by_cases c1 : mn < 1
      · simp [c1, b3, four]
      · simp [c1]
        intro mx hmx mxl
        by_cases c2 : 999 < mx
        · simp [c2, b3, four]
        · simp [c2]
          exact hk _ ⟨ps, rfl, lp, fun q hq => ⟨by have := mnl q hq; omega, by have := mxl q hq; omega⟩⟩
    · obtain ⟨qs, rfl, lq, hq⟩ := he
      have lz : (ziD (fs.map dN) (qs.map PyData.int)).length ≤ 31 := by
        rw [ziD_len, List.length_map, List.length_map]
        omega
      have lz2 : (ziD ms (qs.map PyData.int)).length ≤ 31 := by
        rw [ziD_len, List.length_map]
        omega
      simp [wFrz, wAsg, fTuple, eF, dLc, dZip, wSeq, e1, eVar, gN, wipeE]
      refine lc_rel (keep := fun _ => true) (q := fun x y => ∃ (f : Nat) (p a b : Int), x = .tuple [dN f, .int p] ∧ y = .tuple [dN f, .int a, .int b] ∧ 1 ≤ a ∧ a ≤ b ∧ b ≤ 999) _ [] (fun d hd R1 R2 hR => ?_) (by simp; omega) (fun ys hys => ?_)
      · obtain ⟨i, hi⟩ := List.getElem?_of_mem hd
        obtain ⟨x, y, hx, hy, rfl⟩ := ziD_get hi
        rw [List.getElem?_map] at hx hy
        obtain ⟨f, _, rfl⟩ := Option.map_eq_some_iff.mp hx
        obtain ⟨p, hp2, rfl⟩ := Option.map_eq_some_iff.mp hy
        obtain ⟨q1, q2⟩ := hq p (List.mem_of_getElem? hp2)
        have z1 : wi ≤ 1000000 := by omega
        have z2 : 0 < wi := by omega
        simp [draw_n, draw_pre, draw_all, z1, z2, max_if, min_if, wSeq, wIf, wRet, wRetO, wNx, wFor, wAsg, wPar, wOwn, wApp, wExt, wDrop, wSet, wFrz, wWhile, wLcO, wLcD, eVar, bVar, eC, e1, e2, eCall, eCallP, eCallK, aN, aC, eIsi, eIsi2, tV, tNt, tAn, tO, vAn, vO, vNt, eIf, eTu, eLi, fI, fSub, fDivW, fMod, fInt, fAbs, fRep, fAdd, fCI, fMax2, fMin2, fNeg, fLen, fIsN, fNotN, fIx, eSl, fSl, oS, oN, eCh, eF, gN, gNl, gCn, gTu, dEnT, dT, dL, dEn, dLc, dR1, dR2, mD, mO, mN, mLst, mList, mCat, mRep, setE, tYesD, wipeE, env0, envP, isB]
        intro r r0 r1 t t0 t1
        exact hR _ ⟨f, p, _, _, rfl, rfl, by omega, by omega, by omega⟩
      · rw [filter_yes] at hys
        have lys := hys.len
        rw [ziD_len, List.length_map, List.length_map] at lys
        have good : momentsB (.tuple ys) = true := by
          refine moms_ok (by omega) (by omega) (goods_intro fun i d hd => ?_)
          obtain ⟨x, hx, f, p, a, b, e1, rfl, a1, ab, b9⟩ := hys.get i d hd
          obtain ⟨x1, y1, hx1, hy1, e2⟩ := ziD_get hx
          rw [e1] at e2
          cases e2
          rw [List.getElem?_map] at hx1
          obtain ⟨f', hf', e3⟩ := Option.map_eq_some_iff.mp hx1
          have e4 : f' = f := by
            simp only [dN, PyData.int.injEq] at e3
            omega
          subst e4
          have fo := ok i f' hf'
          simp only [dN]
          exact mom_ok (by omega) (by omega) (by omega) (by omega) (by omega) (by omega) (by omega)
        simp [wRet, eTu, aC, aN, eVar, e1, fTuple, eF, dLc, dZip, wipeE]
        refine lc_rel (keep := fun _ => true) (q := fun x y => True) _ [] (fun d hd R1 R2 hR => ?_) (by simp; omega) (fun zs hzs => ?_)
        · obtain ⟨i, hi⟩ := List.getElem?_of_mem hd
          obtain ⟨x, y, hx, hy, rfl⟩ := ziD_get hi
          rw [List.getElem?_map] at hy
          obtain ⟨p, hp2, rfl⟩ := Option.map_eq_some_iff.mp hy
          obtain ⟨q1, q2⟩ := hq p (List.mem_of_getElem? hp2)
          obtain ⟨x1, y1, rfl, y0, bx, by_⟩ := mo i x hx
          have li : i < ms.length := (List.getElem?_eq_some_iff.mp hx).1
          have sm1 := mass_sm (n := i) (by omega)
          have p1 : p.natAbs < 2 ^ 1000 := Nat.lt_of_le_of_lt (by omega : p.natAbs ≤ 999) (Nat.lt_of_lt_of_le (by decide : 999 < 2 ^ 10) (Nat.pow_le_pow_right (by decide) (by decide)))
          have p2 : (1 : Int).natAbs < 2 ^ 1000 := Nat.lt_of_le_of_lt (by decide : (1 : Int).natAbs ≤ 999) (Nat.lt_of_lt_of_le (by decide : 999 < 2 ^ 10) (Nat.pow_le_pow_right (by decide) (by decide)))
          simp only [tYesD, if_true] at hR ⊢
          simp [wSeq, wIf, wRet, wRetO, wNx, wFor, wAsg, wPar, wOwn, wApp, wExt, wDrop, wSet, wFrz, wWhile, wLcO, wLcD, eVar, bVar, eC, e1, e2, eCall, eCallP, eCallK, aN, aC, eIsi, eIsi2, tV, tNt, tAn, tO, vAn, vO, vNt, eIf, eTu, eLi, fI, fSub, fDivW, fMod, fInt, fAbs, fRep, fAdd, fCI, fMax2, fMin2, fNeg, fLen, fIsN, fNotN, fIx, eSl, fSl, oS, oN, eCh, eF, gN, gNl, gCn, gTu, dEnT, dT, dL, dEn, dLc, dR1, dR2, mD, mO, mN, mLst, mList, mCat, mRep, setE, tYesD, wipeE, env0, envP, isB]
          exact ⟨rfl, ⟨y0, by decide, Nat.lt_of_le_of_lt bx sm1, Nat.lt_of_le_of_lt by_ sm1, p1, p2⟩, fun d _ => hR _ trivial⟩
        · simp
          exact ⟨_, _, rfl, good⟩
def w__law_any_moments : DS :=
  (wRet (eIf (tV (e2 fEq (eCallP F__law_draw 0 (aC (eC (.int 3)) aN)) (eC (.int 0)))) (eCallP F__law_moments 0 (aC (eVar 1) aN)) (e2 fIx (eCallP F__law_balanced 0 (aC (eVar 1) aN)) (eC (.int 0)))))

def F__law_any_moments : Fs := F__law_moments
theorem l__law_any_moments (ds : List PyData) (hp : F__law_any_moments.pre ds) : w__law_any_moments { nx := fun _ => F__law_any_moments.post ds .none, rt := F__law_any_moments.post ds } (envP N__law_any_moments ds) := by
  obtain ⟨m, rfl, h1, h2⟩ := many_of hp
  simp [w__law_any_moments, draw_n, draw_pre, draw_all, fEq, sh_int, eqv_int, wSeq, wIf, wRet, wRetO, wNx, wFor, wAsg, wPar, wOwn, wApp, wExt, wDrop, wSet, wFrz, wWhile, wLcO, wLcD, eVar, bVar, eC, e1, e2, eCall, eCallP, eCallK, aN, aC, eIsi, eIsi2, tV, tNt, tAn, tO, vAn, vO, vNt, eIf, eTu, eLi, fI, fSub, fDivW, fMod, fInt, fAbs, fRep, fAdd, fCI, fMax2, fMin2, fNeg, fLen, fIsN, fNotN, fIx, eSl, fSl, oS, oN, eCh, eF, gN, gNl, gCn, gTu, dEnT, dT, dL, dEn, dLc, dR1, dR2, mD, mO, mN, mLst, mList, mCat, mRep, setE, tYesD, wipeE, env0, envP, isB]
  intro r r0 r3
  by_cases c : r = 0
  · simp [c]
    exact ⟨rfl, ⟨h1, h2⟩, fun d h => h⟩
  · simp [c]
    refine ⟨rfl, ⟨h1, h2⟩, ?_⟩
    rintro d ⟨ms, x, rfl, h⟩
    simp [at0]
    exact h
end Hd
/-! text Lr24 -/
/-! Lr24: drawn promises, houses, plans. -/
namespace Hd
open PySem Dl
def w__law_promise : DS :=
  (wSeq (wPar [4, 5] (mD (eCall F__law_ends (aC (eVar 1) aN)) (mO (mLst aN) mN)))
    (wSeq (wFor (dR1 (e1 fLen (bVar 1))) (gN 3) (wSeq (wAsg (eIf (tO (tV (e2 (fIn false) (bVar 3) (bVar 4))) (tAn (tV (e2 fGt (bVar 2) (eC (.int 0)))) (tV (e2 fEq (eCallP F__law_draw 0 (aC (eC (.int 3)) aN)) (eC (.int 0)))))) (eCallP F__law_pay 0 aN) (eC .none)) (gN 6))
    (wSeq (wAsg (eIf (tAn (tV (e2 (fIn true) (bVar 3) (bVar 4))) (tAn (tV (e2 fGt (bVar 2) (eC (.int 1)))) (tV (e2 fEq (eCallP F__law_draw 0 (aC (eC (.int 3)) aN)) (eC (.int 0)))))) (eCallP F__law_pay 0 aN) (eC .none)) (gN 7))
    (wApp 5 (eTu (aC (eVar 6) (aC (eVar 7) aN)))))))
    (wRet (e1 fTuple (bVar 5)))))
def w__law_any_plan : DS :=
  (wSeq (wAsg (eCall F__law_ends (aC (eVar 1) aN)) (gN 2))
    (wRet (e1 fTuple (eF (dLc (dR1 (e1 fLen (bVar 1))) (gN 3) tYesD (eIf (tV (e2 (fIn false) (bVar 3) (bVar 2))) (eTu (aC (eC (.int 0)) (aC (eC (.int 1)) aN))) (eCallP F__law_any_ratio 0 (aC (eCallP F__law_pick 0 (aC (eLi (aC (eC (.int 1)) (aC (eC (.int 3)) (aC (eC (.int 9)) aN)))) aN)) (aC (eC (.int 4)) aN)))) [3])))))

def F__law_promise : Fs := ⟨2, fun ds => match ds with | [m, .int _] => momentsB m = true | _ => False, fun ds d => match ds with | [m, .int _] => promB (tupOf m) d = true | _ => True⟩
theorem lpro_of {ds : List PyData} (h : F__law_promise.pre ds) : ∃ ms k, ds = [.tuple ms, .int k] ∧ momentsB (.tuple ms) = true := by
  unfold F__law_promise at h
  dsimp only at h
  split at h
  · obtain ⟨ms, rfl, _⟩ := len_moments h
    exact ⟨_, _, rfl, h⟩
  · exact h.elim
theorem ends_pre {m : PyData} : F__law_ends.pre [m] ↔ momentsB m = true := Iff.rfl
theorem ends_n : F__law_ends.n = 1 := rfl
theorem ends_all {ms : List PyData} {P : PyData → Prop} : (∀ d, F__law_ends.post [.tuple ms] d → P d) ↔ P (.list ((endsN ms).map dN)) := ⟨fun h => h _ rfl, fun h d e => by subst e; exact h⟩
theorem pay_n : F__law_pay.n = 0 := rfl
theorem pay_pre {ds : List PyData} : F__law_pay.pre ds ↔ True := Iff.rfl
theorem pay_post {ds : List PyData} {d : PyData} : F__law_pay.post ds d ↔ payB d = true := Iff.rfl
theorem pay_some {d : PyData} (h : payB d = true) : isNon d = false := by
  unfold payB at h
  split at h
  · rfl
  · cases h
theorem cut_d {ea : DE} {env : Dl.Env} {K : PyData → Prop} (R : PyData → Prop) (A : ∀ K : PyData → Prop, (∀ d, R d → K d) → ea env K) (T : ∀ d, R d → K d) : ea env K := A K T
theorem rgD_len (lo : Int) (n : Nat) : (rgD lo n).length = n := by
  unfold rgD
  rw [List.length_map, List.length_range]
theorem opt_pay {d : PyData} (h : payB d = true) : optB d = true := by
  unfold optB
  rw [h, Bool.or_true]
theorem l__law_promise (ds : List PyData) (hp : F__law_promise.pre ds) : w__law_promise { nx := fun _ => F__law_promise.post ds .none, rt := F__law_promise.post ds } (envP N__law_promise ds) := by
  obtain ⟨ms, kd, rfl, hm⟩ := lpro_of hp
  obtain ⟨_, e, l1, l2, hg⟩ := len_moments hm
  cases e
  have b1 : ms.length ≤ 100000 := by omega
  have b2 : (ms.length : Int) ≤ 100000 := by omega
  have b3 : (-100000 : Int) ≤ (ms.length : Int) := by omega
  simp only [w__law_promise, wSeq]
  simp [ends_n, ends_pre, ends_all, hm, b2, b3, wSeq, wIf, wRet, wRetO, wNx, wFor, wAsg, wPar, wOwn, wApp, wExt, wDrop, wSet, wFrz, wWhile, wLcO, wLcD, eVar, bVar, eC, e1, e2, eCall, eCallP, eCallK, aN, aC, eIsi, eIsi2, tV, tNt, tAn, tO, vAn, vO, vNt, eIf, eTu, eLi, fI, fSub, fDivW, fMod, fInt, fAbs, fRep, fAdd, fCI, fMax2, fMin2, fNeg, fLen, fIsN, fNotN, fIx, eSl, fSl, oS, oN, eCh, eF, gN, gNl, gCn, gTu, dEnT, dT, dL, dEn, dLc, dR1, dR2, mD, mO, mN, mLst, mList, mCat, mRep, setE, tYesD, wipeE, env0, envP, isB]
  refine loop_inv (I := fun j e => ∃ found x y z, e = [.pot, .dat (.tuple ms), .dat (.int kd), x, .dat (.list ((endsN ms).map dN)), .own found, y, z] ∧ found.length = j ∧ goods (pairB (endsN ms)) 0 found = true) _ 0 _ (fun j d env L hd hi hL => ?_) ⟨[], _, _, _, rfl, rfl, rfl⟩ (fun e hi => ?_)
  · obtain ⟨found, x, y, z, rfl, lf, hgf⟩ := hi
    obtain ⟨lt, rfl⟩ := rgD_get hd
    have ct : ((0 : Int) + ((j : Nat) : Int)) = (j : Int) := by omega
    rw [ct]
    simp only [gN, wSeq]
    simp [wAsg]
    have c1 := inD_dN j (endsN ms)
    have c2 := flt_dN (endsN ms)
    refine cut_d (fun d => optB d = true ∧ ((endsN ms).contains j = true → isNon d = false)) (fun K hK => ?_) (fun call hcall => ?_)
    · by_cases c : (endsN ms).contains j = true
      · rw [c] at c1
        simp [fIn, flt_int, c1, c2, c, pay_n, pay_pre, pay_post, wSeq, wIf, wRet, wRetO, wNx, wFor, wAsg, wPar, wOwn, wApp, wExt, wDrop, wSet, wFrz, wWhile, wLcO, wLcD, eVar, bVar, eC, e1, e2, eCall, eCallP, eCallK, aN, aC, eIsi, eIsi2, tV, tNt, tAn, tO, vAn, vO, vNt, eIf, eTu, eLi, fI, fSub, fDivW, fMod, fInt, fAbs, fRep, fAdd, fCI, fMax2, fMin2, fNeg, fLen, fIsN, fNotN, fIx, eSl, fSl, oS, oN, eCh, eF, gN, gNl, gCn, gTu, dEnT, dT, dL, dEn, dLc, dR1, dR2, mD, mO, mN, mLst, mList, mCat, mRep, setE, tYesD, wipeE, env0, envP, isB]
        exact fun d hd => hK d ⟨opt_pay hd, fun _ => pay_some hd⟩
      · have c' : (endsN ms).contains j = false := by simpa using c
        rw [c'] at c1
        have hn : K .none := hK _ ⟨rfl, fun z => absurd z c⟩
        by_cases k0 : 0 < kd
        · simp [fIn, flt_int, c1, c2, k0, pay_n, pay_pre, pay_post, draw_n, draw_pre, draw_all, fEq, sh_int, eqv_int, wSeq, wIf, wRet, wRetO, wNx, wFor, wAsg, wPar, wOwn, wApp, wExt, wDrop, wSet, wFrz, wWhile, wLcO, wLcD, eVar, bVar, eC, e1, e2, eCall, eCallP, eCallK, aN, aC, eIsi, eIsi2, tV, tNt, tAn, tO, vAn, vO, vNt, eIf, eTu, eLi, fI, fSub, fDivW, fMod, fInt, fAbs, fRep, fAdd, fCI, fMax2, fMin2, fNeg, fLen, fIsN, fNotN, fIx, eSl, fSl, oS, oN, eCh, eF, gN, gNl, gCn, gTu, dEnT, dT, dL, dEn, dLc, dR1, dR2, mD, mO, mN, mLst, mList, mCat, mRep, setE, tYesD, wipeE, env0, envP, isB]
          intro r r0 r3
          by_cases r00 : r = 0
          · simp [r00]
            exact fun d hd => hK d ⟨opt_pay hd, fun _ => pay_some hd⟩
          · simp [r00]
            exact hn
        · simp [fIn, flt_int, c1, c2, k0, hn, wSeq, wIf, wRet, wRetO, wNx, wFor, wAsg, wPar, wOwn, wApp, wExt, wDrop, wSet, wFrz, wWhile, wLcO, wLcD, eVar, bVar, eC, e1, e2, eCall, eCallP, eCallK, aN, aC, eIsi, eIsi2, tV, tNt, tAn, tO, vAn, vO, vNt, eIf, eTu, eLi, fI, fSub, fDivW, fMod, fInt, fAbs, fRep, fAdd, fCI, fMax2, fMin2, fNeg, fLen, fIsN, fNotN, fIx, eSl, fSl, oS, oN, eCh, eF, gN, gNl, gCn, gTu, dEnT, dT, dL, dEn, dLc, dR1, dR2, mD, mO, mN, mLst, mList, mCat, mRep, setE, tYesD, wipeE, env0, envP, isB]
    simp only [gN, wSeq]
    simp [wAsg]
    refine cut_d (fun d => optB d = true ∧ ((endsN ms).contains j = true → isNon d = true)) (fun K hK => ?_) (fun back hback => ?_)
    · have hn : K .none := hK _ ⟨rfl, fun z => rfl⟩
      by_cases c : (endsN ms).contains j = true
      · rw [c] at c1
        simp [fIn, flt_int, c1, c2, hn, wSeq, wIf, wRet, wRetO, wNx, wFor, wAsg, wPar, wOwn, wApp, wExt, wDrop, wSet, wFrz, wWhile, wLcO, wLcD, eVar, bVar, eC, e1, e2, eCall, eCallP, eCallK, aN, aC, eIsi, eIsi2, tV, tNt, tAn, tO, vAn, vO, vNt, eIf, eTu, eLi, fI, fSub, fDivW, fMod, fInt, fAbs, fRep, fAdd, fCI, fMax2, fMin2, fNeg, fLen, fIsN, fNotN, fIx, eSl, fSl, oS, oN, eCh, eF, gN, gNl, gCn, gTu, dEnT, dT, dL, dEn, dLc, dR1, dR2, mD, mO, mN, mLst, mList, mCat, mRep, setE, tYesD, wipeE, env0, envP, isB]
      · have c' : (endsN ms).contains j = false := by simpa using c
        rw [c'] at c1
        by_cases k0 : 1 < kd
        · simp [fIn, flt_int, c1, c2, k0, pay_n, pay_pre, pay_post, draw_n, draw_pre, draw_all, fEq, sh_int, eqv_int, wSeq, wIf, wRet, wRetO, wNx, wFor, wAsg, wPar, wOwn, wApp, wExt, wDrop, wSet, wFrz, wWhile, wLcO, wLcD, eVar, bVar, eC, e1, e2, eCall, eCallP, eCallK, aN, aC, eIsi, eIsi2, tV, tNt, tAn, tO, vAn, vO, vNt, eIf, eTu, eLi, fI, fSub, fDivW, fMod, fInt, fAbs, fRep, fAdd, fCI, fMax2, fMin2, fNeg, fLen, fIsN, fNotN, fIx, eSl, fSl, oS, oN, eCh, eF, gN, gNl, gCn, gTu, dEnT, dT, dL, dEn, dLc, dR1, dR2, mD, mO, mN, mLst, mList, mCat, mRep, setE, tYesD, wipeE, env0, envP, isB]
          intro r r0 r3
          by_cases r00 : r = 0
          · simp [r00]
            exact fun d hd => hK d ⟨opt_pay hd, fun z => absurd z c⟩
          · simp [r00]
            exact hn
        · simp [fIn, flt_int, c1, c2, k0, hn, wSeq, wIf, wRet, wRetO, wNx, wFor, wAsg, wPar, wOwn, wApp, wExt, wDrop, wSet, wFrz, wWhile, wLcO, wLcD, eVar, bVar, eC, e1, e2, eCall, eCallP, eCallK, aN, aC, eIsi, eIsi2, tV, tNt, tAn, tO, vAn, vO, vNt, eIf, eTu, eLi, fI, fSub, fDivW, fMod, fInt, fAbs, fRep, fAdd, fCI, fMax2, fMin2, fNeg, fLen, fIsN, fNotN, fIx, eSl, fSl, oS, oN, eCh, eF, gN, gNl, gCn, gTu, dEnT, dT, dL, dEn, dLc, dR1, dR2, mD, mO, mN, mLst, mList, mCat, mRep, setE, tYesD, wipeE, env0, envP, isB]
    have lf2 : found.length < 100000 := by omega
    simp [lf2, wSeq, wIf, wRet, wRetO, wNx, wFor, wAsg, wPar, wOwn, wApp, wExt, wDrop, wSet, wFrz, wWhile, wLcO, wLcD, eVar, bVar, eC, e1, e2, eCall, eCallP, eCallK, aN, aC, eIsi, eIsi2, tV, tNt, tAn, tO, vAn, vO, vNt, eIf, eTu, eLi, fI, fSub, fDivW, fMod, fInt, fAbs, fRep, fAdd, fCI, fMax2, fMin2, fNeg, fLen, fIsN, fNotN, fIx, eSl, fSl, oS, oN, eCh, eF, gN, gNl, gCn, gTu, dEnT, dT, dL, dEn, dLc, dR1, dR2, mD, mO, mN, mLst, mList, mCat, mRep, setE, tYesD, wipeE, env0, envP, isB]
    refine hL _ ⟨found ++ [.tuple [call, back]], _, _, _, rfl, by rw [List.length_append]; simp; omega, ?_⟩
    rw [goods_app, hgf, Bool.true_and, pairB, hcall.1, hback.1]
    have e0 : 0 + found.length = j := by omega
    rw [e0]
    cases c : (endsN ms).contains j with
    | false => rfl
    | true => rw [hcall.2 c, hback.2 c]; rfl
  · obtain ⟨found, x, y, z, rfl, lf, hgf⟩ := hi
    simp [F__law_promise, fTuple, tupOf, wSeq, wIf, wRet, wRetO, wNx, wFor, wAsg, wPar, wOwn, wApp, wExt, wDrop, wSet, wFrz, wWhile, wLcO, wLcD, eVar, bVar, eC, e1, e2, eCall, eCallP, eCallK, aN, aC, eIsi, eIsi2, tV, tNt, tAn, tO, vAn, vO, vNt, eIf, eTu, eLi, fI, fSub, fDivW, fMod, fInt, fAbs, fRep, fAdd, fCI, fMax2, fMin2, fNeg, fLen, fIsN, fNotN, fIx, eSl, fSl, oS, oN, eCh, eF, gN, gNl, gCn, gTu, dEnT, dT, dL, dEn, dLc, dR1, dR2, mD, mO, mN, mLst, mList, mCat, mRep, setE, tYesD, wipeE, env0, envP, isB]
    rw [rgD_len] at lf
    rw [promB, hgf, Bool.and_true, decide_eq_true_eq]
    omega
def F__law_house : Fs := ⟨2, fun ds => match ds with | [.int m, .list ks] => 1 ≤ m ∧ m ≤ 31 ∧ ks.length ≤ 4 ∧ ∀ k ∈ ks, ∃ i, k = .int i | _ => False, fun ds d => match ds with | [.int m, .list ks] => houseB d = true ∧ (prosOf d).length = ks.length | _ => True⟩
theorem lhou_of {ds : List PyData} (h : F__law_house.pre ds) : ∃ m ks, ds = [.int m, .list ks] ∧ 1 ≤ m ∧ m ≤ 31 ∧ ks.length ≤ 4 ∧ ∀ k ∈ ks, ∃ i, k = .int i := by
  unfold F__law_house at h
  dsimp only at h
  split at h
  · exact ⟨_, _, rfl, h⟩
  · exact h.elim
def w__law_house : DS :=
  (wSeq (wAsg (eCallP F__law_any_moments 0 (aC (eVar 1) aN)) (gN 3))
    (wRet (eTu (aC (eC (.str "house")) (aC (eVar 3) (aC (e1 fTuple (eF (dLc (dL (eVar 2)) (gN 4) tYesD (eCallP F__law_promise 0 (aC (eVar 3) (aC (eVar 4) aN))) [4]))) aN))))))

theorem l__law_house (ds : List PyData) (hp : F__law_house.pre ds) : w__law_house { nx := fun _ => F__law_house.post ds .none, rt := F__law_house.post ds } (envP N__law_house ds) := by
  obtain ⟨m, ks, rfl, m1, m2, k4, hk⟩ := lhou_of hp
  simp only [w__law_house, wSeq]
  simp [wSeq, wIf, wRet, wRetO, wNx, wFor, wAsg, wPar, wOwn, wApp, wExt, wDrop, wSet, wFrz, wWhile, wLcO, wLcD, eVar, bVar, eC, e1, e2, eCall, eCallP, eCallK, aN, aC, eIsi, eIsi2, tV, tNt, tAn, tO, vAn, vO, vNt, eIf, eTu, eLi, fI, fSub, fDivW, fMod, fInt, fAbs, fRep, fAdd, fCI, fMax2, fMin2, fNeg, fLen, fIsN, fNotN, fIx, eSl, fSl, oS, oN, eCh, eF, gN, gNl, gCn, gTu, dEnT, dT, dL, dEn, dLc, dR1, dR2, mD, mO, mN, mLst, mList, mCat, mRep, setE, tYesD, wipeE, env0, envP, isB]
  refine ⟨rfl, ⟨m1, m2⟩, fun d (hd : momentsB d = true) => ?_⟩
  refine lc_rel (keep := fun _ => true) (q := fun x y => promB (tupOf d) y = true) _ [] (fun d hd R1 R2 hR => ?_) (by simp; omega) (fun ys hys => ?_)
  · obtain ⟨i, rfl⟩ := hk d hd
    simp [wSeq, wIf, wRet, wRetO, wNx, wFor, wAsg, wPar, wOwn, wApp, wExt, wDrop, wSet, wFrz, wWhile, wLcO, wLcD, eVar, bVar, eC, e1, e2, eCall, eCallP, eCallK, aN, aC, eIsi, eIsi2, tV, tNt, tAn, tO, vAn, vO, vNt, eIf, eTu, eLi, fI, fSub, fDivW, fMod, fInt, fAbs, fRep, fAdd, fCI, fMax2, fMin2, fNeg, fLen, fIsN, fNotN, fIx, eSl, fSl, oS, oN, eCh, eF, gN, gNl, gCn, gTu, dEnT, dT, dL, dEn, dLc, dR1, dR2, mD, mO, mN, mLst, mList, mCat, mRep, setE, tYesD, wipeE, env0, envP, isB]
    exact ⟨rfl, ‹_›, fun d hd => hR _ hd⟩
  · rw [filter_yes] at hys
    have l := hys.len
    obtain ⟨ms, rfl, _⟩ := len_moments hd
    simp only [F__law_house, List.nil_append]
    refine ⟨?_, l.symm⟩
    simp only [houseB, hd, Bool.and_true, Bool.and_eq_true, decide_eq_true_eq, List.all_eq_true]
    refine ⟨⟨by decide +kernel, by omega⟩, fun y hy => hys.all (r := fun y => promB ms y = true) (fun x y h => h) y hy⟩
def F__law_any_plan : Fs := ⟨1, fun ds => match ds with | [m] => momentsB m = true | _ => False, fun ds d => match ds with | [m] => ∃ ps, d = .tuple ps ∧ ps.length = (tupOf m).length ∧ ∀ p ∈ ps, Va 33 1 p | _ => True⟩
theorem rat_n : F__law_any_ratio.n = 2 := rfl
theorem rat_pre {m u : Int} : F__law_any_ratio.pre [.int m, .int u] ↔ 0 ≤ m ∧ m ≤ 400 ∧ 1 ≤ u ∧ u ≤ 400 := Iff.rfl
theorem rat_post {ds : List PyData} {d : PyData} : F__law_any_ratio.post ds d ↔ ∃ i j : Int, d = .tuple [.int i, .int j] ∧ i.natAbs ≤ 1000 ∧ j.natAbs ≤ 1000 := Iff.rfl
theorem va_two {i j : Int} (h1 : i.natAbs ≤ 1000) (h2 : j.natAbs ≤ 1000) : Va 33 1 (.tuple [.int i, .int j]) := (Va.tup (k := 0) (.cons (.int (by omega)) (.cons (.int (by omega)) .nil))).mono (by decide) (by decide)
theorem l__law_any_plan (ds : List PyData) (hp : F__law_any_plan.pre ds) (hl : ds.length = 1) : w__law_any_plan { nx := fun _ => F__law_any_plan.post ds .none, rt := F__law_any_plan.post ds } (envP N__law_any_plan ds) := by
  obtain ⟨m, rfl⟩ := one_of hl
  have hm : momentsB m = true := hp
  obtain ⟨ms, rfl, l1, l2, hg⟩ := len_moments hm
  have b2 : (ms.length : Int) ≤ 100000 := by omega
  have b3 : (-100000 : Int) ≤ (ms.length : Int) := by omega
  simp only [w__law_any_plan, wSeq]
  simp [ends_n, ends_pre, ends_all, hm, b2, b3, wSeq, wIf, wRet, wRetO, wNx, wFor, wAsg, wPar, wOwn, wApp, wExt, wDrop, wSet, wFrz, wWhile, wLcO, wLcD, eVar, bVar, eC, e1, e2, eCall, eCallP, eCallK, aN, aC, eIsi, eIsi2, tV, tNt, tAn, tO, vAn, vO, vNt, eIf, eTu, eLi, fI, fSub, fDivW, fMod, fInt, fAbs, fRep, fAdd, fCI, fMax2, fMin2, fNeg, fLen, fIsN, fNotN, fIx, eSl, fSl, oS, oN, eCh, eF, gN, gNl, gCn, gTu, dEnT, dT, dL, dEn, dLc, dR1, dR2, mD, mO, mN, mLst, mList, mCat, mRep, setE, tYesD, wipeE, env0, envP, isB]
  refine lc_rel (keep := fun _ => true) (q := fun x y => Va 33 1 y) _ [] (fun d hd R1 R2 hR => ?_) (by rw [rgD_len]; simp; omega) (fun ys hys => ?_)
  · obtain ⟨i, hi⟩ := List.getElem?_of_mem hd
    obtain ⟨li, rfl⟩ := rgD_get hi
    have ct : ((0 : Int) + ((i : Nat) : Int)) = (i : Int) := by omega
    simp only [tYesD, if_true] at hR ⊢
    rw [ct]
    have c1 := inD_dN i (endsN ms)
    have c2 := flt_dN (endsN ms)
    by_cases c : (endsN ms).contains i = true
    · rw [c] at c1
      simp [fIn, flt_int, c1, c2, wSeq, wIf, wRet, wRetO, wNx, wFor, wAsg, wPar, wOwn, wApp, wExt, wDrop, wSet, wFrz, wWhile, wLcO, wLcD, eVar, bVar, eC, e1, e2, eCall, eCallP, eCallK, aN, aC, eIsi, eIsi2, tV, tNt, tAn, tO, vAn, vO, vNt, eIf, eTu, eLi, fI, fSub, fDivW, fMod, fInt, fAbs, fRep, fAdd, fCI, fMax2, fMin2, fNeg, fLen, fIsN, fNotN, fIx, eSl, fSl, oS, oN, eCh, eF, gN, gNl, gCn, gTu, dEnT, dT, dL, dEn, dLc, dR1, dR2, mD, mO, mN, mLst, mList, mCat, mRep, setE, tYesD, wipeE, env0, envP, isB]
      exact hR _ (va_two (by decide) (by decide))
    · have c' : (endsN ms).contains i = false := by simpa using c
      rw [c'] at c1
      simp [fIn, flt_int, c1, c2, pick_n, pick_pre, rat_n, wSeq, wIf, wRet, wRetO, wNx, wFor, wAsg, wPar, wOwn, wApp, wExt, wDrop, wSet, wFrz, wWhile, wLcO, wLcD, eVar, bVar, eC, e1, e2, eCall, eCallP, eCallK, aN, aC, eIsi, eIsi2, tV, tNt, tAn, tO, vAn, vO, vNt, eIf, eTu, eLi, fI, fSub, fDivW, fMod, fInt, fAbs, fRep, fAdd, fCI, fMax2, fMin2, fNeg, fLen, fIsN, fNotN, fIx, eSl, fSl, oS, oN, eCh, eF, gN, gNl, gCn, gTu, dEnT, dT, dL, dEn, dLc, dR1, dR2, mD, mO, mN, mLst, mList, mCat, mRep, setE, tYesD, wipeE, env0, envP, isB]
      intro d hd
      rw [pick_post] at hd
      simp only [List.mem_cons, List.not_mem_nil, or_false] at hd
      rcases hd with rfl | rfl | rfl
      all_goals
        rw [rat_pre]
        refine ⟨by decide, ?_⟩
        rintro d ⟨x, y, rfl, x1, y1⟩
        exact hR _ (va_two x1 y1)
  · rw [filter_yes] at hys
    have l := hys.len
    rw [rgD_len] at l
    simp only [F__law_any_plan, List.nil_append, tupOf]
    exact ⟨ys, rfl, by omega, fun y hy => hys.all (r := fun y => Va 33 1 y) (fun x y h => h) y hy⟩
end Hd
/-! text Ls24 -/
/-! Ls24: a value bent somewhere. -/
namespace Hd
open PySem Dl
def w__law_bent (F__law_bent : Fs) : DS :=
  (wSeq (wIf (tO (tNt (tV (eIsi2 "list" "tuple" (bVar 1)))) (tO (tV (e2 fEq (e1 fLen (bVar 1)) (eC (.int 0)))) (tV (e2 fEq (eCallP F__law_draw 0 (aC (eC (.int 6)) aN)) (eC (.int 0)))))) (wRet (eCallP F__law_pick 0 (aC (eVar 2) aN))) wNx)
    (wSeq (wPar [3, 4, 5] (mO (mList (bVar 1)) (mD (eCallP F__law_draw 0 (aC (e1 fLen (bVar 1)) aN)) (mD (eCallP F__law_draw 0 (aC (eC (.int 12)) aN)) mN))))
    (wSeq (wIf (tV (e2 fLt (bVar 5) (eC (.int 8)))) (wSet 3 (eVar 4) (eCallP F__law_bent 0 (aC (e2 fIx (bVar 3) (bVar 4)) (aC (eVar 2) aN)))) (wIf (tV (e2 fEq (bVar 5) (eC (.int 8)))) (wOwn 3 (mCat (eSl (bVar 3) oN (oS (bVar 4))) (eSl (bVar 3) (oS (e2 fAdd (bVar 4) (eC (.int 1)))) oN))) (wIf (tV (e2 fEq (bVar 5) (eC (.int 9)))) (wOwn 3 (mCat (eSl (bVar 3) oN (oS (e2 fAdd (bVar 4) (eC (.int 1))))) (eSl (bVar 3) (oS (bVar 4)) oN))) (wIf (tV (e2 fEq (bVar 5) (eC (.int 10)))) (wRet (eIf (tV (eIsi "list" (bVar 1))) (e1 fTuple (bVar 3)) (e1 fList (bVar 3)))) (wOwn 3 (mCat (e2 fAdd (eSl (bVar 3) oN (oS (bVar 4))) (e1 fRev (eSl (bVar 3) (oS (bVar 4)) (oS (e2 fAdd (bVar 4) (eC (.int 2))))))) (eSl (bVar 3) (oS (e2 fAdd (bVar 4) (eC (.int 2)))) oN)))))))
    (wFrz 3 (wRet (eIf (tV (eIsi "list" (bVar 1))) (eVar 3) (e1 fTuple (bVar 3))))))))

def F_bent (n : Nat) : Fs := ⟨2, fun ds => match ds with | [v, .list odd] => v.depth < n ∧ okB v = true ∧ mz v ≤ 40000 ∧ 0 < odd.length ∧ odd.length ≤ 1000 ∧ ∀ o ∈ odd, Va 100 5 o | _ => False,
  fun ds d => match ds with | [v, .list odd] => Va (3 * mz v + 100) (v.depth + 5) d | _ => True⟩
theorem bent_of {n : Nat} {ds : List PyData} (h : (F_bent n).pre ds) : ∃ v odd, ds = [v, .list odd] ∧ v.depth < n ∧ okB v = true ∧ mz v ≤ 40000 ∧ 0 < odd.length ∧ odd.length ≤ 1000 ∧ ∀ o ∈ odd, Va 100 5 o := by
  unfold F_bent at h
  dsimp only at h
  split at h
  · exact ⟨_, _, rfl, h⟩
  · exact h.elim
theorem Vs.cut {n k : Nat} {ds : List PyData} (h : Vs n k ds) (lo hi : Option Int) : Vs n k (cutG ds lo hi) := (h.drop _).take _
theorem len_mz : ∀ ds : List PyData, ds.length * 2 ≤ mzAll ds
  | [] => by simp [mzAll]
  | d :: ds => by
    have := len_mz ds
    rw [List.length_cons, mzAll]
    omega
theorem Vs.self (ds : List PyData) (h : okAll ds = true) : Vs (mzAll ds) (PyData.depthAll ds) ds := ⟨h, Nat.le_refl _, Nat.le_refl _⟩
theorem Vs.len {n k : Nat} {ds : List PyData} (h : Vs n k ds) : ds.length * 2 ≤ n := Nat.le_trans (len_mz ds) h.mz
/-- one exchanged -/
theorem Vs.set1 {ds : List PyData} (h : okAll ds = true) {i : Nat} (hi : i < ds.length) {d : PyData} (hd : Va (3 * Hd.mz ds[i] + 100) ((ds[i]).depth + 5) d) : Vs (3 * mzAll ds + 100) (PyData.depthAll ds + 5) (ds.set i d) := by
  have e : ds = ds.take i ++ ds[i] :: ds.drop (i + 1) := by
    rw [List.getElem_cons_drop, List.take_append_drop]
  have m1 : mzAll ds = mzAll (ds.take i) + (Hd.mz ds[i] + 2 + mzAll (ds.drop (i + 1))) := by
    conv => lhs; rw [e]
    rw [mzAll_app, mzAll]
  have d1 : PyData.depthAll ds = max (PyData.depthAll (ds.take i)) (max (ds[i]).depth (PyData.depthAll (ds.drop (i + 1)))) := by
    conv => lhs; rw [e]
    rw [depthAll_app, PyData.depthAll]
  have o1 : (okAll (ds.take i) && (okB ds[i] && okAll (ds.drop (i + 1)))) = true := by
    have o2 := h
    rw [e, okAll_app, okAll] at o2
    exact o2
  rw [Bool.and_eq_true, Bool.and_eq_true] at o1
  rw [List.set_eq_take_append_cons_drop, if_pos hi]
  obtain ⟨a, b, c⟩ := hd
  refine ⟨?_, ?_, ?_⟩
  · rw [okAll_app, okAll, o1.1, a, o1.2.2]
    rfl
  · rw [mzAll_app, mzAll]
    omega
  · rw [depthAll_app, PyData.depthAll]
    omega
theorem bent_pick {odd : List PyData} {v d : PyData} (h : ∀ o ∈ odd, Va 100 5 o) (hd : d ∈ odd) : Va (3 * mz v + 100) (v.depth + 5) d := (h d hd).mono (by omega) (by omega)
theorem bent_res {xs ys : List PyData} (h : Vs (3 * mzAll xs + 100) (PyData.depthAll xs + 5) ys) {v : PyData} (hv : v = .list xs ∨ v = .tuple xs) : Va (3 * mz v + 100) (v.depth + 5) (.list ys) ∧ Va (3 * mz v + 100) (v.depth + 5) (.tuple ys) := by
  rcases hv with rfl | rfl
  all_goals
    rw [mz, PyData.depth]
    exact ⟨(Va.lst h).mono (by omega) (by omega), (Va.tup h).mono (by omega) (by omega)⟩
theorem kid_dep {xs : List PyData} {i : Nat} (hi : i < xs.length) : (xs[i]).depth ≤ PyData.depthAll xs := depth_el (List.getElem_mem hi)
theorem kid_mz : ∀ {xs : List PyData} {i : Nat} (hi : i < xs.length), mz xs[i] ≤ mzAll xs
  | x :: xs, 0, _ => by rw [List.getElem_cons_zero, mzAll]; omega
  | x :: xs, i + 1, hi => by
    have := kid_mz (xs := xs) (i := i) (by rw [List.length_cons] at hi; omega)
    rw [List.getElem_cons_succ, mzAll]
    omega
theorem l__law_bent (n : Nat) (ds : List PyData) (hp : (F_bent (n + 1)).pre ds) : w__law_bent (F_bent n) { nx := fun _ => (F_bent (n + 1)).post ds .none, rt := (F_bent (n + 1)).post ds } (envP N__law_bent ds) := by
  obtain ⟨v, odd, rfl, hdep, hok, hmz, o1, o2, ho⟩ := bent_of hp
  have o3 : odd.length ≤ 100000 := by omega
  simp only [w__law_bent, wSeq]
  by_cases hs : ∃ xs, v = .list xs ∨ v = .tuple xs
  · obtain ⟨xs, hx⟩ := hs
    have hy : ∀ ys, Vs (3 * mzAll xs + 100) (PyData.depthAll xs + 5) ys → _ := fun ys h => bent_res h hx
    have hmx : mzAll xs ≤ 40000 ∧ PyData.depthAll xs < n ∧ okAll xs = true := by
      rcases hx with rfl | rfl
      all_goals
        rw [mz] at hmz
        rw [PyData.depth] at hdep
        rw [okB] at hok
        exact ⟨by omega, by omega, hok⟩
    obtain ⟨mx, dx, ox⟩ := hmx
    have vx := Vs.self xs ox
    have lx := vx.len
    have lx2 : xs.length ≤ 100000 := by omega
    have lx3 : (xs.length : Int) ≤ 1000000 := by omega
    have pk : ∀ d ∈ odd, (F_bent (n + 1)).post [v, .list odd] d := fun d hd => bent_pick ho hd
    by_cases x0 : xs = []
    · subst x0
      rcases hx with rfl | rfl
      all_goals
        simp [wIf, pick_n, pick_pre, pick_post, o1, o3, fEq, sh_int, eqv_int, wSeq, wIf, wRet, wRetO, wNx, wFor, wAsg, wPar, wOwn, wApp, wExt, wDrop, wSet, wFrz, wWhile, wLcO, wLcD, eVar, bVar, eC, e1, e2, eCall, eCallP, eCallK, aN, aC, eIsi, eIsi2, tV, tNt, tAn, tO, vAn, vO, vNt, eIf, eTu, eLi, fI, fSub, fDivW, fMod, fInt, fAbs, fRep, fAdd, fCI, fMax2, fMin2, fNeg, fLen, fIsN, fNotN, fIx, eSl, fSl, oS, oN, eCh, eF, gN, gNl, gCn, gTu, dEnT, dT, dL, dEn, dLc, dR1, dR2, mD, mO, mN, mLst, mList, mCat, mRep, setE, tYesD, wipeE, env0, envP, isB]
        exact pk
    · have x1 : 0 < xs.length := List.length_pos_iff.mpr x0
      have x2 : (0 : Int) < (xs.length : Int) := by omega
      have x3 : ¬ (xs.length : Int) = 0 := by omega
      rcases hx with rfl | rfl
      all_goals
        simp [fTuple, fList, fRev, wIf, pick_n, pick_pre, pick_post, o1, o3, x0, x1, x2, x3, lx2, lx3, draw_n, draw_pre, draw_all, fEq, sh_int, eqv_int, wSeq, wIf, wRet, wRetO, wNx, wFor, wAsg, wPar, wOwn, wApp, wExt, wDrop, wSet, wFrz, wWhile, wLcO, wLcD, eVar, bVar, eC, e1, e2, eCall, eCallP, eCallK, aN, aC, eIsi, eIsi2, tV, tNt, tAn, tO, vAn, vO, vNt, eIf, eTu, eLi, fI, fSub, fDivW, fMod, fInt, fAbs, fRep, fAdd, fCI, fMax2, fMin2, fNeg, fLen, fIsN, fNotN, fIx, eSl, fSl, oS, oN, eCh, eF, gN, gNl, gCn, gTu, dEnT, dT, dL, dEn, dLc, dR1, dR2, mD, mO, mN, mLst, mList, mCat, mRep, setE, tYesD, wipeE, env0, envP, isB]
        intro r r0 r6
        by_cases r00 : r = 0
        · simp [r00]
          exact pk
        · simp [r00]
          intro a a0 a1 w w0 w12
          obtain ⟨i, rfl⟩ : ∃ i : Nat, a = (i : Int) := ⟨a.toNat, by omega⟩
          have hi : i < xs.length := by omega
          have lc : ∀ lo hi : Option Int, (cutG xs lo hi).length ≤ 20000 := fun lo hi => by
            have := (vx.cut lo hi).len
            omega
          have two : ∀ a b c d : Option Int, Vs (3 * mzAll xs + 100) (PyData.depthAll xs + 5) (cutG xs a b ++ cutG xs c d) := fun a b c d => ((vx.cut a b).app (vx.cut c d)).mono (by omega) (by omega)
          by_cases w8 : w < 8
          · simp only [w8, if_true]
            refine ⟨xs[i], (at_dN xs i).trans (List.getElem?_eq_getElem hi), rfl, ⟨?_, ?_, ?_, o1, o2, ho⟩, fun d hd => ⟨i, ?_, ?_⟩⟩
            · exact Nat.lt_of_le_of_lt (kid_dep hi) dx
            · exact okAll_iff.mp ox _ (List.getElem_mem hi)
            · exact Nat.le_trans (kid_mz hi) mx
            · unfold L2.ixN
              rw [if_pos (by omega), if_pos (by omega), Int.toNat_natCast]
            · first
                | exact (bent_res (Vs.set1 ox hi hd) (.inl rfl)).1
                | exact (bent_res (Vs.set1 ox hi hd) (.inr rfl)).2
          · simp only [w8, if_false]
            by_cases w8' : w = 8
            · simp only [w8', if_true]
              refine ⟨?_, ?_⟩
              · have := lc none (some (i : Int))
                have := lc (some ((i : Int) + 1)) none
                omega
              · first
                | exact (bent_res (two _ _ _ _) (.inl rfl)).1
                | exact (bent_res (two _ _ _ _) (.inr rfl)).2
            · simp only [w8', if_false]
              by_cases w9 : w = 9
              · simp only [w9, if_true]
                refine ⟨?_, ?_⟩
                · have := lc none (some ((i : Int) + 1))
                  have := lc (some (i : Int)) none
                  omega
                · first
                  | exact (bent_res (two _ _ _ _) (.inl rfl)).1
                  | exact (bent_res (two _ _ _ _) (.inr rfl)).2
              · simp only [w9, if_false]
                by_cases w10 : w = 10
                · simp only [w10, if_true]
                  first
                  | exact (bent_res (vx.mono (by omega) (by omega)) (.inl rfl)).2
                  | exact (bent_res (vx.mono (by omega) (by omega)) (.inr rfl)).1
                · simp only [w10, if_false]
                  have l1 := lc none (some (i : Int))
                  have l2 := lc (some (i : Int)) (some ((i : Int) + 2))
                  have l3 := lc (some ((i : Int) + 2)) none
                  have v3 := ((vx.cut none (some (i : Int))).app ((vx.cut (some (i : Int)) (some ((i : Int) + 2))).rev.app (vx.cut (some ((i : Int) + 2)) none))).mono (n' := 3 * mzAll xs + 100) (k' := PyData.depthAll xs + 5) (by omega) (by omega)
                  refine ⟨by omega, by omega, ?_⟩
                  first
                  | exact (bent_res v3 (.inl rfl)).1
                  | exact (bent_res v3 (.inr rfl)).2
  · have b1 : isB "list" v = false := by
      cases v <;> first | rfl | exact absurd ⟨_, .inl rfl⟩ hs
    have b2 : isB "tuple" v = false := by
      cases v <;> first | rfl | exact absurd ⟨_, .inr rfl⟩ hs
    simp [wSeq, wIf, wRet, wRetO, wNx, wFor, wAsg, wPar, wOwn, wApp, wExt, wDrop, wSet, wFrz, wWhile, wLcO, wLcD, eVar, bVar, eC, e1, e2, eCall, eCallP, eCallK, aN, aC, eIsi, eIsi2, tV, tNt, tAn, tO, env0, envP, b1, b2, pick_n, pick_pre, o1, o3]
    exact fun d hd => bent_pick ho hd
end Hd
/-! text Lt24 -/
/-! Lt24: houses near a house. -/
namespace Hd
open PySem Dl
def w__law_near : DS :=
  (wSeq (wAsg (eVar 1) (gTu 3 (gCn (gN 4) (gCn (gN 5) (gCn (gN 6) gNl)))))
    (wSeq (wPar [7, 8] (mD (eCallP F__law_draw 0 (aC (e1 fLen (bVar 5)) aN)) (mD (e1 fLen (bVar 5)) mN)))
    (wSeq (wAsg (e2 fIx (bVar 5) (bVar 7)) (gTu 3 (gCn (gN 9) (gCn (gN 10) (gCn (gN 11) gNl)))))
    (wSeq (wAsg (eLi (aC (eTu (aC (eVar 9) (aC (eC (.int 0)) (aC (eVar 11) aN)))) (aC (eTu (aC (eVar 9) (aC (eVar 10) (aC (eC (.int 1000)) aN)))) (aC (eTu (aC (eVar 9) (aC (e2 fAdd (bVar 11) (eC (.int 1))) (aC (eVar 11) aN)))) (aC (eTu (aC (eVar 9) (aC (eVar 11) (aC (eVar 11) aN)))) (aC (eTu (aC (eVar 7) (aC (eVar 10) (aC (eVar 11) aN)))) (aC (eTu (aC (e2 fMax2 (eC (.int 0)) (e2 fSub (bVar 7) (eC (.int 1)))) (aC (eVar 10) (aC (eVar 11) aN)))) (aC (eTu (aC (e1 fNeg (eC (.int 1))) (aC (eVar 10) (aC (eVar 11) aN)))) (aC (eTu (aC (eC (.bool true)) (aC (eVar 10) (aC (eVar 11) aN)))) (aC (eTu (aC (eVar 9) (aC (eC (.bool true)) (aC (eVar 11) aN)))) (aC (eTu (aC (eVar 9) (aC (eC (.int 1)) (aC (eC (.int 999)) aN)))) (aC (eTu (aC (eVar 9) (aC (eVar 10) aN))) (aC (eTu (aC (eVar 9) (aC (eVar 10) (aC (eVar 11) (aC (eVar 11) aN))))) (aC (eLi (aC (eVar 9) (aC (eVar 10) (aC (eVar 11) aN)))) (aC (eC .none) aN))))))))))))))) (gN 2))
    (wSeq (wLcO 3 (dLc (dL (eVar 2)) (gN 15) tYesD (eTu (aC (eVar 4) (aC (eCall F__law_put (aC (eVar 5) (aC (eVar 7) (aC (eVar 15) aN)))) (aC (eVar 6) aN)))) [15]))
    (wSeq (wExt 3 (eLi (aC (eTu (aC (eVar 4) (aC (e2 fAdd (bVar 5) (eTu (aC (eTu (aC (e2 fSub (bVar 8) (eC (.int 1))) (aC (eC (.int 5)) (aC (eC (.int 6)) aN)))) aN))) (aC (eVar 6) aN)))) (aC (eTu (aC (eVar 4) (aC (eSl (bVar 5) oN (oS (e1 fNeg (eC (.int 1))))) (aC (eVar 6) aN)))) (aC (eTu (aC (eVar 4) (aC (eTu aN) (aC (eVar 6) aN)))) (aC (eTu (aC (eVar 4) (aC (e1 fList (bVar 5)) (aC (eVar 6) aN)))) (aC (eTu (aC (eVar 4) (aC (eVar 5) (aC (e1 fList (bVar 6)) aN)))) (aC (eTu (aC (eVar 4) (aC (eVar 5) (aC (e2 fRepA (bVar 6) (eC (.int 5))) aN)))) (aC (eTu (aC (eVar 4) (aC (eVar 5) aN))) (aC (e2 fAdd (bVar 1) (eTu (aC (eTu aN) aN))) (aC (e1 fList (bVar 1)) (aC (eTu (aC (eC (.str "House")) (aC (eVar 5) (aC (eVar 6) aN)))) (aC (eTu (aC (eC .none) (aC (eVar 5) (aC (eVar 6) aN)))) aN)))))))))))))
    (wSeq (wIf (tV (e2 fNe (bVar 6) (eTu aN))) (wSeq (wAsg (eCallP F__law_draw 0 (aC (e1 fLen (bVar 6)) aN)) (gN 12))
    (wSeq (wAsg (e2 fIx (bVar 6) (bVar 12)) (gN 13))
    (wSeq (wAsg (e2 fIx (bVar 13) (bVar 7)) (gTu 2 (gCn (gN 16) (gCn (gN 17) gNl))))
    (wSeq (wAsg (eLi (aC (eTu (aC (eVar 16) (aC (eTu (aC (eC (.int 1000)) (aC (eC (.int 0)) aN))) aN))) (aC (eTu (aC (eVar 16) (aC (eTu (aC (eC (.int 0)) (aC (e1 fNeg (eC (.int 1000))) aN))) aN))) (aC (eTu (aC (eVar 16) (aC (eTu (aC (eC (.bool true)) (aC (eC (.int 0)) aN))) aN))) (aC (eTu (aC (eVar 16) (aC (eTu (aC (eC (.int 0)) (aC (eC (.bool true)) aN))) aN))) (aC (eTu (aC (eVar 16) (aC (eTu (aC (eC (.int 999)) (aC (e1 fNeg (eC (.int 999))) aN))) aN))) (aC (eTu (aC (eVar 16) (aC (eTu (aC (eC (.int 0)) aN)) aN))) (aC (eTu (aC (eVar 16) (aC (eLi (aC (eC (.int 0)) (aC (eC (.int 0)) aN))) aN))) (aC (eTu (aC (eTu (aC (eC (.int 1000)) (aC (eC (.int 0)) aN))) (aC (eVar 17) aN))) (aC (eTu (aC (eTu (aC (eC (.int 0)) (aC (eC (.int 1000)) aN))) (aC (eVar 17) aN))) (aC (eTu (aC (eTu (aC (e1 fNeg (eC (.int 999))) (aC (eC (.int 999)) aN))) (aC (eVar 17) aN))) (aC (eTu (aC (eTu (aC (eC (.int 0)) (aC (eC (.bool false)) aN))) (aC (eVar 17) aN))) (aC (eTu (aC (eC .none) (aC (eVar 17) aN))) (aC (eTu (aC (eC .none) (aC (eC .none) aN))) (aC (eTu (aC (eVar 16) (aC (eC .none) aN))) (aC (eTu (aC (eVar 16) aN)) (aC (eLi (aC (eVar 16) (aC (eVar 17) aN))) (aC (eTu (aC (eVar 16) (aC (eVar 17) (aC (eC .none) aN)))) (aC (eC .none) (aC (eTu (aC (eVar 17) (aC (eVar 16) aN))) aN)))))))))))))))))))) (gN 14))
    (wSeq (wExt 3 (eF (dLc (dL (eVar 14)) (gN 18) tYesD (eTu (aC (eVar 4) (aC (eVar 5) (aC (eCall F__law_put (aC (eVar 6) (aC (eVar 12) (aC (eCall F__law_put (aC (eVar 13) (aC (eVar 7) (aC (eVar 18) aN)))) aN)))) aN)))) [18])))
    (wExt 3 (eF (dLc (dT (eTu (aC (eSl (bVar 13) oN (oS (e1 fNeg (eC (.int 1))))) (aC (e2 fAdd (bVar 13) (eSl (bVar 13) (oS (e1 fNeg (eC (.int 1)))) oN)) (aC (e1 fRevA (bVar 13)) (aC (e1 fList (bVar 13)) (aC (eTu aN) (aC (eC .none) aN)))))))) (gN 19) tYesD (eTu (aC (eVar 4) (aC (eVar 5) (aC (eCall F__law_put (aC (eVar 6) (aC (eVar 12) (aC (eVar 19) aN)))) aN)))) [19])))))))) wNx)
    (wRetO 3))))))))

def F__law_near : Fs := ⟨1, fun ds => match ds with | [h] => HsOk h | _ => False, fun ds d => ∃ vs, d = .list vs ∧ vs.length ≤ 100 ∧ ∀ v ∈ vs, Va 60000 10 v⟩
theorem near_of {ds : List PyData} (h : F__law_near.pre ds) : ∃ v, ds = [v] ∧ HsOk v := by
  unfold F__law_near at h
  dsimp only at h
  split at h
  · exact ⟨_, rfl, h⟩
  · exact h.elim
/-- a moment, all told -/
theorem mom_all {ms : List PyData} (hm : momentsB (.tuple ms) = true) {j : Nat} (h : j < ms.length) : ∃ f a b : Int, ms[j]? = some (.tuple [.int f, .int a, .int b]) ∧ f.natAbs ≤ 31 ∧ a.natAbs ≤ 999 ∧ b.natAbs ≤ 999 := by
  obtain ⟨_, e, l1, l2, hg⟩ := len_moments hm
  cases e
  have e := List.getElem?_eq_getElem h
  have q := goods_get hg e
  rw [Nat.zero_add] at q
  rw [e]
  generalize ms[j] = d at *
  unfold momB at q
  split at q
  · rw [Bool.and_eq_true, pricesB, Bool.and_eq_true, Bool.and_eq_true] at q
    obtain ⟨i1, rfl⟩ := within_int q.1
    obtain ⟨i2, rfl⟩ := within_int q.2.1.1
    obtain ⟨i3, rfl⟩ := within_int q.2.1.2
    simp only [withinB, Bool.and_eq_true, decide_eq_true_eq] at q
    refine ⟨i1, i2, i3, rfl, ?_, by omega, by omega⟩
    have := q.1
    split at this <;> omega
  · cases q
theorem seq_cut {w u : DS} {k : DK} {env : Dl.Env} (R : Dl.Env → Prop) (A : ∀ N : Dl.Env → Prop, (∀ e, R e → N e) → w { k with nx := N } env) (T : ∀ e, R e → u k e) : wSeq w u k env := A _ T
theorem seq_to {w u : DS} {k : DK} {env : Dl.Env} (e : Dl.Env) (A : ∀ N : Dl.Env → Prop, N e → w { k with nx := N } env) (T : u k e) : wSeq w u k env := A _ T
theorem put_n : F__law_put.n = 3 := rfl
theorem put_pre {es : List PyData} {i : Int} {v : PyData} : F__law_put.pre [.tuple es, .int i, v] ↔ 0 ≤ i ∧ i < es.length ∧ es.length ≤ 1000 := Iff.rfl
theorem put_all {es : List PyData} {i : Int} {v : PyData} {P : PyData → Prop} : (∀ d, F__law_put.post [.tuple es, .int i, v] d → P d) ↔ P (.tuple (es.set i.toNat v)) := ⟨fun h => h _ rfl, fun h d e => by subst e; exact h⟩
theorem Vs.set2 {n m k : Nat} {ds : List PyData} (h : Vs n k ds) {d : PyData} (hd : Va m k d) (i : Nat) : Vs (n + 2 + m) k (ds.set i d) := by
  by_cases hi : i < ds.length
  · rw [List.set_eq_take_append_cons_drop, if_pos hi]
    have e : ds = ds.take i ++ ds[i] :: ds.drop (i + 1) := by
      rw [List.getElem_cons_drop, List.take_append_drop]
    obtain ⟨a, b, c⟩ := h
    obtain ⟨a2, b2, c2⟩ := hd
    rw [e, okAll_app, okAll, Bool.and_eq_true, Bool.and_eq_true] at a
    rw [e, mzAll_app, mzAll] at b
    rw [e, depthAll_app, PyData.depthAll] at c
    refine ⟨?_, ?_, ?_⟩
    · rw [okAll_app, okAll, a.1, a2, a.2.2]
      rfl
    · rw [mzAll_app, mzAll]
      omega
    · rw [depthAll_app, PyData.depthAll]
      omega
  · rw [List.set_eq_of_length_le (by omega)]
    exact h.mono (by omega) (Nat.le_refl _)
theorem Vs.rep {n k : Nat} {ds : List PyData} (h : Vs n k ds) : ∀ m : Nat, Vs (m * n) k (List.replicate m ds).flatten
  | 0 => by rw [Nat.zero_mul]; exact Vs.nil
  | m + 1 => by
    rw [List.replicate_succ, List.flatten_cons]
    exact (h.app (h.rep m)).mono (by rw [Nat.succ_mul]; omega) (Nat.le_refl _)
theorem tr1 {a : PyData} {n : Nat} (h1 : Va n 3 a) : Va (n + 10) 4 (.tuple [a]) := (Va.tup (.cons h1 .nil)).mono (by omega) (by omega)
theorem tr2 {a b : PyData} {n m : Nat} (h1 : Va n 3 a) (h2 : Va m 3 b) : Va (n + m + 10) 4 (.tuple [a, b]) := (Va.tup (.cons h1 (.cons h2 .nil))).mono (by omega) (by omega)
theorem tr3 {a b c : PyData} {n m l : Nat} (h1 : Va n 3 a) (h2 : Va m 3 b) (h3 : Va l 3 c) : Va (n + m + l + 10) 4 (.tuple [a, b, c]) := (Va.tup (.cons h1 (.cons h2 (.cons h3 .nil)))).mono (by omega) (by omega)
theorem tr4 {a b c d : PyData} {n m l o : Nat} (h1 : Va n 3 a) (h2 : Va m 3 b) (h3 : Va l 3 c) (h4 : Va o 3 d) : Va (n + m + l + o + 12) 4 (.tuple [a, b, c, d]) := (Va.tup (.cons h1 (.cons h2 (.cons h3 (.cons h4 .nil))))).mono (by omega) (by omega)
theorem ls2 {a b : PyData} {n m : Nat} (h1 : Va n 3 a) (h2 : Va m 3 b) : Va (n + m + 10) 4 (.list [a, b]) := (Va.lst (.cons h1 (.cons h2 .nil))).mono (by omega) (by omega)
theorem ls3 {a b c : PyData} {n m l : Nat} (h1 : Va n 3 a) (h2 : Va m 3 b) (h3 : Va l 3 c) : Va (n + m + l + 10) 4 (.list [a, b, c]) := (Va.lst (.cons h1 (.cons h2 (.cons h3 .nil)))).mono (by omega) (by omega)
theorem near_rows {f bi as i : Int} (f1 : f.natAbs < 10000) (b1 : bi.natAbs < 10000) (a1 : as.natAbs < 5000) (i1 : i.natAbs < 5000) : ∀ r ∈ [PyData.tuple [.int f, .int 0, .int as], .tuple [.int f, .int bi, .int 1000], .tuple [.int f, .int (as + 1), .int as], .tuple [.int f, .int as, .int as], .tuple [.int i, .int bi, .int as], .tuple [.int (if i - 1 > 0 then i - 1 else 0), .int bi, .int as], .tuple [.int (-1), .int bi, .int as], .tuple [.bool true, .int bi, .int as], .tuple [.int f, .bool true, .int as], .tuple [.int f, .int 1, .int 999], .tuple [.int f, .int bi], .tuple [.int f, .int bi, .int as, .int as], .list [.int f, .int bi, .int as], .none], Va 100 4 r := by
  have vf : Va 13 3 (.int f) := .int f1
  have vb : Va 13 3 (.int bi) := .int b1
  have va : Va 13 3 (.int as) := .int (by omega)
  have vi : Va 13 3 (.int i) := .int (by omega)
  have vi2 : Va 13 3 (.int (if i - 1 > 0 then i - 1 else 0)) := .int (by split <;> omega)
  have va2 : Va 13 3 (.int (as + 1)) := .int (by omega)
  have c3 : ∀ {a b c : PyData}, Va 13 3 a → Va 13 3 b → Va 13 3 c → Va 100 4 (.tuple [a, b, c]) := fun h1 h2 h3 => (tr3 h1 h2 h3).mono (by decide) (by decide)
  simp only [List.mem_cons, List.not_mem_nil, or_false, forall_eq_or_imp, forall_eq]
  exact ⟨c3 vf (.int (by decide)) va, c3 vf vb (.int (by decide)), c3 vf va2 va, c3 vf va va, c3 vi vb va, c3 vi2 vb va, c3 (.int (by decide)) vb va, c3 .bool vb va, c3 vf .bool va, c3 vf (.int (by decide)) (.int (by decide)), (tr2 vf vb).mono (by decide) (by decide), (tr4 vf vb va va).mono (by decide) (by decide), (ls3 vf vb va).mono (by decide) (by decide), (Va.non (k := 4)).mono (by decide) (by decide)⟩
theorem tri {w m p : PyData} {a b : Nat} (hw : Va 13 8 w) (hm : Va a 8 m) (hp : Va b 8 p) (hab : a + b ≤ 59000) : Va 60000 10 (.tuple [w, m, p]) := (Va.tup (.cons hw (.cons hm (.cons hp .nil)))).mono (by omega) (by omega)
theorem eqvT_nil (xs : List PyData) : PyData.eqv (.tuple xs) (.tuple []) = xs.isEmpty := by
  cases xs <;> simp [PyData.eqv, PyData.eqvAll]
theorem near_pairs {c b : PyData} (vc : Va 33 3 c) (vb : Va 33 3 b) : ∀ r ∈ [PyData.tuple [c, .tuple [.int 1000, .int 0]], .tuple [c, .tuple [.int 0, .int (-1000)]], .tuple [c, .tuple [.bool true, .int 0]], .tuple [c, .tuple [.int 0, .bool true]], .tuple [c, .tuple [.int 999, .int (-999)]], .tuple [c, .tuple [.int 0]], .tuple [c, .list [.int 0, .int 0]],
    .tuple [.tuple [.int 1000, .int 0], b], .tuple [.tuple [.int 0, .int 1000], b], .tuple [.tuple [.int (-999), .int 999], b], .tuple [.tuple [.int 0, .bool false], b], .tuple [.none, b], .tuple [.none, .none], .tuple [c, .none], .tuple [c], .list [c, b], .tuple [c, b, .none], .none, .tuple [b, c]], Va 200 4 r := by
  have t2 : ∀ {a b : PyData}, Va 13 0 a → Va 13 0 b → Va 33 3 (.tuple [a, b]) := fun h1 h2 => (Va.tup (.cons h1 (.cons h2 .nil))).mono (by decide) (by decide)
  have l2 : ∀ {a b : PyData}, Va 13 0 a → Va 13 0 b → Va 33 3 (.list [a, b]) := fun h1 h2 => (Va.lst (.cons h1 (.cons h2 .nil))).mono (by decide) (by decide)
  have t1 : ∀ {a : PyData}, Va 13 0 a → Va 33 3 (.tuple [a]) := fun h1 => (Va.tup (.cons h1 .nil)).mono (by decide) (by decide)
  have c2 : ∀ {a b : PyData}, Va 33 3 a → Va 33 3 b → Va 200 4 (.tuple [a, b]) := fun h1 h2 => (tr2 h1 h2).mono (by decide) (by decide)
  have vn : Va 33 3 .none := (Va.non (k := 3)).mono (by decide) (by decide)
  simp only [List.mem_cons, List.not_mem_nil, or_false, forall_eq_or_imp, forall_eq]
  exact ⟨c2 vc (t2 (.int (by decide)) (.int (by decide))), c2 vc (t2 (.int (by decide)) (.int (by decide))), c2 vc (t2 .bool (.int (by decide))), c2 vc (t2 (.int (by decide)) .bool), c2 vc (t2 (.int (by decide)) (.int (by decide))), c2 vc (t1 (.int (by decide))), c2 vc (l2 (.int (by decide)) (.int (by decide))),
    c2 (t2 (.int (by decide)) (.int (by decide))) vb, c2 (t2 (.int (by decide)) (.int (by decide))) vb, c2 (t2 (.int (by decide)) (.int (by decide))) vb, c2 (t2 (.int (by decide)) .bool) vb, c2 vn vb, c2 vn vn, c2 vc vn, (tr1 vc).mono (by decide) (by decide), (ls2 vc vb).mono (by decide) (by decide), (tr3 vc vb vn).mono (by decide) (by decide), (Va.non (k := 4)).mono (by decide) (by decide), c2 vb vc⟩
theorem l__law_near (ds : List PyData) (hp : F__law_near.pre ds) : w__law_near { nx := fun _ => F__law_near.post ds .none, rt := F__law_near.post ds } (envP N__law_near ds) := by
  obtain ⟨v, rfl, hv⟩ := near_of hp
  obtain ⟨s, ms, ps, rfl, rfl, hm, p4, hps⟩ := house_of hv.1
  obtain ⟨_, e, l1, l2, hg⟩ := len_moments hm
  cases e
  have b0 : 0 < ms.length := by omega
  have b1 : (0 : Int) < (ms.length : Int) := by omega
  have b2 : (ms.length : Int) ≤ 1000000 := by omega
  have vms : Vs (31 * 50) 4 ms := (Vs.all (m := 31) (va_moms hm).1 l2).mono (by omega) (by omega)
  have vps : Vs (4 * 2402) 4 ps := (Vs.all (m := 4) (fun x hx => va_prom l2 (List.all_eq_true.mp hps x hx)) p4).mono (by omega) (by omega)
  unfold w__law_near
  refine seq_to [.pot, .dat (.tuple [.str "house", .tuple ms, .tuple ps]), .un, .un, .dat (.str "house"), .dat (.tuple ms), .dat (.tuple ps), .un, .un, .un, .un, .un, .un, .un, .un, .un, .un, .un, .un, .un] (fun N hN => ?_) ?_
  · simp [wSeq, wIf, wRet, wRetO, wNx, wFor, wAsg, wPar, wOwn, wApp, wExt, wDrop, wSet, wFrz, wWhile, wLcO, wLcD, eVar, bVar, eC, e1, e2, eCall, eCallP, eCallK, aN, aC, eIsi, eIsi2, tV, tNt, tAn, tO, vAn, vO, vNt, eIf, eTu, eLi, fI, fSub, fDivW, fMod, fInt, fAbs, fRep, fAdd, fCI, fMax2, fMin2, fNeg, fLen, fIsN, fNotN, fIx, eSl, fSl, oS, oN, eCh, eF, gN, gNl, gCn, gTu, dEnT, dT, dL, dEn, dLc, dR1, dR2, mD, mO, mN, mLst, mList, mCat, mRep, setE, tYesD, wipeE, env0, envP, isB]
    exact hN
  refine seq_cut (fun e => ∃ i : Nat, i < ms.length ∧ e = [.pot, .dat (.tuple [.str "house", .tuple ms, .tuple ps]), .un, .un, .dat (.str "house"), .dat (.tuple ms), .dat (.tuple ps), .dat (.int (i : Int)), .dat (.int (ms.length : Int)), .un, .un, .un, .un, .un, .un, .un, .un, .un, .un, .un]) (fun N hN => ?_) (fun e he => ?_)
  · simp [draw_n, draw_pre, draw_all, b0, b1, b2, wSeq, wIf, wRet, wRetO, wNx, wFor, wAsg, wPar, wOwn, wApp, wExt, wDrop, wSet, wFrz, wWhile, wLcO, wLcD, eVar, bVar, eC, e1, e2, eCall, eCallP, eCallK, aN, aC, eIsi, eIsi2, tV, tNt, tAn, tO, vAn, vO, vNt, eIf, eTu, eLi, fI, fSub, fDivW, fMod, fInt, fAbs, fRep, fAdd, fCI, fMax2, fMin2, fNeg, fLen, fIsN, fNotN, fIx, eSl, fSl, oS, oN, eCh, eF, gN, gNl, gCn, gTu, dEnT, dT, dL, dEn, dLc, dR1, dR2, mD, mO, mN, mLst, mList, mCat, mRep, setE, tYesD, wipeE, env0, envP, isB]
    intro a a0 a1
    exact hN _ ⟨a.toNat, by omega, by rw [Int.toNat_of_nonneg a0]⟩
  obtain ⟨i, hi, rfl⟩ := he
  obtain ⟨f, bi, as, em, f1, bi1, as1⟩ := mom_all hm hi
  refine seq_to [.pot, .dat (.tuple [.str "house", .tuple ms, .tuple ps]), .un, .un, .dat (.str "house"), .dat (.tuple ms), .dat (.tuple ps), .dat (.int (i : Int)), .dat (.int (ms.length : Int)), .dat (.int f), .dat (.int bi), .dat (.int as), .un, .un, .un, .un, .un, .un, .un, .un] (fun N hN => ?_) ?_
  · simp [wSeq, wIf, wRet, wRetO, wNx, wFor, wAsg, wPar, wOwn, wApp, wExt, wDrop, wSet, wFrz, wWhile, wLcO, wLcD, eVar, bVar, eC, e1, e2, eCall, eCallP, eCallK, aN, aC, eIsi, eIsi2, tV, tNt, tAn, tO, vAn, vO, vNt, eIf, eTu, eLi, fI, fSub, fDivW, fMod, fInt, fAbs, fRep, fAdd, fCI, fMax2, fMin2, fNeg, fLen, fIsN, fNotN, fIx, eSl, fSl, oS, oN, eCh, eF, gN, gNl, gCn, gTu, dEnT, dT, dL, dEn, dLc, dR1, dR2, mD, mO, mN, mLst, mList, mCat, mRep, setE, tYesD, wipeE, env0, envP, isB]
    refine ⟨_, (at_dN ms i).trans em, ?_⟩
    simp
    exact hN
  refine seq_cut (fun e => ∃ rows : List PyData, rows.length ≤ 20 ∧ (∀ r ∈ rows, Va 100 4 r) ∧ e = [.pot, .dat (.tuple [.str "house", .tuple ms, .tuple ps]), .dat (.list rows), .un, .dat (.str "house"), .dat (.tuple ms), .dat (.tuple ps), .dat (.int (i : Int)), .dat (.int (ms.length : Int)), .dat (.int f), .dat (.int bi), .dat (.int as), .un, .un, .un, .un, .un, .un, .un, .un]) (fun N hN => ?_) (fun e he => ?_)
  · repeat (first | refine ⟨trivial, ?_⟩ | refine ⟨Nat.le_of_ble_eq_true rfl, ?_⟩)
    refine hN _ ⟨_, ?_, near_rows (f := f) (bi := bi) (as := as) (i := (i : Int)) (by omega) (by omega) (by omega) (by omega), rfl⟩
    exact Nat.le_of_ble_eq_true rfl
  obtain ⟨rows, lr, vr, rfl⟩ := he
  have vmt : Va 1553 8 (.tuple ms) := (Va.tup vms).mono (by omega) (by omega)
  have vpt : Va 9611 8 (.tuple ps) := (Va.tup vps).mono (by omega) (by omega)
  refine seq_cut (fun e => ∃ found : List PyData, found.length ≤ 20 ∧ (∀ r ∈ found, Va 60000 10 r) ∧ e = [.pot, .dat (.tuple [.str "house", .tuple ms, .tuple ps]), .dat (.list rows), .own found, .dat (.str "house"), .dat (.tuple ms), .dat (.tuple ps), .dat (.int (i : Int)), .dat (.int (ms.length : Int)), .dat (.int f), .dat (.int bi), .dat (.int as), .un, .un, .un, .un, .un, .un, .un, .un]) (fun N hN => ?_) (fun e he => ?_)
  · show lcW _ _ _ _ _ rows []
    refine lc_rel (keep := fun _ => true) (q := fun x y => Va 60000 10 y) _ [] (fun d hd R1 R2 hR => ?_) (by simp; omega) (fun ys hys => ?_)
    · have vd := vr d hd
      refine ⟨rfl, ⟨by omega, by omega, by omega⟩, fun d2 hd2 => ?_⟩
      obtain rfl := hd2
      refine ⟨Nat.le_of_ble_eq_true rfl, hR _ (tri .strH ((Va.tup (vms.set2 vd _)).mono (Nat.le_refl _) (by decide)) vpt (by decide))⟩
    · rw [filter_yes] at hys
      have l := hys.len
      exact hN _ ⟨ys, by omega, hys.all (r := fun y => Va 60000 10 y) (fun x y h => h), rfl⟩
  obtain ⟨found, lf, vf, rfl⟩ := he
  refine seq_cut (fun e => ∃ found : List PyData, found.length ≤ 40 ∧ (∀ r ∈ found, Va 60000 10 r) ∧ e = [.pot, .dat (.tuple [.str "house", .tuple ms, .tuple ps]), .dat (.list rows), .own found, .dat (.str "house"), .dat (.tuple ms), .dat (.tuple ps), .dat (.int (i : Int)), .dat (.int (ms.length : Int)), .dat (.int f), .dat (.int bi), .dat (.int as), .un, .un, .un, .un, .un, .un, .un, .un]) (fun N hN => ?_) (fun e he => ?_)
  · repeat (first | refine ⟨trivial, ?_⟩ | refine ⟨Nat.le_of_ble_eq_true rfl, ?_⟩ | refine ⟨(by decide), ?_⟩ | refine ⟨(by omega), ?_⟩ | refine ⟨(by simp; omega), ?_⟩)
    refine hN _ ⟨_, ?_, ?_, rfl⟩
    · simp
      omega
    · intro r hr
      rcases List.mem_append.mp hr with hr | hr
      · exact vf r hr
      · have vml : Va 1553 8 (.list ms) := (Va.lst vms).mono (by omega) (by omega)
        have vpl : Va 9611 8 (.list ps) := (Va.lst vps).mono (by omega) (by omega)
        have v11 : Vs (13 + 2 + (1553 + 2 + (9611 + 2 + 0))) 8 [.str "house", .tuple ms, .tuple ps] := .cons .strH (.cons vmt (.cons vpt .nil))
        simp only [List.mem_cons, List.not_mem_nil, or_false] at hr
        rcases hr with rfl | rfl | rfl | rfl | rfl | rfl | rfl | rfl | rfl | rfl | rfl
        · exact tri .strH ((Va.tup (vms.app (.cons (tr3 (.int (by omega)) (.int (by decide)) (.int (by decide))) .nil))).mono (Nat.le_refl _) (by decide)) vpt (by decide)
        · exact tri .strH ((Va.tup (vms.cut _ _)).mono (Nat.le_refl _) (by decide)) vpt (by decide)
        · exact tri .strH ((Va.tup (Vs.nil (k := 4))).mono (Nat.le_refl _) (by decide)) vpt (by decide)
        · exact tri .strH vml vpt (by decide)
        · exact tri .strH vmt vpl (by decide)
        · exact tri .strH vmt ((Va.tup (vps.rep 5)).mono (Nat.le_refl _) (by decide)) (by decide)
        · exact (Va.tup (k := 8) (.cons .strH (.cons vmt .nil))).mono (by decide) (by decide)
        · exact (Va.tup (k := 8) (v11.app (.cons ((Va.tup (Vs.nil (k := 0))).mono (Nat.le_refl _) (by decide)) .nil))).mono (by decide) (by decide)
        · exact (Va.lst v11).mono (by decide) (by decide)
        · exact tri .strB vmt vpt (by decide)
        · exact tri .non vmt vpt (by decide)
  obtain ⟨found2, lf2, vf2, rfl⟩ := he
  refine seq_cut (fun e => ∃ found x12 x13 x14 x16 x17, found.length ≤ 100 ∧ (∀ r ∈ found, Va 60000 10 r) ∧ e = [.pot, .dat (.tuple [.str "house", .tuple ms, .tuple ps]), .dat (.list rows), .own found, .dat (.str "house"), .dat (.tuple ms), .dat (.tuple ps), .dat (.int (i : Int)), .dat (.int (ms.length : Int)), .dat (.int f), .dat (.int bi), .dat (.int as), x12, x13, x14, .un, x16, x17, .un, .un]) (fun N hN => ?_) (fun e he => ?_)
  · have shp : Sh (.tuple ps) := vpt.sh (by decide)
    have shn : Sh (.tuple []) := by simp [Sh, SeqAt.shaped, PyData.canLay0, PyData.canLayAll0, PyData.depth, PyData.depthAll]
    refine ⟨Nat.zero_le _, shp, shn, ?_⟩
    show (if (!PyData.eqv (.tuple ps) (.tuple [])) = true then _ else _)
    rw [eqvT_nil]
    cases ps with
    | nil =>
      show N _
      exact hN _ ⟨found2, _, _, _, _, _, by omega, vf2, rfl⟩
    | cons p0 prest =>
      rw [if_pos (show (!(p0 :: prest).isEmpty) = true from rfl)]
      refine seq_cut (fun e => ∃ n : Nat, n < (p0 :: prest).length ∧ e = [.pot, .dat (.tuple [.str "house", .tuple ms, .tuple (p0 :: prest)]), .dat (.list rows), .own found2, .dat (.str "house"), .dat (.tuple ms), .dat (.tuple (p0 :: prest)), .dat (.int (i : Int)), .dat (.int (ms.length : Int)), .dat (.int f), .dat (.int bi), .dat (.int as), .dat (.int (n : Int)), .un, .un, .un, .un, .un, .un, .un]) (fun N2 hN2 => ?_) (fun e he => ?_)
      · have q1 : (0 : Int) < ((p0 :: prest).length : Int) := by simp
        have q2 : ((p0 :: prest).length : Int) ≤ 1000000 := by omega
        refine ⟨rfl, ⟨q1, q2⟩, ?_⟩
        rintro d ⟨r, rfl, r0, r1⟩
        exact hN2 _ ⟨r.toNat, by omega, by rw [Int.toNat_of_nonneg r0]; rfl⟩
      obtain ⟨n, hn, rfl⟩ := he
      generalize p0 :: prest = ps at *
      obtain ⟨q, eq, pq⟩ := pro_at hn hps
      obtain ⟨prs, rfl, lprs, gprs, _⟩ := prom_of pq
      have vq := va_prom l2 pq
      have vps1 : Vs 9608 4 ps := vps
      have E : ∀ x2 x12 x13 x14 x16 x17 : Sl, ∀ fo : List PyData, fo = fo := fun _ _ _ _ _ _ _ => rfl
      refine seq_to [.pot, .dat (.tuple [.str "house", .tuple ms, .tuple ps]), .dat (.list rows), .own found2, .dat (.str "house"), .dat (.tuple ms), .dat (.tuple ps), .dat (.int (i : Int)), .dat (.int (ms.length : Int)), .dat (.int f), .dat (.int bi), .dat (.int as), .dat (.int (n : Int)), .dat (.tuple prs), .un, .un, .un, .un, .un, .un] (fun N2 hN2 => ?_) ?_
      · exact ⟨_, (at_dN ps n).trans eq, hN2⟩
      have hip : i < prs.length := by omega
      have ep := List.getElem?_eq_getElem hip
      obtain ⟨j, gp⟩ := goods_mem gprs _ (List.getElem_mem hip)
      obtain ⟨ca, ba, ecb⟩ := pair_two gp
      have vcb := va_pair gp
      rw [ecb] at ep vcb
      obtain ⟨vcb2, _, _⟩ := vcb.ofT
      have vc : Va 33 3 ca := by
        rw [ecb] at gp
        simp only [pairB, Bool.and_eq_true] at gp
        exact (va_opt gp.1.1).mono (by decide) (by decide)
      have vb : Va 33 3 ba := by
        rw [ecb] at gp
        simp only [pairB, Bool.and_eq_true] at gp
        exact (va_opt gp.1.2).mono (by decide) (by decide)
      refine seq_to [.pot, .dat (.tuple [.str "house", .tuple ms, .tuple ps]), .dat (.list rows), .own found2, .dat (.str "house"), .dat (.tuple ms), .dat (.tuple ps), .dat (.int (i : Int)), .dat (.int (ms.length : Int)), .dat (.int f), .dat (.int bi), .dat (.int as), .dat (.int (n : Int)), .dat (.tuple prs), .un, .un, .dat ca, .dat ba, .un, .un] (fun N2 hN2 => ?_) ?_
      · exact ⟨_, (at_dN prs i).trans ep, rfl, hN2⟩
      refine seq_cut (fun e => ∃ pairs : List PyData, pairs.length ≤ 20 ∧ (∀ r ∈ pairs, Va 200 4 r) ∧ e = [.pot, .dat (.tuple [.str "house", .tuple ms, .tuple ps]), .dat (.list rows), .own found2, .dat (.str "house"), .dat (.tuple ms), .dat (.tuple ps), .dat (.int (i : Int)), .dat (.int (ms.length : Int)), .dat (.int f), .dat (.int bi), .dat (.int as), .dat (.int (n : Int)), .dat (.tuple prs), .dat (.list pairs), .un, .dat ca, .dat ba, .un, .un]) (fun N2 hN2 => ?_) (fun e he => ?_)
      · repeat (first | refine ⟨trivial, ?_⟩ | refine ⟨Nat.le_of_ble_eq_true rfl, ?_⟩)
        refine hN2 _ ⟨_, ?_, near_pairs vc vb, rfl⟩
        exact Nat.le_of_ble_eq_true rfl
      obtain ⟨pairs, lpa, vpa, rfl⟩ := he
      have vmt2 := vmt
      have vprs : Vs 2397 4 prs := by
        obtain ⟨a, _, _⟩ := vq.ofT
        exact a.mono (by decide) (by decide)
      refine seq_cut (fun e => ∃ found : List PyData, found.length ≤ 60 ∧ (∀ r ∈ found, Va 60000 10 r) ∧ e = [.pot, .dat (.tuple [.str "house", .tuple ms, .tuple ps]), .dat (.list rows), .own found, .dat (.str "house"), .dat (.tuple ms), .dat (.tuple ps), .dat (.int (i : Int)), .dat (.int (ms.length : Int)), .dat (.int f), .dat (.int bi), .dat (.int as), .dat (.int (n : Int)), .dat (.tuple prs), .dat (.list pairs), .un, .dat ca, .dat ba, .un, .un]) (fun N2 hN2 => ?_) (fun e he => ?_)
      · show lcW _ _ _ _ _ pairs []
        refine lc_rel (keep := fun _ => true) (q := fun x y => Va 60000 10 y) _ [] (fun d hd R1 R2 hR => ?_) (by simp; omega) (fun ys hys => ?_)
        · have vd := vpa d hd
          refine ⟨rfl, ⟨by omega, by omega, by omega⟩, fun d2 hd2 => ?_⟩
          obtain rfl := hd2
          refine ⟨rfl, ⟨by omega, by omega, by omega⟩, fun d2 hd2 => ?_⟩
          obtain rfl := hd2
          refine ⟨Nat.le_of_ble_eq_true rfl, hR _ (tri .strH vmt ((Va.tup ((vps1.mono (Nat.le_refl _) (by decide : 4 ≤ 5)).set2 (Va.tup (vprs.set2 vd _)) _)).mono (Nat.le_refl _) (by decide)) (by decide))⟩
        · rw [filter_yes] at hys
          have l := hys.len
          refine ⟨by simp; omega, hN2 _ ⟨found2 ++ ys, by rw [List.length_append]; omega, fun r hr => ?_, rfl⟩⟩
          rcases List.mem_append.mp hr with hr | hr
          · exact vf2 r hr
          · exact hys.all (r := fun y => Va 60000 10 y) (fun x y h => h) r hr
      obtain ⟨found4, lf4, vf4, rfl⟩ := he
      have lcut : ∀ lo hi : Option Int, (cutG prs lo hi).length ≤ 31 := fun lo hi => by
        unfold cutG
        rw [List.length_take, List.length_drop]
        omega
      have six : ∀ d ∈ [PyData.tuple (cutG prs none (some (-1))), .tuple (prs ++ cutG prs (some (-1)) none), .tuple prs.reverse, .list prs, .tuple [], .none], Va 5000 5 d := by
        simp only [List.mem_cons, List.not_mem_nil, or_false, forall_eq_or_imp, forall_eq]
        exact ⟨(Va.tup (vprs.cut _ _)).mono (by decide) (by decide), (Va.tup (vprs.app (vprs.cut _ _))).mono (by decide) (by decide), (Va.tup vprs.rev).mono (by decide) (by decide), (Va.lst vprs).mono (by decide) (by decide), (Va.tup (Vs.nil (k := 4))).mono (by decide) (by decide), (Va.non (k := 5)).mono (by decide) (by decide)⟩
      repeat (first | refine ⟨trivial, ?_⟩ | refine ⟨Nat.le_of_ble_eq_true rfl, ?_⟩ | refine ⟨(by have := lcut (some (-1)) none; omega), ?_⟩)
      refine lc_rel (keep := fun _ => true) (q := fun x y => Va 60000 10 y) _ [] (fun d hd R1 R2 hR => ?_) (Nat.le_of_ble_eq_true rfl) (fun ys hys => ?_)
      · have vd := six d hd
        refine ⟨rfl, ⟨by omega, by omega, by omega⟩, fun d2 hd2 => ?_⟩
        obtain rfl := hd2
        refine ⟨Nat.le_of_ble_eq_true rfl, hR _ (tri .strH vmt ((Va.tup ((vps1.mono (Nat.le_refl _) (by decide : 4 ≤ 5)).set2 vd _)).mono (Nat.le_refl _) (by decide)) (by decide))⟩
      · rw [filter_yes] at hys
        have l := hys.len
        have l6 : ys.length = 6 := l.symm
        refine ⟨by simp; omega, hN _ ⟨found4 ++ ys, _, _, _, _, _, by rw [List.length_append]; omega, fun r hr => ?_, rfl⟩⟩
        rcases List.mem_append.mp hr with hr | hr
        · exact vf4 r hr
        · exact hys.all (r := fun y => Va 60000 10 y) (fun x y h => h) r hr
  obtain ⟨found3, x12, x13, x14, x16, x17, lf3, vf3, rfl⟩ := he
  exact ⟨found3, rfl, lf3, vf3⟩
end Hd
/-! text Dl15 -/
/-! Dl15: texts compared. -/
namespace Dl
open PySem PySem.Spec PyProof.Rows L2
section
variable {X : Cx} {K : PySem.W.Frag}
def rTx (f : Str → Str → Bool) : R2 := fun x y H Q => ∃ i j, x = .str i ∧ y = .str j ∧ Q (.bl (f i j)) H
theorem op_eqS : OpR X (compareOp .Eq) (rTx fun i j => i == j) := by
  intro pins s σ H x y v u Q I rx ry h
  obtain ⟨i, j, rfl, rfl, q⟩ := h
  obtain ⟨t, rfl⟩ := rx
  obtain ⟨t', rfl⟩ := ry
  exact PyProof.Rows.eq_str ⟨.bl (i == j), H, I, rfl, q⟩
theorem op_neS : OpR X (compareOp .NotEq) (rTx fun i j => i != j) := by
  intro pins s σ H x y v u Q I rx ry h
  obtain ⟨i, j, rfl, rfl, q⟩ := h
  obtain ⟨t, rfl⟩ := rx
  obtain ⟨t', rfl⟩ := ry
  exact PyProof.Rows.ne_str ⟨.bl (i != j), H, I, rfl, q⟩
def fTx (f : Str → Str → Bool) : PyData → PyData → (PyData → Prop) → Prop := fun x y P => match x, y with
  | .str i, .str j => P (.bool (f i j))
  | _, _ => False
abbrev fEqS := fTx fun i j => i == j
abbrev fNeS := fTx fun i j => i != j
theorem dr_tx {f : Str → Str → Bool} : DR2 K (rTx f) (fTx f) := by
  intro pp A H x y dx dy P Q al hx hy w q
  unfold fTx at w
  split at w
  · exact ⟨_, _, hx.str, hy.str, q _ H _ keep_refl (.bl _) w⟩
  · exact w.elim
end
end Dl
/-! text Lv24 -/
/-! Lv24: what an expression comes to. -/
namespace Hd
open PySem Dl
def Ev (ea : DE) (env : Dl.Env) (c : PyData) : Prop := ∀ P : PyData → Prop, P c → ea env P
def EvA (ea : DA) (env : Dl.Env) (cs : List PyData) : Prop := ∀ P : List PyData → Prop, P cs → ea env P
def EvT (t : DT) (env : Dl.Env) (b : Bool) : Prop := ∀ P : Bool → Prop, P b → t env P
section
variable {ea eb ec : DE} {env : Dl.Env} {c d : PyData} {cs ds : List PyData} {r : DA} {F : Fs} {ta tb : DT} {i : Nat}
theorem ev_var (h : env[i]? = some (.dat d)) : Ev (eVar i) env d := fun P p => by
  unfold eVar
  rw [h]
  exact p
theorem ev_bar (h : env[i]? = some (.dat d)) : Ev (bVar i) env d := fun P p => by
  unfold bVar
  rw [h]
  exact p
theorem ev_c : Ev (eC c) env c := fun P p => p
theorem ev_nil : EvA aN env [] := fun P p => p
theorem ev_cons (h : Ev ea env c) (g : EvA r env cs) : EvA (aC ea r) env (c :: cs) := fun P p => h _ (g _ p)
theorem ev_li (h : EvA r env cs) (l : cs.length ≤ 100000) : Ev (eLi r) env (.list cs) := fun P p => h _ ⟨l, p⟩
theorem ev_tu (h : EvA r env cs) (l : cs.length ≤ 100000) : Ev (eTu r) env (.tuple cs) := fun P p => h _ ⟨l, p⟩
theorem ev_call (h : EvA r env cs) (n : cs.length = F.n) (p : F.pre cs) (q : ∀ d, F.post cs d → d = c) : Ev (eCall F r) env c := fun P pc => h _ ⟨n, p, fun d hd => by rw [q d hd]; exact pc⟩
theorem ev_callK {g : List PyData → List PyData} (h : EvA r env cs) (n : (g cs).length = F.n) (p : F.pre (g cs)) (q : ∀ d, F.post (g cs) d → d = c) : Ev (eCallK F g r) env c := fun P pc => h _ ⟨n, p, fun d hd => by rw [q d hd]; exact pc⟩
theorem ev_repr (h : Ev ea env d) {n k : Nat} (v : Va n k d) (hn : n ≤ 100000) (hk : k ≤ 60) : Ev (e1 fRepr ea) env (.str d.shown) := fun P p => h _ (v.repr hn hk p)
theorem ev_ix {xs : List PyData} {j : Int} (h : Ev ea env (.tuple xs)) (g : Ev eb env (.int j)) (e : L2.atI xs j = some d) : Ev (e2 fIx ea eb) env d := fun P p => h _ (g _ ⟨d, e, p⟩)
theorem ev_ixL {xs : List PyData} {j : Int} (h : Ev ea env (.list xs)) (g : Ev eb env (.int j)) (e : L2.atI xs j = some d) : Ev (e2 fIx ea eb) env d := fun P p => h _ (g _ ⟨d, e, p⟩)
theorem eqv_self (h : Sh c) : PyData.eqv c c = true := by
  unfold Sh SeqAt.shaped at h
  rw [Bool.and_eq_true] at h
  exact SeqAt.eqv_refl c h.1
theorem ne_same (h : Ev ea env c) (g : Ev eb env c) (s : Sh c) : EvT (tV (e2 fNe ea eb)) env false := fun P p => h _ (g _ ⟨s, s, by rw [eqv_self s]; exact p⟩)
theorem neS_same {x : Str} (h : Ev ea env (.str x)) (g : Ev eb env (.str x)) : EvT (tV (e2 fNeS ea eb)) env false := fun P p => h _ (g _ (by
  show P (x != x)
  rw [bne_self_eq_false]
  exact p))
theorem eqS_same {x : Str} (h : Ev ea env (.str x)) (g : Ev eb env (.str x)) : Ev (e2 fEqS ea eb) env (.bool true) := fun P p => h _ (g _ (by
  show P (.bool (x == x))
  rw [beq_self_eq_true]
  exact p))
theorem or_no (h : EvT ta env false) (g : EvT tb env false) : EvT (tO ta tb) env false := fun P p => h _ (g _ p)
theorem if_no {w u : DS} {k : DK} (h : EvT ta env false) (g : u k env) : wIf ta w u k env := h _ g
theorem if_yes {w u : DS} {k : DK} (h : EvT ta env true) (g : w k env) : wIf ta w u k env := h _ g
theorem seq_pass {w v : DS} {k : DK} (h : EvT ta env false) (g : v k env) : wSeq (wIf ta w wNx) v k env := h _ g
theorem asg_to {k : DK} {u : DS} {g : DG} (h : Ev ea env d) (t : g d env (u k)) : wSeq (wAsg ea g) u k env := h _ t
end
theorem sh_bools {bs : List Bool} : Sh (.list (bs.map PyData.bool)) := by
  refine Va.sh (n := 13 + bs.length * 15) (k := 1) ⟨?_, ?_, ?_⟩ (by decide)
  · rw [okB, okAll_iff]
    intro d hd
    obtain ⟨b, _, rfl⟩ := List.mem_map.mp hd
    rfl
  · rw [mz]
    have := (Vs.all (n := 13) (k := 0) (m := bs.length) (xs := bs.map PyData.bool) (fun d hd => by obtain ⟨b, _, rfl⟩ := List.mem_map.mp hd; exact .bool) (by rw [List.length_map]; exact Nat.le_refl _)).mz
    omega
  · rw [PyData.depth]
    have := (Vs.all (n := 13) (k := 0) (m := bs.length) (xs := bs.map PyData.bool) (fun d hd => by obtain ⟨b, _, rfl⟩ := List.mem_map.mp hd; exact .bool) (by rw [List.length_map]; exact Nat.le_refl _)).dp
    omega
end Hd
/-! text Lu24 -/
/-! Lu24: values judged right. -/
namespace Hd
open PySem Dl
def F__law_bent : Fs := F_bent 30
def w__law_values_right : DS :=
  (wSeq (wPar [4, 5] (mD (eLi (aC (eC .none) (aC (eC (.int 0)) (aC (eC (.int 1)) (aC (e1 fNeg (eC (.int 1))) (aC (eC (.int 999)) (aC (eC (.int 1000)) (aC (eC (.bool true)) (aC (eTu aN) (aC (eLi aN) (aC (eTu (aC (eC (.int 0)) (aC (eC (.int 0)) aN))) (aC (eTu (aC (eC (.int 0)) (aC (eC (.int 5)) (aC (eC (.int 6)) aN)))) (aC (eTu (aC (eTu (aC (eC (.int 0)) (aC (eC (.int 0)) aN))) (aC (eC .none) aN))) (aC (eC (.str "house")) aN)))))))))))))) (mD (eCallP F__law_house 0 (aC (e2 fAdd (eC (.int 1)) (eCallP F__law_draw 0 (aC (eC (.int 5)) aN))) (aC (eLi (aC (eC (.int 2)) aN)) aN))) mN)))
    (wSeq (wAsg (e2 fAdd (e2 fAdd (e2 fAdd (eLi (aC (eVar 1) aN)) (eCallP F__law_near 0 (aC (eVar 1) aN))) (eF (dLc (dR1 (eC (.int 20))) (gN 11) tYesD (eCallP F__law_bent 0 (aC (eVar 1) (aC (eVar 4) aN))) [11]))) (eLi (aC (eC .none) (aC (eTu aN) (aC (eC (.str "house")) (aC (eC (.int 0)) aN)))))) (gN 2))
    (wSeq (wFor (dL (eVar 2)) (gN 3) (wSeq (wPar [6, 7] (mD (eCall F__law_is_house (aC (eVar 3) aN)) (mD (e1 fRepr (bVar 3)) mN)))
    (wSeq (wIf (tO (tV (e2 fNe (eLi (aC (eCall F_is_house (aC (eVar 3) aN)) (aC (eCallK F_is_house (put PyData.none [0]) (aC (eVar 3) aN)) aN))) (eLi (aC (eVar 6) (aC (eVar 6) aN))))) (tV (e2 fNeS (e1 fRepr (bVar 3)) (bVar 7)))) (wRet (eC (.bool false))) wNx)
    (wIf (tAn (tV (eIsi "tuple" (bVar 3))) (tV (e2 fEq (e1 fLen (bVar 3)) (eC (.int 3))))) (wSeq (wAsg (eCall F__law_are_moments (aC (e2 fIx (bVar 3) (eC (.int 1))) aN)) (gN 8))
    (wSeq (wIf (tV (e2 fNe (eLi (aC (eCall F_is_moments (aC (e2 fIx (bVar 3) (eC (.int 1))) aN)) (aC (eCallK F_is_moments (put PyData.none [0]) (aC (e2 fIx (bVar 3) (eC (.int 1))) aN)) aN))) (eLi (aC (eVar 8) (aC (eVar 8) aN))))) (wRet (eC (.bool false))) wNx)
    (wSeq (wAsg (eIf (tV (eIsi2 "list" "tuple" (e2 fIx (bVar 3) (eC (.int 2))))) (e1 fList (e2 fIx (bVar 3) (eC (.int 2)))) (eLi (aC (e2 fIx (bVar 3) (eC (.int 2))) aN))) (gN 9))
    (wFor (dL (e2 fAdd (eSl (bVar 9) oN (oS (eC (.int 4)))) (eLi (aC (e2 fIx (e2 fIx (bVar 5) (eC (.int 2))) (eC (.int 0))) aN)))) (gN 10) (wSeq (wAsg (eCall F__law_is_promise (aC (e2 fIx (bVar 1) (eC (.int 1))) (aC (eVar 10) aN))) (gN 8))
    (wIf (tV (e2 fNe (eLi (aC (eCall F_is_promise (aC (eVar 1) (aC (eVar 10) aN))) (aC (eCallK F_is_promise (put PyData.none [1, 0]) (aC (eVar 10) (aC (eVar 1) aN))) aN))) (eLi (aC (eVar 8) (aC (eVar 8) aN))))) (wRet (eC (.bool false))) wNx)))))) wNx))))
    (wRet (eC (.bool true))))))

def F__law_values_right : Fs := ⟨1, fun ds => match ds with | [h] => HsOk h | _ => False, fun ds d => d = .bool true⟩
theorem hs_of {ds : List PyData} (h : F__law_values_right.pre ds) : ∃ v, ds = [v] ∧ HsOk v := near_of h
theorem sh_two (a b : Bool) : Sh (.list [.bool a, .bool b]) := by simp [Sh, SeqAt.shaped, PyData.canLay0, PyData.canLayAll0, PyData.depth, PyData.depthAll]
theorem odd_ok : ∀ o ∈ [PyData.none, .int 0, .int 1, .int (-1), .int 999, .int 1000, .bool true, .tuple [], .list [], .tuple [.int 0, .int 0], .tuple [.int 0, .int 5, .int 6], .tuple [.tuple [.int 0, .int 0], .none], .str "house"], Va 100 5 o := by
  have i0 : ∀ {i : Int}, i.natAbs < 10000 → Va 100 5 (.int i) := fun h => (Va.int h (k := 5)).mono (by decide) (by decide)
  have j0 : ∀ {i : Int}, i.natAbs < 10000 → Va 13 3 (.int i) := fun h => .int h
  simp only [List.mem_cons, List.not_mem_nil, or_false, forall_eq_or_imp, forall_eq]
  exact ⟨(Va.non (k := 5)).mono (by decide) (by decide), i0 (by decide), i0 (by decide), i0 (by decide), i0 (by decide), i0 (by decide), (Va.bool (k := 5)).mono (by decide) (by decide), (Va.tup (Vs.nil (k := 4))).mono (by decide) (by decide), (Va.lst (Vs.nil (k := 4))).mono (by decide) (by decide), (tr2 (j0 (by decide)) (j0 (by decide))).mono (by decide) (by decide), (tr3 (j0 (by decide)) (j0 (by decide)) (j0 (by decide))).mono (by decide) (by decide),
    (Va.tup (k := 4) (.cons (tr2 (j0 (by decide)) (j0 (by decide))) (.cons .non .nil))).mono (by decide) (by decide), (Va.strH (k := 5)).mono (by decide) (by decide)⟩
theorem at2 (x y z : PyData) (l : List PyData) : L2.atI (x :: y :: z :: l) 2 = some z := by simpa using at_dN (x :: y :: z :: l) 2
theorem l__law_values_right (ds : List PyData) (hp : F__law_values_right.pre ds) : w__law_values_right { nx := fun _ => F__law_values_right.post ds .none, rt := F__law_values_right.post ds } (envP N__law_values_right ds) := by
  obtain ⟨h, rfl, hv⟩ := hs_of hp
  have vh := va_house hv.1
  unfold w__law_values_right
  refine seq_cut (fun e => ∃ (odd : List PyData) (other : PyData), 0 < odd.length ∧ odd.length ≤ 20 ∧ (∀ o ∈ odd, Va 100 5 o) ∧ houseB other = true ∧ (prosOf other).length = 1 ∧ e = [.pot, .dat h, .un, .un, .dat (.list odd), .dat other, .un, .un, .un, .un, .un, .un]) (fun N hN => ?_) (fun e he => ?_)
  · repeat (first | refine ⟨trivial, ?_⟩ | refine ⟨Nat.le_of_ble_eq_true rfl, ?_⟩)
    refine ⟨rfl, ⟨by decide, by decide⟩, ?_⟩
    rintro d ⟨r, rfl, r0, r1⟩
    refine ⟨Nat.le_of_ble_eq_true rfl, rfl, ⟨by omega, by omega, by decide, fun k hk => ?_⟩, ?_⟩
    · rw [List.mem_singleton] at hk
      exact ⟨2, hk⟩
    rintro d ⟨hd, ld⟩
    exact hN _ ⟨_, d, Nat.le_of_ble_eq_true rfl, Nat.le_of_ble_eq_true rfl, odd_ok, hd, ld, rfl⟩
  obtain ⟨odd, other, o1, o2, ho, hoth, lot, rfl⟩ := he
  refine seq_cut (fun e => ∃ vs : List PyData, vs.length ≤ 200 ∧ (∀ v ∈ vs, Va 60000 10 v) ∧ e = [.pot, .dat h, .dat (.list vs), .un, .dat (.list odd), .dat other, .un, .un, .un, .un, .un, .un]) (fun N hN => ?_) (fun e he => ?_)
  · refine ⟨Nat.le_of_ble_eq_true rfl, rfl, hv, ?_⟩
    rintro d ⟨nvs, rfl, ln, vn⟩
    refine ⟨by simp; omega, by decide, by decide, ?_⟩
    refine lc_rel (keep := fun _ => true) (q := fun x y => Va 60000 10 y) _ [] (fun d hd R1 R2 hR => ?_) (by rw [rgD_len]; decide) (fun ys hys => ?_)
    · refine ⟨rfl, ⟨by have := vh.dp; omega, vh.ok, by have := vh.mz; omega, o1, by omega, ho⟩, fun d hd => hR _ (Va.mono hd (by have := vh.mz; omega) (by have := vh.dp; omega))⟩
    · rw [filter_yes] at hys
      have l := hys.len
      rw [rgD_len] at l
      have l20 : ys.length = 20 := l.symm
      refine ⟨by simp; omega, ?_⟩
      repeat (first | refine ⟨trivial, ?_⟩ | refine ⟨Nat.le_of_ble_eq_true rfl, ?_⟩)
      refine ⟨by simp; omega, hN _ ⟨_, ?_, ?_, rfl⟩⟩
      · simp
        omega
      · intro v hv2
        rcases List.mem_append.mp hv2 with hv2 | hv2
        · rcases List.mem_append.mp hv2 with hv2 | hv2
          · rcases List.mem_append.mp hv2 with hv2 | hv2
            · rw [List.mem_singleton] at hv2
              subst hv2
              exact vh.mono (by decide) (by decide)
            · exact vn v hv2
          · exact hys.all (r := fun y => Va 60000 10 y) (fun x y h => h) v hv2
        · simp only [List.mem_cons, List.not_mem_nil, or_false] at hv2
          rcases hv2 with rfl | rfl | rfl | rfl
          · exact (Va.non (k := 5)).mono (by decide) (by decide)
          · exact (Va.tup (Vs.nil (k := 4))).mono (by decide) (by decide)
          · exact (Va.strH (k := 5)).mono (by decide) (by decide)
          · exact (Va.int (by decide) (k := 5)).mono (by decide) (by decide)
  obtain ⟨vs, lvs, hvs, rfl⟩ := he
  show loopW _ _ vs _ _
  refine loop_inv (I := fun _ e => ∃ x3 x6 x7 x8 x9 x10 x11, e = [.pot, .dat h, .dat (.list vs), x3, .dat (.list odd), .dat other, x6, x7, x8, x9, x10, x11]) _ 0 _ (fun j v env L hd hi hL => ?_) ⟨_, _, _, _, _, _, _, rfl⟩ (fun e hi => ?_)
  · obtain ⟨x3, x6, x7, x8, x9, x10, x11, rfl⟩ := hi
    have vv := hvs v (List.mem_of_getElem? hd)
    have sv : Sh v := vv.sh (by decide)
    show wSeq _ _ _ _
    refine seq_to [.pot, .dat h, .dat (.list vs), .dat v, .dat (.list odd), .dat other, .dat (.bool (houseB v)), .dat (.str v.shown), x8, x9, x10, x11] (fun N hN => ?_) ?_
    · refine ⟨rfl, sv, fun d hd => ?_⟩
      obtain rfl := hd
      exact Va.repr vv (by decide) (by decide) (P := fun d => N [.pot, .dat h, .dat (.list vs), .dat v, .dat (.list odd), .dat other, .dat (.bool (houseB v)), .dat d, x8, x9, x10, x11]) hN
    have e3 : Ev (eVar 3) [.pot, .dat h, .dat (.list vs), .dat v, .dat (.list odd), .dat other, .dat (.bool (houseB v)), .dat (.str v.shown), x8, x9, x10, x11] v := ev_var rfl
    refine seq_pass (or_no (ne_same (c := .list [.bool (houseB v), .bool (houseB v)]) (ev_li (ev_cons (ev_call (ev_cons e3 ev_nil) rfl sv fun _ h => h) (ev_cons (ev_callK (ev_cons e3 ev_nil) rfl sv fun _ h => h) ev_nil)) (Nat.le_of_ble_eq_true rfl)) (ev_li (ev_cons (ev_var rfl) (ev_cons (ev_var rfl) ev_nil)) (Nat.le_of_ble_eq_true rfl)) (sh_two _ _)) (neS_same (ev_repr (ev_bar rfl) vv (by decide) (by decide)) (ev_bar rfl))) ?_
    by_cases c : ∃ a b d, v = .tuple [a, b, d]
    · obtain ⟨a, b, d, rfl⟩ := c
      refine if_yes (fun P p => by simp [tAn, tV, eIsi, isB, bVar, e2, e1, fLen, eC, fEq, sh_int, eqv_int]; exact p) ?_
      have eb : Ev (e2 fIx (bVar 3) (eC (.int 1))) [.pot, .dat h, .dat (.list vs), .dat (.tuple [a, b, d]), .dat (.list odd), .dat other, .dat (.bool (houseB (.tuple [a, b, d]))), .dat (.str (PyData.tuple [a, b, d]).shown), x8, x9, x10, x11] b := ev_ix (ev_bar rfl) ev_c (at1 _ _ _)
      refine asg_to (ev_call (ev_cons eb ev_nil) rfl trivial fun _ h => h) ?_
      have eb : Ev (e2 fIx (bVar 3) (eC (.int 1))) [.pot, .dat h, .dat (.list vs), .dat (.tuple [a, b, d]), .dat (.list odd), .dat other, .dat (.bool (houseB (.tuple [a, b, d]))), .dat (.str (PyData.tuple [a, b, d]).shown), .dat (.bool (momentsB b)), x9, x10, x11] b := ev_ix (ev_bar rfl) ev_c (at1 _ _ _)
      show wSeq _ _ _ [.pot, .dat h, .dat (.list vs), .dat (.tuple [a, b, d]), .dat (.list odd), .dat other, .dat (.bool (houseB (.tuple [a, b, d]))), .dat (.str (PyData.tuple [a, b, d]).shown), .dat (.bool (momentsB b)), x9, x10, x11]
      refine seq_pass (ne_same (c := .list [.bool (momentsB b), .bool (momentsB b)]) (ev_li (ev_cons (ev_call (ev_cons eb ev_nil) rfl trivial fun _ h => h) (ev_cons (ev_callK (ev_cons eb ev_nil) rfl trivial fun _ h => h) ev_nil)) (Nat.le_of_ble_eq_true rfl)) (ev_li (ev_cons (ev_var rfl) (ev_cons (ev_var rfl) ev_nil)) (Nat.le_of_ble_eq_true rfl)) (sh_two _ _)) ?_
      have ed : Ev (e2 fIx (bVar 3) (eC (.int 2))) [.pot, .dat h, .dat (.list vs), .dat (.tuple [a, b, d]), .dat (.list odd), .dat other, .dat (.bool (houseB (.tuple [a, b, d]))), .dat (.str (PyData.tuple [a, b, d]).shown), .dat (.bool (momentsB b)), x9, x10, x11] d := ev_ix (ev_bar rfl) ev_c (at2 _ _ _ _)
      obtain ⟨zs, lzs, es⟩ : ∃ zs : List PyData, zs.length ≤ 40000 ∧ Ev (eIf (tV (eIsi2 "list" "tuple" (e2 fIx (bVar 3) (eC (PyData.int 2))))) (e1 fList (e2 fIx (bVar 3) (eC (PyData.int 2)))) (eLi (aC (e2 fIx (bVar 3) (eC (PyData.int 2))) aN))) [.pot, .dat h, .dat (.list vs), .dat (.tuple [a, b, d]), .dat (.list odd), .dat other, .dat (.bool (houseB (.tuple [a, b, d]))), .dat (.str (PyData.tuple [a, b, d]).shown), .dat (.bool (momentsB b)), x9, x10, x11] (.list zs) := by
        have vd : Va 60000 10 d := by
          obtain ⟨g, _, _⟩ := vv.ofT
          exact (g.mem (by simp)).mono (by decide) (by decide)
        cases d with
        | list ys =>
          have := vd.ofL.1.len
          exact ⟨ys, by omega, fun P p => ed _ (ed _ p)⟩
        | tuple ys =>
          have := vd.ofT.1.len
          exact ⟨ys, by omega, fun P p => ed _ (ed _ p)⟩
        | none => exact ⟨[.none], Nat.le_of_ble_eq_true rfl, fun P p => ed _ (ed _ ⟨Nat.le_of_ble_eq_true rfl, p⟩)⟩
        | bool z => exact ⟨[.bool z], Nat.le_of_ble_eq_true rfl, fun P p => ed _ (ed _ ⟨Nat.le_of_ble_eq_true rfl, p⟩)⟩
        | int z => exact ⟨[.int z], Nat.le_of_ble_eq_true rfl, fun P p => ed _ (ed _ ⟨Nat.le_of_ble_eq_true rfl, p⟩)⟩
        | str z => exact ⟨[.str z], Nat.le_of_ble_eq_true rfl, fun P p => ed _ (ed _ ⟨Nat.le_of_ble_eq_true rfl, p⟩)⟩
        | dict z => exact absurd vd.ok (by rw [okB]; decide)
      refine asg_to es ?_
      obtain ⟨s, ms, ps, rfl, rfl, hm, p4, hps⟩ := house_of hv.1
      obtain ⟨s2, ms2, ps2, rfl, rfl, hm2, p42, hps2⟩ := house_of hoth
      obtain ⟨q, rfl⟩ : ∃ q, ps2 = [q] := one_of lot
      have l4 : (cutG zs none (some 4)).length ≤ 40000 := by
        unfold cutG
        rw [List.length_take, List.length_drop]
        omega
      refine ⟨_, at2 _ _ _ _, _, at0 _ _, Nat.le_of_ble_eq_true rfl, by simp; omega, ?_⟩
      refine loop_inv (I := fun _ e => ∃ x8 x10, e = [.pot, .dat (.tuple [.str "house", .tuple ms, .tuple ps]), .dat (.list vs), .dat (.tuple [a, b, d]), .dat (.list odd), .dat (.tuple [.str "house", .tuple ms2, .tuple [q]]), .dat (.bool (houseB (.tuple [a, b, d]))), .dat (.str (PyData.tuple [a, b, d]).shown), x8, .dat (.list zs), x10, x11]) _ 0 _ (fun j p env L2 hd2 hi2 hL2 => ?_) ⟨_, _, rfl⟩ (fun e hi2 => ?_)
      · obtain ⟨y8, y10, rfl⟩ := hi2
        have e1 : Ev (e2 fIx (bVar 1) (eC (.int 1))) [.pot, .dat (.tuple [.str "house", .tuple ms, .tuple ps]), .dat (.list vs), .dat (.tuple [a, b, d]), .dat (.list odd), .dat (.tuple [.str "house", .tuple ms2, .tuple [q]]), .dat (.bool (houseB (.tuple [a, b, d]))), .dat (.str (PyData.tuple [a, b, d]).shown), y8, .dat (.list zs), .dat p, x11] (.tuple ms) := ev_ix (ev_bar rfl) ev_c (at1 _ _ _)
        show wSeq _ _ _ [.pot, .dat (.tuple [.str "house", .tuple ms, .tuple ps]), .dat (.list vs), .dat (.tuple [a, b, d]), .dat (.list odd), .dat (.tuple [.str "house", .tuple ms2, .tuple [q]]), .dat (.bool (houseB (.tuple [a, b, d]))), .dat (.str (PyData.tuple [a, b, d]).shown), y8, .dat (.list zs), .dat p, x11]
        refine asg_to (ev_call (c := .bool (promB ms p)) (ev_cons e1 (ev_cons (ev_var rfl) ev_nil)) rfl hm fun _ h => h) ?_
        refine if_no (ne_same (c := .list [.bool (promB ms p), .bool (promB ms p)]) (ev_li (ev_cons (ev_call (ev_cons (ev_var rfl) (ev_cons (ev_var rfl) ev_nil)) rfl hv fun _ h => h) (ev_cons (ev_callK (ev_cons (ev_var rfl) (ev_cons (ev_var rfl) ev_nil)) rfl hv fun _ h => h) ev_nil)) (Nat.le_of_ble_eq_true rfl)) (ev_li (ev_cons (ev_var rfl) (ev_cons (ev_var rfl) ev_nil)) (Nat.le_of_ble_eq_true rfl)) (sh_two _ _)) ?_
        exact hL2 _ ⟨_, _, rfl⟩
      · obtain ⟨y8, y10, rfl⟩ := hi2
        exact hL _ ⟨_, _, _, _, _, _, _, rfl⟩
    · refine if_no (fun P p => ?_) ?_
      · cases v with
        | tuple xs =>
          have l3 : ¬ xs.length = 3 := fun z => c (by
            match xs, z with
            | [a, b, d], _ => exact ⟨a, b, d, rfl⟩)
          have l3' : ¬ (xs.length : Int) = 3 := by omega
          simp [tAn, tV, eIsi, isB, bVar, e2, e1, fLen, eC, fEq, sh_int, eqv_int, l3, l3']
          exact p
        | _ => exact p
      · exact hL _ ⟨_, _, _, _, _, _, _, rfl⟩
  · obtain ⟨x3, x6, x7, x8, x9, x10, x11, rfl⟩ := hi
    exact rfl
end Hd
/-! text Lb24 -/
/-! Lb24: trees told right. -/
namespace Hd
open PySem Dl
section
variable {ea eb ec : DE} {env : Dl.Env} {c d : PyData} {cs ds : List PyData} {r : DA} {F : Fs} {ta tb : DT} {i : Nat} {di : DA} {g : DG} {vs : List Nat} {f : PyData → PyData}
theorem ev_lc (h : EvA di env cs) (l : cs.length ≤ 100000) (st : ∀ d ∈ cs, ∀ R : PyData → Prop, R (f d) → g d (wipeE env vs) fun env1 => ea env1 R) : Ev (eF (dLc di g tYesD ea vs)) env (.list (cs.map f)) := fun P p =>
  h _ (lc_gen (keep := fun _ => true) (f := f) cs [] (fun d hd R1 R2 hR => st d hd R1 hR) (by simp; omega) (by rw [filter_yes]; exact p))
theorem ev_lcF {keep : PyData → Bool} (h : EvA di env cs) (l : cs.length ≤ 100000) (st : ∀ d ∈ cs, ∀ (R1 : PyData → Prop) (R2 : Prop), (if keep d = true then R1 (f d) else R2) → g d (wipeE env vs) fun env1 => ta env1 fun b => if b = true then ea env1 R1 else R2) : Ev (eF (dLc di g ta ea vs)) env (.list ((cs.filter keep).map f)) := fun P p =>
  h _ (lc_gen (keep := keep) (f := f) cs [] st (by simp; omega) p)
theorem ev_r1 {n : Int} (h : Ev ea env (.int n)) (h0 : -100000 ≤ n) (h1 : n ≤ 100000) : EvA (dR1 ea) env (rgD 0 n.toNat) := fun P p => h _ ⟨h0, h1, p⟩
theorem ev_dL (h : Ev ea env (.list ds)) : EvA (dL ea) env ds := fun P p => h _ p
theorem ev_dT (h : Ev ea env (.tuple ds)) : EvA (dT ea) env ds := fun P p => h _ p
theorem ev_dEnT (h : Ev ea env (.tuple ds)) : EvA (dEnT ea) env (enD ds) := fun P p => h _ p
theorem ev_lenT (h : Ev ea env (.tuple ds)) : Ev (e1 fLen ea) env (.int (ds.length : Nat)) := fun P p => h _ p
theorem ev_lenL (h : Ev ea env (.list ds)) : Ev (e1 fLen ea) env (.int (ds.length : Nat)) := fun P p => h _ p
theorem ev_addL (h : Ev ea env (.list cs)) (g : Ev eb env (.list ds)) (l : cs.length + ds.length ≤ 100000) : Ev (e2 fAdd ea eb) env (.list (cs ++ ds)) := fun P p => h _ (g _ ⟨l, p⟩)
theorem ev_sub {x y : Int} (h : Ev ea env (.int x)) (g : Ev eb env (.int y)) : Ev (e2 fSub ea eb) env (.int (x - y)) := fun P p => h _ (g _ ⟨trivial, p⟩)
theorem ev_twice (h : Ev ea env (.list cs)) (g : Ev eb env (.int 2)) (l : cs.length * 2 ≤ 100000) : Ev (e2 fRep ea eb) env (.list (cs ++ cs)) := fun P p => h _ (g _ ⟨by decide, by decide, l, by
  have e : (List.replicate (Int.toNat 2) cs).flatten = cs ++ cs := by
    show (List.replicate 2 cs).flatten = _
    simp [List.replicate]
  rw [e]
  exact p⟩)
theorem ev_all {bs : List Bool} (h : Ev ea env (.list cs)) (e : boolsD cs = some bs) : Ev (e1 fAll ea) env (.bool (bs.all id)) := fun P p => h _ ⟨bs, e, p⟩
theorem ev_and {a b : Bool} (h : Ev ea env (.bool a)) (g : Ev eb env (.bool b)) : Ev (vAn ea eb) env (.bool (a && b)) := fun P p => h _ (by
  show (if a = true then eb env P else P (.bool false))
  cases a
  · exact p
  · exact g _ p)
end
theorem rgD0 (n : Nat) : rgD 0 n = (List.range n).map dN := by
  unfold rgD
  refine List.map_congr_left fun i _ => ?_
  simp [dN]
def w__law_trees_right : DS :=
  (wSeq (wAsg (e2 fIx (bVar 1) (eC (.int 1))) (gN 2))
    (wSeq (wPar [5, 6] (mD (eCall F__law_sons (aC (eVar 2) aN)) (mD (eCall F__law_ends (aC (eVar 2) aN)) mN)))
    (wSeq (wAsg (eF (dLc (dR1 (e1 fLen (bVar 2))) (gN 4) tYesD (eCall F__law_way (aC (eVar 2) (aC (eVar 4) aN))) [4])) (gN 3))
    (wSeq (wIf (tV (e2 fNeS (e1 fRepr (eLi (aC (eCall F_ends (aC (eVar 1) aN)) (aC (eCall F_courses (aC (eVar 1) aN)) (aC (eCallK F_ends (put PyData.none [0]) (aC (eVar 1) aN)) (aC (eCallK F_courses (put PyData.none [0]) (aC (eVar 1) aN)) (aC (eCall F_bare_house (aC (eVar 2) aN)) aN))))))) (e1 fRepr (e2 fAdd (e2 fRep (eLi (aC (eVar 6) (aC (e1 fSrt (eF (dLc (dL (eVar 6)) (gN 4) tYesD (e2 fIx (bVar 3) (bVar 4)) [4]))) aN))) (eC (.int 2))) (eLi (aC (eTu (aC (eC (.str "house")) (aC (eVar 2) (aC (eTu aN) aN)))) aN)))))) (wRet (eC (.bool false))) wNx)
    (wSeq (wFor (dL (eCallP F__law_some 0 (aC (eLR (e1 fLen (bVar 2))) (aC (eC (.int 8)) aN)))) (gN 4) (wSeq (wAsg (eLi (aC (e2 fIx (bVar 5) (bVar 4)) (aC (e2 fIx (bVar 3) (bVar 4)) (aC (eF (dLc (dR1 (e1 fLen (bVar 2))) (gN 12) (tV (e2 (fIn false) (bVar 4) (e2 fIx (bVar 3) (bVar 12)))) (eVar 12) [12])) (aC (e2 fSub (e1 fLen (e2 fIx (bVar 3) (bVar 4))) (eC (.int 1))) aN))))) (gN 7))
    (wIf (tO (tV (e2 fNeS (e1 fRepr (eLi (aC (eCall F_sons (aC (eVar 1) (aC (eVar 4) aN))) (aC (eCall F_ahead (aC (eVar 1) (aC (eVar 4) aN))) (aC (eCall F_below (aC (eVar 1) (aC (eVar 4) aN))) (aC (eCall F_depth (aC (eVar 1) (aC (eVar 4) aN))) aN)))))) (e1 fRepr (bVar 7)))) (tV (e2 fNeS (e1 fRepr (eLi (aC (eCallK F_sons (put PyData.none [1, 0]) (aC (eVar 4) (aC (eVar 1) aN))) (aC (eCallK F_ahead (put PyData.none [1, 0]) (aC (eVar 4) (aC (eVar 1) aN))) (aC (eCallK F_below (put PyData.none [1, 0]) (aC (eVar 4) (aC (eVar 1) aN))) (aC (eCallK F_depth (put PyData.none [1, 0]) (aC (eVar 4) (aC (eVar 1) aN))) aN)))))) (e1 fRepr (bVar 7))))) (wRet (eC (.bool false))) wNx)))
    (wSeq (wFor (dEnT (e2 fIx (bVar 1) (eC (.int 2)))) (gTu 2 (gCn (gN 8) (gCn (gN 9) gNl))) (wSeq (wAsg (e1 fAll (eF (dLc (dT (eVar 9)) (gTu 2 (gCn (gN 13) (gCn (gN 14) gNl))) tYesD (e2 fIsN (bVar 14) (eC .none)) [13, 14]))) (gN 10))
    (wSeq (wAsg (vAn (eVar 10) (e1 fAll (eF (dLc (dEnT (eVar 9)) (gTu 2 (gCn (gN 4) (gCn (gTu 2 (gCn (gN 13) (gCn (gN 14) gNl))) gNl))) tYesD (vO (e2 fIsN (bVar 13) (eC .none)) (e2 (fIn false) (bVar 4) (bVar 6))) [4, 13, 14])))) (gN 11))
    (wIf (tV (e2 fNe (eLi (aC (eCall F_is_plain (aC (eVar 1) (aC (eVar 8) aN))) (aC (eCall F_is_at_ends (aC (eVar 1) (aC (eVar 8) aN))) (aC (eCallK F_is_plain (put PyData.none [1, 0]) (aC (eVar 8) (aC (eVar 1) aN))) (aC (eCallK F_is_at_ends (put PyData.none [1, 0]) (aC (eVar 8) (aC (eVar 1) aN))) aN))))) (e2 fRep (eLi (aC (eVar 10) (aC (eVar 11) aN))) (eC (.int 2))))) (wRet (eC (.bool false))) wNx))))
    (wRet (eC (.bool true)))))))))

def F__law_trees_right : Fs := F__law_values_right
/-! what is shown is small -/
theorem va_dN {k i : Nat} (h : i < 1000) : Va 13 k (dN i) := .int (by omega)
theorem va_lN {l : List Nat} (h1 : l.length ≤ 32) (h2 : ∀ i ∈ l, i < 1000) : Va 500 1 (lN l) := (Va.lst (Vs.all (m := 32) (k := 0) (n := 13) (fun x hx => by obtain ⟨i, hi, rfl⟩ := List.mem_map.mp hx; exact va_dN (h2 i hi)) (by rw [List.length_map]; exact h1))).mono (by decide) (by decide)
theorem way_len (ms : List PyData) (i : Nat) : (wayN ms i).length ≤ i + 1 := by
  unfold wayN
  rw [List.length_reverse]
  exact up_len ms i i
theorem va_way {ms : List PyData} (hg : goods momB 0 ms = true) (l2 : ms.length ≤ 31) {i : Nat} (hi : i < ms.length) : Va 500 1 (lN (wayN ms i)) := va_lN (by have := way_len ms i; omega) (fun j hj => by
  unfold wayN at hj
  have := mem_up_le hg i hi j (List.mem_reverse.mp hj)
  omega)
theorem va_ends {ms : List PyData} (l2 : ms.length ≤ 31) : Va 500 1 (endsD ms) := va_lN (by have := ends_le ms l2; omega) (fun j hj => by have := ends_lt hj; omega)
theorem va_sons {ms : List PyData} (l2 : ms.length ≤ 31) (i : Nat) : Va 500 1 (lN (sonsOf ms i)) := va_lN (by
  have := List.length_filter_le (fun j => decide (0 < j) && decide (fatN ms j = i)) (List.range ms.length)
  rw [List.length_range] at this
  unfold sonsOf
  omega) (fun j hj => by
  have := List.mem_range.mp (List.mem_filter.mp hj).1
  omega)
theorem va_below {ms : List PyData} (l2 : ms.length ≤ 31) (i : Nat) : Va 500 1 (lN (belowN ms i)) := va_lN (by
  have := List.length_filter_le (fun j => (wayN ms j).contains i) (List.range ms.length)
  rw [List.length_range] at this
  unfold belowN
  omega) (fun j hj => by
  have := List.mem_range.mp (List.mem_filter.mp hj).1
  omega)
theorem va_courses {ms : List PyData} (hg : goods momB 0 ms = true) (l2 : ms.length ≤ 31) : Va 16000 2 (.list (srt ((endsN ms).map fun e => lN (wayN ms e)))) := (Va.lst (Vs.all (m := 31) (n := 500) (k := 1) (fun x hx => by
  unfold srt at hx
  rw [List.mem_mergeSort] at hx
  obtain ⟨e, he, rfl⟩ := List.mem_map.mp hx
  exact va_way hg l2 (ends_lt he)) (by
  unfold srt
  rw [List.length_mergeSort, List.length_map]
  exact ends_le ms l2))).mono (by decide) (by decide)
theorem at_range {f : Nat → PyData} {n i : Nat} (h : i < n) : L2.atI ((List.range n).map f) (i : Int) = some (f i) := by
  rw [at_dN, List.getElem?_map, List.getElem?_range h]
  rfl
theorem ev_srt {ea : DE} {env : Dl.Env} {cs : List PyData} (h : Ev ea env (.list cs)) (a : PySem.W.AllAlike cs) (s : PySem.W.Sortable cs) (l : cs.length ≤ 100000) (d : ∀ d ∈ cs, d.depth ≤ 50) : Ev (e1 fSrt ea) env (.list (srt cs)) := fun P p => h _ ⟨a, s, l, d, p⟩
theorem bel_eq (ms : List PyData) (i n : Nat) : (((List.range n).map dN).filter fun d => (wayN ms (intOf d).toNat).contains i).map id = ((List.range n).filter fun j => (wayN ms j).contains i).map dN := by
  rw [List.map_id, List.filter_map]
  rfl
theorem l__law_trees_right (ds : List PyData) (hp : F__law_trees_right.pre ds) : w__law_trees_right { nx := fun _ => F__law_trees_right.post ds .none, rt := F__law_trees_right.post ds } (envP N__law_trees_right ds) := by
  obtain ⟨h, rfl, hv⟩ := hs_of hp
  obtain ⟨s, ms, ps, rfl, rfl, hm, p4, hps⟩ := house_of hv.1
  obtain ⟨_, e, l1, l2, hg⟩ := len_moments hm
  cases e
  have lle := ends_le ms l2
  unfold w__law_trees_right
  refine seq_to [.pot, .dat (.tuple [.str "house", .tuple ms, .tuple ps]), .dat (.tuple ms), .un, .un, .un, .un, .un, .un, .un, .un, .un, .un, .un, .un] (fun N hN => ?_) ?_
  · exact ⟨_, at1 _ _ _, hN⟩
  refine seq_to [.pot, .dat (.tuple [.str "house", .tuple ms, .tuple ps]), .dat (.tuple ms), .un, .un, .dat (sonsD ms), .dat (endsD ms), .un, .un, .un, .un, .un, .un, .un, .un] (fun N hN => ?_) ?_
  · refine ⟨rfl, hm, fun d hd => ?_⟩
    obtain rfl := hd
    refine ⟨rfl, hm, fun d hd => ?_⟩
    obtain rfl := hd
    exact hN
  have b1 : (ms.length : Int) ≤ 100000 := by omega
  have b0 : -100000 ≤ (ms.length : Int) := by omega
  let ways : PyData := .list ((List.range ms.length).map fun i => lN (wayN ms i))
  refine seq_to [.pot, .dat (.tuple [.str "house", .tuple ms, .tuple ps]), .dat (.tuple ms), .dat (.list ((List.range ms.length).map fun i => lN (wayN ms i))), .un, .dat (sonsD ms), .dat (endsD ms), .un, .un, .un, .un, .un, .un, .un, .un] (fun N hN => ?_) ?_
  · refine ev_lc (f := fun d => lN (wayN ms (intOf d).toNat)) (ev_r1 (ev_lenT (ev_bar rfl)) b0 b1) (by rw [rgD_len]; omega) (fun d hd R hR => ?_) _ ?_
    · obtain ⟨i, hi⟩ := List.getElem?_of_mem hd
      obtain ⟨li, rfl⟩ := rgD_get hi
      have li2 : i < ms.length := by omega
      refine ⟨rfl, ⟨hm, i, by simp, li2⟩, fun d hd => ?_⟩
      obtain rfl := hd
      exact hR
    · rw [Int.toNat_natCast, rgD0, List.map_map]
      exact hN
  have vb : Va 2000 3 (.tuple [.str "house", .tuple ms, .tuple []]) := (Va.tup (k := 2) (.cons .strH (.cons ((va_moms hm).2.mono (Nat.le_refl _) (by decide)) (.cons ((Va.tup (Vs.nil (k := 0))).mono (Nat.le_refl _) (by decide)) .nil)))).mono (by decide) (by decide)
  have ve := va_ends l2
  have vc := va_courses hg l2
  have v1 : Va 40000 4 (.list [endsD ms, .list (srt ((endsN ms).map fun e => lN (wayN ms e))), endsD ms, .list (srt ((endsN ms).map fun e => lN (wayN ms e))), .tuple [.str "house", .tuple ms, .tuple []]]) :=
    (Va.lst (k := 3) (.cons (ve.mono (Nat.le_refl _) (by decide)) (.cons (vc.mono (Nat.le_refl _) (by decide)) (.cons (ve.mono (Nat.le_refl _) (by decide)) (.cons (vc.mono (Nat.le_refl _) (by decide)) (.cons vb .nil)))))).mono (by decide) (by decide)
  refine seq_pass (neS_same (x := (PyData.list [endsD ms, .list (srt ((endsN ms).map fun e => lN (wayN ms e))), endsD ms, .list (srt ((endsN ms).map fun e => lN (wayN ms e))), .tuple [.str "house", .tuple ms, .tuple []]]).shown)
    (ev_repr (ev_li (ev_cons (ev_call (ev_cons (ev_var rfl) ev_nil) rfl hv fun _ h => h) (ev_cons (ev_call (ev_cons (ev_var rfl) ev_nil) rfl hv fun _ h => h) (ev_cons (ev_callK (ev_cons (ev_var rfl) ev_nil) rfl hv fun _ h => h) (ev_cons (ev_callK (ev_cons (ev_var rfl) ev_nil) rfl hv fun _ h => h) (ev_cons (ev_call (ev_cons (ev_var rfl) ev_nil) rfl hm fun _ h => h) ev_nil))))) (Nat.le_of_ble_eq_true rfl)) v1 (by decide) (by decide))
    (ev_repr (ev_addL (ev_twice (ev_li (ev_cons (ev_var rfl) (ev_cons (ev_srt (cs := (endsN ms).map fun e => lN (wayN ms e)) ?_ (PySem.W.AllAlike.of fun a b => lN_alike _ _) (PySem.W.Sortable.others fun b => ⟨by simp [lN], by simp [lN]⟩) (by rw [List.length_map]; omega) (fun d hd => ?_)) ev_nil)) (Nat.le_of_ble_eq_true rfl)) ev_c (Nat.le_of_ble_eq_true rfl)) (ev_li (ev_cons (ev_tu (ev_cons ev_c (ev_cons (ev_var rfl) (ev_cons (ev_tu ev_nil (Nat.zero_le _)) ev_nil))) (Nat.le_of_ble_eq_true rfl)) ev_nil) (Nat.le_of_ble_eq_true rfl)) (Nat.le_of_ble_eq_true rfl)) v1 (by decide) (by decide))) ?_
  · have e2 : ((endsN ms).map dN).map (fun d => lN (wayN ms (intOf d).toNat)) = (endsN ms).map fun e => lN (wayN ms e) := by
      rw [List.map_map]
      rfl
    rw [← e2]
    refine ev_lc (ev_dL (ev_var rfl)) (by rw [List.length_map]; omega) fun d hd R hR => ?_
    obtain ⟨i, hi, rfl⟩ := List.mem_map.mp hd
    exact ⟨_, at_range (ends_lt hi), hR⟩
  · obtain ⟨i, _, rfl⟩ := List.mem_map.mp hd
    rw [lN_depth]
    decide
  refine ⟨by omega, b1, rfl, ⟨by rw [rgD_len]; omega, by decide, by decide⟩, ?_⟩
  rintro d ⟨fs, rfl, lfs, hfs⟩
  refine loop_inv (I := fun _ e => ∃ x4 x7, e = [.pot, .dat (.tuple [.str "house", .tuple ms, .tuple ps]), .dat (.tuple ms), .dat (.list ((List.range ms.length).map fun i => lN (wayN ms i))), x4, .dat (sonsD ms), .dat (endsD ms), x7, .un, .un, .un, .un, .un, .un, .un]) _ 0 _ (fun j d env L hd hi hL => ?_) ⟨_, _, rfl⟩ (fun e hi => ?_)
  · obtain ⟨x4, x7, rfl⟩ := hi
    obtain ⟨i, hi, rfl⟩ : ∃ i : Nat, i < ms.length ∧ d = dN i := by
      have := hfs d (List.mem_of_getElem? hd)
      rw [rgD0] at this
      obtain ⟨i, hi, rfl⟩ := List.mem_map.mp this
      exact ⟨i, by have := List.mem_range.mp hi; omega, rfl⟩
    have on : OnH (.tuple [.str "house", .tuple ms, .tuple ps]) (dN i) := ⟨hv, i, rfl, hi⟩
    have vdue : Va 2000 2 (.list [lN (sonsOf ms i), lN (wayN ms i), lN (belowN ms i), .int (((wayN ms i).length : Nat) - 1 : Int)]) := by
      have wl := way_len ms i
      exact (Va.lst (k := 1) (.cons (va_sons l2 i) (.cons (va_way hg l2 hi) (.cons (va_below l2 i) (.cons (.int (by omega)) .nil))))).mono (by decide) (by decide)
    have ew : Ev (e2 fIx (bVar 3) (bVar 4)) [.pot, .dat (.tuple [.str "house", .tuple ms, .tuple ps]), .dat (.tuple ms), .dat (.list ((List.range ms.length).map fun i => lN (wayN ms i))), .dat (dN i), .dat (sonsD ms), .dat (endsD ms), x7, .un, .un, .un, .un, .un, .un, .un] (lN (wayN ms i)) := ev_ixL (ev_bar rfl) (ev_bar rfl) (at_range hi)
    have lenw : Ev (e2 fSub (e1 fLen (e2 fIx (bVar 3) (bVar 4))) (eC (.int 1))) [.pot, .dat (.tuple [.str "house", .tuple ms, .tuple ps]), .dat (.tuple ms), .dat (.list ((List.range ms.length).map fun i => lN (wayN ms i))), .dat (dN i), .dat (sonsD ms), .dat (endsD ms), x7, .un, .un, .un, .un, .un, .un, .un] (.int (((wayN ms i).length : Nat) - 1 : Int)) := by
      have := ev_sub (ev_lenL ew) (ev_c (c := .int 1))
      rw [List.length_map] at this
      exact this
    have bel : Ev (eF (dLc (dR1 (e1 fLen (bVar 2))) (gN 12) (tV (e2 (fIn false) (bVar 4) (e2 fIx (bVar 3) (bVar 12)))) (eVar 12) [12])) [.pot, .dat (.tuple [.str "house", .tuple ms, .tuple ps]), .dat (.tuple ms), .dat (.list ((List.range ms.length).map fun i => lN (wayN ms i))), .dat (dN i), .dat (sonsD ms), .dat (endsD ms), x7, .un, .un, .un, .un, .un, .un, .un] (lN (belowN ms i)) := by
      have := ev_lcF (di := dR1 (e1 fLen (bVar 2))) (g := gN 12) (ta := tV (e2 (fIn false) (bVar 4) (e2 fIx (bVar 3) (bVar 12)))) (ea := eVar 12) (vs := [12]) (env := [.pot, .dat (.tuple [.str "house", .tuple ms, .tuple ps]), .dat (.tuple ms), .dat (.list ((List.range ms.length).map fun i => lN (wayN ms i))), .dat (dN i), .dat (sonsD ms), .dat (endsD ms), x7, .un, .un, .un, .un, .un, .un, .un]) (f := id) (keep := fun d => (wayN ms (intOf d).toNat).contains i) (ev_r1 (ev_lenT (ev_bar rfl)) b0 b1) (by rw [rgD_len]; omega) (fun d hd R1 R2 hR => by
        rw [rgD0] at hd
        obtain ⟨k, hk, rfl⟩ := List.mem_map.mp hd
        have lk : k < ms.length := by have := List.mem_range.mp hk; omega
        refine ⟨_, at_range lk, rfl, flt_dN _, ?_⟩
        show (if (inD (dN i) ((wayN ms k).map dN)) = true then R1 (dN k) else R2)
        have e3 : inD (dN i) ((wayN ms k).map dN) = (wayN ms k).contains i := inD_dN i _
        rw [e3]
        exact hR)
      rw [rgD0, Int.toNat_natCast, bel_eq] at this
      exact this
    refine asg_to (d := .list [lN (sonsOf ms i), lN (wayN ms i), lN (belowN ms i), .int (((wayN ms i).length : Nat) - 1 : Int)]) (env := [.pot, .dat (.tuple [.str "house", .tuple ms, .tuple ps]), .dat (.tuple ms), .dat (.list ((List.range ms.length).map fun i => lN (wayN ms i))), .dat (dN i), .dat (sonsD ms), .dat (endsD ms), x7, .un, .un, .un, .un, .un, .un, .un]) (ev_li (ev_cons (ev_ixL (ev_bar rfl) (ev_bar rfl) (at_range hi)) (ev_cons ew (ev_cons (bel) (ev_cons (lenw) ev_nil)))) (Nat.le_of_ble_eq_true rfl)) ?_
    refine if_no (or_no (neS_same (ev_repr (ev_li (ev_cons (ev_call (ev_cons (ev_var rfl) (ev_cons (ev_var rfl) ev_nil)) rfl on fun _ h => h) (ev_cons (ev_call (ev_cons (ev_var rfl) (ev_cons (ev_var rfl) ev_nil)) rfl on fun _ h => h) (ev_cons (ev_call (ev_cons (ev_var rfl) (ev_cons (ev_var rfl) ev_nil)) rfl on fun _ h => h) (ev_cons (ev_call (ev_cons (ev_var rfl) (ev_cons (ev_var rfl) ev_nil)) rfl on fun _ h => h) ev_nil)))) (Nat.le_of_ble_eq_true rfl)) vdue (by decide) (by decide)) (ev_repr (ev_bar rfl) vdue (by decide) (by decide)))
      (neS_same (ev_repr (ev_li (ev_cons (ev_callK (ev_cons (ev_var rfl) (ev_cons (ev_var rfl) ev_nil)) rfl on fun _ h => h) (ev_cons (ev_callK (ev_cons (ev_var rfl) (ev_cons (ev_var rfl) ev_nil)) rfl on fun _ h => h) (ev_cons (ev_callK (ev_cons (ev_var rfl) (ev_cons (ev_var rfl) ev_nil)) rfl on fun _ h => h) (ev_cons (ev_callK (ev_cons (ev_var rfl) (ev_cons (ev_var rfl) ev_nil)) rfl on fun _ h => h) ev_nil)))) (Nat.le_of_ble_eq_true rfl)) vdue (by decide) (by decide)) (ev_repr (ev_bar rfl) vdue (by decide) (by decide)))) ?_
    exact hL _ ⟨_, _, rfl⟩
  · obtain ⟨x4, x7, rfl⟩ := hi
    refine ⟨_, at2 _ _ _ _, ?_⟩
    refine loop_inv (I := fun _ e => ∃ x4 x8 x9 x10 x11, e = [.pot, .dat (.tuple [.str "house", .tuple ms, .tuple ps]), .dat (.tuple ms), .dat (.list ((List.range ms.length).map fun i => lN (wayN ms i))), x4, .dat (sonsD ms), .dat (endsD ms), x7, x8, x9, x10, x11, .un, .un, .un]) _ 0 _ (fun j d env L hd hi hL => ?_) ⟨_, _, _, _, _, rfl⟩ (fun e hi => ?_)
    · obtain ⟨x4, x8, x9, x10, x11, rfl⟩ := hi
      obtain ⟨p, hp2, rfl⟩ := enD_get hd
      have lj : j < ps.length := (List.getElem?_eq_some_iff.mp hp2).1
      have pp : promB ms p = true := List.all_eq_true.mp hps p (List.mem_of_getElem? hp2)
      obtain ⟨prs, rfl, lpr, gpr, two⟩ := prom_of pp
      have on : OnP (.tuple [.str "house", .tuple ms, .tuple ps]) (.int (j : Int)) := ⟨hv, j, rfl, lj⟩
      refine ⟨rfl, ?_⟩
      simp only [gCn, gN, gNl]
      show wSeq _ _ _ [.pot, .dat (.tuple [.str "house", .tuple ms, .tuple ps]), .dat (.tuple ms), .dat (.list ((List.range ms.length).map fun i => lN (wayN ms i))), x4, .dat (sonsD ms), .dat (endsD ms), x7, .dat (.int (j : Int)), .dat (.tuple prs), x10, x11, .un, .un, .un]
      refine asg_to (d := .bool (plainB (.tuple prs))) (env := [.pot, .dat (.tuple [.str "house", .tuple ms, .tuple ps]), .dat (.tuple ms), .dat (.list ((List.range ms.length).map fun i => lN (wayN ms i))), x4, .dat (sonsD ms), .dat (endsD ms), x7, .dat (.int (j : Int)), .dat (.tuple prs), x10, x11, .un, .un, .un]) ?_ ?_
      · have := ev_all (ev_lc (di := dT (eVar 9)) (g := gTu 2 (gCn (gN 13) (gCn (gN 14) gNl))) (ea := e2 fIsN (bVar 14) (eC .none)) (vs := [13, 14]) (env := [.pot, .dat (.tuple [.str "house", .tuple ms, .tuple ps]), .dat (.tuple ms), .dat (.list ((List.range ms.length).map fun i => lN (wayN ms i))), x4, .dat (sonsD ms), .dat (endsD ms), x7, .dat (.int (j : Int)), .dat (.tuple prs), x10, x11, .un, .un, .un]) (f := fun d => .bool (sndNon d)) (ev_dT (ev_var rfl)) (by omega) (fun d hd R hR => by
          obtain ⟨a, b, rfl⟩ := two d hd
          exact ⟨rfl, hR⟩)) (boolsD_map _ _)
        rw [all_plain] at this
        exact this
      refine asg_to (d := .bool (endB ms (.tuple prs))) (env := [.pot, .dat (.tuple [.str "house", .tuple ms, .tuple ps]), .dat (.tuple ms), .dat (.list ((List.range ms.length).map fun i => lN (wayN ms i))), x4, .dat (sonsD ms), .dat (endsD ms), x7, .dat (.int (j : Int)), .dat (.tuple prs), .dat (.bool (plainB (.tuple prs))), x11, .un, .un, .un]) ?_ ?_
      · obtain ⟨bs, hb1, hb2⟩ := end_all (endsN ms) prs 0
        have := ev_and (ev_var (i := 10) rfl) (ev_all (ev_lc (di := dEnT (eVar 9)) (g := gTu 2 (gCn (gN 4) (gCn (gTu 2 (gCn (gN 13) (gCn (gN 14) gNl))) gNl))) (ea := vO (e2 fIsN (bVar 13) (eC .none)) (e2 (fIn false) (bVar 4) (bVar 6))) (vs := [4, 13, 14]) (env := [.pot, .dat (.tuple [.str "house", .tuple ms, .tuple ps]), .dat (.tuple ms), .dat (.list ((List.range ms.length).map fun i => lN (wayN ms i))), x4, .dat (sonsD ms), .dat (endsD ms), x7, .dat (.int (j : Int)), .dat (.tuple prs), .dat (.bool (plainB (.tuple prs))), x11, .un, .un, .un]) (f := endF (endsN ms)) (ev_dEnT (ev_var rfl)) (by rw [enD_len]; omega) (fun d hd R hR => by
          rw [enD_F] at hd
          obtain ⟨i, q, rfl, hq⟩ := mem_enF hd
          obtain ⟨a, b, rfl⟩ := two q hq
          cases ha : isNon a <;> by_cases hc : i ∈ endsN ms <;> simp [endF, fstNon, ha, hc] at hR <;> simp [fIn, flt_int, flt_d1, flt_dN, inD_dN, endsD, ha, hc, hR, wSeq, wIf, wRet, wRetO, wNx, wFor, wAsg, wPar, wOwn, wApp, wExt, wDrop, wSet, wFrz, wWhile, wLcO, wLcD, eVar, bVar, eC, e1, e2, eCall, eCallP, eCallK, aN, aC, eIsi, eIsi2, tV, tNt, tAn, tO, vAn, vO, vNt, eIf, eTu, eLi, fI, fSub, fDivW, fMod, fInt, fAbs, fRep, fAdd, fCI, fMax2, fMin2, fNeg, fLen, fIsN, fNotN, fIx, eSl, fSl, oS, oN, eCh, eF, gN, gNl, gCn, gTu, dEnT, dT, dL, dEn, dLc, dR1, dR2, mD, mO, mN, mLst, mList, mCat, mRep, setE, tYesD, wipeE, env0, envP, isB, L2.atI, L2.ixN])) (by rw [enD_F]; exact hb1))
        rw [hb2] at this
        exact this
      refine if_no (ne_same (c := .list [.bool (plainB (.tuple prs)), .bool (endB ms (.tuple prs)), .bool (plainB (.tuple prs)), .bool (endB ms (.tuple prs))]) (ev_li (ev_cons (ev_call (ev_cons (ev_var rfl) (ev_cons (ev_var rfl) ev_nil)) rfl on fun d (h : d = .bool (plainB (ps[j]?.getD .none))) => by rw [h, hp2]; rfl) (ev_cons (ev_call (ev_cons (ev_var rfl) (ev_cons (ev_var rfl) ev_nil)) rfl on fun d (h : d = .bool (endB ms (ps[j]?.getD .none))) => by rw [h, hp2]; rfl) (ev_cons (ev_callK (ev_cons (ev_var rfl) (ev_cons (ev_var rfl) ev_nil)) rfl on fun d (h : d = .bool (plainB (ps[j]?.getD .none))) => by rw [h, hp2]; rfl) (ev_cons (ev_callK (ev_cons (ev_var rfl) (ev_cons (ev_var rfl) ev_nil)) rfl on fun d (h : d = .bool (endB ms (ps[j]?.getD .none))) => by rw [h, hp2]; rfl) ev_nil)))) (Nat.le_of_ble_eq_true rfl)) (ev_twice (cs := [.bool (plainB (.tuple prs)), .bool (endB ms (.tuple prs))]) (ev_li (ev_cons (ev_var rfl) (ev_cons (ev_var rfl) ev_nil)) (Nat.le_of_ble_eq_true rfl)) ev_c (Nat.le_of_ble_eq_true rfl)) (sh_bools (bs := [plainB (.tuple prs), endB ms (.tuple prs), plainB (.tuple prs), endB ms (.tuple prs)]))) ?_
      exact hL _ ⟨_, _, _, _, _, rfl⟩
    · obtain ⟨x4, x8, x9, x10, x11, rfl⟩ := hi
      exact rfl
end Hd
/-! text Lc24 -/
/-! Lc24: plans judged right; all of it. -/
namespace Hd
open PySem Dl
def w__law_plans_right : DS :=
  (wSeq (wAsg (e2 fIx (bVar 1) (eC (.int 1))) (gN 2))
    (wSeq (wAsg (eLi (aC (eC .none) (aC (eC (.int 0)) (aC (eTu (aC (eC (.int 0)) (aC (eC (.int 1)) aN))) (aC (eTu (aC (eC (.int 1)) (aC (eC (.int 1)) aN))) (aC (eTu (aC (eC (.int 2)) (aC (eC (.int 2)) aN))) (aC (eC (.bool true)) (aC (eTu (aC (eC (.int 1)) (aC (eC (.int 0)) aN))) (aC (eTu aN) (aC (eC (.str "0")) aN)))))))))) (gN 3))
    (wSeq (wFor (dR1 (eC (.int 4))) (gN 4) (wSeq (wAsg (eCallP F__law_any_plan 0 (aC (eVar 2) aN)) (gN 5))
    (wSeq (wAsg (eCallP F__law_draw 0 (aC (e1 fLen (bVar 2)) aN)) (gN 6))
    (wFor (dL (e2 fAdd (eLi (aC (eVar 5) (aC (e1 fList (bVar 5)) (aC (eSl (bVar 5) oN (oS (e1 fNeg (eC (.int 1))))) (aC (e2 fAdd (bVar 5) (eSl (bVar 5) (oS (e1 fNeg (eC (.int 1)))) oN)) (aC (eCall F__law_put (aC (eVar 5) (aC (eVar 6) (aC (eTu (aC (eC (.int 1)) (aC (eC (.int 3)) aN))) aN)))) (aC (eCall F__law_put (aC (eVar 5) (aC (eVar 6) (aC (eTu (aC (eC (.int 2)) (aC (eC (.int 6)) aN))) aN)))) (aC (eCall F__law_put (aC (eVar 5) (aC (eVar 6) (aC (eTu (aC (eC (.int 0)) (aC (eC (.int 2)) aN))) aN)))) (aC (eC .none) (aC (eTu aN) aN)))))))))) (eF (dLc (dR1 (eC (.int 5))) (gN 9) tYesD (eCallP F__law_bent 0 (aC (eVar 5) (aC (eVar 3) aN))) [9])))) (gN 7) (wSeq (wAsg (eCall F__law_is_plan (aC (eVar 2) (aC (eVar 7) aN))) (gN 8))
    (wIf (tV (e2 fNe (eLi (aC (eCall F_is_plan (aC (eVar 1) (aC (eVar 7) aN))) (aC (eCallK F_is_plan (put PyData.none [1, 0]) (aC (eVar 7) (aC (eVar 1) aN))) aN))) (eLi (aC (eVar 8) (aC (eVar 8) aN))))) (wRet (eC (.bool false))) wNx))))))
    (wRet (eC (.bool true))))))

def F__law_plans_right : Fs := F__law_values_right
def w__law_right : DS :=
  (wSeq (wAsg (eIf (tV (e2 fGt (eCallP F__law_draw 0 (aC (eC (.int 6)) aN)) (eC (.int 0)))) (eCallP F__law_some 0 (aC (eLi (aC (eC (.int 0)) (aC (eC (.int 1)) (aC (eC (.int 2)) (aC (eC (.int 2)) aN))))) (aC (e2 fAdd (eC (.int 1)) (eCallP F__law_draw 0 (aC (eC (.int 4)) aN))) aN))) (eLi aN)) (gN 1))
    (wSeq (wAsg (eCallP F__law_house 0 (aC (eCallP F__law_pick 0 (aC (eLi (aC (eC (.int 1)) (aC (eC (.int 2)) (aC (eC (.int 4)) (aC (eC (.int 9)) (aC (eC (.int 31)) aN)))))) aN)) (aC (eVar 1) aN))) (gN 2))
    (wSeq (wAsg (e1 fRepr (bVar 2)) (gN 3))
    (wRet (vAn (eCallP F__law_values_right 0 (aC (eVar 2) aN)) (vAn (eCallP F__law_trees_right 0 (aC (eVar 2) aN)) (vAn (eCallP F__law_plans_right 0 (aC (eVar 2) aN)) (e2 fEqS (e1 fRepr (bVar 2)) (bVar 3)))))))))

def F__law_right : Fs := ⟨0, fun _ => True, fun ds d => d = .bool true⟩
theorem odd2_ok : ∀ o ∈ [PyData.none, .int 0, .tuple [.int 0, .int 1], .tuple [.int 1, .int 1], .tuple [.int 2, .int 2], .bool true, .tuple [.int 1, .int 0], .tuple [], .str "0"], Va 100 5 o := by
  have i0 : ∀ {i : Int}, i.natAbs < 10000 → Va 100 5 (.int i) := fun h => (Va.int h (k := 5)).mono (by decide) (by decide)
  have t0 : ∀ {i j : Int}, i.natAbs ≤ 1000 → j.natAbs ≤ 1000 → Va 100 5 (.tuple [.int i, .int j]) := fun h g => (va_two h g).mono (by decide) (by decide)
  simp only [List.mem_cons, List.not_mem_nil, or_false, forall_eq_or_imp, forall_eq]
  exact ⟨(Va.non (k := 5)).mono (by decide) (by decide), i0 (by decide), t0 (by decide) (by decide), t0 (by decide) (by decide), t0 (by decide) (by decide), (Va.bool (k := 5)).mono (by decide) (by decide), t0 (by decide) (by decide), (Va.tup (Vs.nil (k := 4))).mono (by decide) (by decide), (Va.str0 (k := 5)).mono (by decide) (by decide)⟩
theorem l__law_plans_right (ds : List PyData) (hp : F__law_plans_right.pre ds) : w__law_plans_right { nx := fun _ => F__law_plans_right.post ds .none, rt := F__law_plans_right.post ds } (envP N__law_plans_right ds) := by
  obtain ⟨h, rfl, hv⟩ := hs_of hp
  obtain ⟨s, ms, ps, rfl, rfl, hm, p4, hps⟩ := house_of hv.1
  obtain ⟨_, e, l1, l2, hg⟩ := len_moments hm
  cases e
  unfold w__law_plans_right
  refine seq_to [.pot, .dat (.tuple [.str "house", .tuple ms, .tuple ps]), .dat (.tuple ms), .un, .un, .un, .un, .un, .un, .un] (fun N hN => ?_) ?_
  · exact ⟨_, at1 _ _ _, hN⟩
  refine seq_cut (fun e => ∃ odd : List PyData, 0 < odd.length ∧ odd.length ≤ 20 ∧ (∀ o ∈ odd, Va 100 5 o) ∧ e = [.pot, .dat (.tuple [.str "house", .tuple ms, .tuple ps]), .dat (.tuple ms), .dat (.list odd), .un, .un, .un, .un, .un, .un]) (fun N hN => ?_) (fun e he => ?_)
  · repeat (first | refine ⟨trivial, ?_⟩ | refine ⟨Nat.le_of_ble_eq_true rfl, ?_⟩)
    exact hN _ ⟨_, Nat.le_of_ble_eq_true rfl, Nat.le_of_ble_eq_true rfl, odd2_ok, rfl⟩
  obtain ⟨odd, o1, o2, ho, rfl⟩ := he
  refine ⟨by decide, by decide, ?_⟩
  refine loop_inv (I := fun _ e => ∃ x4 x5 x6 x7 x8 x9, e = [.pot, .dat (.tuple [.str "house", .tuple ms, .tuple ps]), .dat (.tuple ms), .dat (.list odd), x4, x5, x6, x7, x8, x9]) _ 0 _ (fun j d env L hd hi hL => ?_) ⟨_, _, _, _, _, _, rfl⟩ (fun e hi => ?_)
  · obtain ⟨x4, x5, x6, x7, x8, x9, rfl⟩ := hi
    refine seq_cut (fun e => ∃ prs : List PyData, prs.length = ms.length ∧ (∀ p ∈ prs, Va 33 1 p) ∧ e = [.pot, .dat (.tuple [.str "house", .tuple ms, .tuple ps]), .dat (.tuple ms), .dat (.list odd), .dat d, .dat (.tuple prs), x6, x7, x8, x9]) (fun N hN => ?_) (fun e he => ?_)
    · refine ⟨rfl, hm, ?_⟩
      rintro p ⟨prs, rfl, lp, vp⟩
      exact hN _ ⟨prs, lp, vp, rfl⟩
    obtain ⟨prs, lp, vp, rfl⟩ := he
    refine seq_cut (fun e => ∃ i : Nat, i < ms.length ∧ e = [.pot, .dat (.tuple [.str "house", .tuple ms, .tuple ps]), .dat (.tuple ms), .dat (.list odd), .dat d, .dat (.tuple prs), .dat (.int (i : Int)), x7, x8, x9]) (fun N hN => ?_) (fun e he => ?_)
    · refine ⟨rfl, ⟨by omega, by omega⟩, ?_⟩
      rintro p ⟨r, rfl, r0, r1⟩
      exact hN _ ⟨r.toNat, by omega, by rw [Int.toNat_of_nonneg r0]; rfl⟩
    obtain ⟨i, hi, rfl⟩ := he
    have vs : Vs 1085 1 prs := (Vs.all (m := 31) vp (by omega)).mono (by decide) (by decide)
    have lcut : ∀ lo hi : Option Int, (cutG prs lo hi).length ≤ 31 := fun lo hi => by
      unfold cutG
      rw [List.length_take, List.length_drop]
      omega
    have vpl : Va 1088 2 (.tuple prs) := Va.tup vs
    have nine : ∀ v ∈ [PyData.tuple prs, .list prs, .tuple (cutG prs none (some (-1))), .tuple (prs ++ cutG prs (some (-1)) none), .tuple (prs.set i (.tuple [.int 1, .int 3])), .tuple (prs.set i (.tuple [.int 2, .int 6])), .tuple (prs.set i (.tuple [.int 0, .int 2])), .none, .tuple []], Va 10000 10 v := by
      have st : ∀ {a b : Int}, a.natAbs ≤ 1000 → b.natAbs ≤ 1000 → Va 10000 10 (.tuple (prs.set i (.tuple [.int a, .int b]))) := fun h g => (Va.tup (vs.set2 (va_two h g) i)).mono (by decide) (by decide)
      simp only [List.mem_cons, List.not_mem_nil, or_false, forall_eq_or_imp, forall_eq]
      exact ⟨vpl.mono (by decide) (by decide), (Va.lst vs).mono (by decide) (by decide), (Va.tup (vs.cut _ _)).mono (by decide) (by decide), (Va.tup (vs.app (vs.cut _ _))).mono (by decide) (by decide), st (by decide) (by decide), st (by decide) (by decide), st (by decide) (by decide), (Va.non (k := 5)).mono (by decide) (by decide), (Va.tup (Vs.nil (k := 4))).mono (by decide) (by decide)⟩
    refine ⟨by have := lcut (some (-1)) none; omega, ?_⟩
    refine ⟨Nat.le_of_ble_eq_true rfl, rfl, ⟨by omega, by omega, by omega⟩, fun d2 hd2 => ?_⟩
    obtain rfl := hd2
    refine ⟨Nat.le_of_ble_eq_true rfl, rfl, ⟨by omega, by omega, by omega⟩, fun d2 hd2 => ?_⟩
    obtain rfl := hd2
    refine ⟨Nat.le_of_ble_eq_true rfl, rfl, ⟨by omega, by omega, by omega⟩, fun d2 hd2 => ?_⟩
    obtain rfl := hd2
    repeat (first | refine ⟨trivial, ?_⟩ | refine ⟨Nat.le_of_ble_eq_true rfl, ?_⟩ | refine ⟨by decide, ?_⟩)
    refine lc_rel (keep := fun _ => true) (q := fun x y => Va 10000 10 y) _ [] (fun d hd R1 R2 hR => ?_) (by rw [rgD_len]; decide) (fun ys hys => ?_)
    · exact ⟨rfl, ⟨by have := vpl.dp; omega, vpl.ok, by have := vpl.mz; omega, o1, by omega, ho⟩, fun d hd => hR _ (Va.mono hd (by have := vpl.mz; omega) (by have := vpl.dp; omega))⟩
    rw [filter_yes] at hys
    have l := hys.len
    rw [rgD_len] at l
    have l5 : ys.length = 5 := l.symm
    have vy := hys.all (r := fun y => Va 10000 10 y) (fun x y h => h)
    refine ⟨by simp; omega, ?_⟩
    refine loop_inv (I := fun _ e => ∃ x7 x8, e = [.pot, .dat (.tuple [.str "house", .tuple ms, .tuple ps]), .dat (.tuple ms), .dat (.list odd), .dat d, .dat (.tuple prs), .dat (.int (i : Int)), x7, x8, x9]) _ 0 _ (fun j v env L2 hd2 hi2 hL2 => ?_) ⟨_, _, rfl⟩ (fun e hi2 => ?_)
    · obtain ⟨y7, y8, rfl⟩ := hi2
      have vv : Va 10000 10 v := by
        rcases List.mem_append.mp (List.mem_of_getElem? hd2) with hz | hz
        · exact nine v hz
        · exact vy v hz
      have sv : Sh v := vv.sh (by decide)
      show wSeq _ _ _ [.pot, .dat (.tuple [.str "house", .tuple ms, .tuple ps]), .dat (.tuple ms), .dat (.list odd), .dat d, .dat (.tuple prs), .dat (.int (i : Int)), .dat v, y8, x9]
      refine asg_to (ev_call (c := .bool (planB ms v)) (ev_cons (ev_var rfl) (ev_cons (ev_var rfl) ev_nil)) rfl ⟨hm, sv⟩ fun _ h => h) ?_
      refine if_no (ne_same (c := .list [.bool (planB ms v), .bool (planB ms v)]) (ev_li (ev_cons (ev_call (ev_cons (ev_var rfl) (ev_cons (ev_var rfl) ev_nil)) rfl ⟨hv, sv⟩ fun _ h => h) (ev_cons (ev_callK (ev_cons (ev_var rfl) (ev_cons (ev_var rfl) ev_nil)) rfl ⟨hv, sv⟩ fun _ h => h) ev_nil)) (Nat.le_of_ble_eq_true rfl)) (ev_li (ev_cons (ev_var rfl) (ev_cons (ev_var rfl) ev_nil)) (Nat.le_of_ble_eq_true rfl)) (sh_two _ _)) ?_
      exact hL2 _ ⟨_, _, rfl⟩
    · obtain ⟨y7, y8, rfl⟩ := hi2
      exact hL _ ⟨_, _, _, _, _, _, rfl⟩
  · obtain ⟨x4, x5, x6, x7, x8, x9, rfl⟩ := hi
    exact rfl
theorem l__law_right (ds : List PyData) (hl : ds.length = 0) : w__law_right { nx := fun _ => F__law_right.post ds .none, rt := F__law_right.post ds } (envP N__law_right ds) := by
  obtain rfl := nil_of hl
  unfold w__law_right
  refine seq_cut (fun e => ∃ ks : List PyData, ks.length ≤ 4 ∧ (∀ k ∈ ks, ∃ i, k = .int i) ∧ e = [.pot, .dat (.list ks), .un, .un]) (fun N hN => ?_) (fun e he => ?_)
  · refine ⟨rfl, ⟨by decide, by decide⟩, ?_⟩
    rintro d ⟨r, rfl, r0, r6⟩
    refine ⟨trivial, ?_⟩
    by_cases c : 0 < r
    · show (if decide (0 < r) = true then _ else _)
      rw [if_pos (by simpa using c)]
      refine ⟨Nat.le_of_ble_eq_true rfl, rfl, ⟨by decide, by decide⟩, ?_⟩
      rintro d ⟨t, rfl, t0, t4⟩
      refine ⟨rfl, ⟨by decide, by omega, by omega⟩, ?_⟩
      rintro d ⟨fs, rfl, lf, hf⟩
      refine hN _ ⟨fs, lf, fun k hk => ?_, rfl⟩
      have := hf k hk
      simp only [List.mem_cons, List.not_mem_nil, or_false] at this
      rcases this with rfl | rfl | rfl | rfl <;> exact ⟨_, rfl⟩
    · show (if decide (0 < r) = true then _ else _)
      rw [if_neg (by simpa using c)]
      exact ⟨Nat.zero_le _, hN _ ⟨[], Nat.zero_le _, fun k hk => absurd hk (List.not_mem_nil), rfl⟩⟩
  obtain ⟨ks, lk, hk, rfl⟩ := he
  refine seq_cut (fun e => ∃ h : PyData, houseB h = true ∧ e = [.pot, .dat (.list ks), .dat h, .un]) (fun N hN => ?_) (fun e he => ?_)
  · refine ⟨Nat.le_of_ble_eq_true rfl, rfl, ⟨by decide, by decide⟩, fun d hd => ?_⟩
    have : ∃ i : Int, d = .int i ∧ 1 ≤ i ∧ i ≤ 31 := by
      rw [pick_post] at hd
      simp only [List.mem_cons, List.not_mem_nil, or_false] at hd
      rcases hd with rfl | rfl | rfl | rfl | rfl <;> exact ⟨_, rfl, by decide, by decide⟩
    obtain ⟨i, rfl, i1, i31⟩ := this
    refine ⟨rfl, ⟨i1, i31, lk, hk⟩, ?_⟩
    rintro h ⟨hh, _⟩
    exact hN _ ⟨h, hh, rfl⟩
  obtain ⟨h, hh, rfl⟩ := he
  have hv := ok_house hh
  have vh := va_house hh
  refine asg_to (ev_repr (ev_bar rfl) vh (by decide) (by decide)) ?_
  refine ⟨rfl, hv, ?_⟩
  rintro d (rfl : d = .bool true)
  refine ⟨rfl, hv, ?_⟩
  rintro d (rfl : d = .bool true)
  refine ⟨rfl, hv, ?_⟩
  rintro d (rfl : d = .bool true)
  exact eqS_same (ev_repr (ev_bar rfl) vh (by decide) (by decide)) (ev_bar rfl) _ rfl
end Hd
/-! text Dr -/
/-! Dr: a new list of new lists of ints. -/
namespace Dl
open PySem PySem.Spec PyProof.Rows L2
structure Rows (H H' : Hp) (D : Addr) (qs : List Addr) (f : Nat → List Nat) : Prop where
  ext : ∀ a o, H a = some o → H' a = some o
  d0 : H D = none
  d : H' D = some (.lst (qs.map V.ref))
  nd : qs.Nodup
  dq : D ∉ qs
  q0 : ∀ q ∈ qs, H q = none
  q : ∀ i q, qs[i]? = some q → H' q = some (.lst ((f i).map fun j => V.int (j : Nat)))
theorem none_back {H H' : Hp} (e : ∀ a o, H a = some o → H' a = some o) {p : Addr} (n : H' p = none) : H p = none := by
  cases z : H p with
  | none => rfl
  | some o =>
    have := e p o z
    rw [n] at this
    cases this
section
variable {K : PySem.W.Frag} {G : Gh} {A B : List Addr} {σ : L2.St} {H H0 H1 H2 H' : Hp} {env : Env} {D : Addr} {qs : List Addr} {f : Nat → List Nat}
theorem Rows.step (R : Rows H H1 D qs f) (e : ∀ a o, H1 a = some o → H2 a = some o) : Rows H H2 D qs f :=
  ⟨fun a o h => e a o (R.ext a o h), R.d0, e _ _ R.d, R.nd, R.dq, R.q0, fun i q h => e _ _ (R.q i q h)⟩
theorem Rows.back (R : Rows H1 H2 D qs f) (e : ∀ a o, H a = some o → H1 a = some o) : Rows H H2 D qs f :=
  ⟨fun a o h => R.ext a o (e a o h), none_back e R.d0, R.d, R.nd, R.dq, fun q h => none_back e (R.q0 q h), R.q⟩
theorem Rows.nil (n : H D = none) : Rows H (upd H D (.lst [])) D [] f :=
  ⟨keep_new n, n, upd_same, List.nodup_nil, List.not_mem_nil, fun q h => absurd h List.not_mem_nil, fun i q h => by cases h⟩
/-- one list more -/
theorem Rows.more (R : Rows H H1 D qs fun _ => []) {p : Addr} (n : H1 p = none) : Rows H (upd (upd H1 p (.lst [])) D (.lst (qs.map V.ref ++ [.ref p]))) D (qs ++ [p]) fun _ => [] := by
  have pD : p ≠ D := fun z => by
    have := R.d
    rw [← z, n] at this
    cases this
  have pq : p ∉ qs := fun h => by
    obtain ⟨i, hi⟩ := List.getElem?_of_mem h
    have := R.q i p hi
    rw [n] at this
    cases this
  refine ⟨fun a o h => ?_, R.d0, ?_, ?_, ?_, ?_, ?_⟩
  · have e1 := R.ext a o h
    have aD : a ≠ D := fun z => by
      rw [z, R.d0] at h
      cases h
    rw [upd_ne aD, upd_ne (ne_of_none e1 n)]
    exact e1
  · rw [upd_same, List.map_append]
    rfl
  · rw [List.nodup_append]
    refine ⟨R.nd, List.nodup_cons.mpr ⟨List.not_mem_nil, .nil⟩, fun a ha b hb => ?_⟩
    rw [List.mem_singleton] at hb
    subst hb
    exact fun z => pq (by rw [← z]; exact ha)
  · intro h
    rcases List.mem_append.mp h with h | h
    · exact R.dq h
    · rw [List.mem_singleton] at h
      exact pD h.symm
  · intro q h
    rcases List.mem_append.mp h with h | h
    · exact R.q0 q h
    · rw [List.mem_singleton] at h
      subst h
      exact none_back R.ext n
  · intro i q h
    have qm : q ∈ qs ++ [p] := List.mem_of_getElem? h
    by_cases z : q = p
    · subst z
      rw [upd_ne pD, upd_same]
      rfl
    · have qq : q ∈ qs := by
        rcases List.mem_append.mp qm with h | h
        · exact h
        · rw [List.mem_singleton] at h
          exact absurd h z
      have qD : q ≠ D := fun e => R.dq (by rw [← e]; exact qq)
      obtain ⟨j, hj⟩ := List.getElem?_of_mem qq
      rw [upd_ne qD, upd_ne z]
      exact R.q j q hj
/-- an int more in one -/
theorem Rows.push (R : Rows H H1 D qs f) {i j : Nat} {q : Addr} (hq : qs[i]? = some q) : Rows H (upd H1 q (.lst ((f i).map (fun j => V.int (j : Nat)) ++ [.int (j : Nat)]))) D qs fun k => f k ++ if k = i then [j] else [] := by
  have qm := List.mem_of_getElem? hq
  refine ⟨fun a o h => ?_, R.d0, ?_, R.nd, R.dq, R.q0, fun k r hr => ?_⟩
  · have ne : a ≠ q := fun z => by
      rw [z, R.q0 q qm] at h
      cases h
    rw [upd_ne ne]
    exact R.ext a o h
  · rw [upd_ne (fun z => R.dq (by rw [z]; exact qm))]
    exact R.d
  · by_cases z : k = i
    · subst z
      rw [hq] at hr
      cases hr
      rw [upd_same, if_pos rfl, List.map_append]
      rfl
    · have ne : r ≠ q := fun e => by
        subst e
        have := (List.getElem?_inj (List.getElem?_eq_some_iff.mp hr).1 R.nd).mp (hr.trans hq.symm)
        exact z this
      rw [upd_ne ne, if_neg z, List.append_nil]
      exact R.q k r hr
theorem Rows.same (R : Rows H H1 D qs f) {g : Nat → List Nat} (e : ∀ i, i < qs.length → f i = g i) : Rows H H1 D qs g :=
  ⟨R.ext, R.d0, R.d, R.nd, R.dq, R.q0, fun i q h => by rw [← e i (List.getElem?_eq_some_iff.mp h).1]; exact R.q i q h⟩
/-- it stands as data -/
theorem Rows.is (R : Rows H H1 D qs f) (al : ∀ a ∈ A, ∃ o, H a = some o) : Is K A H1 (.ref D) (.list ((List.range qs.length).map fun i => .list ((f i).map fun j => .int (j : Nat)))) := by
  have out : ∀ {a : Addr}, H a = none → a ∉ A := fun {a} n h => by
    obtain ⟨o, e⟩ := al a h
    rw [n] at e
    cases e
  refine .lst (out R.d0) R.d ?_
  have intsI : ∀ l : List Nat, IsAll K A H1 (l.map fun j => V.int (j : Nat)) (l.map fun j => PyData.int (j : Nat)) := fun l => by
    induction l with
    | nil => exact .nil
    | cons a l ih => exact .cons (.int _) ih
  have go : ∀ (l : List Addr) (n : Nat), (∀ i q, l[i]? = some q → qs[n + i]? = some q) → IsAll K A H1 (l.map V.ref) ((List.range' n l.length).map fun i => .list ((f i).map fun j => .int (j : Nat))) := fun l => by
    induction l with
    | nil => intro n _; exact .nil
    | cons q l ih =>
      intro n h
      have h0 := h 0 q rfl
      rw [Nat.add_zero] at h0
      rw [List.length_cons, List.range'_succ, List.map_cons, List.map_cons]
      refine .cons (.lst (out (R.q0 q (List.mem_of_getElem? h0))) (R.q n q h0) (intsI _)) (ih (n + 1) fun i r hr => ?_)
      have := h (i + 1) r (by rw [List.getElem?_cons_succ]; exact hr)
      have e : n + 1 + i = n + (i + 1) := by omega
      rw [e]
      exact this
  have := go qs 0 fun i q h => by rw [Nat.zero_add]; exact h
  rw [List.range_eq_range']
  exact this
def NoOwn (env : Env) : Prop := ∀ (i : Nat) (ds : List PyData), env[i]? ≠ some (.own ds)
/-- what may change is stored into -/
theorem MA.poke (m : MA K G A σ H env) (no : NoOwn env) {q : Addr} (hq : q ∈ A) (h0 : G.H0 q = none) (np : some q ≠ G.pp) (u : HO) : MA K G A σ (upd H q u) env ∧ Pres K A H A (upd H q u) := by
  have kk : ∀ a o, a ∉ A → H a = some o → a ∉ A ∧ upd H q u a = some o := fun a o na h => ⟨na, by rw [upd_ne (fun z => na (by rw [z]; exact hq))]; exact h⟩
  refine ⟨⟨m.len, fun j s ej => ?_, m.uni, fun a h => ?_, m.a0, m.h0, fun r er => ⟨(m.pp r er).1, ?_⟩, fun a o na h => ?_⟩, fun v d h => Is.keep kk d v h⟩
  · obtain ⟨x, hx, h⟩ := m.all j s ej
    refine ⟨x, hx, ?_⟩
    cases s with
    | un => trivial
    | dat d =>
      obtain ⟨v, e, h⟩ := h
      exact ⟨v, e, Is.keep kk d v h⟩
    | own fs => exact absurd ej (no j fs)
    | pot => exact h
  · by_cases z : a = q
    · subst z
      exact ⟨_, upd_same⟩
    · obtain ⟨o, h⟩ := m.al a h
      exact ⟨o, by rw [upd_ne z]; exact h⟩
  · obtain ⟨x, y, e2, rr⟩ := (m.pp r er).2
    have ne : r ≠ q := fun z => np (by rw [← z]; exact er.symm)
    exact ⟨x, y, by rw [upd_ne ne]; exact e2, rr⟩
  · have ne : a ≠ q := fun z => by
      subst z
      rw [h0] at h
      cases h
    rw [upd_ne ne]
    exact m.hist a o na h
/-- more that may change: all of it new -/
theorem MA.grow (m : MA K G A σ H env) (no : NoOwn env) (ext : ∀ a o, H a = some o → H1 a = some o) (hB : ∀ b ∈ B, H b = none ∧ ∃ o, H1 b = some o) : MA K G (B ++ A) σ H1 env ∧ Pres K A H (B ++ A) H1 := by
  have kk : ∀ a o, a ∉ A → H a = some o → a ∉ B ++ A ∧ H1 a = some o := fun a o na h => ⟨fun z => by
    rcases List.mem_append.mp z with z | z
    · have := (hB a z).1
      rw [h] at this
      cases this
    · exact na z, ext a o h⟩
  refine ⟨⟨m.len, fun j s ej => ?_, m.uni, fun a h => ?_, fun a h => List.mem_append.mpr (.inr (m.a0 a h)), m.h0, fun r er => ⟨(m.pp r er).1, ?_⟩, fun a o na h => ext a o (m.hist a o na h)⟩, fun v d h => Is.keep kk d v h⟩
  · obtain ⟨x, hx, h⟩ := m.all j s ej
    refine ⟨x, hx, ?_⟩
    cases s with
    | un => trivial
    | dat d =>
      obtain ⟨v, e, h⟩ := h
      exact ⟨v, e, Is.keep kk d v h⟩
    | own fs => exact absurd ej (no j fs)
    | pot => exact h
  · rcases List.mem_append.mp h with h | h
    · exact (hB a h).2
    · obtain ⟨o, h⟩ := m.al a h
      exact ⟨o, ext a o h⟩
  · obtain ⟨x, y, e2, rr⟩ := (m.pp r er).2
    exact ⟨x, y, ext _ _ e2, rr⟩
end
section
variable {X : Cx} {G : Gh}
/-- [[] for x in ..] -/
theorem lc_rows (hpp : G.pp = none) {wi : TI} {i3 : Nat} {vs : List Nat} {di : DA} {n : Nat} (hi : ∀ (A : List Addr) (σ : L2.St) (H : Hp) (env : Env) (P : List PyData → Prop) (R : It → Hp → Prop), MA X.K G A σ H env → di env P →
    (∀ J H' ds, Step G.pp H H' → ItOk X.K J A H' ds → P ds → R J H') → wi σ H R) (sub : i3 ∈ vs) (A : List Addr) (σ : L2.St) (H : Hp) (env : Env) (Q : VK) (m : MA X.K G A σ H env) (hn : n ≤ 100000) (w : di env fun ds => ds.length = n)
    (q : ∀ D H' qs, qs.length = n → Rows H H' D qs (fun _ => []) → Q (.ref D) H') : tLc wi (tGG X.K G [i3] (gN i3)) (tTT X.K G tYesD) (tLst tNil) vs σ H Q := by
  refine hi A σ H env _ _ m w fun J H1 ds s it hl D nD => ?_
  have e1 : ∀ a o, H a = some o → H1 a = some o := fun a o h => s.k a o (by rw [hpp]; exact fun z => by cases z) h
  have m1 := m.step s
  refine ⟨fun i k H' => k = ds.length - i ∧ i ≤ ds.length ∧ ∃ qs, qs.length = i ∧ Rows H1 H' D qs (fun _ => []), ⟨ds.length, by simp, Nat.zero_le _, [], rfl, Rows.nil nD⟩, ?_⟩
  rintro i k H' ⟨rfl, hle, qs, lq, R⟩
  have s2 : Step G.pp H1 H' := Step.of R.ext
  have m2 := m1.step s2
  have m3 := m2.wipe vs
  have ok := it A H' (m1.pres s2) m3.al i
  by_cases lt : i < ds.length
  · right
    have ed : ds[i]? = some ds[i] := List.getElem?_eq_getElem lt
    obtain ⟨go, yld⟩ := ok.1 _ ed
    refine ⟨go, fun H3 => ∃ qs, qs.length = i + 1 ∧ Rows H1 H3 D qs (fun _ => []), fun H3 h => ⟨_, by omega, rfl, lt, h⟩, fun x H'' y => ?_⟩
    obtain ⟨kp, ix⟩ := yld x H'' y
    have sp : Step G.pp H' H'' := Step.of kp
    refine ⟨A, _, _, fun _ => True, m3.step sp, ix, trivial, fun σ2 env2 ag m4 _ => ⟨wipe_agree ag (fun t ht => by rw [List.mem_singleton] at ht; rw [ht]; exact sub), ?_⟩⟩
    refine ⟨A, env2, fun b => b = true, m4, rfl, fun b H3 s3 hb => ?_⟩
    subst hb
    rw [if_pos rfl]
    have e3 : ∀ a o, H'' a = some o → H3 a = some o := fun a o h => s3.k a o (by rw [hpp]; exact fun z => by cases z) h
    have R3 := (R.step kp).step e3
    refine ⟨Nat.zero_le _, fun p np => ⟨qs.map V.ref, ?_, ?_, qs ++ [p], ?_, R3.more np⟩⟩
    · rw [upd_ne (ne_of_none R3.d np)]
      exact R3.d
    · rw [List.length_map]
      exact sz_lt (by omega)
    · rw [List.length_append]
      show qs.length + 1 = i + 1
      omega
  · left
    have e : i = ds.length := by omega
    subst e
    exact ⟨ok.2 (Nat.le_refl _), q D H' qs (by omega) (R.back e1)⟩
/-- found[e].append(j) -/
theorem app_rows {to ta : TE} {A : List Addr} {σ : L2.St} {H0 H : Hp} {D : Addr} {qs : List Addr} {f : Nat → List Nat} {fi i j : Nat} {q : Addr} {Q : VK} (hf : σ[fi]? = some (some (.ref D))) (R : Rows H0 H D qs f) (hq : qs[i]? = some q) (hl : (f i).length ≤ 1000)
    (ho : ∀ Q : VK, (∀ H', (∀ a o, H a = some o → H' a = some o) → Q (.int (i : Nat)) H') → to σ H Q) (hj : ∀ H1, (∀ a o, H a = some o → H1 a = some o) → ∀ Q : VK, (∀ H', (∀ a o, H1 a = some o → H' a = some o) → Q (.int (j : Nat)) H') → ta σ H1 Q)
    (k : ∀ H', (∀ a o, H a = some o → H' a = some o) → Rows H0 H' D qs f → Q .non (upd H' q (.lst ((f i).map (fun j => V.int (j : Nat)) ++ [.int (j : Nat)])))) : tBM X.K "list" rAppend (tOp (rIx X.K) (tVar fi) to) (tCons ta tNil) σ H Q := by
  refine ⟨_, hf, ho _ fun H1 e1 => ?_⟩
  have R1 := R.step e1
  have lt := (List.getElem?_eq_some_iff.mp hq).1
  have at_ : L2.atI (qs.map V.ref) ((i : Nat) : Int) = some (.ref q) := by
    unfold L2.atI L2.ixN
    rw [if_pos (by omega), if_pos (by rw [List.length_map]; omega), Int.toNat_natCast]
    show (qs.map V.ref)[i]? = _
    rw [List.getElem?_map, hq]
    rfl
  refine .inl ⟨D, _, _, .ref q, rfl, rfl, .inl (.inl R1.d), at_, ?_⟩
  refine ⟨.inl ⟨rfl, _, .inl (.inl (R1.q i q hq))⟩, hj H1 e1 _ fun H2 e2 => ?_⟩
  have R2 := R1.step e2
  refine ⟨q, _, .int (j : Nat), rfl, rfl, R2.q i q hq, ?_, k H2 (fun a o h => e2 a o (e1 a o h)) R2⟩
  rw [List.length_map]
  exact sz_lt (by omega)
/-- name = [[] for x in ..] -/
theorem gs_rows {i i3 : Nat} {y : Str} {py lp : Pos} {tg iter : Expr} {scope : Scope} {own : List (Str × Nat)} {pos spos : Pos} {di : DA} (hpp : G.pp = none) (hc : X.calm = true) (hN : X.N.Nodup) (hy : X.N[i]? = some y) (hyl : X.env.scope.names.lookup y = some .local)
    (hsw : swapsWith (.ListComp (.List [] lp) [⟨tg, iter, [], 0⟩] scope pos) (some (.Name y py)) spos.line X.env = pure true) (hi : GI X G tg iter di) (ok : BlkOk X.N X.env.scope scope own)
    (hg : ∀ (s : Shared) (H : Hp) (C : Addr) (cl : List (Str × Addr)) (fp : List Addr), GG (X.blk s H scope (compEnvC scope cl C X.env) fp) G tg [i3] (gN i3)) (sub : i3 ∈ own.map (·.2) := by decide)
    (hs : ∀ x, foldedSetIterable iter X.env x = pure x := by intro _; rfl) : ∃ t, PS X (.Assign [.Name y py] (.ListComp (.List [] lp) [⟨tg, iter, [], 0⟩] scope pos) spos) t ∧ ∀ (A : List Addr) (σ : L2.St) (H : Hp) (env : Env) (D : Ends) (n : Nat), MA X.K G A σ H env → n ≤ 100000 → (di env fun ds => ds.length = n) →
      (∀ Da H' qs, qs.length = n → Rows H H' Da qs (fun _ => []) → D.nx (σ.set i (some (.ref Da))) H') → t D σ H := by
  obtain ⟨wi, pi, hi⟩ := hi
  refine ⟨_, ps_setLc (wi := wi) (g := tGG X.K G [i3] (gN i3)) (tt := tTT X.K G tYesD) (te := tLst tNil) hc hN hy hyl hsw pi ok (fun s H C cl fp => (hg s H C cl fp).canon) (fun _ _ _ _ _ => gpts_nil) (fun _ _ _ _ _ => pe_lst pa_nil) hs, fun A σ H env D n m hn w q => ?_⟩
  exact lc_rows hpp hi sub A σ H env _ m hn w q
/-- for, whatever holds between its turns -/
theorem gs_for_raw {tg iter : Expr} {body : List Stmt} {pos : Pos} {ts : List Nat} {di : DA} {g : DG} {tb : TS} (hp : PassesOwn (model X.prog X.w) X.A X.env X.xe) (hc : X.calm = true) (hi : GI X G tg iter di) (hg : GG X G tg ts g) (pb : PSs X body tb)
    (hs : ∀ x, foldedSetIterable iter X.env x = pure x := by intro _; rfl) : ∃ t, PS X (.For tg iter body [] pos) t ∧ ∀ (A : List Addr) (σ : L2.St) (H : Hp) (env : Env) (D : Ends) (I : Nat → L2.St → Hp → Env → Prop), MA X.K G A σ H env →
      (di env fun ds => (∀ H1, Step G.pp H H1 → I 0 σ H1 env) ∧
        (∀ (j : Nat) (d : PyData) (σ1 : L2.St) (H1 H2 : Hp) (env1 : Env), ds[j]? = some d → I j σ1 H1 env1 → MA X.K G A σ1 H2 env1 → (∀ a o, H1 a = some o → H2 a = some o) → g d env1 fun env2 => ∀ σ2, Agree ts σ1 σ2 → MA X.K G A σ2 H2 env2 →
          ∀ N : L2.St → Hp → Prop, (∀ σ3 H3 env3, Pres X.K A H2 A H3 → MA X.K G A σ3 H3 env3 → I (j + 1) σ3 H3 env3 → N σ3 H3) → tb { D with nx := N, ct := N, bk := D.nx } σ2 H2) ∧
        (∀ σ1 H1 env1, MA X.K G A σ1 H1 env1 → I ds.length σ1 H1 env1 → D.nx σ1 H1)) → t D σ H := by
  obtain ⟨wi, pi, hi⟩ := hi
  obtain ⟨g', pg, hg⟩ := hg
  refine ⟨tFor wi g' tb, ps_for hp hc pi pg pb hs, fun A σ H env D I m hw => ?_⟩
  refine hi A σ H env _ _ m hw fun J H1 ds s it wl => ?_
  obtain ⟨w0, w1, w2⟩ := wl
  have m1 := m.step s
  refine ⟨fun i n σ' H' => n = ds.length - i ∧ i ≤ ds.length ∧ ∃ env', Pres X.K A H1 A H' ∧ MA X.K G A σ' H' env' ∧ I i σ' H' env', ⟨ds.length, by simp, Nat.zero_le _, env, Pres.refl, m1, w0 H1 s⟩, ?_⟩
  rintro i n σ' H' ⟨rfl, hle, env', pr, m', wl'⟩
  have ok := it A H' pr m'.al i
  by_cases lt : i < ds.length
  · right
    have ed : ds[i]? = some ds[i] := List.getElem?_eq_getElem lt
    obtain ⟨go, yld⟩ := ok.1 _ ed
    refine ⟨go, fun σ2 H2 => ∃ env2, Pres X.K A H1 A H2 ∧ MA X.K G A σ2 H2 env2 ∧ I (i + 1) σ2 H2 env2, fun σ2 H2 ⟨env2, p2, m2, w2⟩ => ⟨_, by omega, rfl, lt, env2, p2, m2, w2⟩, fun x H'' y => ?_⟩
    obtain ⟨kp, ix⟩ := yld x H'' y
    have sp : Step G.pp H' H'' := Step.of kp
    refine hg A σ' H'' env' x _ _ _ (m'.step sp) ix (w1 i _ σ' H' H'' env' ed wl' (m'.step sp) kp) fun σ2 env2 ag m2 w2 => ?_
    exact w2 σ2 ag m2 _ fun σ3 H3 env3 p3 m3 i3 => ⟨env3, (pr.trans (m'.pres sp)).trans p3, m3, i3⟩
  · left
    have e : i = ds.length := by omega
    subst e
    exact ⟨ok.2 (Nat.le_refl _), w2 σ' H' env' m' wl'⟩
def SemR (X : Cx) (G : Gh) (i : Nat) (di : DA) (t : TS) : Prop := ∀ (A : List Addr) (σ : L2.St) (H : Hp) (env : Env) (D : Ends) (n : Nat), MA X.K G A σ H env → n ≤ 100000 → (di env fun ds => ds.length = n) →
      (∀ Da H' qs, qs.length = n → Rows H H' Da qs (fun _ => []) → D.nx (σ.set i (some (.ref Da))) H') → t D σ H
def SemF (X : Cx) (G : Gh) (ts : List Nat) (di : DA) (g : DG) (tb : TS) (t : TS) : Prop := ∀ (A : List Addr) (σ : L2.St) (H : Hp) (env : Env) (D : Ends) (I : Nat → L2.St → Hp → Env → Prop), MA X.K G A σ H env →
      (di env fun ds => (∀ H1, Step G.pp H H1 → I 0 σ H1 env) ∧
        (∀ (j : Nat) (d : PyData) (σ1 : L2.St) (H1 H2 : Hp) (env1 : Env), ds[j]? = some d → I j σ1 H1 env1 → MA X.K G A σ1 H2 env1 → (∀ a o, H1 a = some o → H2 a = some o) → g d env1 fun env2 => ∀ σ2, Agree ts σ1 σ2 → MA X.K G A σ2 H2 env2 →
          ∀ N : L2.St → Hp → Prop, (∀ σ3 H3 env3, Pres X.K A H2 A H3 → MA X.K G A σ3 H3 env3 → I (j + 1) σ3 H3 env3 → N σ3 H3) → tb { D with nx := N, ct := N, bk := D.nx } σ2 H2) ∧
        (∀ σ1 H1 env1, MA X.K G A σ1 H1 env1 → I ds.length σ1 H1 env1 → D.nx σ1 H1)) → t D σ H
theorem pss_three {st1 st2 st3 : Stmt} {S1 S2 : TS → Prop} {t3 : TS} (h1 : ∃ t, PS X st1 t ∧ S1 t) (h2 : ∃ t, PS X st2 t ∧ S2 t) (h3 : PS X st3 t3) : ∃ t1 t2, PSs X [st1, st2, st3] (tSeq t1 (tSeq t2 t3)) ∧ S1 t1 ∧ S2 t2 := by
  obtain ⟨t1, p1, s1⟩ := h1
  obtain ⟨t2, p2, s2⟩ := h2
  exact ⟨t1, t2, pss_cons p1 (pss_cons p2 (pss_one h3)), s1, s2⟩
theorem tE_int {K : PySem.W.Frag} {A : List Addr} {σ : L2.St} {H : Hp} {env : Env} {ea : DE} {i : Int} (hpp : G.pp = none) (m : MA K G A σ H env) (w : ea env fun d => d = .int i) (Q : VK) (q : ∀ H', (∀ a o, H a = some o → H' a = some o) → Q (.int i) H') : tE K G ea σ H Q :=
  ⟨A, env, _, m, w, fun v H' d s iv e => by
    subst e
    cases iv
    exact q H' fun a o h => s.k a o (by rw [hpp]; exact fun z => by cases z) h⟩
end
end Dl
/-! text Hp24 -/
namespace Hd
open PySem PySem.Spec PyProof.Rows L2 Dl
def top (i : Nat) : Stmt := PySem.Challenge.pw_spreadhouse_k24_any_value_as_house_promi.main.body.getD i (.Pass ⟨0, 0, 0, 0⟩)
abbrev s_is_integer : Stmt := top 8
abbrev s_is_within : Stmt := top 9
abbrev s_is_row : Stmt := top 10
abbrev s_is_prices : Stmt := top 16
abbrev s_is_moments : Stmt := top 17
abbrev s_is_pay : Stmt := top 18
abbrev s_is_promise_for : Stmt := top 19
abbrev s_is_house : Stmt := top 20
abbrev s_sons_in : Stmt := top 21
abbrev s_ends_in : Stmt := top 22
abbrev s_ahead_in : Stmt := top 23
abbrev s_below_in : Stmt := top 24
abbrev s_is_plain_promise : Stmt := top 25
abbrev s_is_end_promise : Stmt := top 26
abbrev s_want_house : Stmt := top 27
abbrev s_want_moment : Stmt := top 28
abbrev s_want_promise : Stmt := top 29
abbrev s_is_promise : Stmt := top 30
abbrev s_bare_house : Stmt := top 31
abbrev s_sons : Stmt := top 32
abbrev s_ahead : Stmt := top 33
abbrev s_below : Stmt := top 34
abbrev s_ends : Stmt := top 35
abbrev s_courses : Stmt := top 36
abbrev s_depth : Stmt := top 37
abbrev s_is_plain : Stmt := top 38
abbrev s_is_at_ends : Stmt := top 39
abbrev s_is_ratio : Stmt := top 43
abbrev s_is_plan_of : Stmt := top 45
abbrev s_is_plan : Stmt := top 46
abbrev s__law_pot : Stmt := top 48
abbrev s__law_draw : Stmt := top 49
abbrev s__law_pick : Stmt := top 50
abbrev s__law_some : Stmt := top 51
abbrev s__law_gcd : Stmt := top 52
abbrev s__law_low : Stmt := top 53
abbrev s__law_times : Stmt := top 54
abbrev s__law_any_ratio : Stmt := top 55
abbrev s__law_is_whole : Stmt := top 56
abbrev s__law_is_ratio : Stmt := top 57
abbrev s__law_fathers : Stmt := top 58
abbrev s__law_moments : Stmt := top 59
abbrev s__law_balanced : Stmt := top 60
abbrev s__law_any_moments : Stmt := top 61
abbrev s__law_sons : Stmt := top 62
abbrev s__law_ends : Stmt := top 63
abbrev s__law_way : Stmt := top 64
abbrev s__law_pay : Stmt := top 65
abbrev s__law_promise : Stmt := top 66
abbrev s__law_house : Stmt := top 67
abbrev s__law_any_plan : Stmt := top 68
abbrev s__law_is_plan : Stmt := top 69
abbrev s__law_bent : Stmt := top 70
abbrev s__law_is_within : Stmt := top 71
abbrev s__law_are_moments : Stmt := top 72
abbrev s__law_is_pay : Stmt := top 73
abbrev s__law_is_promise : Stmt := top 74
abbrev s__law_is_house : Stmt := top 75
abbrev s__law_put : Stmt := top 76
abbrev s__law_near : Stmt := top 77
abbrev s__law_values_right : Stmt := top 78
abbrev s__law_trees_right : Stmt := top 79
abbrev s__law_plans_right : Stmt := top 80
abbrev s__law_right : Stmt := top 81
abbrev s_law : Stmt := top 82
structure Bn (mg : Str → Option Value) : Prop where
  n_abs : mg "abs" = none
  n_all : mg "all" = none
  n_bool : mg "bool" = none
  n_enumerate : mg "enumerate" = none
  n_int : mg "int" = none
  n_isinstance : mg "isinstance" = none
  n_len : mg "len" = none
  n_list : mg "list" = none
  n_max : mg "max" = none
  n_min : mg "min" = none
  n_range : mg "range" = none
  n_repr : mg "repr" = none
  n_sorted : mg "sorted" = none
  n_str : mg "str" = none
  n_sum : mg "sum" = none
  n_tuple : mg "tuple" = none
  n_zip : mg "zip" = none
structure Cn (K : PySem.W.Frag) (mg : Str → Option Value) : Prop where
  c_MOST_MOMENTS : CnI mg "MOST_MOMENTS" 31
  c_MOST_PRICE : CnI mg "MOST_PRICE" 999
  c_MOST_PAY : CnI mg "MOST_PAY" 999
  c_MOST_PROMISES : CnI mg "MOST_PROMISES" 4
  c_BEYOND : CnI mg "BEYOND" B4
  c_NOUGHT : CnT K mg "NOUGHT" [.int 0, .int 1]
  c_gcd : mg "gcd" = some (.builtin "math.gcd")
end Hd
/-! text Hb24 -/
namespace Hd
open PySem PySem.Spec PyProof.Rows L2 Dl
theorem b_is_integer {P : Program} {w : World} {K : PySem.W.Frag} {mg : Str → Option Value} {base : Heap} (bn : Bn mg) (cn : Cn K mg) {cdv : Value} {A : Around} {outer : List PySem.Env} {s : Shared} {H : Hp} {E : XK} {G : Gh} {f : Addr} {k : Nat} (hg : A.guards = some []) (hr : Room k (A.deeper (envOfC "is_integer" (defScope s_is_integer) s.heap.objs.size f cdv)))  :
    GSs (cxOf CX0 P w K mg base N_is_integer "is_integer" (defScope s_is_integer) f cdv A outer s H E).nox G (defBody s_is_integer) w_is_integer := by
  have nd : (N_is_integer : List Str).Nodup := by decide +kernel
  have hu := hr.units
  exact (gss_one (gs_ret (ge_and (ge_isi (T := "int") (gb_var (i := 0) rfl (Or.inl rfl)) kit_int rfl bn.n_isinstance rfl rfl bn.n_int rfl) (ge_one (ge_not (ge_isi (T := "bool") (gb_var (i := 0) rfl (Or.inl rfl)) kit_bool rfl bn.n_isinstance rfl rfl bn.n_bool rfl))))))
theorem b_is_within {P : Program} {w : World} {K : PySem.W.Frag} {mg : Str → Option Value} {base : Heap} (bn : Bn mg) (cn : Cn K mg) {cdv : Value} {A : Around} {outer : List PySem.Env} {s : Shared} {H : Hp} {E : XK} {G : Gh} {f : Addr} {k : Nat} (hg : A.guards = some []) (hr : Room k (A.deeper (envOfC "is_within" (defScope s_is_within) s.heap.objs.size f cdv))) {k_is_integer : Nat} (h_is_integer : Has P w K mg base k_is_integer "is_integer" s_is_integer ["value"] (spD K F_is_integer)) (l_is_integer : k_is_integer ≤ k) :
    GSs (cxOf CX0 P w K mg base N_is_within "is_within" (defScope s_is_within) f cdv A outer s H E).nox G (defBody s_is_within) w_is_within := by
  have nd : (N_is_within : List Str).Nodup := by decide +kernel
  have hu := hr.units
  exact (gss_one (gs_ret (ge_and (ge_callH h_is_integer l_is_integer hg hr rfl (ga_cons (ge_var (i := 0) rfl (Or.inl rfl)) ga_nil)) (ge_one (ge_ch op_le dr_ci op_le dr_ci (gb_var (i := 1) rfl (Or.inl rfl)) (gb_var (i := 0) rfl (Or.inl rfl)) (gb_var (i := 2) rfl (Or.inl rfl)))))))
theorem b_is_row {P : Program} {w : World} {K : PySem.W.Frag} {mg : Str → Option Value} {base : Heap} (bn : Bn mg) (cn : Cn K mg) {cdv : Value} {A : Around} {outer : List PySem.Env} {s : Shared} {H : Hp} {E : XK} {G : Gh} {f : Addr} {k : Nat} (hg : A.guards = some []) (hr : Room k (A.deeper (envOfC "is_row" (defScope s_is_row) s.heap.objs.size f cdv)))  :
    GSs (cxOf CX0 P w K mg base N_is_row "is_row" (defScope s_is_row) f cdv A outer s H E).nox G (defBody s_is_row) w_is_row := by
  have nd : (N_is_row : List Str).Nodup := by decide +kernel
  have hu := hr.units
  exact (gss_one (gs_ret (ge_and (ge_isi (T := "tuple") (gb_var (i := 0) rfl (Or.inl rfl)) kit_tuple rfl bn.n_isinstance rfl rfl bn.n_tuple rfl) (ge_one (ge_cmp (op_eqD hu) dr_eq (GE.gb (ge_b1 call_len dc_len (gb_var (i := 0) rfl (Or.inl rfl)) rfl bn.n_len rfl)) (gb_var (i := 1) rfl (Or.inl rfl)) (nomark _))))))
theorem b_is_prices {P : Program} {w : World} {K : PySem.W.Frag} {mg : Str → Option Value} {base : Heap} (bn : Bn mg) (cn : Cn K mg) {cdv : Value} {A : Around} {outer : List PySem.Env} {s : Shared} {H : Hp} {E : XK} {G : Gh} {f : Addr} {k : Nat} (hg : A.guards = some []) (hr : Room k (A.deeper (envOfC "is_prices" (defScope s_is_prices) s.heap.objs.size f cdv))) {k_is_row : Nat} (h_is_row : Has P w K mg base k_is_row "is_row" s_is_row ["value", "many"] (spD K F_is_row)) (l_is_row : k_is_row ≤ k) {k_is_within : Nat} (h_is_within : Has P w K mg base k_is_within "is_within" s_is_within ["value", "low", "high"] (spD K F_is_within)) (l_is_within : k_is_within ≤ k) :
    GSs (cxOf CX0 P w K mg base N_is_prices "is_prices" (defScope s_is_prices) f cdv A outer s H E).nox G (defBody s_is_prices) w_is_prices := by
  have nd : (N_is_prices : List Str).Nodup := by decide +kernel
  have hu := hr.units
  exact (gss_cons (gs_if (GW.t (gw_or (gt_not (gt_val (GE.gb (ge_callH h_is_row l_is_row hg hr rfl (ga_cons (ge_var (i := 0) rfl (Or.inl rfl)) (ga_cons ge_int ga_nil)))))) (gw_or (gt_not (gt_val (GE.gb (ge_callH h_is_within l_is_within hg hr rfl (ga_cons (ge_ix ix_seq dr_ix (gb_var (i := 0) rfl (Or.inl rfl)) (GE.gb ge_int) (by intro _ _; rfl)) (ga_cons ge_int (ga_cons (ge_kI cn.c_MOST_PRICE rfl) ga_nil))))))) (gw_or1 (gt_not (gt_val (GE.gb (ge_callH h_is_within l_is_within hg hr rfl (ga_cons (ge_ix ix_seq dr_ix (gb_var (i := 0) rfl (Or.inl rfl)) (GE.gb ge_int) (by intro _ _; rfl)) (ga_cons ge_int (ga_cons (ge_kI cn.c_MOST_PRICE rfl) ga_nil))))))))))) (gss_one (gs_ret ge_bl)) gss_nil)
    (gss_one (gs_ret (ge_cmp op_le dr_ci (GE.gb (ge_ix ix_seq dr_ix (gb_var (i := 0) rfl (Or.inl rfl)) (GE.gb ge_int) (by intro _ _; rfl))) (GE.gb (ge_ix ix_seq dr_ix (gb_var (i := 0) rfl (Or.inl rfl)) (GE.gb ge_int) (by intro _ _; rfl))) (nomark _)))))
theorem b_is_moments {P : Program} {w : World} {K : PySem.W.Frag} {mg : Str → Option Value} {base : Heap} (bn : Bn mg) (cn : Cn K mg) {cdv : Value} {A : Around} {outer : List PySem.Env} {s : Shared} {H : Hp} {E : XK} {G : Gh} {f : Addr} {k : Nat} (hg : A.guards = some []) (hr : Room k (A.deeper (envOfC "is_moments" (defScope s_is_moments) s.heap.objs.size f cdv))) {k_is_row : Nat} (h_is_row : Has P w K mg base k_is_row "is_row" s_is_row ["value", "many"] (spD K F_is_row)) (l_is_row : k_is_row ≤ k) {k_is_within : Nat} (h_is_within : Has P w K mg base k_is_within "is_within" s_is_within ["value", "low", "high"] (spD K F_is_within)) (l_is_within : k_is_within ≤ k) {k_is_prices : Nat} (h_is_prices : Has P w K mg base k_is_prices "is_prices" s_is_prices ["value"] (spD K F_is_prices)) (l_is_prices : k_is_prices ≤ k) :
    GSs (cxOf CX0 P w K mg base N_is_moments "is_moments" (defScope s_is_moments) f cdv A outer s H E).nox G (defBody s_is_moments) w_is_moments := by
  have nd : (N_is_moments : List Str).Nodup := by decide +kernel
  have hu := hr.units
  exact (gss_cons (gs_if (GW.t (gw_or (gt_not (gt_val (GE.gb (ge_isi (T := "tuple") (gb_var (i := 0) rfl (Or.inl rfl)) kit_tuple rfl bn.n_isinstance rfl rfl bn.n_tuple rfl)))) (gw_or1 (gt_not (gt_ch op_le dr_ci op_le dr_ci (GE.gb ge_int) (GE.gb (ge_b1 call_len dc_len (gb_var (i := 0) rfl (Or.inl rfl)) rfl bn.n_len rfl)) (GE.gb (ge_kI cn.c_MOST_MOMENTS rfl))))))) (gss_one (gs_ret ge_bl)) gss_nil)
    (gss_cons (gs_for PassesOwn.never rfl (gi_enumT (ge_var (i := 0) rfl (Or.inl rfl)) rfl bn.n_enumerate) (gg_tup rfl (ggs_cons (gg_name (i := 1) nd rfl (Or.inl rfl)) (ggs_cons (gg_name (i := 2) nd rfl (Or.inl rfl)) ggs_nil))) (gss_one (gs_if (GW.t (gw_or (gt_not (gt_val (GE.gb (ge_callH h_is_row l_is_row hg hr rfl (ga_cons (ge_var (i := 2) rfl (Or.inl rfl)) (ga_cons ge_int ga_nil)))))) (gw_or (gt_not (gt_val (GE.gb (ge_callH h_is_within l_is_within hg hr rfl (ga_cons (ge_ix ix_seq dr_ix (gb_var (i := 2) rfl (Or.inl rfl)) (GE.gb ge_int) (by intro _ _; rfl)) (ga_cons ge_int (ga_cons (ge_b2 (call_max2 rfl) dc_max2 (GE.gb ge_int) (GE.gb (ge_op op_sub dr_sub (gb_var (i := 1) rfl (Or.inl rfl)) (GE.gb ge_int))) rfl bn.n_max rfl) ga_nil))))))) (gw_or1 (gt_not (gt_val (GE.gb (ge_callH h_is_prices l_is_prices hg hr rfl (ga_cons (ge_sl (gb_var (i := 2) rfl (Or.inl rfl)) (go_some (GE.gb ge_int)) go_none) ga_nil))))))))) (gss_one (gs_ret ge_bl)) gss_nil)))
    (gss_one (gs_ret ge_bl))))
theorem b_is_pay {P : Program} {w : World} {K : PySem.W.Frag} {mg : Str → Option Value} {base : Heap} (bn : Bn mg) (cn : Cn K mg) {cdv : Value} {A : Around} {outer : List PySem.Env} {s : Shared} {H : Hp} {E : XK} {G : Gh} {f : Addr} {k : Nat} (hg : A.guards = some []) (hr : Room k (A.deeper (envOfC "is_pay" (defScope s_is_pay) s.heap.objs.size f cdv))) {k_is_row : Nat} (h_is_row : Has P w K mg base k_is_row "is_row" s_is_row ["value", "many"] (spD K F_is_row)) (l_is_row : k_is_row ≤ k) {k_is_within : Nat} (h_is_within : Has P w K mg base k_is_within "is_within" s_is_within ["value", "low", "high"] (spD K F_is_within)) (l_is_within : k_is_within ≤ k) :
    GSs (cxOf CX0 P w K mg base N_is_pay "is_pay" (defScope s_is_pay) f cdv A outer s H E).nox G (defBody s_is_pay) w_is_pay := by
  have nd : (N_is_pay : List Str).Nodup := by decide +kernel
  have hu := hr.units
  exact (gss_one (gs_ret (ge_and (ge_callH h_is_row l_is_row hg hr rfl (ga_cons (ge_var (i := 0) rfl (Or.inl rfl)) (ga_cons ge_int ga_nil))) (ge_one (ge_b1 (cr_all rfl) dc_all (GE.gb (GF.ge (gf_lc (own := [("part", 1)]) rfl nd (gi_tup (ge_var (i := 0) rfl (Or.inl rfl))) (show BlkOk N_is_pay (defScope s_is_pay) _ _ from ⟨rfl, by decide +kernel, by decide +kernel, by decide +kernel, by decide +kernel⟩) (fun _ _ _ _ _ => (gg_name (i := 1) nd rfl (Or.inl rfl))) (fun _ _ _ _ _ => gpts_nil) (fun _ _ _ _ _ => (ge_callH h_is_within l_is_within hg hr rfl (ga_cons (ge_var (i := 1) rfl (Or.inl rfl)) (ga_cons (ge_un un_neg dr_neg (GE.gb (ge_kI cn.c_MOST_PAY rfl))) (ga_cons (ge_kI cn.c_MOST_PAY rfl) ga_nil)))))))) rfl bn.n_all rfl)))))
theorem b_is_promise_for {P : Program} {w : World} {K : PySem.W.Frag} {mg : Str → Option Value} {base : Heap} (bn : Bn mg) (cn : Cn K mg) {cdv : Value} {A : Around} {outer : List PySem.Env} {s : Shared} {H : Hp} {E : XK} {G : Gh} {f : Addr} {k : Nat} (hg : A.guards = some []) (hr : Room k (A.deeper (envOfC "is_promise_for" (defScope s_is_promise_for) s.heap.objs.size f cdv))) {k_is_row : Nat} (h_is_row : Has P w K mg base k_is_row "is_row" s_is_row ["value", "many"] (spD K F_is_row)) (l_is_row : k_is_row ≤ k) {k_ends_in : Nat} (h_ends_in : Has P w K mg base k_ends_in "ends_in" s_ends_in ["moments"] (spD K F_ends_in)) (l_ends_in : k_ends_in ≤ k) {k_is_pay : Nat} (h_is_pay : Has P w K mg base k_is_pay "is_pay" s_is_pay ["value"] (spD K F_is_pay)) (l_is_pay : k_is_pay ≤ k) :
    GSs (cxOf CX0 P w K mg base N_is_promise_for "is_promise_for" (defScope s_is_promise_for) f cdv A outer s H E).nox G (defBody s_is_promise_for) w_is_promise_for := by
  have nd : (N_is_promise_for : List Str).Nodup := by decide +kernel
  have hu := hr.units
  exact (gss_cons (gs_if (gt_not (gt_val (GE.gb (ge_callH h_is_row l_is_row hg hr rfl (ga_cons (ge_var (i := 1) rfl (Or.inl rfl)) (ga_cons (ge_b1 call_len dc_len (gb_var (i := 0) rfl (Or.inl rfl)) rfl bn.n_len rfl) ga_nil)))))) (gss_one (gs_ret ge_bl)) gss_nil)
    (gss_cons (gs_asg (ge_callH h_ends_in l_ends_in hg hr rfl (ga_cons (ge_var (i := 0) rfl (Or.inl rfl)) ga_nil)) (gg_name (i := 2) nd rfl (Or.inl rfl)))
    (gss_cons (gs_for PassesOwn.never rfl (gi_enumT (ge_var (i := 1) rfl (Or.inl rfl)) rfl bn.n_enumerate) (gg_tup rfl (ggs_cons (gg_name (i := 3) nd rfl (Or.inl rfl)) (ggs_cons (gg_name (i := 4) nd rfl (Or.inl rfl)) ggs_nil))) (gss_cons (gs_if (GW.t (gw_or (gt_not (gt_val (GE.gb (ge_callH h_is_row l_is_row hg hr rfl (ga_cons (ge_var (i := 4) rfl (Or.inl rfl)) (ga_cons ge_int ga_nil)))))) (gw_or1 (gt_not (gt_val (GE.gb (ge_b1 (cr_all rfl) dc_all (GE.gb (GF.ge (gf_lc (own := [("part", 5)]) rfl nd (gi_tup (ge_var (i := 4) rfl (Or.inl rfl))) (show BlkOk N_is_promise_for (defScope s_is_promise_for) _ _ from ⟨rfl, by decide +kernel, by decide +kernel, by decide +kernel, by decide +kernel⟩) (fun _ _ _ _ _ => (gg_name (i := 5) nd rfl (Or.inl rfl))) (fun _ _ _ _ _ => gpts_nil) (fun _ _ _ _ _ => (ge_or (ge_cmp op_isN dr_isN (gb_var (i := 5) rfl (Or.inl rfl)) (GE.gb ge_non) (nomark _)) (ge_one (ge_callH h_is_pay l_is_pay hg hr rfl (ga_cons (ge_var (i := 5) rfl (Or.inl rfl)) ga_nil)))))))) rfl bn.n_all rfl))))))) (gss_one (gs_ret ge_bl)) gss_nil)
    (gss_one (gs_if (GW.t (gw_and (gt_cmp op_in_seq dr_in (gb_var (i := 3) rfl (Or.inl rfl)) (gb_var (i := 2) rfl (Or.inl rfl)) rfl) (gw_and1 (GW.t (gw_or (gt_cmp op_isN dr_isN (GE.gb (ge_ix ix_seq dr_ix (gb_var (i := 4) rfl (Or.inl rfl)) (GE.gb ge_int) (by intro _ _; rfl))) (GE.gb ge_non) (nomark _)) (gw_or1 (gt_cmp op_notN dr_notN (GE.gb (ge_ix ix_seq dr_ix (gb_var (i := 4) rfl (Or.inl rfl)) (GE.gb ge_int) (by intro _ _; rfl))) (GE.gb ge_non) (nomark _)))))))) (gss_one (gs_ret ge_bl)) gss_nil))))
    (gss_one (gs_ret ge_bl)))))
theorem b_is_house {P : Program} {w : World} {K : PySem.W.Frag} {mg : Str → Option Value} {base : Heap} (bn : Bn mg) (cn : Cn K mg) {cdv : Value} {A : Around} {outer : List PySem.Env} {s : Shared} {H : Hp} {E : XK} {G : Gh} {f : Addr} {k : Nat} (hg : A.guards = some []) (hr : Room k (A.deeper (envOfC "is_house" (defScope s_is_house) s.heap.objs.size f cdv))) {k_is_row : Nat} (h_is_row : Has P w K mg base k_is_row "is_row" s_is_row ["value", "many"] (spD K F_is_row)) (l_is_row : k_is_row ≤ k) {k_is_moments : Nat} (h_is_moments : Has P w K mg base k_is_moments "is_moments" s_is_moments ["value"] (spD K F_is_moments)) (l_is_moments : k_is_moments ≤ k) {k_is_promise_for : Nat} (h_is_promise_for : Has P w K mg base k_is_promise_for "is_promise_for" s_is_promise_for ["moments", "value"] (spD K F_is_promise_for)) (l_is_promise_for : k_is_promise_for ≤ k) :
    GSs (cxOf CX0 P w K mg base N_is_house "is_house" (defScope s_is_house) f cdv A outer s H E).nox G (defBody s_is_house) w_is_house := by
  have nd : (N_is_house : List Str).Nodup := by decide +kernel
  have hu := hr.units
  exact (gss_cons (gs_if (GW.t (gw_or (gt_not (gt_val (GE.gb (ge_callH h_is_row l_is_row hg hr rfl (ga_cons (ge_var (i := 0) rfl (Or.inr (Or.inl rfl))) (ga_cons ge_int ga_nil)))))) (gw_or (gt_not (gt_val (GE.gb (ge_isi (T := "str") (GE.gb (ge_ix ix_seq dr_ix (gb_var (i := 0) rfl (Or.inr (Or.inl rfl))) (GE.gb ge_int) (by intro _ _; rfl))) kit_str rfl bn.n_isinstance rfl rfl bn.n_str rfl)))) (gw_or (gt_cmp (op_neD hu) dr_ne (GE.gb (ge_ix ix_seq dr_ix (gb_var (i := 0) rfl (Or.inr (Or.inl rfl))) (GE.gb ge_int) (by intro _ _; rfl))) (GE.gb ge_str) (nomark _)) (gw_or1 (gt_not (gt_val (GE.gb (ge_callH h_is_moments l_is_moments hg hr rfl (ga_cons (ge_ix ix_seq dr_ix (gb_var (i := 0) rfl (Or.inr (Or.inl rfl))) (GE.gb ge_int) (by intro _ _; rfl)) ga_nil)))))))))) (gss_one (gs_ret ge_bl)) gss_nil)
    (gss_cons (gs_if (GW.t (gw_or (gt_not (gt_val (GE.gb (ge_isi (T := "tuple") (GE.gb (ge_ix ix_seq dr_ix (gb_var (i := 0) rfl (Or.inr (Or.inl rfl))) (GE.gb ge_int) (by intro _ _; rfl))) kit_tuple rfl bn.n_isinstance rfl rfl bn.n_tuple rfl)))) (gw_or1 (gt_cmp op_gt dr_ci (GE.gb (ge_b1 call_len dc_len (GE.gb (ge_ix ix_seq dr_ix (gb_var (i := 0) rfl (Or.inr (Or.inl rfl))) (GE.gb ge_int) (by intro _ _; rfl))) rfl bn.n_len rfl)) (GE.gb (ge_kI cn.c_MOST_PROMISES rfl)) (nomark _))))) (gss_one (gs_ret ge_bl)) gss_nil)
    (gss_one (gs_ret (ge_b1 (cr_all rfl) dc_all (GE.gb (GF.ge (gf_lc (own := [("promise", 1)]) rfl nd (gi_tup (ge_ix ix_seq dr_ix (gb_var (i := 0) rfl (Or.inr (Or.inl rfl))) (GE.gb ge_int) (by intro _ _; rfl))) (show BlkOk N_is_house (defScope s_is_house) _ _ from ⟨rfl, by decide +kernel, by decide +kernel, by decide +kernel, by decide +kernel⟩) (fun _ _ _ _ _ => (gg_name (i := 1) nd rfl (Or.inl rfl))) (fun _ _ _ _ _ => gpts_nil) (fun _ _ _ _ _ => (ge_callH h_is_promise_for l_is_promise_for hg hr rfl (ga_cons (ge_ix ix_seq dr_ix (gb_var (i := 0) rfl (Or.inr (Or.inl rfl))) (GE.gb ge_int) (by intro _ _; rfl)) (ga_cons (ge_var (i := 1) rfl (Or.inl rfl)) ga_nil))))))) rfl bn.n_all rfl)))))
theorem b_ends_in {P : Program} {w : World} {K : PySem.W.Frag} {mg : Str → Option Value} {base : Heap} (bn : Bn mg) (cn : Cn K mg) {cdv : Value} {A : Around} {outer : List PySem.Env} {s : Shared} {H : Hp} {E : XK} {G : Gh} {f : Addr} {k : Nat} (hg : A.guards = some []) (hr : Room k (A.deeper (envOfC "ends_in" (defScope s_ends_in) s.heap.objs.size f cdv))) {k_sons_in : Nat} (h_sons_in : Has P w K mg base k_sons_in "sons_in" s_sons_in ["moments"] (spD K F_sons_in)) (l_sons_in : k_sons_in ≤ k) :
    GSs (cxOf CX0 P w K mg base N_ends_in "ends_in" (defScope s_ends_in) f cdv A outer s H E).nox G (defBody s_ends_in) w_ends_in := by
  have nd : (N_ends_in : List Str).Nodup := by decide +kernel
  have hu := hr.units
  exact (gss_one (gs_ret (GF.ge (gf_lc (own := [("number", 1), ("some", 2)]) rfl nd (gi_enum (ge_callH h_sons_in l_sons_in hg hr rfl (ga_cons (ge_var (i := 0) rfl (Or.inl rfl)) ga_nil)) rfl bn.n_enumerate) (show BlkOk N_ends_in (defScope s_ends_in) _ _ from ⟨rfl, by decide +kernel, by decide +kernel, by decide +kernel, by decide +kernel⟩) (fun _ _ _ _ _ => (gg_tup rfl (ggs_cons (gg_name (i := 1) nd rfl (Or.inl rfl)) (ggs_cons (gg_name (i := 2) nd rfl (Or.inl rfl)) ggs_nil)))) (fun _ _ _ _ _ => (gpts_one (gt_cmp (op_eqD hu) dr_eq (gb_var (i := 2) rfl (Or.inl rfl)) (GE.gb (ge_lst ga_nil)) (nomark _)))) (fun _ _ _ _ _ => (ge_var (i := 1) rfl (Or.inl rfl)))))))
theorem b_ahead_in {P : Program} {w : World} {K : PySem.W.Frag} {mg : Str → Option Value} {base : Heap} (bn : Bn mg) (cn : Cn K mg) {cdv : Value} {A : Around} {outer : List PySem.Env} {s : Shared} {H : Hp} {E : XK} {G : Gh} {f : Addr} {k : Nat} (hg : A.guards = some []) (hr : Room k (A.deeper (envOfC "ahead_in" (defScope s_ahead_in) s.heap.objs.size f cdv)))  :
    GSs (cxOf CX0 P w K mg base N_ahead_in "ahead_in" (defScope s_ahead_in) f cdv A outer s H E).nox G (defBody s_ahead_in) w_ahead_in := by
  have nd : (N_ahead_in : List Str).Nodup := by decide +kernel
  have hu := hr.units
  exact (gss_cons (gs_own (i := 2) (gf_lst (ga_cons (ge_var (i := 1) rfl (Or.inl rfl)) ga_nil)) nd rfl (Or.inl rfl))
    (gss_cons (gs_while PassesOwn.never (gt_cmp (op_neD hu) dr_ne (GE.gb (ge_ix ix_seq dr_ix (gb_var (i := 2) rfl (Or.inl rfl)) (GE.gb (ge_un un_neg dr_neg (GE.gb ge_int))) (by intro _ _; rfl))) (GE.gb ge_int) (nomark _)) (gss_one (gs_app (i := 2) (ge_ix ix_seq dr_ix (GE.gb (ge_ix ix_seq dr_ix (gb_var (i := 0) rfl (Or.inl rfl)) (GE.gb (ge_ix ix_seq dr_ix (gb_var (i := 2) rfl (Or.inl rfl)) (GE.gb (ge_un un_neg dr_neg (GE.gb ge_int))) (by intro _ _; rfl))) (by intro _ _; rfl))) (GE.gb ge_int) (by intro _ _; rfl)) rfl (Or.inl rfl))))
    (gss_one (gs_ret (ge_rev (gb_var (i := 2) rfl (Or.inl rfl)))))))
theorem b_below_in {P : Program} {w : World} {K : PySem.W.Frag} {mg : Str → Option Value} {base : Heap} (bn : Bn mg) (cn : Cn K mg) {cdv : Value} {A : Around} {outer : List PySem.Env} {s : Shared} {H : Hp} {E : XK} {G : Gh} {f : Addr} {k : Nat} (hg : A.guards = some []) (hr : Room k (A.deeper (envOfC "below_in" (defScope s_below_in) s.heap.objs.size f cdv)))  :
    GSs (cxOf CX0 P w K mg base N_below_in "below_in" (defScope s_below_in) f cdv A outer s H E).nox G (defBody s_below_in) w_below_in := by
  have nd : (N_below_in : List Str).Nodup := by decide +kernel
  have hu := hr.units
  exact (gss_cons (gs_own (i := 2) (gf_lst (ga_cons (ge_var (i := 1) rfl (Or.inl rfl)) ga_nil)) nd rfl (Or.inl rfl))
    (gss_cons (gs_for PassesOwn.never rfl (gi_range2 (ge_op op_addA dr_add (gb_var (i := 1) rfl (Or.inl rfl)) (GE.gb ge_int)) (ge_b1 call_len dc_len (gb_var (i := 0) rfl (Or.inl rfl)) rfl bn.n_len rfl) rfl bn.n_range) (gg_name (i := 3) nd rfl (Or.inl rfl)) (gss_one (gs_if (gt_cmp op_in_seq dr_in (GE.gb (ge_ix ix_seq dr_ix (GE.gb (ge_ix ix_seq dr_ix (gb_var (i := 0) rfl (Or.inl rfl)) (gb_var (i := 3) rfl (Or.inl rfl)) (by intro _ _; rfl))) (GE.gb ge_int) (by intro _ _; rfl))) (gb_var (i := 2) rfl (Or.inl rfl)) rfl) (gss_one (gs_app (i := 2) (ge_var (i := 3) rfl (Or.inl rfl)) rfl (Or.inl rfl))) gss_nil)))
    (gss_one (gs_retO (i := 2) rfl (Or.inl rfl)))))
theorem b_is_plain_promise {P : Program} {w : World} {K : PySem.W.Frag} {mg : Str → Option Value} {base : Heap} (bn : Bn mg) (cn : Cn K mg) {cdv : Value} {A : Around} {outer : List PySem.Env} {s : Shared} {H : Hp} {E : XK} {G : Gh} {f : Addr} {k : Nat} (hg : A.guards = some []) (hr : Room k (A.deeper (envOfC "is_plain_promise" (defScope s_is_plain_promise) s.heap.objs.size f cdv)))  :
    GSs (cxOf CX0 P w K mg base N_is_plain_promise "is_plain_promise" (defScope s_is_plain_promise) f cdv A outer s H E).nox G (defBody s_is_plain_promise) w_is_plain_promise := by
  have nd : (N_is_plain_promise : List Str).Nodup := by decide +kernel
  have hu := hr.units
  exact (gss_one (gs_ret (ge_b1 (cr_all rfl) dc_all (GE.gb (GF.ge (gf_lc (own := [("call", 1), ("back", 2)]) rfl nd (gi_tup (ge_var (i := 0) rfl (Or.inl rfl))) (show BlkOk N_is_plain_promise (defScope s_is_plain_promise) _ _ from ⟨rfl, by decide +kernel, by decide +kernel, by decide +kernel, by decide +kernel⟩) (fun _ _ _ _ _ => (gg_tup rfl (ggs_cons (gg_name (i := 1) nd rfl (Or.inl rfl)) (ggs_cons (gg_name (i := 2) nd rfl (Or.inl rfl)) ggs_nil)))) (fun _ _ _ _ _ => gpts_nil) (fun _ _ _ _ _ => (ge_cmp op_isN dr_isN (gb_var (i := 2) rfl (Or.inl rfl)) (GE.gb ge_non) (nomark _)))))) rfl bn.n_all rfl)))
theorem b_is_end_promise {P : Program} {w : World} {K : PySem.W.Frag} {mg : Str → Option Value} {base : Heap} (bn : Bn mg) (cn : Cn K mg) {cdv : Value} {A : Around} {outer : List PySem.Env} {s : Shared} {H : Hp} {E : XK} {G : Gh} {f : Addr} {k : Nat} (hg : A.guards = some []) (hr : Room k (A.deeper (envOfC "is_end_promise" (defScope s_is_end_promise) s.heap.objs.size f cdv))) {k_ends_in : Nat} (h_ends_in : Has P w K mg base k_ends_in "ends_in" s_ends_in ["moments"] (spD K F_ends_in)) (l_ends_in : k_ends_in ≤ k) {k_is_plain_promise : Nat} (h_is_plain_promise : Has P w K mg base k_is_plain_promise "is_plain_promise" s_is_plain_promise ["promise"] (spD K F_is_plain_promise)) (l_is_plain_promise : k_is_plain_promise ≤ k) :
    GSs (cxOf CX0 P w K mg base N_is_end_promise "is_end_promise" (defScope s_is_end_promise) f cdv A outer s H E).nox G (defBody s_is_end_promise) w_is_end_promise := by
  have nd : (N_is_end_promise : List Str).Nodup := by decide +kernel
  have hu := hr.units
  exact (gss_cons (gs_asg (ge_callH h_ends_in l_ends_in hg hr rfl (ga_cons (ge_var (i := 0) rfl (Or.inl rfl)) ga_nil)) (gg_name (i := 2) nd rfl (Or.inr rfl)))
    (gss_one (gs_ret (ge_and (ge_callH h_is_plain_promise l_is_plain_promise hg hr rfl (ga_cons (ge_var (i := 1) rfl (Or.inl rfl)) ga_nil)) (ge_one (ge_b1 (cr_all rfl) dc_all (GE.gb (GF.ge (gf_lc (own := [("at", 3), ("call", 4), ("back", 5)]) rfl nd (gi_enumT (ge_var (i := 1) rfl (Or.inl rfl)) rfl bn.n_enumerate) (show BlkOk N_is_end_promise (defScope s_is_end_promise) _ _ from ⟨rfl, by decide +kernel, by decide +kernel, by decide +kernel, by decide +kernel⟩) (fun _ _ _ _ _ => (gg_tup rfl (ggs_cons (gg_name (i := 3) nd rfl (Or.inl rfl)) (ggs_cons (gg_tup rfl (ggs_cons (gg_name (i := 4) nd rfl (Or.inl rfl)) (ggs_cons (gg_name (i := 5) nd rfl (Or.inl rfl)) ggs_nil))) ggs_nil)))) (fun _ _ _ _ _ => gpts_nil) (fun _ _ _ _ _ => (ge_or (ge_cmp op_isN dr_isN (gb_var (i := 4) rfl (Or.inl rfl)) (GE.gb ge_non) (nomark _)) (ge_one (ge_cmp op_in_seq dr_in (gb_var (i := 3) rfl (Or.inl rfl)) (gb_var (i := 2) rfl (Or.inr (Or.inl rfl))) rfl))))))) rfl bn.n_all rfl))))))
theorem b_want_house {P : Program} {w : World} {K : PySem.W.Frag} {mg : Str → Option Value} {base : Heap} (bn : Bn mg) (cn : Cn K mg) {cdv : Value} {A : Around} {outer : List PySem.Env} {s : Shared} {H : Hp} {E : XK} {G : Gh} {f : Addr} {k : Nat} (hg : A.guards = some []) (hr : Room k (A.deeper (envOfC "want_house" (defScope s_want_house) s.heap.objs.size f cdv))) {k_is_house : Nat} (h_is_house : Has P w K mg base k_is_house "is_house" s_is_house ["value"] (spD K F_is_house)) (l_is_house : k_is_house ≤ k) :
    GSs (cxOf CX0 P w K mg base N_want_house "want_house" (defScope s_want_house) f cdv A outer s H E).nox G (defBody s_want_house) w_want_house := by
  have nd : (N_want_house : List Str).Nodup := by decide +kernel
  have hu := hr.units
  exact (gss_cons (gs_if (gt_not (gt_val (GE.gb (ge_callH h_is_house l_is_house hg hr rfl (ga_cons (ge_var (i := 0) rfl (Or.inl rfl)) ga_nil))))) (gss_one gs_never) gss_nil)
    (gss_one (gs_ret (ge_var (i := 0) rfl (Or.inl rfl)))))
theorem b_want_moment {P : Program} {w : World} {K : PySem.W.Frag} {mg : Str → Option Value} {base : Heap} (bn : Bn mg) (cn : Cn K mg) {cdv : Value} {A : Around} {outer : List PySem.Env} {s : Shared} {H : Hp} {E : XK} {G : Gh} {f : Addr} {k : Nat} (hg : A.guards = some []) (hr : Room k (A.deeper (envOfC "want_moment" (defScope s_want_moment) s.heap.objs.size f cdv))) {k_is_within : Nat} (h_is_within : Has P w K mg base k_is_within "is_within" s_is_within ["value", "low", "high"] (spD K F_is_within)) (l_is_within : k_is_within ≤ k) :
    GSs (cxOf CX0 P w K mg base N_want_moment "want_moment" (defScope s_want_moment) f cdv A outer s H E).nox G (defBody s_want_moment) w_want_moment := by
  have nd : (N_want_moment : List Str).Nodup := by decide +kernel
  have hu := hr.units
  exact (gss_one (gs_if (gt_not (gt_val (GE.gb (ge_callH h_is_within l_is_within hg hr rfl (ga_cons (ge_var (i := 1) rfl (Or.inl rfl)) (ga_cons ge_int (ga_cons (ge_op op_sub dr_sub (GE.gb (ge_b1 call_len dc_len (GE.gb (ge_ix ix_seq dr_ix (gb_var (i := 0) rfl (Or.inl rfl)) (GE.gb ge_int) (by intro _ _; rfl))) rfl bn.n_len rfl)) (GE.gb ge_int)) ga_nil))))))) (gss_one gs_never) gss_nil))
theorem b_want_promise {P : Program} {w : World} {K : PySem.W.Frag} {mg : Str → Option Value} {base : Heap} (bn : Bn mg) (cn : Cn K mg) {cdv : Value} {A : Around} {outer : List PySem.Env} {s : Shared} {H : Hp} {E : XK} {G : Gh} {f : Addr} {k : Nat} (hg : A.guards = some []) (hr : Room k (A.deeper (envOfC "want_promise" (defScope s_want_promise) s.heap.objs.size f cdv))) {k_is_within : Nat} (h_is_within : Has P w K mg base k_is_within "is_within" s_is_within ["value", "low", "high"] (spD K F_is_within)) (l_is_within : k_is_within ≤ k) :
    GSs (cxOf CX0 P w K mg base N_want_promise "want_promise" (defScope s_want_promise) f cdv A outer s H E).nox G (defBody s_want_promise) w_want_promise := by
  have nd : (N_want_promise : List Str).Nodup := by decide +kernel
  have hu := hr.units
  exact (gss_cons (gs_if (gt_not (gt_val (GE.gb (ge_callH h_is_within l_is_within hg hr rfl (ga_cons (ge_var (i := 1) rfl (Or.inl rfl)) (ga_cons ge_int (ga_cons (ge_op op_sub dr_sub (GE.gb (ge_b1 call_len dc_len (GE.gb (ge_ix ix_seq dr_ix (gb_var (i := 0) rfl (Or.inl rfl)) (GE.gb ge_int) (by intro _ _; rfl))) rfl bn.n_len rfl)) (GE.gb ge_int)) ga_nil))))))) (gss_one gs_never) gss_nil)
    (gss_one (gs_ret (ge_ix ix_seq dr_ix (GE.gb (ge_ix ix_seq dr_ix (gb_var (i := 0) rfl (Or.inl rfl)) (GE.gb ge_int) (by intro _ _; rfl))) (gb_var (i := 1) rfl (Or.inl rfl)) (by intro _ _; rfl)))))
theorem b_is_promise {P : Program} {w : World} {K : PySem.W.Frag} {mg : Str → Option Value} {base : Heap} (bn : Bn mg) (cn : Cn K mg) {cdv : Value} {A : Around} {outer : List PySem.Env} {s : Shared} {H : Hp} {E : XK} {G : Gh} {f : Addr} {k : Nat} (hg : A.guards = some []) (hr : Room k (A.deeper (envOfC "is_promise" (defScope s_is_promise) s.heap.objs.size f cdv))) {k_is_promise_for : Nat} (h_is_promise_for : Has P w K mg base k_is_promise_for "is_promise_for" s_is_promise_for ["moments", "value"] (spD K F_is_promise_for)) (l_is_promise_for : k_is_promise_for ≤ k) {k_want_house : Nat} (h_want_house : Has P w K mg base k_want_house "want_house" s_want_house ["value"] (spD K F_want_house)) (l_want_house : k_want_house ≤ k) :
    GSs (cxOf CX0 P w K mg base N_is_promise "is_promise" (defScope s_is_promise) f cdv A outer s H E).nox G (defBody s_is_promise) w_is_promise := by
  have nd : (N_is_promise : List Str).Nodup := by decide +kernel
  have hu := hr.units
  exact (gss_one (gs_ret (ge_callH h_is_promise_for l_is_promise_for hg hr rfl (ga_cons (ge_ix ix_seq dr_ix (GE.gb (ge_callH h_want_house l_want_house hg hr rfl (ga_cons (ge_var (i := 0) rfl (Or.inl rfl)) ga_nil))) (GE.gb ge_int) (by intro _ _; rfl)) (ga_cons (ge_var (i := 1) rfl (Or.inl rfl)) ga_nil)))))
theorem b_bare_house {P : Program} {w : World} {K : PySem.W.Frag} {mg : Str → Option Value} {base : Heap} (bn : Bn mg) (cn : Cn K mg) {cdv : Value} {A : Around} {outer : List PySem.Env} {s : Shared} {H : Hp} {E : XK} {G : Gh} {f : Addr} {k : Nat} (hg : A.guards = some []) (hr : Room k (A.deeper (envOfC "bare_house" (defScope s_bare_house) s.heap.objs.size f cdv))) {k_is_moments : Nat} (h_is_moments : Has P w K mg base k_is_moments "is_moments" s_is_moments ["value"] (spD K F_is_moments)) (l_is_moments : k_is_moments ≤ k) :
    GSs (cxOf CX0 P w K mg base N_bare_house "bare_house" (defScope s_bare_house) f cdv A outer s H E).nox G (defBody s_bare_house) w_bare_house := by
  have nd : (N_bare_house : List Str).Nodup := by decide +kernel
  have hu := hr.units
  exact (gss_cons (gs_if (gt_not (gt_val (GE.gb (ge_callH h_is_moments l_is_moments hg hr rfl (ga_cons (ge_var (i := 0) rfl (Or.inl rfl)) ga_nil))))) (gss_one gs_never) gss_nil)
    (gss_one (gs_ret (ge_tup (ga_cons ge_str (ga_cons (ge_var (i := 0) rfl (Or.inl rfl)) (ga_cons (ge_tup ga_nil) ga_nil)))))))
theorem b_sons {P : Program} {w : World} {K : PySem.W.Frag} {mg : Str → Option Value} {base : Heap} (bn : Bn mg) (cn : Cn K mg) {cdv : Value} {A : Around} {outer : List PySem.Env} {s : Shared} {H : Hp} {E : XK} {G : Gh} {f : Addr} {k : Nat} (hg : A.guards = some []) (hr : Room k (A.deeper (envOfC "sons" (defScope s_sons) s.heap.objs.size f cdv))) {k_want_moment : Nat} (h_want_moment : Has P w K mg base k_want_moment "want_moment" s_want_moment ["house", "value"] (spD K F_want_moment)) (l_want_moment : k_want_moment ≤ k) {k_want_house : Nat} (h_want_house : Has P w K mg base k_want_house "want_house" s_want_house ["value"] (spD K F_want_house)) (l_want_house : k_want_house ≤ k) {k_sons_in : Nat} (h_sons_in : Has P w K mg base k_sons_in "sons_in" s_sons_in ["moments"] (spD K F_sons_in)) (l_sons_in : k_sons_in ≤ k) :
    GSs (cxOf CX0 P w K mg base N_sons "sons" (defScope s_sons) f cdv A outer s H E).nox G (defBody s_sons) w_sons := by
  have nd : (N_sons : List Str).Nodup := by decide +kernel
  have hu := hr.units
  exact (gss_cons (gs_drop (ge_callH h_want_moment l_want_moment hg hr rfl (ga_cons (ge_callH h_want_house l_want_house hg hr rfl (ga_cons (ge_var (i := 0) rfl (Or.inl rfl)) ga_nil)) (ga_cons (ge_var (i := 1) rfl (Or.inl rfl)) ga_nil))))
    (gss_one (gs_ret (ge_ix ix_seq dr_ix (GE.gb (ge_callH h_sons_in l_sons_in hg hr rfl (ga_cons (ge_ix ix_seq dr_ix (gb_var (i := 0) rfl (Or.inl rfl)) (GE.gb ge_int) (by intro _ _; rfl)) ga_nil))) (gb_var (i := 1) rfl (Or.inl rfl)) (by intro _ _; rfl)))))
theorem b_ahead {P : Program} {w : World} {K : PySem.W.Frag} {mg : Str → Option Value} {base : Heap} (bn : Bn mg) (cn : Cn K mg) {cdv : Value} {A : Around} {outer : List PySem.Env} {s : Shared} {H : Hp} {E : XK} {G : Gh} {f : Addr} {k : Nat} (hg : A.guards = some []) (hr : Room k (A.deeper (envOfC "ahead" (defScope s_ahead) s.heap.objs.size f cdv))) {k_want_moment : Nat} (h_want_moment : Has P w K mg base k_want_moment "want_moment" s_want_moment ["house", "value"] (spD K F_want_moment)) (l_want_moment : k_want_moment ≤ k) {k_want_house : Nat} (h_want_house : Has P w K mg base k_want_house "want_house" s_want_house ["value"] (spD K F_want_house)) (l_want_house : k_want_house ≤ k) {k_ahead_in : Nat} (h_ahead_in : Has P w K mg base k_ahead_in "ahead_in" s_ahead_in ["moments", "moment"] (spD K F_ahead_in)) (l_ahead_in : k_ahead_in ≤ k) :
    GSs (cxOf CX0 P w K mg base N_ahead "ahead" (defScope s_ahead) f cdv A outer s H E).nox G (defBody s_ahead) w_ahead := by
  have nd : (N_ahead : List Str).Nodup := by decide +kernel
  have hu := hr.units
  exact (gss_cons (gs_drop (ge_callH h_want_moment l_want_moment hg hr rfl (ga_cons (ge_callH h_want_house l_want_house hg hr rfl (ga_cons (ge_var (i := 0) rfl (Or.inl rfl)) ga_nil)) (ga_cons (ge_var (i := 1) rfl (Or.inl rfl)) ga_nil))))
    (gss_one (gs_ret (ge_callH h_ahead_in l_ahead_in hg hr rfl (ga_cons (ge_ix ix_seq dr_ix (gb_var (i := 0) rfl (Or.inl rfl)) (GE.gb ge_int) (by intro _ _; rfl)) (ga_cons (ge_var (i := 1) rfl (Or.inl rfl)) ga_nil))))))
theorem b_below {P : Program} {w : World} {K : PySem.W.Frag} {mg : Str → Option Value} {base : Heap} (bn : Bn mg) (cn : Cn K mg) {cdv : Value} {A : Around} {outer : List PySem.Env} {s : Shared} {H : Hp} {E : XK} {G : Gh} {f : Addr} {k : Nat} (hg : A.guards = some []) (hr : Room k (A.deeper (envOfC "below" (defScope s_below) s.heap.objs.size f cdv))) {k_want_moment : Nat} (h_want_moment : Has P w K mg base k_want_moment "want_moment" s_want_moment ["house", "value"] (spD K F_want_moment)) (l_want_moment : k_want_moment ≤ k) {k_want_house : Nat} (h_want_house : Has P w K mg base k_want_house "want_house" s_want_house ["value"] (spD K F_want_house)) (l_want_house : k_want_house ≤ k) {k_below_in : Nat} (h_below_in : Has P w K mg base k_below_in "below_in" s_below_in ["moments", "moment"] (spD K F_below_in)) (l_below_in : k_below_in ≤ k) :
    GSs (cxOf CX0 P w K mg base N_below "below" (defScope s_below) f cdv A outer s H E).nox G (defBody s_below) w_below := by
  have nd : (N_below : List Str).Nodup := by decide +kernel
  have hu := hr.units
  exact (gss_cons (gs_drop (ge_callH h_want_moment l_want_moment hg hr rfl (ga_cons (ge_callH h_want_house l_want_house hg hr rfl (ga_cons (ge_var (i := 0) rfl (Or.inl rfl)) ga_nil)) (ga_cons (ge_var (i := 1) rfl (Or.inl rfl)) ga_nil))))
    (gss_one (gs_ret (ge_callH h_below_in l_below_in hg hr rfl (ga_cons (ge_ix ix_seq dr_ix (gb_var (i := 0) rfl (Or.inl rfl)) (GE.gb ge_int) (by intro _ _; rfl)) (ga_cons (ge_var (i := 1) rfl (Or.inl rfl)) ga_nil))))))
theorem b_ends {P : Program} {w : World} {K : PySem.W.Frag} {mg : Str → Option Value} {base : Heap} (bn : Bn mg) (cn : Cn K mg) {cdv : Value} {A : Around} {outer : List PySem.Env} {s : Shared} {H : Hp} {E : XK} {G : Gh} {f : Addr} {k : Nat} (hg : A.guards = some []) (hr : Room k (A.deeper (envOfC "ends" (defScope s_ends) s.heap.objs.size f cdv))) {k_ends_in : Nat} (h_ends_in : Has P w K mg base k_ends_in "ends_in" s_ends_in ["moments"] (spD K F_ends_in)) (l_ends_in : k_ends_in ≤ k) {k_want_house : Nat} (h_want_house : Has P w K mg base k_want_house "want_house" s_want_house ["value"] (spD K F_want_house)) (l_want_house : k_want_house ≤ k) :
    GSs (cxOf CX0 P w K mg base N_ends "ends" (defScope s_ends) f cdv A outer s H E).nox G (defBody s_ends) w_ends := by
  have nd : (N_ends : List Str).Nodup := by decide +kernel
  have hu := hr.units
  exact (gss_one (gs_ret (ge_callH h_ends_in l_ends_in hg hr rfl (ga_cons (ge_ix ix_seq dr_ix (GE.gb (ge_callH h_want_house l_want_house hg hr rfl (ga_cons (ge_var (i := 0) rfl (Or.inl rfl)) ga_nil))) (GE.gb ge_int) (by intro _ _; rfl)) ga_nil))))
theorem b_courses {P : Program} {w : World} {K : PySem.W.Frag} {mg : Str → Option Value} {base : Heap} (bn : Bn mg) (cn : Cn K mg) {cdv : Value} {A : Around} {outer : List PySem.Env} {s : Shared} {H : Hp} {E : XK} {G : Gh} {f : Addr} {k : Nat} (hg : A.guards = some []) (hr : Room k (A.deeper (envOfC "courses" (defScope s_courses) s.heap.objs.size f cdv))) {k_ends_in : Nat} (h_ends_in : Has P w K mg base k_ends_in "ends_in" s_ends_in ["moments"] (spD K F_ends_in)) (l_ends_in : k_ends_in ≤ k) {k_want_house : Nat} (h_want_house : Has P w K mg base k_want_house "want_house" s_want_house ["value"] (spD K F_want_house)) (l_want_house : k_want_house ≤ k) {k_ahead_in : Nat} (h_ahead_in : Has P w K mg base k_ahead_in "ahead_in" s_ahead_in ["moments", "moment"] (spD K F_ahead_in)) (l_ahead_in : k_ahead_in ≤ k) :
    GSs (cxOf CX0 P w K mg base N_courses "courses" (defScope s_courses) f cdv A outer s H E).nox G (defBody s_courses) w_courses := by
  have nd : (N_courses : List Str).Nodup := by decide +kernel
  have hu := hr.units
  exact (gss_one (gs_ret (ge_b1 (call_srt hr) dc_srt (GE.gb (GF.ge (gf_lc (own := [("end", 1)]) rfl nd (gi_list (ge_callH h_ends_in l_ends_in hg hr rfl (ga_cons (ge_ix ix_seq dr_ix (GE.gb (ge_callH h_want_house l_want_house hg hr rfl (ga_cons (ge_var (i := 0) rfl (Or.inr (Or.inl rfl))) ga_nil))) (GE.gb ge_int) (by intro _ _; rfl)) ga_nil))) (show BlkOk N_courses (defScope s_courses) _ _ from ⟨rfl, by decide +kernel, by decide +kernel, by decide +kernel, by decide +kernel⟩) (fun _ _ _ _ _ => (gg_name (i := 1) nd rfl (Or.inl rfl))) (fun _ _ _ _ _ => gpts_nil) (fun _ _ _ _ _ => (ge_callH h_ahead_in l_ahead_in hg hr rfl (ga_cons (ge_ix ix_seq dr_ix (gb_var (i := 0) rfl (Or.inr (Or.inl rfl))) (GE.gb ge_int) (by intro _ _; rfl)) (ga_cons (ge_var (i := 1) rfl (Or.inl rfl)) ga_nil))))))) rfl bn.n_sorted rfl)))
theorem b_depth {P : Program} {w : World} {K : PySem.W.Frag} {mg : Str → Option Value} {base : Heap} (bn : Bn mg) (cn : Cn K mg) {cdv : Value} {A : Around} {outer : List PySem.Env} {s : Shared} {H : Hp} {E : XK} {G : Gh} {f : Addr} {k : Nat} (hg : A.guards = some []) (hr : Room k (A.deeper (envOfC "depth" (defScope s_depth) s.heap.objs.size f cdv))) {k_ahead : Nat} (h_ahead : Has P w K mg base k_ahead "ahead" s_ahead ["house", "moment"] (spD K F_ahead)) (l_ahead : k_ahead ≤ k) :
    GSs (cxOf CX0 P w K mg base N_depth "depth" (defScope s_depth) f cdv A outer s H E).nox G (defBody s_depth) w_depth := by
  have nd : (N_depth : List Str).Nodup := by decide +kernel
  have hu := hr.units
  exact (gss_one (gs_ret (ge_op op_sub dr_sub (GE.gb (ge_b1 call_len dc_len (GE.gb (ge_callH h_ahead l_ahead hg hr rfl (ga_cons (ge_var (i := 0) rfl (Or.inl rfl)) (ga_cons (ge_var (i := 1) rfl (Or.inl rfl)) ga_nil)))) rfl bn.n_len rfl)) (GE.gb ge_int))))
theorem b_is_plain {P : Program} {w : World} {K : PySem.W.Frag} {mg : Str → Option Value} {base : Heap} (bn : Bn mg) (cn : Cn K mg) {cdv : Value} {A : Around} {outer : List PySem.Env} {s : Shared} {H : Hp} {E : XK} {G : Gh} {f : Addr} {k : Nat} (hg : A.guards = some []) (hr : Room k (A.deeper (envOfC "is_plain" (defScope s_is_plain) s.heap.objs.size f cdv))) {k_is_plain_promise : Nat} (h_is_plain_promise : Has P w K mg base k_is_plain_promise "is_plain_promise" s_is_plain_promise ["promise"] (spD K F_is_plain_promise)) (l_is_plain_promise : k_is_plain_promise ≤ k) {k_want_promise : Nat} (h_want_promise : Has P w K mg base k_want_promise "want_promise" s_want_promise ["house", "value"] (spD K F_want_promise)) (l_want_promise : k_want_promise ≤ k) {k_want_house : Nat} (h_want_house : Has P w K mg base k_want_house "want_house" s_want_house ["value"] (spD K F_want_house)) (l_want_house : k_want_house ≤ k) :
    GSs (cxOf CX0 P w K mg base N_is_plain "is_plain" (defScope s_is_plain) f cdv A outer s H E).nox G (defBody s_is_plain) w_is_plain := by
  have nd : (N_is_plain : List Str).Nodup := by decide +kernel
  have hu := hr.units
  exact (gss_one (gs_ret (ge_callH h_is_plain_promise l_is_plain_promise hg hr rfl (ga_cons (ge_callH h_want_promise l_want_promise hg hr rfl (ga_cons (ge_callH h_want_house l_want_house hg hr rfl (ga_cons (ge_var (i := 0) rfl (Or.inl rfl)) ga_nil)) (ga_cons (ge_var (i := 1) rfl (Or.inl rfl)) ga_nil))) ga_nil))))
theorem b_is_at_ends {P : Program} {w : World} {K : PySem.W.Frag} {mg : Str → Option Value} {base : Heap} (bn : Bn mg) (cn : Cn K mg) {cdv : Value} {A : Around} {outer : List PySem.Env} {s : Shared} {H : Hp} {E : XK} {G : Gh} {f : Addr} {k : Nat} (hg : A.guards = some []) (hr : Room k (A.deeper (envOfC "is_at_ends" (defScope s_is_at_ends) s.heap.objs.size f cdv))) {k_want_promise : Nat} (h_want_promise : Has P w K mg base k_want_promise "want_promise" s_want_promise ["house", "value"] (spD K F_want_promise)) (l_want_promise : k_want_promise ≤ k) {k_want_house : Nat} (h_want_house : Has P w K mg base k_want_house "want_house" s_want_house ["value"] (spD K F_want_house)) (l_want_house : k_want_house ≤ k) {k_is_end_promise : Nat} (h_is_end_promise : Has P w K mg base k_is_end_promise "is_end_promise" s_is_end_promise ["moments", "promise"] (spD K F_is_end_promise)) (l_is_end_promise : k_is_end_promise ≤ k) :
    GSs (cxOf CX0 P w K mg base N_is_at_ends "is_at_ends" (defScope s_is_at_ends) f cdv A outer s H E).nox G (defBody s_is_at_ends) w_is_at_ends := by
  have nd : (N_is_at_ends : List Str).Nodup := by decide +kernel
  have hu := hr.units
  exact (gss_cons (gs_asg (ge_callH h_want_promise l_want_promise hg hr rfl (ga_cons (ge_callH h_want_house l_want_house hg hr rfl (ga_cons (ge_var (i := 0) rfl (Or.inl rfl)) ga_nil)) (ga_cons (ge_var (i := 1) rfl (Or.inl rfl)) ga_nil))) (gg_name (i := 2) nd rfl (Or.inl rfl)))
    (gss_one (gs_ret (ge_callH h_is_end_promise l_is_end_promise hg hr rfl (ga_cons (ge_ix ix_seq dr_ix (gb_var (i := 0) rfl (Or.inl rfl)) (GE.gb ge_int) (by intro _ _; rfl)) (ga_cons (ge_var (i := 2) rfl (Or.inl rfl)) ga_nil))))))
theorem b_is_ratio {P : Program} {w : World} {K : PySem.W.Frag} {mg : Str → Option Value} {base : Heap} (bn : Bn mg) (cn : Cn K mg) {cdv : Value} {A : Around} {outer : List PySem.Env} {s : Shared} {H : Hp} {E : XK} {G : Gh} {f : Addr} {k : Nat} (hg : A.guards = some []) (hr : Room k (A.deeper (envOfC "is_ratio" (defScope s_is_ratio) s.heap.objs.size f cdv))) {k_is_row : Nat} (h_is_row : Has P w K mg base k_is_row "is_row" s_is_row ["value", "many"] (spD K F_is_row)) (l_is_row : k_is_row ≤ k) {k_is_integer : Nat} (h_is_integer : Has P w K mg base k_is_integer "is_integer" s_is_integer ["value"] (spD K F_is_integer)) (l_is_integer : k_is_integer ≤ k) :
    GSs (cxOf CX0 P w K mg base N_is_ratio "is_ratio" (defScope s_is_ratio) f cdv A outer s H E).nox G (defBody s_is_ratio) w_is_ratio := by
  have nd : (N_is_ratio : List Str).Nodup := by decide +kernel
  have hu := hr.units
  exact (gss_cons (gs_if (GW.t (gw_or (gt_not (gt_val (GE.gb (ge_callH h_is_row l_is_row hg hr rfl (ga_cons (ge_var (i := 0) rfl (Or.inl rfl)) (ga_cons ge_int ga_nil)))))) (gw_or (gt_not (gt_val (GE.gb (ge_callH h_is_integer l_is_integer hg hr rfl (ga_cons (ge_ix ix_seq dr_ix (gb_var (i := 0) rfl (Or.inl rfl)) (GE.gb ge_int) (by intro _ _; rfl)) ga_nil))))) (gw_or1 (gt_not (gt_val (GE.gb (ge_callH h_is_integer l_is_integer hg hr rfl (ga_cons (ge_ix ix_seq dr_ix (gb_var (i := 0) rfl (Or.inl rfl)) (GE.gb ge_int) (by intro _ _; rfl)) ga_nil))))))))) (gss_one (gs_ret ge_bl)) gss_nil)
    (gss_one (gs_ret (ge_and (ge_ch op_lt dr_ci op_lt dr_ci (GE.gb ge_int) (GE.gb (ge_ix ix_seq dr_ix (gb_var (i := 0) rfl (Or.inl rfl)) (GE.gb ge_int) (by intro _ _; rfl))) (GE.gb (ge_kI cn.c_BEYOND rfl))) (ge_and (ge_ch op_lt dr_ci op_lt dr_ci (GE.gb (ge_un un_neg dr_neg (GE.gb (ge_kI cn.c_BEYOND rfl)))) (GE.gb (ge_ix ix_seq dr_ix (gb_var (i := 0) rfl (Or.inl rfl)) (GE.gb ge_int) (by intro _ _; rfl))) (GE.gb (ge_kI cn.c_BEYOND rfl))) (ge_one (ge_cmp (op_eqD hu) dr_eq (GE.gb (ge_g2 cr_gcd dc_gcd (GE.gb (ge_ix ix_seq dr_ix (gb_var (i := 0) rfl (Or.inl rfl)) (GE.gb ge_int) (by intro _ _; rfl))) (GE.gb (ge_ix ix_seq dr_ix (gb_var (i := 0) rfl (Or.inl rfl)) (GE.gb ge_int) (by intro _ _; rfl))) rfl cn.c_gcd)) (GE.gb ge_int) (nomark _))))))))
theorem b_is_plan_of {P : Program} {w : World} {K : PySem.W.Frag} {mg : Str → Option Value} {base : Heap} (bn : Bn mg) (cn : Cn K mg) {cdv : Value} {A : Around} {outer : List PySem.Env} {s : Shared} {H : Hp} {E : XK} {G : Gh} {f : Addr} {k : Nat} (hg : A.guards = some []) (hr : Room k (A.deeper (envOfC "is_plan_of" (defScope s_is_plan_of) s.heap.objs.size f cdv))) {k_is_row : Nat} (h_is_row : Has P w K mg base k_is_row "is_row" s_is_row ["value", "many"] (spD K F_is_row)) (l_is_row : k_is_row ≤ k) {k_is_ratio : Nat} (h_is_ratio : Has P w K mg base k_is_ratio "is_ratio" s_is_ratio ["value"] (spD K F_is_ratio)) (l_is_ratio : k_is_ratio ≤ k) {k_ends_in : Nat} (h_ends_in : Has P w K mg base k_ends_in "ends_in" s_ends_in ["moments"] (spD K F_ends_in)) (l_ends_in : k_ends_in ≤ k) :
    GSs (cxOf CX0 P w K mg base N_is_plan_of "is_plan_of" (defScope s_is_plan_of) f cdv A outer s H E).nox G (defBody s_is_plan_of) w_is_plan_of := by
  have nd : (N_is_plan_of : List Str).Nodup := by decide +kernel
  have hu := hr.units
  exact (gss_cons (gs_if (GW.t (gw_or (gt_not (gt_val (GE.gb (ge_callH h_is_row l_is_row hg hr rfl (ga_cons (ge_var (i := 1) rfl (Or.inr (Or.inl rfl))) (ga_cons (ge_b1 call_len dc_len (gb_var (i := 0) rfl (Or.inl rfl)) rfl bn.n_len rfl) ga_nil)))))) (gw_or1 (gt_not (gt_val (GE.gb (ge_b1 (cr_all rfl) dc_all (GE.gb (GF.ge (gf_lc (own := [("ratio", 3)]) rfl nd (gi_tup (ge_var (i := 1) rfl (Or.inr (Or.inl rfl)))) (show BlkOk N_is_plan_of (defScope s_is_plan_of) _ _ from ⟨rfl, by decide +kernel, by decide +kernel, by decide +kernel, by decide +kernel⟩) (fun _ _ _ _ _ => (gg_name (i := 3) nd rfl (Or.inl rfl))) (fun _ _ _ _ _ => gpts_nil) (fun _ _ _ _ _ => (ge_callH h_is_ratio l_is_ratio hg hr rfl (ga_cons (ge_var (i := 3) rfl (Or.inl rfl)) ga_nil)))))) rfl bn.n_all rfl))))))) (gss_one (gs_ret ge_bl)) gss_nil)
    (gss_one (gs_ret (ge_b1 (cr_all rfl) dc_all (GE.gb (GF.ge (gf_lc (own := [("end", 2)]) rfl nd (gi_list (ge_callH h_ends_in l_ends_in hg hr rfl (ga_cons (ge_var (i := 0) rfl (Or.inl rfl)) ga_nil))) (show BlkOk N_is_plan_of (defScope s_is_plan_of) _ _ from ⟨rfl, by decide +kernel, by decide +kernel, by decide +kernel, by decide +kernel⟩) (fun _ _ _ _ _ => (gg_name (i := 2) nd rfl (Or.inl rfl))) (fun _ _ _ _ _ => gpts_nil) (fun _ _ _ _ _ => (ge_cmp (op_eqD hu) dr_eq (GE.gb (ge_ix ix_seq dr_ix (gb_var (i := 1) rfl (Or.inr (Or.inl rfl))) (gb_var (i := 2) rfl (Or.inl rfl)) (by intro _ _; rfl))) (GE.gb (ge_kT cn.c_NOUGHT rfl)) (nomark _)))))) rfl bn.n_all rfl))))
theorem b_is_plan {P : Program} {w : World} {K : PySem.W.Frag} {mg : Str → Option Value} {base : Heap} (bn : Bn mg) (cn : Cn K mg) {cdv : Value} {A : Around} {outer : List PySem.Env} {s : Shared} {H : Hp} {E : XK} {G : Gh} {f : Addr} {k : Nat} (hg : A.guards = some []) (hr : Room k (A.deeper (envOfC "is_plan" (defScope s_is_plan) s.heap.objs.size f cdv))) {k_is_plan_of : Nat} (h_is_plan_of : Has P w K mg base k_is_plan_of "is_plan_of" s_is_plan_of ["moments", "value"] (spD K F_is_plan_of)) (l_is_plan_of : k_is_plan_of ≤ k) {k_want_house : Nat} (h_want_house : Has P w K mg base k_want_house "want_house" s_want_house ["value"] (spD K F_want_house)) (l_want_house : k_want_house ≤ k) :
    GSs (cxOf CX0 P w K mg base N_is_plan "is_plan" (defScope s_is_plan) f cdv A outer s H E).nox G (defBody s_is_plan) w_is_plan := by
  have nd : (N_is_plan : List Str).Nodup := by decide +kernel
  have hu := hr.units
  exact (gss_one (gs_ret (ge_callH h_is_plan_of l_is_plan_of hg hr rfl (ga_cons (ge_ix ix_seq dr_ix (GE.gb (ge_callH h_want_house l_want_house hg hr rfl (ga_cons (ge_var (i := 0) rfl (Or.inl rfl)) ga_nil))) (GE.gb ge_int) (by intro _ _; rfl)) (ga_cons (ge_var (i := 1) rfl (Or.inl rfl)) ga_nil)))))
theorem b__law_pick {P : Program} {w : World} {K : PySem.W.Frag} {mg : Str → Option Value} {base : Heap} (bn : Bn mg) (cn : Cn K mg) {cdv : Value} {A : Around} {outer : List PySem.Env} {s : Shared} {H : Hp} {E : XK} {G : Gh} {f : Addr} {k : Nat} (hg : A.guards = some []) (hr : Room k (A.deeper (envOfC "_law_pick" (defScope s__law_pick) s.heap.objs.size f cdv))) {k__law_draw : Nat} (h__law_draw : Has P w K mg base k__law_draw "_law_draw" s__law_draw ["pot", "many"] (spP K F__law_draw)) (l__law_draw : k__law_draw ≤ k) :
    GSs (cxOf CX0 P w K mg base N__law_pick "_law_pick" (defScope s__law_pick) f cdv A outer s H E).nox G (defBody s__law_pick) w__law_pick := by
  have nd : (N__law_pick : List Str).Nodup := by decide +kernel
  have hu := hr.units
  exact (gss_one (gs_ret (ge_ix ix_seq dr_ix (gb_var (i := 1) rfl (Or.inl rfl)) (GE.gb (ge_callPH (i := 0) h__law_draw l__law_draw hg hr rfl rfl (Or.inl rfl) (ga_cons (ge_b1 call_len dc_len (gb_var (i := 1) rfl (Or.inl rfl)) rfl bn.n_len rfl) ga_nil))) (by intro _ _; rfl))))
theorem b__law_some {P : Program} {w : World} {K : PySem.W.Frag} {mg : Str → Option Value} {base : Heap} (bn : Bn mg) (cn : Cn K mg) {cdv : Value} {A : Around} {outer : List PySem.Env} {s : Shared} {H : Hp} {E : XK} {G : Gh} {f : Addr} {k : Nat} (hg : A.guards = some []) (hr : Room k (A.deeper (envOfC "_law_some" (defScope s__law_some) s.heap.objs.size f cdv))) {k__law_draw : Nat} (h__law_draw : Has P w K mg base k__law_draw "_law_draw" s__law_draw ["pot", "many"] (spP K F__law_draw)) (l__law_draw : k__law_draw ≤ k) :
    GSs (cxOf CX0 P w K mg base N__law_some "_law_some" (defScope s__law_some) f cdv A outer s H E).nox G (defBody s__law_some) w__law_some := by
  have nd : (N__law_some : List Str).Nodup := by decide +kernel
  have hu := hr.units
  exact (gss_cons (gs_own (i := 3) (gf_list (gb_var (i := 1) rfl (Or.inl rfl)) rfl bn.n_list rfl) nd rfl (Or.inl rfl))
    (gss_cons (gs_for PassesOwn.never rfl (gi_range1 (ge_b2 (call_max2 rfl) dc_max2 (GE.gb ge_int) (GE.gb (ge_op op_sub dr_sub (GE.gb (ge_b1 call_len dc_len (gb_var (i := 1) rfl (Or.inl rfl)) rfl bn.n_len rfl)) (GE.gb (ge_b2 (call_max2 rfl) dc_max2 (GE.gb ge_int) (gb_var (i := 2) rfl (Or.inl rfl)) rfl bn.n_max rfl)))) rfl bn.n_max rfl) rfl bn.n_range) (gg_name (i := 4) nd rfl (Or.inl rfl)) (gss_one (gs_pop (i := 3) (ge_callPH (i := 0) h__law_draw l__law_draw hg hr rfl rfl (Or.inl rfl) (ga_cons (ge_b1 call_len dc_len (gb_var (i := 3) rfl (Or.inl rfl)) rfl bn.n_len rfl) ga_nil)) rfl (Or.inl rfl))))
    (gss_one (gs_retO (i := 3) rfl (Or.inl rfl)))))
theorem b__law_gcd {P : Program} {w : World} {K : PySem.W.Frag} {mg : Str → Option Value} {base : Heap} (bn : Bn mg) (cn : Cn K mg) {cdv : Value} {A : Around} {outer : List PySem.Env} {s : Shared} {H : Hp} {E : XK} {G : Gh} {f : Addr} {k : Nat} (hg : A.guards = some []) (hr : Room k (A.deeper (envOfC "_law_gcd" (defScope s__law_gcd) s.heap.objs.size f cdv)))  :
    GSs (cxOf CX0 P w K mg base N__law_gcd "_law_gcd" (defScope s__law_gcd) f cdv A outer s H E).nox G (defBody s__law_gcd) w__law_gcd := by
  have nd : (N__law_gcd : List Str).Nodup := by decide +kernel
  have hu := hr.units
  exact (gss_cons (gs_par2 (i := 0) (j := 1) rfl nd rfl rfl (by decide) rfl rfl (gm_dat (ge_b1 call_abs dc_abs (gb_var (i := 0) rfl (Or.inl rfl)) rfl bn.n_abs rfl) (gm_dat (ge_b1 call_abs dc_abs (gb_var (i := 1) rfl (Or.inl rfl)) rfl bn.n_abs rfl) gm_nil)))
    (gss_cons (gs_while PassesOwn.never (gt_cmp (op_neD hu) dr_ne (gb_var (i := 1) rfl (Or.inl rfl)) (GE.gb ge_int) (nomark _)) (gss_one (gs_par2 (i := 0) (j := 1) rfl nd rfl rfl (by decide) rfl rfl (gm_dat (ge_var (i := 1) rfl (Or.inl rfl)) (gm_dat (ge_t1 call_int1 dc_int (GE.gb (ge_op op_modN dr_mod (gb_var (i := 0) rfl (Or.inl rfl)) (gb_var (i := 1) rfl (Or.inl rfl)))) rfl bn.n_int rfl) gm_nil)))))
    (gss_one (gs_ret (ge_var (i := 0) rfl (Or.inl rfl))))))
theorem b__law_low {P : Program} {w : World} {K : PySem.W.Frag} {mg : Str → Option Value} {base : Heap} (bn : Bn mg) (cn : Cn K mg) {cdv : Value} {A : Around} {outer : List PySem.Env} {s : Shared} {H : Hp} {E : XK} {G : Gh} {f : Addr} {k : Nat} (hg : A.guards = some []) (hr : Room k (A.deeper (envOfC "_law_low" (defScope s__law_low) s.heap.objs.size f cdv))) {k__law_gcd : Nat} (h__law_gcd : Has P w K mg base k__law_gcd "_law_gcd" s__law_gcd ["one", "other"] (spD K F__law_gcd)) (l__law_gcd : k__law_gcd ≤ k) :
    GSs (cxOf CX0 P w K mg base N__law_low "_law_low" (defScope s__law_low) f cdv A outer s H E).nox G (defBody s__law_low) w__law_low := by
  have nd : (N__law_low : List Str).Nodup := by decide +kernel
  have hu := hr.units
  exact (gss_cons (gs_asg (ge_op op_mulA dr_mulA (GE.gb (ge_callH h__law_gcd l__law_gcd hg hr rfl (ga_cons (ge_var (i := 0) rfl (Or.inl rfl)) (ga_cons (ge_var (i := 1) rfl (Or.inl rfl)) ga_nil)))) (GE.gb (ge_if (gt_cmp op_gt dr_ci (gb_var (i := 1) rfl (Or.inl rfl)) (GE.gb ge_int) (nomark _)) ge_int (ge_un un_neg dr_neg (GE.gb ge_int))))) (gg_name (i := 2) nd rfl (Or.inl rfl)))
    (gss_one (gs_ret (ge_tup (ga_cons (ge_op Dl.op_fdivW dr_divW (gb_var (i := 0) rfl (Or.inl rfl)) (gb_var (i := 2) rfl (Or.inl rfl))) (ga_cons (ge_op Dl.op_fdivW dr_divW (gb_var (i := 1) rfl (Or.inl rfl)) (gb_var (i := 2) rfl (Or.inl rfl))) ga_nil))))))
theorem b__law_times {P : Program} {w : World} {K : PySem.W.Frag} {mg : Str → Option Value} {base : Heap} (bn : Bn mg) (cn : Cn K mg) {cdv : Value} {A : Around} {outer : List PySem.Env} {s : Shared} {H : Hp} {E : XK} {G : Gh} {f : Addr} {k : Nat} (hg : A.guards = some []) (hr : Room k (A.deeper (envOfC "_law_times" (defScope s__law_times) s.heap.objs.size f cdv))) {k__law_low : Nat} (h__law_low : Has P w K mg base k__law_low "_law_low" s__law_low ["number", "under"] (spD K F__law_low)) (l__law_low : k__law_low ≤ k) :
    GSs (cxOf CX0 P w K mg base N__law_times "_law_times" (defScope s__law_times) f cdv A outer s H E).nox G (defBody s__law_times) w__law_times := by
  have nd : (N__law_times : List Str).Nodup := by decide +kernel
  have hu := hr.units
  exact (gss_one (gs_ret (ge_callH h__law_low l__law_low hg hr rfl (ga_cons (ge_op op_mulA dr_mulA (GE.gb (ge_ix ix_seq dr_ix (gb_var (i := 0) rfl (Or.inl rfl)) (GE.gb ge_int) (by intro _ _; rfl))) (GE.gb (ge_ix ix_seq dr_ix (gb_var (i := 1) rfl (Or.inl rfl)) (GE.gb ge_int) (by intro _ _; rfl)))) (ga_cons (ge_op op_mulA dr_mulA (GE.gb (ge_ix ix_seq dr_ix (gb_var (i := 0) rfl (Or.inl rfl)) (GE.gb ge_int) (by intro _ _; rfl))) (GE.gb (ge_ix ix_seq dr_ix (gb_var (i := 1) rfl (Or.inl rfl)) (GE.gb ge_int) (by intro _ _; rfl)))) ga_nil)))))
theorem b__law_any_ratio {P : Program} {w : World} {K : PySem.W.Frag} {mg : Str → Option Value} {base : Heap} (bn : Bn mg) (cn : Cn K mg) {cdv : Value} {A : Around} {outer : List PySem.Env} {s : Shared} {H : Hp} {E : XK} {G : Gh} {f : Addr} {k : Nat} (hg : A.guards = some []) (hr : Room k (A.deeper (envOfC "_law_any_ratio" (defScope s__law_any_ratio) s.heap.objs.size f cdv))) {k__law_low : Nat} (h__law_low : Has P w K mg base k__law_low "_law_low" s__law_low ["number", "under"] (spD K F__law_low)) (l__law_low : k__law_low ≤ k) {k__law_draw : Nat} (h__law_draw : Has P w K mg base k__law_draw "_law_draw" s__law_draw ["pot", "many"] (spP K F__law_draw)) (l__law_draw : k__law_draw ≤ k) :
    GSs (cxOf CX0 P w K mg base N__law_any_ratio "_law_any_ratio" (defScope s__law_any_ratio) f cdv A outer s H E).nox G (defBody s__law_any_ratio) w__law_any_ratio := by
  have nd : (N__law_any_ratio : List Str).Nodup := by decide +kernel
  have hu := hr.units
  exact (gss_one (gs_ret (ge_callH h__law_low l__law_low hg hr rfl (ga_cons (ge_op op_sub dr_sub (GE.gb (ge_callPH (i := 0) h__law_draw l__law_draw hg hr rfl rfl (Or.inl rfl) (ga_cons (ge_op op_addA dr_add (GE.gb (ge_op op_mulA dr_mulA (GE.gb ge_int) (gb_var (i := 1) rfl (Or.inl rfl)))) (GE.gb ge_int)) ga_nil))) (gb_var (i := 1) rfl (Or.inl rfl))) (ga_cons (ge_op op_addA dr_add (GE.gb ge_int) (GE.gb (ge_callPH (i := 0) h__law_draw l__law_draw hg hr rfl rfl (Or.inl rfl) (ga_cons (ge_var (i := 2) rfl (Or.inl rfl)) ga_nil)))) ga_nil)))))
theorem b__law_is_whole {P : Program} {w : World} {K : PySem.W.Frag} {mg : Str → Option Value} {base : Heap} (bn : Bn mg) (cn : Cn K mg) {cdv : Value} {A : Around} {outer : List PySem.Env} {s : Shared} {H : Hp} {E : XK} {G : Gh} {f : Addr} {k : Nat} (hg : A.guards = some []) (hr : Room k (A.deeper (envOfC "_law_is_whole" (defScope s__law_is_whole) s.heap.objs.size f cdv)))  :
    GSs (cxOf CX0 P w K mg base N__law_is_whole "_law_is_whole" (defScope s__law_is_whole) f cdv A outer s H E).nox G (defBody s__law_is_whole) w__law_is_whole := by
  have nd : (N__law_is_whole : List Str).Nodup := by decide +kernel
  have hu := hr.units
  exact (gss_one (gs_ret (ge_and (ge_isi (T := "int") (gb_var (i := 0) rfl (Or.inl rfl)) kit_int rfl bn.n_isinstance rfl rfl bn.n_int rfl) (ge_one (ge_not (ge_isi (T := "bool") (gb_var (i := 0) rfl (Or.inl rfl)) kit_bool rfl bn.n_isinstance rfl rfl bn.n_bool rfl))))))
theorem b__law_is_ratio {P : Program} {w : World} {K : PySem.W.Frag} {mg : Str → Option Value} {base : Heap} (bn : Bn mg) (cn : Cn K mg) {cdv : Value} {A : Around} {outer : List PySem.Env} {s : Shared} {H : Hp} {E : XK} {G : Gh} {f : Addr} {k : Nat} (hg : A.guards = some []) (hr : Room k (A.deeper (envOfC "_law_is_ratio" (defScope s__law_is_ratio) s.heap.objs.size f cdv))) {k__law_is_whole : Nat} (h__law_is_whole : Has P w K mg base k__law_is_whole "_law_is_whole" s__law_is_whole ["value"] (spD K F__law_is_whole)) (l__law_is_whole : k__law_is_whole ≤ k) {k__law_gcd : Nat} (h__law_gcd : Has P w K mg base k__law_gcd "_law_gcd" s__law_gcd ["one", "other"] (spD K F__law_gcd)) (l__law_gcd : k__law_gcd ≤ k) :
    GSs (cxOf CX0 P w K mg base N__law_is_ratio "_law_is_ratio" (defScope s__law_is_ratio) f cdv A outer s H E).nox G (defBody s__law_is_ratio) w__law_is_ratio := by
  have nd : (N__law_is_ratio : List Str).Nodup := by decide +kernel
  have hu := hr.units
  exact (gss_cons (gs_if (GW.t (gw_or (gt_not (gt_val (GE.gb (ge_isi (T := "tuple") (gb_var (i := 0) rfl (Or.inl rfl)) kit_tuple rfl bn.n_isinstance rfl rfl bn.n_tuple rfl)))) (gw_or (gt_cmp (op_neD hu) dr_ne (GE.gb (ge_b1 call_len dc_len (gb_var (i := 0) rfl (Or.inl rfl)) rfl bn.n_len rfl)) (GE.gb ge_int) (nomark _)) (gw_or (gt_not (gt_val (GE.gb (ge_callH h__law_is_whole l__law_is_whole hg hr rfl (ga_cons (ge_ix ix_seq dr_ix (gb_var (i := 0) rfl (Or.inl rfl)) (GE.gb ge_int) (by intro _ _; rfl)) ga_nil))))) (gw_or1 (gt_not (gt_val (GE.gb (ge_callH h__law_is_whole l__law_is_whole hg hr rfl (ga_cons (ge_ix ix_seq dr_ix (gb_var (i := 0) rfl (Or.inl rfl)) (GE.gb ge_int) (by intro _ _; rfl)) ga_nil)))))))))) (gss_one (gs_ret ge_bl)) gss_nil)
    (gss_one (gs_ret (ge_and (ge_cmp op_gt dr_ci (GE.gb (ge_ix ix_seq dr_ix (gb_var (i := 0) rfl (Or.inl rfl)) (GE.gb ge_int) (by intro _ _; rfl))) (GE.gb ge_int) (nomark _)) (ge_and (ge_cmp op_lt dr_ci (GE.gb (ge_b2 (call_max2 rfl) dc_max2 (GE.gb (ge_b1 call_abs dc_abs (GE.gb (ge_ix ix_seq dr_ix (gb_var (i := 0) rfl (Or.inl rfl)) (GE.gb ge_int) (by intro _ _; rfl))) rfl bn.n_abs rfl)) (GE.gb (ge_ix ix_seq dr_ix (gb_var (i := 0) rfl (Or.inl rfl)) (GE.gb ge_int) (by intro _ _; rfl))) rfl bn.n_max rfl)) (GE.gb (ge_op op_powW dr_powW (GE.gb (ge_op op_powW dr_powW (GE.gb ge_int) (GE.gb ge_int))) (GE.gb ge_int))) (nomark _)) (ge_one (ge_cmp (op_eqD hu) dr_eq (GE.gb (ge_callH h__law_gcd l__law_gcd hg hr rfl (ga_cons (ge_ix ix_seq dr_ix (gb_var (i := 0) rfl (Or.inl rfl)) (GE.gb ge_int) (by intro _ _; rfl)) (ga_cons (ge_ix ix_seq dr_ix (gb_var (i := 0) rfl (Or.inl rfl)) (GE.gb ge_int) (by intro _ _; rfl)) ga_nil)))) (GE.gb ge_int) (nomark _))))))))
theorem b__law_fathers {P : Program} {w : World} {K : PySem.W.Frag} {mg : Str → Option Value} {base : Heap} (bn : Bn mg) (cn : Cn K mg) {cdv : Value} {A : Around} {outer : List PySem.Env} {s : Shared} {H : Hp} {E : XK} {G : Gh} {f : Addr} {k : Nat} (hg : A.guards = some []) (hr : Room k (A.deeper (envOfC "_law_fathers" (defScope s__law_fathers) s.heap.objs.size f cdv))) {k__law_draw : Nat} (h__law_draw : Has P w K mg base k__law_draw "_law_draw" s__law_draw ["pot", "many"] (spP K F__law_draw)) (l__law_draw : k__law_draw ≤ k) :
    GSs (cxOf CX0 P w K mg base N__law_fathers "_law_fathers" (defScope s__law_fathers) f cdv A outer s H E).nox G (defBody s__law_fathers) w__law_fathers := by
  have nd : (N__law_fathers : List Str).Nodup := by decide +kernel
  have hu := hr.units
  exact (gss_cons (gs_asg (ge_callPH (i := 0) h__law_draw l__law_draw hg hr rfl rfl (Or.inr (Or.inl rfl)) (ga_cons ge_int ga_nil)) (gg_name (i := 2) nd rfl (Or.inr rfl)))
    (gss_cons (gs_if (gt_cmp op_lt dr_ci (gb_var (i := 2) rfl (Or.inr (Or.inl rfl))) (GE.gb ge_int) (nomark _)) (gss_one (gs_ret (ge_op op_addA dr_add (GE.gb (ge_lst (ga_cons ge_int ga_nil))) (GE.gb (GF.ge (gf_lc (own := [("at", 3)]) rfl nd (gi_range2 ge_int (ge_var (i := 1) rfl (Or.inl rfl)) rfl bn.n_range) (show BlkOk N__law_fathers (defScope s__law_fathers) _ _ from ⟨rfl, by decide +kernel, by decide +kernel, by decide +kernel, by decide +kernel⟩) (fun _ _ _ _ _ => (gg_name (i := 3) nd rfl (Or.inl rfl))) (fun _ _ _ _ _ => gpts_nil) (fun _ _ _ _ _ => (ge_callPH (i := 0) h__law_draw l__law_draw hg hr rfl rfl (Or.inr (Or.inl rfl)) (ga_cons (ge_var (i := 3) rfl (Or.inl rfl)) ga_nil))))))))) gss_nil)
    (gss_cons (gs_if (gt_cmp (op_eqD hu) dr_eq (gb_var (i := 2) rfl (Or.inr (Or.inl rfl))) (GE.gb ge_int) (nomark _)) (gss_one (gs_ret (ge_op op_addA dr_add (GE.gb (ge_lst (ga_cons ge_int ga_nil))) (GE.gb (GF.ge (gf_lc (own := [("at", 3)]) rfl nd (gi_range2 ge_int (ge_var (i := 1) rfl (Or.inl rfl)) rfl bn.n_range) (show BlkOk N__law_fathers (defScope s__law_fathers) _ _ from ⟨rfl, by decide +kernel, by decide +kernel, by decide +kernel, by decide +kernel⟩) (fun _ _ _ _ _ => (gg_name (i := 3) nd rfl (Or.inl rfl))) (fun _ _ _ _ _ => gpts_nil) (fun _ _ _ _ _ => (ge_op Dl.op_fdivW dr_divW (GE.gb (ge_op op_sub dr_sub (gb_var (i := 3) rfl (Or.inl rfl)) (GE.gb ge_int))) (GE.gb ge_int))))))))) gss_nil)
    (gss_cons (gs_if (gt_cmp op_lt dr_ci (gb_var (i := 2) rfl (Or.inr (Or.inl rfl))) (GE.gb ge_int) (nomark _)) (gss_one (gs_ret (ge_op op_addA dr_add (GE.gb (ge_lst (ga_cons ge_int ga_nil))) (GE.gb (GF.ge (gf_lc (own := [("at", 3)]) rfl nd (gi_range2 ge_int (ge_var (i := 1) rfl (Or.inl rfl)) rfl bn.n_range) (show BlkOk N__law_fathers (defScope s__law_fathers) _ _ from ⟨rfl, by decide +kernel, by decide +kernel, by decide +kernel, by decide +kernel⟩) (fun _ _ _ _ _ => (gg_name (i := 3) nd rfl (Or.inl rfl))) (fun _ _ _ _ _ => gpts_nil) (fun _ _ _ _ _ => (ge_if (gt_cmp (op_eqD hu) dr_eq (gb_var (i := 2) rfl (Or.inr (Or.inl rfl))) (GE.gb ge_int) (nomark _)) (ge_op op_sub dr_sub (gb_var (i := 3) rfl (Or.inl rfl)) (GE.gb ge_int)) ge_int)))))))) gss_nil)
    (gss_cons (gs_if (gt_cmp (op_eqD hu) dr_eq (gb_var (i := 2) rfl (Or.inr (Or.inl rfl))) (GE.gb ge_int) (nomark _)) (gss_one (gs_ret (ge_op op_addA dr_add (GE.gb (ge_lst (ga_cons ge_int ga_nil))) (GE.gb (GF.ge (gf_lc (own := [("at", 3)]) rfl nd (gi_range2 ge_int (ge_var (i := 1) rfl (Or.inl rfl)) rfl bn.n_range) (show BlkOk N__law_fathers (defScope s__law_fathers) _ _ from ⟨rfl, by decide +kernel, by decide +kernel, by decide +kernel, by decide +kernel⟩) (fun _ _ _ _ _ => (gg_name (i := 3) nd rfl (Or.inl rfl))) (fun _ _ _ _ _ => gpts_nil) (fun _ _ _ _ _ => (ge_if (gt_cmp op_lt dr_ci (gb_var (i := 3) rfl (Or.inl rfl)) (GE.gb ge_int) (nomark _)) ge_int (ge_if (gt_cmp (op_eqD hu) dr_eq (GE.gb (ge_t1 call_int1 dc_int (GE.gb (ge_op op_modN dr_mod (gb_var (i := 3) rfl (Or.inl rfl)) (GE.gb ge_int))) rfl bn.n_int rfl)) (GE.gb ge_int) (nomark _)) (ge_op op_sub dr_sub (gb_var (i := 3) rfl (Or.inl rfl)) (GE.gb ge_int)) (ge_op op_sub dr_sub (gb_var (i := 3) rfl (Or.inl rfl)) (GE.gb ge_int))))))))))) gss_nil)
    (gss_one (gs_ret (ge_op op_addA dr_add (GE.gb (ge_lst (ga_cons ge_int ga_nil))) (GE.gb (GF.ge (gf_lc (own := [("at", 3)]) rfl nd (gi_range2 ge_int (ge_var (i := 1) rfl (Or.inl rfl)) rfl bn.n_range) (show BlkOk N__law_fathers (defScope s__law_fathers) _ _ from ⟨rfl, by decide +kernel, by decide +kernel, by decide +kernel, by decide +kernel⟩) (fun _ _ _ _ _ => (gg_name (i := 3) nd rfl (Or.inl rfl))) (fun _ _ _ _ _ => gpts_nil) (fun _ _ _ _ _ => (ge_b2 (call_max2 rfl) dc_max2 (GE.gb ge_int) (GE.gb (ge_op op_sub dr_sub (GE.gb (ge_op op_sub dr_sub (gb_var (i := 3) rfl (Or.inl rfl)) (GE.gb ge_int))) (GE.gb (ge_callPH (i := 0) h__law_draw l__law_draw hg hr rfl rfl (Or.inr (Or.inl rfl)) (ga_cons ge_int ga_nil))))) rfl bn.n_max rfl)))))))))))))
theorem b__law_moments {P : Program} {w : World} {K : PySem.W.Frag} {mg : Str → Option Value} {base : Heap} (bn : Bn mg) (cn : Cn K mg) {cdv : Value} {A : Around} {outer : List PySem.Env} {s : Shared} {H : Hp} {E : XK} {G : Gh} {f : Addr} {k : Nat} (hg : A.guards = some []) (hr : Room k (A.deeper (envOfC "_law_moments" (defScope s__law_moments) s.heap.objs.size f cdv))) {k__law_pick : Nat} (h__law_pick : Has P w K mg base k__law_pick "_law_pick" s__law_pick ["pot", "some"] (spP K F__law_pick)) (l__law_pick : k__law_pick ≤ k) {k__law_fathers : Nat} (h__law_fathers : Has P w K mg base k__law_fathers "_law_fathers" s__law_fathers ["pot", "many"] (spP K F__law_fathers)) (l__law_fathers : k__law_fathers ≤ k) {k__law_draw : Nat} (h__law_draw : Has P w K mg base k__law_draw "_law_draw" s__law_draw ["pot", "many"] (spP K F__law_draw)) (l__law_draw : k__law_draw ≤ k) :
    GSs (cxOf CX0 P w K mg base N__law_moments "_law_moments" (defScope s__law_moments) f cdv A outer s H E).nox G (defBody s__law_moments) w__law_moments := by
  have nd : (N__law_moments : List Str).Nodup := by decide +kernel
  have hu := hr.units
  exact (gss_cons (gs_asg (ge_callPH (i := 0) h__law_pick l__law_pick hg hr rfl rfl (Or.inl rfl) (ga_cons (ge_lst (ga_cons (ge_lst (ga_cons ge_int ga_nil)) (ga_cons (ge_lst (ga_cons (ge_un un_neg dr_neg (GE.gb ge_int)) (ga_cons ge_int (ga_cons ge_int ga_nil)))) (ga_cons (ge_lst (ga_cons (ge_un un_neg dr_neg (GE.gb ge_int)) (ga_cons (ge_un un_neg dr_neg (GE.gb ge_int)) (ga_cons ge_int (ga_cons ge_int (ga_cons ge_int ga_nil)))))) (ga_cons (ge_lst (ga_cons (ge_un un_neg dr_neg (GE.gb ge_int)) (ga_cons (ge_un un_neg dr_neg (GE.gb ge_int)) (ga_cons ge_int (ga_cons ge_int (ga_cons ge_int ga_nil)))))) (ga_cons (ge_lst (ga_cons ge_int (ga_cons ge_int (ga_cons ge_int ga_nil)))) (ga_cons (ge_lst ga_nil) ga_nil))))))) ga_nil)) (gg_name (i := 2) nd rfl (Or.inl rfl)))
    (gss_cons (gs_par3 (i := 3) (j := 4) (n := 5) rfl nd rfl rfl rfl (by decide) (by decide) (by decide) rfl rfl rfl (gm_dat (ge_callPH (i := 0) h__law_pick l__law_pick hg hr rfl rfl (Or.inl rfl) (ga_cons (ge_lst (ga_cons ge_int (ga_cons ge_int (ga_cons ge_int (ga_cons ge_int (ga_cons ge_int ga_nil)))))) ga_nil)) (gm_own (gf_lst ga_nil) (gm_own (gf_lst ga_nil) gm_nil))))
    (gss_cons (gs_for PassesOwn.never rfl (gi_enum (ge_callPH (i := 0) h__law_fathers l__law_fathers hg hr rfl rfl (Or.inl rfl) (ga_cons (ge_var (i := 1) rfl (Or.inl rfl)) ga_nil)) rfl bn.n_enumerate) (gg_tup rfl (ggs_cons (gg_name (i := 6) nd rfl (Or.inl rfl)) (ggs_cons (gg_name (i := 7) nd rfl (Or.inl rfl)) ggs_nil))) (gss_cons (gs_asg (ge_if (gt_cmp (op_eqD hu) dr_eq (gb_var (i := 6) rfl (Or.inl rfl)) (GE.gb ge_int) (nomark _)) (ge_callPH (i := 0) h__law_pick l__law_pick hg hr rfl rfl (Or.inl rfl) (ga_cons (ge_lst (ga_cons ge_int (ga_cons ge_int (ga_cons ge_int (ga_cons ge_int (ga_cons ge_int ga_nil)))))) ga_nil)) (ge_if (gt_cmp (op_eqD hu) dr_eq (gb_var (i := 2) rfl (Or.inl rfl)) (GE.gb (ge_lst ga_nil)) (nomark _)) (ge_op op_addA dr_add (GE.gb ge_int) (GE.gb (ge_callPH (i := 0) h__law_draw l__law_draw hg hr rfl rfl (Or.inl rfl) (ga_cons ge_int ga_nil)))) (ge_op op_addA dr_add (GE.gb (ge_ix ix_seq dr_ix (gb_var (i := 5) rfl (Or.inl rfl)) (gb_var (i := 7) rfl (Or.inl rfl)) (by intro _ _; rfl))) (GE.gb (ge_callPH (i := 0) h__law_pick l__law_pick hg hr rfl rfl (Or.inl rfl) (ga_cons (ge_var (i := 2) rfl (Or.inl rfl)) ga_nil)))))) (gg_name (i := 8) nd rfl (Or.inl rfl)))
    (gss_cons (gs_app (i := 5) (ge_b2 (call_min2 rfl) dc_min2 (GE.gb ge_int) (GE.gb (ge_b2 (call_max2 rfl) dc_max2 (GE.gb ge_int) (gb_var (i := 8) rfl (Or.inl rfl)) rfl bn.n_max rfl)) rfl bn.n_min rfl) rfl (Or.inl rfl))
    (gss_one (gs_app (i := 4) (ge_tup (ga_cons (ge_var (i := 7) rfl (Or.inl rfl)) (ga_cons (ge_b2 (call_max2 rfl) dc_max2 (GE.gb ge_int) (GE.gb (ge_op op_sub dr_sub (GE.gb (ge_ix ix_seq dr_ix (gb_var (i := 5) rfl (Or.inl rfl)) (gb_var (i := 6) rfl (Or.inl rfl)) (by intro _ _; rfl))) (GE.gb (ge_callPH (i := 0) h__law_draw l__law_draw hg hr rfl rfl (Or.inl rfl) (ga_cons (ge_var (i := 3) rfl (Or.inl rfl)) ga_nil))))) rfl bn.n_max rfl) (ga_cons (ge_b2 (call_min2 rfl) dc_min2 (GE.gb ge_int) (GE.gb (ge_op op_addA dr_add (GE.gb (ge_ix ix_seq dr_ix (gb_var (i := 5) rfl (Or.inl rfl)) (gb_var (i := 6) rfl (Or.inl rfl)) (by intro _ _; rfl))) (GE.gb (ge_callPH (i := 0) h__law_draw l__law_draw hg hr rfl rfl (Or.inl rfl) (ga_cons (ge_var (i := 3) rfl (Or.inl rfl)) ga_nil))))) rfl bn.n_min rfl) ga_nil)))) rfl (Or.inl rfl))))))
    (gss_one (gs_ret (ge_t1 call_tuple_of dc_tuple (gb_var (i := 4) rfl (Or.inl rfl)) rfl bn.n_tuple rfl))))))
theorem b__law_balanced {P : Program} {w : World} {K : PySem.W.Frag} {mg : Str → Option Value} {base : Heap} (bn : Bn mg) (cn : Cn K mg) {cdv : Value} {A : Around} {outer : List PySem.Env} {s : Shared} {H : Hp} {E : XK} {G : Gh} {f : Addr} {k : Nat} (hg : A.guards = some []) (hr : Room k (A.deeper (envOfC "_law_balanced" (defScope s__law_balanced) s.heap.objs.size f cdv))) {k__law_pick : Nat} (h__law_pick : Has P w K mg base k__law_pick "_law_pick" s__law_pick ["pot", "some"] (spP K F__law_pick)) (l__law_pick : k__law_pick ≤ k) {k__law_fathers : Nat} (h__law_fathers : Has P w K mg base k__law_fathers "_law_fathers" s__law_fathers ["pot", "many"] (spP K F__law_fathers)) (l__law_fathers : k__law_fathers ≤ k) {k__law_draw : Nat} (h__law_draw : Has P w K mg base k__law_draw "_law_draw" s__law_draw ["pot", "many"] (spP K F__law_draw)) (l__law_draw : k__law_draw ≤ k) {k__law_times : Nat} (h__law_times : Has P w K mg base k__law_times "_law_times" s__law_times ["near", "far"] (spD K F__law_times)) (l__law_times : k__law_times ≤ k) {k__law_low : Nat} (h__law_low : Has P w K mg base k__law_low "_law_low" s__law_low ["number", "under"] (spD K F__law_low)) (l__law_low : k__law_low ≤ k) :
    GSs (cxOf CX0 P w K mg base N__law_balanced "_law_balanced" (defScope s__law_balanced) f cdv A outer s H E).nox G (defBody s__law_balanced) w__law_balanced := by
  have nd : (N__law_balanced : List Str).Nodup := by decide +kernel
  have hu := hr.units
  exact (gss_cons (gs_parG (is := [4, 5]) rfl (pgs_nmC (i := 4) nd rfl (Or.inr rfl) (pgs_nmC (i := 5) nd rfl (Or.inr rfl) pgs_nmN)) (gm_dat (ge_callPH (i := 0) h__law_fathers l__law_fathers hg hr rfl rfl (Or.inr (Or.inl rfl)) (ga_cons (ge_var (i := 1) rfl (Or.inl rfl)) ga_nil)) (gm_dat (ge_callPH (i := 0) h__law_pick l__law_pick hg hr rfl rfl (Or.inr (Or.inl rfl)) (ga_cons (ge_lst (ga_cons ge_int (ga_cons ge_int (ga_cons ge_int (ga_cons ge_int ga_nil))))) ga_nil)) gm_nil)))
    (gss_cons (gs_par2 (i := 6) (j := 7) rfl nd rfl rfl (by decide) rfl rfl (gm_own (gf_rep (GE.gb (ge_lst (ga_cons (ge_callPH (i := 0) h__law_pick l__law_pick hg hr rfl rfl (Or.inr (Or.inl rfl)) (ga_cons (ge_lst (ga_cons ge_int (ga_cons ge_int (ga_cons ge_int ga_nil)))) ga_nil)) ga_nil))) (gb_var (i := 1) rfl (Or.inl rfl))) (gm_own (gf_rep (GE.gb (ge_lst (ga_cons (ge_tup (ga_cons ge_int (ga_cons ge_int ga_nil))) ga_nil))) (gb_var (i := 1) rfl (Or.inl rfl))) gm_nil)))
    (gss_cons (gs_for PassesOwn.never rfl (gi_range1 (ge_var (i := 1) rfl (Or.inl rfl)) rfl bn.n_range) (gg_name (i := 2) nd rfl (Or.inr rfl)) (gss_cons (gs_lcD (i := 8) (own := [("son", 12)]) rfl nd rfl rfl (sw_true rfl rfl rfl rfl) (gi_range2 (ge_op op_addA dr_add (gb_var (i := 2) rfl (Or.inr (Or.inl rfl))) (GE.gb ge_int)) (ge_var (i := 1) rfl (Or.inl rfl)) rfl bn.n_range) (show BlkOk N__law_balanced (defScope s__law_balanced) _ _ from ⟨rfl, by decide +kernel, by decide +kernel, by decide +kernel, by decide +kernel⟩) (fun _ _ _ _ _ => (gg_name (i := 12) nd rfl (Or.inl rfl))) (fun _ _ _ _ _ => (gpts_one (gt_cmp (op_eqD hu) dr_eq (GE.gb (ge_ix ix_seq dr_ix (gb_var (i := 4) rfl (Or.inr (Or.inl rfl))) (gb_var (i := 12) rfl (Or.inl rfl)) (by intro _ _; rfl))) (gb_var (i := 2) rfl (Or.inr (Or.inl rfl))) (nomark _)))) (fun _ _ _ _ _ => (ge_var (i := 12) rfl (Or.inl rfl))))
    (gss_cons (gs_par2 (i := 9) (j := 10) rfl nd rfl rfl (by decide) rfl rfl (gm_dat (GF.ge (gf_lc (own := [("son", 12)]) rfl nd (gi_list (ge_var (i := 8) rfl (Or.inl rfl))) (show BlkOk N__law_balanced (defScope s__law_balanced) _ _ from ⟨rfl, by decide +kernel, by decide +kernel, by decide +kernel, by decide +kernel⟩) (fun _ _ _ _ _ => (gg_name (i := 12) nd rfl (Or.inl rfl))) (fun _ _ _ _ _ => gpts_nil) (fun _ _ _ _ _ => (ge_op op_addA dr_add (GE.gb ge_int) (GE.gb (ge_callPH (i := 0) h__law_draw l__law_draw hg hr rfl rfl (Or.inr (Or.inl rfl)) (ga_cons ge_int ga_nil))))))) (gm_dat (ge_callPH (i := 0) h__law_draw l__law_draw hg hr rfl rfl (Or.inr (Or.inl rfl)) (ga_cons ge_int ga_nil)) gm_nil)))
    (gss_cons (gs_for PassesOwn.never rfl (gi_enum (ge_var (i := 8) rfl (Or.inl rfl)) rfl bn.n_enumerate) (gg_tup rfl (ggs_cons (gg_name (i := 11) nd rfl (Or.inl rfl)) (ggs_cons (gg_name (i := 12) nd rfl (Or.inl rfl)) ggs_nil))) (gss_cons (gs_set (i := 7) (ge_callH h__law_times l__law_times hg hr rfl (ga_cons (ge_ix ix_seq dr_ix (gb_var (i := 7) rfl (Or.inl rfl)) (gb_var (i := 2) rfl (Or.inr (Or.inl rfl))) (by intro _ _; rfl)) (ga_cons (ge_callH h__law_low l__law_low hg hr rfl (ga_cons (ge_ix ix_seq dr_ix (gb_var (i := 9) rfl (Or.inl rfl)) (gb_var (i := 11) rfl (Or.inl rfl)) (by intro _ _; rfl)) (ga_cons (ge_b1 (cr_sum rfl) dc_sum (gb_var (i := 9) rfl (Or.inl rfl)) rfl bn.n_sum rfl) ga_nil))) ga_nil))) (ge_var (i := 12) rfl (Or.inl rfl)) rfl (Or.inl rfl))
    (gss_one (gs_set (i := 6) (ge_ix ix_seq dr_ix (gb_var (i := 6) rfl (Or.inl rfl)) (gb_var (i := 2) rfl (Or.inr (Or.inl rfl))) (by intro _ _; rfl)) (ge_var (i := 12) rfl (Or.inl rfl)) rfl (Or.inl rfl)))))
    (gss_one (gs_if (gt_cmp op_gt dr_ci (GE.gb (ge_b1 call_len dc_len (gb_var (i := 8) rfl (Or.inl rfl)) rfl bn.n_len rfl)) (GE.gb ge_int) (nomark _)) (gss_one (gs_set2 (i := 6) rfl (ga_cons (ge_op op_addA dr_add (GE.gb (ge_ix ix_seq dr_ix (gb_var (i := 6) rfl (Or.inl rfl)) (gb_var (i := 2) rfl (Or.inr (Or.inl rfl))) (by intro _ _; rfl))) (GE.gb (ge_op op_mulA dr_mulA (GE.gb (ge_ix ix_seq dr_ix (gb_var (i := 9) rfl (Or.inl rfl)) (GE.gb ge_int) (by intro _ _; rfl))) (gb_var (i := 10) rfl (Or.inl rfl))))) (ga_cons (ge_op op_sub dr_sub (GE.gb (ge_ix ix_seq dr_ix (gb_var (i := 6) rfl (Or.inl rfl)) (gb_var (i := 2) rfl (Or.inr (Or.inl rfl))) (by intro _ _; rfl))) (GE.gb (ge_op op_mulA dr_mulA (GE.gb (ge_ix ix_seq dr_ix (gb_var (i := 9) rfl (Or.inl rfl)) (GE.gb ge_int) (by intro _ _; rfl))) (gb_var (i := 10) rfl (Or.inl rfl))))) ga_nil)) (ge_ix ix_seq dr_ix (gb_var (i := 8) rfl (Or.inl rfl)) (GE.gb ge_int) (by intro _ _; rfl)) (ge_ix ix_seq dr_ix (gb_var (i := 8) rfl (Or.inl rfl)) (GE.gb ge_int) (by intro _ _; rfl)) rfl (Or.inl rfl))) gss_nil))))))
    (gss_cons (gs_if (GW.t (gw_or (gt_cmp op_lt dr_ci (GE.gb (ge_b1 (cr_min rfl) dc_minL (gb_var (i := 6) rfl (Or.inl rfl)) rfl bn.n_min rfl)) (GE.gb ge_int) (nomark _)) (gw_or1 (gt_cmp op_gt dr_ci (GE.gb (ge_b1 (cr_max rfl) dc_maxL (gb_var (i := 6) rfl (Or.inl rfl)) rfl bn.n_max rfl)) (GE.gb ge_int) (nomark _))))) (gss_one (gs_own (i := 6) (gf_rep (GE.gb (ge_lst (ga_cons ge_int ga_nil))) (gb_var (i := 1) rfl (Or.inl rfl))) nd rfl (Or.inl rfl))) gss_nil)
    (gss_frz 7 (gss_frz 6 (gss_cons (gs_asg (ge_t1 call_tuple_of dc_tuple (GE.gb (GF.ge (gf_lc (own := [("father", 13), ("price", 14)]) rfl nd (gi_zip (ge_var (i := 4) rfl (Or.inr (Or.inl rfl))) (ge_var (i := 6) rfl (Or.inl rfl)) rfl bn.n_zip) (show BlkOk N__law_balanced (defScope s__law_balanced) _ _ from ⟨rfl, by decide +kernel, by decide +kernel, by decide +kernel, by decide +kernel⟩) (fun _ _ _ _ _ => (gg_tup rfl (ggs_cons (gg_name (i := 13) nd rfl (Or.inl rfl)) (ggs_cons (gg_name (i := 14) nd rfl (Or.inl rfl)) ggs_nil)))) (fun _ _ _ _ _ => gpts_nil) (fun _ _ _ _ _ => (ge_tup (ga_cons (ge_var (i := 13) rfl (Or.inl rfl)) (ga_cons (ge_b2 (call_max2 rfl) dc_max2 (GE.gb ge_int) (GE.gb (ge_op op_sub dr_sub (gb_var (i := 14) rfl (Or.inl rfl)) (GE.gb (ge_callPH (i := 0) h__law_draw l__law_draw hg hr rfl rfl (Or.inr (Or.inl rfl)) (ga_cons (ge_var (i := 5) rfl (Or.inr (Or.inl rfl))) ga_nil))))) rfl bn.n_max rfl) (ga_cons (ge_b2 (call_min2 rfl) dc_min2 (GE.gb ge_int) (GE.gb (ge_op op_addA dr_add (gb_var (i := 14) rfl (Or.inl rfl)) (GE.gb (ge_callPH (i := 0) h__law_draw l__law_draw hg hr rfl rfl (Or.inr (Or.inl rfl)) (ga_cons (ge_var (i := 5) rfl (Or.inr (Or.inl rfl))) ga_nil))))) rfl bn.n_min rfl) ga_nil)))))))) rfl bn.n_tuple rfl) (gg_name (i := 3) nd rfl (Or.inl rfl)))
    (gss_one (gs_ret (ge_tup (ga_cons (ge_var (i := 3) rfl (Or.inl rfl)) (ga_cons (ge_t1 call_tuple_of dc_tuple (GE.gb (GF.ge (gf_lc (own := [("mass", 15), ("price", 14)]) rfl nd (gi_zip (ge_var (i := 7) rfl (Or.inl rfl)) (ge_var (i := 6) rfl (Or.inl rfl)) rfl bn.n_zip) (show BlkOk N__law_balanced (defScope s__law_balanced) _ _ from ⟨rfl, by decide +kernel, by decide +kernel, by decide +kernel, by decide +kernel⟩) (fun _ _ _ _ _ => (gg_tup rfl (ggs_cons (gg_name (i := 15) nd rfl (Or.inl rfl)) (ggs_cons (gg_name (i := 14) nd rfl (Or.inl rfl)) ggs_nil)))) (fun _ _ _ _ _ => gpts_nil) (fun _ _ _ _ _ => (ge_tup (ga_cons (ge_var (i := 15) rfl (Or.inl rfl)) (ga_cons (ge_callH h__law_times l__law_times hg hr rfl (ga_cons (ge_var (i := 15) rfl (Or.inl rfl)) (ga_cons (ge_tup (ga_cons (ge_var (i := 14) rfl (Or.inl rfl)) (ga_cons ge_int ga_nil))) ga_nil))) ga_nil))))))) rfl bn.n_tuple rfl) ga_nil))))))))))))
theorem b__law_any_moments {P : Program} {w : World} {K : PySem.W.Frag} {mg : Str → Option Value} {base : Heap} (bn : Bn mg) (cn : Cn K mg) {cdv : Value} {A : Around} {outer : List PySem.Env} {s : Shared} {H : Hp} {E : XK} {G : Gh} {f : Addr} {k : Nat} (hg : A.guards = some []) (hr : Room k (A.deeper (envOfC "_law_any_moments" (defScope s__law_any_moments) s.heap.objs.size f cdv))) {k__law_draw : Nat} (h__law_draw : Has P w K mg base k__law_draw "_law_draw" s__law_draw ["pot", "many"] (spP K F__law_draw)) (l__law_draw : k__law_draw ≤ k) {k__law_moments : Nat} (h__law_moments : Has P w K mg base k__law_moments "_law_moments" s__law_moments ["pot", "many"] (spP K F__law_moments)) (l__law_moments : k__law_moments ≤ k) {k__law_balanced : Nat} (h__law_balanced : Has P w K mg base k__law_balanced "_law_balanced" s__law_balanced ["pot", "many"] (spP K F__law_balanced)) (l__law_balanced : k__law_balanced ≤ k) :
    GSs (cxOf CX0 P w K mg base N__law_any_moments "_law_any_moments" (defScope s__law_any_moments) f cdv A outer s H E).nox G (defBody s__law_any_moments) w__law_any_moments := by
  have nd : (N__law_any_moments : List Str).Nodup := by decide +kernel
  have hu := hr.units
  exact (gss_one (gs_ret (ge_if (gt_cmp (op_eqD hu) dr_eq (GE.gb (ge_callPH (i := 0) h__law_draw l__law_draw hg hr rfl rfl (Or.inl rfl) (ga_cons ge_int ga_nil))) (GE.gb ge_int) (nomark _)) (ge_callPH (i := 0) h__law_moments l__law_moments hg hr rfl rfl (Or.inl rfl) (ga_cons (ge_var (i := 1) rfl (Or.inl rfl)) ga_nil)) (ge_ix ix_seq dr_ix (GE.gb (ge_callPH (i := 0) h__law_balanced l__law_balanced hg hr rfl rfl (Or.inl rfl) (ga_cons (ge_var (i := 1) rfl (Or.inl rfl)) ga_nil))) (GE.gb ge_int) (by intro _ _; rfl)))))
theorem b__law_ends {P : Program} {w : World} {K : PySem.W.Frag} {mg : Str → Option Value} {base : Heap} (bn : Bn mg) (cn : Cn K mg) {cdv : Value} {A : Around} {outer : List PySem.Env} {s : Shared} {H : Hp} {E : XK} {G : Gh} {f : Addr} {k : Nat} (hg : A.guards = some []) (hr : Room k (A.deeper (envOfC "_law_ends" (defScope s__law_ends) s.heap.objs.size f cdv))) {k__law_sons : Nat} (h__law_sons : Has P w K mg base k__law_sons "_law_sons" s__law_sons ["moments"] (spD K F__law_sons)) (l__law_sons : k__law_sons ≤ k) :
    GSs (cxOf CX0 P w K mg base N__law_ends "_law_ends" (defScope s__law_ends) f cdv A outer s H E).nox G (defBody s__law_ends) w__law_ends := by
  have nd : (N__law_ends : List Str).Nodup := by decide +kernel
  have hu := hr.units
  exact (gss_one (gs_ret (GF.ge (gf_lc (own := [("at", 1), ("some", 2)]) rfl nd (gi_enum (ge_callH h__law_sons l__law_sons hg hr rfl (ga_cons (ge_var (i := 0) rfl (Or.inl rfl)) ga_nil)) rfl bn.n_enumerate) (show BlkOk N__law_ends (defScope s__law_ends) _ _ from ⟨rfl, by decide +kernel, by decide +kernel, by decide +kernel, by decide +kernel⟩) (fun _ _ _ _ _ => (gg_tup rfl (ggs_cons (gg_name (i := 1) nd rfl (Or.inl rfl)) (ggs_cons (gg_name (i := 2) nd rfl (Or.inl rfl)) ggs_nil)))) (fun _ _ _ _ _ => (gpts_one (gt_cmp (op_eqD hu) dr_eq (gb_var (i := 2) rfl (Or.inl rfl)) (GE.gb (ge_lst ga_nil)) (nomark _)))) (fun _ _ _ _ _ => (ge_var (i := 1) rfl (Or.inl rfl)))))))
theorem b__law_way {P : Program} {w : World} {K : PySem.W.Frag} {mg : Str → Option Value} {base : Heap} (bn : Bn mg) (cn : Cn K mg) {cdv : Value} {A : Around} {outer : List PySem.Env} {s : Shared} {H : Hp} {E : XK} {G : Gh} {f : Addr} {k : Nat} (hg : A.guards = some []) (hr : Room k (A.deeper (envOfC "_law_way" (defScope s__law_way) s.heap.objs.size f cdv)))  :
    GSs (cxOf CX0 P w K mg base N__law_way "_law_way" (defScope s__law_way) f cdv A outer s H E).nox G (defBody s__law_way) w__law_way := by
  have nd : (N__law_way : List Str).Nodup := by decide +kernel
  have hu := hr.units
  exact (gss_cons (gs_asg (ge_lst (ga_cons (ge_var (i := 1) rfl (Or.inl rfl)) ga_nil)) (gg_name (i := 2) nd rfl (Or.inl rfl)))
    (gss_cons (gs_while PassesOwn.never (gt_cmp (op_neD hu) dr_ne (GE.gb (ge_ix ix_seq dr_ix (gb_var (i := 2) rfl (Or.inl rfl)) (GE.gb ge_int) (by intro _ _; rfl))) (GE.gb ge_int) (nomark _)) (gss_one (gs_asg (ge_op op_addA dr_add (GE.gb (ge_lst (ga_cons (ge_ix ix_seq dr_ix (GE.gb (ge_ix ix_seq dr_ix (gb_var (i := 0) rfl (Or.inl rfl)) (GE.gb (ge_ix ix_seq dr_ix (gb_var (i := 2) rfl (Or.inl rfl)) (GE.gb ge_int) (by intro _ _; rfl))) (by intro _ _; rfl))) (GE.gb ge_int) (by intro _ _; rfl)) ga_nil))) (gb_var (i := 2) rfl (Or.inl rfl))) (gg_name (i := 2) nd rfl (Or.inl rfl)))))
    (gss_one (gs_ret (ge_var (i := 2) rfl (Or.inl rfl))))))
theorem b__law_pay {P : Program} {w : World} {K : PySem.W.Frag} {mg : Str → Option Value} {base : Heap} (bn : Bn mg) (cn : Cn K mg) {cdv : Value} {A : Around} {outer : List PySem.Env} {s : Shared} {H : Hp} {E : XK} {G : Gh} {f : Addr} {k : Nat} (hg : A.guards = some []) (hr : Room k (A.deeper (envOfC "_law_pay" (defScope s__law_pay) s.heap.objs.size f cdv))) {k__law_pick : Nat} (h__law_pick : Has P w K mg base k__law_pick "_law_pick" s__law_pick ["pot", "some"] (spP K F__law_pick)) (l__law_pick : k__law_pick ≤ k) {k__law_draw : Nat} (h__law_draw : Has P w K mg base k__law_draw "_law_draw" s__law_draw ["pot", "many"] (spP K F__law_draw)) (l__law_draw : k__law_draw ≤ k) :
    GSs (cxOf CX0 P w K mg base N__law_pay "_law_pay" (defScope s__law_pay) f cdv A outer s H E).nox G (defBody s__law_pay) w__law_pay := by
  have nd : (N__law_pay : List Str).Nodup := by decide +kernel
  have hu := hr.units
  exact (gss_cons (gs_asg (ge_callPH (i := 0) h__law_pick l__law_pick hg hr rfl rfl (Or.inl rfl) (ga_cons (ge_lst (ga_cons ge_int (ga_cons ge_int (ga_cons ge_int (ga_cons ge_int ga_nil))))) ga_nil)) (gg_name (i := 1) nd rfl (Or.inl rfl)))
    (gss_one (gs_ret (ge_tup (ga_cons (ge_op op_sub dr_sub (GE.gb (ge_callPH (i := 0) h__law_draw l__law_draw hg hr rfl rfl (Or.inl rfl) (ga_cons (ge_op op_addA dr_add (GE.gb (ge_op op_mulA dr_mulA (GE.gb ge_int) (gb_var (i := 1) rfl (Or.inl rfl)))) (GE.gb ge_int)) ga_nil))) (gb_var (i := 1) rfl (Or.inl rfl))) (ga_cons (ge_callPH (i := 0) h__law_pick l__law_pick hg hr rfl rfl (Or.inl rfl) (ga_cons (ge_lst (ga_cons ge_int (ga_cons ge_int (ga_cons (ge_un un_neg dr_neg (GE.gb ge_int)) (ga_cons ge_int (ga_cons ge_int (ga_cons (ge_op op_sub dr_sub (GE.gb (ge_callPH (i := 0) h__law_draw l__law_draw hg hr rfl rfl (Or.inl rfl) (ga_cons ge_int ga_nil))) (GE.gb ge_int)) (ga_cons (ge_if (gt_cmp op_gt dr_ci (gb_var (i := 1) rfl (Or.inl rfl)) (GE.gb ge_int) (nomark _)) (ge_op op_sub dr_sub (GE.gb (ge_callPH (i := 0) h__law_draw l__law_draw hg hr rfl rfl (Or.inl rfl) (ga_cons ge_int ga_nil))) (GE.gb ge_int)) ge_int) ga_nil)))))))) ga_nil)) ga_nil))))))
theorem b__law_promise {P : Program} {w : World} {K : PySem.W.Frag} {mg : Str → Option Value} {base : Heap} (bn : Bn mg) (cn : Cn K mg) {cdv : Value} {A : Around} {outer : List PySem.Env} {s : Shared} {H : Hp} {E : XK} {G : Gh} {f : Addr} {k : Nat} (hg : A.guards = some []) (hr : Room k (A.deeper (envOfC "_law_promise" (defScope s__law_promise) s.heap.objs.size f cdv))) {k__law_ends : Nat} (h__law_ends : Has P w K mg base k__law_ends "_law_ends" s__law_ends ["moments"] (spD K F__law_ends)) (l__law_ends : k__law_ends ≤ k) {k__law_draw : Nat} (h__law_draw : Has P w K mg base k__law_draw "_law_draw" s__law_draw ["pot", "many"] (spP K F__law_draw)) (l__law_draw : k__law_draw ≤ k) {k__law_pay : Nat} (h__law_pay : Has P w K mg base k__law_pay "_law_pay" s__law_pay ["pot"] (spP K F__law_pay)) (l__law_pay : k__law_pay ≤ k) :
    GSs (cxOf CX0 P w K mg base N__law_promise "_law_promise" (defScope s__law_promise) f cdv A outer s H E).nox G (defBody s__law_promise) w__law_promise := by
  have nd : (N__law_promise : List Str).Nodup := by decide +kernel
  have hu := hr.units
  exact (gss_cons (gs_par2 (i := 4) (j := 5) rfl nd rfl rfl (by decide) rfl rfl (gm_dat (ge_callH h__law_ends l__law_ends hg hr rfl (ga_cons (ge_var (i := 1) rfl (Or.inl rfl)) ga_nil)) (gm_own (gf_lst ga_nil) gm_nil)))
    (gss_cons (gs_for PassesOwn.never rfl (gi_range1 (ge_b1 call_len dc_len (gb_var (i := 1) rfl (Or.inl rfl)) rfl bn.n_len rfl) rfl bn.n_range) (gg_name (i := 3) nd rfl (Or.inl rfl)) (gss_cons (gs_asg (ge_if (GW.t (gw_or (gt_cmp op_in_seq dr_in (gb_var (i := 3) rfl (Or.inl rfl)) (gb_var (i := 4) rfl (Or.inl rfl)) rfl) (gw_or1 (GW.t (gw_and (gt_cmp op_gt dr_ci (gb_var (i := 2) rfl (Or.inl rfl)) (GE.gb ge_int) (nomark _)) (gw_and1 (gt_cmp (op_eqD hu) dr_eq (GE.gb (ge_callPH (i := 0) h__law_draw l__law_draw hg hr rfl rfl (Or.inl rfl) (ga_cons ge_int ga_nil))) (GE.gb ge_int) (nomark _)))))))) (ge_callPH (i := 0) h__law_pay l__law_pay hg hr rfl rfl (Or.inl rfl) ga_nil) ge_non) (gg_name (i := 6) nd rfl (Or.inl rfl)))
    (gss_cons (gs_asg (ge_if (GW.t (gw_and (gt_cmp op_notIn_seq dr_in (gb_var (i := 3) rfl (Or.inl rfl)) (gb_var (i := 4) rfl (Or.inl rfl)) rfl) (gw_and (gt_cmp op_gt dr_ci (gb_var (i := 2) rfl (Or.inl rfl)) (GE.gb ge_int) (nomark _)) (gw_and1 (gt_cmp (op_eqD hu) dr_eq (GE.gb (ge_callPH (i := 0) h__law_draw l__law_draw hg hr rfl rfl (Or.inl rfl) (ga_cons ge_int ga_nil))) (GE.gb ge_int) (nomark _)))))) (ge_callPH (i := 0) h__law_pay l__law_pay hg hr rfl rfl (Or.inl rfl) ga_nil) ge_non) (gg_name (i := 7) nd rfl (Or.inl rfl)))
    (gss_one (gs_app (i := 5) (ge_tup (ga_cons (ge_var (i := 6) rfl (Or.inl rfl)) (ga_cons (ge_var (i := 7) rfl (Or.inl rfl)) ga_nil))) rfl (Or.inl rfl))))))
    (gss_one (gs_ret (ge_t1 call_tuple_of dc_tuple (gb_var (i := 5) rfl (Or.inl rfl)) rfl bn.n_tuple rfl)))))
theorem b__law_house {P : Program} {w : World} {K : PySem.W.Frag} {mg : Str → Option Value} {base : Heap} (bn : Bn mg) (cn : Cn K mg) {cdv : Value} {A : Around} {outer : List PySem.Env} {s : Shared} {H : Hp} {E : XK} {G : Gh} {f : Addr} {k : Nat} (hg : A.guards = some []) (hr : Room k (A.deeper (envOfC "_law_house" (defScope s__law_house) s.heap.objs.size f cdv))) {k__law_any_moments : Nat} (h__law_any_moments : Has P w K mg base k__law_any_moments "_law_any_moments" s__law_any_moments ["pot", "many"] (spP K F__law_any_moments)) (l__law_any_moments : k__law_any_moments ≤ k) {k__law_promise : Nat} (h__law_promise : Has P w K mg base k__law_promise "_law_promise" s__law_promise ["pot", "moments", "kind"] (spP K F__law_promise)) (l__law_promise : k__law_promise ≤ k) :
    GSs (cxOf CX0 P w K mg base N__law_house "_law_house" (defScope s__law_house) f cdv A outer s H E).nox G (defBody s__law_house) w__law_house := by
  have nd : (N__law_house : List Str).Nodup := by decide +kernel
  have hu := hr.units
  exact (gss_cons (gs_asg (ge_callPH (i := 0) h__law_any_moments l__law_any_moments hg hr rfl rfl (Or.inr (Or.inl rfl)) (ga_cons (ge_var (i := 1) rfl (Or.inl rfl)) ga_nil)) (gg_name (i := 3) nd rfl (Or.inr rfl)))
    (gss_one (gs_ret (ge_tup (ga_cons ge_str (ga_cons (ge_var (i := 3) rfl (Or.inr (Or.inl rfl))) (ga_cons (ge_t1 call_tuple_of dc_tuple (GE.gb (GF.ge (gf_lc (own := [("kind", 4)]) rfl nd (gi_list (ge_var (i := 2) rfl (Or.inl rfl))) (show BlkOk N__law_house (defScope s__law_house) _ _ from ⟨rfl, by decide +kernel, by decide +kernel, by decide +kernel, by decide +kernel⟩) (fun _ _ _ _ _ => (gg_name (i := 4) nd rfl (Or.inl rfl))) (fun _ _ _ _ _ => gpts_nil) (fun _ _ _ _ _ => (ge_callPH (i := 0) h__law_promise l__law_promise hg hr rfl rfl (Or.inr (Or.inl rfl)) (ga_cons (ge_var (i := 3) rfl (Or.inr (Or.inl rfl))) (ga_cons (ge_var (i := 4) rfl (Or.inl rfl)) ga_nil))))))) rfl bn.n_tuple rfl) ga_nil)))))))
theorem b__law_any_plan {P : Program} {w : World} {K : PySem.W.Frag} {mg : Str → Option Value} {base : Heap} (bn : Bn mg) (cn : Cn K mg) {cdv : Value} {A : Around} {outer : List PySem.Env} {s : Shared} {H : Hp} {E : XK} {G : Gh} {f : Addr} {k : Nat} (hg : A.guards = some []) (hr : Room k (A.deeper (envOfC "_law_any_plan" (defScope s__law_any_plan) s.heap.objs.size f cdv))) {k__law_ends : Nat} (h__law_ends : Has P w K mg base k__law_ends "_law_ends" s__law_ends ["moments"] (spD K F__law_ends)) (l__law_ends : k__law_ends ≤ k) {k__law_any_ratio : Nat} (h__law_any_ratio : Has P w K mg base k__law_any_ratio "_law_any_ratio" s__law_any_ratio ["pot", "most", "unders"] (spP K F__law_any_ratio)) (l__law_any_ratio : k__law_any_ratio ≤ k) {k__law_pick : Nat} (h__law_pick : Has P w K mg base k__law_pick "_law_pick" s__law_pick ["pot", "some"] (spP K F__law_pick)) (l__law_pick : k__law_pick ≤ k) :
    GSs (cxOf CX0 P w K mg base N__law_any_plan "_law_any_plan" (defScope s__law_any_plan) f cdv A outer s H E).nox G (defBody s__law_any_plan) w__law_any_plan := by
  have nd : (N__law_any_plan : List Str).Nodup := by decide +kernel
  have hu := hr.units
  exact (gss_cons (gs_asg (ge_callH h__law_ends l__law_ends hg hr rfl (ga_cons (ge_var (i := 1) rfl (Or.inl rfl)) ga_nil)) (gg_name (i := 2) nd rfl (Or.inr rfl)))
    (gss_one (gs_ret (ge_t1 call_tuple_of dc_tuple (GE.gb (GF.ge (gf_lc (own := [("at", 3)]) rfl nd (gi_range1 (ge_b1 call_len dc_len (gb_var (i := 1) rfl (Or.inl rfl)) rfl bn.n_len rfl) rfl bn.n_range) (show BlkOk N__law_any_plan (defScope s__law_any_plan) _ _ from ⟨rfl, by decide +kernel, by decide +kernel, by decide +kernel, by decide +kernel⟩) (fun _ _ _ _ _ => (gg_name (i := 3) nd rfl (Or.inl rfl))) (fun _ _ _ _ _ => gpts_nil) (fun _ _ _ _ _ => (ge_if (gt_cmp op_in_seq dr_in (gb_var (i := 3) rfl (Or.inl rfl)) (gb_var (i := 2) rfl (Or.inr (Or.inl rfl))) rfl) (ge_tup (ga_cons ge_int (ga_cons ge_int ga_nil))) (ge_callPH (i := 0) h__law_any_ratio l__law_any_ratio hg hr rfl rfl (Or.inr (Or.inl rfl)) (ga_cons (ge_callPH (i := 0) h__law_pick l__law_pick hg hr rfl rfl (Or.inr (Or.inl rfl)) (ga_cons (ge_lst (ga_cons ge_int (ga_cons ge_int (ga_cons ge_int ga_nil)))) ga_nil)) (ga_cons ge_int ga_nil)))))))) rfl bn.n_tuple rfl))))
theorem b__law_is_plan {P : Program} {w : World} {K : PySem.W.Frag} {mg : Str → Option Value} {base : Heap} (bn : Bn mg) (cn : Cn K mg) {cdv : Value} {A : Around} {outer : List PySem.Env} {s : Shared} {H : Hp} {E : XK} {G : Gh} {f : Addr} {k : Nat} (hg : A.guards = some []) (hr : Room k (A.deeper (envOfC "_law_is_plan" (defScope s__law_is_plan) s.heap.objs.size f cdv))) {k__law_is_ratio : Nat} (h__law_is_ratio : Has P w K mg base k__law_is_ratio "_law_is_ratio" s__law_is_ratio ["value"] (spD K F__law_is_ratio)) (l__law_is_ratio : k__law_is_ratio ≤ k) {k__law_ends : Nat} (h__law_ends : Has P w K mg base k__law_ends "_law_ends" s__law_ends ["moments"] (spD K F__law_ends)) (l__law_ends : k__law_ends ≤ k) :
    GSs (cxOf CX0 P w K mg base N__law_is_plan "_law_is_plan" (defScope s__law_is_plan) f cdv A outer s H E).nox G (defBody s__law_is_plan) w__law_is_plan := by
  have nd : (N__law_is_plan : List Str).Nodup := by decide +kernel
  have hu := hr.units
  exact (gss_cons (gs_if (GW.t (gw_or (gt_not (gt_val (GE.gb (ge_isi (T := "tuple") (gb_var (i := 1) rfl (Or.inr (Or.inl rfl))) kit_tuple rfl bn.n_isinstance rfl rfl bn.n_tuple rfl)))) (gw_or (gt_cmp (op_neD hu) dr_ne (GE.gb (ge_b1 call_len dc_len (gb_var (i := 1) rfl (Or.inr (Or.inl rfl))) rfl bn.n_len rfl)) (GE.gb (ge_b1 call_len dc_len (gb_var (i := 0) rfl (Or.inl rfl)) rfl bn.n_len rfl)) (nomark _)) (gw_or1 (gt_not (gt_val (GE.gb (ge_b1 (cr_all rfl) dc_all (GE.gb (GF.ge (gf_lc (own := [("one", 3)]) rfl nd (gi_tup (ge_var (i := 1) rfl (Or.inr (Or.inl rfl)))) (show BlkOk N__law_is_plan (defScope s__law_is_plan) _ _ from ⟨rfl, by decide +kernel, by decide +kernel, by decide +kernel, by decide +kernel⟩) (fun _ _ _ _ _ => (gg_name (i := 3) nd rfl (Or.inl rfl))) (fun _ _ _ _ _ => gpts_nil) (fun _ _ _ _ _ => (ge_callH h__law_is_ratio l__law_is_ratio hg hr rfl (ga_cons (ge_var (i := 3) rfl (Or.inl rfl)) ga_nil)))))) rfl bn.n_all rfl)))))))) (gss_one (gs_ret ge_bl)) gss_nil)
    (gss_one (gs_ret (ge_b1 (cr_all rfl) dc_all (GE.gb (GF.ge (gf_lc (own := [("at", 2)]) rfl nd (gi_list (ge_callH h__law_ends l__law_ends hg hr rfl (ga_cons (ge_var (i := 0) rfl (Or.inl rfl)) ga_nil))) (show BlkOk N__law_is_plan (defScope s__law_is_plan) _ _ from ⟨rfl, by decide +kernel, by decide +kernel, by decide +kernel, by decide +kernel⟩) (fun _ _ _ _ _ => (gg_name (i := 2) nd rfl (Or.inl rfl))) (fun _ _ _ _ _ => gpts_nil) (fun _ _ _ _ _ => (ge_cmp (op_eqD hu) dr_eq (GE.gb (ge_ix ix_seq dr_ix (gb_var (i := 1) rfl (Or.inr (Or.inl rfl))) (gb_var (i := 2) rfl (Or.inl rfl)) (by intro _ _; rfl))) (GE.gb (ge_tup (ga_cons ge_int (ga_cons ge_int ga_nil)))) (nomark _)))))) rfl bn.n_all rfl))))
theorem b__law_bent {P : Program} {w : World} {K : PySem.W.Frag} {mg : Str → Option Value} {base : Heap} (bn : Bn mg) (cn : Cn K mg) {cdv : Value} {A : Around} {outer : List PySem.Env} {s : Shared} {H : Hp} {E : XK} {G : Gh} {f : Addr} {k : Nat} {F__law_bent : Fs} (hg : A.guards = some []) (hr : Room k (A.deeper (envOfC "_law_bent" (defScope s__law_bent) s.heap.objs.size f cdv))) {k__law_draw : Nat} (h__law_draw : Has P w K mg base k__law_draw "_law_draw" s__law_draw ["pot", "many"] (spP K F__law_draw)) (l__law_draw : k__law_draw ≤ k) {k__law_pick : Nat} (h__law_pick : Has P w K mg base k__law_pick "_law_pick" s__law_pick ["pot", "some"] (spP K F__law_pick)) (l__law_pick : k__law_pick ≤ k) {k__law_bent : Nat} (h__law_bent : Has P w K mg base k__law_bent "_law_bent" s__law_bent ["pot", "value", "odd"] (spP K F__law_bent)) (l__law_bent : k__law_bent ≤ k) :
    GSs (cxOf CX0 P w K mg base N__law_bent "_law_bent" (defScope s__law_bent) f cdv A outer s H E).nox G (defBody s__law_bent) (w__law_bent F__law_bent) := by
  have nd : (N__law_bent : List Str).Nodup := by decide +kernel
  have hu := hr.units
  exact (gss_cons (gs_if (GW.t (gw_or (gt_not (gt_val (GE.gb (ge_isi2 (T := "list") (U := "tuple") (gb_var (i := 1) rfl (Or.inl rfl)) kit_list kit_tuple rfl bn.n_isinstance rfl rfl bn.n_list rfl rfl bn.n_tuple rfl)))) (gw_or (gt_cmp (op_eqD hu) dr_eq (GE.gb (ge_b1 call_len dc_len (gb_var (i := 1) rfl (Or.inl rfl)) rfl bn.n_len rfl)) (GE.gb ge_int) (nomark _)) (gw_or1 (gt_cmp (op_eqD hu) dr_eq (GE.gb (ge_callPH (i := 0) h__law_draw l__law_draw hg hr rfl rfl (Or.inl rfl) (ga_cons ge_int ga_nil))) (GE.gb ge_int) (nomark _)))))) (gss_one (gs_ret (ge_callPH (i := 0) h__law_pick l__law_pick hg hr rfl rfl (Or.inl rfl) (ga_cons (ge_var (i := 2) rfl (Or.inl rfl)) ga_nil)))) gss_nil)
    (gss_cons (gs_par3 (i := 3) (j := 4) (n := 5) rfl nd rfl rfl rfl (by decide) (by decide) (by decide) rfl rfl rfl (gm_own (gf_list (gb_var (i := 1) rfl (Or.inl rfl)) rfl bn.n_list rfl) (gm_dat (ge_callPH (i := 0) h__law_draw l__law_draw hg hr rfl rfl (Or.inl rfl) (ga_cons (ge_b1 call_len dc_len (gb_var (i := 1) rfl (Or.inl rfl)) rfl bn.n_len rfl) ga_nil)) (gm_dat (ge_callPH (i := 0) h__law_draw l__law_draw hg hr rfl rfl (Or.inl rfl) (ga_cons ge_int ga_nil)) gm_nil))))
    (gss_cons (gs_if (gt_cmp op_lt dr_ci (gb_var (i := 5) rfl (Or.inl rfl)) (GE.gb ge_int) (nomark _)) (gss_one (gs_set (i := 3) (ge_callPH (i := 0) h__law_bent l__law_bent hg hr rfl rfl (Or.inl rfl) (ga_cons (ge_ix ix_seq dr_ix (gb_var (i := 3) rfl (Or.inl rfl)) (gb_var (i := 4) rfl (Or.inl rfl)) (by intro _ _; rfl)) (ga_cons (ge_var (i := 2) rfl (Or.inl rfl)) ga_nil))) (ge_var (i := 4) rfl (Or.inl rfl)) rfl (Or.inl rfl))) (gss_one (gs_if (gt_cmp (op_eqD hu) dr_eq (gb_var (i := 5) rfl (Or.inl rfl)) (GE.gb ge_int) (nomark _)) (gss_one (gs_own (i := 3) (gf_cat (GE.gb (ge_sl (gb_var (i := 3) rfl (Or.inl rfl)) go_none (go_some (gb_var (i := 4) rfl (Or.inl rfl))))) (GE.gb (ge_sl (gb_var (i := 3) rfl (Or.inl rfl)) (go_some (GE.gb (ge_op op_addA dr_add (gb_var (i := 4) rfl (Or.inl rfl)) (GE.gb ge_int)))) go_none))) nd rfl (Or.inl rfl))) (gss_one (gs_if (gt_cmp (op_eqD hu) dr_eq (gb_var (i := 5) rfl (Or.inl rfl)) (GE.gb ge_int) (nomark _)) (gss_one (gs_own (i := 3) (gf_cat (GE.gb (ge_sl (gb_var (i := 3) rfl (Or.inl rfl)) go_none (go_some (GE.gb (ge_op op_addA dr_add (gb_var (i := 4) rfl (Or.inl rfl)) (GE.gb ge_int)))))) (GE.gb (ge_sl (gb_var (i := 3) rfl (Or.inl rfl)) (go_some (gb_var (i := 4) rfl (Or.inl rfl))) go_none))) nd rfl (Or.inl rfl))) (gss_one (gs_if (gt_cmp (op_eqD hu) dr_eq (gb_var (i := 5) rfl (Or.inl rfl)) (GE.gb ge_int) (nomark _)) (gss_one (gs_ret (ge_if (gt_val (GE.gb (ge_isi (T := "list") (gb_var (i := 1) rfl (Or.inl rfl)) kit_list rfl bn.n_isinstance rfl rfl bn.n_list rfl))) (ge_t1 call_tuple_of dc_tuple (gb_var (i := 3) rfl (Or.inl rfl)) rfl bn.n_tuple rfl) (ge_t1 call_list_of dc_list (gb_var (i := 3) rfl (Or.inl rfl)) rfl bn.n_list rfl)))) (gss_one (gs_own (i := 3) (gf_cat (GE.gb (ge_op op_addA dr_add (GE.gb (ge_sl (gb_var (i := 3) rfl (Or.inl rfl)) go_none (go_some (gb_var (i := 4) rfl (Or.inl rfl))))) (GE.gb (ge_rev (GE.gb (ge_sl (gb_var (i := 3) rfl (Or.inl rfl)) (go_some (gb_var (i := 4) rfl (Or.inl rfl))) (go_some (GE.gb (ge_op op_addA dr_add (gb_var (i := 4) rfl (Or.inl rfl)) (GE.gb ge_int)))))))))) (GE.gb (ge_sl (gb_var (i := 3) rfl (Or.inl rfl)) (go_some (GE.gb (ge_op op_addA dr_add (gb_var (i := 4) rfl (Or.inl rfl)) (GE.gb ge_int)))) go_none))) nd rfl (Or.inl rfl))))))))))
    (gss_frz 3 (gss_one (gs_ret (ge_if (gt_val (GE.gb (ge_isi (T := "list") (gb_var (i := 1) rfl (Or.inl rfl)) kit_list rfl bn.n_isinstance rfl rfl bn.n_list rfl))) (ge_var (i := 3) rfl (Or.inl rfl)) (ge_t1 call_tuple_of dc_tuple (gb_var (i := 3) rfl (Or.inl rfl)) rfl bn.n_tuple rfl))))))))
theorem b__law_is_within {P : Program} {w : World} {K : PySem.W.Frag} {mg : Str → Option Value} {base : Heap} (bn : Bn mg) (cn : Cn K mg) {cdv : Value} {A : Around} {outer : List PySem.Env} {s : Shared} {H : Hp} {E : XK} {G : Gh} {f : Addr} {k : Nat} (hg : A.guards = some []) (hr : Room k (A.deeper (envOfC "_law_is_within" (defScope s__law_is_within) s.heap.objs.size f cdv))) {k__law_is_whole : Nat} (h__law_is_whole : Has P w K mg base k__law_is_whole "_law_is_whole" s__law_is_whole ["value"] (spD K F__law_is_whole)) (l__law_is_whole : k__law_is_whole ≤ k) :
    GSs (cxOf CX0 P w K mg base N__law_is_within "_law_is_within" (defScope s__law_is_within) f cdv A outer s H E).nox G (defBody s__law_is_within) w__law_is_within := by
  have nd : (N__law_is_within : List Str).Nodup := by decide +kernel
  have hu := hr.units
  exact (gss_one (gs_ret (ge_and (ge_callH h__law_is_whole l__law_is_whole hg hr rfl (ga_cons (ge_var (i := 0) rfl (Or.inl rfl)) ga_nil)) (ge_one (ge_ch op_le dr_ci op_le dr_ci (gb_var (i := 1) rfl (Or.inl rfl)) (gb_var (i := 0) rfl (Or.inl rfl)) (gb_var (i := 2) rfl (Or.inl rfl)))))))
theorem b__law_are_moments {P : Program} {w : World} {K : PySem.W.Frag} {mg : Str → Option Value} {base : Heap} (bn : Bn mg) (cn : Cn K mg) {cdv : Value} {A : Around} {outer : List PySem.Env} {s : Shared} {H : Hp} {E : XK} {G : Gh} {f : Addr} {k : Nat} (hg : A.guards = some []) (hr : Room k (A.deeper (envOfC "_law_are_moments" (defScope s__law_are_moments) s.heap.objs.size f cdv))) {k__law_is_within : Nat} (h__law_is_within : Has P w K mg base k__law_is_within "_law_is_within" s__law_is_within ["value", "low", "high"] (spD K F__law_is_within)) (l__law_is_within : k__law_is_within ≤ k) :
    GSs (cxOf CX0 P w K mg base N__law_are_moments "_law_are_moments" (defScope s__law_are_moments) f cdv A outer s H E).nox G (defBody s__law_are_moments) w__law_are_moments := by
  have nd : (N__law_are_moments : List Str).Nodup := by decide +kernel
  have hu := hr.units
  exact (gss_cons (gs_if (GW.t (gw_or (gt_not (gt_val (GE.gb (ge_isi (T := "tuple") (gb_var (i := 0) rfl (Or.inl rfl)) kit_tuple rfl bn.n_isinstance rfl rfl bn.n_tuple rfl)))) (gw_or1 (gt_not (gt_ch op_le dr_ci op_le dr_ci (GE.gb ge_int) (GE.gb (ge_b1 call_len dc_len (gb_var (i := 0) rfl (Or.inl rfl)) rfl bn.n_len rfl)) (GE.gb ge_int)))))) (gss_one (gs_ret ge_bl)) gss_nil)
    (gss_cons (gs_for PassesOwn.never rfl (gi_enumT (ge_var (i := 0) rfl (Or.inl rfl)) rfl bn.n_enumerate) (gg_tup rfl (ggs_cons (gg_name (i := 1) nd rfl (Or.inl rfl)) (ggs_cons (gg_name (i := 2) nd rfl (Or.inl rfl)) ggs_nil))) (gss_one (gs_if (GW.t (gw_or (gt_not (gt_val (GE.gb (ge_isi (T := "tuple") (gb_var (i := 2) rfl (Or.inl rfl)) kit_tuple rfl bn.n_isinstance rfl rfl bn.n_tuple rfl)))) (gw_or (gt_cmp (op_neD hu) dr_ne (GE.gb (ge_b1 call_len dc_len (gb_var (i := 2) rfl (Or.inl rfl)) rfl bn.n_len rfl)) (GE.gb ge_int) (nomark _)) (gw_or (gt_not (gt_val (GE.gb (ge_callH h__law_is_within l__law_is_within hg hr rfl (ga_cons (ge_ix ix_seq dr_ix (gb_var (i := 2) rfl (Or.inl rfl)) (GE.gb ge_int) (by intro _ _; rfl)) (ga_cons ge_int (ga_cons (ge_b2 (call_max2 rfl) dc_max2 (GE.gb ge_int) (GE.gb (ge_op op_sub dr_sub (gb_var (i := 1) rfl (Or.inl rfl)) (GE.gb ge_int))) rfl bn.n_max rfl) ga_nil))))))) (gw_or (gt_not (gt_val (GE.gb (ge_callH h__law_is_within l__law_is_within hg hr rfl (ga_cons (ge_ix ix_seq dr_ix (gb_var (i := 2) rfl (Or.inl rfl)) (GE.gb ge_int) (by intro _ _; rfl)) (ga_cons ge_int (ga_cons ge_int ga_nil))))))) (gw_or (gt_not (gt_val (GE.gb (ge_callH h__law_is_within l__law_is_within hg hr rfl (ga_cons (ge_ix ix_seq dr_ix (gb_var (i := 2) rfl (Or.inl rfl)) (GE.gb ge_int) (by intro _ _; rfl)) (ga_cons ge_int (ga_cons ge_int ga_nil))))))) (gw_or1 (gt_cmp op_gt dr_ci (GE.gb (ge_ix ix_seq dr_ix (gb_var (i := 2) rfl (Or.inl rfl)) (GE.gb ge_int) (by intro _ _; rfl))) (GE.gb (ge_ix ix_seq dr_ix (gb_var (i := 2) rfl (Or.inl rfl)) (GE.gb ge_int) (by intro _ _; rfl))) (nomark _))))))))) (gss_one (gs_ret ge_bl)) gss_nil)))
    (gss_one (gs_ret ge_bl))))
theorem b__law_is_pay {P : Program} {w : World} {K : PySem.W.Frag} {mg : Str → Option Value} {base : Heap} (bn : Bn mg) (cn : Cn K mg) {cdv : Value} {A : Around} {outer : List PySem.Env} {s : Shared} {H : Hp} {E : XK} {G : Gh} {f : Addr} {k : Nat} (hg : A.guards = some []) (hr : Room k (A.deeper (envOfC "_law_is_pay" (defScope s__law_is_pay) s.heap.objs.size f cdv))) {k__law_is_within : Nat} (h__law_is_within : Has P w K mg base k__law_is_within "_law_is_within" s__law_is_within ["value", "low", "high"] (spD K F__law_is_within)) (l__law_is_within : k__law_is_within ≤ k) :
    GSs (cxOf CX0 P w K mg base N__law_is_pay "_law_is_pay" (defScope s__law_is_pay) f cdv A outer s H E).nox G (defBody s__law_is_pay) w__law_is_pay := by
  have nd : (N__law_is_pay : List Str).Nodup := by decide +kernel
  have hu := hr.units
  exact (gss_one (gs_ret (ge_and (ge_isi (T := "tuple") (gb_var (i := 0) rfl (Or.inl rfl)) kit_tuple rfl bn.n_isinstance rfl rfl bn.n_tuple rfl) (ge_and (ge_cmp (op_eqD hu) dr_eq (GE.gb (ge_b1 call_len dc_len (gb_var (i := 0) rfl (Or.inl rfl)) rfl bn.n_len rfl)) (GE.gb ge_int) (nomark _)) (ge_one (ge_b1 (cr_all rfl) dc_all (GE.gb (GF.ge (gf_lc (own := [("one", 1)]) rfl nd (gi_tup (ge_var (i := 0) rfl (Or.inl rfl))) (show BlkOk N__law_is_pay (defScope s__law_is_pay) _ _ from ⟨rfl, by decide +kernel, by decide +kernel, by decide +kernel, by decide +kernel⟩) (fun _ _ _ _ _ => (gg_name (i := 1) nd rfl (Or.inl rfl))) (fun _ _ _ _ _ => gpts_nil) (fun _ _ _ _ _ => (ge_callH h__law_is_within l__law_is_within hg hr rfl (ga_cons (ge_var (i := 1) rfl (Or.inl rfl)) (ga_cons (ge_un un_neg dr_neg (GE.gb ge_int)) (ga_cons ge_int ga_nil)))))))) rfl bn.n_all rfl))))))
theorem b__law_is_promise {P : Program} {w : World} {K : PySem.W.Frag} {mg : Str → Option Value} {base : Heap} (bn : Bn mg) (cn : Cn K mg) {cdv : Value} {A : Around} {outer : List PySem.Env} {s : Shared} {H : Hp} {E : XK} {G : Gh} {f : Addr} {k : Nat} (hg : A.guards = some []) (hr : Room k (A.deeper (envOfC "_law_is_promise" (defScope s__law_is_promise) s.heap.objs.size f cdv))) {k__law_ends : Nat} (h__law_ends : Has P w K mg base k__law_ends "_law_ends" s__law_ends ["moments"] (spD K F__law_ends)) (l__law_ends : k__law_ends ≤ k) {k__law_is_pay : Nat} (h__law_is_pay : Has P w K mg base k__law_is_pay "_law_is_pay" s__law_is_pay ["value"] (spD K F__law_is_pay)) (l__law_is_pay : k__law_is_pay ≤ k) :
    GSs (cxOf CX0 P w K mg base N__law_is_promise "_law_is_promise" (defScope s__law_is_promise) f cdv A outer s H E).nox G (defBody s__law_is_promise) w__law_is_promise := by
  have nd : (N__law_is_promise : List Str).Nodup := by decide +kernel
  have hu := hr.units
  exact (gss_cons (gs_if (GW.t (gw_or (gt_not (gt_val (GE.gb (ge_isi (T := "tuple") (gb_var (i := 1) rfl (Or.inl rfl)) kit_tuple rfl bn.n_isinstance rfl rfl bn.n_tuple rfl)))) (gw_or1 (gt_cmp (op_neD hu) dr_ne (GE.gb (ge_b1 call_len dc_len (gb_var (i := 1) rfl (Or.inl rfl)) rfl bn.n_len rfl)) (GE.gb (ge_b1 call_len dc_len (gb_var (i := 0) rfl (Or.inl rfl)) rfl bn.n_len rfl)) (nomark _))))) (gss_one (gs_ret ge_bl)) gss_nil)
    (gss_cons (gs_asg (ge_callH h__law_ends l__law_ends hg hr rfl (ga_cons (ge_var (i := 0) rfl (Or.inl rfl)) ga_nil)) (gg_name (i := 2) nd rfl (Or.inl rfl)))
    (gss_cons (gs_for PassesOwn.never rfl (gi_enumT (ge_var (i := 1) rfl (Or.inl rfl)) rfl bn.n_enumerate) (gg_tup rfl (ggs_cons (gg_name (i := 3) nd rfl (Or.inl rfl)) (ggs_cons (gg_name (i := 4) nd rfl (Or.inl rfl)) ggs_nil))) (gss_cons (gs_if (GW.t (gw_or (gt_not (gt_val (GE.gb (ge_isi (T := "tuple") (gb_var (i := 4) rfl (Or.inl rfl)) kit_tuple rfl bn.n_isinstance rfl rfl bn.n_tuple rfl)))) (gw_or (gt_cmp (op_neD hu) dr_ne (GE.gb (ge_b1 call_len dc_len (gb_var (i := 4) rfl (Or.inl rfl)) rfl bn.n_len rfl)) (GE.gb ge_int) (nomark _)) (gw_or1 (gt_not (gt_val (GE.gb (ge_b1 (cr_all rfl) dc_all (GE.gb (GF.ge (gf_lc (own := [("one", 5)]) rfl nd (gi_tup (ge_var (i := 4) rfl (Or.inl rfl))) (show BlkOk N__law_is_promise (defScope s__law_is_promise) _ _ from ⟨rfl, by decide +kernel, by decide +kernel, by decide +kernel, by decide +kernel⟩) (fun _ _ _ _ _ => (gg_name (i := 5) nd rfl (Or.inl rfl))) (fun _ _ _ _ _ => gpts_nil) (fun _ _ _ _ _ => (ge_or (ge_cmp op_isN dr_isN (gb_var (i := 5) rfl (Or.inl rfl)) (GE.gb ge_non) (nomark _)) (ge_one (ge_callH h__law_is_pay l__law_is_pay hg hr rfl (ga_cons (ge_var (i := 5) rfl (Or.inl rfl)) ga_nil)))))))) rfl bn.n_all rfl)))))))) (gss_one (gs_ret ge_bl)) gss_nil)
    (gss_one (gs_if (GW.t (gw_and (gt_cmp op_in_seq dr_in (gb_var (i := 3) rfl (Or.inl rfl)) (gb_var (i := 2) rfl (Or.inl rfl)) rfl) (gw_and1 (GW.t (gw_or (gt_cmp op_isN dr_isN (GE.gb (ge_ix ix_seq dr_ix (gb_var (i := 4) rfl (Or.inl rfl)) (GE.gb ge_int) (by intro _ _; rfl))) (GE.gb ge_non) (nomark _)) (gw_or1 (gt_cmp op_notN dr_notN (GE.gb (ge_ix ix_seq dr_ix (gb_var (i := 4) rfl (Or.inl rfl)) (GE.gb ge_int) (by intro _ _; rfl))) (GE.gb ge_non) (nomark _)))))))) (gss_one (gs_ret ge_bl)) gss_nil))))
    (gss_one (gs_ret ge_bl)))))
theorem b__law_is_house {P : Program} {w : World} {K : PySem.W.Frag} {mg : Str → Option Value} {base : Heap} (bn : Bn mg) (cn : Cn K mg) {cdv : Value} {A : Around} {outer : List PySem.Env} {s : Shared} {H : Hp} {E : XK} {G : Gh} {f : Addr} {k : Nat} (hg : A.guards = some []) (hr : Room k (A.deeper (envOfC "_law_is_house" (defScope s__law_is_house) s.heap.objs.size f cdv))) {k__law_are_moments : Nat} (h__law_are_moments : Has P w K mg base k__law_are_moments "_law_are_moments" s__law_are_moments ["value"] (spD K F__law_are_moments)) (l__law_are_moments : k__law_are_moments ≤ k) {k__law_is_promise : Nat} (h__law_is_promise : Has P w K mg base k__law_is_promise "_law_is_promise" s__law_is_promise ["moments", "value"] (spD K F__law_is_promise)) (l__law_is_promise : k__law_is_promise ≤ k) :
    GSs (cxOf CX0 P w K mg base N__law_is_house "_law_is_house" (defScope s__law_is_house) f cdv A outer s H E).nox G (defBody s__law_is_house) w__law_is_house := by
  have nd : (N__law_is_house : List Str).Nodup := by decide +kernel
  have hu := hr.units
  exact (gss_cons (gs_if (GW.t (gw_or (gt_not (gt_val (GE.gb (ge_isi (T := "tuple") (gb_var (i := 0) rfl (Or.inr (Or.inl rfl))) kit_tuple rfl bn.n_isinstance rfl rfl bn.n_tuple rfl)))) (gw_or (gt_cmp (op_neD hu) dr_ne (GE.gb (ge_b1 call_len dc_len (gb_var (i := 0) rfl (Or.inr (Or.inl rfl))) rfl bn.n_len rfl)) (GE.gb ge_int) (nomark _)) (gw_or (gt_not (gt_val (GE.gb (ge_isi (T := "str") (GE.gb (ge_ix ix_seq dr_ix (gb_var (i := 0) rfl (Or.inr (Or.inl rfl))) (GE.gb ge_int) (by intro _ _; rfl))) kit_str rfl bn.n_isinstance rfl rfl bn.n_str rfl)))) (gw_or (gt_cmp (op_neD hu) dr_ne (GE.gb (ge_ix ix_seq dr_ix (gb_var (i := 0) rfl (Or.inr (Or.inl rfl))) (GE.gb ge_int) (by intro _ _; rfl))) (GE.gb ge_str) (nomark _)) (gw_or1 (gt_not (gt_val (GE.gb (ge_callH h__law_are_moments l__law_are_moments hg hr rfl (ga_cons (ge_ix ix_seq dr_ix (gb_var (i := 0) rfl (Or.inr (Or.inl rfl))) (GE.gb ge_int) (by intro _ _; rfl)) ga_nil))))))))))) (gss_one (gs_ret ge_bl)) gss_nil)
    (gss_one (gs_ret (ge_and (ge_isi (T := "tuple") (GE.gb (ge_ix ix_seq dr_ix (gb_var (i := 0) rfl (Or.inr (Or.inl rfl))) (GE.gb ge_int) (by intro _ _; rfl))) kit_tuple rfl bn.n_isinstance rfl rfl bn.n_tuple rfl) (ge_and (ge_cmp op_le dr_ci (GE.gb (ge_b1 call_len dc_len (GE.gb (ge_ix ix_seq dr_ix (gb_var (i := 0) rfl (Or.inr (Or.inl rfl))) (GE.gb ge_int) (by intro _ _; rfl))) rfl bn.n_len rfl)) (GE.gb ge_int) (nomark _)) (ge_one (ge_b1 (cr_all rfl) dc_all (GE.gb (GF.ge (gf_lc (own := [("promise", 1)]) rfl nd (gi_tup (ge_ix ix_seq dr_ix (gb_var (i := 0) rfl (Or.inr (Or.inl rfl))) (GE.gb ge_int) (by intro _ _; rfl))) (show BlkOk N__law_is_house (defScope s__law_is_house) _ _ from ⟨rfl, by decide +kernel, by decide +kernel, by decide +kernel, by decide +kernel⟩) (fun _ _ _ _ _ => (gg_name (i := 1) nd rfl (Or.inl rfl))) (fun _ _ _ _ _ => gpts_nil) (fun _ _ _ _ _ => (ge_callH h__law_is_promise l__law_is_promise hg hr rfl (ga_cons (ge_ix ix_seq dr_ix (gb_var (i := 0) rfl (Or.inr (Or.inl rfl))) (GE.gb ge_int) (by intro _ _; rfl)) (ga_cons (ge_var (i := 1) rfl (Or.inl rfl)) ga_nil))))))) rfl bn.n_all rfl)))))))
theorem b__law_put {P : Program} {w : World} {K : PySem.W.Frag} {mg : Str → Option Value} {base : Heap} (bn : Bn mg) (cn : Cn K mg) {cdv : Value} {A : Around} {outer : List PySem.Env} {s : Shared} {H : Hp} {E : XK} {G : Gh} {f : Addr} {k : Nat} (hg : A.guards = some []) (hr : Room k (A.deeper (envOfC "_law_put" (defScope s__law_put) s.heap.objs.size f cdv)))  :
    GSs (cxOf CX0 P w K mg base N__law_put "_law_put" (defScope s__law_put) f cdv A outer s H E).nox G (defBody s__law_put) w__law_put := by
  have nd : (N__law_put : List Str).Nodup := by decide +kernel
  have hu := hr.units
  exact (gss_one (gs_ret (ge_op op_addA dr_add (GE.gb (ge_op op_addA dr_add (GE.gb (ge_sl (gb_var (i := 0) rfl (Or.inl rfl)) go_none (go_some (gb_var (i := 1) rfl (Or.inl rfl))))) (GE.gb (ge_tup (ga_cons (ge_var (i := 2) rfl (Or.inl rfl)) ga_nil))))) (GE.gb (ge_sl (gb_var (i := 0) rfl (Or.inl rfl)) (go_some (GE.gb (ge_op op_addA dr_add (gb_var (i := 1) rfl (Or.inl rfl)) (GE.gb ge_int)))) go_none)))))
theorem b__law_near {P : Program} {w : World} {K : PySem.W.Frag} {mg : Str → Option Value} {base : Heap} (bn : Bn mg) (cn : Cn K mg) {cdv : Value} {A : Around} {outer : List PySem.Env} {s : Shared} {H : Hp} {E : XK} {G : Gh} {f : Addr} {k : Nat} (hg : A.guards = some []) (hr : Room k (A.deeper (envOfC "_law_near" (defScope s__law_near) s.heap.objs.size f cdv))) {k__law_draw : Nat} (h__law_draw : Has P w K mg base k__law_draw "_law_draw" s__law_draw ["pot", "many"] (spP K F__law_draw)) (l__law_draw : k__law_draw ≤ k) {k__law_put : Nat} (h__law_put : Has P w K mg base k__law_put "_law_put" s__law_put ["some", "at", "value"] (spD K F__law_put)) (l__law_put : k__law_put ≤ k) :
    GSs (cxOf CX0 P w K mg base N__law_near "_law_near" (defScope s__law_near) f cdv A outer s H E).nox G (defBody s__law_near) w__law_near := by
  have nd : (N__law_near : List Str).Nodup := by decide +kernel
  have hu := hr.units
  exact (gss_cons (gs_asg (ge_var (i := 1) rfl (Or.inl rfl)) (gg_tup rfl (ggs_cons (gg_name (i := 4) nd rfl (Or.inr rfl)) (ggs_cons (gg_name (i := 5) nd rfl (Or.inr rfl)) (ggs_cons (gg_name (i := 6) nd rfl (Or.inr rfl)) ggs_nil)))))
    (gss_cons (gs_parG (is := [7, 8]) rfl (pgs_nmC (i := 7) nd rfl (Or.inr rfl) (pgs_nmC (i := 8) nd rfl (Or.inl rfl) pgs_nmN)) (gm_dat (ge_callPH (i := 0) h__law_draw l__law_draw hg hr rfl rfl (Or.inl rfl) (ga_cons (ge_b1 call_len dc_len (gb_var (i := 5) rfl (Or.inr (Or.inl rfl))) rfl bn.n_len rfl) ga_nil)) (gm_dat (ge_b1 call_len dc_len (gb_var (i := 5) rfl (Or.inr (Or.inl rfl))) rfl bn.n_len rfl) gm_nil)))
    (gss_cons (gs_asg (ge_ix ix_seq dr_ix (gb_var (i := 5) rfl (Or.inr (Or.inl rfl))) (gb_var (i := 7) rfl (Or.inr (Or.inl rfl))) (by intro _ _; rfl)) (gg_tup rfl (ggs_cons (gg_name (i := 9) nd rfl (Or.inl rfl)) (ggs_cons (gg_name (i := 10) nd rfl (Or.inl rfl)) (ggs_cons (gg_name (i := 11) nd rfl (Or.inl rfl)) ggs_nil)))))
    (gss_cons (gs_asg (ge_lst (ga_cons (ge_tup (ga_cons (ge_var (i := 9) rfl (Or.inl rfl)) (ga_cons ge_int (ga_cons (ge_var (i := 11) rfl (Or.inl rfl)) ga_nil)))) (ga_cons (ge_tup (ga_cons (ge_var (i := 9) rfl (Or.inl rfl)) (ga_cons (ge_var (i := 10) rfl (Or.inl rfl)) (ga_cons ge_int ga_nil)))) (ga_cons (ge_tup (ga_cons (ge_var (i := 9) rfl (Or.inl rfl)) (ga_cons (ge_op op_addA dr_add (gb_var (i := 11) rfl (Or.inl rfl)) (GE.gb ge_int)) (ga_cons (ge_var (i := 11) rfl (Or.inl rfl)) ga_nil)))) (ga_cons (ge_tup (ga_cons (ge_var (i := 9) rfl (Or.inl rfl)) (ga_cons (ge_var (i := 11) rfl (Or.inl rfl)) (ga_cons (ge_var (i := 11) rfl (Or.inl rfl)) ga_nil)))) (ga_cons (ge_tup (ga_cons (ge_var (i := 7) rfl (Or.inr (Or.inl rfl))) (ga_cons (ge_var (i := 10) rfl (Or.inl rfl)) (ga_cons (ge_var (i := 11) rfl (Or.inl rfl)) ga_nil)))) (ga_cons (ge_tup (ga_cons (ge_b2 (call_max2 rfl) dc_max2 (GE.gb ge_int) (GE.gb (ge_op op_sub dr_sub (gb_var (i := 7) rfl (Or.inr (Or.inl rfl))) (GE.gb ge_int))) rfl bn.n_max rfl) (ga_cons (ge_var (i := 10) rfl (Or.inl rfl)) (ga_cons (ge_var (i := 11) rfl (Or.inl rfl)) ga_nil)))) (ga_cons (ge_tup (ga_cons (ge_un un_neg dr_neg (GE.gb ge_int)) (ga_cons (ge_var (i := 10) rfl (Or.inl rfl)) (ga_cons (ge_var (i := 11) rfl (Or.inl rfl)) ga_nil)))) (ga_cons (ge_tup (ga_cons ge_bl (ga_cons (ge_var (i := 10) rfl (Or.inl rfl)) (ga_cons (ge_var (i := 11) rfl (Or.inl rfl)) ga_nil)))) (ga_cons (ge_tup (ga_cons (ge_var (i := 9) rfl (Or.inl rfl)) (ga_cons ge_bl (ga_cons (ge_var (i := 11) rfl (Or.inl rfl)) ga_nil)))) (ga_cons (ge_tup (ga_cons (ge_var (i := 9) rfl (Or.inl rfl)) (ga_cons ge_int (ga_cons ge_int ga_nil)))) (ga_cons (ge_tup (ga_cons (ge_var (i := 9) rfl (Or.inl rfl)) (ga_cons (ge_var (i := 10) rfl (Or.inl rfl)) ga_nil))) (ga_cons (ge_tup (ga_cons (ge_var (i := 9) rfl (Or.inl rfl)) (ga_cons (ge_var (i := 10) rfl (Or.inl rfl)) (ga_cons (ge_var (i := 11) rfl (Or.inl rfl)) (ga_cons (ge_var (i := 11) rfl (Or.inl rfl)) ga_nil))))) (ga_cons (ge_lst (ga_cons (ge_var (i := 9) rfl (Or.inl rfl)) (ga_cons (ge_var (i := 10) rfl (Or.inl rfl)) (ga_cons (ge_var (i := 11) rfl (Or.inl rfl)) ga_nil)))) (ga_cons ge_non ga_nil))))))))))))))) (gg_name (i := 2) nd rfl (Or.inl rfl)))
    (gss_cons (gs_lcO (i := 3) (own := [("row", 15)]) rfl nd rfl rfl (sw_true rfl rfl rfl rfl) (gi_list (ge_var (i := 2) rfl (Or.inl rfl))) (show BlkOk N__law_near (defScope s__law_near) _ _ from ⟨rfl, by decide +kernel, by decide +kernel, by decide +kernel, by decide +kernel⟩) (fun _ _ _ _ _ => (gg_name (i := 15) nd rfl (Or.inl rfl))) (fun _ _ _ _ _ => gpts_nil) (fun _ _ _ _ _ => (ge_tup (ga_cons (ge_var (i := 4) rfl (Or.inr (Or.inl rfl))) (ga_cons (ge_callH h__law_put l__law_put hg hr rfl (ga_cons (ge_var (i := 5) rfl (Or.inr (Or.inl rfl))) (ga_cons (ge_var (i := 7) rfl (Or.inr (Or.inl rfl))) (ga_cons (ge_var (i := 15) rfl (Or.inl rfl)) ga_nil)))) (ga_cons (ge_var (i := 6) rfl (Or.inr (Or.inl rfl))) ga_nil))))))
    (gss_cons (gs_ext (i := 3) (ge_lst (ga_cons (ge_tup (ga_cons (ge_var (i := 4) rfl (Or.inr (Or.inl rfl))) (ga_cons (ge_op op_addA dr_add (gb_var (i := 5) rfl (Or.inr (Or.inl rfl))) (GE.gb (ge_tup (ga_cons (ge_tup (ga_cons (ge_op op_sub dr_sub (gb_var (i := 8) rfl (Or.inl rfl)) (GE.gb ge_int)) (ga_cons ge_int (ga_cons ge_int ga_nil)))) ga_nil)))) (ga_cons (ge_var (i := 6) rfl (Or.inr (Or.inl rfl))) ga_nil)))) (ga_cons (ge_tup (ga_cons (ge_var (i := 4) rfl (Or.inr (Or.inl rfl))) (ga_cons (ge_sl (gb_var (i := 5) rfl (Or.inr (Or.inl rfl))) go_none (go_some (GE.gb (ge_un un_neg dr_neg (GE.gb ge_int))))) (ga_cons (ge_var (i := 6) rfl (Or.inr (Or.inl rfl))) ga_nil)))) (ga_cons (ge_tup (ga_cons (ge_var (i := 4) rfl (Or.inr (Or.inl rfl))) (ga_cons (ge_tup ga_nil) (ga_cons (ge_var (i := 6) rfl (Or.inr (Or.inl rfl))) ga_nil)))) (ga_cons (ge_tup (ga_cons (ge_var (i := 4) rfl (Or.inr (Or.inl rfl))) (ga_cons (ge_t1 call_list_of dc_list (gb_var (i := 5) rfl (Or.inr (Or.inl rfl))) rfl bn.n_list rfl) (ga_cons (ge_var (i := 6) rfl (Or.inr (Or.inl rfl))) ga_nil)))) (ga_cons (ge_tup (ga_cons (ge_var (i := 4) rfl (Or.inr (Or.inl rfl))) (ga_cons (ge_var (i := 5) rfl (Or.inr (Or.inl rfl))) (ga_cons (ge_t1 call_list_of dc_list (gb_var (i := 6) rfl (Or.inr (Or.inl rfl))) rfl bn.n_list rfl) ga_nil)))) (ga_cons (ge_tup (ga_cons (ge_var (i := 4) rfl (Or.inr (Or.inl rfl))) (ga_cons (ge_var (i := 5) rfl (Or.inr (Or.inl rfl))) (ga_cons (ge_op op_mulB dr_mulB (gb_var (i := 6) rfl (Or.inr (Or.inl rfl))) (GE.gb ge_int)) ga_nil)))) (ga_cons (ge_tup (ga_cons (ge_var (i := 4) rfl (Or.inr (Or.inl rfl))) (ga_cons (ge_var (i := 5) rfl (Or.inr (Or.inl rfl))) ga_nil))) (ga_cons (ge_op op_addA dr_add (gb_var (i := 1) rfl (Or.inl rfl)) (GE.gb (ge_tup (ga_cons (ge_tup ga_nil) ga_nil)))) (ga_cons (ge_t1 call_list_of dc_list (gb_var (i := 1) rfl (Or.inl rfl)) rfl bn.n_list rfl) (ga_cons (ge_tup (ga_cons ge_str (ga_cons (ge_var (i := 5) rfl (Or.inr (Or.inl rfl))) (ga_cons (ge_var (i := 6) rfl (Or.inr (Or.inl rfl))) ga_nil)))) (ga_cons (ge_tup (ga_cons ge_non (ga_cons (ge_var (i := 5) rfl (Or.inr (Or.inl rfl))) (ga_cons (ge_var (i := 6) rfl (Or.inr (Or.inl rfl))) ga_nil)))) ga_nil)))))))))))) rfl (Or.inl rfl))
    (gss_cons (gs_if (gt_cmp (op_neD hu) dr_ne (gb_var (i := 6) rfl (Or.inr (Or.inl rfl))) (GE.gb (ge_tup ga_nil)) (nomark _)) (gss_cons (gs_asg (ge_callPH (i := 0) h__law_draw l__law_draw hg hr rfl rfl (Or.inl rfl) (ga_cons (ge_b1 call_len dc_len (gb_var (i := 6) rfl (Or.inr (Or.inl rfl))) rfl bn.n_len rfl) ga_nil)) (gg_name (i := 12) nd rfl (Or.inr rfl)))
    (gss_cons (gs_asg (ge_ix ix_seq dr_ix (gb_var (i := 6) rfl (Or.inr (Or.inl rfl))) (gb_var (i := 12) rfl (Or.inr (Or.inl rfl))) (by intro _ _; rfl)) (gg_name (i := 13) nd rfl (Or.inr rfl)))
    (gss_cons (gs_asg (ge_ix ix_seq dr_ix (gb_var (i := 13) rfl (Or.inr (Or.inl rfl))) (gb_var (i := 7) rfl (Or.inr (Or.inl rfl))) (by intro _ _; rfl)) (gg_tup rfl (ggs_cons (gg_name (i := 16) nd rfl (Or.inl rfl)) (ggs_cons (gg_name (i := 17) nd rfl (Or.inl rfl)) ggs_nil))))
    (gss_cons (gs_asg (ge_lst (ga_cons (ge_tup (ga_cons (ge_var (i := 16) rfl (Or.inl rfl)) (ga_cons (ge_tup (ga_cons ge_int (ga_cons ge_int ga_nil))) ga_nil))) (ga_cons (ge_tup (ga_cons (ge_var (i := 16) rfl (Or.inl rfl)) (ga_cons (ge_tup (ga_cons ge_int (ga_cons (ge_un un_neg dr_neg (GE.gb ge_int)) ga_nil))) ga_nil))) (ga_cons (ge_tup (ga_cons (ge_var (i := 16) rfl (Or.inl rfl)) (ga_cons (ge_tup (ga_cons ge_bl (ga_cons ge_int ga_nil))) ga_nil))) (ga_cons (ge_tup (ga_cons (ge_var (i := 16) rfl (Or.inl rfl)) (ga_cons (ge_tup (ga_cons ge_int (ga_cons ge_bl ga_nil))) ga_nil))) (ga_cons (ge_tup (ga_cons (ge_var (i := 16) rfl (Or.inl rfl)) (ga_cons (ge_tup (ga_cons ge_int (ga_cons (ge_un un_neg dr_neg (GE.gb ge_int)) ga_nil))) ga_nil))) (ga_cons (ge_tup (ga_cons (ge_var (i := 16) rfl (Or.inl rfl)) (ga_cons (ge_tup (ga_cons ge_int ga_nil)) ga_nil))) (ga_cons (ge_tup (ga_cons (ge_var (i := 16) rfl (Or.inl rfl)) (ga_cons (ge_lst (ga_cons ge_int (ga_cons ge_int ga_nil))) ga_nil))) (ga_cons (ge_tup (ga_cons (ge_tup (ga_cons ge_int (ga_cons ge_int ga_nil))) (ga_cons (ge_var (i := 17) rfl (Or.inl rfl)) ga_nil))) (ga_cons (ge_tup (ga_cons (ge_tup (ga_cons ge_int (ga_cons ge_int ga_nil))) (ga_cons (ge_var (i := 17) rfl (Or.inl rfl)) ga_nil))) (ga_cons (ge_tup (ga_cons (ge_tup (ga_cons (ge_un un_neg dr_neg (GE.gb ge_int)) (ga_cons ge_int ga_nil))) (ga_cons (ge_var (i := 17) rfl (Or.inl rfl)) ga_nil))) (ga_cons (ge_tup (ga_cons (ge_tup (ga_cons ge_int (ga_cons ge_bl ga_nil))) (ga_cons (ge_var (i := 17) rfl (Or.inl rfl)) ga_nil))) (ga_cons (ge_tup (ga_cons ge_non (ga_cons (ge_var (i := 17) rfl (Or.inl rfl)) ga_nil))) (ga_cons (ge_tup (ga_cons ge_non (ga_cons ge_non ga_nil))) (ga_cons (ge_tup (ga_cons (ge_var (i := 16) rfl (Or.inl rfl)) (ga_cons ge_non ga_nil))) (ga_cons (ge_tup (ga_cons (ge_var (i := 16) rfl (Or.inl rfl)) ga_nil)) (ga_cons (ge_lst (ga_cons (ge_var (i := 16) rfl (Or.inl rfl)) (ga_cons (ge_var (i := 17) rfl (Or.inl rfl)) ga_nil))) (ga_cons (ge_tup (ga_cons (ge_var (i := 16) rfl (Or.inl rfl)) (ga_cons (ge_var (i := 17) rfl (Or.inl rfl)) (ga_cons ge_non ga_nil)))) (ga_cons ge_non (ga_cons (ge_tup (ga_cons (ge_var (i := 17) rfl (Or.inl rfl)) (ga_cons (ge_var (i := 16) rfl (Or.inl rfl)) ga_nil))) ga_nil)))))))))))))))))))) (gg_name (i := 14) nd rfl (Or.inl rfl)))
    (gss_cons (gs_ext (i := 3) (GF.ge (gf_lc (own := [("pair", 18)]) rfl nd (gi_list (ge_var (i := 14) rfl (Or.inl rfl))) (show BlkOk N__law_near (defScope s__law_near) _ _ from ⟨rfl, by decide +kernel, by decide +kernel, by decide +kernel, by decide +kernel⟩) (fun _ _ _ _ _ => (gg_name (i := 18) nd rfl (Or.inl rfl))) (fun _ _ _ _ _ => gpts_nil) (fun _ _ _ _ _ => (ge_tup (ga_cons (ge_var (i := 4) rfl (Or.inr (Or.inl rfl))) (ga_cons (ge_var (i := 5) rfl (Or.inr (Or.inl rfl))) (ga_cons (ge_callH h__law_put l__law_put hg hr rfl (ga_cons (ge_var (i := 6) rfl (Or.inr (Or.inl rfl))) (ga_cons (ge_var (i := 12) rfl (Or.inr (Or.inl rfl))) (ga_cons (ge_callH h__law_put l__law_put hg hr rfl (ga_cons (ge_var (i := 13) rfl (Or.inr (Or.inl rfl))) (ga_cons (ge_var (i := 7) rfl (Or.inr (Or.inl rfl))) (ga_cons (ge_var (i := 18) rfl (Or.inl rfl)) ga_nil)))) ga_nil)))) ga_nil))))))) rfl (Or.inl rfl))
    (gss_one (gs_ext (i := 3) (GF.ge (gf_lc (own := [("late", 19)]) rfl nd (gi_tup (ge_tup (ga_cons (ge_sl (gb_var (i := 13) rfl (Or.inr (Or.inl rfl))) go_none (go_some (GE.gb (ge_un un_neg dr_neg (GE.gb ge_int))))) (ga_cons (ge_op op_addA dr_add (gb_var (i := 13) rfl (Or.inr (Or.inl rfl))) (GE.gb (ge_sl (gb_var (i := 13) rfl (Or.inr (Or.inl rfl))) (go_some (GE.gb (ge_un un_neg dr_neg (GE.gb ge_int)))) go_none))) (ga_cons (ge_revA (gb_var (i := 13) rfl (Or.inr (Or.inl rfl)))) (ga_cons (ge_t1 call_list_of dc_list (gb_var (i := 13) rfl (Or.inr (Or.inl rfl))) rfl bn.n_list rfl) (ga_cons (ge_tup ga_nil) (ga_cons ge_non ga_nil)))))))) (show BlkOk N__law_near (defScope s__law_near) _ _ from ⟨rfl, by decide +kernel, by decide +kernel, by decide +kernel, by decide +kernel⟩) (fun _ _ _ _ _ => (gg_name (i := 19) nd rfl (Or.inl rfl))) (fun _ _ _ _ _ => gpts_nil) (fun _ _ _ _ _ => (ge_tup (ga_cons (ge_var (i := 4) rfl (Or.inr (Or.inl rfl))) (ga_cons (ge_var (i := 5) rfl (Or.inr (Or.inl rfl))) (ga_cons (ge_callH h__law_put l__law_put hg hr rfl (ga_cons (ge_var (i := 6) rfl (Or.inr (Or.inl rfl))) (ga_cons (ge_var (i := 12) rfl (Or.inr (Or.inl rfl))) (ga_cons (ge_var (i := 19) rfl (Or.inl rfl)) ga_nil)))) ga_nil))))))) rfl (Or.inl rfl)))))))) gss_nil)
    (gss_one (gs_retO (i := 3) rfl (Or.inl rfl))))))))))
theorem b__law_values_right {P : Program} {w : World} {K : PySem.W.Frag} {mg : Str → Option Value} {base : Heap} (bn : Bn mg) (cn : Cn K mg) {cdv : Value} {A : Around} {outer : List PySem.Env} {s : Shared} {H : Hp} {E : XK} {G : Gh} {f : Addr} {k : Nat} (hg : A.guards = some []) (hr : Room k (A.deeper (envOfC "_law_values_right" (defScope s__law_values_right) s.heap.objs.size f cdv))) {k__law_house : Nat} (h__law_house : Has P w K mg base k__law_house "_law_house" s__law_house ["pot", "many", "kinds"] (spP K F__law_house)) (l__law_house : k__law_house ≤ k) {k__law_draw : Nat} (h__law_draw : Has P w K mg base k__law_draw "_law_draw" s__law_draw ["pot", "many"] (spP K F__law_draw)) (l__law_draw : k__law_draw ≤ k) {k__law_near : Nat} (h__law_near : Has P w K mg base k__law_near "_law_near" s__law_near ["pot", "house"] (spP K F__law_near)) (l__law_near : k__law_near ≤ k) {k__law_bent : Nat} (h__law_bent : Has P w K mg base k__law_bent "_law_bent" s__law_bent ["pot", "value", "odd"] (spP K F__law_bent)) (l__law_bent : k__law_bent ≤ k) {k__law_is_house : Nat} (h__law_is_house : Has P w K mg base k__law_is_house "_law_is_house" s__law_is_house ["value"] (spD K F__law_is_house)) (l__law_is_house : k__law_is_house ≤ k) {k_is_house : Nat} (h_is_house : Has P w K mg base k_is_house "is_house" s_is_house ["value"] (spD K F_is_house)) (l_is_house : k_is_house ≤ k) {k__law_are_moments : Nat} (h__law_are_moments : Has P w K mg base k__law_are_moments "_law_are_moments" s__law_are_moments ["value"] (spD K F__law_are_moments)) (l__law_are_moments : k__law_are_moments ≤ k) {k_is_moments : Nat} (h_is_moments : Has P w K mg base k_is_moments "is_moments" s_is_moments ["value"] (spD K F_is_moments)) (l_is_moments : k_is_moments ≤ k) {k__law_is_promise : Nat} (h__law_is_promise : Has P w K mg base k__law_is_promise "_law_is_promise" s__law_is_promise ["moments", "value"] (spD K F__law_is_promise)) (l__law_is_promise : k__law_is_promise ≤ k) {k_is_promise : Nat} (h_is_promise : Has P w K mg base k_is_promise "is_promise" s_is_promise ["house", "value"] (spD K F_is_promise)) (l_is_promise : k_is_promise ≤ k) (kb_is_house_value : KBp K "is_house" s_is_house ["value"] ["value"] [0]) (kb_is_moments_value : KBp K "is_moments" s_is_moments ["value"] ["value"] [0]) (kb_is_promise_value_house : KBp K "is_promise" s_is_promise ["house", "value"] ["value", "house"] [1, 0]) :
    GSs (cxOf CX0 P w K mg base N__law_values_right "_law_values_right" (defScope s__law_values_right) f cdv A outer s H E).nox G (defBody s__law_values_right) w__law_values_right := by
  have nd : (N__law_values_right : List Str).Nodup := by decide +kernel
  have hu := hr.units
  exact (gss_cons (gs_parG (is := [4, 5]) rfl (pgs_nmC (i := 4) nd rfl (Or.inr rfl) (pgs_nmC (i := 5) nd rfl (Or.inl rfl) pgs_nmN)) (gm_dat (ge_lst (ga_cons ge_non (ga_cons ge_int (ga_cons ge_int (ga_cons (ge_un un_neg dr_neg (GE.gb ge_int)) (ga_cons ge_int (ga_cons ge_int (ga_cons ge_bl (ga_cons (ge_tup ga_nil) (ga_cons (ge_lst ga_nil) (ga_cons (ge_tup (ga_cons ge_int (ga_cons ge_int ga_nil))) (ga_cons (ge_tup (ga_cons ge_int (ga_cons ge_int (ga_cons ge_int ga_nil)))) (ga_cons (ge_tup (ga_cons (ge_tup (ga_cons ge_int (ga_cons ge_int ga_nil))) (ga_cons ge_non ga_nil))) (ga_cons ge_str ga_nil)))))))))))))) (gm_dat (ge_callPH (i := 0) h__law_house l__law_house hg hr rfl rfl (Or.inr (Or.inl rfl)) (ga_cons (ge_op op_addA dr_add (GE.gb ge_int) (GE.gb (ge_callPH (i := 0) h__law_draw l__law_draw hg hr rfl rfl (Or.inr (Or.inl rfl)) (ga_cons ge_int ga_nil)))) (ga_cons (ge_lst (ga_cons ge_int ga_nil)) ga_nil))) gm_nil)))
    (gss_cons (gs_asg (ge_op op_addA dr_add (GE.gb (ge_op op_addA dr_add (GE.gb (ge_op op_addA dr_add (GE.gb (ge_lst (ga_cons (ge_var (i := 1) rfl (Or.inr (Or.inl rfl))) ga_nil))) (GE.gb (ge_callPH (i := 0) h__law_near l__law_near hg hr rfl rfl (Or.inr (Or.inl rfl)) (ga_cons (ge_var (i := 1) rfl (Or.inr (Or.inl rfl))) ga_nil))))) (GE.gb (GF.ge (gf_lc (own := [("turn", 11)]) rfl nd (gi_range1 ge_int rfl bn.n_range) (show BlkOk N__law_values_right (defScope s__law_values_right) _ _ from ⟨rfl, by decide +kernel, by decide +kernel, by decide +kernel, by decide +kernel⟩) (fun _ _ _ _ _ => (gg_name (i := 11) nd rfl (Or.inl rfl))) (fun _ _ _ _ _ => gpts_nil) (fun _ _ _ _ _ => (ge_callPH (i := 0) h__law_bent l__law_bent hg hr rfl rfl (Or.inr (Or.inl rfl)) (ga_cons (ge_var (i := 1) rfl (Or.inr (Or.inl rfl))) (ga_cons (ge_var (i := 4) rfl (Or.inr (Or.inl rfl))) ga_nil))))))))) (GE.gb (ge_lst (ga_cons ge_non (ga_cons (ge_tup ga_nil) (ga_cons ge_str (ga_cons ge_int ga_nil))))))) (gg_name (i := 2) nd rfl (Or.inl rfl)))
    (gss_cons (gs_for PassesOwn.never rfl (gi_list (ge_var (i := 2) rfl (Or.inl rfl))) (gg_name (i := 3) nd rfl (Or.inl rfl)) (gss_cons (gs_par2 (i := 6) (j := 7) rfl nd rfl rfl (by decide) rfl rfl (gm_dat (ge_callH h__law_is_house l__law_is_house hg hr rfl (ga_cons (ge_var (i := 3) rfl (Or.inl rfl)) ga_nil)) (gm_dat (ge_b1 (call_reprD hg hr) dc_repr (gb_var (i := 3) rfl (Or.inl rfl)) rfl bn.n_repr rfl) gm_nil)))
    (gss_cons (gs_if (GW.t (gw_or (gt_cmp (op_neD hu) dr_ne (GE.gb (ge_lst (ga_cons (ge_callH h_is_house l_is_house hg hr rfl (ga_cons (ge_var (i := 3) rfl (Or.inl rfl)) ga_nil)) (ga_cons (ge_callKH h_is_house l_is_house hg hr rfl kb_is_house_value (gk_cons (ge_var (i := 3) rfl (Or.inl rfl)) gk_nil)) ga_nil)))) (GE.gb (ge_lst (ga_cons (ge_var (i := 6) rfl (Or.inl rfl)) (ga_cons (ge_var (i := 6) rfl (Or.inl rfl)) ga_nil)))) (nomark _)) (gw_or1 (gt_cmp op_neS dr_tx (GE.gb (ge_b1 (call_reprD hg hr) dc_repr (gb_var (i := 3) rfl (Or.inl rfl)) rfl bn.n_repr rfl)) (gb_var (i := 7) rfl (Or.inl rfl)) (nomark _))))) (gss_one (gs_ret ge_bl)) gss_nil)
    (gss_one (gs_if (GW.t (gw_and (gt_val (GE.gb (ge_isi (T := "tuple") (gb_var (i := 3) rfl (Or.inl rfl)) kit_tuple rfl bn.n_isinstance rfl rfl bn.n_tuple rfl))) (gw_and1 (gt_cmp (op_eqD hu) dr_eq (GE.gb (ge_b1 call_len dc_len (gb_var (i := 3) rfl (Or.inl rfl)) rfl bn.n_len rfl)) (GE.gb ge_int) (nomark _))))) (gss_cons (gs_asg (ge_callH h__law_are_moments l__law_are_moments hg hr rfl (ga_cons (ge_ix ix_seq dr_ix (gb_var (i := 3) rfl (Or.inl rfl)) (GE.gb ge_int) (by intro _ _; rfl)) ga_nil)) (gg_name (i := 8) nd rfl (Or.inl rfl)))
    (gss_cons (gs_if (gt_cmp (op_neD hu) dr_ne (GE.gb (ge_lst (ga_cons (ge_callH h_is_moments l_is_moments hg hr rfl (ga_cons (ge_ix ix_seq dr_ix (gb_var (i := 3) rfl (Or.inl rfl)) (GE.gb ge_int) (by intro _ _; rfl)) ga_nil)) (ga_cons (ge_callKH h_is_moments l_is_moments hg hr rfl kb_is_moments_value (gk_cons (ge_ix ix_seq dr_ix (gb_var (i := 3) rfl (Or.inl rfl)) (GE.gb ge_int) (by intro _ _; rfl)) gk_nil)) ga_nil)))) (GE.gb (ge_lst (ga_cons (ge_var (i := 8) rfl (Or.inl rfl)) (ga_cons (ge_var (i := 8) rfl (Or.inl rfl)) ga_nil)))) (nomark _)) (gss_one (gs_ret ge_bl)) gss_nil)
    (gss_cons (gs_asg (ge_if (gt_val (GE.gb (ge_isi2 (T := "list") (U := "tuple") (GE.gb (ge_ix ix_seq dr_ix (gb_var (i := 3) rfl (Or.inl rfl)) (GE.gb ge_int) (by intro _ _; rfl))) kit_list kit_tuple rfl bn.n_isinstance rfl rfl bn.n_list rfl rfl bn.n_tuple rfl))) (ge_t1 call_list_of dc_list (GE.gb (ge_ix ix_seq dr_ix (gb_var (i := 3) rfl (Or.inl rfl)) (GE.gb ge_int) (by intro _ _; rfl))) rfl bn.n_list rfl) (ge_lst (ga_cons (ge_ix ix_seq dr_ix (gb_var (i := 3) rfl (Or.inl rfl)) (GE.gb ge_int) (by intro _ _; rfl)) ga_nil))) (gg_name (i := 9) nd rfl (Or.inl rfl)))
    (gss_one (gs_for PassesOwn.never rfl (gi_list (ge_op op_addA dr_add (GE.gb (ge_sl (gb_var (i := 9) rfl (Or.inl rfl)) go_none (go_some (GE.gb ge_int)))) (GE.gb (ge_lst (ga_cons (ge_ix ix_seq dr_ix (GE.gb (ge_ix ix_seq dr_ix (gb_var (i := 5) rfl (Or.inl rfl)) (GE.gb ge_int) (by intro _ _; rfl))) (GE.gb ge_int) (by intro _ _; rfl)) ga_nil))))) (gg_name (i := 10) nd rfl (Or.inl rfl)) (gss_cons (gs_asg (ge_callH h__law_is_promise l__law_is_promise hg hr rfl (ga_cons (ge_ix ix_seq dr_ix (gb_var (i := 1) rfl (Or.inr (Or.inl rfl))) (GE.gb ge_int) (by intro _ _; rfl)) (ga_cons (ge_var (i := 10) rfl (Or.inl rfl)) ga_nil))) (gg_name (i := 8) nd rfl (Or.inl rfl)))
    (gss_one (gs_if (gt_cmp (op_neD hu) dr_ne (GE.gb (ge_lst (ga_cons (ge_callH h_is_promise l_is_promise hg hr rfl (ga_cons (ge_var (i := 1) rfl (Or.inr (Or.inl rfl))) (ga_cons (ge_var (i := 10) rfl (Or.inl rfl)) ga_nil))) (ga_cons (ge_callKH h_is_promise l_is_promise hg hr rfl kb_is_promise_value_house (gk_cons (ge_var (i := 10) rfl (Or.inl rfl)) (gk_cons (ge_var (i := 1) rfl (Or.inr (Or.inl rfl))) gk_nil))) ga_nil)))) (GE.gb (ge_lst (ga_cons (ge_var (i := 8) rfl (Or.inl rfl)) (ga_cons (ge_var (i := 8) rfl (Or.inl rfl)) ga_nil)))) (nomark _)) (gss_one (gs_ret ge_bl)) gss_nil)))))))) gss_nil)))))
    (gss_one (gs_ret ge_bl)))))
theorem b__law_trees_right {P : Program} {w : World} {K : PySem.W.Frag} {mg : Str → Option Value} {base : Heap} (bn : Bn mg) (cn : Cn K mg) {cdv : Value} {A : Around} {outer : List PySem.Env} {s : Shared} {H : Hp} {E : XK} {G : Gh} {f : Addr} {k : Nat} (hg : A.guards = some []) (hr : Room k (A.deeper (envOfC "_law_trees_right" (defScope s__law_trees_right) s.heap.objs.size f cdv))) {k__law_ends : Nat} (h__law_ends : Has P w K mg base k__law_ends "_law_ends" s__law_ends ["moments"] (spD K F__law_ends)) (l__law_ends : k__law_ends ≤ k) {k__law_sons : Nat} (h__law_sons : Has P w K mg base k__law_sons "_law_sons" s__law_sons ["moments"] (spD K F__law_sons)) (l__law_sons : k__law_sons ≤ k) {k__law_way : Nat} (h__law_way : Has P w K mg base k__law_way "_law_way" s__law_way ["moments", "at"] (spD K F__law_way)) (l__law_way : k__law_way ≤ k) {k_bare_house : Nat} (h_bare_house : Has P w K mg base k_bare_house "bare_house" s_bare_house ["moments"] (spD K F_bare_house)) (l_bare_house : k_bare_house ≤ k) {k_courses : Nat} (h_courses : Has P w K mg base k_courses "courses" s_courses ["house"] (spD K F_courses)) (l_courses : k_courses ≤ k) {k_ends : Nat} (h_ends : Has P w K mg base k_ends "ends" s_ends ["house"] (spD K F_ends)) (l_ends : k_ends ≤ k) {k__law_some : Nat} (h__law_some : Has P w K mg base k__law_some "_law_some" s__law_some ["pot", "things", "many"] (spP K F__law_some)) (l__law_some : k__law_some ≤ k) {k_depth : Nat} (h_depth : Has P w K mg base k_depth "depth" s_depth ["house", "moment"] (spD K F_depth)) (l_depth : k_depth ≤ k) {k_below : Nat} (h_below : Has P w K mg base k_below "below" s_below ["house", "moment"] (spD K F_below)) (l_below : k_below ≤ k) {k_ahead : Nat} (h_ahead : Has P w K mg base k_ahead "ahead" s_ahead ["house", "moment"] (spD K F_ahead)) (l_ahead : k_ahead ≤ k) {k_sons : Nat} (h_sons : Has P w K mg base k_sons "sons" s_sons ["house", "moment"] (spD K F_sons)) (l_sons : k_sons ≤ k) {k_is_at_ends : Nat} (h_is_at_ends : Has P w K mg base k_is_at_ends "is_at_ends" s_is_at_ends ["house", "promise"] (spD K F_is_at_ends)) (l_is_at_ends : k_is_at_ends ≤ k) {k_is_plain : Nat} (h_is_plain : Has P w K mg base k_is_plain "is_plain" s_is_plain ["house", "promise"] (spD K F_is_plain)) (l_is_plain : k_is_plain ≤ k) (kb_courses_house : KBp K "courses" s_courses ["house"] ["house"] [0]) (kb_ends_house : KBp K "ends" s_ends ["house"] ["house"] [0]) (kb_depth_moment_house : KBp K "depth" s_depth ["house", "moment"] ["moment", "house"] [1, 0]) (kb_below_moment_house : KBp K "below" s_below ["house", "moment"] ["moment", "house"] [1, 0]) (kb_ahead_moment_house : KBp K "ahead" s_ahead ["house", "moment"] ["moment", "house"] [1, 0]) (kb_sons_moment_house : KBp K "sons" s_sons ["house", "moment"] ["moment", "house"] [1, 0]) (kb_is_at_ends_promise_house : KBp K "is_at_ends" s_is_at_ends ["house", "promise"] ["promise", "house"] [1, 0]) (kb_is_plain_promise_house : KBp K "is_plain" s_is_plain ["house", "promise"] ["promise", "house"] [1, 0]) :
    GSs (cxOf CX0 P w K mg base N__law_trees_right "_law_trees_right" (defScope s__law_trees_right) f cdv A outer s H E).nox G (defBody s__law_trees_right) w__law_trees_right := by
  have nd : (N__law_trees_right : List Str).Nodup := by decide +kernel
  have hu := hr.units
  exact (gss_cons (gs_asg (ge_ix ix_seq dr_ix (gb_var (i := 1) rfl (Or.inl rfl)) (GE.gb ge_int) (by intro _ _; rfl)) (gg_name (i := 2) nd rfl (Or.inr rfl)))
    (gss_cons (gs_parG (is := [5, 6]) rfl (pgs_nmC (i := 5) nd rfl (Or.inl rfl) (pgs_nmC (i := 6) nd rfl (Or.inr rfl) pgs_nmN)) (gm_dat (ge_callH h__law_sons l__law_sons hg hr rfl (ga_cons (ge_var (i := 2) rfl (Or.inr (Or.inl rfl))) ga_nil)) (gm_dat (ge_callH h__law_ends l__law_ends hg hr rfl (ga_cons (ge_var (i := 2) rfl (Or.inr (Or.inl rfl))) ga_nil)) gm_nil)))
    (gss_cons (gs_asg (GF.ge (gf_lc (own := [("at", 4)]) rfl nd (gi_range1 (ge_b1 call_len dc_len (gb_var (i := 2) rfl (Or.inr (Or.inl rfl))) rfl bn.n_len rfl) rfl bn.n_range) (show BlkOk N__law_trees_right (defScope s__law_trees_right) _ _ from ⟨rfl, by decide +kernel, by decide +kernel, by decide +kernel, by decide +kernel⟩) (fun _ _ _ _ _ => (gg_name (i := 4) nd rfl (Or.inl rfl))) (fun _ _ _ _ _ => gpts_nil) (fun _ _ _ _ _ => (ge_callH h__law_way l__law_way hg hr rfl (ga_cons (ge_var (i := 2) rfl (Or.inr (Or.inl rfl))) (ga_cons (ge_var (i := 4) rfl (Or.inl rfl)) ga_nil)))))) (gg_name (i := 3) nd rfl (Or.inr rfl)))
    (gss_cons (gs_if (gt_cmp op_neS dr_tx (GE.gb (ge_b1 (call_reprD hg hr) dc_repr (GE.gb (ge_lst (ga_cons (ge_callH h_ends l_ends hg hr rfl (ga_cons (ge_var (i := 1) rfl (Or.inl rfl)) ga_nil)) (ga_cons (ge_callH h_courses l_courses hg hr rfl (ga_cons (ge_var (i := 1) rfl (Or.inl rfl)) ga_nil)) (ga_cons (ge_callKH h_ends l_ends hg hr rfl kb_ends_house (gk_cons (ge_var (i := 1) rfl (Or.inl rfl)) gk_nil)) (ga_cons (ge_callKH h_courses l_courses hg hr rfl kb_courses_house (gk_cons (ge_var (i := 1) rfl (Or.inl rfl)) gk_nil)) (ga_cons (ge_callH h_bare_house l_bare_house hg hr rfl (ga_cons (ge_var (i := 2) rfl (Or.inr (Or.inl rfl))) ga_nil)) ga_nil))))))) rfl bn.n_repr rfl)) (GE.gb (ge_b1 (call_reprD hg hr) dc_repr (GE.gb (ge_op op_addA dr_add (GE.gb (ge_op op_mulA dr_mulA (GE.gb (ge_lst (ga_cons (ge_var (i := 6) rfl (Or.inr (Or.inl rfl))) (ga_cons (ge_b1 (call_srt hr) dc_srt (GE.gb (GF.ge (gf_lc (own := [("at", 4)]) rfl nd (gi_list (ge_var (i := 6) rfl (Or.inr (Or.inl rfl)))) (show BlkOk N__law_trees_right (defScope s__law_trees_right) _ _ from ⟨rfl, by decide +kernel, by decide +kernel, by decide +kernel, by decide +kernel⟩) (fun _ _ _ _ _ => (gg_name (i := 4) nd rfl (Or.inl rfl))) (fun _ _ _ _ _ => gpts_nil) (fun _ _ _ _ _ => (ge_ix ix_seq dr_ix (gb_var (i := 3) rfl (Or.inr (Or.inl rfl))) (gb_var (i := 4) rfl (Or.inl rfl)) (by intro _ _; rfl)))))) rfl bn.n_sorted rfl) ga_nil)))) (GE.gb ge_int))) (GE.gb (ge_lst (ga_cons (ge_tup (ga_cons ge_str (ga_cons (ge_var (i := 2) rfl (Or.inr (Or.inl rfl))) (ga_cons (ge_tup ga_nil) ga_nil)))) ga_nil))))) rfl bn.n_repr rfl)) (nomark _)) (gss_one (gs_ret ge_bl)) gss_nil)
    (gss_cons (gs_for PassesOwn.never rfl (gi_list (ge_callPH (i := 0) h__law_some l__law_some hg hr rfl rfl (Or.inl rfl) (ga_cons (ge_lrng rfl (ge_b1 call_len dc_len (gb_var (i := 2) rfl (Or.inr (Or.inl rfl))) rfl bn.n_len rfl) rfl bn.n_list rfl rfl bn.n_range rfl) (ga_cons ge_int ga_nil)))) (gg_name (i := 4) nd rfl (Or.inr rfl)) (gss_cons (gs_asg (ge_lst (ga_cons (ge_ix ix_seq dr_ix (gb_var (i := 5) rfl (Or.inl rfl)) (gb_var (i := 4) rfl (Or.inr (Or.inl rfl))) (by intro _ _; rfl)) (ga_cons (ge_ix ix_seq dr_ix (gb_var (i := 3) rfl (Or.inr (Or.inl rfl))) (gb_var (i := 4) rfl (Or.inr (Or.inl rfl))) (by intro _ _; rfl)) (ga_cons (GF.ge (gf_lc (own := [("one", 12)]) rfl nd (gi_range1 (ge_b1 call_len dc_len (gb_var (i := 2) rfl (Or.inr (Or.inl rfl))) rfl bn.n_len rfl) rfl bn.n_range) (show BlkOk N__law_trees_right (defScope s__law_trees_right) _ _ from ⟨rfl, by decide +kernel, by decide +kernel, by decide +kernel, by decide +kernel⟩) (fun _ _ _ _ _ => (gg_name (i := 12) nd rfl (Or.inl rfl))) (fun _ _ _ _ _ => (gpts_one (gt_cmp op_in_seq dr_in (gb_var (i := 4) rfl (Or.inr (Or.inl rfl))) (GE.gb (ge_ix ix_seq dr_ix (gb_var (i := 3) rfl (Or.inr (Or.inl rfl))) (gb_var (i := 12) rfl (Or.inl rfl)) (by intro _ _; rfl))) rfl))) (fun _ _ _ _ _ => (ge_var (i := 12) rfl (Or.inl rfl))))) (ga_cons (ge_op op_sub dr_sub (GE.gb (ge_b1 call_len dc_len (GE.gb (ge_ix ix_seq dr_ix (gb_var (i := 3) rfl (Or.inr (Or.inl rfl))) (gb_var (i := 4) rfl (Or.inr (Or.inl rfl))) (by intro _ _; rfl))) rfl bn.n_len rfl)) (GE.gb ge_int)) ga_nil))))) (gg_name (i := 7) nd rfl (Or.inl rfl)))
    (gss_one (gs_if (GW.t (gw_or (gt_cmp op_neS dr_tx (GE.gb (ge_b1 (call_reprD hg hr) dc_repr (GE.gb (ge_lst (ga_cons (ge_callH h_sons l_sons hg hr rfl (ga_cons (ge_var (i := 1) rfl (Or.inl rfl)) (ga_cons (ge_var (i := 4) rfl (Or.inr (Or.inl rfl))) ga_nil))) (ga_cons (ge_callH h_ahead l_ahead hg hr rfl (ga_cons (ge_var (i := 1) rfl (Or.inl rfl)) (ga_cons (ge_var (i := 4) rfl (Or.inr (Or.inl rfl))) ga_nil))) (ga_cons (ge_callH h_below l_below hg hr rfl (ga_cons (ge_var (i := 1) rfl (Or.inl rfl)) (ga_cons (ge_var (i := 4) rfl (Or.inr (Or.inl rfl))) ga_nil))) (ga_cons (ge_callH h_depth l_depth hg hr rfl (ga_cons (ge_var (i := 1) rfl (Or.inl rfl)) (ga_cons (ge_var (i := 4) rfl (Or.inr (Or.inl rfl))) ga_nil))) ga_nil)))))) rfl bn.n_repr rfl)) (GE.gb (ge_b1 (call_reprD hg hr) dc_repr (gb_var (i := 7) rfl (Or.inl rfl)) rfl bn.n_repr rfl)) (nomark _)) (gw_or1 (gt_cmp op_neS dr_tx (GE.gb (ge_b1 (call_reprD hg hr) dc_repr (GE.gb (ge_lst (ga_cons (ge_callKH h_sons l_sons hg hr rfl kb_sons_moment_house (gk_cons (ge_var (i := 4) rfl (Or.inr (Or.inl rfl))) (gk_cons (ge_var (i := 1) rfl (Or.inl rfl)) gk_nil))) (ga_cons (ge_callKH h_ahead l_ahead hg hr rfl kb_ahead_moment_house (gk_cons (ge_var (i := 4) rfl (Or.inr (Or.inl rfl))) (gk_cons (ge_var (i := 1) rfl (Or.inl rfl)) gk_nil))) (ga_cons (ge_callKH h_below l_below hg hr rfl kb_below_moment_house (gk_cons (ge_var (i := 4) rfl (Or.inr (Or.inl rfl))) (gk_cons (ge_var (i := 1) rfl (Or.inl rfl)) gk_nil))) (ga_cons (ge_callKH h_depth l_depth hg hr rfl kb_depth_moment_house (gk_cons (ge_var (i := 4) rfl (Or.inr (Or.inl rfl))) (gk_cons (ge_var (i := 1) rfl (Or.inl rfl)) gk_nil))) ga_nil)))))) rfl bn.n_repr rfl)) (GE.gb (ge_b1 (call_reprD hg hr) dc_repr (gb_var (i := 7) rfl (Or.inl rfl)) rfl bn.n_repr rfl)) (nomark _))))) (gss_one (gs_ret ge_bl)) gss_nil))))
    (gss_cons (gs_for PassesOwn.never rfl (gi_enumT (ge_ix ix_seq dr_ix (gb_var (i := 1) rfl (Or.inl rfl)) (GE.gb ge_int) (by intro _ _; rfl)) rfl bn.n_enumerate) (gg_tup rfl (ggs_cons (gg_name (i := 8) nd rfl (Or.inl rfl)) (ggs_cons (gg_name (i := 9) nd rfl (Or.inl rfl)) ggs_nil))) (gss_cons (gs_asg (ge_b1 (cr_all rfl) dc_all (GE.gb (GF.ge (gf_lc (own := [("call", 13), ("back", 14)]) rfl nd (gi_tup (ge_var (i := 9) rfl (Or.inl rfl))) (show BlkOk N__law_trees_right (defScope s__law_trees_right) _ _ from ⟨rfl, by decide +kernel, by decide +kernel, by decide +kernel, by decide +kernel⟩) (fun _ _ _ _ _ => (gg_tup rfl (ggs_cons (gg_name (i := 13) nd rfl (Or.inl rfl)) (ggs_cons (gg_name (i := 14) nd rfl (Or.inl rfl)) ggs_nil)))) (fun _ _ _ _ _ => gpts_nil) (fun _ _ _ _ _ => (ge_cmp op_isN dr_isN (gb_var (i := 14) rfl (Or.inl rfl)) (GE.gb ge_non) (nomark _)))))) rfl bn.n_all rfl) (gg_name (i := 10) nd rfl (Or.inl rfl)))
    (gss_cons (gs_asg (ge_and (ge_var (i := 10) rfl (Or.inl rfl)) (ge_one (ge_b1 (cr_all rfl) dc_all (GE.gb (GF.ge (gf_lc (own := [("at", 4), ("call", 13), ("back", 14)]) rfl nd (gi_enumT (ge_var (i := 9) rfl (Or.inl rfl)) rfl bn.n_enumerate) (show BlkOk N__law_trees_right (defScope s__law_trees_right) _ _ from ⟨rfl, by decide +kernel, by decide +kernel, by decide +kernel, by decide +kernel⟩) (fun _ _ _ _ _ => (gg_tup rfl (ggs_cons (gg_name (i := 4) nd rfl (Or.inl rfl)) (ggs_cons (gg_tup rfl (ggs_cons (gg_name (i := 13) nd rfl (Or.inl rfl)) (ggs_cons (gg_name (i := 14) nd rfl (Or.inl rfl)) ggs_nil))) ggs_nil)))) (fun _ _ _ _ _ => gpts_nil) (fun _ _ _ _ _ => (ge_or (ge_cmp op_isN dr_isN (gb_var (i := 13) rfl (Or.inl rfl)) (GE.gb ge_non) (nomark _)) (ge_one (ge_cmp op_in_seq dr_in (gb_var (i := 4) rfl (Or.inl rfl)) (gb_var (i := 6) rfl (Or.inr (Or.inl rfl))) rfl))))))) rfl bn.n_all rfl))) (gg_name (i := 11) nd rfl (Or.inl rfl)))
    (gss_one (gs_if (gt_cmp (op_neD hu) dr_ne (GE.gb (ge_lst (ga_cons (ge_callH h_is_plain l_is_plain hg hr rfl (ga_cons (ge_var (i := 1) rfl (Or.inl rfl)) (ga_cons (ge_var (i := 8) rfl (Or.inl rfl)) ga_nil))) (ga_cons (ge_callH h_is_at_ends l_is_at_ends hg hr rfl (ga_cons (ge_var (i := 1) rfl (Or.inl rfl)) (ga_cons (ge_var (i := 8) rfl (Or.inl rfl)) ga_nil))) (ga_cons (ge_callKH h_is_plain l_is_plain hg hr rfl kb_is_plain_promise_house (gk_cons (ge_var (i := 8) rfl (Or.inl rfl)) (gk_cons (ge_var (i := 1) rfl (Or.inl rfl)) gk_nil))) (ga_cons (ge_callKH h_is_at_ends l_is_at_ends hg hr rfl kb_is_at_ends_promise_house (gk_cons (ge_var (i := 8) rfl (Or.inl rfl)) (gk_cons (ge_var (i := 1) rfl (Or.inl rfl)) gk_nil))) ga_nil)))))) (GE.gb (ge_op op_mulA dr_mulA (GE.gb (ge_lst (ga_cons (ge_var (i := 10) rfl (Or.inl rfl)) (ga_cons (ge_var (i := 11) rfl (Or.inl rfl)) ga_nil)))) (GE.gb ge_int))) (nomark _)) (gss_one (gs_ret ge_bl)) gss_nil)))))
    (gss_one (gs_ret ge_bl))))))))
theorem b__law_plans_right {P : Program} {w : World} {K : PySem.W.Frag} {mg : Str → Option Value} {base : Heap} (bn : Bn mg) (cn : Cn K mg) {cdv : Value} {A : Around} {outer : List PySem.Env} {s : Shared} {H : Hp} {E : XK} {G : Gh} {f : Addr} {k : Nat} (hg : A.guards = some []) (hr : Room k (A.deeper (envOfC "_law_plans_right" (defScope s__law_plans_right) s.heap.objs.size f cdv))) {k__law_any_plan : Nat} (h__law_any_plan : Has P w K mg base k__law_any_plan "_law_any_plan" s__law_any_plan ["pot", "moments"] (spP K F__law_any_plan)) (l__law_any_plan : k__law_any_plan ≤ k) {k__law_draw : Nat} (h__law_draw : Has P w K mg base k__law_draw "_law_draw" s__law_draw ["pot", "many"] (spP K F__law_draw)) (l__law_draw : k__law_draw ≤ k) {k__law_put : Nat} (h__law_put : Has P w K mg base k__law_put "_law_put" s__law_put ["some", "at", "value"] (spD K F__law_put)) (l__law_put : k__law_put ≤ k) {k__law_bent : Nat} (h__law_bent : Has P w K mg base k__law_bent "_law_bent" s__law_bent ["pot", "value", "odd"] (spP K F__law_bent)) (l__law_bent : k__law_bent ≤ k) {k__law_is_plan : Nat} (h__law_is_plan : Has P w K mg base k__law_is_plan "_law_is_plan" s__law_is_plan ["moments", "value"] (spD K F__law_is_plan)) (l__law_is_plan : k__law_is_plan ≤ k) {k_is_plan : Nat} (h_is_plan : Has P w K mg base k_is_plan "is_plan" s_is_plan ["house", "value"] (spD K F_is_plan)) (l_is_plan : k_is_plan ≤ k) (kb_is_plan_value_house : KBp K "is_plan" s_is_plan ["house", "value"] ["value", "house"] [1, 0]) :
    GSs (cxOf CX0 P w K mg base N__law_plans_right "_law_plans_right" (defScope s__law_plans_right) f cdv A outer s H E).nox G (defBody s__law_plans_right) w__law_plans_right := by
  have nd : (N__law_plans_right : List Str).Nodup := by decide +kernel
  have hu := hr.units
  exact (gss_cons (gs_asg (ge_ix ix_seq dr_ix (gb_var (i := 1) rfl (Or.inl rfl)) (GE.gb ge_int) (by intro _ _; rfl)) (gg_name (i := 2) nd rfl (Or.inl rfl)))
    (gss_cons (gs_asg (ge_lst (ga_cons ge_non (ga_cons ge_int (ga_cons (ge_tup (ga_cons ge_int (ga_cons ge_int ga_nil))) (ga_cons (ge_tup (ga_cons ge_int (ga_cons ge_int ga_nil))) (ga_cons (ge_tup (ga_cons ge_int (ga_cons ge_int ga_nil))) (ga_cons ge_bl (ga_cons (ge_tup (ga_cons ge_int (ga_cons ge_int ga_nil))) (ga_cons (ge_tup ga_nil) (ga_cons ge_str ga_nil)))))))))) (gg_name (i := 3) nd rfl (Or.inr rfl)))
    (gss_cons (gs_for PassesOwn.never rfl (gi_range1 ge_int rfl bn.n_range) (gg_name (i := 4) nd rfl (Or.inl rfl)) (gss_cons (gs_asg (ge_callPH (i := 0) h__law_any_plan l__law_any_plan hg hr rfl rfl (Or.inr (Or.inl rfl)) (ga_cons (ge_var (i := 2) rfl (Or.inl rfl)) ga_nil)) (gg_name (i := 5) nd rfl (Or.inr rfl)))
    (gss_cons (gs_asg (ge_callPH (i := 0) h__law_draw l__law_draw hg hr rfl rfl (Or.inr (Or.inl rfl)) (ga_cons (ge_b1 call_len dc_len (gb_var (i := 2) rfl (Or.inl rfl)) rfl bn.n_len rfl) ga_nil)) (gg_name (i := 6) nd rfl (Or.inl rfl)))
    (gss_one (gs_for PassesOwn.never rfl (gi_list (ge_op op_addA dr_add (GE.gb (ge_lst (ga_cons (ge_var (i := 5) rfl (Or.inr (Or.inl rfl))) (ga_cons (ge_t1 call_list_of dc_list (gb_var (i := 5) rfl (Or.inr (Or.inl rfl))) rfl bn.n_list rfl) (ga_cons (ge_sl (gb_var (i := 5) rfl (Or.inr (Or.inl rfl))) go_none (go_some (GE.gb (ge_un un_neg dr_neg (GE.gb ge_int))))) (ga_cons (ge_op op_addA dr_add (gb_var (i := 5) rfl (Or.inr (Or.inl rfl))) (GE.gb (ge_sl (gb_var (i := 5) rfl (Or.inr (Or.inl rfl))) (go_some (GE.gb (ge_un un_neg dr_neg (GE.gb ge_int)))) go_none))) (ga_cons (ge_callH h__law_put l__law_put hg hr rfl (ga_cons (ge_var (i := 5) rfl (Or.inr (Or.inl rfl))) (ga_cons (ge_var (i := 6) rfl (Or.inl rfl)) (ga_cons (ge_tup (ga_cons ge_int (ga_cons ge_int ga_nil))) ga_nil)))) (ga_cons (ge_callH h__law_put l__law_put hg hr rfl (ga_cons (ge_var (i := 5) rfl (Or.inr (Or.inl rfl))) (ga_cons (ge_var (i := 6) rfl (Or.inl rfl)) (ga_cons (ge_tup (ga_cons ge_int (ga_cons ge_int ga_nil))) ga_nil)))) (ga_cons (ge_callH h__law_put l__law_put hg hr rfl (ga_cons (ge_var (i := 5) rfl (Or.inr (Or.inl rfl))) (ga_cons (ge_var (i := 6) rfl (Or.inl rfl)) (ga_cons (ge_tup (ga_cons ge_int (ga_cons ge_int ga_nil))) ga_nil)))) (ga_cons ge_non (ga_cons (ge_tup ga_nil) ga_nil))))))))))) (GE.gb (GF.ge (gf_lc (own := [("late", 9)]) rfl nd (gi_range1 ge_int rfl bn.n_range) (show BlkOk N__law_plans_right (defScope s__law_plans_right) _ _ from ⟨rfl, by decide +kernel, by decide +kernel, by decide +kernel, by decide +kernel⟩) (fun _ _ _ _ _ => (gg_name (i := 9) nd rfl (Or.inl rfl))) (fun _ _ _ _ _ => gpts_nil) (fun _ _ _ _ _ => (ge_callPH (i := 0) h__law_bent l__law_bent hg hr rfl rfl (Or.inr (Or.inl rfl)) (ga_cons (ge_var (i := 5) rfl (Or.inr (Or.inl rfl))) (ga_cons (ge_var (i := 3) rfl (Or.inr (Or.inl rfl))) ga_nil))))))))) (gg_name (i := 7) nd rfl (Or.inl rfl)) (gss_cons (gs_asg (ge_callH h__law_is_plan l__law_is_plan hg hr rfl (ga_cons (ge_var (i := 2) rfl (Or.inl rfl)) (ga_cons (ge_var (i := 7) rfl (Or.inl rfl)) ga_nil))) (gg_name (i := 8) nd rfl (Or.inl rfl)))
    (gss_one (gs_if (gt_cmp (op_neD hu) dr_ne (GE.gb (ge_lst (ga_cons (ge_callH h_is_plan l_is_plan hg hr rfl (ga_cons (ge_var (i := 1) rfl (Or.inl rfl)) (ga_cons (ge_var (i := 7) rfl (Or.inl rfl)) ga_nil))) (ga_cons (ge_callKH h_is_plan l_is_plan hg hr rfl kb_is_plan_value_house (gk_cons (ge_var (i := 7) rfl (Or.inl rfl)) (gk_cons (ge_var (i := 1) rfl (Or.inl rfl)) gk_nil))) ga_nil)))) (GE.gb (ge_lst (ga_cons (ge_var (i := 8) rfl (Or.inl rfl)) (ga_cons (ge_var (i := 8) rfl (Or.inl rfl)) ga_nil)))) (nomark _)) (gss_one (gs_ret ge_bl)) gss_nil))))))))
    (gss_one (gs_ret ge_bl)))))
theorem b__law_right {P : Program} {w : World} {K : PySem.W.Frag} {mg : Str → Option Value} {base : Heap} (bn : Bn mg) (cn : Cn K mg) {cdv : Value} {A : Around} {outer : List PySem.Env} {s : Shared} {H : Hp} {E : XK} {G : Gh} {f : Addr} {k : Nat} (hg : A.guards = some []) (hr : Room k (A.deeper (envOfC "_law_right" (defScope s__law_right) s.heap.objs.size f cdv))) {k__law_draw : Nat} (h__law_draw : Has P w K mg base k__law_draw "_law_draw" s__law_draw ["pot", "many"] (spP K F__law_draw)) (l__law_draw : k__law_draw ≤ k) {k__law_some : Nat} (h__law_some : Has P w K mg base k__law_some "_law_some" s__law_some ["pot", "things", "many"] (spP K F__law_some)) (l__law_some : k__law_some ≤ k) {k__law_house : Nat} (h__law_house : Has P w K mg base k__law_house "_law_house" s__law_house ["pot", "many", "kinds"] (spP K F__law_house)) (l__law_house : k__law_house ≤ k) {k__law_pick : Nat} (h__law_pick : Has P w K mg base k__law_pick "_law_pick" s__law_pick ["pot", "some"] (spP K F__law_pick)) (l__law_pick : k__law_pick ≤ k) {k__law_values_right : Nat} (h__law_values_right : Has P w K mg base k__law_values_right "_law_values_right" s__law_values_right ["pot", "house"] (spP K F__law_values_right)) (l__law_values_right : k__law_values_right ≤ k) {k__law_trees_right : Nat} (h__law_trees_right : Has P w K mg base k__law_trees_right "_law_trees_right" s__law_trees_right ["pot", "house"] (spP K F__law_trees_right)) (l__law_trees_right : k__law_trees_right ≤ k) {k__law_plans_right : Nat} (h__law_plans_right : Has P w K mg base k__law_plans_right "_law_plans_right" s__law_plans_right ["pot", "house"] (spP K F__law_plans_right)) (l__law_plans_right : k__law_plans_right ≤ k) :
    GSs (cxOf CX0 P w K mg base N__law_right "_law_right" (defScope s__law_right) f cdv A outer s H E).nox G (defBody s__law_right) w__law_right := by
  have nd : (N__law_right : List Str).Nodup := by decide +kernel
  have hu := hr.units
  exact (gss_cons (gs_asg (ge_if (gt_cmp op_gt dr_ci (GE.gb (ge_callPH (i := 0) h__law_draw l__law_draw hg hr rfl rfl (Or.inl rfl) (ga_cons ge_int ga_nil))) (GE.gb ge_int) (nomark _)) (ge_callPH (i := 0) h__law_some l__law_some hg hr rfl rfl (Or.inl rfl) (ga_cons (ge_lst (ga_cons ge_int (ga_cons ge_int (ga_cons ge_int (ga_cons ge_int ga_nil))))) (ga_cons (ge_op op_addA dr_add (GE.gb ge_int) (GE.gb (ge_callPH (i := 0) h__law_draw l__law_draw hg hr rfl rfl (Or.inl rfl) (ga_cons ge_int ga_nil)))) ga_nil))) (ge_lst ga_nil)) (gg_name (i := 1) nd rfl (Or.inl rfl)))
    (gss_cons (gs_asg (ge_callPH (i := 0) h__law_house l__law_house hg hr rfl rfl (Or.inl rfl) (ga_cons (ge_callPH (i := 0) h__law_pick l__law_pick hg hr rfl rfl (Or.inl rfl) (ga_cons (ge_lst (ga_cons ge_int (ga_cons ge_int (ga_cons ge_int (ga_cons ge_int (ga_cons ge_int ga_nil)))))) ga_nil)) (ga_cons (ge_var (i := 1) rfl (Or.inl rfl)) ga_nil))) (gg_name (i := 2) nd rfl (Or.inl rfl)))
    (gss_cons (gs_asg (ge_b1 (call_reprD hg hr) dc_repr (gb_var (i := 2) rfl (Or.inl rfl)) rfl bn.n_repr rfl) (gg_name (i := 3) nd rfl (Or.inl rfl)))
    (gss_one (gs_ret (ge_and (ge_callPH (i := 0) h__law_values_right l__law_values_right hg hr rfl rfl (Or.inl rfl) (ga_cons (ge_var (i := 2) rfl (Or.inl rfl)) ga_nil)) (ge_and (ge_callPH (i := 0) h__law_trees_right l__law_trees_right hg hr rfl rfl (Or.inl rfl) (ga_cons (ge_var (i := 2) rfl (Or.inl rfl)) ga_nil)) (ge_and (ge_callPH (i := 0) h__law_plans_right l__law_plans_right hg hr rfl rfl (Or.inl rfl) (ga_cons (ge_var (i := 2) rfl (Or.inl rfl)) ga_nil)) (ge_one (ge_cmp op_eqS dr_tx (GE.gb (ge_b1 (call_reprD hg hr) dc_repr (gb_var (i := 2) rfl (Or.inl rfl)) rfl bn.n_repr rfl)) (gb_var (i := 3) rfl (Or.inl rfl)) (nomark _)))))))))))
end Hd
/-! text Dh -/
/-! Dh: the law's end, for defs that ask that no guard is up. -/
namespace Dl
open PySem PySem.Spec PyProof.Rows L2
section
variable {P : Program} {w : World} {K : PySem.W.Frag} {mg mb : Str → Option Value} {s : Shared} {a : Addr} {vs : List Value} {H : Hp}
/-- but the script all of the heap is base -/
theorem hid_ns (ha : s.heap.get? a = some { cls := .type "list", data := .seq vs.toArray }) (hA : ∀ c, H c ≠ none → c = a) {c : Addr} {m : Str → Option Value} (h : s.heap.Ns c m) : (hidT s.heap H).Ns c m := by
  obtain ⟨ob, es, ep, got, isD, rest⟩ := h
  refine ⟨ob, es, ep, hidT_get got ?_, isD, rest⟩
  cases hc : H c with
  | none => rfl
  | some t =>
    obtain rfl := hA c (by rw [hc]; exact fun x => by cases x)
    rw [ha] at got
    cases got
    cases isD
theorem hid_env (kin : K.In s.heap) (gm : s.heap.Ns mainGlobals mg) (bm : s.heap.Ns builtinsNs mb) (bok : ∀ x : Str, x ≠ "__name__" → mb x = bootBuiltins x) (nl : s.heap.NoLimit) (g0 : s.gens = #[])
    (ha : s.heap.get? a = some { cls := .type "list", data := .seq vs.toArray }) (ok : HOk P w H s.heap) (hA : ∀ c, H c ≠ none → c = a) (hK : H a ≠ none → K.lookup a = none) :
    K.In (hidT s.heap H) ∧ (hidT s.heap H).Ns mainGlobals mg ∧ Env0 P w K mg (hidT s.heap H) callerA [] s H := by
  have k2 : K.In (hidT s.heap H) := fun c ob got => hidT_get (kin c ob got) <| by
    cases hc : H c with
    | none => rfl
    | some t =>
      have ne : H c ≠ none := by rw [hc]; exact fun x => by cases x
      obtain rfl := hA c ne
      rw [hK ne] at got
      cases got
  obtain ⟨mc, l1, l2⟩ := nl
  refine ⟨k2, hid_ns ha hA gm, rfl, ⟨k2, hid_ns ha hA gm, ⟨mb, hid_ns ha hA bm, bok⟩, ⟨mc, hid_ns ha hA l1, l2⟩⟩, fun c ob got => of_hidT got, Nat.le_of_eq (hidT_size _ _), trivial, fun c hc => ?_, ok, .of_eq g0⟩
  exact absurd (show c ∈ ([] : List Addr) from hc) List.not_mem_nil
end
theorem law_callG {P : Program} {w : World} {K : PySem.W.Frag} {mg mb : Str → Option Value} {k : Nat} {fa a : Addr} {fd : FuncData} {x : Str} {sp : Sp} {s : Shared} {vs : List Value} {ns : List Int}
    (kin : K.In s.heap) (gm : s.heap.Ns mainGlobals mg) (bm : s.heap.Ns builtinsNs mb) (bok : ∀ x : Str, x ≠ "__name__" → mb x = bootBuiltins x) (nl : s.heap.NoLimit) (g0 : s.gens = #[])
    (ha : s.heap.get? a = some { cls := .type "list", data := .seq vs.toArray }) (iv : IntsAre vs ns) (sz : ns.length ≤ sizeLine) (rm : Room k callerA)
    (Fn : ∀ base : Heap, K.In base → base.Ns mainGlobals mg → FnG P w K mg base k fa fd [x] sp) (bnd : ∀ (t : Shared) (u : Value), BindsTo t fd ⟨[u], []⟩ [(x, u)])
    (spok : ∀ H : Hp, Only H → SqL K H a (ns.map V.int) → sp [.ref a] H (fun v _ => v = .bl true) fun _ _ _ => False) :
    codeAny (model P w) callerA (.call (.ref fa) ⟨[.ref a], []⟩) (fun r t => r = .ok (.ret (.bool true)) ∧ OldK s.heap t.heap ∧ t.os = s.os ∧ AllBare t.gens) s := by
  have vi := vals_ints iv
  have from_ : ∀ H : Hp, Only H → SqL K H a (ns.map V.int) → HOk P w H s.heap → (∀ c, H c ≠ none → c = a) → (H a ≠ none → K.lookup a = none) → codeAny (model P w) callerA (.call (.ref fa) ⟨[.ref a], []⟩) (fun r t => r = .ok (.ret (.bool true)) ∧ OldK s.heap t.heap ∧ t.os = s.os ∧ AllBare t.gens) s := by
    intro H only sq ok hA hK
    obtain ⟨k2, n2, env⟩ := hid_env (P := P) (w := w) kin gm bm bok nl g0 ha ok hA hK
    have go := (Fn _ k2 n2).go callerA [] s H ⟨[.ref a], []⟩ [.ref a] [.ref a] (fun v _ => v = .bl true) (fun _ _ _ => False) rfl rm env (bnd s (.ref a)) (.cons rfl .nil) (spok H only sq)
    refine codeAny_mono go fun r t hr => ?_
    match r, hr with
    | .error er, hr => exact hr.elim
    | .ok .next, hr => exact hr.elim
    | .ok .brk, hr => exact hr.elim
    | .ok .cont, hr => exact hr.elim
    | .ok (.ret u), ⟨v, H2, eqOs, bare, un, ok2, rel, isT⟩ =>
      subst isT
      obtain rfl : u = Value.bool true := rel
      refine ⟨rfl, OldK.of_keep fun c ob got => ?_, eqOs, bare⟩
      cases hc : H c with
      | none => exact un.keep c ob got hc (fun bad => absurd (show c ∈ ([] : List Addr) from bad) List.not_mem_nil) (by simp)
      | some t2 =>
        rcases only c with no | ⟨o2, xs, yes⟩
        · rw [hc] at no
          cases no
        · obtain ⟨g1, _⟩ := ok c _ yes
          obtain ⟨g2, _⟩ := ok2 c _ (un.frzs c o2 _ yes)
          rw [got] at g1
          cases g1
          exact g2
  by_cases hk : K.lookup a = none
  · let H1 : Hp := fun c => if c = a then some (.frz { cls := .type "list", data := .seq vs.toArray } (.lst (ns.map V.int))) else none
    have at_a : H1 a = some (.frz { cls := .type "list", data := .seq vs.toArray } (.lst (ns.map V.int))) := if_pos rfl
    have off : ∀ c, c ≠ a → H1 c = none := fun c hc => if_neg hc
    refine from_ H1 (fun c => ?_) (.inl (.inr ⟨_, at_a⟩)) (fun c t got => ?_) (fun c ne => ?_) fun _ => hk
    · by_cases hc : c = a
      · subst hc
        exact .inr ⟨_, _, at_a⟩
      · exact .inl (off c hc)
    · by_cases hc : c = a
      · subst hc
        rw [at_a] at got
        cases got
        exact ⟨ha, by rw [List.length_map]; exact sz, vs, _, vi, ha⟩
      · rw [off c hc] at got
        cases got
    · by_cases hc : c = a
      · exact hc
      · exact absurd (off c hc) ne
  · obtain ⟨o2, ho⟩ : ∃ o2, K.lookup a = some o2 := by
      cases h2 : K.lookup a with
      | none => exact absurd h2 hk
      | some o2 => exact ⟨o2, rfl⟩
    have got := kin a o2 ho
    rw [ha] at got
    cases got
    refine from_ (fun _ => none) (fun _ => .inl rfl) (.inr ⟨_, vs.toArray, _, ho, rfl, rfl, rfl, ?_, ?_⟩) (fun c t bad => by cases bad) (fun c bad => absurd rfl bad) fun bad => absurd rfl bad
    · rw [List.size_toArray, iv.length]
      exact sz
    · simpa using vi
/-- the walk of a law over FnG -/
theorem walk_ofG {l : PySem.W.OpenLaw} {n k : Nat} {q : Program} {loose : List Str} {XP : (Str → Option Value) → Heap → Prop} {YP : World → Heap → Prop} {d : DefRec} {x : Str} (hn : l.most = some n) (hn2 : n ≤ sizeLine) (hdf : d.params.defaults = []) (rm : Room k callerA)
    (Fn : ∀ (w : World) (mg : Str → Option Value) (fa : Addr) (h : Heap), YP w h → h.Ns mainGlobals mg → mg d.name = some (.ref fa) → ∃ (K : PySem.W.Frag) (fd : FuncData) (sp : Sp), K.In h ∧ (∀ (t : Shared) (u : Value), BindsTo t fd ⟨[u], []⟩ [(x, u)]) ∧
      (∀ (H : Hp) (a : Addr) (ns : List Int), ns.length ≤ n → Only H → SqL K H a (ns.map V.int) → sp [.ref a] H (fun v _ => v = .bl true) fun _ _ _ => False) ∧ ∀ base : Heap, K.In base → base.Ns mainGlobals mg → FnG l.prog w K mg base k fa fd [x] sp) :
    PySem.W.WalkO q loose XP YP l.row.toRowW d [] (fun f vs => PySem.call f vs) := by
  refine Att.attach_call hn hdf fun w t₀ t₁ mg mb fa o pm cd doc a vs ns G Y ho hd hcd hmg hobj iv lt g0 => ?_
  obtain ⟨K, fd, sp, kin, bnd, spok, hF⟩ := Fn w mg fa _ Y G.T.g hmg
  exact law_callG kin G.T.g G.T.b G.T.builtins G.T.nolimit g0 hobj iv (Nat.le_trans lt hn2) rm hF bnd fun H only sq => spok H a ns lt only sq
end Dl
/-! text Hs24 -/
/-! Hs24: the sons of all moments, by hand. -/
namespace Hd
open PySem PySem.Spec PyProof.Rows L2 Dl
/-- the sons told so far -/
def sonsT (ms : List PyData) (t i : Nat) : List Nat := (List.range t).filter fun j => decide (0 < j) && decide (fatN ms j = i)
theorem sonsT_succ (ms : List PyData) (t i : Nat) : sonsT ms (t + 1) i = sonsT ms t i ++ (if 0 < t ∧ fatN ms t = i then [t] else []) := by
  unfold sonsT
  rw [List.range_succ, List.filter_append]
  congr 1
  by_cases h0 : 0 < t <;> by_cases h1 : fatN ms t = i <;> simp [List.filter, h0, h1]
theorem sonsT_le (ms : List PyData) (t i : Nat) : (sonsT ms t i).length ≤ t := by
  have := List.length_filter_le (fun j => decide (0 < j) && decide (fatN ms j = i)) (List.range t)
  rw [List.length_range] at this
  exact this
theorem sonsT_all (ms : List PyData) (i : Nat) : sonsT ms ms.length i = sonsOf ms i := rfl
theorem sons_end (ms : List PyData) : PyData.list ((List.range ms.length).map fun i => .list ((sonsT ms ms.length i).map fun j => .int (j : Nat))) = sonsD ms := rfl
abbrev tBody (K : PySem.W.Frag) (G : Gh) (ef ej : DE) : TS := tDrop (tBM K "list" rAppend (tOp (rIx K) (tVar 1) (tE K G ef)) (tCons (tE K G ej) tNil))
def Dt (x : Sl) : Prop := x = .un ∨ ∃ d, x = .dat d
theorem no4 {d : PyData} {x y : Sl} (hx : Dt x) (hy : Dt y) : NoOwn [.dat d, .un, x, y] := by
  intro i ds h
  match i, h with
  | 0, h => cases h
  | 1, h => cases h
  | 2, h =>
    have h : some x = some (.own ds) := h
    cases h
    rcases hx with e | ⟨_, e⟩ <;> cases e
  | 3, h =>
    have h : some y = some (.own ds) := h
    cases h
    rcases hy with e | ⟨_, e⟩ <;> cases e
/-- all that is kept between the turns -/
def SonsI (ms : List PyData) (H : Hp) (Da : Addr) (qs : List Addr) (t : Nat) (σ : L2.St) (H' : Hp) (env : Dl.Env) : Prop := ∃ x y, Dt x ∧ Dt y ∧ env = [.dat (.tuple ms), .un, x, y] ∧ σ[1]? = some (some (.ref Da)) ∧ Rows H H' Da qs (sonsT ms t)
section
variable {K : PySem.W.Frag} {A' : List Addr} {H H3 : Hp} {ms : List PyData} {Da : Addr} {qs : List Addr} {σ : L2.St} {x y : Sl} {t : Nat}
/-- a turn that stores -/
theorem sons_turn {X : Cx} (hK : X.K = K) (hg : goods momB 0 ms = true) (lq : qs.length = ms.length) (l2 : ms.length ≤ 31) (t0 : 0 < t) (tl : t < ms.length) {ef ej : DE} (hx : Dt x) (hy : Dt y) (hs : σ[1]? = some (some (.ref Da))) (R : Rows H H3 Da qs (sonsT ms t)) (m : MA K ⟨A', none, H⟩ (Da :: qs ++ A') σ H3 [.dat (.tuple ms), .un, x, y])
    (wf : ef [.dat (.tuple ms), .un, x, y] fun d => d = .int ((fatN ms t : Nat) : Int)) (wj : ej [.dat (.tuple ms), .un, x, y] fun d => d = .int (t : Int)) {D : Ends}
    (q : ∀ H4, Pres K (Da :: qs ++ A') H3 (Da :: qs ++ A') H4 → MA K ⟨A', none, H⟩ (Da :: qs ++ A') σ H4 [.dat (.tuple ms), .un, x, y] → SonsI ms H Da qs (t + 1) σ H4 [.dat (.tuple ms), .un, x, y] → D.nx σ H4) : tBody K ⟨A', none, H⟩ ef ej D σ H3 := by
  subst hK
  obtain ⟨a, b, _, hf⟩ := mom_at hg tl
  have fl : fatN ms t < qs.length := by omega
  have hq : qs[fatN ms t]? = some qs[fatN ms t] := List.getElem?_eq_getElem fl
  have qm : qs[fatN ms t] ∈ qs := List.getElem_mem fl
  refine app_rows (X := X) (A := A') hs R hq (by have := sonsT_le ms t (fatN ms t); omega) (fun Q hQ => tE_int rfl m wf Q hQ) (fun H5 e5 Q hQ => tE_int rfl (m.step (Step.of e5)) wj Q hQ) fun H6 e6 R6 => ?_
  have m6 := m.step (Step.of e6)
  obtain ⟨m7, p7⟩ := m6.poke (no4 hx hy) (q := qs[fatN ms t]) (List.mem_append.mpr (.inl (List.mem_cons_of_mem _ qm))) (R.q0 _ qm) (fun z => by cases z) (.lst ((sonsT ms t (fatN ms t)).map (fun j => V.int (j : Nat)) ++ [.int (t : Nat)]))
  refine q _ ((m.pres (Step.of e6)).trans p7) m7 ⟨x, y, hx, hy, rfl, hs, (R6.push hq).same fun i hi => ?_⟩
  rw [sonsT_succ]
  by_cases c : i = fatN ms t
  · rw [if_pos c, if_pos ⟨t0, c.symm⟩]
  · rw [if_neg c, if_neg fun z => c z.2.symm]
end
section
variable {P : Program} {w : World} {K : PySem.W.Frag} {mg : Str → Option Value} {base : Heap} {f : Addr} {fd : FuncData} {k : Nat}
theorem fn_sons_in (bn : Bn mg) (Fd : FunD K "sons_in" "sons_in" (defArgs s_sons_in) (defBody s_sons_in) (defScope s_sons_in) [] [] f fd) : FnG P w K mg base (k + 1) f fd ["moments"] (spD K F_sons_in) := by
  have nd : (N_sons_in : List Str).Nodup := by decide +kernel
  have sc : FnScope N_sons_in ["moments"] (defScope s_sons_in) := ⟨rfl, rfl, rfl, nd, rfl, by decide +kernel, by decide +kernel⟩
  refine fnG_of Fd sc (fun vs H Q E h => ?_) (fun cdv A outer s H vs Q E hg hr h => ?_)
  · obtain ⟨A, ds, al, i, l, _⟩ := h
    rw [i.len, l]
    rfl
  obtain ⟨A', ds, al, i, l, pr, q⟩ := h
  obtain ⟨m, rfl, hm⟩ := p1 pr
  obtain ⟨ms, rfl, l1, l2, hgm⟩ := len_moments hm
  have hu := hr.units
  have T : ∃ t1 t2, PSs (cxOf CX0 P w K mg base N_sons_in "sons_in" (defScope s_sons_in) f cdv A outer s H E).nox (defBody s_sons_in) (tSeq t1 (tSeq t2 (tRet (tVar 1)))) ∧
      SemR (cxOf CX0 P w K mg base N_sons_in "sons_in" (defScope s_sons_in) f cdv A outer s H E).nox ⟨A', none, H⟩ 1 (dT (eVar 0)) t1 ∧
      SemF (cxOf CX0 P w K mg base N_sons_in "sons_in" (defScope s_sons_in) f cdv A outer s H E).nox ⟨A', none, H⟩ [2, 3] (dEnT (eVar 0)) (gTu 2 (gCn (gN 2) (gCn (gN 3) gNl))) (tIfS (tTT K ⟨A', none, H⟩ (tV (e2 fGt (bVar 2) (eC (.int 0))))) (tBody K ⟨A', none, H⟩ (e2 fIx (bVar 3) (eC (.int 0))) (eVar 2)) tNext) t2 :=
    pss_three (gs_rows (own := [("moment", 3)]) rfl rfl nd rfl rfl (sw_true rfl rfl rfl rfl) (gi_tup (ge_var (i := 0) rfl (Or.inl rfl))) (show BlkOk N_sons_in (defScope s_sons_in) _ _ from ⟨rfl, by decide +kernel, by decide +kernel, by decide +kernel, by decide +kernel⟩) (fun _ _ _ _ _ => gg_name (i := 3) nd rfl (Or.inl rfl)))
      (gs_for_raw PassesOwn.never rfl (gi_enumT (ge_var (i := 0) rfl (Or.inl rfl)) rfl bn.n_enumerate) (gg_tup rfl (ggs_cons (gg_name (i := 2) nd rfl (Or.inl rfl)) (ggs_cons (gg_name (i := 3) nd rfl (Or.inl rfl)) ggs_nil)))
        (pss_one (ps_if (gt_cmp op_gt dr_ci (gb_var (i := 2) rfl (Or.inl rfl)) (GE.gb ge_int) (nomark _)).canon
          (pss_one (ps_expr (pe_bm PySem.F.plainAttrs_list PySem.F.slot_list_append PySem.F.type_list_append mt_append (pe_ix ix_seq (pe_var (i := 1) rfl (Or.inl rfl)) (ge_ix ix_seq dr_ix (gb_var (i := 3) rfl (Or.inl rfl)) (GE.gb ge_int) (by intro _ _; rfl)).canon (by intro _ _; rfl)) (pa_cons (ge_var (i := 2) rfl (Or.inl rfl)).canon pa_nil)))) pss_nil)))
      (ps_ret (pe_var (i := 1) rfl (Or.inl rfl)))
  obtain ⟨t1, t2, pss, h1, h2⟩ := T
  refine ⟨_, pss, ?_⟩
  have m0 := ma_start (N := N_sons_in) (G := ⟨A', none, H⟩) i rfl rfl (fun p e => by cases e) al
  refine h1 A' _ H [.dat (.tuple ms), .un, .un, .un] _ ms.length m0 (by omega) rfl fun Da H1 qs lq R => ?_
  have u0 : Dt .un := .inl rfl
  obtain ⟨m1, _⟩ := (m0.un 1 (some (.ref Da))).grow (B := Da :: qs) (no4 (d := .tuple ms) u0 u0) R.ext fun b hb => by
    rcases List.mem_cons.mp hb with rfl | hb
    · exact ⟨R.d0, _, R.d⟩
    · obtain ⟨j, hj⟩ := List.getElem?_of_mem hb
      exact ⟨R.q0 b hb, _, R.q j b hj⟩
  have s1 : ((L2.start N_sons_in vs).set 1 (some (.ref Da)))[1]? = some (some (.ref Da)) := List.getElem?_set_self (by rw [start_len (by rw [i.len, l]; decide)]; decide)
  refine h2 (Da :: qs ++ A') _ H1 [.dat (.tuple ms), .un, .un, .un] _ (fun t σ' H' env' => SonsI ms H Da qs t σ' H' env') m1 ?_
  refine ⟨fun H2 st => ⟨_, _, u0, u0, rfl, s1, (R.step fun a o h => st.k a o (fun z => by cases z) h).same fun i _ => rfl⟩, fun j d σ1 H2 H3 env1 hd hI m3 ext => ?_, fun σ1 H2 env1 m3 hI => ?_⟩
  · obtain ⟨x, y, hx, hy, rfl, hs1, R2⟩ := hI
    obtain ⟨mo, hmo, rfl⟩ := enD_get hd
    have lj : j < ms.length := (List.getElem?_eq_some_iff.mp hmo).1
    refine ⟨rfl, ?_⟩
    simp only [gCn, gN, gNl]
    intro σ2 ag m4 N hN
    have m4 : MA K ⟨A', none, H⟩ (Da :: qs ++ A') σ2 H3 [.dat (.tuple ms), .un, .dat (.int (j : Int)), .dat mo] := m4
    have s2 : σ2[1]? = some (some (.ref Da)) := by rw [ag.2 1 (by decide)]; exact hs1
    have dx : Dt (.dat (.int (j : Int))) := .inr ⟨_, rfl⟩
    have dy : Dt (.dat mo) := .inr ⟨_, rfl⟩
    refine ⟨_, _, fun b => b = decide (0 < (j : Int)), m4, ⟨trivial, rfl⟩, fun b H4 s4 hb => ?_⟩
    have R4 := (R2.step ext).step fun a o h => s4.k a o (fun z => by cases z) h
    subst hb
    by_cases j0 : j = 0
    · subst j0
      refine hN σ2 H4 _ (m4.pres s4) (m4.step s4) ⟨_, _, dx, dy, rfl, s2, R4.same fun i _ => ?_⟩
      rw [sonsT_succ]
      simp
    · have jp : 0 < j := by omega
      have jp' : decide (0 < (j : Int)) = true := decide_eq_true (by omega)
      obtain ⟨a, b, em, _⟩ := mom_at hgm lj
      rw [hmo] at em
      cases em
      rw [jp']
      show tBody K ⟨A', none, H⟩ _ _ _ σ2 H4
      exact sons_turn (X := (cxOf CX0 P w K mg base N_sons_in "sons_in" (defScope s_sons_in) f cdv A outer s H E).nox) rfl hgm lq l2 jp lj dx dy s2 R4 (m4.step s4) ⟨_, at0 _ _, rfl⟩ rfl fun H5 p5 m5 i5 => hN σ2 H5 _ ((m4.pres s4).trans p5) m5 i5
  · obtain ⟨x, y, hx, hy, rfl, hs1, R2⟩ := hI
    rw [enD_len] at R2
    refine ⟨_, hs1, q (.ref Da) H2 (sonsD ms) (Step.of R2.ext) ?_ rfl⟩
    have := R2.is (K := K) al
    rw [lq] at this
    exact this
theorem fn__law_sons (bn : Bn mg) (Fd : FunD K "_law_sons" "_law_sons" (defArgs s__law_sons) (defBody s__law_sons) (defScope s__law_sons) [] [] f fd) : FnG P w K mg base (k + 1) f fd ["moments"] (spD K F__law_sons) := by
  have nd : (N__law_sons : List Str).Nodup := by decide +kernel
  have sc : FnScope N__law_sons ["moments"] (defScope s__law_sons) := ⟨rfl, rfl, rfl, nd, rfl, by decide +kernel, by decide +kernel⟩
  refine fnG_of Fd sc (fun vs H Q E h => ?_) (fun cdv A outer s H vs Q E hg hr h => ?_)
  · obtain ⟨A, ds, al, i, l, _⟩ := h
    rw [i.len, l]
    rfl
  obtain ⟨A', ds, al, i, l, pr, q⟩ := h
  obtain ⟨m, rfl, hm⟩ := p1 pr
  obtain ⟨ms, rfl, l1, l2, hgm⟩ := len_moments hm
  have hu := hr.units
  have T : ∃ t1 t2, PSs (cxOf CX0 P w K mg base N__law_sons "_law_sons" (defScope s__law_sons) f cdv A outer s H E).nox (defBody s__law_sons) (tSeq t1 (tSeq t2 (tRet (tVar 1)))) ∧
      SemR (cxOf CX0 P w K mg base N__law_sons "_law_sons" (defScope s__law_sons) f cdv A outer s H E).nox ⟨A', none, H⟩ 1 (dT (eVar 0)) t1 ∧
      SemF (cxOf CX0 P w K mg base N__law_sons "_law_sons" (defScope s__law_sons) f cdv A outer s H E).nox ⟨A', none, H⟩ [2] (dR2 (eC (.int 1)) (e1 fLen (bVar 0))) (gN 2) (tBody K ⟨A', none, H⟩ (e2 fIx (e2 fIx (bVar 0) (bVar 2)) (eC (.int 0))) (eVar 2)) t2 :=
    pss_three (gs_rows (own := [("moment", 3)]) rfl rfl nd rfl rfl (sw_true rfl rfl rfl rfl) (gi_tup (ge_var (i := 0) rfl (Or.inl rfl))) (show BlkOk N__law_sons (defScope s__law_sons) _ _ from ⟨rfl, by decide +kernel, by decide +kernel, by decide +kernel, by decide +kernel⟩) (fun _ _ _ _ _ => gg_name (i := 3) nd rfl (Or.inl rfl)))
      (gs_for_raw PassesOwn.never rfl (gi_range2 ge_int (ge_b1 call_len dc_len (gb_var (i := 0) rfl (Or.inl rfl)) rfl bn.n_len rfl) rfl bn.n_range) (gg_name (i := 2) nd rfl (Or.inl rfl))
        (pss_one (ps_expr (pe_bm PySem.F.plainAttrs_list PySem.F.slot_list_append PySem.F.type_list_append mt_append (pe_ix ix_seq (pe_var (i := 1) rfl (Or.inl rfl)) (ge_ix ix_seq dr_ix (GE.gb (ge_ix ix_seq dr_ix (gb_var (i := 0) rfl (Or.inl rfl)) (gb_var (i := 2) rfl (Or.inl rfl)) (by intro _ _; rfl))) (GE.gb ge_int) (by intro _ _; rfl)).canon (by intro _ _; rfl)) (pa_cons (ge_var (i := 2) rfl (Or.inl rfl)).canon pa_nil)))))
      (ps_ret (pe_var (i := 1) rfl (Or.inl rfl)))
  obtain ⟨t1, t2, pss, h1, h2⟩ := T
  refine ⟨_, pss, ?_⟩
  have m0 := ma_start (N := N__law_sons) (G := ⟨A', none, H⟩) i rfl rfl (fun p e => by cases e) al
  refine h1 A' _ H [.dat (.tuple ms), .un, .un, .un] _ ms.length m0 (by omega) rfl fun Da H1 qs lq R => ?_
  have u0 : Dt .un := .inl rfl
  obtain ⟨m1, _⟩ := (m0.un 1 (some (.ref Da))).grow (B := Da :: qs) (no4 (d := .tuple ms) u0 u0) R.ext fun b hb => by
    rcases List.mem_cons.mp hb with rfl | hb
    · exact ⟨R.d0, _, R.d⟩
    · obtain ⟨j, hj⟩ := List.getElem?_of_mem hb
      exact ⟨R.q0 b hb, _, R.q j b hj⟩
  have s1 : ((L2.start N__law_sons vs).set 1 (some (.ref Da)))[1]? = some (some (.ref Da)) := List.getElem?_set_self (by rw [start_len (by rw [i.len, l]; decide)]; decide)
  refine h2 (Da :: qs ++ A') _ H1 [.dat (.tuple ms), .un, .un, .un] _ (fun t σ' H' env' => SonsI ms H Da qs (t + 1) σ' H' env') m1 ?_
  have b1 : (ms.length : Int) ≤ 100000 := by omega
  have b0 : -100000 ≤ (ms.length : Int) := by omega
  refine ⟨by decide, by decide, b0, b1, fun H2 st => ⟨_, _, u0, u0, rfl, s1, (R.step fun a o h => st.k a o (fun z => by cases z) h).same fun i _ => ?_⟩, fun j d σ1 H2 H3 env1 hd hI m3 ext => ?_, fun σ1 H2 env1 m3 hI => ?_⟩
  · rw [sonsT_succ]
    simp [sonsT]
  · obtain ⟨x, y, hx, hy, rfl, hs1, R2⟩ := hI
    obtain ⟨lt, rfl⟩ := rgD_get hd
    have lj : j + 1 < ms.length := by omega
    have ct : ((1 : Int) + ((j : Nat) : Int)) = ((j + 1 : Nat) : Int) := by omega
    rw [ct]
    simp only [gN]
    intro σ2 ag m4 N hN
    have m4 : MA K ⟨A', none, H⟩ (Da :: qs ++ A') σ2 H3 [.dat (.tuple ms), .un, .dat (.int ((j + 1 : Nat) : Int)), y] := m4
    have s2 : σ2[1]? = some (some (.ref Da)) := by rw [ag.2 1 (by decide)]; exact hs1
    have dx : Dt (.dat (.int ((j + 1 : Nat) : Int))) := .inr ⟨_, rfl⟩
    obtain ⟨a, b, em, _⟩ := mom_at hgm lj
    exact sons_turn (X := (cxOf CX0 P w K mg base N__law_sons "_law_sons" (defScope s__law_sons) f cdv A outer s H E).nox) rfl hgm lq l2 (Nat.succ_pos j) lj dx hy s2 (R2.step ext) m4 ⟨_, (at_dN ms (j + 1)).trans em, _, at0 _ _, rfl⟩ rfl fun H5 p5 m5 i5 => hN σ2 H5 _ p5 m5 i5
  · obtain ⟨x, y, hx, hy, rfl, hs1, R2⟩ := hI
    rw [rgD_len] at R2
    have e : ((ms.length : Int) - 1).toNat + 1 = ms.length := by omega
    rw [e] at R2
    refine ⟨_, hs1, q (.ref Da) H2 (sonsD ms) (Step.of R2.ext) ?_ rfl⟩
    have := R2.is (K := K) al
    rw [lq] at this
    exact this
end
end Hd
/-! text Hd24 -/
/-! Hd24: what is drawn from the pot, by hand. -/
namespace Hd
open PySem PySem.Spec PyProof.Rows L2 Dl
theorem divp_sm {i j : Int} (h0 : 0 < j) (h1 : j ≤ 1000000) : CDivP i j := by
  refine ⟨h0, ?_⟩
  show (decide ((if j == 0 then 0 else j.natAbs.log2 / 30 + 1) > 300) && _) = false
  have z : ¬ (j == 0) = true := by simp; omega
  rw [if_neg z]
  have l : j.natAbs.log2 < 20 := (Nat.log2_lt (by omega)).mpr (by omega)
  have d : decide (j.natAbs.log2 / 30 + 1 > 300) = false := decide_eq_false (by omega)
  rw [d, Bool.false_and]
theorem potl {H : Hp} {p : Addr} (h : PotAt H p) : ∃ x y : Int, H p = some (.lst [.int x, .int y]) ∧ 0 ≤ x ∧ 0 ≤ y ∧ y < 4294967296 := h
theorem rd0 {K : PySem.W.Frag} {σ : L2.St} {H : Hp} {Q : VK} {pa : Addr} {x y : Int} (h : σ[0]? = some (some (.ref pa))) (hp : H pa = some (.lst [.int x, .int y])) (q : Q (.int x) H) : tOp (rIx K) (tVar 0) (tC (.int 0)) σ H Q := ⟨_, h, .inl ⟨pa, _, 0, _, rfl, rfl, .inl (.inl hp), rfl, q⟩⟩
theorem rd1 {K : PySem.W.Frag} {σ : L2.St} {H : Hp} {Q : VK} {pa : Addr} {x y : Int} (h : σ[0]? = some (some (.ref pa))) (hp : H pa = some (.lst [.int x, .int y])) (q : Q (.int y) H) : tOp (rIx K) (tVar 0) (tC (.int 1)) σ H Q := ⟨_, h, .inl ⟨pa, _, 1, _, rfl, rfl, .inl (.inl hp), rfl, q⟩⟩
theorem step_pot {H : Hp} {pa : Addr} {o : HO} {x y : Int} (e : o = .lst [.int x, .int y]) (x0 : 0 ≤ x) (y0 : 0 ≤ y) (y1 : y < 4294967296) : Step (some pa) H (upd H pa o) :=
  ⟨fun a u n h => by rw [upd_ne fun z => n (by rw [z])]; exact h, fun p ep _ => by cases ep; exact ⟨x, y, by rw [upd_same, e], x0, y0, y1⟩⟩
section
variable {P : Program} {w : World} {K : PySem.W.Frag} {mg : Str → Option Value} {base : Heap} {f : Addr} {fd : FuncData} {k : Nat}
theorem fn__law_draw (bn : Bn mg) (hdm : mg "divmod" = none) (Fd : FunD K "_law_draw" "_law_draw" (defArgs s__law_draw) (defBody s__law_draw) (defScope s__law_draw) [] [] f fd) : FnG P w K mg base (k + 1) f fd ["pot", "many"] (spP K F__law_draw) := by
  have nd : (N__law_draw : List Str).Nodup := by decide +kernel
  have sc : FnScope N__law_draw ["pot", "many"] (defScope s__law_draw) := ⟨rfl, rfl, rfl, nd, rfl, by decide +kernel, by decide +kernel⟩
  refine fnG_of Fd sc (fun vs H Q E h => ?_) (fun cdv A outer s H vs Q E hg hr h => ?_)
  · obtain ⟨A, ds, pa, us, rfl, _, _, _, i, l, _⟩ := h
    rw [List.length_cons, i.len, l]
    rfl
  obtain ⟨A', ds, pa, us, rfl, hpA, hpo, al, i, l, pr, q⟩ := h
  obtain ⟨d, rfl⟩ := one_of l
  obtain ⟨m, rfl, m0, m1⟩ : ∃ m : Int, d = .int m ∧ 0 < m ∧ m ≤ 1000000 := by
    unfold F__law_draw at pr
    dsimp only at pr
    split at pr
    · rename_i e
      cases e
      exact ⟨_, rfl, pr⟩
    · exact pr.elim
  cases i with
  | cons i1 i2 =>
  cases i2
  cases i1
  obtain ⟨x, y, hp, x0, y0, y1⟩ := potl hpo
  have hu := hr.units
  have T : ∃ t, PSs (cxOf CX0 P w K mg base N__law_draw "_law_draw" (defScope s__law_draw) f cdv A outer s H E).nox (defBody s__law_draw) t ∧ t { nx := fun _ H' => Q V.non H', rt := Q } (L2.start N__law_draw [.ref pa, .int m]) H := by
    refine ⟨_, pss_cons (ps_if (pt_cmpR op_gt (pe_ix ix_seq (pe_var (i := 0) rfl (Or.inl rfl)) pe_int (by intro _ _; rfl)) pe_int (nomark _))
        (pss_cons (ps_asg (pe_callB call_divmodW rfl hdm rfl (pa_cons (pe_ix ix_seq (pe_var (i := 0) rfl (Or.inl rfl)) pe_int (by intro _ _; rfl)) (pa_cons (pe_var (i := 1) rfl (Or.inl rfl)) pa_nil))) (pg_tup rfl (pgs_cons (pg_sub (pe_var (i := 0) rfl (Or.inl rfl)) pe_int set_list (by intro _; rfl)) (pgs_cons (pg_name (i := 2) nd rfl (Or.inl rfl)) pgs_nil))))
          (pss_one (ps_ret (pe_var (i := 2) rfl (Or.inl rfl))))) pss_nil)
      (pss_cons (ps_asg (pe_op op_modN (pe_callTy call_int1 rfl bn.n_int rfl (pa_cons (pe_op op_add (pe_op op_mulW (pe_ix ix_seq (pe_var (i := 0) rfl (Or.inl rfl)) pe_int (by intro _ _; rfl)) pe_int) pe_int) pa_nil)) pe_int) (pg_sub (pe_var (i := 0) rfl (Or.inl rfl)) pe_int set_list (by intro _; rfl)))
      (pss_one (ps_ret (pe_op op_modN (pe_callTy call_int1 rfl bn.n_int rfl (pa_cons (pe_op Dl.op_fdivW (pe_op op_modN (pe_callTy call_int1 rfl bn.n_int rfl (pa_cons (pe_op op_mulW (pe_ix ix_seq (pe_var (i := 0) rfl (Or.inl rfl)) pe_int (by intro _ _; rfl)) (pe_ix ix_seq (pe_var (i := 0) rfl (Or.inl rfl)) pe_int (by intro _ _; rfl))) pa_nil)) pe_int) pe_int) pa_nil)) (pe_var (i := 1) rfl (Or.inl rfl)))))), ?_⟩
    show tOp (rIx K) (tVar 0) (tC (.int 0)) _ H _
    refine rd0 rfl hp ⟨x, 0, rfl, rfl, _, rfl, ?_⟩
    by_cases c : 0 < x
    · have cd : decide (0 < x) = true := decide_eq_true c
      rw [cd]
      show tOp (rIx K) (tVar 0) (tC (.int 0)) _ H _
      refine rd0 rfl hp ⟨.int m, rfl, x, m, rfl, divp_sm m0 m1, fun p np => ?_⟩
      have ne : pa ≠ p := ne_of_none hp np
      refine ⟨p, _, rfl, .inl (.inl upd_same), rfl, _, _, rfl, .ref pa, rfl, pa, _, 0, 0, rfl, rfl, (by rw [upd_ne ne]; exact hp), rfl, _, _, rfl, rfl, _, rfl, ?_⟩
      have a1 : 0 ≤ x / m := Int.ediv_nonneg x0 (by omega)
      refine q _ _ (.int (x % m)) ((Step.new np).trans (step_pot rfl a1 y0 y1)) (.int _) ⟨_, rfl, Int.emod_nonneg _ (by omega), Int.emod_lt_of_pos _ m0⟩
    · have cd : decide (0 < x) = false := decide_eq_false c
      rw [cd]
      show tOp (rIx K) (tVar 0) (tC (.int 1)) _ H _
      have ly : ∀ {i : Int}, 0 ≤ i → i < 4294967296 → i.natAbs < 2 ^ 4000 := fun {i} h0 h1 => Nat.lt_of_lt_of_le (by omega : i.natAbs < 2 ^ 32) (Nat.pow_le_pow_right (by decide) (by decide))
      have lo : ∀ {i : Int}, 0 ≤ i → i < 4294967296 → Lo i := fun h0 h1 => lo_of (n := 4000) (ly h0 h1) (by decide)
      refine rd1 rfl hp ⟨y, 41183, rfl, rfl, cmul_of ⟨lo y0 y1, lo (by decide) (by decide)⟩, _, _, rfl, rfl, .inl ⟨_, rfl, _, _, rfl, rfl, (show (2147483587 : Int) ≠ 0 by decide), ?_⟩⟩
      refine ⟨.ref pa, rfl, pa, _, 1, 1, rfl, rfl, hp, rfl, ?_⟩
      show tOp (rIx K) (tVar 0) (tC (.int 1)) _ (upd H pa (.lst ([V.int x, .int y].set 1 (.int (Int.fmod (y * 41183 + 2197) 2147483587))))) _
      have e1 : Int.fmod (y * 41183 + 2197) 2147483587 = (y * 41183 + 2197) % 2147483587 := Int.fmod_eq_emod_of_nonneg _ (by decide)
      rw [e1]
      have z0 : 0 ≤ (y * 41183 + 2197) % 2147483587 := Int.emod_nonneg _ (by decide)
      have z1 : (y * 41183 + 2197) % 2147483587 < 2147483587 := Int.emod_lt_of_pos _ (by decide)
      generalize (y * 41183 + 2197) % 2147483587 = z at z0 z1
      have hp2 : upd H pa (.lst ([V.int x, .int y].set 1 (.int z))) pa = some (.lst [.int x, .int z]) := upd_same
      refine rd1 rfl hp2 (rd1 rfl hp2 ⟨z, z, rfl, rfl, cmul_of ⟨lo z0 (by omega), lo z0 (by omega)⟩, .inl ⟨_, rfl, _, _, rfl, rfl, (show (2147483563 : Int) ≠ 0 by decide), _, _, rfl, rfl, ?_, .inl ⟨_, rfl, .int m, rfl, _, _, rfl, rfl, by omega, ?_⟩⟩⟩)
      · show Dl.CDivW (Int.fmod (z * z) 2147483563) 29
        have e2 : Int.fmod (z * z) 2147483563 = (z * z) % 2147483563 := Int.fmod_eq_emod_of_nonneg _ (by decide)
        have v0 : 0 ≤ (z * z) % 2147483563 := Int.emod_nonneg _ (by decide)
        have v1 : (z * z) % 2147483563 < 2147483563 := Int.emod_lt_of_pos _ (by decide)
        rw [e2]
        exact ⟨by decide, ly v0 (by omega)⟩
      · refine q _ _ _ (step_pot rfl x0 z0 (by omega)) (.int _) ⟨_, rfl, ?_, ?_⟩
        · rw [Int.fmod_eq_emod_of_nonneg _ (by omega)]
          exact Int.emod_nonneg _ (by omega)
        · rw [Int.fmod_eq_emod_of_nonneg _ (by omega)]
          exact Int.emod_lt_of_pos _ m0
  obtain ⟨t, p, h⟩ := T
  exact ⟨t, p, h⟩
end
end Hd
/-! text Hq24 -/
/-! Hq24: the pot, the law, by hand. -/
namespace Hd
open PySem PySem.Spec PyProof.Rows L2 Dl
/-- a new pot -/
def spPot (K : PySem.W.Frag) : Sp := fun vs H Q _ => ∃ (a : Addr) (ns : List Int) (k : Nat), vs = [.ref a, .int (k : Int)] ∧ SqL K H a (ns.map V.int) ∧ k ≤ 2 ∧ ∀ (p : Addr) (x y : Int), H p = none → 0 ≤ x → 0 ≤ y → y < 4294967296 → Q (.ref p) (upd H p (.lst [.int x, .int y]))
theorem at_V {ns : List Int} {k : Nat} (h : k < ns.length) : L2.atI (ns.map V.int) (k : Int) = some (.int ns[k]) := by
  unfold L2.atI L2.ixN
  rw [if_pos (by omega), if_pos (by rw [List.length_map]; omega), Int.toNat_natCast]
  show (ns.map V.int)[k]? = _
  rw [List.getElem?_map, List.getElem?_eq_getElem h]
  rfl
section
variable {P : Program} {w : World} {K : PySem.W.Frag} {mg : Str → Option Value} {base : Heap} {f : Addr} {fd : FuncData} {k : Nat}
theorem fn__law_pot (bn : Bn mg) (Fd : FunD K "_law_pot" "_law_pot" (defArgs s__law_pot) (defBody s__law_pot) (defScope s__law_pot) [] [] f fd) : FnG P w K mg base (k + 1) f fd ["script", "k"] (spPot K) := by
  have nd : (N__law_pot : List Str).Nodup := by decide +kernel
  have sc : FnScope N__law_pot ["script", "k"] (defScope s__law_pot) := ⟨rfl, rfl, rfl, nd, rfl, by decide +kernel, by decide +kernel⟩
  refine fnG_of Fd sc (fun vs H Q E h => ?_) (fun cdv A outer s H vs Q E hg hr h => ?_)
  · obtain ⟨a, ns, k, rfl, _⟩ := h
    rfl
  obtain ⟨a, ns, kn, rfl, hS, k2, q⟩ := h
  have hu := hr.units
  refine ⟨_, pss_cons (ps_asg (pe_ifExp (pt_cmpR op_lt (pe_var (i := 1) rfl (Or.inl rfl)) (pe_callB call_len rfl bn.n_len rfl (pa_cons (pe_var (i := 0) rfl (Or.inl rfl)) pa_nil)) (nomark _)) (pe_callB call_abs rfl bn.n_abs rfl (pa_cons (pe_ix ix_seq (pe_var (i := 0) rfl (Or.inl rfl)) (pe_var (i := 1) rfl (Or.inl rfl)) (by intro _ _; rfl)) pa_nil)) (pe_op op_add (pe_op op_mulW pe_int (pe_var (i := 1) rfl (Or.inl rfl))) pe_int)) (pg_name (i := 2) nd rfl (Or.inl rfl)))
    (pss_one (ps_ret (pe_lst (pa_cons (pe_callB (call_max2 rfl) rfl bn.n_max rfl (pa_cons pe_int (pa_cons (pe_op op_sub (pe_var (i := 2) rfl (Or.inl rfl)) (pe_op op_pow pe_int pe_int)) pa_nil)))
      (pa_cons (pe_op op_add (pe_op op_modN (pe_callTy call_int1 rfl bn.n_int rfl (pa_cons (pe_op op_add (pe_op op_add (pe_op op_mulW (pe_op op_modN (pe_callTy call_int1 rfl bn.n_int rfl (pa_cons (pe_var (i := 2) rfl (Or.inl rfl)) pa_nil)) pe_int) pe_int) (pe_op op_mulW pe_int (pe_var (i := 1) rfl (Or.inl rfl)))) pe_int) pa_nil)) pe_int) pe_int) pa_nil))))), ?_⟩
  have ly : ∀ {i : Int}, 0 ≤ i → i < 4294967296 → i.natAbs < 2 ^ 4000 := fun {i} h0 h1 => Nat.lt_of_lt_of_le (by omega : i.natAbs < 2 ^ 32) (Nat.pow_le_pow_right (by decide) (by decide))
  have lo : ∀ {i : Int}, 0 ≤ i → i < 4294967296 → Lo i := fun h0 h1 => lo_of (n := 4000) (ly h0 h1) (by decide)
  have tail : ∀ c : Int, tRet (tLst (tCons (tCB (fun xs H Q => ∃ i j, xs = [V.int i, V.int j] ∧ Q (.int (if j > i then j else i)) H) (tCons (tC (.int 0)) (tCons (tOp (rI0 fun i j => .int (i - j)) (tVar 2) (tOp (rI CPow fun i j => .int (i ^ j.toNat)) (tC (.int 10)) (tC (.int 18)))) tNil)))
      (tCons (tOp (rI0 fun i j => .int (i + j)) (tOp (rI (fun _ j => j ≠ 0) fun i j => .int (i.fmod j)) (tCB (fun xs H Q => (∃ i, xs = [V.int i] ∧ Q (.int i) H) ∨ ∃ k, xs = [V.bl k] ∧ Q (.int (if k then 1 else 0)) H) (tCons (tOp (rI0 fun i j => .int (i + j)) (tOp (rI0 fun i j => .int (i + j)) (tOp (rI CMulW fun i j => .int (i * j)) (tOp (rI (fun _ j => j ≠ 0) fun i j => .int (i.fmod j)) (tCB (fun xs H Q => (∃ i, xs = [V.int i] ∧ Q (.int i) H) ∨ ∃ k, xs = [V.bl k] ∧ Q (.int (if k then 1 else 0)) H) (tCons (tVar 2) tNil)) (tC (.int 2147483549))) (tC (.int 41803))) (tOp (rI CMulW fun i j => .int (i * j)) (tC (.int 2859)) (tVar 1))) (tC (.int 1971))) tNil)) (tC (.int 2147483563))) (tC (.int 1))) tNil))) { nx := fun _ H' => Q V.non H', rt := Q } [some (.ref a), some (.int (kn : Int)), some (.int c)] H := by
    intro c
    have z0 : 0 ≤ Int.fmod c 2147483549 := by rw [Int.fmod_eq_emod_of_nonneg _ (by decide)]; exact Int.emod_nonneg _ (by decide)
    have z1 : Int.fmod c 2147483549 < 2147483549 := by rw [Int.fmod_eq_emod_of_nonneg _ (by decide)]; exact Int.emod_lt_of_pos _ (by decide)
    refine ⟨_, rfl, ?_⟩
    refine ⟨10, 18, rfl, rfl, ⟨by decide, by decide, by decide⟩, ?_⟩
    refine ⟨_, _, rfl, rfl, ?_⟩
    refine ⟨0, _, rfl, ?_⟩
    refine ⟨_, rfl, ?_⟩
    refine .inl ⟨c, rfl, ?_⟩
    refine ⟨c, 2147483549, rfl, rfl, (show (2147483549 : Int) ≠ 0 by decide), ?_⟩
    refine ⟨Int.fmod c 2147483549, 41803, rfl, rfl, cmul_of ⟨lo z0 (by omega), lo (by decide) (by decide)⟩, ?_⟩
    refine ⟨_, rfl, ?_⟩
    refine ⟨2859, (kn : Int), rfl, rfl, cmul_of ⟨lo (by decide) (by decide), lo (by omega) (by omega)⟩, ?_⟩
    refine ⟨_, _, rfl, rfl, ?_⟩
    refine ⟨_, _, rfl, rfl, ?_⟩
    refine .inl ⟨_, rfl, ?_⟩
    refine ⟨_, _, rfl, rfl, (show (2147483563 : Int) ≠ 0 by decide), ?_⟩
    refine ⟨_, _, rfl, rfl, ?_⟩
    refine ⟨(show 2 ≤ sizeLine by decide), fun p np => ?_⟩
    generalize Int.fmod c 2147483549 * 41803 + 2859 * (kn : Int) + 1971 = b
    have v0 : 0 ≤ Int.fmod b 2147483563 := by rw [Int.fmod_eq_emod_of_nonneg _ (by decide)]; exact Int.emod_nonneg _ (by decide)
    have v1 : Int.fmod b 2147483563 < 2147483563 := by rw [Int.fmod_eq_emod_of_nonneg _ (by decide)]; exact Int.emod_lt_of_pos _ (by decide)
    exact q p _ _ np (by split <;> omega) (by omega) (by omega)
  show tIf _ _ _ _ H _
  refine ⟨_, rfl, _, rfl, .ref a, _, rfl, .inl ⟨_, hS, rfl⟩, _, _, rfl, rfl, _, rfl, ?_⟩
  by_cases c : (kn : Int) < ((ns.map V.int).length : Nat)
  · have cd : decide ((kn : Int) < ((ns.map V.int).length : Nat)) = true := decide_eq_true c
    rw [cd]
    rw [List.length_map] at c
    have lk : kn < ns.length := by omega
    exact ⟨_, rfl, _, rfl, .inl ⟨a, _, _, _, rfl, rfl, hS, at_V lk, _, rfl, tail _⟩⟩
  · have cd : decide ((kn : Int) < ((ns.map V.int).length : Nat)) = false := decide_eq_false c
    rw [cd]
    exact ⟨_, rfl, _, _, rfl, rfl, cmul_of ⟨lo (by decide) (by decide), lo (by omega) (by omega)⟩, _, _, rfl, rfl, tail _⟩
/-- the law answers True -/
def spLaw (K : PySem.W.Frag) : Sp := fun vs H Q _ => ∃ (a : Addr) (ns : List Int), vs = [.ref a] ∧ SqL K H a (ns.map V.int) ∧ ns.length ≤ 1000 ∧ ∀ H', Q (.bl true) H'
theorem sql_keep {H H' : Hp} {a : Addr} {xs : List V} (e : ∀ b o, H b = some o → H' b = some o) (h : SqL K H a xs) : SqL K H' a xs := by
  rcases h with h | h
  · exact .inl (rd_keep (fun o q => e _ o q) h)
  · exact .inr h
theorem all_true : ∀ n : Nat, (List.replicate n true).all id = true
  | 0 => rfl
  | n + 1 => by rw [List.replicate_succ, List.all_cons, all_true n]; rfl
theorem fn_law (bn : Bn mg) {kR kP : Nat} (hR : Has P w K mg base kR "_law_right" s__law_right ["pot"] (spP K F__law_right)) (lR : kR ≤ k) (hP : Has P w K mg base kP "_law_pot" s__law_pot ["script", "k"] (spPot K)) (lP : kP ≤ k)
    (Fd : FunD K "law" "law" (defArgs s_law) (defBody s_law) (defScope s_law) [] [] f fd) : FnG P w K mg base (k + 1) f fd ["script"] (spLaw K) := by
  have nd : (N_law : List Str).Nodup := by decide +kernel
  have sc : FnScope N_law ["script"] (defScope s_law) := ⟨rfl, rfl, rfl, nd, rfl, by decide +kernel, by decide +kernel⟩
  obtain ⟨fR, fdR, mR, FR, DR, bR⟩ := hR.ex
  obtain ⟨fP, fdP, mP, FP, DP, bP⟩ := hP.ex
  refine fnG_of Fd sc (fun vs H Q E h => ?_) (fun cdv A outer s H vs Q E hg hr h => ?_)
  · obtain ⟨a, ns, rfl, _⟩ := h
    rfl
  obtain ⟨a, ns, rfl, hS, hz, q⟩ := h
  have hu := hr.units
  refine ⟨_, pss_one (ps_ret (pe_callB (cr_all rfl) rfl bn.n_all rfl (pa_cons (pe_lc (own := [("k", 1)]) rfl nd (pi_range1 rfl bn.n_range (pa_cons (pe_callB (call_max2 rfl) rfl bn.n_max rfl (pa_cons pe_int (pa_cons (pe_callB (call_min2 rfl) rfl bn.n_min rfl (pa_cons pe_int (pa_cons (pe_callB call_len rfl bn.n_len rfl (pa_cons (pe_var (i := 0) rfl (Or.inr (Or.inl rfl))) pa_nil)) pa_nil))) pa_nil))) pa_nil))
      (show BlkOk N_law (defScope s_law) _ _ from ⟨rfl, by decide +kernel, by decide +kernel, by decide +kernel, by decide +kernel⟩) (fun _ _ _ _ _ => pg_name (i := 1) nd rfl (Or.inl rfl)) (fun _ _ _ _ _ => pts_nil)
      (fun _ _ _ _ _ => peG_call (E := E0) (FR.mono lR) hg hr rfl mR DR.kp bR (pa_cons (peG_call (E := E0) (FP.mono lP) hg hr rfl mP DP.kp bP (pa_cons (pe_var (i := 0) rfl (Or.inr (Or.inl rfl))) (pa_cons (pe_var (i := 1) rfl (Or.inl rfl)) pa_nil))) pa_nil))) pa_nil))), ?_⟩
  refine ⟨_, rfl, ?_⟩
  refine ⟨.ref a, _, rfl, .inl ⟨_, hS, rfl⟩, ?_⟩
  refine ⟨2, _, rfl, ?_⟩
  refine ⟨1, _, rfl, ?_⟩
  rw [List.length_map]
  refine ⟨_, rfl, by split <;> split <;> omega, by split <;> split <;> omega, ?_⟩
  have n2 : (if (if ((ns.length : Nat) : Int) < 2 then ((ns.length : Nat) : Int) else 2) > 1 then (if ((ns.length : Nat) : Int) < 2 then ((ns.length : Nat) : Int) else 2) else (1 : Int)).toNat ≤ 2 := by split <;> split <;> omega
  generalize (if (if ((ns.length : Nat) : Int) < 2 then ((ns.length : Nat) : Int) else 2) > 1 then (if ((ns.length : Nat) : Int) < 2 then ((ns.length : Nat) : Int) else 2) else (1 : Int)).toNat = n at n2
  intro D nD
  refine ⟨fun i m H' => m = n - i ∧ i ≤ n ∧ H' D = some (.lst ((List.replicate i true).map V.bl)) ∧ ∀ b o, H b = some o → H' b = some o, ⟨n, by simp, Nat.zero_le _, upd_same, keep_new nD⟩, ?_⟩
  rintro i m H' ⟨rfl, hle, hD, ext⟩
  by_cases lt : i < n
  · right
    refine ⟨lt, fun H3 => H3 D = some (.lst ((List.replicate (i + 1) true).map V.bl)) ∧ ∀ b o, H b = some o → H3 b = some o, fun H3 h3 => ⟨n - (i + 1), by omega, rfl, lt, h3⟩, ?_⟩
    rintro x H'' ⟨rfl, rfl⟩
    have ci : ((0 : Int) + ((i : Nat) : Int)) = (i : Int) := by omega
    rw [ci]
    refine ⟨rfl, ?_⟩
    refine ⟨_, rfl, _, rfl, ?_⟩
    refine ⟨a, ns, i, rfl, sql_keep ext hS, by omega, fun p x y np x0 y0 y1 => ?_⟩
    refine ⟨[p], [], p, [], rfl, List.mem_cons_self .., ⟨x, y, upd_same, x0, y0, y1⟩, fun b hb => ?_, .nil, rfl, trivial, fun v H4 d st iv po => ?_⟩
    · rw [List.mem_singleton] at hb
      subst hb
      exact ⟨_, upd_same⟩
    have po : d = .bool true := po
    subst po
    cases iv
    have kp : ∀ b o, H'' b = some o → H4 b = some o := fun b o hb => by
      have ne := ne_of_none hb np
      exact st.k b o (fun z => ne (by cases z; rfl)) (by rw [upd_ne ne]; exact hb)
    have hD4 := kp _ _ hD
    refine ⟨_, hD4, ?_, ?_, fun b o hb => ?_⟩
    · rw [List.length_map, List.length_replicate]
      exact sz_lt (by omega)
    · rw [upd_same, List.replicate_succ', List.map_append]
      rfl
    · have e1 := ext b o hb
      have ne : b ≠ D := fun z => by
        rw [z, nD] at hb
        cases hb
      rw [upd_ne ne]
      exact kp b o e1
  · left
    have e : i = n := by omega
    subst e
    refine ⟨Nat.le_refl _, D, _, rfl, .inl (.inl hD), ?_⟩
    rw [all_true]
    exact q H'
end
end Hd
/-! text Hk24 -/
/-! Hk24: every def keeps its promise. -/
namespace Hd
open PySem PySem.Spec PyProof.Rows L2 Dl
theorem bent_0 {P : Program} {w : World} {K : PySem.W.Frag} {mg : Str → Option Value} {base : Heap} {f : Addr} {fd : FuncData} (Fd : FunD K "_law_bent" "_law_bent" (defArgs s__law_bent) (defBody s__law_bent) (defScope s__law_bent) [] [] f fd) : FnG P w K mg base 2 f fd ["pot", "value", "odd"] (spP K (F_bent 0)) := by
  have no : ∀ {vs : List V} {H : Hp} {Q : VK} {E : XK}, spP K (F_bent 0) vs H Q E → False := fun {vs H Q E} h => by
    obtain ⟨A, ds, pa, us, _, _, _, _, _, _, pr, _⟩ := h
    obtain ⟨v, odd, _, hd, _⟩ := bent_of pr
    exact Nat.not_lt_zero _ hd
  exact ⟨fun vs H Q E h => (no h).elim, fun B cs t H given us vs Q E hg hr e b r h => (no h).elim⟩
structure Al (K : PySem.W.Frag) (mg : Str → Option Value) : Prop where
  d_is_integer : ∃ fd, FunD K "is_integer" "is_integer" (defArgs s_is_integer) (defBody s_is_integer) (defScope s_is_integer) [] [] (He.ga K "is_integer") fd
  m_is_integer : mg "is_integer" = some (.ref (He.ga K "is_integer"))
  d_is_within : ∃ fd, FunD K "is_within" "is_within" (defArgs s_is_within) (defBody s_is_within) (defScope s_is_within) [] [] (He.ga K "is_within") fd
  m_is_within : mg "is_within" = some (.ref (He.ga K "is_within"))
  d_is_row : ∃ fd, FunD K "is_row" "is_row" (defArgs s_is_row) (defBody s_is_row) (defScope s_is_row) [] [] (He.ga K "is_row") fd
  m_is_row : mg "is_row" = some (.ref (He.ga K "is_row"))
  d_is_prices : ∃ fd, FunD K "is_prices" "is_prices" (defArgs s_is_prices) (defBody s_is_prices) (defScope s_is_prices) [] [] (He.ga K "is_prices") fd
  m_is_prices : mg "is_prices" = some (.ref (He.ga K "is_prices"))
  d_is_moments : ∃ fd, FunD K "is_moments" "is_moments" (defArgs s_is_moments) (defBody s_is_moments) (defScope s_is_moments) [] [] (He.ga K "is_moments") fd
  m_is_moments : mg "is_moments" = some (.ref (He.ga K "is_moments"))
  d_is_pay : ∃ fd, FunD K "is_pay" "is_pay" (defArgs s_is_pay) (defBody s_is_pay) (defScope s_is_pay) [] [] (He.ga K "is_pay") fd
  m_is_pay : mg "is_pay" = some (.ref (He.ga K "is_pay"))
  d_is_promise_for : ∃ fd, FunD K "is_promise_for" "is_promise_for" (defArgs s_is_promise_for) (defBody s_is_promise_for) (defScope s_is_promise_for) [] [] (He.ga K "is_promise_for") fd
  m_is_promise_for : mg "is_promise_for" = some (.ref (He.ga K "is_promise_for"))
  d_is_house : ∃ fd, FunD K "is_house" "is_house" (defArgs s_is_house) (defBody s_is_house) (defScope s_is_house) [] [] (He.ga K "is_house") fd
  m_is_house : mg "is_house" = some (.ref (He.ga K "is_house"))
  d_sons_in : ∃ fd, FunD K "sons_in" "sons_in" (defArgs s_sons_in) (defBody s_sons_in) (defScope s_sons_in) [] [] (He.ga K "sons_in") fd
  m_sons_in : mg "sons_in" = some (.ref (He.ga K "sons_in"))
  d_ends_in : ∃ fd, FunD K "ends_in" "ends_in" (defArgs s_ends_in) (defBody s_ends_in) (defScope s_ends_in) [] [] (He.ga K "ends_in") fd
  m_ends_in : mg "ends_in" = some (.ref (He.ga K "ends_in"))
  d_ahead_in : ∃ fd, FunD K "ahead_in" "ahead_in" (defArgs s_ahead_in) (defBody s_ahead_in) (defScope s_ahead_in) [] [] (He.ga K "ahead_in") fd
  m_ahead_in : mg "ahead_in" = some (.ref (He.ga K "ahead_in"))
  d_below_in : ∃ fd, FunD K "below_in" "below_in" (defArgs s_below_in) (defBody s_below_in) (defScope s_below_in) [] [] (He.ga K "below_in") fd
  m_below_in : mg "below_in" = some (.ref (He.ga K "below_in"))
  d_is_plain_promise : ∃ fd, FunD K "is_plain_promise" "is_plain_promise" (defArgs s_is_plain_promise) (defBody s_is_plain_promise) (defScope s_is_plain_promise) [] [] (He.ga K "is_plain_promise") fd
  m_is_plain_promise : mg "is_plain_promise" = some (.ref (He.ga K "is_plain_promise"))
  d_is_end_promise : ∃ fd, FunD K "is_end_promise" "is_end_promise" (defArgs s_is_end_promise) (defBody s_is_end_promise) (defScope s_is_end_promise) [] [] (He.ga K "is_end_promise") fd
  m_is_end_promise : mg "is_end_promise" = some (.ref (He.ga K "is_end_promise"))
  d_want_house : ∃ fd, FunD K "want_house" "want_house" (defArgs s_want_house) (defBody s_want_house) (defScope s_want_house) [] [] (He.ga K "want_house") fd
  m_want_house : mg "want_house" = some (.ref (He.ga K "want_house"))
  d_want_moment : ∃ fd, FunD K "want_moment" "want_moment" (defArgs s_want_moment) (defBody s_want_moment) (defScope s_want_moment) [] [] (He.ga K "want_moment") fd
  m_want_moment : mg "want_moment" = some (.ref (He.ga K "want_moment"))
  d_want_promise : ∃ fd, FunD K "want_promise" "want_promise" (defArgs s_want_promise) (defBody s_want_promise) (defScope s_want_promise) [] [] (He.ga K "want_promise") fd
  m_want_promise : mg "want_promise" = some (.ref (He.ga K "want_promise"))
  d_is_promise : ∃ fd, FunD K "is_promise" "is_promise" (defArgs s_is_promise) (defBody s_is_promise) (defScope s_is_promise) [] [] (He.ga K "is_promise") fd
  m_is_promise : mg "is_promise" = some (.ref (He.ga K "is_promise"))
  d_bare_house : ∃ fd, FunD K "bare_house" "bare_house" (defArgs s_bare_house) (defBody s_bare_house) (defScope s_bare_house) [] [] (He.ga K "bare_house") fd
  m_bare_house : mg "bare_house" = some (.ref (He.ga K "bare_house"))
  d_sons : ∃ fd, FunD K "sons" "sons" (defArgs s_sons) (defBody s_sons) (defScope s_sons) [] [] (He.ga K "sons") fd
  m_sons : mg "sons" = some (.ref (He.ga K "sons"))
  d_ahead : ∃ fd, FunD K "ahead" "ahead" (defArgs s_ahead) (defBody s_ahead) (defScope s_ahead) [] [] (He.ga K "ahead") fd
  m_ahead : mg "ahead" = some (.ref (He.ga K "ahead"))
  d_below : ∃ fd, FunD K "below" "below" (defArgs s_below) (defBody s_below) (defScope s_below) [] [] (He.ga K "below") fd
  m_below : mg "below" = some (.ref (He.ga K "below"))
  d_ends : ∃ fd, FunD K "ends" "ends" (defArgs s_ends) (defBody s_ends) (defScope s_ends) [] [] (He.ga K "ends") fd
  m_ends : mg "ends" = some (.ref (He.ga K "ends"))
  d_courses : ∃ fd, FunD K "courses" "courses" (defArgs s_courses) (defBody s_courses) (defScope s_courses) [] [] (He.ga K "courses") fd
  m_courses : mg "courses" = some (.ref (He.ga K "courses"))
  d_depth : ∃ fd, FunD K "depth" "depth" (defArgs s_depth) (defBody s_depth) (defScope s_depth) [] [] (He.ga K "depth") fd
  m_depth : mg "depth" = some (.ref (He.ga K "depth"))
  d_is_plain : ∃ fd, FunD K "is_plain" "is_plain" (defArgs s_is_plain) (defBody s_is_plain) (defScope s_is_plain) [] [] (He.ga K "is_plain") fd
  m_is_plain : mg "is_plain" = some (.ref (He.ga K "is_plain"))
  d_is_at_ends : ∃ fd, FunD K "is_at_ends" "is_at_ends" (defArgs s_is_at_ends) (defBody s_is_at_ends) (defScope s_is_at_ends) [] [] (He.ga K "is_at_ends") fd
  m_is_at_ends : mg "is_at_ends" = some (.ref (He.ga K "is_at_ends"))
  d_is_ratio : ∃ fd, FunD K "is_ratio" "is_ratio" (defArgs s_is_ratio) (defBody s_is_ratio) (defScope s_is_ratio) [] [] (He.ga K "is_ratio") fd
  m_is_ratio : mg "is_ratio" = some (.ref (He.ga K "is_ratio"))
  d_is_plan_of : ∃ fd, FunD K "is_plan_of" "is_plan_of" (defArgs s_is_plan_of) (defBody s_is_plan_of) (defScope s_is_plan_of) [] [] (He.ga K "is_plan_of") fd
  m_is_plan_of : mg "is_plan_of" = some (.ref (He.ga K "is_plan_of"))
  d_is_plan : ∃ fd, FunD K "is_plan" "is_plan" (defArgs s_is_plan) (defBody s_is_plan) (defScope s_is_plan) [] [] (He.ga K "is_plan") fd
  m_is_plan : mg "is_plan" = some (.ref (He.ga K "is_plan"))
  d__law_pot : ∃ fd, FunD K "_law_pot" "_law_pot" (defArgs s__law_pot) (defBody s__law_pot) (defScope s__law_pot) [] [] (He.ga K "_law_pot") fd
  m__law_pot : mg "_law_pot" = some (.ref (He.ga K "_law_pot"))
  d__law_draw : ∃ fd, FunD K "_law_draw" "_law_draw" (defArgs s__law_draw) (defBody s__law_draw) (defScope s__law_draw) [] [] (He.ga K "_law_draw") fd
  m__law_draw : mg "_law_draw" = some (.ref (He.ga K "_law_draw"))
  d__law_pick : ∃ fd, FunD K "_law_pick" "_law_pick" (defArgs s__law_pick) (defBody s__law_pick) (defScope s__law_pick) [] [] (He.ga K "_law_pick") fd
  m__law_pick : mg "_law_pick" = some (.ref (He.ga K "_law_pick"))
  d__law_some : ∃ fd, FunD K "_law_some" "_law_some" (defArgs s__law_some) (defBody s__law_some) (defScope s__law_some) [] [] (He.ga K "_law_some") fd
  m__law_some : mg "_law_some" = some (.ref (He.ga K "_law_some"))
  d__law_gcd : ∃ fd, FunD K "_law_gcd" "_law_gcd" (defArgs s__law_gcd) (defBody s__law_gcd) (defScope s__law_gcd) [] [] (He.ga K "_law_gcd") fd
  m__law_gcd : mg "_law_gcd" = some (.ref (He.ga K "_law_gcd"))
  d__law_low : ∃ fd, FunD K "_law_low" "_law_low" (defArgs s__law_low) (defBody s__law_low) (defScope s__law_low) [] [] (He.ga K "_law_low") fd
  m__law_low : mg "_law_low" = some (.ref (He.ga K "_law_low"))
  d__law_times : ∃ fd, FunD K "_law_times" "_law_times" (defArgs s__law_times) (defBody s__law_times) (defScope s__law_times) [] [] (He.ga K "_law_times") fd
  m__law_times : mg "_law_times" = some (.ref (He.ga K "_law_times"))
  d__law_any_ratio : ∃ fd, FunD K "_law_any_ratio" "_law_any_ratio" (defArgs s__law_any_ratio) (defBody s__law_any_ratio) (defScope s__law_any_ratio) [] [] (He.ga K "_law_any_ratio") fd
  m__law_any_ratio : mg "_law_any_ratio" = some (.ref (He.ga K "_law_any_ratio"))
  d__law_is_whole : ∃ fd, FunD K "_law_is_whole" "_law_is_whole" (defArgs s__law_is_whole) (defBody s__law_is_whole) (defScope s__law_is_whole) [] [] (He.ga K "_law_is_whole") fd
  m__law_is_whole : mg "_law_is_whole" = some (.ref (He.ga K "_law_is_whole"))
  d__law_is_ratio : ∃ fd, FunD K "_law_is_ratio" "_law_is_ratio" (defArgs s__law_is_ratio) (defBody s__law_is_ratio) (defScope s__law_is_ratio) [] [] (He.ga K "_law_is_ratio") fd
  m__law_is_ratio : mg "_law_is_ratio" = some (.ref (He.ga K "_law_is_ratio"))
  d__law_fathers : ∃ fd, FunD K "_law_fathers" "_law_fathers" (defArgs s__law_fathers) (defBody s__law_fathers) (defScope s__law_fathers) [] [] (He.ga K "_law_fathers") fd
  m__law_fathers : mg "_law_fathers" = some (.ref (He.ga K "_law_fathers"))
  d__law_moments : ∃ fd, FunD K "_law_moments" "_law_moments" (defArgs s__law_moments) (defBody s__law_moments) (defScope s__law_moments) [] [] (He.ga K "_law_moments") fd
  m__law_moments : mg "_law_moments" = some (.ref (He.ga K "_law_moments"))
  d__law_balanced : ∃ fd, FunD K "_law_balanced" "_law_balanced" (defArgs s__law_balanced) (defBody s__law_balanced) (defScope s__law_balanced) [] [] (He.ga K "_law_balanced") fd
  m__law_balanced : mg "_law_balanced" = some (.ref (He.ga K "_law_balanced"))
  d__law_any_moments : ∃ fd, FunD K "_law_any_moments" "_law_any_moments" (defArgs s__law_any_moments) (defBody s__law_any_moments) (defScope s__law_any_moments) [] [] (He.ga K "_law_any_moments") fd
  m__law_any_moments : mg "_law_any_moments" = some (.ref (He.ga K "_law_any_moments"))
  d__law_sons : ∃ fd, FunD K "_law_sons" "_law_sons" (defArgs s__law_sons) (defBody s__law_sons) (defScope s__law_sons) [] [] (He.ga K "_law_sons") fd
  m__law_sons : mg "_law_sons" = some (.ref (He.ga K "_law_sons"))
  d__law_ends : ∃ fd, FunD K "_law_ends" "_law_ends" (defArgs s__law_ends) (defBody s__law_ends) (defScope s__law_ends) [] [] (He.ga K "_law_ends") fd
  m__law_ends : mg "_law_ends" = some (.ref (He.ga K "_law_ends"))
  d__law_way : ∃ fd, FunD K "_law_way" "_law_way" (defArgs s__law_way) (defBody s__law_way) (defScope s__law_way) [] [] (He.ga K "_law_way") fd
  m__law_way : mg "_law_way" = some (.ref (He.ga K "_law_way"))
  d__law_pay : ∃ fd, FunD K "_law_pay" "_law_pay" (defArgs s__law_pay) (defBody s__law_pay) (defScope s__law_pay) [] [] (He.ga K "_law_pay") fd
  m__law_pay : mg "_law_pay" = some (.ref (He.ga K "_law_pay"))
  d__law_promise : ∃ fd, FunD K "_law_promise" "_law_promise" (defArgs s__law_promise) (defBody s__law_promise) (defScope s__law_promise) [] [] (He.ga K "_law_promise") fd
  m__law_promise : mg "_law_promise" = some (.ref (He.ga K "_law_promise"))
  d__law_house : ∃ fd, FunD K "_law_house" "_law_house" (defArgs s__law_house) (defBody s__law_house) (defScope s__law_house) [] [] (He.ga K "_law_house") fd
  m__law_house : mg "_law_house" = some (.ref (He.ga K "_law_house"))
  d__law_any_plan : ∃ fd, FunD K "_law_any_plan" "_law_any_plan" (defArgs s__law_any_plan) (defBody s__law_any_plan) (defScope s__law_any_plan) [] [] (He.ga K "_law_any_plan") fd
  m__law_any_plan : mg "_law_any_plan" = some (.ref (He.ga K "_law_any_plan"))
  d__law_is_plan : ∃ fd, FunD K "_law_is_plan" "_law_is_plan" (defArgs s__law_is_plan) (defBody s__law_is_plan) (defScope s__law_is_plan) [] [] (He.ga K "_law_is_plan") fd
  m__law_is_plan : mg "_law_is_plan" = some (.ref (He.ga K "_law_is_plan"))
  d__law_bent : ∃ fd, FunD K "_law_bent" "_law_bent" (defArgs s__law_bent) (defBody s__law_bent) (defScope s__law_bent) [] [] (He.ga K "_law_bent") fd
  m__law_bent : mg "_law_bent" = some (.ref (He.ga K "_law_bent"))
  d__law_is_within : ∃ fd, FunD K "_law_is_within" "_law_is_within" (defArgs s__law_is_within) (defBody s__law_is_within) (defScope s__law_is_within) [] [] (He.ga K "_law_is_within") fd
  m__law_is_within : mg "_law_is_within" = some (.ref (He.ga K "_law_is_within"))
  d__law_are_moments : ∃ fd, FunD K "_law_are_moments" "_law_are_moments" (defArgs s__law_are_moments) (defBody s__law_are_moments) (defScope s__law_are_moments) [] [] (He.ga K "_law_are_moments") fd
  m__law_are_moments : mg "_law_are_moments" = some (.ref (He.ga K "_law_are_moments"))
  d__law_is_pay : ∃ fd, FunD K "_law_is_pay" "_law_is_pay" (defArgs s__law_is_pay) (defBody s__law_is_pay) (defScope s__law_is_pay) [] [] (He.ga K "_law_is_pay") fd
  m__law_is_pay : mg "_law_is_pay" = some (.ref (He.ga K "_law_is_pay"))
  d__law_is_promise : ∃ fd, FunD K "_law_is_promise" "_law_is_promise" (defArgs s__law_is_promise) (defBody s__law_is_promise) (defScope s__law_is_promise) [] [] (He.ga K "_law_is_promise") fd
  m__law_is_promise : mg "_law_is_promise" = some (.ref (He.ga K "_law_is_promise"))
  d__law_is_house : ∃ fd, FunD K "_law_is_house" "_law_is_house" (defArgs s__law_is_house) (defBody s__law_is_house) (defScope s__law_is_house) [] [] (He.ga K "_law_is_house") fd
  m__law_is_house : mg "_law_is_house" = some (.ref (He.ga K "_law_is_house"))
  d__law_put : ∃ fd, FunD K "_law_put" "_law_put" (defArgs s__law_put) (defBody s__law_put) (defScope s__law_put) [] [] (He.ga K "_law_put") fd
  m__law_put : mg "_law_put" = some (.ref (He.ga K "_law_put"))
  d__law_near : ∃ fd, FunD K "_law_near" "_law_near" (defArgs s__law_near) (defBody s__law_near) (defScope s__law_near) [] [] (He.ga K "_law_near") fd
  m__law_near : mg "_law_near" = some (.ref (He.ga K "_law_near"))
  d__law_values_right : ∃ fd, FunD K "_law_values_right" "_law_values_right" (defArgs s__law_values_right) (defBody s__law_values_right) (defScope s__law_values_right) [] [] (He.ga K "_law_values_right") fd
  m__law_values_right : mg "_law_values_right" = some (.ref (He.ga K "_law_values_right"))
  d__law_trees_right : ∃ fd, FunD K "_law_trees_right" "_law_trees_right" (defArgs s__law_trees_right) (defBody s__law_trees_right) (defScope s__law_trees_right) [] [] (He.ga K "_law_trees_right") fd
  m__law_trees_right : mg "_law_trees_right" = some (.ref (He.ga K "_law_trees_right"))
  d__law_plans_right : ∃ fd, FunD K "_law_plans_right" "_law_plans_right" (defArgs s__law_plans_right) (defBody s__law_plans_right) (defScope s__law_plans_right) [] [] (He.ga K "_law_plans_right") fd
  m__law_plans_right : mg "_law_plans_right" = some (.ref (He.ga K "_law_plans_right"))
  d__law_right : ∃ fd, FunD K "_law_right" "_law_right" (defArgs s__law_right) (defBody s__law_right) (defScope s__law_right) [] [] (He.ga K "_law_right") fd
  m__law_right : mg "_law_right" = some (.ref (He.ga K "_law_right"))
  d_law : ∃ fd, FunD K "law" "law" (defArgs s_law) (defBody s_law) (defScope s_law) [] [] (He.ga K "law") fd
  m_law : mg "law" = some (.ref (He.ga K "law"))
theorem H__law_draw {P : Program} {w : World} {K : PySem.W.Frag} {mg : Str → Option Value} {base : Heap} (al : Al K mg) (bn : Bn mg) (cn : Cn K mg) (hdm : mg "divmod" = none) : Has P w K mg base 1 "_law_draw" s__law_draw ["pot", "many"] (spP K F__law_draw) := by
  obtain ⟨fd, Fd⟩ := al.d__law_draw
  exact ⟨_, fd, al.m__law_draw, fn__law_draw (k := 0) bn hdm Fd, Fd, Fd.bindsN (ps := ["pot", "many"]) (fun _ _ _ _ _ _ us hl => match us, hl with | [_, _], _ => rfl)⟩
theorem H__law_some {P : Program} {w : World} {K : PySem.W.Frag} {mg : Str → Option Value} {base : Heap} (al : Al K mg) (bn : Bn mg) (cn : Cn K mg) (hdm : mg "divmod" = none) : Has P w K mg base 2 "_law_some" s__law_some ["pot", "things", "many"] (spP K F__law_some) := by
  obtain ⟨fd, Fd⟩ := al.d__law_some
  exact ⟨_, fd, al.m__law_some, fnP (k := 1) (N := N__law_some) Fd ⟨rfl, rfl, rfl, by decide +kernel, rfl, by decide +kernel, by decide +kernel⟩ rfl (fun _ _ _ _ _ _ _ hg hr => b__law_some bn cn hg hr (H__law_draw al bn cn hdm) (by omega)) (fun ds hl hp => l__law_some ds hp), Fd, Fd.bindsN (ps := ["pot", "things", "many"]) (fun _ _ _ _ _ _ us hl => match us, hl with | [_, _, _], _ => rfl)⟩
theorem H__law_pick {P : Program} {w : World} {K : PySem.W.Frag} {mg : Str → Option Value} {base : Heap} (al : Al K mg) (bn : Bn mg) (cn : Cn K mg) (hdm : mg "divmod" = none) : Has P w K mg base 2 "_law_pick" s__law_pick ["pot", "some"] (spP K F__law_pick) := by
  obtain ⟨fd, Fd⟩ := al.d__law_pick
  exact ⟨_, fd, al.m__law_pick, fnP (k := 1) (N := N__law_pick) Fd ⟨rfl, rfl, rfl, by decide +kernel, rfl, by decide +kernel, by decide +kernel⟩ rfl (fun _ _ _ _ _ _ _ hg hr => b__law_pick bn cn hg hr (H__law_draw al bn cn hdm) (by omega)) (fun ds hl hp => l__law_pick ds hp), Fd, Fd.bindsN (ps := ["pot", "some"]) (fun _ _ _ _ _ _ us hl => match us, hl with | [_, _], _ => rfl)⟩
theorem H__law_fathers {P : Program} {w : World} {K : PySem.W.Frag} {mg : Str → Option Value} {base : Heap} (al : Al K mg) (bn : Bn mg) (cn : Cn K mg) (hdm : mg "divmod" = none) : Has P w K mg base 2 "_law_fathers" s__law_fathers ["pot", "many"] (spP K F__law_fathers) := by
  obtain ⟨fd, Fd⟩ := al.d__law_fathers
  exact ⟨_, fd, al.m__law_fathers, fnP (k := 1) (N := N__law_fathers) Fd ⟨rfl, rfl, rfl, by decide +kernel, rfl, by decide +kernel, by decide +kernel⟩ rfl (fun _ _ _ _ _ _ _ hg hr => b__law_fathers bn cn hg hr (H__law_draw al bn cn hdm) (by omega)) (fun ds hl hp => l__law_fathers ds hp), Fd, Fd.bindsN (ps := ["pot", "many"]) (fun _ _ _ _ _ _ us hl => match us, hl with | [_, _], _ => rfl)⟩
theorem H__law_moments {P : Program} {w : World} {K : PySem.W.Frag} {mg : Str → Option Value} {base : Heap} (al : Al K mg) (bn : Bn mg) (cn : Cn K mg) (hdm : mg "divmod" = none) : Has P w K mg base 3 "_law_moments" s__law_moments ["pot", "many"] (spP K F__law_moments) := by
  obtain ⟨fd, Fd⟩ := al.d__law_moments
  exact ⟨_, fd, al.m__law_moments, fnP (k := 2) (N := N__law_moments) Fd ⟨rfl, rfl, rfl, by decide +kernel, rfl, by decide +kernel, by decide +kernel⟩ rfl (fun _ _ _ _ _ _ _ hg hr => b__law_moments bn cn hg hr (H__law_pick al bn cn hdm) (by omega) (H__law_fathers al bn cn hdm) (by omega) (H__law_draw al bn cn hdm) (by omega)) (fun ds hl hp => l__law_moments ds hp), Fd, Fd.bindsN (ps := ["pot", "many"]) (fun _ _ _ _ _ _ us hl => match us, hl with | [_, _], _ => rfl)⟩
theorem H__law_gcd {P : Program} {w : World} {K : PySem.W.Frag} {mg : Str → Option Value} {base : Heap} (al : Al K mg) (bn : Bn mg) (cn : Cn K mg) (hdm : mg "divmod" = none) : Has P w K mg base 1 "_law_gcd" s__law_gcd ["one", "other"] (spD K F__law_gcd) := by
  obtain ⟨fd, Fd⟩ := al.d__law_gcd
  exact ⟨_, fd, al.m__law_gcd, fnD (k := 0) (N := N__law_gcd) Fd ⟨rfl, rfl, rfl, by decide +kernel, rfl, by decide +kernel, by decide +kernel⟩ rfl (fun _ _ _ _ _ _ _ hg hr => b__law_gcd bn cn hg hr ) (fun ds hl hp => l__law_gcd ds hp), Fd, Fd.bindsN (ps := ["one", "other"]) (fun _ _ _ _ _ _ us hl => match us, hl with | [_, _], _ => rfl)⟩
theorem H__law_low {P : Program} {w : World} {K : PySem.W.Frag} {mg : Str → Option Value} {base : Heap} (al : Al K mg) (bn : Bn mg) (cn : Cn K mg) (hdm : mg "divmod" = none) : Has P w K mg base 2 "_law_low" s__law_low ["number", "under"] (spD K F__law_low) := by
  obtain ⟨fd, Fd⟩ := al.d__law_low
  exact ⟨_, fd, al.m__law_low, fnD (k := 1) (N := N__law_low) Fd ⟨rfl, rfl, rfl, by decide +kernel, rfl, by decide +kernel, by decide +kernel⟩ rfl (fun _ _ _ _ _ _ _ hg hr => b__law_low bn cn hg hr (H__law_gcd al bn cn hdm) (by omega)) (fun ds hl hp => l__law_low ds hp), Fd, Fd.bindsN (ps := ["number", "under"]) (fun _ _ _ _ _ _ us hl => match us, hl with | [_, _], _ => rfl)⟩
theorem H__law_times {P : Program} {w : World} {K : PySem.W.Frag} {mg : Str → Option Value} {base : Heap} (al : Al K mg) (bn : Bn mg) (cn : Cn K mg) (hdm : mg "divmod" = none) : Has P w K mg base 3 "_law_times" s__law_times ["near", "far"] (spD K F__law_times) := by
  obtain ⟨fd, Fd⟩ := al.d__law_times
  exact ⟨_, fd, al.m__law_times, fnD (k := 2) (N := N__law_times) Fd ⟨rfl, rfl, rfl, by decide +kernel, rfl, by decide +kernel, by decide +kernel⟩ rfl (fun _ _ _ _ _ _ _ hg hr => b__law_times bn cn hg hr (H__law_low al bn cn hdm) (by omega)) (fun ds hl hp => l__law_times ds hp), Fd, Fd.bindsN (ps := ["near", "far"]) (fun _ _ _ _ _ _ us hl => match us, hl with | [_, _], _ => rfl)⟩
theorem H__law_balanced {P : Program} {w : World} {K : PySem.W.Frag} {mg : Str → Option Value} {base : Heap} (al : Al K mg) (bn : Bn mg) (cn : Cn K mg) (hdm : mg "divmod" = none) : Has P w K mg base 4 "_law_balanced" s__law_balanced ["pot", "many"] (spP K F__law_balanced) := by
  obtain ⟨fd, Fd⟩ := al.d__law_balanced
  exact ⟨_, fd, al.m__law_balanced, fnP (k := 3) (N := N__law_balanced) Fd ⟨rfl, rfl, rfl, by decide +kernel, rfl, by decide +kernel, by decide +kernel⟩ rfl (fun _ _ _ _ _ _ _ hg hr => b__law_balanced bn cn hg hr (H__law_pick al bn cn hdm) (by omega) (H__law_fathers al bn cn hdm) (by omega) (H__law_draw al bn cn hdm) (by omega) (H__law_times al bn cn hdm) (by omega) (H__law_low al bn cn hdm) (by omega)) (fun ds hl hp => l__law_balanced ds hp), Fd, Fd.bindsN (ps := ["pot", "many"]) (fun _ _ _ _ _ _ us hl => match us, hl with | [_, _], _ => rfl)⟩
theorem H__law_any_moments {P : Program} {w : World} {K : PySem.W.Frag} {mg : Str → Option Value} {base : Heap} (al : Al K mg) (bn : Bn mg) (cn : Cn K mg) (hdm : mg "divmod" = none) : Has P w K mg base 5 "_law_any_moments" s__law_any_moments ["pot", "many"] (spP K F__law_any_moments) := by
  obtain ⟨fd, Fd⟩ := al.d__law_any_moments
  exact ⟨_, fd, al.m__law_any_moments, fnP (k := 4) (N := N__law_any_moments) Fd ⟨rfl, rfl, rfl, by decide +kernel, rfl, by decide +kernel, by decide +kernel⟩ rfl (fun _ _ _ _ _ _ _ hg hr => b__law_any_moments bn cn hg hr (H__law_draw al bn cn hdm) (by omega) (H__law_moments al bn cn hdm) (by omega) (H__law_balanced al bn cn hdm) (by omega)) (fun ds hl hp => l__law_any_moments ds hp), Fd, Fd.bindsN (ps := ["pot", "many"]) (fun _ _ _ _ _ _ us hl => match us, hl with | [_, _], _ => rfl)⟩
theorem H__law_sons {P : Program} {w : World} {K : PySem.W.Frag} {mg : Str → Option Value} {base : Heap} (al : Al K mg) (bn : Bn mg) (cn : Cn K mg) (hdm : mg "divmod" = none) : Has P w K mg base 1 "_law_sons" s__law_sons ["moments"] (spD K F__law_sons) := by
  obtain ⟨fd, Fd⟩ := al.d__law_sons
  exact ⟨_, fd, al.m__law_sons, fn__law_sons (k := 0) bn Fd, Fd, Fd.bindsN (ps := ["moments"]) (fun _ _ _ _ _ _ us hl => match us, hl with | [_], _ => rfl)⟩
theorem H__law_ends {P : Program} {w : World} {K : PySem.W.Frag} {mg : Str → Option Value} {base : Heap} (al : Al K mg) (bn : Bn mg) (cn : Cn K mg) (hdm : mg "divmod" = none) : Has P w K mg base 2 "_law_ends" s__law_ends ["moments"] (spD K F__law_ends) := by
  obtain ⟨fd, Fd⟩ := al.d__law_ends
  exact ⟨_, fd, al.m__law_ends, fnD (k := 1) (N := N__law_ends) Fd ⟨rfl, rfl, rfl, by decide +kernel, rfl, by decide +kernel, by decide +kernel⟩ rfl (fun _ _ _ _ _ _ _ hg hr => b__law_ends bn cn hg hr (H__law_sons al bn cn hdm) (by omega)) (fun ds hl hp => l__law_ends ds hp), Fd, Fd.bindsN (ps := ["moments"]) (fun _ _ _ _ _ _ us hl => match us, hl with | [_], _ => rfl)⟩
theorem H__law_pay {P : Program} {w : World} {K : PySem.W.Frag} {mg : Str → Option Value} {base : Heap} (al : Al K mg) (bn : Bn mg) (cn : Cn K mg) (hdm : mg "divmod" = none) : Has P w K mg base 3 "_law_pay" s__law_pay ["pot"] (spP K F__law_pay) := by
  obtain ⟨fd, Fd⟩ := al.d__law_pay
  exact ⟨_, fd, al.m__law_pay, fnP (k := 2) (N := N__law_pay) Fd ⟨rfl, rfl, rfl, by decide +kernel, rfl, by decide +kernel, by decide +kernel⟩ rfl (fun _ _ _ _ _ _ _ hg hr => b__law_pay bn cn hg hr (H__law_pick al bn cn hdm) (by omega) (H__law_draw al bn cn hdm) (by omega)) (fun ds hl hp => l__law_pay ds hl), Fd, Fd.bindsN (ps := ["pot"]) (fun _ _ _ _ _ _ us hl => match us, hl with | [_], _ => rfl)⟩
theorem H__law_promise {P : Program} {w : World} {K : PySem.W.Frag} {mg : Str → Option Value} {base : Heap} (al : Al K mg) (bn : Bn mg) (cn : Cn K mg) (hdm : mg "divmod" = none) : Has P w K mg base 4 "_law_promise" s__law_promise ["pot", "moments", "kind"] (spP K F__law_promise) := by
  obtain ⟨fd, Fd⟩ := al.d__law_promise
  exact ⟨_, fd, al.m__law_promise, fnP (k := 3) (N := N__law_promise) Fd ⟨rfl, rfl, rfl, by decide +kernel, rfl, by decide +kernel, by decide +kernel⟩ rfl (fun _ _ _ _ _ _ _ hg hr => b__law_promise bn cn hg hr (H__law_ends al bn cn hdm) (by omega) (H__law_draw al bn cn hdm) (by omega) (H__law_pay al bn cn hdm) (by omega)) (fun ds hl hp => l__law_promise ds hp), Fd, Fd.bindsN (ps := ["pot", "moments", "kind"]) (fun _ _ _ _ _ _ us hl => match us, hl with | [_, _, _], _ => rfl)⟩
theorem H__law_house {P : Program} {w : World} {K : PySem.W.Frag} {mg : Str → Option Value} {base : Heap} (al : Al K mg) (bn : Bn mg) (cn : Cn K mg) (hdm : mg "divmod" = none) : Has P w K mg base 6 "_law_house" s__law_house ["pot", "many", "kinds"] (spP K F__law_house) := by
  obtain ⟨fd, Fd⟩ := al.d__law_house
  exact ⟨_, fd, al.m__law_house, fnP (k := 5) (N := N__law_house) Fd ⟨rfl, rfl, rfl, by decide +kernel, rfl, by decide +kernel, by decide +kernel⟩ rfl (fun _ _ _ _ _ _ _ hg hr => b__law_house bn cn hg hr (H__law_any_moments al bn cn hdm) (by omega) (H__law_promise al bn cn hdm) (by omega)) (fun ds hl hp => l__law_house ds hp), Fd, Fd.bindsN (ps := ["pot", "many", "kinds"]) (fun _ _ _ _ _ _ us hl => match us, hl with | [_, _, _], _ => rfl)⟩
theorem H__law_put {P : Program} {w : World} {K : PySem.W.Frag} {mg : Str → Option Value} {base : Heap} (al : Al K mg) (bn : Bn mg) (cn : Cn K mg) (hdm : mg "divmod" = none) : Has P w K mg base 1 "_law_put" s__law_put ["some", "at", "value"] (spD K F__law_put) := by
  obtain ⟨fd, Fd⟩ := al.d__law_put
  exact ⟨_, fd, al.m__law_put, fnD (k := 0) (N := N__law_put) Fd ⟨rfl, rfl, rfl, by decide +kernel, rfl, by decide +kernel, by decide +kernel⟩ rfl (fun _ _ _ _ _ _ _ hg hr => b__law_put bn cn hg hr ) (fun ds hl hp => l__law_put ds hp), Fd, Fd.bindsN (ps := ["some", "at", "value"]) (fun _ _ _ _ _ _ us hl => match us, hl with | [_, _, _], _ => rfl)⟩
theorem H__law_near {P : Program} {w : World} {K : PySem.W.Frag} {mg : Str → Option Value} {base : Heap} (al : Al K mg) (bn : Bn mg) (cn : Cn K mg) (hdm : mg "divmod" = none) : Has P w K mg base 2 "_law_near" s__law_near ["pot", "house"] (spP K F__law_near) := by
  obtain ⟨fd, Fd⟩ := al.d__law_near
  exact ⟨_, fd, al.m__law_near, fnP (k := 1) (N := N__law_near) Fd ⟨rfl, rfl, rfl, by decide +kernel, rfl, by decide +kernel, by decide +kernel⟩ rfl (fun _ _ _ _ _ _ _ hg hr => b__law_near bn cn hg hr (H__law_draw al bn cn hdm) (by omega) (H__law_put al bn cn hdm) (by omega)) (fun ds hl hp => l__law_near ds hp), Fd, Fd.bindsN (ps := ["pot", "house"]) (fun _ _ _ _ _ _ us hl => match us, hl with | [_, _], _ => rfl)⟩
theorem R__law_bent {P : Program} {w : World} {K : PySem.W.Frag} {mg : Str → Option Value} {base : Heap} (al : Al K mg) (bn : Bn mg) (cn : Cn K mg) (hdm : mg "divmod" = none) : ∀ n : Nat, Has P w K mg base (2 + n) "_law_bent" s__law_bent ["pot", "value", "odd"] (spP K (F_bent n))
  | 0 => by
    obtain ⟨fd, Fd⟩ := al.d__law_bent
    exact ⟨_, fd, al.m__law_bent, bent_0 Fd, Fd, Fd.bindsN (ps := ["pot", "value", "odd"]) (fun _ _ _ _ _ _ us hl => match us, hl with | [_, _, _], _ => rfl)⟩
  | n + 1 => by
    have ih := R__law_bent al bn cn hdm (P := P) (w := w) (base := base) n
    obtain ⟨fd, Fd⟩ := al.d__law_bent
    exact ⟨_, fd, al.m__law_bent, fnP (k := 2 + n) (N := N__law_bent) Fd ⟨rfl, rfl, rfl, by decide +kernel, rfl, by decide +kernel, by decide +kernel⟩ rfl (fun _ _ _ _ _ _ _ hg hr => b__law_bent bn cn hg hr (H__law_draw al bn cn hdm) (by omega) (H__law_pick al bn cn hdm) (by omega) ih (by omega)) (fun ds hl hp => l__law_bent n ds hp), Fd, Fd.bindsN (ps := ["pot", "value", "odd"]) (fun _ _ _ _ _ _ us hl => match us, hl with | [_, _, _], _ => rfl)⟩
theorem H__law_bent {P : Program} {w : World} {K : PySem.W.Frag} {mg : Str → Option Value} {base : Heap} (al : Al K mg) (bn : Bn mg) (cn : Cn K mg) (hdm : mg "divmod" = none) : Has P w K mg base 32 "_law_bent" s__law_bent ["pot", "value", "odd"] (spP K F__law_bent) := R__law_bent al bn cn hdm 30
theorem H__law_is_whole {P : Program} {w : World} {K : PySem.W.Frag} {mg : Str → Option Value} {base : Heap} (al : Al K mg) (bn : Bn mg) (cn : Cn K mg) (hdm : mg "divmod" = none) : Has P w K mg base 1 "_law_is_whole" s__law_is_whole ["value"] (spD K F__law_is_whole) := by
  obtain ⟨fd, Fd⟩ := al.d__law_is_whole
  exact ⟨_, fd, al.m__law_is_whole, fnD (k := 0) (N := N__law_is_whole) Fd ⟨rfl, rfl, rfl, by decide +kernel, rfl, by decide +kernel, by decide +kernel⟩ rfl (fun _ _ _ _ _ _ _ hg hr => b__law_is_whole bn cn hg hr ) (fun ds hl hp => l__law_is_whole ds hp), Fd, Fd.bindsN (ps := ["value"]) (fun _ _ _ _ _ _ us hl => match us, hl with | [_], _ => rfl)⟩
theorem H__law_is_within {P : Program} {w : World} {K : PySem.W.Frag} {mg : Str → Option Value} {base : Heap} (al : Al K mg) (bn : Bn mg) (cn : Cn K mg) (hdm : mg "divmod" = none) : Has P w K mg base 2 "_law_is_within" s__law_is_within ["value", "low", "high"] (spD K F__law_is_within) := by
  obtain ⟨fd, Fd⟩ := al.d__law_is_within
  exact ⟨_, fd, al.m__law_is_within, fnD (k := 1) (N := N__law_is_within) Fd ⟨rfl, rfl, rfl, by decide +kernel, rfl, by decide +kernel, by decide +kernel⟩ rfl (fun _ _ _ _ _ _ _ hg hr => b__law_is_within bn cn hg hr (H__law_is_whole al bn cn hdm) (by omega)) (fun ds hl hp => l__law_is_within ds hp), Fd, Fd.bindsN (ps := ["value", "low", "high"]) (fun _ _ _ _ _ _ us hl => match us, hl with | [_, _, _], _ => rfl)⟩
theorem H__law_are_moments {P : Program} {w : World} {K : PySem.W.Frag} {mg : Str → Option Value} {base : Heap} (al : Al K mg) (bn : Bn mg) (cn : Cn K mg) (hdm : mg "divmod" = none) : Has P w K mg base 3 "_law_are_moments" s__law_are_moments ["value"] (spD K F__law_are_moments) := by
  obtain ⟨fd, Fd⟩ := al.d__law_are_moments
  exact ⟨_, fd, al.m__law_are_moments, fnD (k := 2) (N := N__law_are_moments) Fd ⟨rfl, rfl, rfl, by decide +kernel, rfl, by decide +kernel, by decide +kernel⟩ rfl (fun _ _ _ _ _ _ _ hg hr => b__law_are_moments bn cn hg hr (H__law_is_within al bn cn hdm) (by omega)) (fun ds hl hp => l__law_are_moments ds hp), Fd, Fd.bindsN (ps := ["value"]) (fun _ _ _ _ _ _ us hl => match us, hl with | [_], _ => rfl)⟩
theorem H__law_is_pay {P : Program} {w : World} {K : PySem.W.Frag} {mg : Str → Option Value} {base : Heap} (al : Al K mg) (bn : Bn mg) (cn : Cn K mg) (hdm : mg "divmod" = none) : Has P w K mg base 3 "_law_is_pay" s__law_is_pay ["value"] (spD K F__law_is_pay) := by
  obtain ⟨fd, Fd⟩ := al.d__law_is_pay
  exact ⟨_, fd, al.m__law_is_pay, fnD (k := 2) (N := N__law_is_pay) Fd ⟨rfl, rfl, rfl, by decide +kernel, rfl, by decide +kernel, by decide +kernel⟩ rfl (fun _ _ _ _ _ _ _ hg hr => b__law_is_pay bn cn hg hr (H__law_is_within al bn cn hdm) (by omega)) (fun ds hl hp => l__law_is_pay ds hp), Fd, Fd.bindsN (ps := ["value"]) (fun _ _ _ _ _ _ us hl => match us, hl with | [_], _ => rfl)⟩
theorem H__law_is_promise {P : Program} {w : World} {K : PySem.W.Frag} {mg : Str → Option Value} {base : Heap} (al : Al K mg) (bn : Bn mg) (cn : Cn K mg) (hdm : mg "divmod" = none) : Has P w K mg base 4 "_law_is_promise" s__law_is_promise ["moments", "value"] (spD K F__law_is_promise) := by
  obtain ⟨fd, Fd⟩ := al.d__law_is_promise
  exact ⟨_, fd, al.m__law_is_promise, fnD (k := 3) (N := N__law_is_promise) Fd ⟨rfl, rfl, rfl, by decide +kernel, rfl, by decide +kernel, by decide +kernel⟩ rfl (fun _ _ _ _ _ _ _ hg hr => b__law_is_promise bn cn hg hr (H__law_ends al bn cn hdm) (by omega) (H__law_is_pay al bn cn hdm) (by omega)) (fun ds hl hp => l__law_is_promise ds hp), Fd, Fd.bindsN (ps := ["moments", "value"]) (fun _ _ _ _ _ _ us hl => match us, hl with | [_, _], _ => rfl)⟩
theorem H__law_is_house {P : Program} {w : World} {K : PySem.W.Frag} {mg : Str → Option Value} {base : Heap} (al : Al K mg) (bn : Bn mg) (cn : Cn K mg) (hdm : mg "divmod" = none) : Has P w K mg base 5 "_law_is_house" s__law_is_house ["value"] (spD K F__law_is_house) := by
  obtain ⟨fd, Fd⟩ := al.d__law_is_house
  exact ⟨_, fd, al.m__law_is_house, fnD (k := 4) (N := N__law_is_house) Fd ⟨rfl, rfl, rfl, by decide +kernel, rfl, by decide +kernel, by decide +kernel⟩ rfl (fun _ _ _ _ _ _ _ hg hr => b__law_is_house bn cn hg hr (H__law_are_moments al bn cn hdm) (by omega) (H__law_is_promise al bn cn hdm) (by omega)) (fun ds hl hp => l__law_is_house ds hp), Fd, Fd.bindsN (ps := ["value"]) (fun _ _ _ _ _ _ us hl => match us, hl with | [_], _ => rfl)⟩
theorem H_is_row {P : Program} {w : World} {K : PySem.W.Frag} {mg : Str → Option Value} {base : Heap} (al : Al K mg) (bn : Bn mg) (cn : Cn K mg) (hdm : mg "divmod" = none) : Has P w K mg base 1 "is_row" s_is_row ["value", "many"] (spD K F_is_row) := by
  obtain ⟨fd, Fd⟩ := al.d_is_row
  exact ⟨_, fd, al.m_is_row, fnD (k := 0) (N := N_is_row) Fd ⟨rfl, rfl, rfl, by decide +kernel, rfl, by decide +kernel, by decide +kernel⟩ rfl (fun _ _ _ _ _ _ _ hg hr => b_is_row bn cn hg hr ) (fun ds hl hp => l_is_row ds hp), Fd, Fd.bindsN (ps := ["value", "many"]) (fun _ _ _ _ _ _ us hl => match us, hl with | [_, _], _ => rfl)⟩
theorem H_is_integer {P : Program} {w : World} {K : PySem.W.Frag} {mg : Str → Option Value} {base : Heap} (al : Al K mg) (bn : Bn mg) (cn : Cn K mg) (hdm : mg "divmod" = none) : Has P w K mg base 1 "is_integer" s_is_integer ["value"] (spD K F_is_integer) := by
  obtain ⟨fd, Fd⟩ := al.d_is_integer
  exact ⟨_, fd, al.m_is_integer, fnD (k := 0) (N := N_is_integer) Fd ⟨rfl, rfl, rfl, by decide +kernel, rfl, by decide +kernel, by decide +kernel⟩ rfl (fun _ _ _ _ _ _ _ hg hr => b_is_integer bn cn hg hr ) (fun ds hl hp => l_is_integer ds hp), Fd, Fd.bindsN (ps := ["value"]) (fun _ _ _ _ _ _ us hl => match us, hl with | [_], _ => rfl)⟩
theorem H_is_within {P : Program} {w : World} {K : PySem.W.Frag} {mg : Str → Option Value} {base : Heap} (al : Al K mg) (bn : Bn mg) (cn : Cn K mg) (hdm : mg "divmod" = none) : Has P w K mg base 2 "is_within" s_is_within ["value", "low", "high"] (spD K F_is_within) := by
  obtain ⟨fd, Fd⟩ := al.d_is_within
  exact ⟨_, fd, al.m_is_within, fnD (k := 1) (N := N_is_within) Fd ⟨rfl, rfl, rfl, by decide +kernel, rfl, by decide +kernel, by decide +kernel⟩ rfl (fun _ _ _ _ _ _ _ hg hr => b_is_within bn cn hg hr (H_is_integer al bn cn hdm) (by omega)) (fun ds hl hp => l_is_within ds hp), Fd, Fd.bindsN (ps := ["value", "low", "high"]) (fun _ _ _ _ _ _ us hl => match us, hl with | [_, _, _], _ => rfl)⟩
theorem H_is_prices {P : Program} {w : World} {K : PySem.W.Frag} {mg : Str → Option Value} {base : Heap} (al : Al K mg) (bn : Bn mg) (cn : Cn K mg) (hdm : mg "divmod" = none) : Has P w K mg base 3 "is_prices" s_is_prices ["value"] (spD K F_is_prices) := by
  obtain ⟨fd, Fd⟩ := al.d_is_prices
  exact ⟨_, fd, al.m_is_prices, fnD (k := 2) (N := N_is_prices) Fd ⟨rfl, rfl, rfl, by decide +kernel, rfl, by decide +kernel, by decide +kernel⟩ rfl (fun _ _ _ _ _ _ _ hg hr => b_is_prices bn cn hg hr (H_is_row al bn cn hdm) (by omega) (H_is_within al bn cn hdm) (by omega)) (fun ds hl hp => l_is_prices ds hp), Fd, Fd.bindsN (ps := ["value"]) (fun _ _ _ _ _ _ us hl => match us, hl with | [_], _ => rfl)⟩
theorem H_is_moments {P : Program} {w : World} {K : PySem.W.Frag} {mg : Str → Option Value} {base : Heap} (al : Al K mg) (bn : Bn mg) (cn : Cn K mg) (hdm : mg "divmod" = none) : Has P w K mg base 4 "is_moments" s_is_moments ["value"] (spD K F_is_moments) := by
  obtain ⟨fd, Fd⟩ := al.d_is_moments
  exact ⟨_, fd, al.m_is_moments, fnD (k := 3) (N := N_is_moments) Fd ⟨rfl, rfl, rfl, by decide +kernel, rfl, by decide +kernel, by decide +kernel⟩ rfl (fun _ _ _ _ _ _ _ hg hr => b_is_moments bn cn hg hr (H_is_row al bn cn hdm) (by omega) (H_is_within al bn cn hdm) (by omega) (H_is_prices al bn cn hdm) (by omega)) (fun ds hl hp => l_is_moments ds hp), Fd, Fd.bindsN (ps := ["value"]) (fun _ _ _ _ _ _ us hl => match us, hl with | [_], _ => rfl)⟩
theorem H_sons_in {P : Program} {w : World} {K : PySem.W.Frag} {mg : Str → Option Value} {base : Heap} (al : Al K mg) (bn : Bn mg) (cn : Cn K mg) (hdm : mg "divmod" = none) : Has P w K mg base 1 "sons_in" s_sons_in ["moments"] (spD K F_sons_in) := by
  obtain ⟨fd, Fd⟩ := al.d_sons_in
  exact ⟨_, fd, al.m_sons_in, fn_sons_in (k := 0) bn Fd, Fd, Fd.bindsN (ps := ["moments"]) (fun _ _ _ _ _ _ us hl => match us, hl with | [_], _ => rfl)⟩
theorem H_ends_in {P : Program} {w : World} {K : PySem.W.Frag} {mg : Str → Option Value} {base : Heap} (al : Al K mg) (bn : Bn mg) (cn : Cn K mg) (hdm : mg "divmod" = none) : Has P w K mg base 2 "ends_in" s_ends_in ["moments"] (spD K F_ends_in) := by
  obtain ⟨fd, Fd⟩ := al.d_ends_in
  exact ⟨_, fd, al.m_ends_in, fnD (k := 1) (N := N_ends_in) Fd ⟨rfl, rfl, rfl, by decide +kernel, rfl, by decide +kernel, by decide +kernel⟩ rfl (fun _ _ _ _ _ _ _ hg hr => b_ends_in bn cn hg hr (H_sons_in al bn cn hdm) (by omega)) (fun ds hl hp => l_ends_in ds hp), Fd, Fd.bindsN (ps := ["moments"]) (fun _ _ _ _ _ _ us hl => match us, hl with | [_], _ => rfl)⟩
theorem H_is_pay {P : Program} {w : World} {K : PySem.W.Frag} {mg : Str → Option Value} {base : Heap} (al : Al K mg) (bn : Bn mg) (cn : Cn K mg) (hdm : mg "divmod" = none) : Has P w K mg base 3 "is_pay" s_is_pay ["value"] (spD K F_is_pay) := by
  obtain ⟨fd, Fd⟩ := al.d_is_pay
  exact ⟨_, fd, al.m_is_pay, fnD (k := 2) (N := N_is_pay) Fd ⟨rfl, rfl, rfl, by decide +kernel, rfl, by decide +kernel, by decide +kernel⟩ rfl (fun _ _ _ _ _ _ _ hg hr => b_is_pay bn cn hg hr (H_is_row al bn cn hdm) (by omega) (H_is_within al bn cn hdm) (by omega)) (fun ds hl hp => l_is_pay ds hp), Fd, Fd.bindsN (ps := ["value"]) (fun _ _ _ _ _ _ us hl => match us, hl with | [_], _ => rfl)⟩
theorem H_is_promise_for {P : Program} {w : World} {K : PySem.W.Frag} {mg : Str → Option Value} {base : Heap} (al : Al K mg) (bn : Bn mg) (cn : Cn K mg) (hdm : mg "divmod" = none) : Has P w K mg base 4 "is_promise_for" s_is_promise_for ["moments", "value"] (spD K F_is_promise_for) := by
  obtain ⟨fd, Fd⟩ := al.d_is_promise_for
  exact ⟨_, fd, al.m_is_promise_for, fnD (k := 3) (N := N_is_promise_for) Fd ⟨rfl, rfl, rfl, by decide +kernel, rfl, by decide +kernel, by decide +kernel⟩ rfl (fun _ _ _ _ _ _ _ hg hr => b_is_promise_for bn cn hg hr (H_is_row al bn cn hdm) (by omega) (H_ends_in al bn cn hdm) (by omega) (H_is_pay al bn cn hdm) (by omega)) (fun ds hl hp => l_is_promise_for ds hp), Fd, Fd.bindsN (ps := ["moments", "value"]) (fun _ _ _ _ _ _ us hl => match us, hl with | [_, _], _ => rfl)⟩
theorem H_is_house {P : Program} {w : World} {K : PySem.W.Frag} {mg : Str → Option Value} {base : Heap} (al : Al K mg) (bn : Bn mg) (cn : Cn K mg) (hdm : mg "divmod" = none) : Has P w K mg base 5 "is_house" s_is_house ["value"] (spD K F_is_house) := by
  obtain ⟨fd, Fd⟩ := al.d_is_house
  exact ⟨_, fd, al.m_is_house, fnD (k := 4) (N := N_is_house) Fd ⟨rfl, rfl, rfl, by decide +kernel, rfl, by decide +kernel, by decide +kernel⟩ rfl (fun _ _ _ _ _ _ _ hg hr => b_is_house bn cn hg hr (H_is_row al bn cn hdm) (by omega) (H_is_moments al bn cn hdm) (by omega) (H_is_promise_for al bn cn hdm) (by omega)) (fun ds hl hp => l_is_house ds hp), Fd, Fd.bindsN (ps := ["value"]) (fun _ _ _ _ _ _ us hl => match us, hl with | [_], _ => rfl)⟩
theorem H_want_house {P : Program} {w : World} {K : PySem.W.Frag} {mg : Str → Option Value} {base : Heap} (al : Al K mg) (bn : Bn mg) (cn : Cn K mg) (hdm : mg "divmod" = none) : Has P w K mg base 6 "want_house" s_want_house ["value"] (spD K F_want_house) := by
  obtain ⟨fd, Fd⟩ := al.d_want_house
  exact ⟨_, fd, al.m_want_house, fnD (k := 5) (N := N_want_house) Fd ⟨rfl, rfl, rfl, by decide +kernel, rfl, by decide +kernel, by decide +kernel⟩ rfl (fun _ _ _ _ _ _ _ hg hr => b_want_house bn cn hg hr (H_is_house al bn cn hdm) (by omega)) (fun ds hl hp => l_want_house ds hp), Fd, Fd.bindsN (ps := ["value"]) (fun _ _ _ _ _ _ us hl => match us, hl with | [_], _ => rfl)⟩
theorem H_is_promise {P : Program} {w : World} {K : PySem.W.Frag} {mg : Str → Option Value} {base : Heap} (al : Al K mg) (bn : Bn mg) (cn : Cn K mg) (hdm : mg "divmod" = none) : Has P w K mg base 7 "is_promise" s_is_promise ["house", "value"] (spD K F_is_promise) := by
  obtain ⟨fd, Fd⟩ := al.d_is_promise
  exact ⟨_, fd, al.m_is_promise, fnD (k := 6) (N := N_is_promise) Fd ⟨rfl, rfl, rfl, by decide +kernel, rfl, by decide +kernel, by decide +kernel⟩ rfl (fun _ _ _ _ _ _ _ hg hr => b_is_promise bn cn hg hr (H_is_promise_for al bn cn hdm) (by omega) (H_want_house al bn cn hdm) (by omega)) (fun ds hl hp => l_is_promise ds hp), Fd, Fd.bindsN (ps := ["house", "value"]) (fun _ _ _ _ _ _ us hl => match us, hl with | [_, _], _ => rfl)⟩
theorem H__law_values_right {P : Program} {w : World} {K : PySem.W.Frag} {mg : Str → Option Value} {base : Heap} (al : Al K mg) (bn : Bn mg) (cn : Cn K mg) (hdm : mg "divmod" = none) : Has P w K mg base 33 "_law_values_right" s__law_values_right ["pot", "house"] (spP K F__law_values_right) := by
  obtain ⟨fd, Fd⟩ := al.d__law_values_right
  exact ⟨_, fd, al.m__law_values_right, fnP (k := 32) (N := N__law_values_right) Fd ⟨rfl, rfl, rfl, by decide +kernel, rfl, by decide +kernel, by decide +kernel⟩ rfl (fun _ _ _ _ _ _ _ hg hr => b__law_values_right bn cn hg hr (H__law_house al bn cn hdm) (by omega) (H__law_draw al bn cn hdm) (by omega) (H__law_near al bn cn hdm) (by omega) (H__law_bent al bn cn hdm) (by omega) (H__law_is_house al bn cn hdm) (by omega) (H_is_house al bn cn hdm) (by omega) (H__law_are_moments al bn cn hdm) (by omega) (H_is_moments al bn cn hdm) (by omega) (H__law_is_promise al bn cn hdm) (by omega) (H_is_promise al bn cn hdm) (by omega) (kbp_of (ps := ["value"]) (ks := ["value"]) (is := [0]) (by decide) (fun _ _ _ _ _ _ us hl => match us, hl with | [_], _ => rfl)) (kbp_of (ps := ["value"]) (ks := ["value"]) (is := [0]) (by decide) (fun _ _ _ _ _ _ us hl => match us, hl with | [_], _ => rfl)) (kbp_of (ps := ["house", "value"]) (ks := ["value", "house"]) (is := [1, 0]) (by decide) (fun _ _ _ _ _ _ us hl => match us, hl with | [_, _], _ => rfl))) (fun ds hl hp => l__law_values_right ds hp), Fd, Fd.bindsN (ps := ["pot", "house"]) (fun _ _ _ _ _ _ us hl => match us, hl with | [_, _], _ => rfl)⟩
theorem H__law_way {P : Program} {w : World} {K : PySem.W.Frag} {mg : Str → Option Value} {base : Heap} (al : Al K mg) (bn : Bn mg) (cn : Cn K mg) (hdm : mg "divmod" = none) : Has P w K mg base 1 "_law_way" s__law_way ["moments", "at"] (spD K F__law_way) := by
  obtain ⟨fd, Fd⟩ := al.d__law_way
  exact ⟨_, fd, al.m__law_way, fnD (k := 0) (N := N__law_way) Fd ⟨rfl, rfl, rfl, by decide +kernel, rfl, by decide +kernel, by decide +kernel⟩ rfl (fun _ _ _ _ _ _ _ hg hr => b__law_way bn cn hg hr ) (fun ds hl hp => l__law_way ds hp), Fd, Fd.bindsN (ps := ["moments", "at"]) (fun _ _ _ _ _ _ us hl => match us, hl with | [_, _], _ => rfl)⟩
theorem H_bare_house {P : Program} {w : World} {K : PySem.W.Frag} {mg : Str → Option Value} {base : Heap} (al : Al K mg) (bn : Bn mg) (cn : Cn K mg) (hdm : mg "divmod" = none) : Has P w K mg base 5 "bare_house" s_bare_house ["moments"] (spD K F_bare_house) := by
  obtain ⟨fd, Fd⟩ := al.d_bare_house
  exact ⟨_, fd, al.m_bare_house, fnD (k := 4) (N := N_bare_house) Fd ⟨rfl, rfl, rfl, by decide +kernel, rfl, by decide +kernel, by decide +kernel⟩ rfl (fun _ _ _ _ _ _ _ hg hr => b_bare_house bn cn hg hr (H_is_moments al bn cn hdm) (by omega)) (fun ds hl hp => l_bare_house ds hp), Fd, Fd.bindsN (ps := ["moments"]) (fun _ _ _ _ _ _ us hl => match us, hl with | [_], _ => rfl)⟩
theorem H_ahead_in {P : Program} {w : World} {K : PySem.W.Frag} {mg : Str → Option Value} {base : Heap} (al : Al K mg) (bn : Bn mg) (cn : Cn K mg) (hdm : mg "divmod" = none) : Has P w K mg base 1 "ahead_in" s_ahead_in ["moments", "moment"] (spD K F_ahead_in) := by
  obtain ⟨fd, Fd⟩ := al.d_ahead_in
  exact ⟨_, fd, al.m_ahead_in, fnD (k := 0) (N := N_ahead_in) Fd ⟨rfl, rfl, rfl, by decide +kernel, rfl, by decide +kernel, by decide +kernel⟩ rfl (fun _ _ _ _ _ _ _ hg hr => b_ahead_in bn cn hg hr ) (fun ds hl hp => l_ahead_in ds hp), Fd, Fd.bindsN (ps := ["moments", "moment"]) (fun _ _ _ _ _ _ us hl => match us, hl with | [_, _], _ => rfl)⟩
theorem H_courses {P : Program} {w : World} {K : PySem.W.Frag} {mg : Str → Option Value} {base : Heap} (al : Al K mg) (bn : Bn mg) (cn : Cn K mg) (hdm : mg "divmod" = none) : Has P w K mg base 7 "courses" s_courses ["house"] (spD K F_courses) := by
  obtain ⟨fd, Fd⟩ := al.d_courses
  exact ⟨_, fd, al.m_courses, fnD (k := 6) (N := N_courses) Fd ⟨rfl, rfl, rfl, by decide +kernel, rfl, by decide +kernel, by decide +kernel⟩ rfl (fun _ _ _ _ _ _ _ hg hr => b_courses bn cn hg hr (H_ends_in al bn cn hdm) (by omega) (H_want_house al bn cn hdm) (by omega) (H_ahead_in al bn cn hdm) (by omega)) (fun ds hl hp => l_courses ds hp), Fd, Fd.bindsN (ps := ["house"]) (fun _ _ _ _ _ _ us hl => match us, hl with | [_], _ => rfl)⟩
theorem H_ends {P : Program} {w : World} {K : PySem.W.Frag} {mg : Str → Option Value} {base : Heap} (al : Al K mg) (bn : Bn mg) (cn : Cn K mg) (hdm : mg "divmod" = none) : Has P w K mg base 7 "ends" s_ends ["house"] (spD K F_ends) := by
  obtain ⟨fd, Fd⟩ := al.d_ends
  exact ⟨_, fd, al.m_ends, fnD (k := 6) (N := N_ends) Fd ⟨rfl, rfl, rfl, by decide +kernel, rfl, by decide +kernel, by decide +kernel⟩ rfl (fun _ _ _ _ _ _ _ hg hr => b_ends bn cn hg hr (H_ends_in al bn cn hdm) (by omega) (H_want_house al bn cn hdm) (by omega)) (fun ds hl hp => l_ends ds hp), Fd, Fd.bindsN (ps := ["house"]) (fun _ _ _ _ _ _ us hl => match us, hl with | [_], _ => rfl)⟩
theorem H_want_moment {P : Program} {w : World} {K : PySem.W.Frag} {mg : Str → Option Value} {base : Heap} (al : Al K mg) (bn : Bn mg) (cn : Cn K mg) (hdm : mg "divmod" = none) : Has P w K mg base 3 "want_moment" s_want_moment ["house", "value"] (spD K F_want_moment) := by
  obtain ⟨fd, Fd⟩ := al.d_want_moment
  exact ⟨_, fd, al.m_want_moment, fnD (k := 2) (N := N_want_moment) Fd ⟨rfl, rfl, rfl, by decide +kernel, rfl, by decide +kernel, by decide +kernel⟩ rfl (fun _ _ _ _ _ _ _ hg hr => b_want_moment bn cn hg hr (H_is_within al bn cn hdm) (by omega)) (fun ds hl hp => l_want_moment ds hp), Fd, Fd.bindsN (ps := ["house", "value"]) (fun _ _ _ _ _ _ us hl => match us, hl with | [_, _], _ => rfl)⟩
theorem H_ahead {P : Program} {w : World} {K : PySem.W.Frag} {mg : Str → Option Value} {base : Heap} (al : Al K mg) (bn : Bn mg) (cn : Cn K mg) (hdm : mg "divmod" = none) : Has P w K mg base 7 "ahead" s_ahead ["house", "moment"] (spD K F_ahead) := by
  obtain ⟨fd, Fd⟩ := al.d_ahead
  exact ⟨_, fd, al.m_ahead, fnD (k := 6) (N := N_ahead) Fd ⟨rfl, rfl, rfl, by decide +kernel, rfl, by decide +kernel, by decide +kernel⟩ rfl (fun _ _ _ _ _ _ _ hg hr => b_ahead bn cn hg hr (H_want_moment al bn cn hdm) (by omega) (H_want_house al bn cn hdm) (by omega) (H_ahead_in al bn cn hdm) (by omega)) (fun ds hl hp => l_ahead ds hp), Fd, Fd.bindsN (ps := ["house", "moment"]) (fun _ _ _ _ _ _ us hl => match us, hl with | [_, _], _ => rfl)⟩
theorem H_depth {P : Program} {w : World} {K : PySem.W.Frag} {mg : Str → Option Value} {base : Heap} (al : Al K mg) (bn : Bn mg) (cn : Cn K mg) (hdm : mg "divmod" = none) : Has P w K mg base 8 "depth" s_depth ["house", "moment"] (spD K F_depth) := by
  obtain ⟨fd, Fd⟩ := al.d_depth
  exact ⟨_, fd, al.m_depth, fnD (k := 7) (N := N_depth) Fd ⟨rfl, rfl, rfl, by decide +kernel, rfl, by decide +kernel, by decide +kernel⟩ rfl (fun _ _ _ _ _ _ _ hg hr => b_depth bn cn hg hr (H_ahead al bn cn hdm) (by omega)) (fun ds hl hp => l_depth ds hp), Fd, Fd.bindsN (ps := ["house", "moment"]) (fun _ _ _ _ _ _ us hl => match us, hl with | [_, _], _ => rfl)⟩
theorem H_below_in {P : Program} {w : World} {K : PySem.W.Frag} {mg : Str → Option Value} {base : Heap} (al : Al K mg) (bn : Bn mg) (cn : Cn K mg) (hdm : mg "divmod" = none) : Has P w K mg base 1 "below_in" s_below_in ["moments", "moment"] (spD K F_below_in) := by
  obtain ⟨fd, Fd⟩ := al.d_below_in
  exact ⟨_, fd, al.m_below_in, fnD (k := 0) (N := N_below_in) Fd ⟨rfl, rfl, rfl, by decide +kernel, rfl, by decide +kernel, by decide +kernel⟩ rfl (fun _ _ _ _ _ _ _ hg hr => b_below_in bn cn hg hr ) (fun ds hl hp => l_below_in ds hp), Fd, Fd.bindsN (ps := ["moments", "moment"]) (fun _ _ _ _ _ _ us hl => match us, hl with | [_, _], _ => rfl)⟩
theorem H_below {P : Program} {w : World} {K : PySem.W.Frag} {mg : Str → Option Value} {base : Heap} (al : Al K mg) (bn : Bn mg) (cn : Cn K mg) (hdm : mg "divmod" = none) : Has P w K mg base 7 "below" s_below ["house", "moment"] (spD K F_below) := by
  obtain ⟨fd, Fd⟩ := al.d_below
  exact ⟨_, fd, al.m_below, fnD (k := 6) (N := N_below) Fd ⟨rfl, rfl, rfl, by decide +kernel, rfl, by decide +kernel, by decide +kernel⟩ rfl (fun _ _ _ _ _ _ _ hg hr => b_below bn cn hg hr (H_want_moment al bn cn hdm) (by omega) (H_want_house al bn cn hdm) (by omega) (H_below_in al bn cn hdm) (by omega)) (fun ds hl hp => l_below ds hp), Fd, Fd.bindsN (ps := ["house", "moment"]) (fun _ _ _ _ _ _ us hl => match us, hl with | [_, _], _ => rfl)⟩
theorem H_sons {P : Program} {w : World} {K : PySem.W.Frag} {mg : Str → Option Value} {base : Heap} (al : Al K mg) (bn : Bn mg) (cn : Cn K mg) (hdm : mg "divmod" = none) : Has P w K mg base 7 "sons" s_sons ["house", "moment"] (spD K F_sons) := by
  obtain ⟨fd, Fd⟩ := al.d_sons
  exact ⟨_, fd, al.m_sons, fnD (k := 6) (N := N_sons) Fd ⟨rfl, rfl, rfl, by decide +kernel, rfl, by decide +kernel, by decide +kernel⟩ rfl (fun _ _ _ _ _ _ _ hg hr => b_sons bn cn hg hr (H_want_moment al bn cn hdm) (by omega) (H_want_house al bn cn hdm) (by omega) (H_sons_in al bn cn hdm) (by omega)) (fun ds hl hp => l_sons ds hp), Fd, Fd.bindsN (ps := ["house", "moment"]) (fun _ _ _ _ _ _ us hl => match us, hl with | [_, _], _ => rfl)⟩
theorem H_want_promise {P : Program} {w : World} {K : PySem.W.Frag} {mg : Str → Option Value} {base : Heap} (al : Al K mg) (bn : Bn mg) (cn : Cn K mg) (hdm : mg "divmod" = none) : Has P w K mg base 3 "want_promise" s_want_promise ["house", "value"] (spD K F_want_promise) := by
  obtain ⟨fd, Fd⟩ := al.d_want_promise
  exact ⟨_, fd, al.m_want_promise, fnD (k := 2) (N := N_want_promise) Fd ⟨rfl, rfl, rfl, by decide +kernel, rfl, by decide +kernel, by decide +kernel⟩ rfl (fun _ _ _ _ _ _ _ hg hr => b_want_promise bn cn hg hr (H_is_within al bn cn hdm) (by omega)) (fun ds hl hp => l_want_promise ds hp), Fd, Fd.bindsN (ps := ["house", "value"]) (fun _ _ _ _ _ _ us hl => match us, hl with | [_, _], _ => rfl)⟩
theorem H_is_plain_promise {P : Program} {w : World} {K : PySem.W.Frag} {mg : Str → Option Value} {base : Heap} (al : Al K mg) (bn : Bn mg) (cn : Cn K mg) (hdm : mg "divmod" = none) : Has P w K mg base 1 "is_plain_promise" s_is_plain_promise ["promise"] (spD K F_is_plain_promise) := by
  obtain ⟨fd, Fd⟩ := al.d_is_plain_promise
  exact ⟨_, fd, al.m_is_plain_promise, fnD (k := 0) (N := N_is_plain_promise) Fd ⟨rfl, rfl, rfl, by decide +kernel, rfl, by decide +kernel, by decide +kernel⟩ rfl (fun _ _ _ _ _ _ _ hg hr => b_is_plain_promise bn cn hg hr ) (fun ds hl hp => l_is_plain_promise ds hp), Fd, Fd.bindsN (ps := ["promise"]) (fun _ _ _ _ _ _ us hl => match us, hl with | [_], _ => rfl)⟩
theorem H_is_end_promise {P : Program} {w : World} {K : PySem.W.Frag} {mg : Str → Option Value} {base : Heap} (al : Al K mg) (bn : Bn mg) (cn : Cn K mg) (hdm : mg "divmod" = none) : Has P w K mg base 3 "is_end_promise" s_is_end_promise ["moments", "promise"] (spD K F_is_end_promise) := by
  obtain ⟨fd, Fd⟩ := al.d_is_end_promise
  exact ⟨_, fd, al.m_is_end_promise, fnD (k := 2) (N := N_is_end_promise) Fd ⟨rfl, rfl, rfl, by decide +kernel, rfl, by decide +kernel, by decide +kernel⟩ rfl (fun _ _ _ _ _ _ _ hg hr => b_is_end_promise bn cn hg hr (H_ends_in al bn cn hdm) (by omega) (H_is_plain_promise al bn cn hdm) (by omega)) (fun ds hl hp => l_is_end_promise ds hp), Fd, Fd.bindsN (ps := ["moments", "promise"]) (fun _ _ _ _ _ _ us hl => match us, hl with | [_, _], _ => rfl)⟩
theorem H_is_at_ends {P : Program} {w : World} {K : PySem.W.Frag} {mg : Str → Option Value} {base : Heap} (al : Al K mg) (bn : Bn mg) (cn : Cn K mg) (hdm : mg "divmod" = none) : Has P w K mg base 7 "is_at_ends" s_is_at_ends ["house", "promise"] (spD K F_is_at_ends) := by
  obtain ⟨fd, Fd⟩ := al.d_is_at_ends
  exact ⟨_, fd, al.m_is_at_ends, fnD (k := 6) (N := N_is_at_ends) Fd ⟨rfl, rfl, rfl, by decide +kernel, rfl, by decide +kernel, by decide +kernel⟩ rfl (fun _ _ _ _ _ _ _ hg hr => b_is_at_ends bn cn hg hr (H_want_promise al bn cn hdm) (by omega) (H_want_house al bn cn hdm) (by omega) (H_is_end_promise al bn cn hdm) (by omega)) (fun ds hl hp => l_is_at_ends ds hp), Fd, Fd.bindsN (ps := ["house", "promise"]) (fun _ _ _ _ _ _ us hl => match us, hl with | [_, _], _ => rfl)⟩
theorem H_is_plain {P : Program} {w : World} {K : PySem.W.Frag} {mg : Str → Option Value} {base : Heap} (al : Al K mg) (bn : Bn mg) (cn : Cn K mg) (hdm : mg "divmod" = none) : Has P w K mg base 7 "is_plain" s_is_plain ["house", "promise"] (spD K F_is_plain) := by
  obtain ⟨fd, Fd⟩ := al.d_is_plain
  exact ⟨_, fd, al.m_is_plain, fnD (k := 6) (N := N_is_plain) Fd ⟨rfl, rfl, rfl, by decide +kernel, rfl, by decide +kernel, by decide +kernel⟩ rfl (fun _ _ _ _ _ _ _ hg hr => b_is_plain bn cn hg hr (H_is_plain_promise al bn cn hdm) (by omega) (H_want_promise al bn cn hdm) (by omega) (H_want_house al bn cn hdm) (by omega)) (fun ds hl hp => l_is_plain ds hp), Fd, Fd.bindsN (ps := ["house", "promise"]) (fun _ _ _ _ _ _ us hl => match us, hl with | [_, _], _ => rfl)⟩
theorem H__law_trees_right {P : Program} {w : World} {K : PySem.W.Frag} {mg : Str → Option Value} {base : Heap} (al : Al K mg) (bn : Bn mg) (cn : Cn K mg) (hdm : mg "divmod" = none) : Has P w K mg base 9 "_law_trees_right" s__law_trees_right ["pot", "house"] (spP K F__law_trees_right) := by
  obtain ⟨fd, Fd⟩ := al.d__law_trees_right
  exact ⟨_, fd, al.m__law_trees_right, fnP (k := 8) (N := N__law_trees_right) Fd ⟨rfl, rfl, rfl, by decide +kernel, rfl, by decide +kernel, by decide +kernel⟩ rfl (fun _ _ _ _ _ _ _ hg hr => b__law_trees_right bn cn hg hr (H__law_ends al bn cn hdm) (by omega) (H__law_sons al bn cn hdm) (by omega) (H__law_way al bn cn hdm) (by omega) (H_bare_house al bn cn hdm) (by omega) (H_courses al bn cn hdm) (by omega) (H_ends al bn cn hdm) (by omega) (H__law_some al bn cn hdm) (by omega) (H_depth al bn cn hdm) (by omega) (H_below al bn cn hdm) (by omega) (H_ahead al bn cn hdm) (by omega) (H_sons al bn cn hdm) (by omega) (H_is_at_ends al bn cn hdm) (by omega) (H_is_plain al bn cn hdm) (by omega) (kbp_of (ps := ["house"]) (ks := ["house"]) (is := [0]) (by decide) (fun _ _ _ _ _ _ us hl => match us, hl with | [_], _ => rfl)) (kbp_of (ps := ["house"]) (ks := ["house"]) (is := [0]) (by decide) (fun _ _ _ _ _ _ us hl => match us, hl with | [_], _ => rfl)) (kbp_of (ps := ["house", "moment"]) (ks := ["moment", "house"]) (is := [1, 0]) (by decide) (fun _ _ _ _ _ _ us hl => match us, hl with | [_, _], _ => rfl)) (kbp_of (ps := ["house", "moment"]) (ks := ["moment", "house"]) (is := [1, 0]) (by decide) (fun _ _ _ _ _ _ us hl => match us, hl with | [_, _], _ => rfl)) (kbp_of (ps := ["house", "moment"]) (ks := ["moment", "house"]) (is := [1, 0]) (by decide) (fun _ _ _ _ _ _ us hl => match us, hl with | [_, _], _ => rfl)) (kbp_of (ps := ["house", "moment"]) (ks := ["moment", "house"]) (is := [1, 0]) (by decide) (fun _ _ _ _ _ _ us hl => match us, hl with | [_, _], _ => rfl)) (kbp_of (ps := ["house", "promise"]) (ks := ["promise", "house"]) (is := [1, 0]) (by decide) (fun _ _ _ _ _ _ us hl => match us, hl with | [_, _], _ => rfl)) (kbp_of (ps := ["house", "promise"]) (ks := ["promise", "house"]) (is := [1, 0]) (by decide) (fun _ _ _ _ _ _ us hl => match us, hl with | [_, _], _ => rfl))) (fun ds hl hp => l__law_trees_right ds hp), Fd, Fd.bindsN (ps := ["pot", "house"]) (fun _ _ _ _ _ _ us hl => match us, hl with | [_, _], _ => rfl)⟩
theorem H__law_any_ratio {P : Program} {w : World} {K : PySem.W.Frag} {mg : Str → Option Value} {base : Heap} (al : Al K mg) (bn : Bn mg) (cn : Cn K mg) (hdm : mg "divmod" = none) : Has P w K mg base 3 "_law_any_ratio" s__law_any_ratio ["pot", "most", "unders"] (spP K F__law_any_ratio) := by
  obtain ⟨fd, Fd⟩ := al.d__law_any_ratio
  exact ⟨_, fd, al.m__law_any_ratio, fnP (k := 2) (N := N__law_any_ratio) Fd ⟨rfl, rfl, rfl, by decide +kernel, rfl, by decide +kernel, by decide +kernel⟩ rfl (fun _ _ _ _ _ _ _ hg hr => b__law_any_ratio bn cn hg hr (H__law_low al bn cn hdm) (by omega) (H__law_draw al bn cn hdm) (by omega)) (fun ds hl hp => l__law_any_ratio ds hp), Fd, Fd.bindsN (ps := ["pot", "most", "unders"]) (fun _ _ _ _ _ _ us hl => match us, hl with | [_, _, _], _ => rfl)⟩
theorem H__law_any_plan {P : Program} {w : World} {K : PySem.W.Frag} {mg : Str → Option Value} {base : Heap} (al : Al K mg) (bn : Bn mg) (cn : Cn K mg) (hdm : mg "divmod" = none) : Has P w K mg base 4 "_law_any_plan" s__law_any_plan ["pot", "moments"] (spP K F__law_any_plan) := by
  obtain ⟨fd, Fd⟩ := al.d__law_any_plan
  exact ⟨_, fd, al.m__law_any_plan, fnP (k := 3) (N := N__law_any_plan) Fd ⟨rfl, rfl, rfl, by decide +kernel, rfl, by decide +kernel, by decide +kernel⟩ rfl (fun _ _ _ _ _ _ _ hg hr => b__law_any_plan bn cn hg hr (H__law_ends al bn cn hdm) (by omega) (H__law_any_ratio al bn cn hdm) (by omega) (H__law_pick al bn cn hdm) (by omega)) (fun ds hl hp => l__law_any_plan ds hp hl), Fd, Fd.bindsN (ps := ["pot", "moments"]) (fun _ _ _ _ _ _ us hl => match us, hl with | [_, _], _ => rfl)⟩
theorem H__law_is_ratio {P : Program} {w : World} {K : PySem.W.Frag} {mg : Str → Option Value} {base : Heap} (al : Al K mg) (bn : Bn mg) (cn : Cn K mg) (hdm : mg "divmod" = none) : Has P w K mg base 2 "_law_is_ratio" s__law_is_ratio ["value"] (spD K F__law_is_ratio) := by
  obtain ⟨fd, Fd⟩ := al.d__law_is_ratio
  exact ⟨_, fd, al.m__law_is_ratio, fnD (k := 1) (N := N__law_is_ratio) Fd ⟨rfl, rfl, rfl, by decide +kernel, rfl, by decide +kernel, by decide +kernel⟩ rfl (fun _ _ _ _ _ _ _ hg hr => b__law_is_ratio bn cn hg hr (H__law_is_whole al bn cn hdm) (by omega) (H__law_gcd al bn cn hdm) (by omega)) (fun ds hl hp => l__law_is_ratio ds hp), Fd, Fd.bindsN (ps := ["value"]) (fun _ _ _ _ _ _ us hl => match us, hl with | [_], _ => rfl)⟩
theorem H__law_is_plan {P : Program} {w : World} {K : PySem.W.Frag} {mg : Str → Option Value} {base : Heap} (al : Al K mg) (bn : Bn mg) (cn : Cn K mg) (hdm : mg "divmod" = none) : Has P w K mg base 3 "_law_is_plan" s__law_is_plan ["moments", "value"] (spD K F__law_is_plan) := by
  obtain ⟨fd, Fd⟩ := al.d__law_is_plan
  exact ⟨_, fd, al.m__law_is_plan, fnD (k := 2) (N := N__law_is_plan) Fd ⟨rfl, rfl, rfl, by decide +kernel, rfl, by decide +kernel, by decide +kernel⟩ rfl (fun _ _ _ _ _ _ _ hg hr => b__law_is_plan bn cn hg hr (H__law_is_ratio al bn cn hdm) (by omega) (H__law_ends al bn cn hdm) (by omega)) (fun ds hl hp => l__law_is_plan ds hp), Fd, Fd.bindsN (ps := ["moments", "value"]) (fun _ _ _ _ _ _ us hl => match us, hl with | [_, _], _ => rfl)⟩
theorem H_is_ratio {P : Program} {w : World} {K : PySem.W.Frag} {mg : Str → Option Value} {base : Heap} (al : Al K mg) (bn : Bn mg) (cn : Cn K mg) (hdm : mg "divmod" = none) : Has P w K mg base 2 "is_ratio" s_is_ratio ["value"] (spD K F_is_ratio) := by
  obtain ⟨fd, Fd⟩ := al.d_is_ratio
  exact ⟨_, fd, al.m_is_ratio, fnD (k := 1) (N := N_is_ratio) Fd ⟨rfl, rfl, rfl, by decide +kernel, rfl, by decide +kernel, by decide +kernel⟩ rfl (fun _ _ _ _ _ _ _ hg hr => b_is_ratio bn cn hg hr (H_is_row al bn cn hdm) (by omega) (H_is_integer al bn cn hdm) (by omega)) (fun ds hl hp => l_is_ratio ds hp), Fd, Fd.bindsN (ps := ["value"]) (fun _ _ _ _ _ _ us hl => match us, hl with | [_], _ => rfl)⟩
theorem H_is_plan_of {P : Program} {w : World} {K : PySem.W.Frag} {mg : Str → Option Value} {base : Heap} (al : Al K mg) (bn : Bn mg) (cn : Cn K mg) (hdm : mg "divmod" = none) : Has P w K mg base 3 "is_plan_of" s_is_plan_of ["moments", "value"] (spD K F_is_plan_of) := by
  obtain ⟨fd, Fd⟩ := al.d_is_plan_of
  exact ⟨_, fd, al.m_is_plan_of, fnD (k := 2) (N := N_is_plan_of) Fd ⟨rfl, rfl, rfl, by decide +kernel, rfl, by decide +kernel, by decide +kernel⟩ rfl (fun _ _ _ _ _ _ _ hg hr => b_is_plan_of bn cn hg hr (H_is_row al bn cn hdm) (by omega) (H_is_ratio al bn cn hdm) (by omega) (H_ends_in al bn cn hdm) (by omega)) (fun ds hl hp => l_is_plan_of ds hp), Fd, Fd.bindsN (ps := ["moments", "value"]) (fun _ _ _ _ _ _ us hl => match us, hl with | [_, _], _ => rfl)⟩
theorem H_is_plan {P : Program} {w : World} {K : PySem.W.Frag} {mg : Str → Option Value} {base : Heap} (al : Al K mg) (bn : Bn mg) (cn : Cn K mg) (hdm : mg "divmod" = none) : Has P w K mg base 7 "is_plan" s_is_plan ["house", "value"] (spD K F_is_plan) := by
  obtain ⟨fd, Fd⟩ := al.d_is_plan
  exact ⟨_, fd, al.m_is_plan, fnD (k := 6) (N := N_is_plan) Fd ⟨rfl, rfl, rfl, by decide +kernel, rfl, by decide +kernel, by decide +kernel⟩ rfl (fun _ _ _ _ _ _ _ hg hr => b_is_plan bn cn hg hr (H_is_plan_of al bn cn hdm) (by omega) (H_want_house al bn cn hdm) (by omega)) (fun ds hl hp => l_is_plan ds hp), Fd, Fd.bindsN (ps := ["house", "value"]) (fun _ _ _ _ _ _ us hl => match us, hl with | [_, _], _ => rfl)⟩
theorem H__law_plans_right {P : Program} {w : World} {K : PySem.W.Frag} {mg : Str → Option Value} {base : Heap} (al : Al K mg) (bn : Bn mg) (cn : Cn K mg) (hdm : mg "divmod" = none) : Has P w K mg base 33 "_law_plans_right" s__law_plans_right ["pot", "house"] (spP K F__law_plans_right) := by
  obtain ⟨fd, Fd⟩ := al.d__law_plans_right
  exact ⟨_, fd, al.m__law_plans_right, fnP (k := 32) (N := N__law_plans_right) Fd ⟨rfl, rfl, rfl, by decide +kernel, rfl, by decide +kernel, by decide +kernel⟩ rfl (fun _ _ _ _ _ _ _ hg hr => b__law_plans_right bn cn hg hr (H__law_any_plan al bn cn hdm) (by omega) (H__law_draw al bn cn hdm) (by omega) (H__law_put al bn cn hdm) (by omega) (H__law_bent al bn cn hdm) (by omega) (H__law_is_plan al bn cn hdm) (by omega) (H_is_plan al bn cn hdm) (by omega) (kbp_of (ps := ["house", "value"]) (ks := ["value", "house"]) (is := [1, 0]) (by decide) (fun _ _ _ _ _ _ us hl => match us, hl with | [_, _], _ => rfl))) (fun ds hl hp => l__law_plans_right ds hp), Fd, Fd.bindsN (ps := ["pot", "house"]) (fun _ _ _ _ _ _ us hl => match us, hl with | [_, _], _ => rfl)⟩
theorem H__law_right {P : Program} {w : World} {K : PySem.W.Frag} {mg : Str → Option Value} {base : Heap} (al : Al K mg) (bn : Bn mg) (cn : Cn K mg) (hdm : mg "divmod" = none) : Has P w K mg base 34 "_law_right" s__law_right ["pot"] (spP K F__law_right) := by
  obtain ⟨fd, Fd⟩ := al.d__law_right
  exact ⟨_, fd, al.m__law_right, fnP (k := 33) (N := N__law_right) Fd ⟨rfl, rfl, rfl, by decide +kernel, rfl, by decide +kernel, by decide +kernel⟩ rfl (fun _ _ _ _ _ _ _ hg hr => b__law_right bn cn hg hr (H__law_draw al bn cn hdm) (by omega) (H__law_some al bn cn hdm) (by omega) (H__law_house al bn cn hdm) (by omega) (H__law_pick al bn cn hdm) (by omega) (H__law_values_right al bn cn hdm) (by omega) (H__law_trees_right al bn cn hdm) (by omega) (H__law_plans_right al bn cn hdm) (by omega)) (fun ds hl hp => l__law_right ds hl), Fd, Fd.bindsN (ps := ["pot"]) (fun _ _ _ _ _ _ us hl => match us, hl with | [_], _ => rfl)⟩
theorem H__law_pot {P : Program} {w : World} {K : PySem.W.Frag} {mg : Str → Option Value} {base : Heap} (al : Al K mg) (bn : Bn mg) (cn : Cn K mg) (hdm : mg "divmod" = none) : Has P w K mg base 1 "_law_pot" s__law_pot ["script", "k"] (spPot K) := by
  obtain ⟨fd, Fd⟩ := al.d__law_pot
  exact ⟨_, fd, al.m__law_pot, fn__law_pot (k := 0) bn Fd, Fd, Fd.bindsN (ps := ["script", "k"]) (fun _ _ _ _ _ _ us hl => match us, hl with | [_, _], _ => rfl)⟩
-- levels: {'_law_draw': 1, '_law_some': 2, '_law_pick': 2, '_law_fathers': 2, '_law_moments': 3, '_law_gcd': 1, '_law_low': 2, '_law_times': 3, '_law_balanced': 4, '_law_any_moments': 5, '_law_sons': 1, '_law_ends': 2, '_law_pay': 3, '_law_promise': 4, '_law_house': 6, '_law_put': 1, '_law_near': 2, '_law_bent': 32, '_law_is_whole': 1, '_law_is_within': 2, '_law_are_moments': 3, '_law_is_pay': 3, '_law_is_promise': 4, '_law_is_house': 5, 'is_row': 1, 'is_integer': 1, 'is_within': 2, 'is_prices': 3, 'is_moments': 4, 'sons_in': 1, 'ends_in': 2, 'is_pay': 3, 'is_promise_for': 4, 'is_house': 5, 'want_house': 6, 'is_promise': 7, '_law_values_right': 33, '_law_way': 1, 'bare_house': 5, 'ahead_in': 1, 'courses': 7, 'ends': 7, 'want_moment': 3, 'ahead': 7, 'depth': 8, 'below_in': 1, 'below': 7, 'sons': 7, 'want_promise': 3, 'is_plain_promise': 1, 'is_end_promise': 3, 'is_at_ends': 7, 'is_plain': 7, '_law_trees_right': 9, '_law_any_ratio': 3, '_law_any_plan': 4, '_law_is_ratio': 2, '_law_is_plan': 3, 'is_ratio': 2, 'is_plan_of': 3, 'is_plan': 7, '_law_plans_right': 33, '_law_right': 34, '_law_pot': 1}
end Hd
/-! text Dk -/
/-! Dk: facts of the top by names, and one look more. -/
namespace Dl
open PySem PySem.Spec PyProof.Rows L2
def obsX (fa : List He.Fa) (fn : List He.DefD) (ex : PySem.W.Frag → Bool) (K : PySem.W.Frag) : He.AlD := ((He.obsD fa fn K).1 && ex K, (He.obsD fa fn K).2)
def obsXG (n : Nat) (fa : List He.Fa) (fn : List He.DefD) (ex : PySem.W.Frag → Bool) (g : Addr → Option Obj) : He.AlD := obsX fa fn ex (He.frG g (He.asD g n))
def hookX (n : Nat) (fa : List He.Fa) (fn : List He.DefD) (ex : PySem.W.Frag → Bool) : PySem.W.Hook where
  α := He.AlD
  obs := fun t => obsXG n fa fn ex t.heap.get?
  val := fun _ => He.valD fn
  says := fun _ h => ∃ K : PySem.W.Frag, K.In h ∧ obsX fa fn ex K = He.valD fn
  of := fun _ _ e => ⟨_, He.frG_in, e⟩
  keeps := fun _ _ _ ⟨K, inK, c⟩ k => ⟨K, PySem.W.Frag.In.keeps inK k, c⟩
theorem obsXG_eq {n : Nat} {fa : List He.Fa} {fn : List He.DefD} {ex : PySem.W.Frag → Bool} {g : Addr → Option Obj} {t : Shared} (h : ∀ a, g a = t.heap.get? a) : obsXG n fa fn ex g = (hookX n fa fn ex).obs t := by
  have e : g = t.heap.get? := funext h
  subst e
  rfl
theorem saysX {fa : List He.Fa} {fn : List He.DefD} {ex : PySem.W.Frag → Bool} {K : PySem.W.Frag} (c : obsX fa fn ex K = He.valD fn) : He.SaysD fa fn K ∧ ex K = true := by
  unfold obsX He.valD at c
  rw [Prod.mk.injEq, Bool.and_eq_true] at c
  obtain ⟨⟨c1, c2⟩, c3⟩ := c
  refine ⟨?_, c2⟩
  show He.obsD fa fn K = He.valD fn
  exact Prod.ext c1 c3
end Dl
/-! text Hza24 -/
/-! the head, its facts; the law. -/
namespace Hz
open PySem PySem.Spec PyProof.Rows L2 Dl Hd
def loose0 : List Str := ["gcd", "__name__", "SpreadError", "InvalidHouse", "InvalidMoment", "InvalidPromise", "InvalidMoments", "is_integer", "is_within", "is_row", "MOST_MOMENTS", "MOST_PRICE", "MOST_PAY", "MOST_PROMISES", "is_prices", "is_moments", "is_pay", "is_promise_for", "is_house", "sons_in", "ends_in", "ahead_in", "below_in", "is_plain_promise", "is_end_promise", "want_house", "want_moment", "want_promise", "is_promise", "bare_house"]
def loose1 : List Str := ["sons", "ahead", "below", "ends", "courses", "depth", "is_plain", "is_at_ends", "BEYOND", "NOUGHT", "is_ratio", "is_plan_of", "is_plan", "_law_pot", "_law_draw", "_law_pick", "_law_some", "_law_gcd", "_law_low", "_law_times", "_law_any_ratio", "_law_is_whole", "_law_is_ratio", "_law_fathers", "_law_moments", "_law_balanced", "_law_any_moments", "_law_sons", "_law_ends", "_law_way"]
def loose2 : List Str := ["_law_pay", "_law_promise", "_law_house", "_law_any_plan", "_law_is_plan", "_law_bent", "_law_is_within", "_law_are_moments", "_law_is_pay", "_law_is_promise", "_law_is_house", "_law_put", "_law_near", "_law_values_right", "_law_trees_right", "_law_plans_right", "_law_right"]
def loose : List Str := loose0 ++ loose1 ++ loose2
def d_is_integer : He.DefD := ⟨("is_integer", none), "is_integer", "is_integer", defArgs s_is_integer, defBody s_is_integer, defScope s_is_integer, [], []⟩
def d_is_within : He.DefD := ⟨("is_within", none), "is_within", "is_within", defArgs s_is_within, defBody s_is_within, defScope s_is_within, [], []⟩
def d_is_row : He.DefD := ⟨("is_row", none), "is_row", "is_row", defArgs s_is_row, defBody s_is_row, defScope s_is_row, [], []⟩
def d_is_prices : He.DefD := ⟨("is_prices", none), "is_prices", "is_prices", defArgs s_is_prices, defBody s_is_prices, defScope s_is_prices, [], []⟩
def d_is_moments : He.DefD := ⟨("is_moments", none), "is_moments", "is_moments", defArgs s_is_moments, defBody s_is_moments, defScope s_is_moments, [], []⟩
def d_is_pay : He.DefD := ⟨("is_pay", none), "is_pay", "is_pay", defArgs s_is_pay, defBody s_is_pay, defScope s_is_pay, [], []⟩
def d_is_promise_for : He.DefD := ⟨("is_promise_for", none), "is_promise_for", "is_promise_for", defArgs s_is_promise_for, defBody s_is_promise_for, defScope s_is_promise_for, [], []⟩
def d_is_house : He.DefD := ⟨("is_house", none), "is_house", "is_house", defArgs s_is_house, defBody s_is_house, defScope s_is_house, [], []⟩
def d_sons_in : He.DefD := ⟨("sons_in", none), "sons_in", "sons_in", defArgs s_sons_in, defBody s_sons_in, defScope s_sons_in, [], []⟩
def d_ends_in : He.DefD := ⟨("ends_in", none), "ends_in", "ends_in", defArgs s_ends_in, defBody s_ends_in, defScope s_ends_in, [], []⟩
def d_ahead_in : He.DefD := ⟨("ahead_in", none), "ahead_in", "ahead_in", defArgs s_ahead_in, defBody s_ahead_in, defScope s_ahead_in, [], []⟩
def d_below_in : He.DefD := ⟨("below_in", none), "below_in", "below_in", defArgs s_below_in, defBody s_below_in, defScope s_below_in, [], []⟩
def d_is_plain_promise : He.DefD := ⟨("is_plain_promise", none), "is_plain_promise", "is_plain_promise", defArgs s_is_plain_promise, defBody s_is_plain_promise, defScope s_is_plain_promise, [], []⟩
def d_is_end_promise : He.DefD := ⟨("is_end_promise", none), "is_end_promise", "is_end_promise", defArgs s_is_end_promise, defBody s_is_end_promise, defScope s_is_end_promise, [], []⟩
def d_want_house : He.DefD := ⟨("want_house", none), "want_house", "want_house", defArgs s_want_house, defBody s_want_house, defScope s_want_house, [], []⟩
def d_want_moment : He.DefD := ⟨("want_moment", none), "want_moment", "want_moment", defArgs s_want_moment, defBody s_want_moment, defScope s_want_moment, [], []⟩
def d_want_promise : He.DefD := ⟨("want_promise", none), "want_promise", "want_promise", defArgs s_want_promise, defBody s_want_promise, defScope s_want_promise, [], []⟩
def d_is_promise : He.DefD := ⟨("is_promise", none), "is_promise", "is_promise", defArgs s_is_promise, defBody s_is_promise, defScope s_is_promise, [], []⟩
def d_bare_house : He.DefD := ⟨("bare_house", none), "bare_house", "bare_house", defArgs s_bare_house, defBody s_bare_house, defScope s_bare_house, [], []⟩
def d_sons : He.DefD := ⟨("sons", none), "sons", "sons", defArgs s_sons, defBody s_sons, defScope s_sons, [], []⟩
def d_ahead : He.DefD := ⟨("ahead", none), "ahead", "ahead", defArgs s_ahead, defBody s_ahead, defScope s_ahead, [], []⟩
def d_below : He.DefD := ⟨("below", none), "below", "below", defArgs s_below, defBody s_below, defScope s_below, [], []⟩
def d_ends : He.DefD := ⟨("ends", none), "ends", "ends", defArgs s_ends, defBody s_ends, defScope s_ends, [], []⟩
def d_courses : He.DefD := ⟨("courses", none), "courses", "courses", defArgs s_courses, defBody s_courses, defScope s_courses, [], []⟩
def d_depth : He.DefD := ⟨("depth", none), "depth", "depth", defArgs s_depth, defBody s_depth, defScope s_depth, [], []⟩
def d_is_plain : He.DefD := ⟨("is_plain", none), "is_plain", "is_plain", defArgs s_is_plain, defBody s_is_plain, defScope s_is_plain, [], []⟩
def d_is_at_ends : He.DefD := ⟨("is_at_ends", none), "is_at_ends", "is_at_ends", defArgs s_is_at_ends, defBody s_is_at_ends, defScope s_is_at_ends, [], []⟩
def d_is_ratio : He.DefD := ⟨("is_ratio", none), "is_ratio", "is_ratio", defArgs s_is_ratio, defBody s_is_ratio, defScope s_is_ratio, [], []⟩
def d_is_plan_of : He.DefD := ⟨("is_plan_of", none), "is_plan_of", "is_plan_of", defArgs s_is_plan_of, defBody s_is_plan_of, defScope s_is_plan_of, [], []⟩
def d_is_plan : He.DefD := ⟨("is_plan", none), "is_plan", "is_plan", defArgs s_is_plan, defBody s_is_plan, defScope s_is_plan, [], []⟩
def d__law_pot : He.DefD := ⟨("_law_pot", none), "_law_pot", "_law_pot", defArgs s__law_pot, defBody s__law_pot, defScope s__law_pot, [], []⟩
def d__law_draw : He.DefD := ⟨("_law_draw", none), "_law_draw", "_law_draw", defArgs s__law_draw, defBody s__law_draw, defScope s__law_draw, [], []⟩
def d__law_pick : He.DefD := ⟨("_law_pick", none), "_law_pick", "_law_pick", defArgs s__law_pick, defBody s__law_pick, defScope s__law_pick, [], []⟩
def d__law_some : He.DefD := ⟨("_law_some", none), "_law_some", "_law_some", defArgs s__law_some, defBody s__law_some, defScope s__law_some, [], []⟩
def d__law_gcd : He.DefD := ⟨("_law_gcd", none), "_law_gcd", "_law_gcd", defArgs s__law_gcd, defBody s__law_gcd, defScope s__law_gcd, [], []⟩
def d__law_low : He.DefD := ⟨("_law_low", none), "_law_low", "_law_low", defArgs s__law_low, defBody s__law_low, defScope s__law_low, [], []⟩
def d__law_times : He.DefD := ⟨("_law_times", none), "_law_times", "_law_times", defArgs s__law_times, defBody s__law_times, defScope s__law_times, [], []⟩
def d__law_any_ratio : He.DefD := ⟨("_law_any_ratio", none), "_law_any_ratio", "_law_any_ratio", defArgs s__law_any_ratio, defBody s__law_any_ratio, defScope s__law_any_ratio, [], []⟩
def d__law_is_whole : He.DefD := ⟨("_law_is_whole", none), "_law_is_whole", "_law_is_whole", defArgs s__law_is_whole, defBody s__law_is_whole, defScope s__law_is_whole, [], []⟩
def d__law_is_ratio : He.DefD := ⟨("_law_is_ratio", none), "_law_is_ratio", "_law_is_ratio", defArgs s__law_is_ratio, defBody s__law_is_ratio, defScope s__law_is_ratio, [], []⟩
def d__law_fathers : He.DefD := ⟨("_law_fathers", none), "_law_fathers", "_law_fathers", defArgs s__law_fathers, defBody s__law_fathers, defScope s__law_fathers, [], []⟩
def d__law_moments : He.DefD := ⟨("_law_moments", none), "_law_moments", "_law_moments", defArgs s__law_moments, defBody s__law_moments, defScope s__law_moments, [], []⟩
def d__law_balanced : He.DefD := ⟨("_law_balanced", none), "_law_balanced", "_law_balanced", defArgs s__law_balanced, defBody s__law_balanced, defScope s__law_balanced, [], []⟩
def d__law_any_moments : He.DefD := ⟨("_law_any_moments", none), "_law_any_moments", "_law_any_moments", defArgs s__law_any_moments, defBody s__law_any_moments, defScope s__law_any_moments, [], []⟩
def d__law_sons : He.DefD := ⟨("_law_sons", none), "_law_sons", "_law_sons", defArgs s__law_sons, defBody s__law_sons, defScope s__law_sons, [], []⟩
def d__law_ends : He.DefD := ⟨("_law_ends", none), "_law_ends", "_law_ends", defArgs s__law_ends, defBody s__law_ends, defScope s__law_ends, [], []⟩
def d__law_way : He.DefD := ⟨("_law_way", none), "_law_way", "_law_way", defArgs s__law_way, defBody s__law_way, defScope s__law_way, [], []⟩
def d__law_pay : He.DefD := ⟨("_law_pay", none), "_law_pay", "_law_pay", defArgs s__law_pay, defBody s__law_pay, defScope s__law_pay, [], []⟩
def d__law_promise : He.DefD := ⟨("_law_promise", none), "_law_promise", "_law_promise", defArgs s__law_promise, defBody s__law_promise, defScope s__law_promise, [], []⟩
def d__law_house : He.DefD := ⟨("_law_house", none), "_law_house", "_law_house", defArgs s__law_house, defBody s__law_house, defScope s__law_house, [], []⟩
def d__law_any_plan : He.DefD := ⟨("_law_any_plan", none), "_law_any_plan", "_law_any_plan", defArgs s__law_any_plan, defBody s__law_any_plan, defScope s__law_any_plan, [], []⟩
def d__law_is_plan : He.DefD := ⟨("_law_is_plan", none), "_law_is_plan", "_law_is_plan", defArgs s__law_is_plan, defBody s__law_is_plan, defScope s__law_is_plan, [], []⟩
def d__law_bent : He.DefD := ⟨("_law_bent", none), "_law_bent", "_law_bent", defArgs s__law_bent, defBody s__law_bent, defScope s__law_bent, [], []⟩
def d__law_is_within : He.DefD := ⟨("_law_is_within", none), "_law_is_within", "_law_is_within", defArgs s__law_is_within, defBody s__law_is_within, defScope s__law_is_within, [], []⟩
def d__law_are_moments : He.DefD := ⟨("_law_are_moments", none), "_law_are_moments", "_law_are_moments", defArgs s__law_are_moments, defBody s__law_are_moments, defScope s__law_are_moments, [], []⟩
def d__law_is_pay : He.DefD := ⟨("_law_is_pay", none), "_law_is_pay", "_law_is_pay", defArgs s__law_is_pay, defBody s__law_is_pay, defScope s__law_is_pay, [], []⟩
def d__law_is_promise : He.DefD := ⟨("_law_is_promise", none), "_law_is_promise", "_law_is_promise", defArgs s__law_is_promise, defBody s__law_is_promise, defScope s__law_is_promise, [], []⟩
def d__law_is_house : He.DefD := ⟨("_law_is_house", none), "_law_is_house", "_law_is_house", defArgs s__law_is_house, defBody s__law_is_house, defScope s__law_is_house, [], []⟩
def d__law_put : He.DefD := ⟨("_law_put", none), "_law_put", "_law_put", defArgs s__law_put, defBody s__law_put, defScope s__law_put, [], []⟩
def d__law_near : He.DefD := ⟨("_law_near", none), "_law_near", "_law_near", defArgs s__law_near, defBody s__law_near, defScope s__law_near, [], []⟩
def d__law_values_right : He.DefD := ⟨("_law_values_right", none), "_law_values_right", "_law_values_right", defArgs s__law_values_right, defBody s__law_values_right, defScope s__law_values_right, [], []⟩
def d__law_trees_right : He.DefD := ⟨("_law_trees_right", none), "_law_trees_right", "_law_trees_right", defArgs s__law_trees_right, defBody s__law_trees_right, defScope s__law_trees_right, [], []⟩
def d__law_plans_right : He.DefD := ⟨("_law_plans_right", none), "_law_plans_right", "_law_plans_right", defArgs s__law_plans_right, defBody s__law_plans_right, defScope s__law_plans_right, [], []⟩
def d__law_right : He.DefD := ⟨("_law_right", none), "_law_right", "_law_right", defArgs s__law_right, defBody s__law_right, defScope s__law_right, [], []⟩
def d_law : He.DefD := ⟨("law", none), "law", "law", defArgs s_law, defBody s_law, defScope s_law, [], []⟩
def fn0 : List He.DefD := [d_is_integer, d_is_within, d_is_row, d_is_prices, d_is_moments, d_is_pay, d_is_promise_for, d_is_house, d_sons_in, d_ends_in, d_ahead_in, d_below_in, d_is_plain_promise, d_is_end_promise, d_want_house, d_want_moment, d_want_promise, d_is_promise, d_bare_house, d_sons, d_ahead, d_below, d_ends, d_courses, d_depth, d_is_plain, d_is_at_ends, d_is_ratio, d_is_plan_of, d_is_plan]
def fn1 : List He.DefD := [d__law_pot, d__law_draw, d__law_pick, d__law_some, d__law_gcd, d__law_low, d__law_times, d__law_any_ratio, d__law_is_whole, d__law_is_ratio, d__law_fathers, d__law_moments, d__law_balanced, d__law_any_moments, d__law_sons, d__law_ends, d__law_way, d__law_pay, d__law_promise, d__law_house, d__law_any_plan, d__law_is_plan, d__law_bent, d__law_is_within, d__law_are_moments, d__law_is_pay, d__law_is_promise, d__law_is_house, d__law_put, d__law_near]
def fn2 : List He.DefD := [d__law_values_right, d__law_trees_right, d__law_plans_right, d__law_right, d_law]
def fn : List He.DefD := fn0 ++ fn1 ++ fn2
def fa0 : List He.Fa := [.glo "is_integer", .glo "is_within", .glo "is_row", .glo "is_prices", .glo "is_moments", .glo "is_pay", .glo "is_promise_for", .glo "is_house", .glo "sons_in", .glo "ends_in", .glo "ahead_in", .glo "below_in", .glo "is_plain_promise", .glo "is_end_promise", .glo "want_house", .glo "want_moment", .glo "want_promise", .glo "is_promise", .glo "bare_house", .glo "sons", .glo "ahead", .glo "below", .glo "ends", .glo "courses", .glo "depth", .glo "is_plain", .glo "is_at_ends", .glo "is_ratio", .glo "is_plan_of", .glo "is_plan"]
def fa1 : List He.Fa := [.glo "_law_pot", .glo "_law_draw", .glo "_law_pick", .glo "_law_some", .glo "_law_gcd", .glo "_law_low", .glo "_law_times", .glo "_law_any_ratio", .glo "_law_is_whole", .glo "_law_is_ratio", .glo "_law_fathers", .glo "_law_moments", .glo "_law_balanced", .glo "_law_any_moments", .glo "_law_sons", .glo "_law_ends", .glo "_law_way", .glo "_law_pay", .glo "_law_promise", .glo "_law_house", .glo "_law_any_plan", .glo "_law_is_plan", .glo "_law_bent", .glo "_law_is_within", .glo "_law_are_moments", .glo "_law_is_pay", .glo "_law_is_promise", .glo "_law_is_house", .glo "_law_put", .glo "_law_near"]
def fa2 : List He.Fa := [.glo "_law_values_right", .glo "_law_trees_right", .glo "_law_plans_right", .glo "_law_right", .glo "law", .free "ValueError", .free "abs", .free "all", .free "bool", .free "divmod", .free "enumerate", .free "int", .free "isinstance", .free "len", .free "list", .free "max", .free "min", .free "range", .free "repr", .free "sorted", .free "str", .free "sum", .free "tuple", .free "zip", .int "MOST_MOMENTS" (31), .int "MOST_PRICE" (999), .int "MOST_PAY" (999), .int "MOST_PROMISES" (4), .int "BEYOND" (B4), .glo "NOUGHT"]
def fa : List He.Fa := fa0 ++ fa1 ++ fa2
def ex (K : PySem.W.Frag) : Bool := He.tupB K "NOUGHT" [.int 0, .int 1] && He.eqO (PySem.W.nsIn K mainGlobals "gcd") (some (some (.builtin "math.gcd")))
abbrev rowL : PySem.W.OpenRow := PySem.W.OpenLaw.row PySem.Challenge.rw_spreadhouse_k24_any_value_as_house_promi
abbrev hk : PySem.W.Hook := Dl.hookX 4 fa fn ex
def ob (s : PySem.W.SharedT) : He.AlD := Dl.obsXG 4 fa fn ex (HandSHeadRun.getT s)
theorem ob_eq (s : PySem.W.SharedT) : ob s = hk.obs s.abs := Dl.obsXG_eq (HandSHeadRun.getT_eq s)
theorem run (w : World) : HandSHeadRun.RunEqI rowL (PySem.W.view rowL.prog [0, 82]) hk ob 4000 loose w := by
  unfold HandSHeadRun.RunEqI
  kernel_rfl
section
variable {P : Program} {w : World} {K : PySem.W.Frag} {h : Heap} {mg : Str → Option Value} {f : Addr}
theorem bn_of (X : K.In h) (G : h.Ns mainGlobals mg) (c : He.SaysD fa fn K) : Bn mg where
  n_abs := He.free_ok X G (c.fact 66 (f := .free "abs") rfl)
  n_all := He.free_ok X G (c.fact 67 (f := .free "all") rfl)
  n_bool := He.free_ok X G (c.fact 68 (f := .free "bool") rfl)
  n_enumerate := He.free_ok X G (c.fact 70 (f := .free "enumerate") rfl)
  n_int := He.free_ok X G (c.fact 71 (f := .free "int") rfl)
  n_isinstance := He.free_ok X G (c.fact 72 (f := .free "isinstance") rfl)
  n_len := He.free_ok X G (c.fact 73 (f := .free "len") rfl)
  n_list := He.free_ok X G (c.fact 74 (f := .free "list") rfl)
  n_max := He.free_ok X G (c.fact 75 (f := .free "max") rfl)
  n_min := He.free_ok X G (c.fact 76 (f := .free "min") rfl)
  n_range := He.free_ok X G (c.fact 77 (f := .free "range") rfl)
  n_repr := He.free_ok X G (c.fact 78 (f := .free "repr") rfl)
  n_sorted := He.free_ok X G (c.fact 79 (f := .free "sorted") rfl)
  n_str := He.free_ok X G (c.fact 80 (f := .free "str") rfl)
  n_sum := He.free_ok X G (c.fact 81 (f := .free "sum") rfl)
  n_tuple := He.free_ok X G (c.fact 82 (f := .free "tuple") rfl)
  n_zip := He.free_ok X G (c.fact 83 (f := .free "zip") rfl)
theorem cn_of (X : K.In h) (G : h.Ns mainGlobals mg) (c : He.SaysD fa fn K) (e : ex K = true) : Cn K mg := by
  simp only [ex, Bool.and_eq_true] at e
  obtain ⟨e0, e1⟩ := e
  exact {
    c_MOST_MOMENTS := He.int_ok X G (c.fact 84 (f := .int "MOST_MOMENTS" (31)) rfl)
    c_MOST_PRICE := He.int_ok X G (c.fact 85 (f := .int "MOST_PRICE" (999)) rfl)
    c_MOST_PAY := He.int_ok X G (c.fact 86 (f := .int "MOST_PAY" (999)) rfl)
    c_MOST_PROMISES := He.int_ok X G (c.fact 87 (f := .int "MOST_PROMISES" (4)) rfl)
    c_BEYOND := He.int_ok X G (c.fact 88 (f := .int "BEYOND" (B4)) rfl)
    c_NOUGHT := ⟨He.ga K "NOUGHT", He.glo_ok X G (c.fact 89 (f := .glo "NOUGHT") rfl), fun H => He.tupB_ok (vs := [.int 0, .int 1]) e0 H⟩
    c_gcd := PySem.W.mg_of X G (He.eqO_ok e1) }
theorem al_of (X : K.In h) (G : h.Ns mainGlobals mg) (c : He.SaysD fa fn K) : Al K mg where
  d_is_integer := c.def_ 0 (d := d_is_integer) rfl
  m_is_integer := He.glo_ok X G (c.fact 0 (f := .glo "is_integer") rfl)
  d_is_within := c.def_ 1 (d := d_is_within) rfl
  m_is_within := He.glo_ok X G (c.fact 1 (f := .glo "is_within") rfl)
  d_is_row := c.def_ 2 (d := d_is_row) rfl
  m_is_row := He.glo_ok X G (c.fact 2 (f := .glo "is_row") rfl)
  d_is_prices := c.def_ 3 (d := d_is_prices) rfl
  m_is_prices := He.glo_ok X G (c.fact 3 (f := .glo "is_prices") rfl)
  d_is_moments := c.def_ 4 (d := d_is_moments) rfl
  m_is_moments := He.glo_ok X G (c.fact 4 (f := .glo "is_moments") rfl)
  d_is_pay := c.def_ 5 (d := d_is_pay) rfl
  m_is_pay := He.glo_ok X G (c.fact 5 (f := .glo "is_pay") rfl)
  d_is_promise_for := c.def_ 6 (d := d_is_promise_for) rfl
  m_is_promise_for := He.glo_ok X G (c.fact 6 (f := .glo "is_promise_for") rfl)
  d_is_house := c.def_ 7 (d := d_is_house) rfl
  m_is_house := He.glo_ok X G (c.fact 7 (f := .glo "is_house") rfl)
  d_sons_in := c.def_ 8 (d := d_sons_in) rfl
  m_sons_in := He.glo_ok X G (c.fact 8 (f := .glo "sons_in") rfl)
  d_ends_in := c.def_ 9 (d := d_ends_in) rfl
  m_ends_in := He.glo_ok X G (c.fact 9 (f := .glo "ends_in") rfl)
  d_ahead_in := c.def_ 10 (d := d_ahead_in) rfl
  m_ahead_in := He.glo_ok X G (c.fact 10 (f := .glo "ahead_in") rfl)
  d_below_in := c.def_ 11 (d := d_below_in) rfl
  m_below_in := He.glo_ok X G (c.fact 11 (f := .glo "below_in") rfl)
  d_is_plain_promise := c.def_ 12 (d := d_is_plain_promise) rfl
  m_is_plain_promise := He.glo_ok X G (c.fact 12 (f := .glo "is_plain_promise") rfl)
  d_is_end_promise := c.def_ 13 (d := d_is_end_promise) rfl
  m_is_end_promise := He.glo_ok X G (c.fact 13 (f := .glo "is_end_promise") rfl)
  d_want_house := c.def_ 14 (d := d_want_house) rfl
  m_want_house := He.glo_ok X G (c.fact 14 (f := .glo "want_house") rfl)
  d_want_moment := c.def_ 15 (d := d_want_moment) rfl
  m_want_moment := He.glo_ok X G (c.fact 15 (f := .glo "want_moment") rfl)
  d_want_promise := c.def_ 16 (d := d_want_promise) rfl
  m_want_promise := He.glo_ok X G (c.fact 16 (f := .glo "want_promise") rfl)
  d_is_promise := c.def_ 17 (d := d_is_promise) rfl
  m_is_promise := He.glo_ok X G (c.fact 17 (f := .glo "is_promise") rfl)
  d_bare_house := c.def_ 18 (d := d_bare_house) rfl
  m_bare_house := He.glo_ok X G (c.fact 18 (f := .glo "bare_house") rfl)
  d_sons := c.def_ 19 (d := d_sons) rfl
  m_sons := He.glo_ok X G (c.fact 19 (f := .glo "sons") rfl)
  d_ahead := c.def_ 20 (d := d_ahead) rfl
  m_ahead := He.glo_ok X G (c.fact 20 (f := .glo "ahead") rfl)
  d_below := c.def_ 21 (d := d_below) rfl
  m_below := He.glo_ok X G (c.fact 21 (f := .glo "below") rfl)
  d_ends := c.def_ 22 (d := d_ends) rfl
  m_ends := He.glo_ok X G (c.fact 22 (f := .glo "ends") rfl)
  d_courses := c.def_ 23 (d := d_courses) rfl
  m_courses := He.glo_ok X G (c.fact 23 (f := .glo "courses") rfl)
  d_depth := c.def_ 24 (d := d_depth) rfl
  m_depth := He.glo_ok X G (c.fact 24 (f := .glo "depth") rfl)
  d_is_plain := c.def_ 25 (d := d_is_plain) rfl
  m_is_plain := He.glo_ok X G (c.fact 25 (f := .glo "is_plain") rfl)
  d_is_at_ends := c.def_ 26 (d := d_is_at_ends) rfl
  m_is_at_ends := He.glo_ok X G (c.fact 26 (f := .glo "is_at_ends") rfl)
  d_is_ratio := c.def_ 27 (d := d_is_ratio) rfl
  m_is_ratio := He.glo_ok X G (c.fact 27 (f := .glo "is_ratio") rfl)
  d_is_plan_of := c.def_ 28 (d := d_is_plan_of) rfl
  m_is_plan_of := He.glo_ok X G (c.fact 28 (f := .glo "is_plan_of") rfl)
  d_is_plan := c.def_ 29 (d := d_is_plan) rfl
  m_is_plan := He.glo_ok X G (c.fact 29 (f := .glo "is_plan") rfl)
  d__law_pot := c.def_ 30 (d := d__law_pot) rfl
  m__law_pot := He.glo_ok X G (c.fact 30 (f := .glo "_law_pot") rfl)
  d__law_draw := c.def_ 31 (d := d__law_draw) rfl
  m__law_draw := He.glo_ok X G (c.fact 31 (f := .glo "_law_draw") rfl)
  d__law_pick := c.def_ 32 (d := d__law_pick) rfl
  m__law_pick := He.glo_ok X G (c.fact 32 (f := .glo "_law_pick") rfl)
  d__law_some := c.def_ 33 (d := d__law_some) rfl
  m__law_some := He.glo_ok X G (c.fact 33 (f := .glo "_law_some") rfl)
  d__law_gcd := c.def_ 34 (d := d__law_gcd) rfl
  m__law_gcd := He.glo_ok X G (c.fact 34 (f := .glo "_law_gcd") rfl)
  d__law_low := c.def_ 35 (d := d__law_low) rfl
  m__law_low := He.glo_ok X G (c.fact 35 (f := .glo "_law_low") rfl)
  d__law_times := c.def_ 36 (d := d__law_times) rfl
  m__law_times := He.glo_ok X G (c.fact 36 (f := .glo "_law_times") rfl)
  d__law_any_ratio := c.def_ 37 (d := d__law_any_ratio) rfl
  m__law_any_ratio := He.glo_ok X G (c.fact 37 (f := .glo "_law_any_ratio") rfl)
  d__law_is_whole := c.def_ 38 (d := d__law_is_whole) rfl
  m__law_is_whole := He.glo_ok X G (c.fact 38 (f := .glo "_law_is_whole") rfl)
  d__law_is_ratio := c.def_ 39 (d := d__law_is_ratio) rfl
  m__law_is_ratio := He.glo_ok X G (c.fact 39 (f := .glo "_law_is_ratio") rfl)
  d__law_fathers := c.def_ 40 (d := d__law_fathers) rfl
  m__law_fathers := He.glo_ok X G (c.fact 40 (f := .glo "_law_fathers") rfl)
  d__law_moments := c.def_ 41 (d := d__law_moments) rfl
  m__law_moments := He.glo_ok X G (c.fact 41 (f := .glo "_law_moments") rfl)
  d__law_balanced := c.def_ 42 (d := d__law_balanced) rfl
  m__law_balanced := He.glo_ok X G (c.fact 42 (f := .glo "_law_balanced") rfl)
  d__law_any_moments := c.def_ 43 (d := d__law_any_moments) rfl
  m__law_any_moments := He.glo_ok X G (c.fact 43 (f := .glo "_law_any_moments") rfl)
  d__law_sons := c.def_ 44 (d := d__law_sons) rfl
  m__law_sons := He.glo_ok X G (c.fact 44 (f := .glo "_law_sons") rfl)
  d__law_ends := c.def_ 45 (d := d__law_ends) rfl
  m__law_ends := He.glo_ok X G (c.fact 45 (f := .glo "_law_ends") rfl)
  d__law_way := c.def_ 46 (d := d__law_way) rfl
  m__law_way := He.glo_ok X G (c.fact 46 (f := .glo "_law_way") rfl)
  d__law_pay := c.def_ 47 (d := d__law_pay) rfl
  m__law_pay := He.glo_ok X G (c.fact 47 (f := .glo "_law_pay") rfl)
  d__law_promise := c.def_ 48 (d := d__law_promise) rfl
  m__law_promise := He.glo_ok X G (c.fact 48 (f := .glo "_law_promise") rfl)
  d__law_house := c.def_ 49 (d := d__law_house) rfl
  m__law_house := He.glo_ok X G (c.fact 49 (f := .glo "_law_house") rfl)
  d__law_any_plan := c.def_ 50 (d := d__law_any_plan) rfl
  m__law_any_plan := He.glo_ok X G (c.fact 50 (f := .glo "_law_any_plan") rfl)
  d__law_is_plan := c.def_ 51 (d := d__law_is_plan) rfl
  m__law_is_plan := He.glo_ok X G (c.fact 51 (f := .glo "_law_is_plan") rfl)
  d__law_bent := c.def_ 52 (d := d__law_bent) rfl
  m__law_bent := He.glo_ok X G (c.fact 52 (f := .glo "_law_bent") rfl)
  d__law_is_within := c.def_ 53 (d := d__law_is_within) rfl
  m__law_is_within := He.glo_ok X G (c.fact 53 (f := .glo "_law_is_within") rfl)
  d__law_are_moments := c.def_ 54 (d := d__law_are_moments) rfl
  m__law_are_moments := He.glo_ok X G (c.fact 54 (f := .glo "_law_are_moments") rfl)
  d__law_is_pay := c.def_ 55 (d := d__law_is_pay) rfl
  m__law_is_pay := He.glo_ok X G (c.fact 55 (f := .glo "_law_is_pay") rfl)
  d__law_is_promise := c.def_ 56 (d := d__law_is_promise) rfl
  m__law_is_promise := He.glo_ok X G (c.fact 56 (f := .glo "_law_is_promise") rfl)
  d__law_is_house := c.def_ 57 (d := d__law_is_house) rfl
  m__law_is_house := He.glo_ok X G (c.fact 57 (f := .glo "_law_is_house") rfl)
  d__law_put := c.def_ 58 (d := d__law_put) rfl
  m__law_put := He.glo_ok X G (c.fact 58 (f := .glo "_law_put") rfl)
  d__law_near := c.def_ 59 (d := d__law_near) rfl
  m__law_near := He.glo_ok X G (c.fact 59 (f := .glo "_law_near") rfl)
  d__law_values_right := c.def_ 60 (d := d__law_values_right) rfl
  m__law_values_right := He.glo_ok X G (c.fact 60 (f := .glo "_law_values_right") rfl)
  d__law_trees_right := c.def_ 61 (d := d__law_trees_right) rfl
  m__law_trees_right := He.glo_ok X G (c.fact 61 (f := .glo "_law_trees_right") rfl)
  d__law_plans_right := c.def_ 62 (d := d__law_plans_right) rfl
  m__law_plans_right := He.glo_ok X G (c.fact 62 (f := .glo "_law_plans_right") rfl)
  d__law_right := c.def_ 63 (d := d__law_right) rfl
  m__law_right := He.glo_ok X G (c.fact 63 (f := .glo "_law_right") rfl)
  d_law := c.def_ 64 (d := d_law) rfl
  m_law := He.glo_ok X G (c.fact 64 (f := .glo "law") rfl)
theorem facts (X : K.In h) (G : h.Ns mainGlobals mg) (hfa : mg ("law" : Str) = some (.ref f)) (c0 : Dl.obsX fa fn ex K = He.valD fn) :
    ∃ fd : FuncData, (∀ (s : Shared) (v : Value), BindsTo s fd ⟨[v], []⟩ [("script", v)]) ∧ ∀ base : Heap, K.In base → base.Ns mainGlobals mg → FnG P w K mg base 35 f fd ["script"] (spLaw K) := by
  obtain ⟨c, e⟩ := Dl.saysX c0
  have al := al_of X G c
  have bn := bn_of X G c
  have cn := cn_of X G c e
  have hdm : mg "divmod" = none := He.free_ok X G (c.fact 69 (f := .free "divmod") rfl)
  have el := hfa.symm.trans al.m_law
  cases el
  obtain ⟨fd, F⟩ := al.d_law
  have b := FunD.bindsA (ps := ["script"]) F fun _ _ _ _ _ _ us hl => match us, hl with | [_], _ => rfl
  exact ⟨fd, fun s v => b s [v] rfl, fun base _ _ => fn_law (k := 34) bn (H__law_right al bn cn hdm) (by omega) (H__law_pot al bn cn hdm) (by omega) F⟩
end
end Hz
/-! text Hzb24 -/
open PySem PySem.W PySem.Calls PyProof.Rows
theorem PySem.Challenge.cw_spreadhouse_k24_any_value_as_house_promi_holds : PySem.Challenge.rw_spreadhouse_k24_any_value_as_house_promi.Holds := by
  w_on; o_law
  refine HandSHeadRun.head_imp (r := OpenLaw.row PySem.Challenge.rw_spreadhouse_k24_any_value_as_house_promi) (q := view (OpenLaw.row PySem.Challenge.rw_spreadhouse_k24_any_value_as_house_promi).prog [0, 82]) (H := Hz.hk) (ob := Hz.ob) (M := 4000) (loose := Hz.loose) (d := HandSHeadRun.topDef (OpenLaw.row PySem.Challenge.rw_spreadhouse_k24_any_value_as_house_promi).prog 82) (kwd := []) Hz.ob_eq Hz.run
    (by kernel_rfl) (by kernel_rfl) (by kernel_rfl) (by rfl) (by first | assumption | decide +kernel) (by decide +kernel) ⟨rfl, rfl, rfl, rfl, rfl, by decide +kernel⟩ ?hw ?hc
  case hw => w_witness2
  case hc =>
    refine Dl.walk_ofG (l := PySem.Challenge.rw_spreadhouse_k24_any_value_as_house_promi) (n := 63) (k := 35) (x := "script") rfl (by decide) (by kernel_rfl) ⟨rfl, by decide, by decide⟩ ?F
    intro w mg fa h Y G hmg0
    obtain ⟨K, KX, c⟩ := Y
    have hmg : mg ("law" : PySem.Str) = some (.ref fa) := by
      have e : (HandSHeadRun.topDef (OpenLaw.row PySem.Challenge.rw_spreadhouse_k24_any_value_as_house_promi).prog 82).name = ("law" : PySem.Str) := by kernel_rfl
      rw [← e]
      exact hmg0
    obtain ⟨fd, hb, hF⟩ := Hz.facts (P := (PySem.Challenge.rw_spreadhouse_k24_any_value_as_house_promi).prog) (w := w) KX G hmg c
    exact ⟨K, fd, Hd.spLaw K, KX, hb, fun H a ns hl _ hS => ⟨a, ns, rfl, hS, Nat.le_trans hl (by decide), fun _ => rfl⟩, hF⟩
