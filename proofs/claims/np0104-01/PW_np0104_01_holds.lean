import PyProof.Rows.All
import Wide.All
import OpenK.AllK
import Wide.FinOn
import Lean
import PySem.Challenge.RW_np0104_01
set_option Elab.async false
set_option maxRecDepth 100000
set_option linter.all false
set_option genSizeOf false
set_option genInjectivity false
section
open PySem PySem.W PyProof.Rows PySem.Calls PySem.Spec
namespace Mine

noncomputable def nc : List Nat → Nat
  | [] => 0
  | c :: r => 2 ^ c * (2 * nc r + 1)
theorem pow_odd_inj : ∀ (c d x y : Nat), 2 ^ c * (2 * x + 1) = 2 ^ d * (2 * y + 1) → c = d ∧ x = y
  | 0, 0, x, y, h => by simp at h; exact ⟨rfl, by (first | decide | lia | omega)⟩
  | 0, d + 1, x, y, h => by
    rw [Nat.pow_succ, Nat.mul_comm (2 ^ d) 2, Nat.mul_assoc] at h
    generalize 2 ^ d * (2 * y + 1) = k at h
    simp at h; (first | decide | lia | omega)
  | c + 1, 0, x, y, h => by
    rw [Nat.pow_succ, Nat.mul_comm (2 ^ c) 2, Nat.mul_assoc] at h
    generalize 2 ^ c * (2 * x + 1) = k at h
    simp at h; (first | decide | lia | omega)
  | c + 1, d + 1, x, y, h => by
    have e : 2 ^ c * (2 * x + 1) = 2 ^ d * (2 * y + 1) := by
      rw [Nat.pow_succ, Nat.mul_comm (2 ^ c) 2, Nat.mul_assoc, Nat.pow_succ, Nat.mul_comm (2 ^ d) 2, Nat.mul_assoc] at h
      exact Nat.eq_of_mul_eq_mul_left (by decide) h
    obtain ⟨e1, e2⟩ := pow_odd_inj c d x y e
    exact ⟨by (first | decide | lia | omega), e2⟩
theorem nc_pos (c : Nat) (r : List Nat) : nc (c :: r) ≠ 0 := by
  show 2 ^ c * (2 * nc r + 1) ≠ 0
  have := Nat.pow_pos (n := c) (show 0 < 2 by decide)
  have h2 : 0 < 2 * nc r + 1 := by (first | decide | lia | omega)
  exact Nat.ne_of_gt (Nat.mul_pos this h2)
theorem nc_inj : ∀ {a b : List Nat}, nc a = nc b → a = b
  | [], [], _ => rfl
  | [], c :: r, h => absurd h.symm (nc_pos c r)
  | c :: r, [], h => absurd h (nc_pos c r)
  | c :: r, d :: t, h => by
    obtain ⟨e1, e2⟩ := pow_odd_inj _ _ _ _ h
    rw [e1, nc_inj e2]
noncomputable def code (x : Str) : Nat := nc x.cps.toList
theorem code_inj {x y : Str} (h : code x = code y) : x = y := by
  obtain ⟨⟨l⟩⟩ := x
  obtain ⟨⟨l'⟩⟩ := y
  have := nc_inj h
  simp at this
  rw [this]
noncomputable def eqS (x y : Str) : Bool := Nat.beq (code x) (code y)
theorem eqS_iff {x y : Str} : eqS x y = true ↔ x = y :=
  ⟨fun h => code_inj (Nat.eq_of_beq_eq_true h), fun h => by rw [h]; exact Nat.beq_refl _⟩
theorem eqS_eq (x y : Str) : eqS x y = decide (x = y) := by
  by_cases h : x = y
  · rw [eqS_iff.mpr h, decide_eq_true h]
  · rw [decide_eq_false h]
    cases e : eqS x y with
    | true => exact absurd (eqS_iff.mp e) h
    | false => rfl
theorem eqS_false {x y : Str} (h : eqS x y = false) : x ≠ y := fun e => by rw [eqS_iff.mpr e] at h; cases h

inductive V where
  | none
  | bool (b : Bool)
  | sbool (b : Bool)
  | int (i : Int)
  | sint (i : Int)
  | str (s : Str)
  | sstr (s : Str)
  | ref (k : Nat)
  | val (a : Addr)
  | bi (n : Nat)
inductive O where
  | list (vs : List V)
  | slist (vs : List V)
  | tuple (vs : List V)
  | inst (C : Addr) (fs : List (Str × V))
  | dictI (es : List (Int × V))
  | dictS (es : List (Str × V))
  | cell (v : Option V)
  | range (a b : Int)

noncomputable def biVal : Nat → Value
  | 0 => .builtin "len"
  | 1 => .type "range"
  | 2 => .builtin "abs"
  | 3 => .builtin "ord"
  | 4 => .builtin "chr"
  | 5 => .type "zip"
  | 6 => .builtin "sorted"
  | 7 => .type "list"
  | 8 => .type "reversed"
  | 9 => .builtin "max"
  | 10 => .builtin "all"
  | 11 => .builtin "any"
  | _ => .none

noncomputable abbrev Mu := List (Addr × Addr)
noncomputable def RelV (μ : Mu) : V → Value → Prop
  | .none, r => r = .none
  | .bool b, r => r = .bool b
  | .sbool b, r => r = .bool b
  | .int i, r => ∃ t, r = .int i t
  | .sint i, r => ∃ t, r = .int i t
  | .str s, r => ∃ t, r = .str s t
  | .sstr s, r => ∃ t, r = .str s t
  | .ref k, r => ∃ a d, μ[k]? = some (a, d) ∧ r = .ref a
  | .val a, r => r = .ref a
  | .bi n, r => r = biVal n

inductive All2 {α β : Type} (R : α → β → Prop) : List α → List β → Prop
  | nil : All2 R [] []
  | cons {a b l k} : R a b → All2 R l k → All2 R (a :: l) (b :: k)
namespace All2
variable {α β : Type} {R R' : α → β → Prop}
theorem mono (h : ∀ a b, R a b → R' a b) : ∀ {l : List α} {k : List β}, All2 R l k → All2 R' l k
  | _, _, .nil => .nil
  | _, _, .cons x y => .cons (h _ _ x) (y.mono h)
theorem length : ∀ {l : List α} {k : List β}, All2 R l k → l.length = k.length
  | _, _, .nil => rfl
  | _, _, .cons _ y => by rw [List.length_cons, List.length_cons, y.length]
theorem get {l : List α} {k : List β} (x : All2 R l k) : ∀ {i : Nat} {a : α}, l[i]? = some a → ∃ b, k[i]? = some b ∧ R a b := by
  induction x with
  | nil => intro i a h; simp at h
  | cons h _ ih =>
    intro i a e
    cases i with
    | zero => simp at e; subst e; exact ⟨_, rfl, h⟩
    | succ i => simp at e; obtain ⟨b, e1, e2⟩ := ih e; exact ⟨b, by simpa using e1, e2⟩
theorem get' {l : List α} {k : List β} (x : All2 R l k) : ∀ {i : Nat} {b : β}, k[i]? = some b → ∃ a, l[i]? = some a ∧ R a b := by
  induction x with
  | nil => intro i a h; simp at h
  | cons h _ ih =>
    intro i a e
    cases i with
    | zero => simp at e; subst e; exact ⟨_, rfl, h⟩
    | succ i => simp at e; obtain ⟨b, e1, e2⟩ := ih e; exact ⟨b, by simpa using e1, e2⟩
theorem append {l l' : List α} {k k' : List β} (x : All2 R l k) (y : All2 R l' k') : All2 R (l ++ l') (k ++ k') := by
  induction x with
  | nil => exact y
  | cons h _ ih => exact .cons h ih
theorem one {a : α} {b : β} (h : R a b) : All2 R [a] [b] := .cons h .nil
theorem set {l : List α} {k : List β} (x : All2 R l k) : ∀ (i : Nat) {a : α} {b : β}, R a b → All2 R (l.set i a) (k.set i b) := by
  induction x with
  | nil => intro i a b _; exact .nil
  | cons h y ih =>
    intro i a b r
    cases i with
    | zero => exact .cons r y
    | succ i => exact .cons h (ih i r)
theorem setL {l : List α} {k : List β} (x : All2 R l k) : ∀ (i : Nat) {b : β} {a : α}, k[i]? = some b → R a b → All2 R (l.set i a) k := by
  induction x with
  | nil => intro i a b _ _; exact .nil
  | cons h y ih =>
    intro i b a e r
    cases i with
    | zero => simp at e; subst e; exact .cons r y
    | succ i => simp at e; exact .cons h (ih i e r)
theorem drop {l : List α} {k : List β} (x : All2 R l k) : ∀ (n : Nat), All2 R (l.drop n) (k.drop n) := by
  induction x with
  | nil => intro n; simp; exact .nil
  | cons h y ih =>
    intro n
    cases n with
    | zero => exact .cons h y
    | succ n => simpa using ih n
theorem take {l : List α} {k : List β} (x : All2 R l k) : ∀ (n : Nat), All2 R (l.take n) (k.take n) := by
  induction x with
  | nil => intro n; simp; exact .nil
  | cons h y ih =>
    intro n
    cases n with
    | zero => exact .nil
    | succ n => simpa using .cons h (ih n)
theorem snoc_inv {l : List α} {a : α} : ∀ {k : List β}, All2 R (l ++ [a]) k → ∃ k' b, k = k' ++ [b] ∧ All2 R l k' ∧ R a b := by
  induction l with
  | nil => intro k x; cases x with | cons h y => cases y; exact ⟨[], _, rfl, .nil, h⟩
  | cons c l ih => intro k x; cases x with | cons h y => obtain ⟨k', b, rfl, e1, e2⟩ := ih y; exact ⟨_ :: k', b, rfl, .cons h e1, e2⟩
end All2

theorem RelV.ext {μ more : Mu} {v : V} {r : Value} (h : RelV μ v r) : RelV (μ ++ more) v r := by
  cases v with
  | ref k =>
    obtain ⟨a, d, e, q⟩ := h
    refine ⟨a, d, ?_, q⟩
    rw [List.getElem?_append_left (by obtain ⟨hl, _⟩ := List.getElem?_eq_some_iff.mp e; exact hl)]
    exact e
  | _ => exact h
noncomputable abbrev RelVs (μ : Mu) := All2 (RelV μ)
theorem RelVs.ext {μ more : Mu} {v : List V} {r : List Value} (h : RelVs μ v r) : RelVs (μ ++ more) v r := h.mono fun _ _ x => x.ext

noncomputable abbrev Ledger := List (Addr × Obj)
section
variable (prog : Program) (w : World)
noncomputable abbrev FieldR (R : V → Value → Prop) (f : Str × V) (e : DictEntry) : Prop := (∃ t, e.key = .str f.1 t) ∧ R f.2 e.val
noncomputable abbrev PairR {K : Type} (R : V → Value → Prop) (f : K × V) (e : K × Value) : Prop := f.1 = e.1 ∧ R f.2 e.2
noncomputable abbrev FieldRel (μ : Mu) : Str × V → DictEntry → Prop := FieldR (RelV μ)
noncomputable abbrev PairRel {K : Type} (μ : Mu) : K × V → K × Value → Prop := PairR (RelV μ)
noncomputable def RelO (R : V → Value → Prop) (v : Option V) (r : Option Value) : Prop := match v with
  | some v => (match r with
    | some r => R v r
    | none => False)
  | none => (match r with
    | some _ => False
    | none => True)
noncomputable def ObjR (R : V → Value → Prop) (led : Ledger) (p : Addr × Addr) : O → Prop
  | .list vs => p.2 = p.1 ∧ ∃ its n, (p.1, W.listOf (List.toArray its) n) ∈ led ∧ All2 R vs its
  | .slist vs => p.2 = p.1 ∧ ∃ its n, (p.1, W.listOf (List.toArray its) n) ∈ led ∧ All2 R vs its
  | .tuple vs => p.2 = p.1 ∧ ∃ its n, (p.1, ({ cls := .type "tuple", data := .seq (List.toArray its) n } : Obj)) ∈ led ∧ All2 R vs its
  | .inst C fs => p.1 ≠ p.2 ∧ ∃ es n, (p.1, instObj C p.2) ∈ led ∧ (p.2, dictOf es n) ∈ led ∧ All2 (FieldR R) fs es
  | .dictI es => p.2 = p.1 ∧ ∃ o kvs, (p.1, o) ∈ led ∧ (p.1 == sysModules) = false ∧ o.IsDictOf (PySem.intKind prog w) kvs ∧ All2 (PairR R) es kvs
  | .dictS es => p.2 = p.1 ∧ ∃ o kvs, (p.1, o) ∈ led ∧ (p.1 == sysModules) = false ∧ o.IsDictOf (PySem.strKind prog w) kvs ∧ All2 (PairR R) es kvs
  | .cell v => p.2 = p.1 ∧ ∃ o r, (p.1, o) ∈ led ∧ o.data = .cell r ∧ RelO R v r
  | .range a b => p.2 = p.1 ∧ ∃ t u v, (p.1, ({ cls := .type "range", dict := none, data := .fields #[.int a t, .int b u, .int 1 v], slots := #[] } : Obj)) ∈ led
noncomputable abbrev ObjIn (μ : Mu) (led : Ledger) (p : Addr × Addr) (o : O) : Prop := ObjR prog w (RelV μ) led p o
end
variable {prog : Program} {w : World}
theorem RelO.mono {R R' : V → Value → Prop} (h : ∀ v r, R v r → R' v r) {v : Option V} {r : Option Value} (x : RelO R v r) : RelO R' v r := by
  cases v with
  | none => exact x
  | some v => cases r with
    | none => exact x
    | some r => exact h _ _ x
theorem ObjR.mono {R R' : V → Value → Prop} {led led' : Ledger} {p : Addr × Addr} (h : ∀ v r, R v r → R' v r) (hs : ∀ q ∈ led, q.1 = p.1 ∨ q.1 = p.2 → q ∈ led') {o : O} (x : ObjR prog w R led p o) : ObjR prog w R' led' p o := by
  cases o with
  | list vs => obtain ⟨e, its, n, h1, h2⟩ := x; exact ⟨e, its, n, hs _ h1 (.inl rfl), h2.mono h⟩
  | slist vs => obtain ⟨e, its, n, h1, h2⟩ := x; exact ⟨e, its, n, hs _ h1 (.inl rfl), h2.mono h⟩
  | tuple vs => obtain ⟨e, its, n, h1, h2⟩ := x; exact ⟨e, its, n, hs _ h1 (.inl rfl), h2.mono h⟩
  | inst C fs => obtain ⟨e, es, n, h1, h2, h3⟩ := x; exact ⟨e, es, n, hs _ h1 (.inl rfl), hs _ h2 (.inr rfl), h3.mono fun _ _ y => y.imp_right (h _ _)⟩
  | dictI es => obtain ⟨e, o, k, h1, h2, h3, h4⟩ := x; exact ⟨e, o, k, hs _ h1 (.inl rfl), h2, h3, h4.mono fun _ _ y => y.imp_right (h _ _)⟩
  | dictS es => obtain ⟨e, o, k, h1, h2, h3, h4⟩ := x; exact ⟨e, o, k, hs _ h1 (.inl rfl), h2, h3, h4.mono fun _ _ y => y.imp_right (h _ _)⟩
  | cell v => obtain ⟨e, o, r, h1, h2, h3⟩ := x; exact ⟨e, o, r, hs _ h1 (.inl rfl), h2, h3.mono h⟩
  | range a b => obtain ⟨e, t, u, v, h⟩ := x; exact ⟨e, t, u, v, hs _ h (.inl rfl)⟩
theorem ObjIn.ext {μ more : Mu} {led led' : Ledger} {p : Addr × Addr} {o : O} (x : ObjIn prog w μ led p o) (hs : ∀ q ∈ led, q.1 = p.1 ∨ q.1 = p.2 → q ∈ led') : ObjIn prog w (μ ++ more) led' p o := x.mono (fun _ _ => RelV.ext) hs
theorem ObjR.mems {R : V → Value → Prop} {led : Ledger} {p : Addr × Addr} {o : O} (x : ObjR prog w R led p o) : (∃ ob, (p.1, ob) ∈ led) ∧ ∃ ob, (p.2, ob) ∈ led := by
  cases o with
  | list vs => obtain ⟨e, its, n, h1, h2⟩ := x; exact ⟨⟨_, h1⟩, _, e ▸ h1⟩
  | slist vs => obtain ⟨e, its, n, h1, h2⟩ := x; exact ⟨⟨_, h1⟩, _, e ▸ h1⟩
  | tuple vs => obtain ⟨e, its, n, h1, h2⟩ := x; exact ⟨⟨_, h1⟩, _, e ▸ h1⟩
  | inst C fs => obtain ⟨e, es, n, h1, h2, h3⟩ := x; exact ⟨⟨_, h1⟩, _, h2⟩
  | dictI es => obtain ⟨e, o, k, h1, h2⟩ := x; exact ⟨⟨_, h1⟩, _, e ▸ h1⟩
  | dictS es => obtain ⟨e, o, k, h1, h2⟩ := x; exact ⟨⟨_, h1⟩, _, e ▸ h1⟩
  | cell v => obtain ⟨e, o, r, h1, h2⟩ := x; exact ⟨⟨_, h1⟩, _, e ▸ h1⟩
  | range a b => obtain ⟨e, t, u, v, h⟩ := x; exact ⟨⟨_, h⟩, _, e ▸ h⟩

noncomputable def apartP (p q : Addr × Addr) : Prop := p.1 ≠ q.1 ∧ p.1 ≠ q.2 ∧ p.2 ≠ q.1 ∧ p.2 ≠ q.2
theorem apartP.symm {p q : Addr × Addr} (h : apartP p q) : apartP q p := ⟨h.1.symm, h.2.2.1.symm, h.2.1.symm, h.2.2.2.symm⟩

structure St (prog : Program) (w : World) (h₀ : Heap) (L : Addr) (μ : Mu) (H : List O) (m : Str → Option Value) (rest : Ledger) (h : Heap) : Prop where
  fr : Fr h₀ L h m
  ap : μ.Pairwise apartP
  ex : ∃ led, News h₀ L h (led ++ rest) ∧ ((led ++ rest).map (·.1)).Nodup ∧ All2 (fun p o => ObjIn prog w μ led p o) μ H
section
variable {h₀ h h' : Heap} {L : Addr} {μ : Mu} {H : List O} {m m' : Str → Option Value} {rest : Ledger}
theorem St.len (S : St prog w h₀ L μ H m rest h) : μ.length = H.length := let ⟨_, _, _, a⟩ := S.ex; a.length
theorem St.obj (S : St prog w h₀ L μ H m rest h) {k : Nat} {o : O} (e : H[k]? = some o) :
    ∃ p led, μ[k]? = some p ∧ News h₀ L h (led ++ rest) ∧ ((led ++ rest).map (·.1)).Nodup ∧ All2 (fun p o => ObjIn prog w μ led p o) μ H ∧ ObjIn prog w μ led p o := by
  obtain ⟨led, N, nd, a⟩ := S.ex
  obtain ⟨p, e1, e2⟩ := a.get' e
  exact ⟨p, led, e1, N, nd, a, e2⟩
theorem St.reframe (S : St prog w h₀ L μ H m rest h) (F : Fr h₀ L h' m') (hN : ∀ news, News h₀ L h news → News h₀ L h' news) : St prog w h₀ L μ H m' rest h' := by
  obtain ⟨led, N, nd, a⟩ := S.ex
  exact ⟨F, S.ap, led, hN _ N, nd, a⟩
theorem mem_lt {l : Ledger} {a : Addr} (h : ∀ p ∈ l, p.1 < a) {b : Addr} {o : Obj} (e : (b, o) ∈ l) : b < a := h _ e

theorem St.growG (S : St prog w h₀ L μ H m rest h) {led new : Ledger} (nd : ((led ++ rest).map (·.1)).Nodup) (al : All2 (fun p o => ObjIn prog w μ led p o) μ H)
    {p : Addr × Addr} {o : O} (F : Fr h₀ L h' m') (N : News h₀ L h' (new ++ (led ++ rest))) (ndn : (new.map (·.1)).Nodup) (lt : ∀ q ∈ led ++ rest, ∀ z ∈ new, q.1 < z.1) (l1 : ∀ q ∈ led ++ rest, q.1 < p.1) (l2 : ∀ q ∈ led ++ rest, q.1 < p.2)
    (ho : ObjIn prog w (μ ++ [p]) (new ++ led) p o) : St prog w h₀ L (μ ++ [p]) (H ++ [o]) m' rest h' := by
  refine ⟨F, ?_, new ++ led, (List.append_assoc ..).symm ▸ N, ?_, (al.mono fun p o x => x.ext fun q hq _ => List.mem_append_right _ hq).append (.one ho)⟩
  · rw [List.pairwise_append]
    refine ⟨S.ap, List.pairwise_singleton _ _, fun q hq z hz => ?_⟩
    rw [List.mem_singleton.mp hz]
    obtain ⟨i, hi⟩ := List.mem_iff_getElem?.mp hq
    obtain ⟨o', _, x⟩ := al.get hi
    obtain ⟨⟨o1, m1⟩, o2, m2⟩ := x.mems
    have m1 := List.mem_append_left rest m1
    have m2 := List.mem_append_left rest m2
    exact ⟨Nat.ne_of_lt (l1 _ m1), Nat.ne_of_lt (l2 _ m1), Nat.ne_of_lt (l1 _ m2), Nat.ne_of_lt (l2 _ m2)⟩
  · rw [List.append_assoc, List.map_append, List.nodup_append]
    refine ⟨ndn, nd, fun a ha b hb e => ?_⟩
    obtain ⟨z, hz, rfl⟩ := List.mem_map.mp ha
    obtain ⟨q, hq, rfl⟩ := List.mem_map.mp hb
    exact absurd e (Nat.ne_of_gt (lt q hq z hz))
theorem St.grow (S : St prog w h₀ L μ H m rest h) {led : Ledger} (nd : ((led ++ rest).map (·.1)).Nodup) (al : All2 (fun p o => ObjIn prog w μ led p o) μ H)
    {a : Addr} {ob : Obj} {o : O} (F : Fr h₀ L h' m') (N : News h₀ L h' ((a, ob) :: (led ++ rest))) (lt : ∀ p ∈ led ++ rest, p.1 < a)
    (ho : ObjIn prog w (μ ++ [(a, a)]) ((a, ob) :: led) (a, a) o) : St prog w h₀ L (μ ++ [(a, a)]) (H ++ [o]) m' rest h' :=
  S.growG (new := [(a, ob)]) nd al F N (List.pairwise_singleton _ _) (fun q hq z hz => List.mem_singleton.mp hz ▸ lt q hq) lt lt ho
theorem St.grow2 (S : St prog w h₀ L μ H m rest h) {led : Ledger} (nd : ((led ++ rest).map (·.1)).Nodup) (al : All2 (fun p o => ObjIn prog w μ led p o) μ H)
    {a d : Addr} {ob od : Obj} {o : O} (F : Fr h₀ L h' m') (N : News h₀ L h' ((a, ob) :: (d, od) :: (led ++ rest))) (lt : ∀ p ∈ led ++ rest, p.1 < d) (lt2 : d < a)
    (ho : ObjIn prog w (μ ++ [(a, d)]) ((a, ob) :: (d, od) :: led) (a, d) o) : St prog w h₀ L (μ ++ [(a, d)]) (H ++ [o]) m' rest h' :=
  S.growG (new := [(a, ob), (d, od)]) nd al F N (List.nodup_cons.mpr ⟨fun h => absurd (List.mem_singleton.mp h) (Nat.ne_of_gt lt2), List.pairwise_singleton _ _⟩)
    (fun q hq z hz => (List.mem_cons.mp hz).elim (fun e => e ▸ Nat.lt_trans (lt q hq) lt2) fun hz => List.mem_singleton.mp hz ▸ lt q hq) (fun q hq => Nat.lt_trans (lt q hq) lt2) lt ho

noncomputable def setA (l : Ledger) (a : Addr) (o : Obj) : Ledger := l.map fun p => if p.1 = a then (a, o) else p
theorem setA_same {l : Ledger} {a : Addr} (h : ∀ p ∈ l, p.1 ≠ a) (o : Obj) : setA l a o = l := by
  unfold setA
  induction l with
  | nil => rfl
  | cons p r ih =>
    rw [List.map_cons, if_neg (h p (.head _)), ih fun q hq => h q (.tail _ hq)]
theorem setA_keys (l : Ledger) (a : Addr) (o : Obj) : (setA l a o).map (·.1) = l.map (·.1) := by
  unfold setA
  rw [List.map_map]
  refine List.map_congr_left fun p _ => ?_
  show (if p.1 = a then (a, o) else p).1 = p.1
  split
  · rename_i e; exact e.symm
  · rfl
theorem setA_append (l k : Ledger) (a : Addr) (o : Obj) : setA (l ++ k) a o = setA l a o ++ setA k a o := List.map_append ..
theorem setA_mem {l : Ledger} {a : Addr} {o ob : Obj} (h : (a, ob) ∈ l) : (a, o) ∈ setA l a o := List.mem_map.mpr ⟨_, h, by simp⟩
theorem setA_other {l : Ledger} {a : Addr} {o : Obj} {q : Addr × Obj} (h : q ∈ l) (ne : q.1 ≠ a) : q ∈ setA l a o := List.mem_map.mpr ⟨_, h, by simp [ne]⟩
theorem updF_of {a : Addr} {o : Obj} : ∀ {l : Ledger}, (a, o) ∈ l → (l.map (·.1)).Nodup → UpdF a o l (setA l a)
  | p :: r, hm, nd => by
    rw [List.map_cons, List.nodup_cons] at nd
    rcases List.mem_cons.mp hm with rfl | hm
    · have ne : ∀ q ∈ r, q.1 ≠ a := fun q hq e => nd.1 (e ▸ List.mem_map_of_mem (f := (·.1)) hq)
      have : setA ((a, o) :: r) a = fun o' => (a, o') :: r := by
        funext o'
        show (if a = a then (a, o') else (a, o)) :: setA r a o' = _
        rw [if_pos rfl, setA_same ne]
      rw [this]
      exact .head ne
    · have ne : p.1 ≠ a := fun e => nd.1 (e ▸ List.mem_map_of_mem (f := (·.1)) hm)
      have : setA (p :: r) a = fun o' => p :: setA r a o' := by
        funext o'
        show (if p.1 = a then (a, o') else p) :: setA r a o' = _
        rw [if_neg ne]
      rw [this]
      exact .tail ne (updF_of hm nd.2)
theorem upd_of {a : Addr} {o o' : Obj} : ∀ {l : Ledger}, (a, o) ∈ l → (l.map (·.1)).Nodup → Upd a o o' l (setA l a o')
  | p :: r, hm, nd => by
    rw [List.map_cons, List.nodup_cons] at nd
    rcases List.mem_cons.mp hm with rfl | hm
    · have ne : ∀ q ∈ r, q.1 ≠ a := fun q hq e => nd.1 (e ▸ List.mem_map_of_mem (f := (·.1)) hq)
      have : setA ((a, o) :: r) a o' = (a, o') :: r := by
        show (if a = a then (a, o') else (a, o)) :: setA r a o' = _
        rw [if_pos rfl, setA_same ne]
      rw [this]
      exact .head ne
    · have ne : p.1 ≠ a := fun e => nd.1 (e ▸ List.mem_map_of_mem (f := (·.1)) hm)
      have : setA (p :: r) a o' = p :: setA r a o' := by
        show (if p.1 = a then (a, o') else p) :: setA r a o' = _
        rw [if_neg ne]
      rw [this]
      exact .tail ne (upd_of hm nd.2)
theorem pair_ne {μ : Mu} (ap : μ.Pairwise apartP) {i j : Nat} {p q : Addr × Addr} (hi : μ[i]? = some p) (hj : μ[j]? = some q) (ne : i ≠ j) : apartP p q := by
  obtain ⟨li, ei⟩ := List.getElem?_eq_some_iff.mp hi
  obtain ⟨lj, ej⟩ := List.getElem?_eq_some_iff.mp hj
  rw [List.pairwise_iff_getElem] at ap
  rcases Nat.lt_or_gt_of_ne ne with lt | lt
  · have := ap i j li lj lt; rw [ei, ej] at this; exact this
  · have := ap j i lj li lt; rw [ei, ej] at this; exact this.symm
theorem all2_of {α β : Type} {R : α → β → Prop} : ∀ {l : List α} {k : List β}, l.length = k.length → (∀ (i : Nat) (a : α) (b : β), l[i]? = some a → k[i]? = some b → R a b) → All2 R l k
  | [], [], _, _ => .nil
  | [], _ :: _, e, _ => by cases e
  | _ :: _, [], e, _ => by cases e
  | a :: l, b :: k, e, h => .cons (h 0 a b rfl rfl) (all2_of (by simpa using e) fun i x y e1 e2 => h (i + 1) x y (by simpa using e1) (by simpa using e2))
theorem St.turn (S : St prog w h₀ L μ H m rest h) {led : Ledger} (nd : ((led ++ rest).map (·.1)).Nodup) (al : All2 (fun p o => ObjIn prog w μ led p o) μ H)
    {k : Nat} {p : Addr × Addr} {b : Addr} {ob ob' : Obj} {o' : O} (hk : μ[k]? = some p) (hb : b = p.1 ∨ b = p.2) (hm : (b, ob) ∈ led) (F : Fr h₀ L h' m') (N : News h₀ L h' (setA (led ++ rest) b ob'))
    (ho : ObjIn prog w μ (setA led b ob') p o') : St prog w h₀ L μ (H.set k o') m' rest h' := by
  have ne : ∀ q ∈ rest, q.1 ≠ b := fun q hq e => by
    rw [List.map_append, List.nodup_append] at nd
    exact nd.2.2 b (List.mem_map_of_mem (f := (·.1)) hm) q.1 (List.mem_map_of_mem (f := (·.1)) hq) e.symm
  refine ⟨F, S.ap, setA led b ob', ?_, ?_, ?_⟩
  · rw [setA_append, setA_same ne] at N; exact N
  · rw [List.map_append, setA_keys, ← List.map_append]; exact nd
  · refine all2_of (by rw [List.length_set, al.length]) fun i q o hi hj => ?_
    by_cases e : k = i
    · subst e
      rw [hk] at hi
      cases hi
      rw [List.getElem?_set_self (by obtain ⟨hl, _⟩ := List.getElem?_eq_some_iff.mp hk; rw [← al.length]; exact hl)] at hj
      cases hj
      exact ho
    · rw [List.getElem?_set_ne e] at hj
      obtain ⟨o1, e1, x⟩ := al.get hi
      rw [hj] at e1
      cases e1
      have ap := pair_ne S.ap hi hk (fun z => e z.symm)
      have := x.ext (more := []) (led' := setA led b ob') fun z hz hz' => setA_other hz ?_
      · rwa [List.append_nil] at this
      · rcases hz' with z1 | z1 <;> rcases hb with b1 | b1 <;> rw [z1, b1]
        · exact ap.1
        · exact ap.2.1
        · exact ap.2.2.1
        · exact ap.2.2.2
end
end Mine
end
section
open PySem PySem.W PyProof.Rows PySem.Calls PySem.Spec
namespace Mine

noncomputable def lkS {α : Type} : List (Str × α) → Nat → Option α
  | [], _ => none
  | (k, a) :: r, n => match Nat.beq (code k) n with
    | true => some a
    | false => lkS r n
theorem lkS_mem {α : Type} : ∀ {l : List (Str × α)} {x : Str} {a : α}, lkS l (code x) = some a → (x, a) ∈ l
  | [], _, _, h => by cases h
  | (k, b) :: r, x, a, h => by
    unfold lkS at h
    cases e : Nat.beq (code k) (code x) with
    | true =>
      rw [e] at h; cases h
      rw [code_inj (Nat.eq_of_beq_eq_true e)]; exact .head _
    | false => rw [e] at h; exact .tail _ (lkS_mem h)
theorem lkS_lookup : ∀ (l : List (Str × NameKind)) (x : Str), lkS l (code x) = l.lookup x
  | [], _ => rfl
  | (k, b) :: r, x => by
    unfold lkS
    rw [List.lookup_cons]
    by_cases h : x = k
    · subst h
      rw [show Nat.beq (code x) (code x) = true from Nat.beq_refl _]
      simp
    · have : Nat.beq (code k) (code x) = false := by
        cases e : Nat.beq (code k) (code x) with
        | true => exact absurd (code_inj (Nat.eq_of_beq_eq_true e)).symm h
        | false => rfl
      rw [this, beq_eq_false_iff_ne.mpr h]
      exact lkS_lookup r x
noncomputable def putS {α : Type} : List (Str × α) → Str → α → List (Str × α)
  | [], x, a => [(x, a)]
  | (k, b) :: r, x, a => match Nat.beq (code k) (code x) with
    | true => (k, a) :: r
    | false => (k, b) :: putS r x a
theorem lkS_putS {α : Type} : ∀ (l : List (Str × α)) (x : Str) (a : α) (n : Nat), lkS (putS l x a) n = if code x = n then some a else lkS l n
  | [], x, a, n => by
    show (match Nat.beq (code x) n with | true => some a | false => none) = _
    by_cases h : code x = n
    · subst h; rw [Nat.beq_refl, if_pos rfl]
    · rw [if_neg h]
      cases e : Nat.beq (code x) n with
      | true => exact absurd (Nat.eq_of_beq_eq_true e) h
      | false => rfl
  | (k, b) :: r, x, a, n => by
    unfold putS
    cases e : Nat.beq (code k) (code x) with
    | true =>
      have e' := Nat.eq_of_beq_eq_true e
      show (match Nat.beq (code k) n with | true => some a | false => lkS r n) = if code x = n then some a else (match Nat.beq (code k) n with | true => some b | false => lkS r n)
      rw [e']
      by_cases h : code x = n
      · subst h; rw [Nat.beq_refl, if_pos rfl]
      · rw [if_neg h]
        cases e2 : Nat.beq (code x) n with
        | true => exact absurd (Nat.eq_of_beq_eq_true e2) h
        | false => rfl
    | false =>
      show (match Nat.beq (code k) n with | true => some b | false => lkS (putS r x a) n) = if code x = n then some a else (match Nat.beq (code k) n with | true => some b | false => lkS r n)
      rw [lkS_putS r x a n]
      cases e2 : Nat.beq (code k) n with
      | true =>
        have e3 := Nat.eq_of_beq_eq_true e2
        have ne : ¬ code x = n := fun z => by
          rw [e3, z, Nat.beq_refl] at e
          cases e
        exact (if_neg ne).symm
      | false => rfl

structure Sg where
  H : List O
  ds : List Bool
  cs : List Prop
noncomputable def Sg.ok (σ : Sg) : Prop := ∀ c ∈ σ.cs, c
noncomputable def Sg.le (σ σ' : Sg) : Prop := ∃ more, σ'.cs = more ++ σ.cs
theorem Sg.le.refl (σ : Sg) : σ.le σ := ⟨[], rfl⟩
theorem Sg.le.trans {a b c : Sg} (x : a.le b) (y : b.le c) : a.le c := by
  obtain ⟨m, e⟩ := x
  obtain ⟨n, f⟩ := y
  exact ⟨n ++ m, by rw [f, e, List.append_assoc]⟩
theorem Sg.le.ok {a b : Sg} (x : a.le b) (h : b.ok) : a.ok := by
  obtain ⟨m, e⟩ := x
  intro c hc
  exact h c (by rw [e]; exact List.mem_append_right _ hc)
noncomputable def Sg.withH (σ : Sg) (H : List O) : Sg := ⟨H, σ.ds, σ.cs⟩
theorem Sg.le_withH (σ : Sg) (H : List O) : σ.le (σ.withH H) := ⟨[], rfl⟩

noncomputable def bnd {α β : Type} (x : Option (α × Sg)) (f : α → Sg → Option (β × Sg)) : Option (β × Sg) := match x with
  | some (a, s) => f a s
  | none => none
theorem bnd_some {α β : Type} {x : Option (α × Sg)} {f : α → Sg → Option (β × Sg)} {r : β × Sg} (h : bnd x f = some r) : ∃ a s, x = some (a, s) ∧ f a s = some r := by
  unfold bnd at h
  split at h
  · exact ⟨_, _, rfl, h⟩
  · cases h

structure Fn where
  qual : Str
  params : List Str
  dflt : List V
  body : List Stmt
  scope : Scope
structure Cl where
  init : Option Addr
  meth : List (Str × Addr)
  attrs : List Str
structure Tabs where
  gl : List (Str × V)
  fn : List (Nat × Fn)
  cl : List (Nat × Cl)
  orc : Nat → List V → Sg → Option (V × Sg)
noncomputable def lkN {α : Type} : List (Nat × α) → Nat → Option α
  | [], _ => none
  | (k, a) :: r, n => match Nat.beq k n with
    | true => some a
    | false => lkN r n
theorem lkN_mem {α : Type} : ∀ {l : List (Nat × α)} {x : Nat} {a : α}, lkN l x = some a → (x, a) ∈ l
  | [], _, _, h => by cases h
  | (k, b) :: r, x, a, h => by
    unfold lkN at h
    cases e : Nat.beq k x with
    | true =>
      rw [e] at h; cases h
      rw [Nat.eq_of_beq_eq_true e]; exact .head _
    | false => rw [e] at h; exact .tail _ (lkN_mem h)

structure NE where
  names : List (Str × NameKind)
  locs : List (Str × V)
  cells : List (Str × Nat)
inductive Fl where
  | next | brk | cont
  | ret (v : V)
structure Rec where
  ev : NE → PySem.Expr → Sg → Option (V × Sg)
  tr : NE → PySem.Expr → Sg → Option (Bool × Sg)
  call : V → List V → Sg → Option (V × Sg)
  exs : NE → List Stmt → Sg → Option ((Fl × List (Str × V)) × Sg)

structure Wd where
  prog : Program
  w : World
  K : Frag
  p : Program
  loose : List Str
  mean : ExcName → Option Value
  mg : Str → Option Value
  mb : Str → Option Value
  ex : Ledger
structure Fx where
  cn : Str
  cs : Scope
  L : Addr
  fa : Addr
  ccd : Value
  cl : List (Str × Addr)
  outer : List Env
  gd : Option (List Code)
  base : Heap
  A₀ : Around
  h₀ : Heap
noncomputable abbrev Fx.env (f : Fx) : Env := envX f.cn f.cs f.L f.fa f.ccd f.cl
noncomputable abbrev Fx.A (f : Fx) (dp un : Nat) : Around := ktrTop dp un f.gd f.cn f.cs f.L f.fa f.ccd f.cl f.outer
structure Fx.Ok (D : Wd) (f : Fx) : Prop where
  B : Below f.A₀ f.base f.outer f.h₀
  X : D.K.In f.h₀
  T : Top D.p D.loose D.mean D.mg D.mb f.h₀
  hk : f.cs.kind = .function
  M : ∀ p ∈ D.ex, f.h₀.get? p.1 = some p.2
noncomputable abbrev StD (D : Wd) (fx : Fx) (μ : Mu) (H : List O) (m : Str → Option Value) (rest : Ledger) (h : Heap) : Prop := St D.prog D.w fx.h₀ fx.L μ H m rest h
noncomputable abbrev NoE : Value → Shared → Prop := fun _ _ => False
noncomputable def Room (n dp un : Nat) : Prop := dp + n < recursionLimit ∧ un + 8 * n < cLine
theorem Room.le {n n' dp un : Nat} (h : n ≤ n') (r : Room n' dp un) : Room n dp un := ⟨Nat.lt_of_le_of_lt (Nat.add_le_add_left h _) r.1, Nat.lt_of_le_of_lt (Nat.add_le_add_left (Nat.mul_le_mul_left 8 h) _) r.2⟩
theorem Room.down {n dp un k : Nat} (h : k ≤ 8) (r : Room (n + 1) dp un) : Room n (dp + 1) (un + k) := ⟨by have := r.1; (first | decide | lia | omega), by have := r.2; (first | decide | lia | omega)⟩
theorem Room.zero {n dp un : Nat} (r : Room n dp un) : Room 0 dp un := r.le (Nat.zero_le _)
noncomputable def LocsOk (μ : Mu) (m : Str → Option Value) (locs : List (Str × V)) : Prop := ∀ x v, lkS locs (code x) = some v → ∃ r, m x = some r ∧ RelV μ v r
noncomputable def CellsOk (μ : Mu) (ec : List (Str × Addr)) (cells : List (Str × Nat)) : Prop := ∀ x k, lkS cells (code x) = some k → ∃ p, μ[k]? = some p ∧ ec.lookup x = some p.1
structure EnvOk (fx : Fx) (e : Env) (ne : NE) (μ : Mu) (m : Str → Option Value) (rest : Ledger) : Prop where
  kind : e.scope.kind = .function
  glob : e.globals = mainGlobals
  blt : e.builtins = builtinsNs
  nam : e.scope.names = ne.names
  loc : (e.locals = fx.L ∧ LocsOk μ m ne.locs) ∨ ∃ oC mC, (e.locals, oC) ∈ rest ∧ LCg.NsObj oC mC ∧ LocsOk μ mC ne.locs
  cel : CellsOk μ e.cells ne.cells
theorem LocsOk.ext {μ more : Mu} {m : Str → Option Value} {locs : List (Str × V)} (h : LocsOk μ m locs) : LocsOk (μ ++ more) m locs := fun x v e => let ⟨r, h1, h2⟩ := h x v e; ⟨r, h1, h2.ext⟩
theorem mu_ext {μ more : Mu} {k : Nat} {p : Addr × Addr} (h : μ[k]? = some p) : (μ ++ more)[k]? = some p := by
  rw [List.getElem?_append_left (by obtain ⟨hl, _⟩ := List.getElem?_eq_some_iff.mp h; exact hl)]; exact h
theorem CellsOk.ext {μ more : Mu} {ec : List (Str × Addr)} {cells : List (Str × Nat)} (h : CellsOk μ ec cells) : CellsOk (μ ++ more) ec cells := fun x k e => let ⟨p, h1, h2⟩ := h x k e; ⟨p, mu_ext h1, h2⟩
theorem EnvOk.ext {fx : Fx} {e : Env} {ne : NE} {μ more : Mu} {m : Str → Option Value} {rest : Ledger} (x : EnvOk fx e ne μ m rest) : EnvOk fx e ne (μ ++ more) m rest :=
  ⟨x.kind, x.glob, x.blt, x.nam, x.loc.imp (fun h => ⟨h.1, h.2.ext⟩) fun ⟨a, b, h1, h2, h3⟩ => ⟨a, b, h1, h2, h3.ext⟩, x.cel.ext⟩

noncomputable def PostG {α : Type} (D : Wd) (fx : Fx) (H' : List O) (rel : Mu → α → Prop) (μ : Mu) (m : Str → Option Value) (rest : Ledger) (s : Shared) (Q : α → Shared → Prop) : Prop :=
  ∀ (r : α) (more : Mu) (h' : Heap) (tk' : Nat), rel (μ ++ more) r → StD D fx (μ ++ more) H' m rest h' → Q r { s with heap := h', toks := tk' }
noncomputable abbrev relV (v : V) : Mu → Value → Prop := fun μ r => RelV μ v r
noncomputable abbrev relVs (vs : List V) : Mu → List Value → Prop := fun μ rs => RelVs μ vs rs
noncomputable abbrev relB (b : Bool) : Mu → Bool → Prop := fun _ c => c = b
theorem PostG.next {α : Type} {D : Wd} {fx : Fx} {H' : List O} {rel : Mu → α → Prop} {μ more : Mu} {m : Str → Option Value} {rest : Ledger} {s : Shared} {Q : α → Shared → Prop} {h : Heap} {tk : Nat}
    (P : PostG D fx H' rel μ m rest s Q) : PostG D fx H' rel (μ ++ more) m rest { s with heap := h, toks := tk } Q := by
  intro r more' h' tk' hr S
  rw [List.append_assoc] at hr S
  exact P r (more ++ more') h' tk' hr S
theorem PostG.here {α : Type} {D : Wd} {fx : Fx} {H' : List O} {rel : Mu → α → Prop} {μ : Mu} {m : Str → Option Value} {rest : Ledger} {s : Shared} {Q : α → Shared → Prop}
    (P : PostG D fx H' rel μ m rest s Q) {r : α} (tk : Nat) (hr : rel μ r) (S : StD D fx μ H' m rest s.heap) : Q r { s with toks := tk } := by
  have := P r [] s.heap tk (by rw [List.append_nil]; exact hr) (by rw [List.append_nil]; exact S)
  exact this
theorem PostG.here' {α : Type} {D : Wd} {fx : Fx} {H' : List O} {rel : Mu → α → Prop} {μ : Mu} {m : Str → Option Value} {rest : Ledger} {s : Shared} {Q : α → Shared → Prop}
    (P : PostG D fx H' rel μ m rest s Q) {r : α} (hr : rel μ r) (S : StD D fx μ H' m rest s.heap) : Q r s := P.here s.toks hr S
theorem PostG.at {α : Type} {D : Wd} {fx : Fx} {H' : List O} {rel : Mu → α → Prop} {μ : Mu} {m : Str → Option Value} {rest : Ledger} {s : Shared} {Q : α → Shared → Prop}
    (P : PostG D fx H' rel μ m rest s Q) {r : α} {h' : Heap} (tk : Nat) (hr : rel μ r) (S : StD D fx μ H' m rest h') : Q r { s with heap := h', toks := tk } :=
  P r [] h' tk (by rw [List.append_nil]; exact hr) (by rw [List.append_nil]; exact S)

noncomputable def EvT (D : Wd) (n : Nat) (ne : NE) (e : PySem.Expr) (H : List O) (v : V) (H' : List O) : Prop :=
  ∀ (fx : Fx) (env : Env) (dp un : Nat) (μ : Mu) (m : Str → Option Value) (rest : Ledger) (s : Shared) (Q : Value → Shared → Prop), fx.Ok D → Room n dp un → EnvOk fx env ne μ m rest → StD D fx μ H m rest s.heap →
    PostG D fx H' (relV v) μ m rest s Q → wpAny (model D.prog D.w) (fx.A dp un) (eval e env) Q NoE s
noncomputable def TrT (D : Wd) (n : Nat) (ne : NE) (e : PySem.Expr) (H : List O) (b : Bool) (H' : List O) : Prop :=
  ∀ (fx : Fx) (env : Env) (dp un : Nat) (μ : Mu) (m : Str → Option Value) (rest : Ledger) (s : Shared) (Q : Bool → Shared → Prop), fx.Ok D → Room n dp un → EnvOk fx env ne μ m rest → StD D fx μ H m rest s.heap →
    PostG D fx H' (relB b) μ m rest s Q → wpAny (model D.prog D.w) (fx.A dp un) (isTrue e env (eval e env)) Q NoE s
noncomputable def CodeT (D : Wd) (n : Nat) (f : V) (vs : List V) (H : List O) (v : V) (H' : List O) : Prop :=
  ∀ (fx : Fx) (dp un : Nat) (μ : Mu) (m : Str → Option Value) (rest : Ledger) (s : Shared) (R : Result → Shared → Prop) (fr : Value) (rs : List Value), fx.Ok D → Room n dp un → StD D fx μ H m rest s.heap →
    RelV μ f fr → RelVs μ vs rs → PostG D fx H' (relV v) μ m rest s (fun r s' => R (.ok (.ret r)) s') → codeAny (model D.prog D.w) (fx.A dp un) (.call fr ⟨rs, []⟩) R s
theorem CodeT.call {D : Wd} {n : Nat} {f : V} {vs : List V} {H : List O} {v : V} {H' : List O} (h : CodeT D n f vs H v H') {fx : Fx} {dp un : Nat} {μ : Mu} {m : Str → Option Value} {rest : Ledger} {s : Shared} {Q : Value → Shared → Prop} {fr : Value} {rs : List Value}
    (ok : fx.Ok D) (room : Room n dp un) (S : StD D fx μ H m rest s.heap) (hf : RelV μ f fr) (hv : RelVs μ vs rs) (P : PostG D fx H' (relV v) μ m rest s Q) : wpAny (model D.prog D.w) (fx.A dp un) (PySem.call fr rs) Q NoE s :=
  wpAny_call (h fx dp un μ m rest s _ fr rs ok room S hf hv P)
noncomputable def RelF (μ : Mu) : Fl → Flow → Prop
  | .next, f => f = .next
  | .brk, f => f = .brk
  | .cont, f => f = .cont
  | .ret v, f => ∃ r, f = .ret r ∧ RelV μ v r
noncomputable def ExT (D : Wd) (n : Nat) (ne : NE) (ss : List Stmt) (H : List O) (fl : Fl) (locs' : List (Str × V)) (H' : List O) : Prop :=
  ∀ (fx : Fx) (dp un : Nat) (μ : Mu) (m : Str → Option Value) (rest : Ledger) (s : Shared) (Q : Flow → Shared → Prop), fx.Ok D → Room n dp un → fx.cs.names = ne.names → LocsOk μ m ne.locs → CellsOk μ fx.cl ne.cells → StD D fx μ H m rest s.heap →
    (∀ (f : Flow) (more : Mu) (h' : Heap) (tk' : Nat) (m' : Str → Option Value), RelF (μ ++ more) fl f → LocsOk (μ ++ more) m' locs' → StD D fx (μ ++ more) H' m' rest h' → Q f { s with heap := h', toks := tk' }) →
    wpAny (model D.prog D.w) (fx.A dp un) (execs ss fx.env) Q NoE s
structure RecOk (D : Wd) (n : Nat) (r : Rec) : Prop where
  ev : ∀ ne e σ v σ', r.ev ne e σ = some (v, σ') → σ.le σ' ∧ (σ'.ok → EvT D n ne e σ.H v σ'.H)
  tr : ∀ ne e σ v σ', r.tr ne e σ = some (v, σ') → σ.le σ' ∧ (σ'.ok → TrT D n ne e σ.H v σ'.H)
  call : ∀ f vs σ v σ', r.call f vs σ = some (v, σ') → σ.le σ' ∧ (σ'.ok → CodeT D n f vs σ.H v σ'.H)
  exs : ∀ ne ss σ fl locs' σ', r.exs ne ss σ = some ((fl, locs'), σ') → σ.le σ' ∧ (σ'.ok → ExT D n ne ss σ.H fl locs' σ'.H)
theorem EnvOk.ofFn {fx : Fx} {ne : NE} {μ : Mu} {m : Str → Option Value} {rest : Ledger} {D : Wd} (ok : fx.Ok D) (h1 : fx.cs.names = ne.names) (h2 : LocsOk μ m ne.locs) (h3 : CellsOk μ fx.cl ne.cells) : EnvOk fx fx.env ne μ m rest :=
  ⟨ok.hk, rfl, rfl, h1, .inl ⟨rfl, h2⟩, h3⟩
end Mine
end
section
open PySem PySem.W PyProof.Rows PySem.Calls PySem.Spec
namespace Mine

noncomputable def small (i : Int) : Bool := decide (-1000000000 ≤ i) && decide (i ≤ 1000000000)
theorem small_bits {i : Int} (h : small i = true) : Builtin.Int.intBits i ≤ 64 := by
  unfold small at h
  rw [Bool.and_eq_true, decide_eq_true_eq, decide_eq_true_eq] at h
  exact intBits_le_64 (by (first | decide | lia | omega)) (by (first | decide | lia | omega))
theorem noneNe {α : Type} {x : α} {P : Prop} (e : none = some x) : P := nomatch e
noncomputable def onT {α : Type} (b : Bool) (x : Option α) : Option α := match b with
  | true => x
  | false => none
noncomputable def onF {α : Type} (b : Bool) (x : Option α) : Option α := match b with
  | true => none
  | false => x
noncomputable def ob {α β : Type} (x : Option α) (f : α → Option β) : Option β := match x with
  | some a => f a
  | none => none
theorem onT_ {α : Type} {b : Bool} {x : Option α} {r : α} {P : Prop} (e : onT b x = some r) (k : b = true → x = some r → P) : P := by
  cases b
  · exact noneNe e
  · exact k rfl e
theorem onF_ {α : Type} {b : Bool} {x : Option α} {r : α} {P : Prop} (e : onF b x = some r) (k : b = false → x = some r → P) : P := by
  cases b
  · exact k rfl e
  · exact noneNe e
theorem ob_ {α β : Type} {x : Option α} {f : α → Option β} {r : β} {P : Prop} (e : ob x f = some r) (k : ∀ a, x = some a → f a = some r → P) : P := by
  cases x
  · exact noneNe e
  · exact k _ rfl e
theorem inj1 {α : Type} {P : α → Prop} {a a' : α} (e : some a = some a') (h : P a) : P a' := Option.some.inj e ▸ h
theorem inj2 {α β : Type} {P : α → β → Prop} {a a' : α} {b b' : β} (e : some (a, b) = some (a', b')) (h : P a b) : P a' b' := by cases e; exact h
noncomputable def Post {α : Type} (o : Option α) (Q : α → Prop) : Prop := ∀ a, o = some a → Q a
section
variable {α β : Type} {Q : α → Prop}
theorem Post.none : Post none Q := fun _ e => noneNe e
theorem Post.pure {a : α} (h : Q a) : Post (some a) Q := fun _ e => Option.some.inj e ▸ h
theorem Post.onT {b : Bool} {x : Option α} (k : b = true → Post x Q) : Post (onT b x) Q := fun a e => onT_ e fun h e => k h a e
theorem Post.onF {b : Bool} {x : Option α} (k : b = false → Post x Q) : Post (onF b x) Q := fun a e => onF_ e fun h e => k h a e
theorem Post.ob {x : Option β} {f : β → Option α} (k : ∀ b, x = some b → Post (f b) Q) : Post (ob x f) Q := fun a e => ob_ e fun b h e => k b h a e
theorem Post.bnd {β : Type} {x : Option (β × Sg)} {f : β → Sg → Option (α × Sg)} {Q : α × Sg → Prop} (k : ∀ b s, x = some (b, s) → Post (f b s) Q) : Post (bnd x f) Q := fun a e => by
  obtain ⟨b, s, h1, h2⟩ := bnd_some e
  exact k b s h1 a h2
noncomputable def sel {α : Type} (b : Bool) (x y : Option α) : Option α := match b with
  | true => x
  | false => y
theorem Post.sel {b : Bool} {x y : Option α} (k : b = true → Post x Q) (l : b = false → Post y Q) : Post (sel b x y) Q := by
  cases b
  · exact l rfl
  · exact k rfl
noncomputable def optE {α β : Type} (x : Option β) (f : β → Option α) (y : Option α) : Option α := match x with
  | some b => f b
  | none => y
theorem Post.optE {x : Option β} {f : β → Option α} {y : Option α} (k : ∀ b, x = some b → Post (f b) Q) (l : x = Option.none → Post y Q) : Post (optE x f y) Q := by
  cases x
  · exact l rfl
  · exact k _ rfl
theorem Post.beq {n m : Nat} {x : Option α} (k : n = m → Post x Q) : Post (Mine.onT (Nat.beq n m) x) Q := .onT fun h => k (Nat.eq_of_beq_eq_true h)
theorem Post.sbeq {n m : Nat} {x y : Option α} (k : n = m → Post x Q) (l : Post y Q) : Post (Mine.sel (Nat.beq n m) x y) Q := .sel (fun h => k (Nat.eq_of_beq_eq_true h)) fun _ => l
theorem Post.le {n m : Nat} {x : Option α} (k : n ≤ m → Post x Q) : Post (Mine.onT (Nat.ble n m) x) Q := .onT fun h => k (Nat.le_of_ble_eq_true h)
end
noncomputable def emptyS : Str := ""
noncomputable def un1 {α : Type} (l : List α) : Option α := match l with
  | [] => none
  | a :: l => (match l with
    | [] => some a
    | _ :: _ => none)
theorem un1_ok {α : Type} {l : List α} {a : α} (h : un1 l = some a) : l = [a] := by
  cases l with
  | nil => exact noneNe h
  | cons b l =>
    cases l with
    | nil => exact congrArg (fun x => [x]) (Option.some.inj h)
    | cons => exact noneNe h
noncomputable def uncons {α : Type} (l : List α) : Option (α × List α) := match l with
  | [] => none
  | a :: l => some (a, l)
theorem uncons_ok {α : Type} {l : List α} {p : α × List α} (h : uncons l = some p) : l = p.1 :: p.2 := by
  cases l with
  | nil => exact noneNe h
  | cons b l => exact inj1 (P := fun p => b :: l = p.1 :: p.2) h rfl
noncomputable def un2 {α : Type} (l : List α) : Option (α × α) := ob (uncons l) fun p => ob (un1 p.2) fun b => some (p.1, b)
theorem un2_ok {α : Type} {l : List α} {p : α × α} (h : un2 l = some p) : l = [p.1, p.2] :=
  ob_ h fun q h1 h => ob_ h fun b h2 h => inj1 (P := fun p => l = [p.1, p.2]) h ((uncons_ok h1).trans (congrArg (q.1 :: ·) (un1_ok h2)))
noncomputable def un3 {α : Type} (l : List α) : Option (α × α × α) := ob (uncons l) fun p => ob (un2 p.2) fun b => some (p.1, b)
theorem un3_ok {α : Type} {l : List α} {p : α × α × α} (h : un3 l = some p) : l = [p.1, p.2.1, p.2.2] :=
  ob_ h fun q h1 h => ob_ h fun b h2 h => inj1 (P := fun p => l = [p.1, p.2.1, p.2.2]) h ((uncons_ok h1).trans (congrArg (q.1 :: ·) (un2_ok h2)))
noncomputable def un6 {α : Type} (l : List α) : Option ((α × α × α) × (α × α × α)) := ob (un3 (l.take 3)) fun p => ob (un3 (l.drop 3)) fun q => some (p, q)
theorem un6_ok {α : Type} {l : List α} {p : (α × α × α) × (α × α × α)} (h : un6 l = some p) : l = [p.1.1, p.1.2.1, p.1.2.2, p.2.1, p.2.2.1, p.2.2.2] :=
  ob_ h fun q h1 h => ob_ h fun b h2 h => inj1 (P := fun p => l = [p.1.1, p.1.2.1, p.1.2.2, p.2.1, p.2.2.1, p.2.2.2]) h (by rw [← List.take_append_drop 3 l, un3_ok h1, un3_ok h2]; rfl)
noncomputable def refOf (v : V) : Option Nat := match v with
  | .ref k => some k
  | _ => none
theorem refOf_ok {v : V} {k : Nat} (h : refOf v = some k) : v = .ref k := by
  cases v with
  | ref => exact congrArg V.ref (Option.some.inj h)
  | _ => exact noneNe h
noncomputable def sintOf (v : V) : Option Int := match v with
  | .sint k => some k
  | _ => none
theorem sintOf_ok {v : V} {k : Int} (h : sintOf v = some k) : v = .sint k := by
  cases v with
  | sint => exact congrArg V.sint (Option.some.inj h)
  | _ => exact noneNe h
noncomputable def sstrOf (v : V) : Option Str := match v with
  | .sstr k => some k
  | _ => none
theorem sstrOf_ok {v : V} {k : Str} (h : sstrOf v = some k) : v = .sstr k := by
  cases v with
  | sstr => exact congrArg V.sstr (Option.some.inj h)
  | _ => exact noneNe h
noncomputable def isN (v : V) : Bool := match v with
  | .none => true
  | _ => false
theorem isN_ok {v : V} (h : isN v = true) : v = .none := by
  cases v with
  | none => rfl
  | _ => exact (nomatch h)
noncomputable def isS0 (v : V) : Bool := match v with
  | .str s => eqS s emptyS
  | _ => false
theorem isS0_ok {v : V} (h : isS0 v = true) : v = .str emptyS := by
  cases v with
  | str s => exact congrArg V.str (eqS_iff.mp h)
  | _ => exact (nomatch h)
noncomputable def slOf (o : O) : Option (List V) := match o with
  | .slist l => some l
  | _ => none
theorem slOf_ok {o : O} {l : List V} (h : slOf o = some l) : o = .slist l := by
  cases o with
  | slist => exact congrArg O.slist (Option.some.inj h)
  | _ => exact noneNe h
noncomputable def dIOf (o : O) : Option (List (Int × V)) := match o with
  | .dictI l => some l
  | _ => none
theorem dIOf_ok {o : O} {l : List (Int × V)} (h : dIOf o = some l) : o = .dictI l := by
  cases o with
  | dictI => exact congrArg O.dictI (Option.some.inj h)
  | _ => exact noneNe h
noncomputable def instOf (C : Nat) (o : O) : Option (List (Str × V)) := match o with
  | .inst C' fs => onT (Nat.beq C' C) (some fs)
  | _ => none
theorem instOf_ok {C : Nat} {o : O} {fs : List (Str × V)} (h : instOf C o = some fs) : o = .inst C fs := by
  cases o with
  | inst C' fs' => exact onT_ h fun q h => Option.some.inj h ▸ Nat.eq_of_beq_eq_true q ▸ rfl
  | _ => exact noneNe h
noncomputable def binI (op : Operator) (a b : Int) (k : Int → V) : Option V := match op with
  | .Add => some (k (a + b))
  | .Sub => some (k (a - b))
  | .Mult => onT (small a) (some (k (a * b)))
  | .Mod => onF (decide (b = 0)) (some (k (a.fmod b)))
  | .FloorDiv => onF (decide (b = 0)) (onF (Builtin.divisionGoesByPylong a b) (some (k (a.fdiv b))))
  | _ => none
noncomputable def binT (op : Operator) (a b : Str) : Option V := match op with
  | .Add => onT (Nat.ble (a.length + b.length) 1000) (some (.str (a ++ b)))
  | _ => none
noncomputable def binV (op : Operator) (a b : V) : Option V := match a with
  | .int x => (match b with
    | .int y => binI op x y .int
    | .sint y => binI op x y .sint
    | _ => none)
  | .sint x => (match b with
    | .int y => binI op x y .sint
    | .sint y => binI op x y .sint
    | _ => none)
  | .str x => (match b with
    | .str y => binT op x y
    | _ => none)
  | _ => none
section
variable {prog : Program} {w : World} {A : Around} {E : Value → Shared → Prop} {s : Shared} {Q : Value → Shared → Prop} {μ : Mu}
theorem le_sizeLine {n : Nat} (h : n ≤ 16777216) : n ≤ sizeLine := by rw [sizeLine_eq]; exact h
@[irreducible] noncomputable def BinW (prog : Program) (w : World) (A : Around) (E : Value → Shared → Prop) (s : Shared) (Q : Value → Shared → Prop) (op : Operator) (x y : Value) : Prop := wpAny (model prog w) A (binaryOp op x y) Q E s
theorem BinW.on {op : Operator} {x y : Value} (h : BinW prog w A E s Q op x y) : wpAny (model prog w) A (binaryOp op x y) Q E s := by unfold BinW at h; exact h
theorem BinW.of {op : Operator} {x y : Value} (h : wpAny (model prog w) A (binaryOp op x y) Q E s) : BinW prog w A E s Q op x y := by unfold BinW; exact h
theorem relInt (i : Int) (t : Tok) : RelV μ (.int i) (.int i t) := ⟨t, rfl⟩
theorem relSint (i : Int) (t : Tok) : RelV μ (.sint i) (.int i t) := ⟨t, rfl⟩
theorem binI_ok {op : Operator} {a b : Int} {k : Int → V} {v : V} {t u : Tok} (hk : ∀ i t, RelV μ (k i) (.int i t)) (e : binI op a b k = some v) (q : ∀ r tk, RelV μ v r → Q r { s with toks := tk }) :
    BinW prog w A E s Q op (.int a t) (.int b u) := by
  revert q
  cases op with
  | Add => apply inj1 e; exact fun q => .of (add_int (q _ _ (hk _ _)))
  | Sub => apply inj1 e; exact fun q => .of (sub_int (q _ _ (hk _ _)))
  | Mult => refine onT_ e fun h e => ?_; apply inj1 e; exact fun q => .of (mul_int (q _ _ (hk _ _)) (IntMulOk.of_left (small_bits h)))
  | Mod => refine onF_ e fun h e => ?_; apply inj1 e; exact fun q => .of (mod_int' (of_decide_eq_false h) (q _ _ (hk _ _)))
  | FloorDiv => refine onF_ e fun h e => onF_ e fun h2 e => ?_; apply inj1 e; exact fun q => .of (floordiv_int (of_decide_eq_false h) (q _ _ (hk _ _)) (.inl h2))
  | _ => exact noneNe e
theorem binT_ok {op : Operator} {a b : Str} {v : V} {t u : Tok} (e : binT op a b = some v) (q : ∀ r tk, RelV μ v r → Q r { s with toks := tk }) :
    BinW prog w A E s Q op (.str a t) (.str b u) := by
  revert q
  cases op with
  | Add => refine onT_ e fun h e => ?_; apply inj1 e; exact fun q => .of (SBL.add (fun t' k _ => q _ _ ⟨_, rfl⟩) (le_sizeLine (Nat.le_trans (Nat.le_of_ble_eq_true h) (by decide))))
  | _ => exact noneNe e
theorem binV_ok {op : Operator} {a b v : V} {ra rb : Value} (e : binV op a b = some v) (ha : RelV μ a ra) (hb : RelV μ b rb) (q : ∀ r tk, RelV μ v r → Q r { s with toks := tk }) :
    wpAny (model prog w) A (binaryOp op ra rb) Q E s := by
  apply BinW.on
  revert q
  cases a with
  | int x =>
    obtain ⟨t, rfl⟩ := ha
    cases b with
    | int y => obtain ⟨u, rfl⟩ := hb; exact binI_ok relInt e
    | sint y => obtain ⟨u, rfl⟩ := hb; exact binI_ok relSint e
    | _ => exact noneNe e
  | sint x =>
    obtain ⟨t, rfl⟩ := ha
    cases b with
    | int y => obtain ⟨u, rfl⟩ := hb; exact binI_ok relSint e
    | sint y => obtain ⟨u, rfl⟩ := hb; exact binI_ok relSint e
    | _ => exact noneNe e
  | str x =>
    obtain ⟨t, rfl⟩ := ha
    cases b with
    | str y => obtain ⟨u, rfl⟩ := hb; exact binT_ok e
    | _ => exact noneNe e
  | _ => exact noneNe e

theorem inj1r {α : Type} {P : α → Prop} {a a' : α} (e : some a = some a') (h : P a') : P a := Option.some.inj e ▸ h
noncomputable def icmp (op : CmpOp) (a b : Int) : Option Bool := match op with
  | .Eq => some (decide (a = b))
  | .NotEq => some (!decide (a = b))
  | .Lt => some (decide (a < b))
  | .LtE => some (decide (a ≤ b))
  | .Gt => some (decide (b < a))
  | .GtE => some (decide (b ≤ a))
  | _ => none
theorem icmp_ok {op : CmpOp} {a b : Int} {c : Bool} {t u : Tok} (e : icmp op a b = some c) (q : Q (.bool c) s) : wpAny (model prog w) A (compareOp op (.int a t) (.int b u)) Q E s := by
  have z : ∀ {d}, some d = some c → Q (.bool d) s := fun e => inj1r (P := fun c => Q (.bool c) s) e q
  cases op with
  | Eq => exact PyProof.Rows.eq_int (z e)
  | NotEq => exact PyProof.Rows.ne_int (z e)
  | Lt => exact PyProof.Rows.lt_int (z e)
  | LtE => exact PyProof.Rows.le_int (z e)
  | Gt => exact PyProof.Rows.gt_int (z e)
  | GtE => exact PyProof.Rows.ge_int (z e)
  | _ => exact noneNe e
noncomputable def bcmp (op : CmpOp) (a b : Bool) : Option Bool := match op with
  | .Eq => some (a == b)
  | .NotEq => some (a != b)
  | _ => none
theorem bcmp_ok {op : CmpOp} {a b : Bool} {c : Bool} (e : bcmp op a b = some c) (q : Q (.bool c) s) : wpAny (model prog w) A (compareOp op (.bool a) (.bool b)) Q E s := by
  have z : ∀ {d}, some d = some c → Q (.bool d) s := fun e => inj1r (P := fun c => Q (.bool c) s) e q
  cases op with
  | Eq => exact eq_bool (z e)
  | NotEq => exact ne_bool (z e)
  | _ => exact noneNe e
noncomputable def scmp (op : CmpOp) (a b : Str) : Option Bool := match op with
  | .Eq => some (eqS a b)
  | .NotEq => some (!eqS a b)
  | .In => some (!(Builtin.Str.occurrences b a 0 b.length 1).isEmpty)
  | .NotIn => some (!(!(Builtin.Str.occurrences b a 0 b.length 1).isEmpty))
  | _ => none
theorem beq_eqS (a b : Str) : (a == b) = eqS a b := by
  rw [eqS_eq, Bool.eq_iff_iff]; simp
theorem scmp_ok {op : CmpOp} {a b : Str} {c : Bool} {t u : Tok} (e : scmp op a b = some c) (q : Q (.bool c) s) : wpAny (model prog w) A (compareOp op (.str a t) (.str b u)) Q E s := by
  have z : ∀ {d}, some d = some c → Q (.bool d) s := fun e => inj1r (P := fun c => Q (.bool c) s) e q
  cases op with
  | Eq => exact PyProof.Rows.eq_str (by rw [beq_eqS]; exact z e)
  | NotEq => exact PyProof.Rows.ne_str (by rw [bne, beq_eqS]; exact z e)
  | In => exact PyProof.Rows.in_str (z e)
  | NotIn => exact PyProof.Rows.notIn_str (z e)
  | _ => exact noneNe e
noncomputable def isNoneV : V → Option Bool
  | .none => some true
  | .bi _ => none
  | _ => some false
noncomputable def cmpV (op : CmpOp) (a b : V) : Option V := match b with
  | .none => (match op with
    | .Is => (isNoneV a).map .bool
    | .IsNot => (isNoneV a).map fun b => .bool (!b)
    | _ => none)
  | .int y => (match a with
    | .int x => (icmp op x y).map .bool
    | .sint x => (icmp op x y).map .sbool
    | _ => none)
  | .sint y => (match a with
    | .int x => (icmp op x y).map .sbool
    | .sint x => (icmp op x y).map .sbool
    | _ => none)
  | .bool y => (match a with
    | .bool x => (bcmp op x y).map .bool
    | .sbool x => (bcmp op x y).map .sbool
    | _ => none)
  | .sbool y => (match a with
    | .bool x => (bcmp op x y).map .sbool
    | .sbool x => (bcmp op x y).map .sbool
    | _ => none)
  | .str y => (match a with
    | .str x => (scmp op x y).map .bool
    | .sstr x => (scmp op x y).map .sbool
    | _ => none)
  | .sstr y => (match a with
    | .str x => (scmp op x y).map .sbool
    | .sstr x => (scmp op x y).map .sbool
    | _ => none)
  | _ => none
theorem isNoneV_ok {a : V} {b : Bool} {r : Value} (e : isNoneV a = some b) (h : RelV μ a r) : (r == Value.none) = b := by
  unfold isNoneV at e
  cases a with
  | none => cases e; have h' : r = Value.none := h; subst h'; rfl
  | bi n => cases e
  | bool c => cases e; have h' : r = .bool c := h; subst h'; rfl
  | sbool c => cases e; have h' : r = .bool c := h; subst h'; rfl
  | int c => cases e; obtain ⟨t, rfl⟩ := h; rfl
  | sint c => cases e; obtain ⟨t, rfl⟩ := h; rfl
  | str c => cases e; obtain ⟨t, rfl⟩ := h; rfl
  | sstr c => cases e; obtain ⟨t, rfl⟩ := h; rfl
  | ref k => cases e; obtain ⟨a, d, _, rfl⟩ := h; rfl
  | val a => cases e; have h' : r = .ref a := h; subst h'; rfl
theorem map_some' {α β : Type} {f : α → β} {x : Option α} {y : β} (h : x.map f = some y) : ∃ a, x = some a ∧ f a = y := Option.map_eq_some_iff.mp h
theorem map_ {α β : Type} {f : α → β} {x : Option α} {y : β} {P : β → Prop} (e : x.map f = some y) (k : ∀ a, x = some a → P (f a)) : P y := by
  obtain ⟨a, h, rfl⟩ := map_some' e
  exact k a h
theorem relVB (b : Bool) : RelV μ (.bool b) (.bool b) := rfl
theorem relVSB (b : Bool) : RelV μ (.sbool b) (.bool b) := rfl
theorem cmpI_ok {op : CmpOp} {a b : Int} {v : V} {t u : Tok} {k : Bool → V} (hk : ∀ c, RelV μ (k c) (.bool c)) (e : (icmp op a b).map k = some v) (q : ∀ r, RelV μ v r → Q r s) :
    wpAny (model prog w) A (compareOp op (.int a t) (.int b u)) Q E s := by
  revert q; apply map_ e; exact fun c h q => icmp_ok h (q _ (hk _))
theorem cmpB_ok {op : CmpOp} {a b : Bool} {v : V} {k : Bool → V} (hk : ∀ c, RelV μ (k c) (.bool c)) (e : (bcmp op a b).map k = some v) (q : ∀ r, RelV μ v r → Q r s) :
    wpAny (model prog w) A (compareOp op (.bool a) (.bool b)) Q E s := by
  revert q; apply map_ e; exact fun c h q => bcmp_ok h (q _ (hk _))
theorem cmpS_ok {op : CmpOp} {a b : Str} {v : V} {t u : Tok} {k : Bool → V} (hk : ∀ c, RelV μ (k c) (.bool c)) (e : (scmp op a b).map k = some v) (q : ∀ r, RelV μ v r → Q r s) :
    wpAny (model prog w) A (compareOp op (.str a t) (.str b u)) Q E s := by
  revert q; apply map_ e; exact fun c h q => scmp_ok h (q _ (hk _))
theorem cmpV_ok {op : CmpOp} {a b v : V} {ra rb : Value} (e : cmpV op a b = some v) (ha : RelV μ a ra) (hb : RelV μ b rb) (q : ∀ r, RelV μ v r → Q r s) :
    wpAny (model prog w) A (compareOp op ra rb) Q E s := by
  revert q
  cases b with
  | none =>
    cases (show rb = Value.none from hb)
    cases op with
    | Is => apply map_ (f := V.bool) (x := isNoneV a) e; exact fun c h q => is_none (by rw [isNoneV_ok h ha]; exact q _ rfl)
    | IsNot => apply map_ (f := fun b => V.bool (!b)) (x := isNoneV a) e; exact fun c h q => isNot_none (by rw [isNoneV_ok h ha]; exact q _ rfl)
    | _ => exact noneNe e
  | int y =>
    obtain ⟨u, rfl⟩ := hb
    cases a with
    | int x => obtain ⟨t, rfl⟩ := ha; exact cmpI_ok relVB e
    | sint x => obtain ⟨t, rfl⟩ := ha; exact cmpI_ok relVSB e
    | _ => exact noneNe e
  | sint y =>
    obtain ⟨u, rfl⟩ := hb
    cases a with
    | int x => obtain ⟨t, rfl⟩ := ha; exact cmpI_ok relVSB e
    | sint x => obtain ⟨t, rfl⟩ := ha; exact cmpI_ok relVSB e
    | _ => exact noneNe e
  | bool y =>
    cases (show rb = .bool y from hb)
    cases a with
    | bool x => cases (show ra = .bool x from ha); exact cmpB_ok relVB e
    | sbool x => cases (show ra = .bool x from ha); exact cmpB_ok relVSB e
    | _ => exact noneNe e
  | sbool y =>
    cases (show rb = .bool y from hb)
    cases a with
    | bool x => cases (show ra = .bool x from ha); exact cmpB_ok relVSB e
    | sbool x => cases (show ra = .bool x from ha); exact cmpB_ok relVSB e
    | _ => exact noneNe e
  | str y =>
    obtain ⟨u, rfl⟩ := hb
    cases a with
    | str x => obtain ⟨t, rfl⟩ := ha; exact cmpS_ok relVB e
    | sstr x => obtain ⟨t, rfl⟩ := ha; exact cmpS_ok relVSB e
    | _ => exact noneNe e
  | sstr y =>
    obtain ⟨u, rfl⟩ := hb
    cases a with
    | str x => obtain ⟨t, rfl⟩ := ha; exact cmpS_ok relVSB e
    | sstr x => obtain ⟨t, rfl⟩ := ha; exact cmpS_ok relVSB e
    | _ => exact noneNe e
  | _ => exact noneNe e

noncomputable def tst (v : V) (σ : Sg) : Option (Bool × Sg) := match v with
  | .bool b => some (b, σ)
  | .sbool b => ob (uncons σ.ds) fun p => some (p.1, ⟨σ.H, p.2, (b = p.1) :: σ.cs⟩)
  | _ => none
noncomputable def TstP (v : V) (σ : Sg) (p : Bool × Sg) : Prop := σ.le p.2 ∧ p.2.H = σ.H ∧ (p.2.ok → ∀ {prog : Program} {w : World} {A : Around} {E : Value → Shared → Prop} {s : Shared} {μ : Mu} {r : Value} {Q : Bool → Shared → Prop}, RelV μ v r → Q p.1 s → wpAny (model prog w) A (truthy r) Q E s)
theorem tst_post {v : V} {σ : Sg} : Post (tst v σ) (TstP v σ) := by
  cases v with
  | bool b => exact .pure ⟨Sg.le.refl _, rfl, fun _ {_ _ _ _ _ _ _ _} h q => (show _ = Value.bool b from h) ▸ wpAny_truthy_bool q⟩
  | sbool b => exact .ob fun p _ => .pure ⟨⟨[_], rfl⟩, rfl, fun ok {_ _ _ _ _ _ _ _} h q => (show _ = Value.bool b from h) ▸ wpAny_truthy_bool ((show b = p.1 from ok _ (.head _)) ▸ q)⟩
  | _ => exact .none
theorem tst_ok {v : V} {σ σ' : Sg} {b : Bool} (e : tst v σ = some (b, σ')) : TstP v σ (b, σ') := tst_post _ e
end

noncomputable def evConst : Const → Option V
  | .none => some .none
  | .bool b => some (.bool b)
  | .int i => some (.int i)
  | .str s => some (.str s)
  | _ => none
theorem evConst_ok {prog : Program} {w : World} {A : Around} {E : Value → Shared → Prop} {s : Shared} {Q : Value → Shared → Prop} {μ : Mu} {c : Const} {k : Nat} {pos : Pos} {env : Env} {v : V} (e : evConst c = some v)
    (q : ∀ r tk, RelV μ v r → Q r { s with toks := tk }) : wpAny (model prog w) A (eval (.Constant c k pos) env) Q E s := by
  revert q
  cases c with
  | none => apply inj1 e; exact fun q => Constant_none (q _ s.toks rfl)
  | bool b => apply inj1 e; exact fun q => Constant_bool (q _ s.toks rfl)
  | int i => apply inj1 e; exact fun q => wpAny_Constant_int (q _ _ ⟨_, rfl⟩)
  | str x => apply inj1 e; exact fun q => PySem.Calls.Constant_str (q _ _ ⟨_, rfl⟩)
  | _ => exact noneNe e

theorem codeE {x y : Str} (e : Nat.beq (code x) (code y) = true) : x = y := code_inj (Nat.eq_of_beq_eq_true e)
section
variable {α : Type} {p : Str × α} {r : List (Str × α)} {n : Nat} {a : α}
theorem lkS_sel : lkS (p :: r) n = sel (Nat.beq (code p.1) n) (some p.2) (lkS r n) := rfl
theorem lkS_no (h : Nat.beq (code p.1) n = false) : lkS (p :: r) n = lkS r n := lkS_sel.trans (by rw [h]; rfl)
theorem lkS_yes (h : Nat.beq (code p.1) n = true) : lkS (p :: r) n = some p.2 := lkS_sel.trans (by rw [h]; rfl)
theorem lkS_ {P : Prop} (e : lkS (p :: r) n = some a) (k : Nat.beq (code p.1) n = true → p.2 = a → P) (l : Nat.beq (code p.1) n = false → lkS r n = some a → P) : P := by
  cases q : Nat.beq (code p.1) n with
  | true => exact k q (Option.some.inj ((lkS_yes q).symm.trans e))
  | false => exact l q ((lkS_no q).symm.trans e)
end
noncomputable def isLocalK (k : Option NameKind) : Bool := match k with
  | some k => (match k with
    | .local => true
    | _ => false)
  | none => false
theorem isLocalK_iff {k : Option NameKind} (h : isLocalK k = true) : k = some .local := by
  cases k with
  | none => exact nomatch h
  | some k =>
    cases k with
    | «local» => rfl
    | _ => exact nomatch h
noncomputable def dbg : Str := "__debug__"
noncomputable def cvOf (o : O) : Option V := match o with
  | .cell c => c
  | _ => none
theorem cvOf_ok {o : O} {v : V} (h : cvOf o = some v) : o = .cell (some v) := by
  cases o with
  | cell => exact congrArg O.cell h
  | _ => exact noneNe h
noncomputable def kindN (T : Tabs) (ne : NE) (x : Str) (σ : Sg) (k : NameKind) : Option V := match k with
  | .local => lkS ne.locs (code x)
  | .cell => ob (lkS ne.cells (code x)) fun k => ob σ.H[k]? fun o => cvOf o
  | .globalImplicit => lkS T.gl (code x)
  | _ => none
noncomputable def evName (T : Tabs) (ne : NE) (x : Str) (σ : Sg) : Option (V × Sg) := onF (eqS x dbg) (ob (lkS ne.names (code x)) fun k => ob (kindN T ne x σ k) fun v => some (v, σ))
noncomputable def GlOk (D : Wd) (gl : List (Str × V)) : Prop := ∀ p ∈ gl, ∃ r, (∀ μ, RelV μ p.2 r) ∧ (nsIn D.K mainGlobals p.1 = some (some r) ∨ (nsIn D.K mainGlobals p.1 = some none ∧ bootBuiltins p.1 = some r ∧ p.1 ≠ "__name__"))
theorem kindN_ok {D : Wd} {T : Tabs} (hT : GlOk D T.gl) {ne : NE} {x : Str} {pos : Pos} {σ : Sg} {v : V} {k : NameKind} (hd : (x == ("__debug__" : Str)) = false) (hk : lkS ne.names (code x) = some k) (e : kindN T ne x σ k = some v) : EvT D 0 ne (.Name x pos) σ.H v σ.H := by
  intro fx env dp un μ m rest s Q ok room eo S P
  have hk' : env.kindOf x = some k := (congrArg (List.lookup x) eo.nam).trans ((lkS_lookup _ _).symm.trans hk)
  cases k with
  | «local» =>
    rcases eo.loc with ⟨hL, lo⟩ | ⟨oC, mC, hm, hn, lo⟩
    · obtain ⟨r, hr, rel⟩ := lo x v e
      exact wpAny_Name (wpAny_loadName_local eo.kind hk' (hL ▸ S.fr.ns) hr (P.here' rel S)) hd
    · obtain ⟨r, hr, rel⟩ := lo x v e
      obtain ⟨led, N, _⟩ := S.ex
      exact wpAny_Name (wpAny_loadName_local eo.kind hk' (hn.ns (N.get (List.mem_append_right _ hm))) hr (P.here' rel S)) hd
  | cell =>
    refine ob_ e fun k hc e => ob_ e fun o ho e => ?_
    obtain ⟨p, hp, hl⟩ := eo.cel x k hc
    obtain ⟨p', led, hp', N, nd, al, _, o, r, hm, hd', hr⟩ := S.obj (ho.trans (congrArg some (cvOf_ok e)))
    cases hp.symm.trans hp'
    cases r with
    | none => exact hr.elim
    | some r => exact wpAny_Name (wpAny_loadName_cell eo.kind hk' hl ⟨o, N.get (List.mem_append_left _ hm), hd'⟩ (P.here' hr S)) hd
  | globalImplicit =>
    obtain ⟨r, rel, h | ⟨h, hb, hn⟩⟩ := hT _ (lkS_mem e)
    · exact Name_function_global eo.kind hk' (loadGlobal_global (by rw [eo.glob]; exact ok.T.g.keeps S.fr.keep) (mg_of ok.X ok.T.g h) (P.here' (rel μ) S)) hd
    · exact Name_function_global eo.kind hk' (loadGlobal_builtin (by rw [eo.glob]; exact ok.T.g.keeps S.fr.keep) (mg_none_of ok.X ok.T.g h) (by rw [eo.blt]; exact ok.T.b.keeps S.fr.keep) ((ok.T.builtins x hn).trans hb) (P.here' (rel μ) S)) hd
  | _ => exact noneNe e
theorem evName_post {D : Wd} {T : Tabs} (hT : GlOk D T.gl) {ne : NE} {x : Str} {pos : Pos} {σ : Sg} : Post (evName T ne x σ) fun p => p.2 = σ ∧ EvT D 0 ne (.Name x pos) σ.H p.1 σ.H :=
  .onF fun hx => .ob fun k hk => .ob fun v hv => .pure ⟨rfl, kindN_ok hT (by rw [beq_eqS]; exact hx) hk hv⟩
theorem evName_ok {D : Wd} {T : Tabs} (hT : GlOk D T.gl) {ne : NE} {x : Str} {pos : Pos} {σ σ' : Sg} {v : V} (e : evName T ne x σ = some (v, σ')) : σ' = σ ∧ EvT D 0 ne (.Name x pos) σ.H v σ.H := evName_post hT _ e
end Mine
end
section
open PySem PySem.W PyProof.Rows PySem.Calls PySem.Spec
namespace Mine

theorem isStr_eqS (x y : Str) (t : Tok) : (Value.str x t).isStr y = eqS x y := beq_eqS x y
theorem getL_of {μ : Mu} {x : Str} {fs : List (Str × V)} {es : List DictEntry} (h : All2 (FieldRel μ) fs es) : ∃ o, getL x es = some o ∧ (∀ v, lkS fs (code x) = some v → ∃ r, o = some r ∧ RelV μ v r) ∧ (lkS fs (code x) = none → o = none) := by
  induction h with
  | nil => exact ⟨none, rfl, fun _ e => noneNe e, fun _ => rfl⟩
  | @cons p e fs es h r ih =>
    obtain ⟨⟨t, hk⟩, hv⟩ := h
    obtain ⟨o, i1, i2, i3⟩ := ih
    have hs : e.key.isStr x = Nat.beq (code p.1) (code x) := hk ▸ isStr_eqS _ _ _
    cases q : Nat.beq (code p.1) (code x) with
    | true => exact ⟨some e.val, by unfold getL; rw [List.find?_cons, hs, q], fun v z => ⟨_, rfl, Option.some.inj ((lkS_yes q).symm.trans z) ▸ hv⟩, fun z => noneNe (z.symm.trans (lkS_yes q))⟩
    | false =>
      refine ⟨o, ?_, fun v z => i2 v ((lkS_no q).symm.trans z), fun z => i3 ((lkS_no q).symm.trans z)⟩
      unfold getL at i1 ⊢
      rw [List.find?_cons, hs, q, List.any_cons, show e.refKey = false by unfold DictEntry.refKey; rw [hk], Bool.false_or]
      exact i1
theorem putL_of {μ : Mu} {x : Str} {hs : Int} {t : Tok} {v : V} {r : Value} (hv : RelV μ v r) {fs : List (Str × V)} {es : List DictEntry} (h : All2 (FieldRel μ) fs es) : All2 (FieldRel μ) (putS fs x v) (putL x hs (.str x t) r es) := by
  induction h with
  | nil => exact .one ⟨⟨t, rfl⟩, hv⟩
  | @cons p e fs es h q ih =>
    obtain ⟨⟨t', hk⟩, hu⟩ := h
    have hs' : e.key.isStr x = Nat.beq (code p.1) (code x) := hk ▸ isStr_eqS _ _ _
    unfold putS putL
    rw [hs']
    cases Nat.beq (code p.1) (code x) with
    | true => exact .cons ⟨⟨t', hk⟩, hv⟩ q
    | false => exact .cons ⟨⟨t', hk⟩, hu⟩ ih
theorem putL_len (x : Str) (hs : Int) (k r : Value) (es : List DictEntry) : (putL x hs k r es).length ≤ es.length + 1 := by
  induction es with
  | nil => exact Nat.le_refl _
  | cons e es ih =>
    unfold putL
    cases e.key.isStr x with
    | true => exact Nat.le_succ _
    | false => exact Nat.succ_le_succ ih

structure ClOk (D : Wd) (C : Addr) (c : Cl) : Prop where
  plain : plainGet D.K C ("" : Str) = true
  hasD : hasDictIn D.K C = true
  setter : findIn D.K (.ref C) "__setattr__" = some (some (.builtin "object.__setattr__"))
  over : plainOver D.K C = true
  makes : makesIn D.K C = true
  attr : ∀ x ∈ c.attrs, findIn D.K (.ref C) x = some none
  meth : ∀ p ∈ c.meth, findIn D.K (.ref C) p.1 = some (some (.ref p.2)) ∧ isFn D.K (.ref p.2) = true
  init : match c.init with
    | some f => findIn D.K (.ref C) "__init__" = some (some (.ref f)) ∧ isFn D.K (.ref f) = true
    | none => findIn D.K (.ref C) "__init__" = some (some (.builtin "object.__init__"))
noncomputable def ClsOk (D : Wd) (cl : List (Nat × Cl)) : Prop := ∀ p ∈ cl, ClOk D p.1 p.2
noncomputable def memS : List Str → Str → Bool
  | [], _ => false
  | k :: r, x => match eqS k x with
    | true => true
    | false => memS r x
theorem memS_mem {l : List Str} {x : Str} (h : memS l x = true) : x ∈ l := by
  induction l with
  | nil => exact nomatch h
  | cons k r ih =>
    have h' : (match eqS k x with | true => true | false => memS r x) = true := h
    cases q : eqS k x with
    | true => exact eqS_iff.mp q ▸ .head _
    | false => rw [q] at h'; exact .tail _ (ih h')
noncomputable def plainV : V → Bool
  | .bi _ => false
  | _ => true
theorem handed_of {μ : Mu} {v : V} {r : Value} (h : plainV v = true) (hr : RelV μ v r) : handedIn r = true := by
  cases v with
  | bi n => cases h
  | none => have h' : r = Value.none := hr; subst h'; rfl
  | bool c => have h' : r = .bool c := hr; subst h'; rfl
  | sbool c => have h' : r = .bool c := hr; subst h'; rfl
  | int c => obtain ⟨t, rfl⟩ := hr; rfl
  | sint c => obtain ⟨t, rfl⟩ := hr; rfl
  | str c => obtain ⟨t, rfl⟩ := hr; rfl
  | sstr c => obtain ⟨t, rfl⟩ := hr; rfl
  | ref k => obtain ⟨a, d, _, rfl⟩ := hr; rfl
  | val a => have h' : r = .ref a := hr; subst h'; rfl
noncomputable def instAny (o : O) : Option (Nat × List (Str × V)) := match o with
  | .inst C fs => some (C, fs)
  | _ => none
theorem instAny_ok {o : O} {p : Nat × List (Str × V)} (h : instAny o = some p) : o = .inst p.1 p.2 := by
  cases o with
  | inst => exact inj1 (P := fun p => _ = O.inst p.1 p.2) h rfl
  | _ => exact noneNe h
noncomputable def intLit (v : V) : Option Int := match v with
  | .int i => some i
  | _ => none
theorem intLit_ok {v : V} {i : Int} (h : intLit v = some i) : v = .int i := by
  cases v with
  | int => exact congrArg V.int (Option.some.inj h)
  | _ => exact noneNe h
noncomputable def getAt (T : Tabs) (o : V) (x : Str) (σ : Sg) : Option V := ob (refOf o) fun k => ob σ.H[k]? fun o => ob (instAny o) fun p => ob (lkN T.cl p.1) fun c => onT (memS c.attrs x) (ob (lkS p.2 (code x)) fun v => onT (plainV v) (some v))
section
variable {D : Wd} {fx : Fx} {μ : Mu} {H : List O} {m : Str → Option Value} {rest : Ledger} {s : Shared} {A : Around} {E : Value → Shared → Prop}
theorem inst_of {k : Nat} {C : Addr} {fs : List (Str × V)} (S : StD D fx μ H m rest s.heap) (e : H[k]? = some (.inst C fs)) :
    ∃ p led es n, μ[k]? = some p ∧ News fx.h₀ fx.L s.heap (led ++ rest) ∧ ((led ++ rest).map (·.1)).Nodup ∧ All2 (fun p o => ObjIn D.prog D.w μ led p o) μ H ∧
      (p.1, instObj C p.2) ∈ led ∧ (p.2, dictOf es n) ∈ led ∧ All2 (FieldRel μ) fs es ∧ p.1 ≠ p.2 ∧ W.InstAt s.heap p.1 (instObj C p.2) C (some (dictOf es n)) := by
  obtain ⟨p, led, hp, N, nd, al, hne, es, n, h1, h2, h3⟩ := S.obj e
  exact ⟨p, led, es, n, hp, N, nd, al, h1, h2, h3, hne, W.InstAt.of_news N (List.mem_append_left _ h1) (List.mem_append_left _ h2)⟩
theorem getAt_ok {T : Tabs} (hT : ClsOk D T.cl) {o v : V} {x : Str} {σ : Sg} {r : Value} {Q : Value → Shared → Prop} {b : Bool} (e : getAt T o x σ = some v) (ok : fx.Ok D) (S : StD D fx μ σ.H m rest s.heap) (hr : RelV μ o r)
    (P : PostG D fx σ.H (relV v) μ m rest s Q) : wpAny (model D.prog D.w) A (getAttr r x b) Q E s := by
  refine ob_ e fun k hk e => ob_ e fun o' ho e => ob_ e fun p hp e => ob_ e fun c hc e => onT_ e fun ha e => ob_ e fun v' hv e => onT_ e fun hpl z => ?_
  cases refOf_ok hk
  cases Option.some.inj z
  obtain ⟨a, d, hk, rfl⟩ := hr
  obtain ⟨p', led, es, n, hp', N, nd, al, h1, h2, h3, hne, I⟩ := inst_of S (ho.trans (congrArg some (instAny_ok hp)))
  cases hk.symm.trans hp'
  have C' := hT _ (lkN_mem hc)
  obtain ⟨o, g0, g1, _⟩ := getL_of (x := x) h3
  obtain ⟨rv, g2, g3⟩ := g1 _ hv
  exact get_own S.fr ok.X I C'.plain C'.hasD (C'.attr x (memS_mem ha)) rfl (g0.trans (congrArg some g2)) (handed_of hpl g3) (P.here _ g3 S)
noncomputable def setAt (T : Tabs) (o : V) (x : Str) (v : V) (σ : Sg) : Option Sg := ob (refOf o) fun k => ob σ.H[k]? fun o => ob (instAny o) fun p => ob (lkN T.cl p.1) fun c => onT (memS c.attrs x) (onT (Nat.ble p.2.length 50) (some (σ.withH (σ.H.set k (.inst p.1 (putS p.2 x v))))))
theorem setAt_ok {T : Tabs} (hT : ClsOk D T.cl) {o v : V} {x : Str} {σ σ' : Sg} {r rv : Value} {Q : Unit → Shared → Prop} (e : setAt T o x v σ = some σ') (ok : fx.Ok D) (S : StD D fx μ σ.H m rest s.heap) (hr : RelV μ o r) (hv : RelV μ v rv)
    (P : PostG D fx σ'.H (fun _ (_ : Unit) => True) μ m rest s Q) : wpAny (model D.prog D.w) A (setAttr r x rv) Q E s := by
  refine ob_ e fun k hk e => ob_ e fun o' ho e => ob_ e fun p hp e => ob_ e fun c hc e => onT_ e fun ha e => onT_ e fun hl z => ?_
  cases refOf_ok hk
  cases Option.some.inj z
  obtain ⟨a, d, hk, rfl⟩ := hr
  obtain ⟨p', led, es, n, hp', N, nd, al, h1, h2, h3, hne, I⟩ := inst_of S (ho.trans (congrArg some (instAny_ok hp)))
  cases hk.symm.trans hp'
  have C' := hT _ (lkN_mem hc)
  obtain ⟨o, g0, _⟩ := getL_of (x := x) h3
  refine set_dict S.fr ok.X N I rfl C'.setter C'.over (by unfold takerIn; rw [C'.attr x (memS_mem ha)]; rfl) C'.hasD (by rw [g0]; rfl) rfl (upd_of (List.mem_append_left _ h2) nd) (Nat.le_trans (putL_len ..) (Nat.le_trans (Nat.succ_le_succ (h3.length ▸ Nat.le_of_ble_eq_true hl)) (by decide))) fun h' F' N' => ?_
  exact P.at _ trivial (S.turn nd al hk (.inr rfl) h2 F' N' ⟨hne, _, _, setA_other h1 hne, setA_mem h2, putL_of hv h3⟩)

theorem relVs_len {μ : Mu} {vs : List V} {rs : List Value} (h : RelVs μ vs rs) : rs.length = vs.length := h.length.symm
theorem newList_ok {vs : List V} {rs : List Value} {Q : Value → Shared → Prop} (S : StD D fx μ H m rest s.heap) (hl : Nat.ble vs.length 1000 = true) (hr : RelVs μ vs rs)
    (P : PostG D fx (H ++ [.list vs]) (relV (.ref H.length)) μ m rest s Q) : wpAny (model D.prog D.w) A (newList rs) Q E s := by
  obtain ⟨led, N, nd, al⟩ := S.ex
  have hl' := Nat.le_of_ble_eq_true hl
  refine newList_K S.fr N (fun l h' F' N' lt => ?_) (le_sizeLine (by rw [relVs_len hr]; (first | decide | lia | omega)))
  refine P _ [(l, l)] h' _ ⟨l, l, ?_, rfl⟩ (S.grow nd al F' N' lt ⟨rfl, rs, 0, .head _, hr.ext⟩)
  rw [List.getElem?_append_right (Nat.le_of_eq S.len), S.len, Nat.sub_self]; rfl
theorem newTuple_ok {vs : List V} {rs : List Value} {Q : Value → Shared → Prop} (S : StD D fx μ H m rest s.heap) (hl : Nat.ble vs.length 1000 = true) (hr : RelVs μ vs rs)
    (P : PostG D fx (H ++ [.tuple vs]) (relV (.ref H.length)) μ m rest s Q) : wpAny (model D.prog D.w) A (newTuple rs) Q E s := by
  obtain ⟨led, N, nd, al⟩ := S.ex
  have hl' := Nat.le_of_ble_eq_true hl
  refine newTuple_N S.fr N (fun h' F' N' => ?_) (le_sizeLine (by rw [relVs_len hr]; (first | decide | lia | omega)))
  refine P _ [(s.heap.objs.size, s.heap.objs.size)] h' _ ⟨s.heap.objs.size, s.heap.objs.size, ?_, rfl⟩ (S.grow nd al F' N' (fun p hp => Heap.lt_size (N p hp).1) ⟨rfl, rs, 0, .head _, hr.ext⟩)
  rw [List.getElem?_append_right (Nat.le_of_eq S.len), S.len, Nat.sub_self]; rfl

noncomputable def idxOf (i : Int) (n : Nat) : Option Nat := sel (decide (0 ≤ i)) (onT (decide (i < n)) (some i.toNat)) (onT (decide (-(n : Int) ≤ i)) (some (i + n).toNat))
theorem idxOf_post {i : Int} {n : Nat} : Post (idxOf i n) fun k => k < n ∧ ((0 ≤ i ∧ i < n ∧ k = i.toNat) ∨ (i < 0 ∧ -(n : Int) ≤ i ∧ k = (i + n).toNat)) :=
  .sel (fun a => .onT fun b => .pure (by have a := of_decide_eq_true a; have b := of_decide_eq_true b; exact ⟨by lia, .inl ⟨a, b, rfl⟩⟩))
    fun a => .onT fun b => .pure (by have a := of_decide_eq_false a; have b := of_decide_eq_true b; exact ⟨by lia, .inr ⟨by lia, b, rfl⟩⟩)
theorem idxOf_pos {i : Int} {n k : Nat} (h : idxOf i n = some k) : k < n ∧ ((0 ≤ i ∧ i < n ∧ k = i.toNat) ∨ (i < 0 ∧ -(n : Int) ≤ i ∧ k = (i + n).toNat)) := idxOf_post _ h
theorem idx_in {i : Int} {n : Nat} (h0 : 0 ≤ i) (h1 : i < n) : idxOf i n = some i.toNat := by
  unfold idxOf
  rw [decide_eq_true h0, decide_eq_true h1]; rfl
theorem small_in {i : Int} {n : Nat} (h0 : 0 ≤ i) (h1 : i < n) (h2 : n ≤ 1000) : small i = true := by
  unfold small
  rw [decide_eq_true (by lia), decide_eq_true (by lia)]; rfl
theorem small_le {i : Int} (h : small i = true) : -1000000000 ≤ i ∧ i ≤ 1000000000 := by
  unfold small at h
  rw [Bool.and_eq_true, decide_eq_true_eq, decide_eq_true_eq] at h
  exact h
noncomputable def isSlice : PySem.Expr → Bool
  | .Slice .. => true
  | _ => false
theorem subscripted_of {slice : PySem.Expr} (h : isSlice slice = false) (o i : Value) : subscripted slice false o i = operate [o, i] (getItem o i) := by
  cases slice <;> first | rfl | cases h
noncomputable def subscr (o i : V) (σ : Sg) : Option V := ob (refOf o) fun k => ob (intLit i) fun j => ob σ.H[k]? fun o => match o with
  | .list vs => ob (idxOf j vs.length) fun n => onT (small j) vs[n]?
  | .tuple vs => ob (idxOf j vs.length) fun n => onT (small j) vs[n]?
  | _ => none
theorem list_at {k : Nat} {vs : List V} {a d : Addr} (S : StD D fx μ H m rest s.heap) (ho : H[k]? = some (.list vs) ∨ H[k]? = some (.slist vs)) (hk : μ[k]? = some (a, d)) : ∃ its n, s.heap.get? a = some (W.listOf (List.toArray its) n) ∧ RelVs μ vs its := by
  rcases ho with ho | ho
  · obtain ⟨p, led, hp, N, nd, al, _, its, n, h1, h2⟩ := S.obj ho
    cases hk.symm.trans hp
    exact ⟨its, n, N.get (List.mem_append_left _ h1), h2⟩
  · obtain ⟨p, led, hp, N, nd, al, _, its, n, h1, h2⟩ := S.obj ho
    cases hk.symm.trans hp
    exact ⟨its, n, N.get (List.mem_append_left _ h1), h2⟩
theorem list_item {k : Nat} {vs : List V} {v : V} {j : Int} {u : Tok} {n : Nat} {r : Value} {Q : Value → Shared → Prop} (S : StD D fx μ H m rest s.heap) (ho : H[k]? = some (.list vs) ∨ H[k]? = some (.slist vs)) (hi : idxOf j vs.length = some n) (hs : small j = true) (hn : vs[n]? = some v) (hr : RelV μ (.ref k) r)
    (P : PostG D fx H (relV v) μ m rest s Q) : wpAny (model D.prog D.w) A (getItem r (.int j u)) Q E s := by
  obtain ⟨a, d, hk, rfl⟩ := hr
  obtain ⟨its, n', h1, h2⟩ := list_at S ho hk
  obtain ⟨b, hb, rel⟩ := h2.get hn
  have hl : s.heap.IsList a its.toArray := ⟨_, h1, rfl, _, rfl⟩
  have hlen : vs.length = its.toArray.size := h2.length
  have hb : its.toArray[n]? = some b := (List.getElem?_toArray ..).trans hb
  obtain ⟨s1, s2⟩ := small_le hs
  rw [hlen] at hi
  rcases idxOf_pos hi with ⟨hlt, ⟨z1, z2, rfl⟩ | ⟨z1, z2, rfl⟩⟩
  · exact wpAny_getItem_list hl z1 (by lia) hb (P.here' rel S)
  · exact wpAny_getItem_list_neg hl z1 z2 (by lia) hb (P.here' rel S)
theorem seqIndex_of {j : Int} {l n : Nat} (hi : idxOf j l = some n) : seqIndex? j l = some n := by
  unfold seqIndex?
  rcases idxOf_pos hi with ⟨hlt, ⟨z1, z2, rfl⟩ | ⟨z1, z2, rfl⟩⟩
  · rw [if_neg (show ¬ j < 0 by lia)]
    exact if_pos (by rw [Bool.and_eq_true, decide_eq_true_eq, decide_eq_true_eq]; lia)
  · rw [if_pos z1]
    exact if_pos (by rw [Bool.and_eq_true, decide_eq_true_eq, decide_eq_true_eq]; lia)
theorem tuple_at {k : Nat} {vs : List V} {a d : Addr} (S : StD D fx μ H m rest s.heap) (ho : H[k]? = some (.tuple vs)) (hk : μ[k]? = some (a, d)) : ∃ o its n, s.heap.get? a = some o ∧ o.cls = .type "tuple" ∧ o.data = .seq (List.toArray its) n ∧ RelVs μ vs its := by
  obtain ⟨p, led, hp, N, nd, al, _, its, n, h1, h2⟩ := S.obj ho
  cases hk.symm.trans hp
  exact ⟨_, its, n, N.get (List.mem_append_left _ h1), rfl, rfl, h2⟩
theorem tuple_item {k : Nat} {vs : List V} {v : V} {j : Int} {u : Tok} {n : Nat} {r : Value} {Q : Value → Shared → Prop} (S : StD D fx μ H m rest s.heap) (ho : H[k]? = some (.tuple vs)) (hi : idxOf j vs.length = some n) (hs : small j = true) (hn : vs[n]? = some v) (hr : RelV μ (.ref k) r)
    (P : PostG D fx H (relV v) μ m rest s Q) : wpAny (model D.prog D.w) A (getItem r (.int j u)) Q E s := by
  obtain ⟨a, d, hk, rfl⟩ := hr
  obtain ⟨o, its, n', h0, h1, h2, h3⟩ := tuple_at S ho hk
  obtain ⟨b, hb, rel⟩ := h3.get hn
  obtain ⟨s1, s2⟩ := small_le hs
  exact PyProof.Rows.getItem_tuple ⟨_, h0, h1, _, h2⟩ (by lia) (by lia) ((show vs.length = its.toArray.size from h3.length) ▸ seqIndex_of hi) ((List.getElem?_toArray ..).trans hb) (P.here' rel S)
theorem list_type {k : Nat} {vs : List V} {a d : Addr} (S : StD D fx μ H m rest s.heap) (ho : H[k]? = some (.list vs) ∨ H[k]? = some (.slist vs)) (hk : μ[k]? = some (a, d)) : s.TypeIs (.ref a) "list" := by
  obtain ⟨its, n', h1, h2⟩ := list_at S ho hk
  exact ⟨_, h1, rfl⟩
theorem subscr_ok {o i v : V} {σ : Sg} {value slice : PySem.Expr} {ro ri : Value} {Q : Value → Shared → Prop} (e : subscr o i σ = some v) (hsl : isSlice slice = false) (S : StD D fx μ σ.H m rest s.heap) (h1 : RelV μ o ro) (h2 : RelV μ i ri)
    (P : PostG D fx σ.H (relV v) μ m rest s Q) : wpAny (model D.prog D.w) A (subscriptTail value slice ro ri) Q E s := by
  refine ob_ e fun k hk e => ob_ e fun j hj e => ob_ e fun o' ho e => ?_
  cases refOf_ok hk
  cases intLit_ok hj
  obtain ⟨u, rfl⟩ := h2
  obtain ⟨a, d, hk, rfl⟩ := id h1
  cases o' with
  | list vs => exact ob_ e fun n hi e => onT_ e fun hs e => tail_any (list_type S (.inl ho) hk) slot_list_getitem.lookup (list_item S (.inl ho) hi hs e h1 P) (subscripted_of hsl _ _)
  | tuple vs =>
    refine ob_ e fun n hi e => onT_ e fun hs e => ?_
    obtain ⟨o, its, n', h0, h1', h2, h3⟩ := tuple_at S ho hk
    exact tail_any (T := "tuple") ⟨_, h0, h1'⟩ slot_tuple_getitem.lookup (tuple_item S ho hi hs e h1 P) (subscripted_of hsl _ _)
  | _ => exact noneNe e
end
end Mine
end
section
open PySem PySem.W PyProof.Rows PySem.Calls PySem.Spec
namespace Mine

noncomputable def cellsOf : List (Str × NameKind) → List Str → List Str
  | [], acc => acc
  | (n, .cell) :: r, acc => cellsOf r (n :: acc)
  | _ :: r, acc => cellsOf r acc
theorem cellsFrom_names' : ∀ (names : List (Str × NameKind)) (k : Nat) (acc : List (Str × Addr)), (cellsFrom k names acc).map (·.1) = cellsOf names (acc.map (·.1))
  | [], _, _ => rfl
  | (n, kd) :: r, k, acc => by
    unfold cellsFrom
    cases kd <;> first
      | exact cellsFrom_names' r k acc
      | exact cellsFrom_names' r (k + 1) ((n, k) :: acc)
noncomputable def numCells : List Str → Nat → List (Str × Nat)
  | [], _ => []
  | n :: r, k => (n, k) :: numCells r (k + 1)
structure FnOk (D : Wd) (f : Addr) (F : Fn) : Prop where
  ex : ∃ name params dV kV doc pm an cdv ct oc od osl, D.K.lookup f = some ⟨oc, od, .func (fnOf name F.qual params F.body F.scope dV kV doc pm an cdv ct), osl⟩ ∧ codeIn D.K cdv F.qual = true ∧
    ∀ (s : Shared) (vs : List Value), D.K.In s.heap → F.params.length ≤ vs.length + F.dflt.length → vs.length ≤ F.params.length →
      ∃ ds, (∀ μ, RelVs μ (F.dflt.drop (vs.length + F.dflt.length - F.params.length)) ds) ∧ BindsTo s (fnOf name F.qual params F.body F.scope dV kV doc pm an cdv ct) ⟨vs, []⟩ (F.params.zip (vs ++ ds))
  co : F.scope.isCoroutine = false
  gen : F.scope.isGenerator = false
  kind : F.scope.kind = .function
  kinds : (F.params.all fun x => F.scope.names.lookup x == some .local || F.scope.names.lookup x == some .cell) = true
  ck : ((cellsOf F.scope.names []).all fun x => F.scope.names.lookup x == some .cell) = true
  nodup : F.params.Nodup
  nd : ((cellsFrom 0 F.scope.names []).map (·.1)).Nodup
noncomputable def FnsOk (D : Wd) (fn : List (Nat × Fn)) : Prop := ∀ p ∈ fn, FnOk D p.1 p.2

theorem bind_eq {f : List (Str × Value) → (Str → Option Value) → Str → Option Value} {g : Str × Value → (Str → Option Value) → Str → Option Value} {c : Str → Prop} (f0 : ∀ m, f [] m = m) (f1 : ∀ p r m, f (p :: r) m = f r (g p m)) (g1 : ∀ p m, c p.1 → g p m p.1 = some p.2)
    (g2 : ∀ p m x, x ≠ p.1 → g p m x = m x) {binds : List (Str × Value)} {m : Str → Option Value} {x : Str} (nd : (binds.map (·.1)).Nodup) : (∀ v, (x, v) ∈ binds → c x → f binds m x = some v) ∧ ((∀ v, (x, v) ∉ binds) → f binds m x = m x) := by
  induction binds generalizing m with
  | nil => exact ⟨fun v h => (nomatch h), fun _ => congrFun (f0 m) x⟩
  | cons p r ih =>
    rw [List.map_cons, List.nodup_cons] at nd
    rw [f1]
    obtain ⟨i1, i2⟩ := ih (m := g p m) nd.2
    refine ⟨fun v hm hk => (List.mem_cons.mp hm).elim (fun e => ?_) fun hm => i1 v hm hk, fun hn => (i2 fun v hv => hn v (.tail _ hv)).trans (g2 _ _ _ fun e => hn p.2 (e ▸ .head _))⟩
    subst e
    exact (i2 fun v hv => nd.1 (List.mem_map_of_mem (f := (·.1)) hv)).trans (g1 _ m hk)
section
variable {kindOf : Str → Option NameKind} {binds : List (Str × Value)} {m : Str → Option Value} {x : Str}
theorem bindL_eq (nd : (binds.map (·.1)).Nodup) : (∀ v, (x, v) ∈ binds → kindOf x = some .local → bindL kindOf binds m x = some v) ∧ ((∀ v, (x, v) ∉ binds) → bindL kindOf binds m x = m x) :=
  bind_eq (f := bindL kindOf) (c := fun x => kindOf x = some .local) (g := fun p m => if kindOf p.1 = some .local then fun y => if y = p.1 then some p.2 else m y else m) (fun _ => rfl) (fun _ _ _ => rfl) (fun p m h => by rw [if_pos h, if_pos rfl]) (fun p m x h => by split <;> first | rfl | exact if_neg h) nd
theorem bindC_eq (nd : (binds.map (·.1)).Nodup) : (∀ v, (x, v) ∈ binds → kindOf x ≠ some .local → bindC kindOf binds m x = some v) ∧ ((∀ v, (x, v) ∉ binds) → bindC kindOf binds m x = m x) :=
  bind_eq (f := bindC kindOf) (c := fun x => kindOf x ≠ some .local) (g := fun p m => if kindOf p.1 = some .local then m else fun y => if y = p.1 then some p.2 else m y) (fun _ => rfl) (fun _ _ _ => rfl) (fun p m h => by rw [if_neg h, if_pos rfl]) (fun p m x h => by split <;> first | rfl | exact if_neg h) nd
end
theorem zip_keys {ks : List Str} {vs : List Value} (h : vs.length = ks.length) : (ks.zip vs).map (·.1) = ks := List.map_fst_zip (Nat.le_of_eq h.symm)
theorem zip_at {μ : Mu} {x : Str} {vs : List V} {rs : List Value} (h : RelVs μ vs rs) : ∀ ks : List Str, (∀ v, lkS (ks.zip vs) (code x) = some v → ∃ r, (x, r) ∈ ks.zip rs ∧ RelV μ v r) ∧ (lkS (ks.zip vs) (code x) = none → ∀ r, (x, r) ∉ ks.zip rs) := by
  induction h with
  | nil => intro ks; rw [List.zip_nil_right, List.zip_nil_right]; exact ⟨fun _ e => noneNe e, fun _ _ h => nomatch h⟩
  | @cons v r vs rs h1 h2 ih =>
    intro ks
    cases ks with
    | nil => exact ⟨fun _ e => noneNe e, fun _ _ h => nomatch h⟩
    | cons k ks =>
      obtain ⟨i1, i2⟩ := ih ks
      cases q : Nat.beq (code k) (code x) with
      | true => exact ⟨fun u e => ⟨r, codeE q ▸ .head _, Option.some.inj ((lkS_yes (p := (k, v)) q).symm.trans e) ▸ h1⟩, fun e => noneNe (e.symm.trans (lkS_yes (p := (k, v)) q))⟩
      | false =>
        refine ⟨fun u e => ?_, fun e r' hm => (List.mem_cons.mp hm).elim (fun w => ?_) (i2 ((lkS_no (p := (k, v)) q).symm.trans e) r')⟩
        · obtain ⟨r', a, b⟩ := i1 u ((lkS_no (p := (k, v)) q).symm.trans e)
          exact ⟨r', .tail _ a, b⟩
        · have w : x = k := congrArg Prod.fst w
          rw [w, Nat.beq_refl] at q
          exact nomatch q
noncomputable def onlyLocals (names : List (Str × NameKind)) : List (Str × V) → List (Str × V)
  | [] => []
  | p :: r => match isLocalK (lkS names (code p.1)) with
    | true => p :: onlyLocals names r
    | false => onlyLocals names r
theorem onlyLocals_lk {names : List (Str × NameKind)} {x : Str} {v : V} {l : List (Str × V)} (h : lkS (onlyLocals names l) (code x) = some v) : lkS l (code x) = some v ∧ isLocalK (lkS names (code x)) = true := by
  induction l with
  | nil => exact noneNe h
  | cons p r ih =>
    unfold onlyLocals at h
    cases q : isLocalK (lkS names (code p.1)) with
    | true =>
      rw [q] at h
      exact lkS_ h (fun w e => ⟨(lkS_yes w).trans (congrArg some e), codeE w ▸ q⟩) fun w e => ⟨(lkS_no w).trans (ih e).1, (ih e).2⟩
    | false =>
      rw [q] at h
      obtain ⟨i1, i2⟩ := ih h
      cases w : Nat.beq (code p.1) (code x) with
      | true => rw [codeE w, i2] at q; exact nomatch q
      | false => exact ⟨(lkS_no w).trans i1, i2⟩
noncomputable def bindsF (F : Fn) (vs : List V) : List (Str × V) := F.params.zip (vs ++ F.dflt.drop (vs.length + F.dflt.length - F.params.length))
noncomputable def flV (fl : Fl) : Option V := match fl with
  | .ret v => some v
  | .next => some .none
  | _ => none
noncomputable def callFn (F : Fn) (r : Rec) (vs : List V) (σ : Sg) : Option (V × Sg) :=
  onT (Nat.ble F.params.length (vs.length + F.dflt.length)) (onT (Nat.ble vs.length F.params.length)
    (bnd (r.exs ⟨F.scope.names, onlyLocals F.scope.names (bindsF F vs), numCells (cellsOf F.scope.names []) σ.H.length⟩ F.body (σ.withH (σ.H ++ (cellsOf F.scope.names []).map fun n => .cell (lkS (bindsF F vs) (code n))))) fun fl σ' =>
      ob (flV fl.1) fun v => some (v, σ')))

theorem cells_grow {prog : Program} {w : World} {h₀ h : Heap} {L : Addr} {m : Str → Option Value} {rest : Ledger} {cm : Str → Option Value} : ∀ {cs : List (Str × Addr)} {cells : Ledger}, CellsAre cm cs cells →
    ∀ {μ : Mu} {H : List O} {led : Ledger} {f : Str → Option V}, Fr h₀ L h m → News h₀ L h (cells ++ (led ++ rest)) → (cs.map (·.2)).Nodup → (∀ c ∈ cs, ∀ p ∈ led ++ rest, p.1 < c.2) → ((led ++ rest).map (·.1)).Nodup →
      All2 (fun p o => ObjIn prog w μ led p o) μ H → μ.Pairwise apartP → (∀ c ∈ cs, match f c.1, cm c.1 with | some v, some r => RelV μ v r | none, none => True | _, _ => False) →
      ∃ led', News h₀ L h (led' ++ rest) ∧ ((led' ++ rest).map (·.1)).Nodup ∧ All2 (fun p o => ObjIn prog w (μ ++ cs.map fun c => (c.2, c.2)) led' p o) (μ ++ cs.map fun c => (c.2, c.2)) (H ++ cs.map fun c => .cell (f c.1)) ∧ (μ ++ cs.map fun c => (c.2, c.2)).Pairwise apartP := by
  intro cs cells Y μ H led f F N ndc lt nd al ap hf
  have hmem : ∀ c ∈ cs, ∃ o, (c.2, o) ∈ cells ∧ o.data = .cell (cm c.1) := by
    clear N ndc lt hf
    induction Y with
    | nil => intro c h; cases h
    | cons h _ ih =>
      intro c hc
      rcases List.mem_cons.mp hc with rfl | hc
      · exact ⟨_, .head _, h⟩
      · obtain ⟨o, h1, h2⟩ := ih c hc
        exact ⟨o, .tail _ h1, h2⟩
  have hkeys : cells.map (·.1) = cs.map (·.2) := by
    clear N ndc lt hf hmem
    induction Y with
    | nil => rfl
    | cons h _ ih => rw [List.map_cons, List.map_cons, ih]
  have hled : ∀ p ∈ μ, (∃ o, (p.1, o) ∈ led) ∧ ∃ o, (p.2, o) ∈ led := fun p hp => by
    obtain ⟨i, hi⟩ := List.mem_iff_getElem?.mp hp
    obtain ⟨o', _, x⟩ := al.get hi
    exact x.mems
  refine ⟨cells ++ led, by rw [List.append_assoc]; exact N, ?_, ?_, ?_⟩
  · rw [List.append_assoc, List.map_append, List.nodup_append]
    refine ⟨by rw [hkeys]; exact ndc, nd, fun a ha b hb => ?_⟩
    rw [hkeys] at ha
    obtain ⟨c, hc, rfl⟩ := List.mem_map.mp ha
    obtain ⟨p, hp, rfl⟩ := List.mem_map.mp hb
    exact Nat.ne_of_gt (lt c hc p hp)
  · refine (al.mono fun p o x => x.ext fun q hq _ => List.mem_append_right _ hq).append ?_
    refine all2_of (by rw [List.length_map, List.length_map]) fun i p o hi ho => ?_
    rw [List.getElem?_map] at hi ho
    obtain ⟨c, hc, rfl⟩ := Option.map_eq_some_iff.mp hi
    rw [hc] at ho
    cases ho
    have hc' := List.mem_of_getElem? hc
    obtain ⟨o, h1, h2⟩ := hmem c hc'
    refine ⟨rfl, o, cm c.1, List.mem_append_left _ h1, h2, ?_⟩
    have := hf c hc'
    cases q : f c.1 with
    | none => rw [q] at this; cases q2 : cm c.1 with
      | none => trivial
      | some r => rw [q2] at this; exact this.elim
    | some v => rw [q] at this; cases q2 : cm c.1 with
      | none => rw [q2] at this; exact this.elim
      | some r => rw [q2] at this; exact RelV.ext this
  · rw [List.pairwise_append]
    refine ⟨ap, ?_, fun p hp q hq => ?_⟩
    · rw [List.pairwise_map]
      have : cs.Pairwise fun a b => a.2 ≠ b.2 := by
        rw [List.Nodup, List.pairwise_map] at ndc
        exact ndc
      exact this.imp fun h => ⟨h, h, h, h⟩
    · obtain ⟨c, hc, rfl⟩ := List.mem_map.mp hq
      obtain ⟨⟨o1, m1⟩, o2, m2⟩ := hled p hp
      have l1 := Nat.ne_of_lt (mem_lt (lt c hc) (List.mem_append_left rest m1))
      have l2 := Nat.ne_of_lt (mem_lt (lt c hc) (List.mem_append_left rest m2))
      exact ⟨l1, l1, l2, l2⟩
theorem cellsFrom_cons (p : Str × NameKind) (r : List (Str × NameKind)) (k : Nat) (acc : List (Str × Addr)) : cellsFrom k (p :: r) acc = if p.2 == .cell then cellsFrom (k + 1) r ((p.1, k) :: acc) else cellsFrom k r acc := rfl
theorem cellsFrom_ge {b : Nat} (names : List (Str × NameKind)) : ∀ {k : Nat} {acc : List (Str × Addr)}, b ≤ k → (∀ c ∈ acc, b ≤ c.2 ∧ c.2 < k) → (acc.map (·.2)).Nodup → (∀ c ∈ cellsFrom k names acc, b ≤ c.2) ∧ ((cellsFrom k names acc).map (·.2)).Nodup := by
  induction names with
  | nil => exact fun hb h nd => ⟨fun c hc => (h c hc).1, nd⟩
  | cons p r ih =>
    intro k acc hb h nd
    rw [cellsFrom_cons]
    cases p.2 == .cell with
    | true =>
      refine ih (Nat.le_succ_of_le hb) (fun c hc => (List.mem_cons.mp hc).elim (fun e => e ▸ ⟨hb, Nat.lt_succ_self _⟩) fun hc => ⟨(h c hc).1, Nat.lt_succ_of_lt (h c hc).2⟩) ?_
      rw [List.map_cons, List.nodup_cons]
      refine ⟨fun hm => ?_, nd⟩
      obtain ⟨c, hc, e⟩ := List.mem_map.mp hm
      exact absurd e (Nat.ne_of_lt (h c hc).2)
    | false => exact ih hb h nd
theorem numCells_lk {cs : List (Str × Addr)} {x : Str} {j : Nat} : ∀ {k : Nat}, lkS (numCells (cs.map (·.1)) k) (code x) = some j → k ≤ j ∧ ∃ c, cs[j - k]? = some c ∧ cs.lookup x = some c.2 := by
  induction cs with
  | nil => exact fun h => noneNe h
  | cons p r ih =>
    intro k h
    refine lkS_ (p := (p.1, k)) h (fun q e => ?_) fun q e => ?_
    · have e : k = j := e
      subst e
      exact ⟨Nat.le_refl _, p, by rw [Nat.sub_self]; rfl, by rw [← codeE q, List.lookup_cons, beq_self_eq_true]⟩
    · obtain ⟨h1, c, h2, h4⟩ := ih e
      refine ⟨Nat.le_of_succ_le h1, c, by rw [show j - k = (j - (k + 1)) + 1 by lia]; exact h2, ?_⟩
      rw [List.lookup_cons, show (x == p.1) = false from beq_eq_false_iff_ne.mpr fun z => by rw [z, Nat.beq_refl] at q; exact nomatch q]
      exact h4
theorem code_run {D : Wd} {n : Nat} {f : Addr} {F : Fn} (fo : FnOk D f F) {vs : List V} {H H' : List O} {v : V} {fl : Fl} {l : List (Str × V)} {binds : List (Str × V)} {cn : List Str} (hlo : Nat.ble F.params.length (vs.length + F.dflt.length) = true) (hhi : Nat.ble vs.length F.params.length = true)
    (hb : bindsF F vs = binds) (hcn : cellsOf F.scope.names [] = cn) (hfl : flV fl = some v)
    (X : ExT D n ⟨F.scope.names, onlyLocals F.scope.names binds, numCells cn H.length⟩ F.body (H ++ cn.map fun n => .cell (lkS binds (code n))) fl l H') : CodeT D (n + 1) (.val f) vs H v H' := by
  intro fx dp un μ m rest s R fr rs okx room S hf hv P
  cases (show fr = .ref f from hf)
  obtain ⟨name, params, dV, kV, doc, pm, an, cdv, ct, oc, od, osl, hl, hcode, hbd⟩ := fo.ex
  have hlen := relVs_len hv
  have hlo := Nat.le_of_ble_eq_true hlo
  obtain ⟨ds, hds, hbind⟩ := hbd s rs (okx.X.keeps S.fr.keep) (hlen ▸ hlo) (hlen ▸ Nat.le_of_ble_eq_true hhi)
  rw [hlen] at hds
  have hall := All2.append hv (hds μ)
  have hlen2 : (rs ++ ds).length = F.params.length := by
    rw [relVs_len hall, List.length_append, List.length_drop]
    have hhi := Nat.le_of_ble_eq_true hhi
    clear X hbind hds hfl hb
    lia
  have za := fun x => zip_at (x := x) hall F.params
  rw [show F.params.zip (vs ++ F.dflt.drop (vs.length + F.dflt.length - F.params.length)) = binds from hb] at za
  have hkeys := zip_keys hlen2
  have hnodup : ((F.params.zip (rs ++ ds)).map (·.1)).Nodup := hkeys.symm ▸ fo.nodup
  generalize F.params.zip (rs ++ ds) = bs at za hkeys hnodup hbind
  obtain ⟨led, N, nd, al⟩ := S.ex
  refine code_defC okx.B S.fr okx.X N okx.T (A := fx.A dp un) rfl rfl okx.hk hl hcode (Nat.lt_of_le_of_lt (Nat.le_add_right _ _) room.1) hbind (List.all_eq_true.mpr fun y hy => List.all_eq_true.mp fo.kinds y.1 (hkeys ▸ List.mem_map_of_mem (f := (·.1)) hy)) fo.nd (fun g L' h₁ tk cells FG F' N' Y B' X' T' lt => ?_) fo.co fo.gen fo.kind
  have ge := cellsFrom_ge (b := L' + 1) F.scope.names (k := L' + 1) (acc := []) (Nat.le_refl _) (fun c hc => nomatch hc) List.nodup_nil
  have hnm : (cellsFrom (L' + 1) F.scope.names []).map (·.1) = cn := (cellsFrom_names' F.scope.names (L' + 1) []).trans hcn
  have cg := cells_grow (prog := D.prog) (w := D.w) Y (f := fun n => lkS binds (code n)) F' N' ge.2 (fun c hc p hp => Nat.lt_trans (lt p hp) (ge.1 c hc)) nd al S.ap (fun c hc => by
    have hne : (envOfC F.qual F.scope L' f cdv).kindOf c.1 ≠ some .local := fun hk => by
      have := List.all_eq_true.mp fo.ck c.1 ((hnm.trans hcn.symm) ▸ List.mem_map_of_mem (f := (·.1)) hc)
      rw [show F.scope.names.lookup c.1 = some .local from hk] at this
      exact nomatch this
    obtain ⟨z1, z2⟩ := za c.1
    cases q : lkS binds (code c.1) with
    | none =>
      rw [(bindC_eq hnodup).2 (z2 q)]
      trivial
    | some u =>
      obtain ⟨r', hr, rel⟩ := z1 u q
      rw [(bindC_eq hnodup).1 r' hr hne]
      exact rel)
  obtain ⟨led', N₂, nd₂, al₂, ap₂⟩ := cg
  rw [show cn.map (fun n => O.cell (lkS binds (code n))) = (cellsFrom (L' + 1) F.scope.names []).map fun c => O.cell (lkS binds (code c.1)) by rw [← hnm, List.map_map]; rfl] at X
  let fx' : Fx := ⟨F.qual, F.scope, L', f, cdv, cellsFrom (L' + 1) F.scope.names [], fx.env :: fx.outer, fx.gd, fx.base, fx.A dp un, g⟩
  refine wpAny_mono (X fx' (dp + 1) (un + 3) _ _ rest { s with heap := h₁, toks := tk } (fun fl s' => LeaveK fx.h₀ fx.L m g R (match fl with | .ret v => v | _ => .none) s') ⟨B', X', T', fo.kind, fun p hp => FG.keep _ _ (okx.M p hp)⟩ (room.down (by decide)) rfl ?_ ?_ ⟨F', ap₂, led', N₂, nd₂, al₂⟩ ?_) (fun _ _ x => x) fun _ _ x => x.elim
  · intro x u hu
    obtain ⟨h3, h4⟩ := onlyLocals_lk hu
    obtain ⟨r', hr, rel⟩ := (za x).1 u h3
    exact ⟨r', (bindL_eq hnodup).1 r' hr ((lkS_lookup _ _).symm.trans (isLocalK_iff h4)), rel.ext⟩
  · intro x k hk
    obtain ⟨h3, c, h4, h6⟩ := numCells_lk (cs := cellsFrom (L' + 1) F.scope.names []) (hnm ▸ hk)
    refine ⟨(c.2, c.2), ?_, h6⟩
    rw [List.getElem?_append_right (S.len ▸ h3), S.len, List.getElem?_map, h4]
    rfl
  · intro fr' more h' tk' m' hfr hlo2 S''
    obtain ⟨led'', N'', nd'', al''⟩ := S''.ex
    have fin : ∀ rv, RelV ((μ ++ (cellsFrom (L' + 1) F.scope.names []).map fun c => (c.2, c.2)) ++ more) v rv → LeaveK fx.h₀ fx.L m g R rv { s with heap := h', toks := tk' } := fun rv rel => by
      refine leaveK_ S''.fr N'' fun FF NN => ?_
      have ap := S''.ap
      rw [List.append_assoc] at rel al'' ap
      exact P rv _ h' tk' rel ⟨FF, ap, led'', NN, nd'', al''⟩
    cases fl with
    | ret u =>
      obtain ⟨rv, rfl, rel⟩ := hfr
      exact fin rv (Option.some.inj hfl ▸ rel)
    | next =>
      cases (show fr' = .next from hfr)
      exact fin .none (Option.some.inj hfl ▸ rfl)
    | _ => exact noneNe hfl
theorem callFn_ok {D : Wd} {n : Nat} {r : Rec} (ro : RecOk D n r) {f : Addr} {F : Fn} (fo : FnOk D f F) {vs : List V} {σ : Sg} : Post (callFn F r vs σ) fun p => σ.le p.2 ∧ (p.2.ok → CodeT D (n + 1) (.val f) vs σ.H p.1 p.2.H) :=
  .onT fun hlo => .onT fun hhi => .bnd fun fl σ' h1 => .ob fun v hv => .pure (by
    have hx := ro.exs _ _ _ _ _ _ h1
    exact ⟨(Sg.le_withH σ _).trans hx.1, fun ok => code_run fo hlo hhi rfl rfl hv (hx.2 ok)⟩)

noncomputable def callCls (C : Addr) (c : Cl) (r : Rec) (vs : List V) (σ : Sg) : Option (V × Sg) :=
  ob c.init fun f => bnd (r.call (.val f) (.ref σ.H.length :: vs) (σ.withH (σ.H ++ [.inst C []]))) fun v σ' => onT (isN v) (some (.ref σ.H.length, σ'))
theorem H_ref {μ : Mu} {H : List O} (h : μ.length = H.length) (p : Addr × Addr) : (μ ++ [p])[H.length]? = some p := by
  rw [List.getElem?_append_right (Nat.le_of_eq h), h, Nat.sub_self]; rfl
theorem callCls_ok {D : Wd} {n : Nat} {r : Rec} (ro : RecOk D n r) {C : Addr} {c : Cl} (co : ClOk D C c) {vs : List V} {σ : Sg} : Post (callCls C c r vs σ) fun p => σ.le p.2 ∧ (p.2.ok → CodeT D (n + 1) (.val C) vs σ.H p.1 p.2.H) := by
  refine .ob fun f hi => .bnd fun u σ₁ h1 => .onT fun hu => .pure ?_
  have hx := ro.call _ _ _ _ _ h1
  rw [isN_ok hu] at hx
  refine ⟨(Sg.le_withH σ _).trans hx.1, fun ok fx dp un μ m rest s R fr rs okx room S hf hv P => ?_⟩
  cases (show fr = .ref C from hf)
  have ci := co.init
  rw [hi] at ci
  obtain ⟨led, N, nd, al⟩ := S.ex
  refine make_K S.fr N (okx.X.keeps S.fr.keep) co.makes ci.1 (beq_iff_eq.mp ci.2) fun x dx h' F' N' lt lt2 => ?_
  have S' : StD D fx (μ ++ [(x, dx)]) (σ.H ++ [.inst C []]) m rest h' := S.grow2 nd al F' N' lt lt2 ⟨Nat.ne_of_gt lt2, [], 0, .head _, .tail _ (.head _), .nil⟩
  refine hx.2 ok fx (dp + 1) (un + 1) _ m rest { s with heap := h' } _ _ _ okx (room.down (by decide)) S' rfl (.cons ⟨x, dx, H_ref S.len _, rfl⟩ hv.ext) fun rv more h'' tk'' rel S'' => ?_
  refine ⟨rel, ?_⟩
  rw [List.append_assoc] at S''
  exact P _ _ h'' tk'' ⟨x, dx, by rw [← List.append_assoc]; exact mu_ext (H_ref S.len _), rfl⟩ S''
noncomputable def addrOf (v : V) : Option Nat := match v with
  | .val a => some a
  | _ => none
theorem addrOf_ok {v : V} {a : Nat} (h : addrOf v = some a) : v = .val a := by
  cases v with
  | val => exact congrArg V.val (Option.some.inj h)
  | _ => exact noneNe h
noncomputable def callAny (T : Tabs) (r : Rec) (f : V) (vs : List V) (σ : Sg) : Option (V × Sg) :=
  ob (addrOf f) fun a => optE (T.orc a vs σ) some (optE (lkN T.fn a) (fun F => callFn F r vs σ) (ob (lkN T.cl a) fun c => callCls a c r vs σ))
noncomputable def OrcOk (D : Wd) (n : Nat) (orc : Nat → List V → Sg → Option (V × Sg)) : Prop := ∀ a vs σ v σ', orc a vs σ = some (v, σ') → σ.le σ' ∧ (σ'.ok → CodeT D n (.val a) vs σ.H v σ'.H)
structure TabsOk (D : Wd) (T : Tabs) : Prop where
  gl : GlOk D T.gl
  fn : FnsOk D T.fn
  cl : ClsOk D T.cl
  kfn : ∀ p ∈ T.fn, keepIn D.K (.ref p.1) = true
  kcl : ∀ p ∈ T.cl, keepIn D.K (.ref p.1) = true
theorem callAny_post {D : Wd} {n : Nat} {T : Tabs} (hT : TabsOk D T) (ho : OrcOk D (n + 1) T.orc) {r : Rec} (ro : RecOk D n r) {f : V} {vs : List V} {σ : Sg} : Post (callAny T r f vs σ) fun p => σ.le p.2 ∧ (p.2.ok → CodeT D (n + 1) f vs σ.H p.1 p.2.H) :=
  .ob fun a ha => addrOf_ok ha ▸ .optE (fun x hx => .pure (ho _ _ _ _ _ hx)) fun _ => .optE (fun F hF => callFn_ok ro (hT.fn _ (lkN_mem hF))) fun _ => .ob fun c hc => callCls_ok ro (hT.cl _ (lkN_mem hc))
theorem callAny_ok {D : Wd} {n : Nat} {T : Tabs} (hT : TabsOk D T) (ho : OrcOk D (n + 1) T.orc) {r : Rec} (ro : RecOk D n r) {f : V} {vs : List V} {σ σ' : Sg} {v : V} (e : callAny T r f vs σ = some (v, σ')) :
    σ.le σ' ∧ (σ'.ok → CodeT D (n + 1) f vs σ.H v σ'.H) := callAny_post hT ho ro _ e
end Mine
end
section
open PySem PySem.W PyProof.Rows PySem.Calls PySem.Spec
namespace Mine
theorem lt_tr : ∀ {a b c : List Nat}, ltCps b a = false → ltCps c b = false → ltCps c a = false
  | [], _, c, _, _ => by cases c <;> rfl
  | x :: r, [], c, h, _ => by cases h
  | x :: r, y :: t, [], _, h => by cases h
  | x :: r, y :: t, z :: u, h1, h2 => by
    unfold ltCps at *
    simp only [Bool.or_eq_false_iff, decide_eq_false_iff_not, Bool.and_eq_false_iff, beq_eq_false_iff_ne] at *
    obtain ⟨a1, a2⟩ := h1
    obtain ⟨b1, b2⟩ := h2
    refine ⟨by (first | decide | lia | omega), ?_⟩
    by_cases e : z = x
    · right
      rcases a2 with a2 | a2
      · (first | decide | lia | omega)
      · rcases b2 with b2 | b2
        · (first | decide | lia | omega)
        · exact lt_tr a2 b2
    · exact .inl e
theorem lt_an : ∀ {a b : List Nat}, ltCps b a = false → ltCps a b = false → a = b
  | [], [], _, _ => rfl
  | [], _ :: _, _, h => by cases h
  | _ :: _, [], h, _ => by cases h
  | x :: r, y :: t, h1, h2 => by
    unfold ltCps at *
    simp only [Bool.or_eq_false_iff, decide_eq_false_iff_not, Bool.and_eq_false_iff, beq_eq_false_iff_ne] at *
    obtain ⟨a1, a2⟩ := h1
    obtain ⟨b1, b2⟩ := h2
    have e : x = y := by (first | decide | lia | omega)
    subst e
    rcases a2 with a2 | a2
    · exact absurd rfl a2
    · rcases b2 with b2 | b2
      · exact absurd rfl b2
      · rw [lt_an a2 b2]
noncomputable abbrev LeS (x y : Str) : Prop := ltCps y.cps.toList x.cps.toList = false
theorem cps_eq {x y : Str} (h : x.cps.toList = y.cps.toList) : x = y := by
  obtain ⟨⟨l⟩⟩ := x
  obtain ⟨⟨l'⟩⟩ := y
  simp at h
  rw [h]
theorem rising_pw : ∀ {l : List Str} {p : Str}, risingS p l = true → (p :: l).Pairwise LeS
  | [], p, _ => List.pairwise_singleton _ _
  | x :: r, p, h => by
    unfold risingS at h
    rw [Bool.and_eq_true] at h
    have h1 : LeS p x := by
      have := h.1
      simpa using this
    have ih := rising_pw h.2
    rw [List.pairwise_cons] at ih ⊢
    refine ⟨fun y hy => ?_, List.pairwise_cons.mpr ih⟩
    rcases List.mem_cons.mp hy with rfl | hy
    · exact h1
    · exact lt_tr h1 (ih.1 y hy)
theorem sorted_pw {l : List Str} (h : sortedS l = true) : l.Pairwise LeS := by
  cases l with
  | nil => exact .nil
  | cons x r => exact rising_pw h
theorem sorted_uniq : ∀ {a b : List Str}, a.Perm b → a.Pairwise LeS → b.Pairwise LeS → a = b
  | [], b, p, _, _ => (List.Perm.nil_eq p)
  | x :: r, [], p, _, _ => (List.Perm.eq_nil p)
  | x :: r, y :: t, p, ha, hb => by
    have hx : x ∈ y :: t := p.mem_iff.mp (List.mem_cons_self)
    have hy : y ∈ x :: r := p.mem_iff.mpr (List.mem_cons_self)
    have e : x = y := by
      rcases List.mem_cons.mp hx with h | h
      · exact h
      · rcases List.mem_cons.mp hy with h' | h'
        · exact h'.symm
        · exact cps_eq (lt_an ((List.pairwise_cons.mp ha).1 y h') ((List.pairwise_cons.mp hb).1 x h))
    subst e
    rw [sorted_uniq (List.Perm.cons_inv p) (List.pairwise_cons.mp ha).2 (List.pairwise_cons.mp hb).2]
noncomputable def insS (x : Str) : List Str → List Str
  | [] => [x]
  | y :: r => match ltCps x.cps.toList y.cps.toList with
    | true => x :: y :: r
    | false => y :: insS x r
noncomputable def sortS : List Str → List Str
  | [] => []
  | x :: r => insS x (sortS r)
theorem insS_perm (x : Str) : ∀ l : List Str, (insS x l).Perm (x :: l)
  | [] => .refl _
  | y :: r => by
    unfold insS
    split
    · exact .refl _
    · exact ((insS_perm x r).cons y).trans (List.Perm.swap x y r)
theorem sortS_perm : ∀ l : List Str, (sortS l).Perm l
  | [] => .refl _
  | x :: r => (insS_perm x (sortS r)).trans ((sortS_perm r).cons x)
theorem lt_asym : ∀ {a b : List Nat}, ltCps a b = true → ltCps b a = false
  | [], [], _ => rfl
  | [], _ :: _, _ => rfl
  | _ :: _, [], h => by cases h
  | x :: r, y :: t, h => by
    unfold ltCps at *
    simp only [Bool.or_eq_true, decide_eq_true_eq, Bool.and_eq_true, beq_iff_eq] at h
    simp only [Bool.or_eq_false_iff, decide_eq_false_iff_not, Bool.and_eq_false_iff, beq_eq_false_iff_ne]
    rcases h with h | ⟨rfl, h⟩
    · exact ⟨by (first | decide | lia | omega), .inl (by (first | decide | lia | omega))⟩
    · exact ⟨by (first | decide | lia | omega), .inr (lt_asym h)⟩
theorem insS_pw {x : Str} : ∀ {l : List Str}, l.Pairwise LeS → (insS x l).Pairwise LeS
  | [], _ => List.pairwise_singleton _ _
  | y :: r, h => by
    unfold insS
    split
    · rename_i q
      rw [List.pairwise_cons]
      refine ⟨fun z hz => ?_, h⟩
      rcases List.mem_cons.mp hz with rfl | hz
      · exact lt_asym q
      · exact lt_tr (lt_asym q) ((List.pairwise_cons.mp h).1 z hz)
    · rename_i q
      rw [List.pairwise_cons]
      refine ⟨fun z hz => ?_, insS_pw (List.pairwise_cons.mp h).2⟩
      rcases List.mem_cons.mp ((insS_perm x r).mem_iff.mp hz) with rfl | hz
      · exact q
      · exact (List.pairwise_cons.mp h).1 z hz
theorem sortS_pw : ∀ l : List Str, (sortS l).Pairwise LeS
  | [] => .nil
  | x :: r => insS_pw (sortS_pw r)
section
variable {prog : Program} {w : World} {A : Around} {E : Value → Shared → Prop} {s : Shared} {h₀ : Heap} {L D : Addr} {m : Str → Option Value} {news : Ledger}
theorem lsort_str {vs : List Value} {ss : List Str} {n : Nat} {Q : Value → Shared → Prop} (F : Fr h₀ L s.heap m) (N : News h₀ L s.heap ((D, W.listOf vs.toArray n) :: news)) (off : ∀ p ∈ news, p.1 < D) (hS : StrsAre vs ss) (h64 : vs.length < 64)
    (h : ∀ h' vs' e, StrsAre vs' (sortS ss) → Fr h₀ L h' m → News h₀ L h' ((D, W.listOf (List.toArray vs') e) :: news) → Q .none { s with heap := h' }) : wpAny (model prog w) A (call (.builtin "list.sort") [.ref D]) Q E s := by
  have z := N _ (List.mem_cons_self)
  have ho : s.heap.get? D = some (seqObj "list" vs.toArray n) := z.1
  refine wpAny_call_entry PyProof.Rows.slot_list_sort ⟨_, z.1, rfl⟩ PyProof.Rows.entry_list_sort (list_sort_treeK strKind_oneLt ho hS.keysOf (fun v₁ v₂ rest e => keyKind_strs (by rw [← e]; exact hS)) h64 fun st' hp hs => ⟨.none, rfl, ?_⟩) (PyProof.Rows.args_list_sort _)
  obtain ⟨ss', h1, h2, h3⟩ := sorted_out_str hS hp hs
  have e : ss' = sortS ss := sorted_uniq (h2.trans (sortS_perm ss).symm) (sorted_pw h3) (sortS_pw ss)
  subst e
  have old : ∀ b o, b ≠ D → s.heap.get? b = some o → (sortedHeap s.heap D vs ((arrOf st').map (·.2))).get? b = some o := fun b o hb e => by
    rw [sortedHeap_old hb (Heap.lt_size e)]; exact e
  obtain ⟨e, he⟩ := sortedHeap_at (out := (arrOf st').map (·.2)) ho
  refine h _ ((arrOf st').map (·.2)).toList e h1 ⟨F.ns.at' fun o e => old _ o (Ne.symm z.2.1) e, fun b o e => old b o (fun q => by rw [q, z.2.2] at e; cases e) (F.keep b o e), F.above⟩ fun p hp => ?_
  rcases List.mem_cons.mp hp with rfl | hp
  · exact ⟨by rw [he, Array.toArray_toList], z.2.1, z.2.2⟩
  · obtain ⟨a, b, c⟩ := N p (List.mem_cons_of_mem _ hp)
    exact ⟨old _ _ (Nat.ne_of_lt (off p hp)) a, b, c⟩
end
end Mine
end
section
open PySem PySem.W PyProof.Rows PySem.Calls PySem.Spec
namespace Mine

noncomputable def isStarE : PySem.Expr → Bool
  | .Starred .. => true
  | _ => false
theorem starEach_cons {e : PySem.Expr} (h : isStarE e = false) (rest : List PySem.Expr) (env : Env) : starEach (e :: rest) env = (false, eval e env) :: starEach rest env := by
  cases e <;> first | rfl | cases h
noncomputable def noStars : List PySem.Expr → Bool
  | [] => true
  | e :: r => match isStarE e with
    | true => false
    | false => noStars r
theorem noStars_any {env : Env} {pos : Pos} : ∀ {es : List PySem.Expr}, noStars es = true → (backTo pos (starEach es env)).any (·.1) = false
  | [], _ => rfl
  | e :: r, h => by
    unfold noStars at h
    split at h
    · cases h
    · rename_i q
      rw [starEach_cons q]
      have ih := noStars_any (env := env) (pos := pos) h
      show (false || (backTo pos (starEach r env)).any (·.1)) = false
      rw [ih]; rfl
theorem noStars_all {env : Env} {pos : Pos} : ∀ {es : List PySem.Expr}, noStars es = true → (backTo pos (starEach es env)).all (fun x => !x.1) = true
  | [], _ => rfl
  | e :: r, h => by
    unfold noStars at h
    split at h
    · cases h
    · rename_i q
      rw [starEach_cons q]
      have ih := noStars_all (env := env) (pos := pos) h
      show (true && (backTo pos (starEach r env)).all (fun x => !x.1)) = true
      rw [ih]; rfl
theorem noStars_hd {e : PySem.Expr} {r : List PySem.Expr} (h : noStars (e :: r) = true) : isStarE e = false := by
  unfold noStars at h
  cases q : isStarE e with
  | false => rfl
  | true => rw [q] at h; cases h
theorem noStars_tl {e : PySem.Expr} {r : List PySem.Expr} (h : noStars (e :: r) = true) : noStars r = true := by
  unfold noStars at h
  rwa [noStars_hd h] at h
noncomputable def evList (r : Rec) (ne : NE) : List PySem.Expr → Sg → Option (List V × Sg)
  | [], σ => some ([], σ)
  | e :: es, σ => match isStarE e with
    | true => none
    | false => bnd (r.ev ne e σ) fun v σ => bnd (evList r ne es σ) fun vs σ => some (v :: vs, σ)
noncomputable def EvsT (D : Wd) (n : Nat) (ne : NE) (es : List PySem.Expr) (H : List O) (vs : List V) (H' : List O) : Prop :=
  ∀ (fx : Fx) (env : Env) (pos : Pos) (dp un : Nat) (μ : Mu) (m : Str → Option Value) (rest : Ledger) (s : Shared) (Q : List Value → Shared → Prop), fx.Ok D → Room n dp un → EnvOk fx env ne μ m rest → StD D fx μ H m rest s.heap →
    PostG D fx H' (relVs vs) μ m rest s Q → wpAny (model D.prog D.w) (fx.A dp un) (spliced (backTo pos (starEach es env))) Q NoE s
theorem evList_ok {D : Wd} {n : Nat} {r : Rec} (ro : RecOk D n r) {ne : NE} : ∀ {es : List PySem.Expr} {σ σ' : Sg} {vs : List V}, evList r ne es σ = some (vs, σ') → noStars es = true ∧ σ.le σ' ∧ (σ'.ok → EvsT D n ne es σ.H vs σ'.H)
  | [], σ, σ', vs, h => by
    cases h
    exact ⟨rfl, .refl _, fun _ fx env pos dp un μ m rest s Q ok room eo S P => spliced_none (P.here' .nil S)⟩
  | e :: es, σ, σ', vs, h => by
    unfold evList at h
    split at h
    · cases h
    · rename_i q
      obtain ⟨v, σ₁, h1, h2⟩ := bnd_some h
      obtain ⟨vs', σ₂, h3, h4⟩ := bnd_some h2
      cases h4
      have x1 := ro.ev _ _ _ _ _ h1
      have x2 := evList_ok ro h3
      refine ⟨by unfold noStars; rw [q]; exact x2.1, x1.1.trans x2.2.1, fun ok => ?_⟩
      have y1 := x1.2 (x2.2.1.ok ok)
      have y2 := x2.2.2 ok
      intro fx env pos dp un μ m rest s Q okx room eo S P
      refine spliced_more (y1 fx env dp un μ m rest s _ okx room eo S fun rv more h' tk' rel S' => ?_) (starEach_cons q _ _)
      refine y2 fx env pos dp un _ m rest _ _ okx room eo.ext S' fun rvs more' h'' tk'' rel' S'' => ?_
      rw [List.append_assoc] at rel' S''
      exact P _ _ h'' tk'' (.cons (by have := rel.ext (more := more'); rwa [List.append_assoc] at this) rel') S''

theorem cons_of {μ : Mu} {x : V} {l : List V} {rs : List Value} (h : RelVs μ (x :: l) rs) : ∃ r t, rs = r :: t ∧ RelV μ x r ∧ RelVs μ l t := by
  cases h with | cons h1 h2 => exact ⟨_, _, rfl, h1, h2⟩
noncomputable def strsOf : List V → Option (List Str)
  | [] => some []
  | v :: r => match v with
    | .str s => ob (strsOf r) fun l => some (s :: l)
    | _ => none
theorem strsOf_post {μ : Mu} {vs : List V} : Post (strsOf vs) fun l => ∀ {rs : List Value}, RelVs μ vs rs → StrsAre rs l := by
  induction vs with
  | nil => exact .pure fun h => by cases h; exact .nil
  | cons v r ih =>
    cases v with
    | str s =>
      refine .ob fun l hl => .pure fun h => ?_
      obtain ⟨_, w, rfl, ⟨t, rfl⟩, h2⟩ := cons_of h
      exact .cons s t (ih l hl h2)
    | _ => exact .none
theorem strsOf_ok {μ : Mu} {vs : List V} {l : List Str} {rs : List Value} (e : strsOf vs = some l) (h : RelVs μ vs rs) : StrsAre rs l := strsOf_post l e h
noncomputable def sumLens : List Str → Nat
  | [] => 0
  | s :: r => s.length + sumLens r
theorem sumLens_eq : ∀ l : List Str, (l.map (·.length)).sum = sumLens l
  | [] => rfl
  | s :: r => by rw [List.map_cons, List.sum_cons, sumLens_eq r]; rfl
noncomputable def biRef (b k : Nat) (σ : Sg) : Option (V × Sg) := ob σ.H[k]? fun o => match o with
  | .list l => sel (Nat.beq b 0) (onT (Nat.ble l.length 1000) (some (.int l.length, σ)))
    (sel (Nat.beq b 7) (onT (Nat.ble l.length 1000) (some (.ref σ.H.length, σ.withH (σ.H ++ [.list l]))))
      (onT (Nat.beq b 10) (match l with
        | [] => some (.bool true, σ)
        | _ :: _ => none)))
  | .slist l => sel (Nat.beq b 0) (some (.sint l.length, ⟨σ.H, σ.ds, (l.length ≤ 1000) :: σ.cs⟩))
    (onT (Nat.beq b 7) (some (.ref σ.H.length, ⟨σ.H ++ [.slist l], σ.ds, (l.length ≤ 1000) :: σ.cs⟩)))
  | .dictS es => onT (Nat.beq b 6) (onT (Nat.ble es.length 50) (some (.ref σ.H.length, σ.withH (σ.H ++ [.list ((sortS (es.map (·.1))).map .str)]))))
  | _ => none
noncomputable def biStr (b : Nat) (s : Str) (σ : Sg) : Option (V × Sg) := sel (Nat.beq b 0) (onT (Nat.ble s.length 1000) (some (.int s.length, σ)))
  (onT (Nat.beq b 3) (onT (Nat.beq s.length 1) (some (.int (s.cps.getD 0 0 : Nat), σ))))
noncomputable def biInt (b : Nat) (i : Int) (σ : Sg) : Option (V × Sg) := sel (Nat.beq b 1) (some (.ref σ.H.length, σ.withH (σ.H ++ [.range 0 i])))
  (sel (Nat.beq b 4) (onT (decide (0 ≤ i)) (onT (decide (i ≤ 1114111)) (some (.str ⟨#[i.toNat]⟩, σ))))
    (onT (Nat.beq b 2) (sel (decide (i < 0)) (some (.int (-i), σ)) (some (.int i, σ)))))
noncomputable def bi1 (b : Nat) (v : V) (σ : Sg) : Option (V × Sg) := match v with
  | .ref k => biRef b k σ
  | .str s => biStr b s σ
  | .sstr s => onT (Nat.beq b 0) (some (.sint s.length, ⟨σ.H, σ.ds, (s.length ≤ 1000) :: σ.cs⟩))
  | .int i => biInt b i σ
  | .sint i => sel (Nat.beq b 1) (some (.ref σ.H.length, σ.withH (σ.H ++ [.range 0 i])))
    (onT (Nat.beq b 2) (some (.sint (if i < 0 then -i else i), σ)))
  | _ => none
noncomputable def bi2 (b : Nat) (v w : V) (σ : Sg) : Option (V × Sg) := onT (Nat.beq b 9) (match v with
  | .int x => (match w with
    | .int y => sel (decide (y > x)) (some (.int y, σ)) (some (.int x, σ))
    | _ => none)
  | _ => none)
noncomputable def callBi (b : Nat) (vs : List V) (σ : Sg) : Option (V × Sg) := match vs with
  | [] => none
  | x :: r => match r with
    | [] => bi1 b x σ
    | y :: r => match r with
      | [] => bi2 b x y σ
      | _ :: _ => none
section
variable {D : Wd} {fx : Fx} {μ : Mu} {m : Str → Option Value} {rest : Ledger} {s : Shared} {A : Around}
theorem seq_of {k : Nat} {H : List O} {vs : List V} {a d : Addr} (S : StD D fx μ H m rest s.heap) (ho : H[k]? = some (.list vs) ∨ H[k]? = some (.slist vs)) (hk : μ[k]? = some (a, d)) :
    ∃ led its n, News fx.h₀ fx.L s.heap (led ++ rest) ∧ ((led ++ rest).map (·.1)).Nodup ∧ All2 (fun p o => ObjIn D.prog D.w μ led p o) μ H ∧ (a, W.listOf (List.toArray its) n) ∈ led ∧ RelVs μ vs its ∧ s.heap.IsList a its.toArray ∧ d = a := by
  rcases ho with ho | ho
  · obtain ⟨p, led, hp, N, nd, al, e, its, n, h1, h2⟩ := S.obj ho
    rw [hk] at hp; cases hp
    exact ⟨led, its, n, N, nd, al, h1, h2, ⟨_, N.get (List.mem_append_left _ h1), rfl, _, rfl⟩, e⟩
  · obtain ⟨p, led, hp, N, nd, al, e, its, n, h1, h2⟩ := S.obj ho
    rw [hk] at hp; cases hp
    exact ⟨led, its, n, N, nd, al, h1, h2, ⟨_, N.get (List.mem_append_left _ h1), rfl, _, rfl⟩, e⟩
theorem len_seq {k : Nat} {H : List O} {vs : List V} {r : Value} {v : V} {Q : Value → Shared → Prop} (S : StD D fx μ H m rest s.heap) (ho : H[k]? = some (.list vs) ∨ H[k]? = some (.slist vs)) (hr : RelV μ (.ref k) r) (hl : vs.length ≤ 1000)
    (hv : ∀ t, RelV μ v (.int vs.length t)) (P : PostG D fx H (relV v) μ m rest s Q) : wpAny (model D.prog D.w) A (call (.builtin "len") [r]) Q NoE s := by
  obtain ⟨a, d, hk, rfl⟩ := hr
  obtain ⟨led, its, n, N, nd, al, h1, h2, hL, _⟩ := seq_of S ho hk
  have hlen := h2.length
  refine call_len_list hL (by rw [List.size_toArray]; (first | decide | lia | omega)) ?_
  rw [List.size_toArray, ← hlen]
  exact P.here _ (hv _) S
theorem range_ok {H : List O} {i : Int} {t : Tok} {Q : Value → Shared → Prop} (S : StD D fx μ H m rest s.heap) (P : PostG D fx (H ++ [.range 0 i]) (relV (.ref H.length)) μ m rest s Q) :
    wpAny (model D.prog D.w) A (call (.type "range") [.int i t]) Q NoE s := by
  obtain ⟨led, N, nd, al⟩ := S.ex
  refine range1_rows S.fr N fun h' tk t₁ u₁ v₁ hR F' N' hk => ?_
  have lt : ∀ p ∈ led ++ rest, p.1 < s.heap.objs.size := fun p hp => Heap.lt_size (N p hp).1
  have N'' : News fx.h₀ fx.L h' ((s.heap.objs.size, { cls := .type "range", dict := none, data := .fields #[.int 0 t₁, .int i u₁, .int 1 v₁], slots := #[] }) :: (led ++ rest)) := fun p hp => by
    rcases List.mem_cons.mp hp with rfl | hp
    · exact ⟨hR, Nat.ne_of_gt S.fr.ns.lt, next_is_new S.fr⟩
    · exact N' p hp
  exact P _ [(s.heap.objs.size, s.heap.objs.size)] h' tk ⟨s.heap.objs.size, s.heap.objs.size, H_ref S.len _, rfl⟩ (S.grow nd al F' N'' lt ⟨rfl, t₁, u₁, v₁, .head _⟩)
theorem listOf_ok {k : Nat} {H : List O} {vs : List V} {o : O} {r : Value} {Q : Value → Shared → Prop} (S : StD D fx μ H m rest s.heap) (ho : H[k]? = some (.list vs) ∨ H[k]? = some (.slist vs)) (hr : RelV μ (.ref k) r) (hl : vs.length ≤ 1000)
    (hoo : o = .list vs ∨ o = .slist vs) (P : PostG D fx (H ++ [o]) (relV (.ref H.length)) μ m rest s Q) : wpAny (model D.prog D.w) A (call (.type "list") [r]) Q NoE s := by
  obtain ⟨a, d, hk, rfl⟩ := hr
  obtain ⟨led, its, n, N, nd, al, h1, h2, hL, _⟩ := seq_of S ho hk
  have hlen := h2.length
  refine kup_listOf S.fr N (List.mem_append_left _ h1) rfl (fun Dd c h' F' N' lt => ?_) (le_sizeLine (by simp; (first | decide | lia | omega)))
  refine P _ [(Dd, Dd)] h' _ ⟨Dd, Dd, H_ref S.len _, rfl⟩ (S.grow nd al F' N' lt ?_)
  rcases hoo with rfl | rfl
  · exact ⟨rfl, its, c, by simp, h2.ext⟩
  · exact ⟨rfl, its, c, by simp, h2.ext⟩
theorem strs_of_at : ∀ {vs : List Value} {kvs : List (Str × Value)}, vs.length = kvs.length → (∀ (j : Nat) (v : Value), vs[j]? = some v → ∃ k x, kvs[j]? = some (k, x) ∧ (PySem.strKind D.prog D.w).is k v = true) → StrsAre vs (kvs.map (·.1))
  | [], [], _, _ => .nil
  | [], _ :: _, h, _ => by cases h
  | _ :: _, [], h, _ => by cases h
  | v :: vs, kv :: kvs, h, hP => by
    obtain ⟨k, x, e1, e2⟩ := hP 0 v rfl
    cases e1
    have : ∃ t, v = .str k t := by
      cases v <;> first
        | (have e2' : (_ == k) = true := e2; exact ⟨_, by rw [beq_iff_eq.mp e2']⟩)
        | cases e2
    obtain ⟨t, rfl⟩ := this
    exact .cons k t (strs_of_at (by simpa using h) fun j v hj => hP (j + 1) v hj)
theorem strs_rel : ∀ {vs : List Value} {ss : List Str}, StrsAre vs ss → RelVs μ (ss.map .str) vs
  | _, _, .nil => .nil
  | _, _, .cons x t h => .cons ⟨t, rfl⟩ (strs_rel h)
theorem pair_keys0 : ∀ {l : List (Str × V)} {k : List (Str × Value)}, All2 (PairRel μ) l k → k.map (·.1) = l.map (·.1)
  | _, _, .nil => rfl
  | _, _, .cons h t => by rw [List.map_cons, List.map_cons, pair_keys0 t, h.1]
theorem sorted_ok {k : Nat} {H : List O} {es : List (Str × V)} {r : Value} {Q : Value → Shared → Prop} (hh : A.handled = none) (S : StD D fx μ H m rest s.heap) (ho : H[k]? = some (.dictS es)) (hle : es.length ≤ 50) (hr : RelV μ (.ref k) r)
    (P : PostG D fx (H ++ [.list ((sortS (es.map (·.1))).map .str)]) (relV (.ref H.length)) μ m rest s Q) : wpAny (model D.prog D.w) A (call (.builtin "sorted") [r]) Q NoE s := by
  obtain ⟨a, d, hk, rfl⟩ := hr
  obtain ⟨p, led, hp, N, nd, al, e2, o, kvs, h1, h2, h3, h4⟩ := S.obj ho
  rw [hk] at hp; cases hp
  obtain ⟨ep, hat⟩ := (Heap.dictOf_iff.mpr ⟨o, N.get (List.mem_append_left _ h1), h3⟩ : s.heap.DictOf (PySem.strKind D.prog D.w) a kvs).dictAt
  have hl := h4.length
  refine kdu_sorted (kdl_dict h2) hh S.fr N hat (le_sizeLine (by (first | decide | lia | omega))) fun Dd h' tk vs F' N' lt hlen hP => ?_
  have hS := strs_of_at hlen hP
  rw [pair_keys0 h4] at hS
  refine lsort_str (s := { s with heap := h', toks := tk }) F' N' lt hS (by (first | decide | lia | omega)) fun h'' vs' e hS' F'' N'' => ?_
  exact P _ [(Dd, Dd)] h'' _ ⟨Dd, Dd, H_ref S.len _, rfl⟩ (S.grow nd al F'' N'' lt ⟨rfl, vs', e, .head _, strs_rel hS'⟩)
end
structure Cx where
  D : Wd
  fx : Fx
  μ : Mu
  m : Str → Option Value
  rest : Ledger
  s : Shared
  A : Around
  hh : A.handled = none
noncomputable def Bi1 (b : Nat) (x : V) (σ : Sg) (p : V × Sg) : Prop := σ.le p.2 ∧ (p.2.ok → ∀ (c : Cx) (r : Value) (Q : Value → Shared → Prop), StD c.D c.fx c.μ σ.H c.m c.rest c.s.heap → RelV c.μ x r →
    PostG c.D c.fx p.2.H (relV p.1) c.μ c.m c.rest c.s Q → wpAny (model c.D.prog c.D.w) c.A (call (biVal b) [r]) Q NoE c.s)
noncomputable def BiN (b : Nat) (vs : List V) (σ : Sg) (p : V × Sg) : Prop := σ.le p.2 ∧ (p.2.ok → ∀ (c : Cx) (rs : List Value) (Q : Value → Shared → Prop), StD c.D c.fx c.μ σ.H c.m c.rest c.s.heap → RelVs c.μ vs rs →
    PostG c.D c.fx p.2.H (relV p.1) c.μ c.m c.rest c.s Q → wpAny (model c.D.prog c.D.w) c.A (call (biVal b) rs) Q NoE c.s)
theorem biRef_ok {b k : Nat} {σ : Sg} : Post (biRef b k σ) (Bi1 b (.ref k) σ) := by
  refine .ob fun o ho => ?_
  cases o with
  | list l =>
    refine .sbeq (fun hb => .le fun hl => .pure ⟨.refl _, fun _ c r Q S h P => ?_⟩) (.sbeq (fun hb => .le fun hl => .pure ⟨Sg.le_withH _ _, fun _ c r Q S h P => ?_⟩) (.beq fun hb => ?_))
    · subst hb; exact len_seq (v := .int _) S (.inl ho) h hl (fun t => ⟨t, rfl⟩) P
    · subst hb; exact listOf_ok S (.inl ho) h hl (.inl rfl) P
    · cases l with
      | nil =>
        refine .pure ⟨.refl _, fun _ c r Q S h P => ?_⟩
        subst hb
        obtain ⟨a, d, hk, rfl⟩ := h
        obtain ⟨led, its, n, N, nd, al, hm, hrel, hL, hd⟩ := seq_of S (.inl ho) hk
        cases hrel
        exact LSm.all_bools S.fr N c.hh hL .nil fun h' tk F' N' => P.at tk rfl ⟨F', S.ap, led, N', nd, al⟩
      | cons => exact .none
  | slist l =>
    refine .sbeq (fun hb => .pure ⟨⟨[_], rfl⟩, fun ok c r Q S h P => ?_⟩) (.beq fun hb => .pure ⟨⟨[_], rfl⟩, fun ok c r Q S h P => ?_⟩)
    · subst hb; exact len_seq (v := .sint _) S (.inr ho) h (ok _ (.head _)) (fun t => ⟨t, rfl⟩) P
    · subst hb; exact listOf_ok S (.inr ho) h (ok _ (.head _)) (.inr rfl) P
  | dictS es =>
    refine .beq fun hb => .le fun hl => .pure ⟨Sg.le_withH _ _, fun _ c r Q S h P => ?_⟩
    subst hb; exact sorted_ok c.hh S ho hl h P
  | _ => exact .none
theorem biStr_ok {b : Nat} {x : Str} {σ : Sg} : Post (biStr b x σ) (Bi1 b (.str x) σ) := by
  refine .sbeq (fun hb => .le fun hl => .pure ⟨.refl _, fun _ c r Q S h P => ?_⟩) (.beq fun hb => .onT fun hl => .pure ⟨.refl _, fun _ c r Q S h P => ?_⟩)
  · subst hb; obtain ⟨t, rfl⟩ := h; exact PyProof.Rows.len_str (by (first | decide | lia | omega)) (P.here _ ⟨_, rfl⟩ S)
  · subst hb; obtain ⟨t, rfl⟩ := h; exact ord_of_one (Nat.eq_of_beq_eq_true hl) (P.here _ ⟨_, rfl⟩ S)
theorem biInt_ok {b : Nat} {i : Int} {σ : Sg} : Post (biInt b i σ) (Bi1 b (.int i) σ) := by
  refine .sbeq (fun hb => .pure ⟨Sg.le_withH _ _, fun _ c r Q S h P => ?_⟩) (.sbeq (fun hb => .onT fun h0 => .onT fun h1 => .pure ⟨.refl _, fun _ c r Q S h P => ?_⟩) (.beq fun hb => .sel (fun hi => .pure ⟨.refl _, fun _ c r Q S h P => ?_⟩) (fun hi => .pure ⟨.refl _, fun _ c r Q S h P => ?_⟩)))
  · subst hb; obtain ⟨t, rfl⟩ := h; exact range_ok S P
  · subst hb; obtain ⟨t, rfl⟩ := h; exact chr_of_range (of_decide_eq_true h0) (of_decide_eq_true h1) (P.here _ ⟨_, rfl⟩ S)
  · subst hb; obtain ⟨t, rfl⟩ := h
    refine call_abs_int fun u tk => ?_
    rw [if_pos (of_decide_eq_true hi)]
    exact P.here tk ⟨u, rfl⟩ S
  · subst hb; obtain ⟨t, rfl⟩ := h
    refine call_abs_int fun u tk => ?_
    rw [if_neg (of_decide_eq_false hi)]
    exact P.here tk ⟨u, rfl⟩ S
theorem bi1_ok {b : Nat} {v : V} {σ : Sg} : Post (bi1 b v σ) (Bi1 b v σ) := by
  cases v with
  | ref k => exact biRef_ok
  | str x => exact biStr_ok
  | int i => exact biInt_ok
  | sstr x =>
    refine .beq fun hb => .pure ⟨⟨[_], rfl⟩, fun ok c r Q S h P => ?_⟩
    subst hb; obtain ⟨t, rfl⟩ := h
    have hl : x.length ≤ 1000 := ok _ (.head _)
    exact PyProof.Rows.len_str (by (first | decide | lia | omega)) (P.here _ ⟨_, rfl⟩ S)
  | sint i =>
    refine .sbeq (fun hb => .pure ⟨Sg.le_withH _ _, fun _ c r Q S h P => ?_⟩) (.beq fun hb => .pure ⟨.refl _, fun _ c r Q S h P => ?_⟩)
    · subst hb; obtain ⟨t, rfl⟩ := h; exact range_ok S P
    · subst hb; obtain ⟨t, rfl⟩ := h; exact call_abs_int fun u tk => P.here tk ⟨u, rfl⟩ S
  | _ => exact .none
theorem max_ok {x y z : Int} {σ : Sg} (hz : (if y > x then y else x) = z) : BiN 9 [.int x, .int y] σ (.int z, σ) := by
  refine ⟨.refl _, fun _ c rs Q S h P => ?_⟩
  cases h with | cons h1 h2 =>
  cases h2 with | cons h2 h3 =>
  cases h3
  obtain ⟨t, rfl⟩ := h1
  obtain ⟨u, rfl⟩ := h2
  obtain ⟨led, N, nd, al⟩ := S.ex
  refine max_two_N c.hh S.fr N fun h' tk F' N' => ?_
  rw [hz]
  exact P.at tk ⟨_, rfl⟩ ⟨F', S.ap, led, N', nd, al⟩
theorem bi2_ok {b : Nat} {v w : V} {σ : Sg} : Post (bi2 b v w σ) (BiN b [v, w] σ) := by
  refine .beq fun hb => ?_
  cases v with
  | int x =>
    cases w with
    | int y => exact .sel (fun h => .pure (hb ▸ max_ok (if_pos (of_decide_eq_true h)))) fun h => .pure (hb ▸ max_ok (if_neg (of_decide_eq_false h)))
    | _ => exact .none
  | _ => exact .none
theorem callBi_post {b : Nat} {vs : List V} {σ : Sg} : Post (callBi b vs σ) (BiN b vs σ) := by
  match vs with
  | [] => exact .none
  | [x] =>
    refine fun p e => ?_
    obtain ⟨l, k⟩ := bi1_ok p e
    refine ⟨l, fun ok c rs Q S h P => ?_⟩
    cases h with | cons h1 h2 =>
    cases h2
    exact k ok c _ Q S h1 P
  | [_, _] => exact bi2_ok
  | _ :: _ :: _ :: _ => exact .none
end Mine
end
section
open PySem PySem.W PyProof.Rows PySem.Calls PySem.Spec
namespace Mine

noncomputable def atD {K : Type} (eq : K → K → Bool) : List (K × V) → K → Option V
  | [], _ => none
  | (k, v) :: r, x => match eq k x with
    | true => some v
    | false => atD eq r x
noncomputable def hasD {K : Type} (eq : K → K → Bool) : List (K × V) → K → Bool
  | [], _ => false
  | (k, _) :: r, x => match eq k x with
    | true => true
    | false => hasD eq r x
noncomputable def mapD {K : Type} (eq : K → K → Bool) : List (K × V) → K → V → List (K × V)
  | [], _, _ => []
  | (k, u) :: r, x, v => match eq k x with
    | true => (k, v) :: mapD eq r x v
    | false => (k, u) :: mapD eq r x v
noncomputable def putD' {K : Type} (eq : K → K → Bool) (l : List (K × V)) (x : K) (v : V) : List (K × V) := match hasD eq l x with
  | true => mapD eq l x v
  | false => l ++ [(x, v)]
noncomputable def eqI (a b : Int) : Bool := decide (a = b)
section
variable {K : Type} [DecidableEq K] {eq : K → K → Bool} (he : ∀ a b, eq a b = decide (a = b)) {μ : Mu}
include he
theorem atD_rel {x : K} : ∀ {es : List (K × V)} {kvs : List (K × Value)}, All2 (PairRel μ) es kvs → match atD eq es x with
    | some v => ∃ r, valueAt kvs x = some r ∧ RelV μ v r
    | none => valueAt kvs x = none
  | _, _, .nil => rfl
  | (k, v) :: es, (k', r) :: kvs, .cons h q => by
    obtain ⟨h1, h2⟩ := h
    dsimp only at h1 h2
    subst h1
    have ih := atD_rel (x := x) q
    unfold atD valueAt
    rw [List.find?_cons, he]
    by_cases e : k = x
    · simp only [e, decide_true]
      exact ⟨r, rfl, h2⟩
    · simp only [e, decide_false]
      exact ih
theorem hasD_rel {x : K} : ∀ {es : List (K × V)} {kvs : List (K × Value)}, All2 (PairRel μ) es kvs → kvs.any (fun kv => kv.1 = x) = hasD eq es x
  | _, _, .nil => rfl
  | (k, v) :: es, (k', r) :: kvs, .cons h q => by
    obtain ⟨h1, h2⟩ := h
    dsimp only at h1 h2
    subst h1
    have ih := hasD_rel (x := x) q
    unfold hasD
    rw [List.any_cons, he, ih]
    by_cases e : k = x
    · simp [e]
    · simp [e]
theorem mapD_rel {x : K} {v : V} {rv : Value} (hv : RelV μ v rv) : ∀ {es : List (K × V)} {kvs : List (K × Value)}, All2 (PairRel μ) es kvs → All2 (PairRel μ) (mapD eq es x v) (kvs.map fun kv => if kv.1 = x then (kv.1, rv) else kv)
  | _, _, .nil => .nil
  | (k, u) :: es, (k', r) :: kvs, .cons h q => by
    obtain ⟨h1, h2⟩ := h
    dsimp only at h1 h2
    subst h1
    have ih := mapD_rel (x := x) hv q
    unfold mapD
    rw [List.map_cons, he]
    by_cases e : k = x
    · simp only [e, decide_true, if_true]
      exact .cons ⟨rfl, hv⟩ (e ▸ ih)
    · simp only [e, decide_false, if_false]
      exact .cons ⟨rfl, h2⟩ ih
theorem putD_rel {x : K} {v : V} {rv : Value} (hv : RelV μ v rv) {es : List (K × V)} {kvs : List (K × Value)} (h : All2 (PairRel μ) es kvs) : All2 (PairRel μ) (putD' eq es x v) (stored kvs x rv) := by
  unfold putD' stored
  rw [hasD_rel he h]
  cases q : hasD eq es x with
  | true => simp only [if_true]; exact mapD_rel he hv h
  | false => simp only [Bool.false_eq_true, if_false]; exact h.append (.one ⟨rfl, hv⟩)
end
theorem eqI_he (a b : Int) : eqI a b = decide (a = b) := rfl

inductive MB where
  | append (k : Nat)
  | pop (k : Nat)
  | get (k : Nat)
  | join (s : Str)
  | split (s : Str)
noncomputable def nAppend : Str := "append"
noncomputable def nPop : Str := "pop"
noncomputable def nGet : Str := "get"
noncomputable def nJoin : Str := "join"
noncomputable def nSplit : Str := "split"
noncomputable def unary : List Bool → Nat → Option (Nat × List Bool)
  | [], _ => none
  | true :: r, k => unary r (k + 1)
  | false :: r, k => some (k, r)
noncomputable def strOfV : V → Str
  | .sstr s => s
  | .str s => s
  | _ => emptyS
noncomputable def isSstr : V → Prop
  | .sstr _ => True
  | _ => False
theorem isSstr_eq {v : V} (h : isSstr v) : v = .sstr (strOfV v) := by
  cases v <;> first | rfl | exact h.elim
theorem sstrs_are {μ : Mu} : ∀ {l : List V} {rs : List Value}, (∀ v ∈ l, isSstr v) → RelVs μ l rs → StrsAre rs (l.map strOfV)
  | _, _, _, .nil => .nil
  | v :: l, _, h, .cons x t => by
    have e := isSstr_eq (h v (.head _))
    rw [e] at x
    obtain ⟨u, rfl⟩ := x
    exact .cons _ u (sstrs_are (fun w hw => h w (.tail _ hw)) t)
noncomputable def methOf (o : V) (x : Str) (σ : Sg) : Option MB :=
  match o with
  | .ref k => ob σ.H[k]? fun o => (match o with
    | .list _ => sel (eqS x nAppend) (some (.append k)) (onT (eqS x nPop) (some (.pop k)))
    | .slist _ => onT (eqS x nAppend) (some (.append k))
    | .dictI _ => onT (eqS x nGet) (some (.get k))
    | _ => none)
  | .str s => onT (eqS x nJoin) (some (.join s))
  | .sstr s => onT (eqS x nSplit) (some (.split s))
  | _ => none
noncomputable def mbId : MB → String
  | .append _ => "list.append"
  | .pop _ => "list.pop"
  | .get _ => "dict.get"
  | .join _ => "str.join"
  | .split _ => "str.split"
noncomputable def mbSelf : MB → V
  | .append k => .ref k
  | .pop k => .ref k
  | .get k => .ref k
  | .join s => .str s
  | .split s => .sstr s
noncomputable def unsnoc : List V → Option (List V × V)
  | [] => none
  | x :: r => match unsnoc r with
    | some (p, y) => some (x :: p, y)
    | none => some ([], x)
theorem unsnoc_none : ∀ {l : List V}, unsnoc l = none → l = []
  | [], _ => rfl
  | x :: r, h => by
    unfold unsnoc at h
    cases e : unsnoc r with
    | none => rw [e] at h; cases h
    | some z => rw [e] at h; cases h
theorem unsnoc_spec : ∀ {l p : List V} {y : V}, unsnoc l = some (p, y) → l = p ++ [y]
  | [], _, _, h => by cases h
  | x :: r, p, y, h => by
    unfold unsnoc at h
    cases e : unsnoc r with
    | none =>
      rw [e] at h
      cases h
      rw [unsnoc_none e]; rfl
    | some z =>
      obtain ⟨p', y'⟩ := z
      rw [e] at h
      cases h
      rw [unsnoc_spec e]; rfl
theorem kl_last_snoc : ∀ (p : List Value) (y : Value), kl_last (p ++ [y]) = some (p, y)
  | [], y => rfl
  | x :: p, y => by
    show (match kl_last (p ++ [y]) with | some (p, y) => some (x :: p, y) | none => some ([], x)) = _
    rw [kl_last_snoc p y]
noncomputable def arg1 {α : Type} (vs : List V) (f : V → Option α) : Option α := match vs with
  | [] => none
  | x :: r => match r with
    | [] => f x
    | _ :: _ => none
theorem Post.arg1 {α : Type} {Q : α → Prop} {vs : List V} {f : V → Option α} (k : ∀ x, vs = [x] → Post (f x) Q) : Post (Mine.arg1 vs f) Q := by
  match vs with
  | [] => exact .none
  | [x] => exact k x rfl
  | _ :: _ :: _ => exact .none
theorem one_of {μ : Mu} {x : V} {rs : List Value} (h : RelVs μ [x] rs) : ∃ r, rs = [r] ∧ RelV μ x r := by
  cases h with | cons h1 h2 => cases h2; exact ⟨_, rfl, h1⟩
theorem two_of {μ : Mu} {x y : V} {rs : List Value} (h : RelVs μ [x, y] rs) : ∃ r t, rs = [r, t] ∧ RelV μ x r ∧ RelV μ y t := by
  cases h with | cons h1 h2 =>
  obtain ⟨t, rfl, h3⟩ := one_of h2
  exact ⟨_, _, rfl, h1, h3⟩
noncomputable def mbAppend (k : Nat) (v : V) (σ : Sg) : Option (V × Sg) := ob σ.H[k]? fun o => match o with
  | .list l => onT (Nat.ble l.length 1000) (some (.none, σ.withH (σ.H.set k (.list (l ++ [v])))))
  | .slist l => some (.none, ⟨σ.H.set k (.slist (l ++ [v])), σ.ds, (l.length ≤ 1000) :: σ.cs⟩)
  | _ => none
noncomputable def mbPop (k : Nat) (σ : Sg) : Option (V × Sg) := ob σ.H[k]? fun o => match o with
  | .list l => onT (Nat.ble l.length 1000) (ob (unsnoc l) fun z => some (z.2, σ.withH (σ.H.set k (.list z.1))))
  | _ => none
noncomputable def mbGet (k : Nat) (i : Int) (d : V) (σ : Sg) : Option (V × Sg) := ob σ.H[k]? fun o => match o with
  | .dictI es => some ((atD eqI es i).getD d, σ)
  | _ => none
noncomputable def mbJoin (s : Str) (k : Nat) (σ : Sg) : Option (V × Sg) := ob σ.H[k]? fun o => match o with
  | .list l => ob (strsOf l) fun ys => onT (Nat.ble s.length 64) (onT (Nat.ble (sumLens ys + ys.length * 64) 100000) (some (.str (Txt.join s ys), σ)))
  | .slist l => some (.sstr (Txt.join s (l.map strOfV)), ⟨σ.H, σ.ds, ((∀ v ∈ l, isSstr v) ∧ s.length ≤ 64 ∧ sumLens (l.map strOfV) + l.length * 64 ≤ 100000) :: σ.cs⟩)
  | _ => none
noncomputable def mbSplit (s y : Str) (σ : Sg) : Option (V × Sg) := onF (Nat.beq y.length 0) (ob (unary σ.ds 0) fun z =>
  some (.ref σ.H.length, ⟨σ.H ++ [.list ((List.range z.1).map fun i => .sstr ((Txt.split s y).getD i emptyS))], z.2, ((Txt.split s y).length = z.1 ∧ s.length ≤ 1000) :: σ.cs⟩))
noncomputable def callMB (b : MB) (vs : List V) (σ : Sg) : Option (V × Sg) :=
  match b with
  | .append k => arg1 vs fun v => mbAppend k v σ
  | .pop k => (match vs with
    | [] => mbPop k σ
    | _ :: _ => none)
  | .get k => (match vs with
    | [] => none
    | v :: r => arg1 r fun d => match v with
      | .int i => mbGet k i d σ
      | _ => none)
  | .join s => arg1 vs fun v => (match v with
    | .ref k => mbJoin s k σ
    | _ => none)
  | .split s => arg1 vs fun v => (match v with
    | .str y => mbSplit s y σ
    | _ => none)
section
variable {D : Wd} {fx : Fx} {μ : Mu} {m : Str → Option Value} {rest : Ledger} {s : Shared} {A : Around}
theorem methOf_ok {o : V} {x : Str} {σ : Sg} {r : Value} (S : StD D fx μ σ.H m rest s.heap) (hr : RelV μ o r) :
    Post (methOf o x σ) fun b => ∀ {pl : Sem Bool} {Q : Value × List Value → Shared → Prop}, (mbSelf b = o → Q (.builtin (mbId b), [r]) s) → wpAny (model D.prog D.w) A (getMethod r x pl) Q NoE s := by
  cases o with
  | ref k =>
    obtain ⟨a, d, hk, rfl⟩ := hr
    refine .ob fun o ho => ?_
    cases o with
    | list l =>
      obtain ⟨led, its, n, N, nd, al, h1, h2, hL, _⟩ := seq_of S (.inl ho) hk
      refine .sel (fun hx => .pure fun q => ?_) fun _ => .onT fun hx => .pure fun q => ?_
      · rw [eqS_iff.mp hx]; exact kl_method N (List.mem_append_left _ h1) PySem.F.slot_list_append PySem.F.type_list_append (q rfl)
      · rw [eqS_iff.mp hx]; exact kl_method N (List.mem_append_left _ h1) PySem.F.slot_list_pop PySem.F.type_list_pop (q rfl)
    | slist l =>
      obtain ⟨led, its, n, N, nd, al, h1, h2, hL, _⟩ := seq_of S (.inr ho) hk
      refine .onT fun hx => .pure fun q => ?_
      rw [eqS_iff.mp hx]; exact kl_method N (List.mem_append_left _ h1) PySem.F.slot_list_append PySem.F.type_list_append (q rfl)
    | dictI es =>
      obtain ⟨p, led, hp, N, nd, al, _, ob, kvs, h1, h2, h3, h4⟩ := S.obj ho
      cases hk.symm.trans hp
      refine .onT fun hx => .pure fun q => ?_
      rw [eqS_iff.mp hx]; exact kdg_method N (List.mem_append_left _ h1) h3 (q rfl)
    | _ => exact .none
  | str t =>
    obtain ⟨t, rfl⟩ := hr
    refine .onT fun hx => .pure fun q => ?_
    rw [eqS_iff.mp hx]; exact GM.join (q rfl)
  | sstr t =>
    obtain ⟨t, rfl⟩ := hr
    refine .onT fun hx => .pure fun q => ?_
    rw [eqS_iff.mp hx]; exact GM.split (q rfl)
  | _ => exact .none
theorem sstr_rel {μ : Mu} {vs : List Value} {ys : List Str} {k : Nat} (hk : ys.length = k) (h : StrsAre vs ys) : RelVs μ ((List.range k).map fun i => .sstr (ys.getD i emptyS)) vs := by
  have h1 : (List.range k).map (fun i => V.sstr (ys.getD i emptyS)) = ys.map .sstr := by
    apply List.ext_getElem
    · simp [hk]
    · intro i a b
      simp at a b
      simp [b]
  rw [h1]
  clear h1 hk
  induction h with
  | nil => exact .nil
  | cons x t _ ih => exact .cons ⟨t, rfl⟩ ih
end
noncomputable def MbR (b : MB) (vs : List V) (σ : Sg) (p : V × Sg) : Prop := σ.le p.2 ∧ (p.2.ok → ∀ (c : Cx) (r : Value) (rs : List Value) (Q : Value → Shared → Prop), StD c.D c.fx c.μ σ.H c.m c.rest c.s.heap → RelV c.μ (mbSelf b) r → RelVs c.μ vs rs →
    PostG c.D c.fx p.2.H (relV p.1) c.μ c.m c.rest c.s Q → wpAny (model c.D.prog c.D.w) c.A (call (.builtin (mbId b)) (r :: rs)) Q NoE c.s)
theorem append_rel {k : Nat} {H : List O} {l : List V} {v : V} {o : O} {r : Value} {rs : List Value} {Q : Value → Shared → Prop} (c : Cx) (S : StD c.D c.fx c.μ H c.m c.rest c.s.heap) (ho : H[k]? = some (.list l) ∨ H[k]? = some (.slist l)) (hoo : o = .list (l ++ [v]) ∨ o = .slist (l ++ [v]))
    (hr : RelV c.μ (.ref k) r) (hv : RelVs c.μ [v] rs) (hl : l.length ≤ 1000) (P : PostG c.D c.fx (H.set k o) (relV .none) c.μ c.m c.rest c.s Q) : wpAny (model c.D.prog c.D.w) c.A (call (.builtin (mbId (.append k))) (r :: rs)) Q NoE c.s := by
  obtain ⟨a, d, hk, rfl⟩ := hr
  obtain ⟨x, rfl, h1⟩ := one_of hv
  obtain ⟨led, its, n, N, nd, al, hm, hrel, hL, hd⟩ := seq_of S ho hk
  have hlen := hrel.length
  refine append_K S.fr N (upd_of (List.mem_append_left _ hm) nd) (fun h' F' N' => ?_) (le_sizeLine (by simp; (first | decide | lia | omega)))
  refine P.at _ rfl (S.turn nd al hk (.inl rfl) hm F' N' ?_)
  have z : ∃ its' n', (a, W.listOf (List.toArray its') n') ∈ setA led a (W.listOf (its.toArray.push x) (n + 1)) ∧ RelVs c.μ (l ++ [v]) its' := ⟨its ++ [_], n + 1, by rw [← List.push_toArray]; exact setA_mem hm, hrel.append (.one h1)⟩
  rcases hoo with rfl | rfl <;> exact ⟨hd, z⟩
theorem mbAppend_ok {k : Nat} {v : V} {σ : Sg} : Post (mbAppend k v σ) (MbR (.append k) [v] σ) := by
  refine .ob fun o ho => ?_
  cases o with
  | list l => exact .le fun hl => .pure ⟨Sg.le_withH _ _, fun _ c r rs Q S hr hv P => append_rel c S (.inl ho) (.inl rfl) hr hv hl P⟩
  | slist l => exact .pure ⟨⟨[_], rfl⟩, fun ok c r rs Q S hr hv P => append_rel c S (.inr ho) (.inr rfl) hr hv (ok _ (.head _)) P⟩
  | _ => exact .none
theorem mbPop_ok {k : Nat} {σ : Sg} : Post (mbPop k σ) (MbR (.pop k) [] σ) := by
  refine .ob fun o ho => ?_
  cases o with
  | list l =>
    refine .le fun hl => .ob fun z hu => .pure ⟨Sg.le_withH _ _, fun _ c r rs Q S hr hv P => ?_⟩
    obtain ⟨a, d, hk, rfl⟩ := hr
    cases hv
    obtain ⟨led, its, n, N, nd, al, hm, hrel, hL, hd⟩ := seq_of S (.inl ho) hk
    have hlen := hrel.length
    have hs := unsnoc_spec hu
    subst hs
    obtain ⟨its', y, rfl, h1, h2⟩ := hrel.snoc_inv
    refine kl_pop S.fr N (kl_last_snoc its' y) (upd_of (List.mem_append_left _ hm) nd) (le_sizeLine (by simp at hlen hl ⊢; (first | decide | lia | omega))) fun h' F' N' => ?_
    exact P.at _ h2 (S.turn nd al hk (.inl rfl) hm F' N' ⟨hd, its', n + 1, setA_mem hm, h1⟩)
  | _ => exact .none
theorem mbGet_ok {k : Nat} {i : Int} {d : V} {σ : Sg} : Post (mbGet k i d σ) (MbR (.get k) [.int i, d] σ) := by
  refine .ob fun o ho => ?_
  cases o with
  | dictI es =>
    refine .pure ⟨.refl _, fun _ c r rs Q S hr hv P => ?_⟩
    obtain ⟨a, d', hk, rfl⟩ := hr
    obtain ⟨_, r2, rfl, ⟨t, rfl⟩, h2⟩ := two_of hv
    obtain ⟨p, led, hp, N, nd, al, _, ob, kvs, g1, g2, g3, g4⟩ := S.obj ho
    cases hk.symm.trans hp
    have z := atD_rel eqI_he (x := i) g4
    have P' : ∀ r' tk, RelV c.μ ((atD eqI es i).getD d) r' → Q r' { c.s with toks := tk } := fun r' tk h => P.here tk h S
    cases hat : atD eqI es i with
    | some v =>
      rw [hat] at z P'
      obtain ⟨r', z1, z2⟩ := z
      exact kdg_get2 N (List.mem_append_left _ g1) g3 g2 (intKind_is _ _ _ _) _ z1 (P' _ _ z2)
    | none =>
      rw [hat] at z P'
      exact kdg_get2 N (List.mem_append_left _ g1) g3 g2 (intKind_is _ _ _ _) _ z (P' _ _ h2)
  | _ => exact .none
theorem join_rel {x : Str} {k : Nat} {H : List O} {l : List V} {ys : List Str} {y : V} {r : Value} {rs : List Value} {Q : Value → Shared → Prop} (c : Cx) (S : StD c.D c.fx c.μ H c.m c.rest c.s.heap) (ho : H[k]? = some (.list l) ∨ H[k]? = some (.slist l))
    (hst : ∀ {its}, RelVs c.μ l its → StrsAre its ys) (b1 : x.length ≤ 64) (b2 : sumLens ys + ys.length * 64 ≤ 100000) (hy : ∀ t, RelV c.μ y (.str (Txt.join x ys) t))
    (hr : RelV c.μ (.str x) r) (hv : RelVs c.μ [.ref k] rs) (P : PostG c.D c.fx H (relV y) c.μ c.m c.rest c.s Q) : wpAny (model c.D.prog c.D.w) c.A (call (.builtin (mbId (.join x))) (r :: rs)) Q NoE c.s := by
  obtain ⟨t, rfl⟩ := hr
  obtain ⟨_, rfl, a, d, hk, rfl⟩ := one_of hv
  obtain ⟨led, its, n, N, nd, al, hm, hrel, hL, hd⟩ := seq_of S ho hk
  rw [← sumLens_eq] at b2
  exact join_listC hL (hst hrel) b1 (by (first | decide | lia | omega)) fun t' k => P.here _ (hy _) S
theorem mbJoin_ok {x : Str} {k : Nat} {σ : Sg} : Post (mbJoin x k σ) (MbR (.join x) [.ref k] σ) := by
  refine .ob fun o ho => ?_
  cases o with
  | list l => exact .ob fun ys hst => .le fun b1 => .le fun b2 => .pure ⟨.refl _, fun _ c r rs Q S hr hv P => join_rel (y := .str _) c S (.inl ho) (fun h => strsOf_ok hst h) b1 b2 (fun t => ⟨t, rfl⟩) hr hv P⟩
  | slist l =>
    refine .pure ⟨⟨[_], rfl⟩, fun ok c r rs Q S hr hv P => ?_⟩
    obtain ⟨c1, c2, c3⟩ := ok _ (.head _)
    exact join_rel (y := .sstr _) c S (.inr ho) (fun h => sstrs_are c1 h) c2 (by rw [List.length_map]; exact c3) (fun t => ⟨t, rfl⟩) hr hv P
  | _ => exact .none
theorem mbSplit_ok {x y : Str} {σ : Sg} : Post (mbSplit x y σ) (MbR (.split x) [.str y] σ) := by
  refine .onF fun hy => .ob fun z hu => .pure ⟨⟨[_], rfl⟩, fun ok c r rs Q S hr hv P => ?_⟩
  obtain ⟨c1, c2⟩ := ok _ (.head _)
  obtain ⟨t, rfl⟩ := hr
  obtain ⟨_, rfl, u, rfl⟩ := one_of hv
  obtain ⟨led, N, nd, al⟩ := S.ex
  refine splitN1A S.fr N (by rw [show (_ == 0) = Nat.beq _ 0 from by rw [Bool.eq_iff_iff, beq_iff_eq, Nat.beq_eq]]; exact hy) (fun lv h' k hm hS _ _ F' N' => ?_) (le_sizeLine (by (first | decide | lia | omega)))
  refine P _ [(c.s.heap.objs.size, c.s.heap.objs.size)] h' _ ⟨_, _, H_ref S.len _, rfl⟩ (S.grow nd al F' N' (fun p hp => Heap.lt_size (N p hp).1) ⟨rfl, strValues lv, 0, .head _, ?_⟩)
  rw [hm] at hS
  exact sstr_rel c1 hS
theorem callMB_post {b : MB} {vs : List V} {σ : Sg} : Post (callMB b vs σ) (MbR b vs σ) := by
  cases b with
  | append k => exact .arg1 fun v e => e ▸ mbAppend_ok
  | pop k =>
    cases vs with
    | nil => exact mbPop_ok
    | cons => exact .none
  | get k =>
    cases vs with
    | nil => exact .none
    | cons v r =>
      refine .arg1 fun d e => ?_
      subst e
      cases v with
      | int i => exact mbGet_ok
      | _ => exact .none
  | join x =>
    refine .arg1 fun v e => ?_
    subst e
    cases v with
    | ref k => exact mbJoin_ok
    | _ => exact .none
  | split x =>
    refine .arg1 fun v e => ?_
    subst e
    cases v with
    | str y => exact mbSplit_ok
    | _ => exact .none
end Mine
end
section
open PySem PySem.W PyProof.Rows PySem.Calls PySem.Spec
namespace Mine

noncomputable def okBase : PySem.Expr → Bool
  | .Call (.Name _ _) [] [] _ => false
  | _ => true
theorem attributeBase_of {o : PySem.Expr} (h : okBase o = true) (attr : Str) (env : Env) (whole : Sem Value) : attributeBase o attr env whole = whole := by
  cases o with
  | Call f args kws p =>
    cases f with
    | Name x q =>
      cases args with
      | nil =>
        cases kws with
        | nil => exact Bool.noConfusion h
        | cons => rfl
      | cons => rfl
    | _ => rfl
  | _ => rfl
noncomputable def linesEq (a b : Pos) : Bool := Nat.beq a.endLine b.line
theorem methodCall_gen {M : Model} {A : Around} {E : Value → Shared → Prop} {s : Shared} {env : Env} {o : PySem.Expr} {name : Str} {apos pos : Pos} {args : List PySem.Expr} {Q : Value → Shared → Prop}
    (hb : okBase o = true) (hl : linesEq apos pos = true) (hs : noStars args = true) (hn : Nat.blt args.length 29 = true)
    (h : wpAny M A (eval o env) (fun ov s₁ => ∀ pl : Sem Bool, wpAny M A (getMethod ov name pl) (fun fx s₂ => wpAny M A (callWith pos fx.1 fx.2 (backTo pos (starEach args env)) []) Q E s₂) E s₁) E s) :
    wpAny M A (eval (.Call (.Attribute o name apos) args [] pos) env) Q E s := by
  have hform : methodCallForm (args.length + ([] : List Keyword).length) (backTo pos (starEach args env)) (backToKw pos (keywordEach [] env)) = true := by
    unfold methodCallForm
    rw [noStars_all hs]
    show (true && true && decide (args.length + 0 < 30)) = true
    exact decide_eq_true (Nat.lt_succ_of_lt (Nat.le_of_ble_eq_true hn))
  have hpos : methodCallPos true o env apos pos = pure pos := by
    unfold methodCallPos
    have : (apos.endLine == pos.line) = true := beq_iff_eq.mpr (Nat.eq_of_beq_eq_true hl)
    simp [this]
  rw [arm_eval_Call, attributeBase_of hb]
  refine wpAny_bind (wpAny_mono h (fun ov s₁ h₁ => wpAny_bind (wpAny_standAt ?_)) fun _ _ e => e)
  unfold methodCall
  rw [hform]
  refine wpAny_bind (wpAny_holding ?_)
  show wpAny M A (calleeOf true o env ov name) _ _ _
  unfold calleeOf
  rw [if_pos rfl]
  refine wpAny_mono (h₁ _) (fun fx s₂ h₂ => wpAny_bind (wpAny_of_eq hpos h₂)) fun _ _ e => e
noncomputable def methInst (T : Tabs) (o : V) (x : Str) (σ : Sg) : Option Addr := ob (refOf o) fun k => ob σ.H[k]? fun o => ob (instAny o) fun p => ob (lkN T.cl p.1) fun c => optE (lkS p.2 (code x)) (fun _ => none) (lkS c.meth (code x))
noncomputable def callable (T : Tabs) (a : Addr) : Bool := match lkN T.fn a with
  | some _ => true
  | none => match lkN T.cl a with
    | some _ => true
    | none => false
theorem callable_keep {D : Wd} {T : Tabs} (hT : TabsOk D T) {a : Addr} (h : callable T a = true) : keepIn D.K (.ref a) = true := by
  cases h1 : lkN T.fn a with
  | some F => exact hT.kfn _ (lkN_mem h1)
  | none =>
    cases h2 : lkN T.cl a with
    | some c => exact hT.kcl _ (lkN_mem h2)
    | none => unfold callable at h; rw [h1, h2] at h; exact nomatch h
theorem biVal_is : ∀ {b : Nat}, Nat.blt b 12 = true → (∃ i, biVal b = .builtin i) ∨ ∃ t, biVal b = .type t
  | 0, _ => .inl ⟨_, rfl⟩
  | 1, _ => .inr ⟨_, rfl⟩
  | 2, _ => .inl ⟨_, rfl⟩
  | 3, _ => .inl ⟨_, rfl⟩
  | 4, _ => .inl ⟨_, rfl⟩
  | 5, _ => .inr ⟨_, rfl⟩
  | 6, _ => .inl ⟨_, rfl⟩
  | 7, _ => .inr ⟨_, rfl⟩
  | 8, _ => .inr ⟨_, rfl⟩
  | 9, _ => .inl ⟨_, rfl⟩
  | 10, _ => .inl ⟨_, rfl⟩
  | 11, _ => .inl ⟨_, rfl⟩
  | _ + 12, h => absurd (Nat.le_of_ble_eq_true h) (by (first | decide | lia | omega))
noncomputable def evCallM (T : Tabs) (r : Rec) (ne : NE) (o : PySem.Expr) (x : Str) (args : List PySem.Expr) (σ : Sg) : Option (V × Sg) :=
  bnd (r.ev ne o σ) fun ov σ => optE (methInst T ov x σ) (fun g => onT (callable T g) (bnd (evList r ne args σ) fun vs σ => r.call (.val g) (ov :: vs) σ))
    (ob (methOf ov x σ) fun mb => bnd (evList r ne args σ) fun vs σ => callMB mb vs σ)
noncomputable def evCallN (T : Tabs) (r : Rec) (ne : NE) (e : PySem.Expr) (args : List PySem.Expr) (σ : Sg) : Option (V × Sg) :=
  bnd (r.ev ne e σ) fun fv σ => match fv with
    | .val a => onT (callable T a) (bnd (evList r ne args σ) fun vs σ => r.call (.val a) vs σ)
    | .bi b => onT (Nat.blt b 12) (match args with
      | [] => none
      | _ :: _ => bnd (evList r ne args σ) fun vs σ => callBi b vs σ)
    | _ => none
noncomputable def evCall (T : Tabs) (r : Rec) (ne : NE) (f : PySem.Expr) (args : List PySem.Expr) (pos : Pos) (σ : Sg) : Option (V × Sg) :=
  match f with
  | .Attribute o x apos => onT (okBase o) (onT (linesEq apos pos) (onT (Nat.blt args.length 29) (evCallM T r ne o x args σ)))
  | .Name x p => evCallN T r ne (.Name x p) args σ
  | _ => none
section
variable {D : Wd} {n : Nat} {T : Tabs} {r : Rec}
theorem methInst_ok (hT : TabsOk D T) {fx : Fx} {μ : Mu} {m : Str → Option Value} {rest : Ledger} {s : Shared} {A : Around} {o : V} {x : Str} {σ : Sg} {g : Addr} {ro : Value} {pl : Sem Bool} {Q : Value × List Value → Shared → Prop} (e : methInst T o x σ = some g) (ok : fx.Ok D) (S : StD D fx μ σ.H m rest s.heap) (hr : RelV μ o ro)
    (q : Q (.ref g, [ro]) s) : wpAny (model D.prog D.w) A (getMethod ro x pl) Q NoE s := by
  refine ob_ e fun k hk e => ob_ e fun o' ho e => ob_ e fun p hp e => ob_ e fun c hc e => Post.optE (Q := fun g => Q (.ref g, [ro]) s → wpAny (model D.prog D.w) A (getMethod ro x pl) Q NoE s) (fun _ _ => .none) (fun hv g hg q => ?_) _ e q
  cases refOf_ok hk
  obtain ⟨a, d, hk, rfl⟩ := hr
  obtain ⟨p', led, es, n, hp', N, nd, al, h1, h2, h3, hne, I⟩ := inst_of S (ho.trans (congrArg some (instAny_ok hp)))
  cases hk.symm.trans hp'
  have C' := hT.cl _ (lkN_mem hc)
  obtain ⟨o, g0, _, g1⟩ := getL_of (x := x) h3
  obtain ⟨m1, m2⟩ := C'.meth _ (lkS_mem hg)
  exact method_inst S.fr ok.X I C'.plain m1 m2 (g0.trans (congrArg some (g1 hv))) q
theorem callOwn_ok (hT : TabsOk D T) (ro : RecOk D n r) {ne : NE} {args : List PySem.Expr} {pos : Pos} {g : Addr} {first : List V} {σ σ₁ σ' : Sg} {vs : List V} {v : V} (hk : callable T g = true) (h1 : evList r ne args σ = some (vs, σ₁)) (h2 : r.call (.val g) (first ++ vs) σ₁ = some (v, σ')) :
    σ.le σ' ∧ (σ'.ok → ∀ {fx : Fx} {env : Env} {dp un : Nat} {μ : Mu} {m : Str → Option Value} {rest : Ledger} {s : Shared} {Q : Value → Shared → Prop} {fr : List Value}, fx.Ok D → Room n dp un → EnvOk fx env ne μ m rest → StD D fx μ σ.H m rest s.heap → RelVs μ first fr →
      PostG D fx σ'.H (relV v) μ m rest s Q → wpAny (model D.prog D.w) (fx.A dp un) (callWith pos (.ref g) fr (backTo pos (starEach args env)) []) Q NoE s) := by
  obtain ⟨ns, le1, x1⟩ := evList_ok ro h1
  obtain ⟨le2, x2⟩ := ro.call _ _ _ _ _ h2
  refine ⟨le1.trans le2, fun ok {fx env dp un μ m rest s Q fr} okx room eo S hf P => ?_⟩
  have y1 := x1 (le2.ok ok)
  have y2 := x2 ok
  have body : wpAny (model D.prog D.w) (fx.A dp un) (spliced (backTo pos (starEach args env))) (fun rs s₁ => D.K.In s₁.heap ∧ wpAny (model D.prog D.w) (fx.A dp un) (call (.ref g) (fr ++ rs)) Q NoE s₁) NoE s := by
    refine y1 fx env pos dp un μ m rest s _ okx room eo S fun rs more h' tk' rel S' => ⟨okx.X.keeps S'.fr.keep, ?_⟩
    exact y2.call (s := { s with heap := h', toks := tk' }) okx room S' rfl (RelVs.ext hf |>.append rel) P.next
  cases args with
  | nil => cases h1; exact callWith_K0 (okx.X.keeps S.fr.keep) (callable_keep hT hk) (y2.call okx room S rfl (hf.append .nil) P)
  | cons e es => exact callWith_K okx.X (callable_keep hT hk) body (starEach_cons (noStars_hd ns) _ _) (noStars_any (noStars_tl ns))
noncomputable def EvG (D : Wd) (n : Nat) (ne : NE) (e : PySem.Expr) (σ : Sg) (p : V × Sg) : Prop := σ.le p.2 ∧ (p.2.ok → EvT D n ne e σ.H p.1 p.2.H)
theorem evCallM_ok (hT : TabsOk D T) (ro : RecOk D n r) {ne : NE} {o : PySem.Expr} {x : Str} {apos pos : Pos} {args : List PySem.Expr} {σ : Sg} (hb : okBase o = true) (hl : linesEq apos pos = true) (hn : Nat.blt args.length 29 = true) :
    Post (evCallM T r ne o x args σ) (EvG D n ne (.Call (.Attribute o x apos) args [] pos) σ) := by
  refine .bnd fun ov σ₁ h1 => ?_
  obtain ⟨le1, x1⟩ := ro.ev _ _ _ _ _ h1
  refine .optE (fun g hg => .onT fun hk => .bnd fun vs σ₂ h2 p h3 => ?_) fun _ => .ob fun mb hg => .bnd fun vs σ₂ h2 p h3 => ?_
  · obtain ⟨le2, x2⟩ := callOwn_ok (pos := pos) (first := [ov]) hT ro hk h2 h3
    refine ⟨le1.trans le2, fun ok fx env dp un μ m rest s Q okx room eo S P => ?_⟩
    refine methodCall_gen hb hl (evList_ok ro h2).1 hn (x1 (le2.ok ok) fx env dp un μ m rest s _ okx room eo S fun rv more h' tk' rel S' pl => ?_)
    exact methInst_ok (s := { s with heap := h', toks := tk' }) hT hg okx S' rel (x2 ok okx room eo.ext S' (.one rel) P.next)
  · obtain ⟨ns, le2, x2⟩ := evList_ok ro h2
    obtain ⟨le3, x3⟩ := callMB_post _ h3
    refine ⟨le1.trans (le2.trans le3), fun ok fx env dp un μ m rest s Q okx room eo S P => ?_⟩
    refine methodCall_gen hb hl ns hn (x1 ((le2.trans le3).ok ok) fx env dp un μ m rest s _ okx room eo S fun rv more h' tk' rel S' pl => ?_)
    refine methOf_ok (s := { s with heap := h', toks := tk' }) S' rel _ hg fun hself => ?_
    subst hself
    have body : wpAny (model D.prog D.w) (fx.A dp un) (spliced (backTo pos (starEach args env))) (fun rs s₁ => wpAny (model D.prog D.w) (fx.A dp un) (call (.builtin (mbId mb)) ([rv] ++ rs)) Q NoE s₁) NoE { s with heap := h', toks := tk' } :=
      x2 (le3.ok ok) fx env pos dp un _ m rest _ _ okx room eo.ext S' fun rs more' h'' tk'' rel' S'' =>
        x3 ok ⟨D, fx, _, m, rest, { s with heap := h'', toks := tk'' }, fx.A dp un, rfl⟩ _ rs Q S'' rel.ext rel' P.next.next
    cases args with
    | nil => cases h2; exact callWith_method0 (x3 ok ⟨D, fx, _, m, rest, { s with heap := h', toks := tk' }, fx.A dp un, rfl⟩ _ [] Q S' rel .nil P.next)
    | cons e es => exact callWith_method1 body (starEach_cons (noStars_hd ns) _ _) (noStars_any (noStars_tl ns))
theorem evCallN_ok (hT : TabsOk D T) (ro : RecOk D n r) {ne : NE} {x : Str} {q : Pos} {args : List PySem.Expr} {pos : Pos} {σ : Sg} :
    Post (evCallN T r ne (.Name x q) args σ) (EvG D n ne (.Call (.Name x q) args [] pos) σ) := by
  refine .bnd fun fv σ₁ h1 => ?_
  obtain ⟨le1, x1⟩ := ro.ev _ _ _ _ _ h1
  cases fv with
  | val a =>
    refine .onT fun hk => .bnd fun vs σ₂ h2 p h3 => ?_
    obtain ⟨le2, x2⟩ := callOwn_ok (pos := pos) (first := []) hT ro hk h2 h3
    refine ⟨le1.trans le2, fun ok fx env dp un μ m rest s Q okx room eo S P => ?_⟩
    refine Call_ (x1 (le2.ok ok) fx env dp un μ m rest s _ okx room eo S fun rv more h' tk' rel S' => ?_)
    cases (show rv = .ref a from rel)
    exact x2 (s := { s with heap := h', toks := tk' }) ok okx room eo.ext S' .nil P.next
  | bi b =>
    refine .onT fun hb => ?_
    cases args with
    | nil => exact .none
    | cons e0 es =>
      refine .bnd fun vs σ₂ h2 p h3 => ?_
      obtain ⟨ns, le2, x2⟩ := evList_ok ro h2
      obtain ⟨le3, x3⟩ := callBi_post _ h3
      refine ⟨le1.trans (le2.trans le3), fun ok fx env dp un μ m rest s Q okx room eo S P => ?_⟩
      refine Call_ (x1 ((le2.trans le3).ok ok) fx env dp un μ m rest s _ okx room eo S fun rv more h' tk' rel S' => ?_)
      cases (show rv = biVal b from rel)
      have body : wpAny (model D.prog D.w) (fx.A dp un) (spliced (backTo pos (starEach (e0 :: es) env))) (fun rs s₁ => wpAny (model D.prog D.w) (fx.A dp un) (call (biVal b) rs) Q NoE s₁) NoE { s with heap := h', toks := tk' } :=
        x2 (le3.ok ok) fx env pos dp un _ m rest _ _ okx room eo.ext S' fun rs more' h'' tk'' rel' S'' =>
          x3 ok ⟨D, fx, _, m, rest, { s with heap := h'', toks := tk'' }, fx.A dp un, rfl⟩ rs Q S'' rel' P.next.next
      rcases biVal_is hb with ⟨i, hi⟩ | ⟨t, hi⟩
      · rw [hi] at body ⊢; exact PyProof.Rows.callWith_builtin1 body (starEach_cons (noStars_hd ns) _ _) (noStars_any (noStars_tl ns))
      · rw [hi] at body ⊢; exact PySem.Pv.callWith_type1 body (starEach_cons (noStars_hd ns) _ _) (noStars_any (noStars_tl ns))
  | _ => exact .none
theorem evCall_post (hT : TabsOk D T) (ro : RecOk D n r) {ne : NE} {f : PySem.Expr} {args : List PySem.Expr} {pos : Pos} {σ : Sg} : Post (evCall T r ne f args pos σ) (EvG D n ne (.Call f args [] pos) σ) := by
  cases f with
  | Attribute o x apos => exact .onT fun hb => .onT fun hl => .onT fun hn => evCallM_ok hT ro hb hl hn
  | Name x p => exact evCallN_ok hT ro
  | _ => exact .none
end
end Mine
end
section
open PySem PySem.W PyProof.Rows PySem.Calls PySem.Spec
namespace Mine

structure Kt where
  tups : List (Nat × List Str)
  dicts : List (Nat × List (Int × V))
structure KtOk (D : Wd) (k : Kt) : Prop where
  tup : ∀ p ∈ k.tups, ∃ o items n, D.K.lookup p.1 = some o ∧ o.cls = .type "tuple" ∧ o.data = .seq items n ∧ StrsAre items.toList p.2
  dict : ∀ p ∈ k.dicts, ∃ o kvs, D.K.lookup p.1 = some o ∧ o.IsDictOf (PySem.intKind D.prog D.w) kvs ∧ All2 (PairRel []) p.2 kvs ∧ (p.1 == sysModules) = false
structure Orc where
  eorc : NE → PySem.Expr → Sg → Option (V × Sg)
  corc : CmpOp → V → V → Sg → Option (V × List Prop)
  sorc : V → V → Sg → Option (V × Sg)
noncomputable def COrcOk (D : Wd) (n : Nat) (corc : CmpOp → V → V → Sg → Option (V × List Prop)) : Prop := ∀ op a b σ v cs, corc op a b σ = some (v, cs) → (∀ c ∈ cs, c) → ∀ {fx : Fx} {dp un : Nat} {μ : Mu} {m : Str → Option Value} {rest : Ledger} {s : Shared} {Q : Value → Shared → Prop} {ra rb : Value},
  fx.Ok D → Room n dp un → StD D fx μ σ.H m rest s.heap → RelV μ a ra → RelV μ b rb → PostG D fx σ.H (relV v) μ m rest s Q → wpAny (model D.prog D.w) (fx.A dp un) (compareOp op ra rb) Q NoE s
noncomputable def SorcP (D : Wd) (n : Nat) (a b : V) (σ : Sg) (p : V × Sg) : Prop := σ.le p.2 ∧ (p.2.ok → ∀ {fx : Fx} {dp un : Nat} {μ : Mu} {m : Str → Option Value} {rest : Ledger} {s : Shared} {Q : Value → Shared → Prop} {ra rb : Value} {value slice : PySem.Expr},
  isSlice slice = false → fx.Ok D → Room n dp un → StD D fx μ σ.H m rest s.heap → RelV μ a ra → RelV μ b rb → PostG D fx p.2.H (relV p.1) μ m rest s Q → wpAny (model D.prog D.w) (fx.A dp un) (subscriptTail value slice ra rb) Q NoE s)
noncomputable def SOrcOk (D : Wd) (n : Nat) (sorc : V → V → Sg → Option (V × Sg)) : Prop := ∀ a b σ v σ', sorc a b σ = some (v, σ') → SorcP D n a b σ (v, σ')
noncomputable def EOrcOk (D : Wd) (n : Nat) (eorc : NE → PySem.Expr → Sg → Option (V × Sg)) : Prop := ∀ ne e σ v σ', eorc ne e σ = some (v, σ') → σ.le σ' ∧ (σ'.ok → EvT D n ne e σ.H v σ'.H)
structure OrOk (D : Wd) (n : Nat) (o : Orc) : Prop where
  e : EOrcOk D n o.eorc
  c : COrcOk D n o.corc
  s : SOrcOk D n o.sorc

noncomputable def lstAt (H : List O) (v : V) : Option (List V × Bool) := match v with
  | .ref k => ob H[k]? fun o => (match o with
    | .list l => some (l, true)
    | .slist l => some (l, false)
    | _ => none)
  | _ => none
noncomputable def nilL (H : List O) (v : V) : Bool := match lstAt H v with
  | some z => (match z.1 with
    | [] => true
    | _ :: _ => false)
  | none => false
noncomputable def isNilV : List V → Bool
  | [] => true
  | _ :: _ => false
noncomputable def anyS : List Str → Str → Bool
  | [], _ => false
  | y :: r, x => match eqS y x with
    | true => true
    | false => anyS r x
theorem anyS_eq (x : Str) : ∀ l : List Str, l.any (· == x) = anyS l x
  | [] => rfl
  | y :: r => by
    unfold anyS
    rw [List.any_cons, beq_eqS, anyS_eq x r]
    cases eqS y x <;> rfl
noncomputable def intsOf : List V → Option (List Int × Bool)
  | [] => some ([], true)
  | v :: r => match v with
    | .int s => ob (intsOf r) fun z => some (s :: z.1, z.2)
    | .sint s => ob (intsOf r) fun z => some (s :: z.1, false)
    | _ => none
theorem intsOf_post {μ : Mu} {vs : List V} : Post (intsOf vs) fun z => ∀ {rs : List Value}, RelVs μ vs rs → IntsAre rs z.1 := by
  induction vs with
  | nil => exact .pure fun h => by cases h; exact .nil
  | cons v r ih =>
    have K : ∀ {s : Int} {l : List Int} {rs : List Value}, (∀ {rs}, RelVs μ r rs → IntsAre rs l) → (∀ w, RelV μ v w → ∃ t, w = .int s t) → RelVs μ (v :: r) rs → IntsAre rs (s :: l) := fun hl hv h => by
      obtain ⟨w, ws, rfl, h1, h2⟩ := cons_of h
      obtain ⟨t, rfl⟩ := hv w h1
      exact .cons _ t (hl h2)
    cases v with
    | int s => exact .ob fun z hz => .pure fun h => K (ih z hz) (fun _ h => h) h
    | sint s => exact .ob fun z hz => .pure fun h => K (ih z hz) (fun _ h => h) h
    | _ => exact .none
noncomputable def anyI : List Int → Int → Bool
  | [], _ => false
  | y :: r, x => match decide (y = x) with
    | true => true
    | false => anyI r x
theorem anyI_eq (x : Int) : ∀ l : List Int, l.any (· == x) = anyI l x
  | [] => rfl
  | y :: r => by
    unfold anyI
    rw [List.any_cons, anyI_eq x r, show (y == x) = decide (y = x) from rfl]
    cases decide (y = x) <;> rfl
noncomputable def inT (a : V) (vs : List V) : Option (Bool × Bool) := match a with
  | .str x => ob (strsOf vs) fun l => some (anyS l x, true)
  | .sstr x => ob (strsOf vs) fun l => some (anyS l x, false)
  | .int x => ob (intsOf vs) fun z => some (anyI z.1 x, z.2)
  | .sint x => ob (intsOf vs) fun z => some (anyI z.1 x, false)
  | _ => none
noncomputable def inV (kt : Kt) (a b : V) (H : List O) : Option (Bool × Bool) :=
  match b with
  | .ref k => ob H[k]? fun o => (match o with
    | .tuple vs => inT a vs
    | _ => none)
  | .val t => (match a with
    | .str x => ob (lkN kt.tups t) fun l => some (anyS l x, true)
    | .int x => ob (lkN kt.dicts t) fun es => some (hasD eqI es x, true)
    | _ => none)
  | _ => none
noncomputable def boolV : Bool × Bool → V
  | (b, true) => .bool b
  | (b, false) => .sbool b
theorem boolV_rel {μ : Mu} {b k : Bool} {r : Value} (h : r = .bool b) : RelV μ (boolV (b, k)) r := by
  cases k <;> exact h
noncomputable def cmpH (kt : Kt) (op : CmpOp) (a b : V) (σ : Sg) : Option V := match op with
  | .Eq => onT (nilL σ.H b) (ob (lstAt σ.H a) fun z => some (boolV (isNilV z.1, z.2)))
  | .NotEq => onT (nilL σ.H b) (ob (lstAt σ.H a) fun z => some (boolV (!isNilV z.1, z.2)))
  | .In => ob (inV kt a b σ.H) fun r => some (boolV r)
  | .NotIn => ob (inV kt a b σ.H) fun r => some (boolV (!r.1, r.2))
  | _ => none
noncomputable def cmpN (kt : Kt) (op : CmpOp) (a b : V) (σ : Sg) : Option V := optE (cmpV op a b) some (cmpH kt op a b σ)
noncomputable def cmpX (kt : Kt) (o : Orc) (op : CmpOp) (a b : V) (σ : Sg) : Option (V × Sg) :=
  optE (o.corc op a b σ) (fun z => some (z.1, ⟨σ.H, σ.ds, z.2 ++ σ.cs⟩)) (ob (cmpN kt op a b σ) fun v => some (v, σ))
section
variable {D : Wd} {n : Nat} {fx : Fx} {dp un : Nat} {μ : Mu} {H : List O} {m : Str → Option Value} {rest : Ledger} {s : Shared}
theorem lstAt_ok {a : V} {l : List V} {k : Bool} {r : Value} (e : lstAt H a = some (l, k)) (S : StD D fx μ H m rest s.heap) (hr : RelV μ a r) : ∃ ad its, r = .ref ad ∧ s.heap.IsList ad (List.toArray its) ∧ RelVs μ l its := by
  suffices h : Post (lstAt H a) fun z => ∃ ad its, r = .ref ad ∧ s.heap.IsList ad (List.toArray its) ∧ RelVs μ z.1 its from h _ e
  clear e
  cases a with
  | ref k =>
    obtain ⟨a, d, hk, rfl⟩ := hr
    have K : ∀ {l}, (H[k]? = some (.list l) ∨ H[k]? = some (.slist l)) → ∃ ad its, Value.ref a = .ref ad ∧ s.heap.IsList ad (List.toArray its) ∧ RelVs μ l its := fun ho => by
      obtain ⟨led, its, n, N, nd, al, h1, h2, hL, _⟩ := seq_of S ho hk
      exact ⟨a, its, rfl, hL, h2⟩
    refine .ob fun o ho => ?_
    cases o with
    | list l => exact .pure (K (.inl ho))
    | slist l => exact .pure (K (.inr ho))
    | _ => exact .none
  | _ => exact .none
theorem nilL_ok {b : V} (e : nilL H b = true) : ∃ k, lstAt H b = some ([], k) := by
  unfold nilL at e
  cases h : lstAt H b with
  | none => rw [h] at e; cases e
  | some z =>
    obtain ⟨l, k⟩ := z
    cases l with
    | nil => exact ⟨k, rfl⟩
    | cons => rw [h] at e; cases e
theorem nilEq_ok {a b : Addr} {its its2 : List Value} {l : List V} {Q : Value → Shared → Prop} (h1 : s.heap.IsList a its.toArray) (h2 : s.heap.IsList b its2.toArray) (r1 : RelVs μ l its) (r2 : RelVs μ [] its2) (hu : (fx.A dp un).units < cLine) (q : Q (.bool (isNilV l)) s) :
    wpAny (model D.prog D.w) (fx.A dp un) (compareOp .Eq (.ref a) (.ref b)) Q NoE s := by
  cases r2
  cases r1 with
  | nil => exact PySem.SeqAt.eq_listAt (e := fun _ => true) h1 h2 rfl hu (fun j hj => by simp at hj) q
  | cons x y => exact PySem.SeqAt.eq_list_lengthsAt h1 h2 (by simp) hu q
theorem nilNe_ok {a b : Addr} {its its2 : List Value} {l : List V} {Q : Value → Shared → Prop} (h1 : s.heap.IsList a its.toArray) (h2 : s.heap.IsList b its2.toArray) (r1 : RelVs μ l its) (r2 : RelVs μ [] its2) (hu : (fx.A dp un).units < cLine) (q : Q (.bool (!isNilV l)) s) :
    wpAny (model D.prog D.w) (fx.A dp un) (compareOp .NotEq (.ref a) (.ref b)) Q NoE s := by
  cases r2
  cases r1 with
  | nil => exact PySem.SeqAt.RcNeAt.lists (e := fun _ => true) h1 h2 rfl hu (fun j hj => by simp at hj) D.prog D.w _ _ q
  | cons x y => exact PySem.SeqAt.RcNeAt.lists_lengths h1 h2 (by simp) hu D.prog D.w _ _ q
theorem tup_at {k : Nat} {vs : List V} {r : Value} (S : StD D fx μ H m rest s.heap) (ho : H[k]? = some (.tuple vs)) (hr : RelV μ (.ref k) r) : ∃ a its, r = .ref a ∧ IsTup s.heap a (List.toArray its) ∧ RelVs μ vs its := by
  obtain ⟨p, led, hp, N, nd, al, _, its, n', h1, h2⟩ := S.obj ho
  obtain ⟨a, d, hk, rfl⟩ := hr
  rw [hk] at hp; cases hp
  exact ⟨a, its, rfl, ⟨_, N.get (List.mem_append_left _ h1), rfl, _, rfl⟩, h2⟩
theorem kget {a : Addr} {o : Obj} (ok : fx.Ok D) (S : StD D fx μ H m rest s.heap) (e : D.K.lookup a = some o) : s.heap.get? a = some o := ok.X.keeps S.fr.keep _ _ e
noncomputable def InR (D : Wd) (fx : Fx) (dp un : Nat) (s : Shared) (ra rb : Value) (c : Bool) : Prop :=
  (∀ {Q : Value → Shared → Prop}, (∀ tk, Q (.bool c) { s with toks := tk }) → wpAny (model D.prog D.w) (fx.A dp un) (compareOp .In ra rb) Q NoE s) ∧ (∀ {Q : Value → Shared → Prop}, (∀ tk, Q (.bool (!c)) { s with toks := tk }) → wpAny (model D.prog D.w) (fx.A dp un) (compareOp .NotIn ra rb) Q NoE s)
theorem inStrs {x : Str} {t : Tok} {a : Addr} {its : Array Value} {l : List Str} (h1 : IsTup s.heap a its) (h2 : StrsAre its.toList l) : InR D fx dp un s (.str x t) (.ref a) (anyS l x) :=
  ⟨fun q => in_tuple_strs h1 h2 (by rw [anyS_eq]; exact q s.toks), fun q => notin_tuple_strs h1 h2 (by rw [anyS_eq]; exact q s.toks)⟩
theorem inInts {x : Int} {t : Tok} {a : Addr} {its : Array Value} {l : List Int} (h1 : IsTup s.heap a its) (h2 : IntsAre its.toList l) : InR D fx dp un s (.int x t) (.ref a) (anyI l x) :=
  ⟨fun q => in_tuple_ints h1 h2 (by rw [anyI_eq]; exact q s.toks), fun q => notin_tuple_ints h1 h2 (by rw [anyI_eq]; exact q s.toks)⟩
theorem inT_ok {a : V} {vs : List V} {its : List Value} {ad : Addr} {ra : Value} (ha : RelV μ a ra) (h1 : IsTup s.heap ad its.toArray) (h2 : RelVs μ vs its) : Post (inT a vs) fun c => InR D fx dp un s ra (.ref ad) c.1 := by
  cases a with
  | str x => obtain ⟨t, rfl⟩ := ha; exact .ob fun l hl => .pure (inStrs h1 (strsOf_ok hl h2))
  | sstr x => obtain ⟨t, rfl⟩ := ha; exact .ob fun l hl => .pure (inStrs h1 (strsOf_ok hl h2))
  | int x => obtain ⟨t, rfl⟩ := ha; exact .ob fun z hl => .pure (inInts h1 (intsOf_post _ hl h2))
  | sint x => obtain ⟨t, rfl⟩ := ha; exact .ob fun z hl => .pure (inInts h1 (intsOf_post _ hl h2))
  | _ => exact .none
theorem inV_ok {kt : Kt} (hkt : KtOk D kt) {a b : V} {ra rb : Value} (ok : fx.Ok D) (S : StD D fx μ H m rest s.heap) (ha : RelV μ a ra) (hb : RelV μ b rb) :
    Post (inV kt a b H) fun c => InR D fx dp un s ra rb c.1 := by
  cases b with
  | ref k =>
    refine .ob fun o ho => ?_
    cases o with
    | tuple vs => obtain ⟨ad, its, rfl, h1, h2⟩ := tup_at S ho hb; exact inT_ok ha h1 h2
    | _ => exact .none
  | val t =>
    cases (show rb = .ref t from hb)
    cases a with
    | str x =>
      obtain ⟨t, rfl⟩ := ha
      refine .ob fun l hl => .pure ?_
      obtain ⟨o, items, n', h1, h2, h3, h4⟩ := hkt.tup _ (lkN_mem hl)
      exact inStrs ⟨o, kget ok S h1, h2, n', h3⟩ h4
    | int x =>
      obtain ⟨t, rfl⟩ := ha
      refine .ob fun es hl => .pure ?_
      obtain ⟨o, kvs, h1, h2, h3, h4⟩ := hkt.dict _ (lkN_mem hl)
      have hD : s.heap.DictOf (PySem.intKind D.prog D.w) _ kvs := Heap.dictOf_iff.mpr ⟨o, kget ok S h1, h2⟩
      have hv : (valueAt kvs x).isSome = hasD eqI es x := by
        rw [← hasD_rel eqI_he h3]
        unfold valueAt
        rw [Option.isSome_map, List.isSome_find?]
      exact ⟨fun q => wpAny_in_of (intKind_is _ _ _ _) h4 hD.mapOf (by rw [hv]; exact q _), fun q => wpAny_notIn_of (intKind_is _ _ _ _) h4 hD.mapOf (by rw [hv]; exact q _)⟩
    | _ => exact .none
  | _ => exact .none
theorem cmpH_ok {kt : Kt} (hkt : KtOk D kt) {op : CmpOp} {a b : V} {σ : Sg} {ra rb : Value} {Q : Value → Shared → Prop} (ok : fx.Ok D) (room : Room n dp un) (S : StD D fx μ σ.H m rest s.heap) (ha : RelV μ a ra) (hb : RelV μ b rb) :
    Post (cmpH kt op a b σ) fun v => PostG D fx σ.H (relV v) μ m rest s Q → wpAny (model D.prog D.w) (fx.A dp un) (compareOp op ra rb) Q NoE s := by
  have hu : (fx.A dp un).units < cLine := by
    have := room.2
    show un < cLine
    (first | decide | lia | omega)
  cases op with
  | Eq =>
    refine .onT fun hn => .ob fun z hl => .pure fun P => ?_
    obtain ⟨k', hl'⟩ := nilL_ok hn
    obtain ⟨ad, its, rfl, h1, h2⟩ := lstAt_ok hl S ha
    obtain ⟨ad', its', rfl, h1', h2'⟩ := lstAt_ok hl' S hb
    exact nilEq_ok h1 h1' h2 h2' hu (P.here' (boolV_rel rfl) S)
  | NotEq =>
    refine .onT fun hn => .ob fun z hl => .pure fun P => ?_
    obtain ⟨k', hl'⟩ := nilL_ok hn
    obtain ⟨ad, its, rfl, h1, h2⟩ := lstAt_ok hl S ha
    obtain ⟨ad', its', rfl, h1', h2'⟩ := lstAt_ok hl' S hb
    exact nilNe_ok h1 h1' h2 h2' hu (P.here' (boolV_rel rfl) S)
  | In => exact .ob fun r h => .pure fun P => (inV_ok hkt ok S ha hb r h).1 fun tk => P.here tk (boolV_rel (b := r.1) (k := r.2) rfl) S
  | NotIn => exact .ob fun r h => .pure fun P => (inV_ok hkt ok S ha hb r h).2 fun tk => P.here tk (boolV_rel rfl) S
  | _ => exact .none
theorem cmpN_ok {kt : Kt} (hkt : KtOk D kt) {op : CmpOp} {a b v : V} {σ : Sg} {ra rb : Value} {Q : Value → Shared → Prop} (e : cmpN kt op a b σ = some v) (ok : fx.Ok D) (room : Room n dp un) (S : StD D fx μ σ.H m rest s.heap) (ha : RelV μ a ra) (hb : RelV μ b rb)
    (P : PostG D fx σ.H (relV v) μ m rest s Q) : wpAny (model D.prog D.w) (fx.A dp un) (compareOp op ra rb) Q NoE s := by
  revert P
  refine Post.optE (Q := fun v => PostG D fx σ.H (relV v) μ m rest s Q → wpAny (model D.prog D.w) (fx.A dp un) (compareOp op ra rb) Q NoE s) (fun v' h => .pure fun P => ?_) (fun _ => cmpH_ok hkt ok room S ha hb) v e
  exact cmpV_ok h ha hb fun r hr => P.here' hr S
theorem cmpX_ok {kt : Kt} {o : Orc} (hkt : KtOk D kt) (ho : COrcOk D n o.corc) {op : CmpOp} {a b v : V} {σ σ' : Sg} (e : cmpX kt o op a b σ = some (v, σ')) : σ.le σ' ∧ σ'.H = σ.H ∧ (σ'.ok → ∀ {fx : Fx} {dp un : Nat} {μ : Mu} {m : Str → Option Value} {rest : Ledger} {s : Shared} {Q : Value → Shared → Prop} {ra rb : Value},
    fx.Ok D → Room n dp un → StD D fx μ σ.H m rest s.heap → RelV μ a ra → RelV μ b rb → PostG D fx σ.H (relV v) μ m rest s Q → wpAny (model D.prog D.w) (fx.A dp un) (compareOp op ra rb) Q NoE s) := by
  refine Post.optE (Q := fun p : V × Sg => σ.le p.2 ∧ p.2.H = σ.H ∧ (p.2.ok → ∀ {fx : Fx} {dp un : Nat} {μ : Mu} {m : Str → Option Value} {rest : Ledger} {s : Shared} {Q : Value → Shared → Prop} {ra rb : Value},
    fx.Ok D → Room n dp un → StD D fx μ σ.H m rest s.heap → RelV μ a ra → RelV μ b rb → PostG D fx σ.H (relV p.1) μ m rest s Q → wpAny (model D.prog D.w) (fx.A dp un) (compareOp op ra rb) Q NoE s))
    (fun z h => .pure ⟨⟨_, rfl⟩, rfl, fun ok => ho _ _ _ _ _ _ h fun c hc => ok c (List.mem_append_left _ hc)⟩) (fun _ => .ob fun v h => .pure ⟨.refl _, rfl, fun _ => cmpN_ok hkt h⟩) _ e
end
end Mine
end
section
open PySem PySem.W PyProof.Rows PySem.Calls PySem.Spec
namespace Mine

noncomputable def repV (n : Nat) (v : V) : List V := List.replicate n v
noncomputable def binS (op : Operator) (a b : V) (σ : Sg) : Option (V × Sg) := match op with
  | .Mult => (match a with
    | .sint x => (match b with
      | .sint y => some (.sint (x * y), ⟨σ.H, σ.ds, (small x = true) :: σ.cs⟩)
      | .int y => some (.sint (x * y), ⟨σ.H, σ.ds, (small x = true) :: σ.cs⟩)
      | _ => none)
    | _ => none)
  | .FloorDiv => (match a with
    | .sint x => (match b with
      | .int y => onF (decide (y = 0)) (some (.sint (x.fdiv y), ⟨σ.H, σ.ds, (Builtin.divisionGoesByPylong x y = false) :: σ.cs⟩))
      | _ => none)
    | _ => none)
  | .Mod => (match a with
    | .sint x => (match b with
      | .sint y => some (.sint (x.fmod y), ⟨σ.H, σ.ds, (y ≠ 0) :: σ.cs⟩)
      | _ => none)
    | _ => none)
  | _ => none
noncomputable def repX (k : Nat) (i : Int) (σ : Sg) : Option (V × Sg) := ob σ.H[k]? fun o => match o with
  | .list l => (match l with
    | [] => none
    | v :: r => (match r with
      | [] => onT (decide (-1000 ≤ i)) (onT (decide (i ≤ 1000)) (some (.ref σ.H.length, σ.withH (σ.H ++ [.list (repV i.toNat v)]))))
      | _ :: _ => none))
  | _ => none
noncomputable def addX (k j : Nat) (σ : Sg) : Option (V × Sg) := ob σ.H[k]? fun o => ob σ.H[j]? fun o' => match o' with
  | .list l' => (match o with
    | .list l => onT (Nat.ble (l.length + l'.length) 1000) (some (.ref σ.H.length, σ.withH (σ.H ++ [.list (l ++ l')])))
    | .slist l => some (.ref σ.H.length, ⟨σ.H ++ [.slist (l ++ l')], σ.ds, (l.length + l'.length ≤ 1000) :: σ.cs⟩)
    | _ => none)
  | _ => none
noncomputable def binO (op : Operator) (a b : V) (σ : Sg) : Option (V × Sg) := match a with
  | .ref k => (match op with
    | .Mult => (match b with
      | .int i => repX k i σ
      | _ => none)
    | .Add => (match b with
      | .ref j => addX k j σ
      | _ => none)
    | _ => none)
  | _ => none
noncomputable def binX (op : Operator) (a b : V) (σ : Sg) : Option (V × Sg) := optE (binS op a b σ) some (optE (binV op a b) (fun v => some (v, σ)) (binO op a b σ))
theorem rep_fold (v : Value) : ∀ (n : Nat) (acc : Array Value), List.foldl (fun x1 x2 => x1 ++ x2) acc (List.replicate n #[v]) = acc ++ (List.replicate n v).toArray
  | 0, acc => by simp
  | n + 1, acc => by rw [List.replicate_succ, List.foldl_cons, rep_fold v n, List.replicate_succ]; apply Array.ext'; simp
theorem rep_rel {μ : Mu} {v : V} {r : Value} (h : RelV μ v r) : ∀ n, RelVs μ (repV n v) (List.replicate n r)
  | 0 => .nil
  | n + 1 => .cons h (rep_rel h n)
section
variable {D : Wd} {n : Nat} {fx : Fx} {A : Around} {μ : Mu} {H : List O} {m : Str → Option Value} {rest : Ledger} {s : Shared}
theorem grown {a : Addr} {ob : Obj} {o : O} {h' : Heap} {Q : Value → Shared → Prop} {led : Ledger} (S : StD D fx μ H m rest s.heap) (nd : ((led ++ rest).map (·.1)).Nodup) (al : All2 (fun p o => ObjIn D.prog D.w μ led p o) μ H)
    (F : Fr fx.h₀ fx.L h' m) (N : News fx.h₀ fx.L h' ((a, ob) :: (led ++ rest))) (lt : ∀ p ∈ led ++ rest, p.1 < a) (ho : ObjIn D.prog D.w (μ ++ [(a, a)]) ((a, ob) :: led) (a, a) o)
    (P : PostG D fx (H ++ [o]) (relV (.ref H.length)) μ m rest s Q) (tk : Nat) : Q (.ref a) { s with heap := h', toks := tk } := by
  refine P _ [(a, a)] h' _ ⟨a, a, ?_, rfl⟩ (S.grow nd al F N lt ho)
  rw [List.getElem?_append_right (Nat.le_of_eq S.len), S.len, Nat.sub_self]; rfl
theorem lst_get {k : Nat} {vs : List V} {r : Value} (S : StD D fx μ H m rest s.heap) (ho : H[k]? = some (.list vs) ∨ H[k]? = some (.slist vs)) (hr : RelV μ (.ref k) r) : ∃ a its n led, r = .ref a ∧ s.heap.get? a = some (W.listOf (List.toArray its) n) ∧ RelVs μ vs its ∧
    News fx.h₀ fx.L s.heap (led ++ rest) ∧ ((led ++ rest).map (·.1)).Nodup ∧ All2 (fun p o => ObjIn D.prog D.w μ led p o) μ H := by
  obtain ⟨a, d, hk, rfl⟩ := hr
  rcases ho with ho | ho
  · obtain ⟨p, led, hp, N, nd, al, _, its, n, h1, h2⟩ := S.obj ho
    rw [hk] at hp; cases hp
    exact ⟨a, its, n, led, rfl, N.get (List.mem_append_left _ h1), h2, N, nd, al⟩
  · obtain ⟨p, led, hp, N, nd, al, _, its, n, h1, h2⟩ := S.obj ho
    rw [hk] at hp; cases hp
    exact ⟨a, its, n, led, rfl, N.get (List.mem_append_left _ h1), h2, N, nd, al⟩
end
noncomputable def BinR (op : Operator) (a b : V) (σ : Sg) (p : V × Sg) : Prop := σ.le p.2 ∧ (p.2.ok → ∀ (c : Cx) (ra rb : Value) (Q : Value → Shared → Prop), StD c.D c.fx c.μ σ.H c.m c.rest c.s.heap → RelV c.μ a ra → RelV c.μ b rb →
    PostG c.D c.fx p.2.H (relV p.1) c.μ c.m c.rest c.s Q → BinW c.D.prog c.D.w c.A NoE c.s Q op ra rb)
theorem binS_ok {op : Operator} {a b : V} {σ : Sg} : Post (binS op a b σ) (BinR op a b σ) := by
  have M : ∀ {b : V} {x y : Int}, (∀ {μ r}, RelV μ b r → ∃ t, r = .int y t) → BinR .Mult (.sint x) b σ (.sint (x * y), ⟨σ.H, σ.ds, (small x = true) :: σ.cs⟩) := fun hb =>
    ⟨⟨[_], rfl⟩, fun ok c ra rb Q S h1 h2 P => by
      obtain ⟨t, rfl⟩ := h1
      obtain ⟨u, rfl⟩ := hb h2
      exact .of (mul_int (P.here _ ⟨_, rfl⟩ S) (IntMulOk.of_left (small_bits (ok _ (.head _)))))⟩
  cases op with
  | Mult =>
    cases a with
    | sint x =>
      cases b with
      | sint y => exact .pure (M fun h => h)
      | int y => exact .pure (M fun h => h)
      | _ => exact .none
    | _ => exact .none
  | FloorDiv =>
    cases a with
    | sint x =>
      cases b with
      | int y =>
        refine .onF fun h => .pure ⟨⟨[_], rfl⟩, fun ok c ra rb Q S h1 h2 P => ?_⟩
        obtain ⟨t, rfl⟩ := h1; obtain ⟨u, rfl⟩ := h2
        exact .of (floordiv_int (of_decide_eq_false h) (P.here _ ⟨_, rfl⟩ S) (.inl (ok _ (.head _))))
      | _ => exact .none
    | _ => exact .none
  | Mod =>
    cases a with
    | sint x =>
      cases b with
      | sint y =>
        refine .pure ⟨⟨[_], rfl⟩, fun ok c ra rb Q S h1 h2 P => ?_⟩
        obtain ⟨t, rfl⟩ := h1; obtain ⟨u, rfl⟩ := h2
        exact .of (mod_int' (ok _ (.head _)) (P.here _ ⟨_, rfl⟩ S))
      | _ => exact .none
    | _ => exact .none
  | _ => exact .none
theorem repX_ok {k : Nat} {i : Int} {σ : Sg} : Post (repX k i σ) (BinR .Mult (.ref k) (.int i) σ) := by
  refine .ob fun o ho => ?_
  cases o with
  | list l =>
    cases l with
    | nil => exact .none
    | cons v r =>
      cases r with
      | cons => exact .none
      | nil =>
        refine .onT fun h1 => .onT fun h2 => .pure ⟨Sg.le_withH _ _, fun _ c ra rb Q S ha hb P => .of ?_⟩
        obtain ⟨u, rfl⟩ := hb
        obtain ⟨ad, its, k', led, rfl, hl, hv, N, nd, al⟩ := lst_get S (.inl ho) ha
        obtain ⟨b, rfl, x⟩ := one_of hv
        have h1 := of_decide_eq_true h1
        have h2 := of_decide_eq_true h2
        refine mul_list S.fr N hl (by (first | decide | lia | omega)) (by (first | decide | lia | omega)) (by simp; (first | decide | lia | omega)) fun h' F' N' => ?_
        refine grown (o := .list (repV i.toNat v)) S nd al F' N' (fun p hp => Heap.lt_size (N p hp).1) ⟨rfl, List.replicate i.toNat b, 0, ?_, (rep_rel x.ext _)⟩ P c.s.toks
        have := rep_fold b i.toNat #[]
        simp only [List.isEmpty_toArray, List.isEmpty_cons, Bool.false_eq_true, if_false, Array.empty_append] at this ⊢
        rw [this]
        exact .head _
  | _ => exact .none
theorem add_rel {k j : Nat} {H : List O} {l l' : List V} {o : O} {ra rb : Value} {Q : Value → Shared → Prop} (c : Cx) (S : StD c.D c.fx c.μ H c.m c.rest c.s.heap) (ho : H[k]? = some (.list l) ∨ H[k]? = some (.slist l)) (ho' : H[j]? = some (.list l'))
    (hoo : o = .list (l ++ l') ∨ o = .slist (l ++ l')) (hl : l.length + l'.length ≤ 1000) (ha : RelV c.μ (.ref k) ra) (hb : RelV c.μ (.ref j) rb) (P : PostG c.D c.fx (H ++ [o]) (relV (.ref H.length)) c.μ c.m c.rest c.s Q) : BinW c.D.prog c.D.w c.A NoE c.s Q .Add ra rb := by
  obtain ⟨ad, its, k', led, rfl, hl1, hv1, N, nd, al⟩ := lst_get S ho ha
  obtain ⟨ad2, its2, k2, led2, rfl, hl2, hv2, _⟩ := lst_get S (.inl ho') hb
  have l1 := hv1.length
  have l2 := hv2.length
  refine .of (add_arrays S.fr N ⟨_, hl1, rfl, _, rfl⟩ ⟨_, hl2, rfl, _, rfl⟩ (fun h' F' N' => ?_) (le_sizeLine (by simp; (first | decide | lia | omega))))
  refine grown (o := o) S nd al F' N' (fun p hp => Heap.lt_size (N p hp).1) ?_ P c.s.toks
  rcases hoo with rfl | rfl <;> exact ⟨rfl, its ++ its2, 0, .head _, RelVs.ext (hv1.append hv2)⟩
theorem addX_ok {k j : Nat} {σ : Sg} : Post (addX k j σ) (BinR .Add (.ref k) (.ref j) σ) := by
  refine .ob fun o ho => .ob fun o' ho' => ?_
  cases o' with
  | list l' =>
    cases o with
    | list l => exact .le fun hl => .pure ⟨Sg.le_withH _ _, fun _ c ra rb Q S ha hb P => add_rel c S (.inl ho) ho' (.inl rfl) hl ha hb P⟩
    | slist l => exact .pure ⟨⟨[_], rfl⟩, fun ok c ra rb Q S ha hb P => add_rel c S (.inr ho) ho' (.inr rfl) (ok _ (.head _)) ha hb P⟩
    | _ => exact .none
  | _ => exact .none
theorem binO_ok {op : Operator} {a b : V} {σ : Sg} : Post (binO op a b σ) (BinR op a b σ) := by
  cases a with
  | ref k =>
    cases op with
    | Mult =>
      cases b with
      | int i => exact repX_ok
      | _ => exact .none
    | Add =>
      cases b with
      | ref j => exact addX_ok
      | _ => exact .none
    | _ => exact .none
  | _ => exact .none
theorem binX_post {op : Operator} {a b : V} {σ : Sg} : Post (binX op a b σ) (BinR op a b σ) :=
  .optE (fun p h => .pure (binS_ok p h)) fun _ => .optE (fun v h => .pure ⟨.refl _, fun _ c ra rb Q S ha hb P => .of (binV_ok h ha hb fun r tk hr => P.here tk hr S)⟩) fun _ => binO_ok

noncomputable def subO (kt : Kt) (a b : V) (σ : Sg) : Option V := match a with
  | .str x => (match b with
    | .int j => ob (idxOf j x.length) fun n => onT (small j) (some (.str ⟨#[x.cps.getD n 0]⟩))
    | _ => none)
  | .val d => (match b with
    | .int i => ob (lkN kt.dicts d) fun es => atD eqI es i
    | _ => none)
  | .ref k => ob σ.H[k]? fun o => (match o with
    | .dictI es => (match b with
      | .int i => atD eqI es i
      | _ => none)
    | .dictS es => (match b with
      | .str x => atD eqS es x
      | _ => none)
    | _ => none)
  | _ => none
noncomputable def subX (kt : Kt) (o : Orc) (a b : V) (σ : Sg) : Option (V × Sg) :=
  optE (o.sorc a b σ) some (optE (subscr a b σ) (fun v => some (v, σ)) (ob (subO kt a b σ) fun v => some (v, σ)))
theorem idxOf_small {j : Int} (h : small j = true) : fitsSsize j = true := by
  unfold small at h
  rw [Bool.and_eq_true, decide_eq_true_eq, decide_eq_true_eq] at h
  exact fitsSsize_of (N := 9223372036854775808) (by (first | decide | lia | omega)) (by (first | decide | lia | omega)) (Int.le_refl _)
theorem pairs_at {μ : Mu} {es : List (Int × V)} {kvs : List (Int × Value)} {i : Int} {v : V} (h3 : All2 (PairRel μ) es kvs) (hv : atD eqI es i = some v) : ∃ r, valueAt kvs i = some r ∧ RelV μ v r := by
  have := atD_rel (eqI_he) (x := i) h3
  rw [hv] at this
  exact this
theorem pairs_atS {μ : Mu} {es : List (Str × V)} {kvs : List (Str × Value)} {i : Str} {v : V} (h3 : All2 (PairRel μ) es kvs) (hv : atD eqS es i = some v) : ∃ r, valueAt kvs i = some r ∧ RelV μ v r := by
  have := atD_rel (eqS_eq) (x := i) h3
  rw [hv] at this
  exact this
structure Cd (D : Wd) (n : Nat) where
  fx : Fx
  dp : Nat
  un : Nat
  μ : Mu
  m : Str → Option Value
  rest : Ledger
  s : Shared
  okx : fx.Ok D
  room : Room n dp un
noncomputable def SubR (D : Wd) (n : Nat) (a b : V) (H H' : List O) (v : V) : Prop := ∀ (c : Cd D n) (ra rb : Value) (value slice : PySem.Expr) (Q : Value → Shared → Prop), isSlice slice = false →
    StD D c.fx c.μ H c.m c.rest c.s.heap → RelV c.μ a ra → RelV c.μ b rb → PostG D c.fx H' (relV v) c.μ c.m c.rest c.s Q → wpAny (model D.prog D.w) (c.fx.A c.dp c.un) (subscriptTail value slice ra rb) Q NoE c.s
theorem subO_ok {D : Wd} {n : Nat} {kt : Kt} (hkt : KtOk D kt) {a b : V} {σ : Sg} : Post (subO kt a b σ) (SubR D n a b σ.H σ.H) := by
  cases a with
  | str x =>
    cases b with
    | int j =>
      refine .ob fun n' hi => .onT fun hs => .pure fun c ra rb value slice Q hsl S ha hb P => ?_
      obtain ⟨t, rfl⟩ := ha
      obtain ⟨u, rfl⟩ := hb
      have hx : Txt.charAt x j = some (x.cps.getD n' 0) := by
        unfold Txt.charAt
        rw [seqIndex_of hi]
        show x.cps[n']? = _
        rw [Array.getD_eq_getD_getElem?]
        have : n' < x.cps.size := (idxOf_pos hi).1
        rw [Array.getElem?_eq_getElem this]; rfl
      have hit : Txt.item x j = ⟨#[x.cps.getD n' 0]⟩ := by
        unfold Txt.item
        rw [hx]; rfl
      refine tail_any (T := "str") (typeIs_str _ _ _) F.slot_str_getitem.lookup ?_ (subscripted_of hsl _ _)
      refine SB.getItem (idxOf_small hs) (by rw [hx]; rfl) ?_
      rw [hit]
      exact P.here _ ⟨_, rfl⟩ S
    | _ => exact .none
  | val d =>
    cases b with
    | int i =>
      refine .ob fun es hl v hv c ra rb value slice Q hsl S ha hb P => ?_
      cases (show ra = .ref d from ha)
      obtain ⟨u, rfl⟩ := hb
      obtain ⟨o, kvs, h1, h2, h3, h4⟩ := hkt.dict _ (lkN_mem hl)
      have hD : c.s.heap.DictOf (PySem.intKind D.prog D.w) _ kvs := Heap.dictOf_iff.mpr ⟨o, kget c.okx S h1, h2⟩
      obtain ⟨r, hr, rel⟩ := pairs_at h3 hv
      have rel' : RelV c.μ v r := by have := rel.ext (more := c.μ); rwa [List.nil_append] at this
      exact tail_any hD.typeIs slot_dict_getitem.lookup (wpAny_getItem_of (intKind_is _ _ _ _) hD.mapOf hr (P.here _ rel' S)) (subscripted_of hsl _ _)
    | _ => exact .none
  | ref k =>
    refine .ob fun o ho => ?_
    cases o with
    | dictI es =>
      cases b with
      | int i =>
        refine fun v hv c ra rb value slice Q hsl S ha hb P => ?_
        obtain ⟨u, rfl⟩ := hb
        obtain ⟨a, d, hk, rfl⟩ := ha
        obtain ⟨p, led, hp, N, nd, al, _, o, kvs, h1, h2, h3, h4⟩ := S.obj ho
        cases hk.symm.trans hp
        have hD : c.s.heap.DictOf (PySem.intKind D.prog D.w) _ kvs := Heap.dictOf_iff.mpr ⟨o, N.get (List.mem_append_left _ h1), h3⟩
        obtain ⟨r, hr, rel⟩ := pairs_at h4 hv
        exact tail_any hD.typeIs slot_dict_getitem.lookup (wpAny_getItem_of (intKind_is _ _ _ _) hD.mapOf hr (P.here _ rel S)) (subscripted_of hsl _ _)
      | _ => exact .none
    | dictS es =>
      cases b with
      | str i =>
        refine fun v hv c ra rb value slice Q hsl S ha hb P => ?_
        obtain ⟨u, rfl⟩ := hb
        obtain ⟨a, d, hk, rfl⟩ := ha
        obtain ⟨p, led, hp, N, nd, al, _, o, kvs, h1, h2, h3, h4⟩ := S.obj ho
        cases hk.symm.trans hp
        have hD : c.s.heap.DictOf (PySem.strKind D.prog D.w) _ kvs := Heap.dictOf_iff.mpr ⟨o, N.get (List.mem_append_left _ h1), h3⟩
        obtain ⟨r, hr, rel⟩ := pairs_atS h4 hv
        exact tail_any hD.typeIs slot_dict_getitem.lookup (wpAny_getItem_of (strKind_is _ _ _ _) hD.mapOf hr (P.here _ rel S)) (subscripted_of hsl _ _)
      | _ => exact .none
    | _ => exact .none
  | _ => exact .none
theorem subX_post {D : Wd} {n : Nat} {kt : Kt} {o : Orc} (hkt : KtOk D kt) (hso : SOrcOk D n o.sorc) {a b : V} {σ : Sg} : Post (subX kt o a b σ) fun p => σ.le p.2 ∧ (p.2.ok → SubR D n a b σ.H p.2.H p.1) :=
  .optE (fun p h => .pure (have z := hso _ _ _ _ _ h; ⟨z.1, fun ok c ra rb value slice Q hsl S ha hb P => z.2 ok hsl c.okx c.room S ha hb P⟩))
    fun _ => .optE (fun v h => .pure ⟨.refl _, fun _ c ra rb value slice Q hsl S ha hb P => subscr_ok h hsl S ha hb P⟩) fun _ => .ob fun v h => .pure ⟨.refl _, fun _ => subO_ok hkt v h⟩
section
variable {D : Wd} {n : Nat} {fx : Fx} {A : Around} {μ : Mu} {H : List O} {m : Str → Option Value} {rest : Ledger} {s : Shared}
theorem strSlice_ok {x : Str} {j : Int} {rx rj : Value} {lo : PySem.Expr} {p : Pos} {value : PySem.Expr} {Q : Value → Shared → Prop} (S : StD D fx μ H m rest s.heap) (hx : RelV μ (.str x) rx) (hj : RelV μ (.int j) rj) (hl : Nat.ble x.length 1000 = true)
    (P : PostG D fx H (relV (.str (Txt.slice x (some j) none))) μ m rest s Q) :
    wpAny (model D.prog D.w) A (subscriptTail value (.Slice (some lo) none none p) rx (.ref s.heap.objs.size)) Q NoE { s with heap := s.heap.push { cls := .type "slice", data := .fields #[rj, .none, .none] } } := by
  obtain ⟨t, rfl⟩ := hx
  obtain ⟨u, rfl⟩ := hj
  obtain ⟨led, N, nd, al⟩ := S.ex
  obtain ⟨T, id, hT, hi, hg⟩ := SBH.sliceItem_sn (prog := D.prog) (w := D.w) (A := A) (E := NoE) (s := s) (x := x) (t := t) (i := j) (ui := u) (Q := Q) (P := fun h => Fr fx.h₀ fx.L h m ∧ News fx.h₀ fx.L h (led ++ rest)) keptFrN ⟨S.fr, N⟩
    (fun h' t' k hh => P.at k ⟨_, rfl⟩ ⟨hh.1, S.ap, led, hh.2, nd, al⟩) (le_sizeLine (by have := Nat.le_of_ble_eq_true hl; (first | decide | lia | omega)))
  exact tail_any hi hT hg rfl
end
end Mine
end
section
open PySem PySem.W PyProof.Rows PySem.Calls PySem.Spec
namespace Mine

inductive It where
  | list (k i : Nat)
  | range (a : Int) (n : Nat)
  | str (s : Str) (i : Nat)
  | rev (k i : Nat)
noncomputable def ItIn (μ : Mu) : It → Obj → Prop
  | .list k i, o => ∃ a d, μ[k]? = some (a, d) ∧ o.cls = .type "list_iterator" ∧ o.data = .fields #[.ref a, .int i 0]
  | .range a n, o => o = { cls := .type "range_iterator", dict := none, data := .fields #[rawInt a, rawInt n, rawInt 1], slots := #[] }
  | .str s i, o => ∃ t, o.cls = .type (strIterType s) ∧ o.data = .fields #[.str s t, .int i 0]
  | .rev k i, o => ∃ a d, μ[k]? = some (a, d) ∧ o.cls = .type "list_reverseiterator" ∧ o.data = .fields #[.ref a, rawInt ((i : Int) - 1)]
theorem ItIn.ext {μ more : Mu} {it : It} {o : Obj} (x : ItIn μ it o) : ItIn (μ ++ more) it o := by
  cases it with
  | list k i => obtain ⟨a, d, h, r⟩ := x; exact ⟨a, d, mu_ext h, r⟩
  | range a n => exact x
  | str s i => exact x
  | rev k i => obtain ⟨a, d, h, r⟩ := x; exact ⟨a, d, mu_ext h, r⟩
noncomputable def seqAt (H : List O) (k : Nat) : Option (List V) := match H[k]? with
  | some (.list l) => some l
  | some (.slist l) => some l
  | _ => none
noncomputable def nextV (H : List O) : It → Option (Option (V × It))
  | .list k i => match seqAt H k with
    | some l => match l[i]? with
      | some v => some (some (v, .list k (i + 1)))
      | none => some none
    | none => none
  | .range a n => match n with
    | 0 => some none
    | n + 1 => some (some (.int a, .range (a + 1) n))
  | .str s i => match s.cps[i]? with
    | some c => some (some (.str ⟨#[c]⟩, .str s (i + 1)))
    | none => some none
  | .rev k i => match i with
    | 0 => some none
    | i + 1 => match seqAt H k with
      | some l => match l[i]? with
        | some v => some (some (v, .rev k i))
        | none => none
      | none => none
section
variable {D : Wd} {n : Nat} {fx : Fx} {A : Around} {E : Value → Shared → Prop} {μ : Mu} {H : List O} {m : Str → Option Value} {rest : Ledger} {s : Shared} {I : Addr} {oI : Obj}
theorem seqAt_ok {k : Nat} {l : List V} {a d : Addr} (e : seqAt H k = some l) (S : StD D fx μ H m rest s.heap) (hk : μ[k]? = some (a, d)) : ∃ its, s.heap.IsList a (List.toArray its) ∧ RelVs μ l its := by
  unfold seqAt at e
  split at e
  · rename_i ho
    cases e
    obtain ⟨p, led, hp, N, nd, al, _, its, n, h1, h2⟩ := S.obj ho
    rw [hk] at hp; cases hp
    exact ⟨its, ⟨_, N.get (List.mem_append_left _ h1), rfl, _, rfl⟩, h2⟩
  · rename_i ho
    cases e
    obtain ⟨p, led, hp, N, nd, al, _, its, n, h1, h2⟩ := S.obj ho
    rw [hk] at hp; cases hp
    exact ⟨its, ⟨_, N.get (List.mem_append_left _ h1), rfl, _, rfl⟩, h2⟩
  · cases e
theorem rest_get (S : StD D fx μ H m ((I, oI) :: rest) s.heap) : s.heap.get? I = some oI ∧ I ≠ fx.L ∧ fx.h₀.get? I = none := by
  obtain ⟨led, N, _, _⟩ := S.ex
  exact N (I, oI) (List.mem_append_right _ (.head _))
theorem rest_turn {oI' : Obj} {h' : Heap} (S : StD D fx μ H m ((I, oI) :: rest) s.heap) (hs : Heap.SameBut I s.heap h') (hI : h'.get? I = some oI') : StD D fx μ H m ((I, oI') :: rest) h' := by
  obtain ⟨g1, g2, g3⟩ := rest_get S
  obtain ⟨led, N, nd, al⟩ := S.ex
  refine ⟨S.fr.change hs g2 g3, S.ap, led, ?_, ?_, al⟩
  · intro p hp
    have ne : ∀ q ∈ led ++ rest, q.1 ≠ I := fun q hq e => by
      have nd' : (I :: (led ++ rest).map (·.1)).Nodup := by
        have := nd
        rw [List.map_append, List.map_cons] at this
        rw [List.map_append]
        exact (List.perm_middle.nodup_iff).mp this
      exact (List.nodup_cons.mp nd').1 (e ▸ List.mem_map_of_mem (f := (·.1)) hq)
    rcases List.mem_append.mp hp with hp | hp
    · obtain ⟨a, b, c⟩ := N p (List.mem_append_left _ hp)
      exact ⟨(hs.2 _ (ne p (List.mem_append_left _ hp))).trans a, b, c⟩
    · rcases List.mem_cons.mp hp with rfl | hp
      · exact ⟨hI, g2, g3⟩
      · obtain ⟨a, b, c⟩ := N p (List.mem_append_right _ (.tail _ hp))
        exact ⟨(hs.2 _ (ne p (List.mem_append_right _ hp))).trans a, b, c⟩
  · rw [List.map_append, List.map_cons] at nd ⊢
    exact nd
theorem rest_drop {h' : Heap} (S : StD D fx μ H m ((I, oI) :: rest) s.heap) (hs : ∀ b o, b ≠ I → s.heap.get? b = some o → h'.get? b = some o) : StD D fx μ H m rest h' := by
  obtain ⟨g1, g2, g3⟩ := rest_get S
  obtain ⟨led, N, nd, al⟩ := S.ex
  have nd' : (I :: (led ++ rest).map (·.1)).Nodup := by
    have := nd
    rw [List.map_append, List.map_cons] at this
    rw [List.map_append]
    exact (List.perm_middle.nodup_iff).mp this
  have ne : ∀ q ∈ led ++ rest, q.1 ≠ I := fun q hq e => (List.nodup_cons.mp nd').1 (e ▸ List.mem_map_of_mem (f := (·.1)) hq)
  refine ⟨⟨S.fr.ns.at' fun o e => hs _ o (Ne.symm g2) e, fun b o e => hs b o (fun q => by rw [q, g3] at e; cases e) (S.fr.keep b o e), S.fr.above⟩, S.ap, led, fun p hp => ?_, (List.nodup_cons.mp nd').2, al⟩
  have : p ∈ led ++ (I, oI) :: rest := (List.mem_append.mp hp).elim (fun h => List.mem_append_left _ h) fun h => List.mem_append_right _ (.tail _ h)
  obtain ⟨a, b, c⟩ := N p this
  exact ⟨hs _ _ (ne p hp) a, b, c⟩
theorem rest_push {ob : Obj} (S : StD D fx μ H m rest s.heap) (hf : ob.isFreed = false) : StD D fx μ H m ((s.heap.objs.size, ob) :: rest) (s.heap.push ob) := by
  obtain ⟨led, N, nd, al⟩ := S.ex
  have N' := News.push S.fr N ob hf
  refine ⟨S.fr.push ob, S.ap, led, fun p hp => N' p ?_, ?_, al⟩
  · rcases List.mem_append.mp hp with hp | hp
    · exact .tail _ (List.mem_append_left _ hp)
    · rcases List.mem_cons.mp hp with rfl | hp
      · exact .head _
      · exact .tail _ (List.mem_append_right _ hp)
  · rw [List.map_append, List.map_cons]
    refine (List.perm_middle.nodup_iff).mpr ?_
    rw [List.nodup_cons, ← List.map_append]
    refine ⟨fun hm => ?_, nd⟩
    obtain ⟨q, hq, e⟩ := List.mem_map.mp hm
    exact absurd e (Nat.ne_of_lt (Heap.lt_size (N q hq).1))
theorem next_item {it it' : It} {v : V} {Q : Option Value → Shared → Prop} (e : nextV H it = some (some (v, it'))) (hin : ItIn μ it oI) (S : StD D fx μ H m ((I, oI) :: rest) s.heap)
    (q : ∀ rv oI' h' tk, RelV μ v rv → ItIn μ it' oI' → StD D fx μ H m ((I, oI') :: rest) h' → Q (some rv) { s with heap := h', toks := tk }) : wpAny (model D.prog D.w) A (pyNext (.ref I)) Q E s := by
  obtain ⟨g1, g2, g3⟩ := rest_get S
  cases it with
  | list k i =>
    obtain ⟨a, d, hk, hc, hd⟩ := hin
    dsimp only [nextV] at e
    cases h1 : seqAt H k with
    | none => rw [h1] at e; cases e
    | some l =>
      rw [h1] at e
      simp only at e
      cases h2 : l[i]? with
      | none => rw [h2] at e; cases e
      | some v' =>
        rw [h2] at e; cases e
        obtain ⟨its, hl, rel⟩ := seqAt_ok h1 S hk
        obtain ⟨b, hb, rb⟩ := rel.get h2
        refine wpAny_pyNext_list_item ⟨oI, g1, hc, hd⟩ hl (by simpa using hb) fun h' hit hs => ?_
        obtain ⟨oI', g1', hc', hd'⟩ := hit
        exact q b oI' h' s.toks rb ⟨a, d, hk, hc', hd'⟩ (rest_turn S hs g1')
  | range a n =>
    cases n with
    | zero => cases e
    | succ n =>
      cases e
      have hin' : oI = _ := hin
      subst hin'
      refine wpAny_pyNext_range_item g1 (by (first | decide | lia | omega)) fun h' hit hs => ?_
      have hit' : h'.get? I = some { cls := .type "range_iterator", dict := none, data := .fields #[rawInt (a + 1), rawInt ((n : Nat) : Int), rawInt 1], slots := #[] } := by
        rw [hit, show ((↑(n + 1) : Int) - 1) = (n : Int) by (first | decide | lia | omega)]
      exact q _ _ h' _ ⟨_, rfl⟩ rfl (rest_turn S hs hit')
  | str x i =>
    obtain ⟨t, hc, hd⟩ := hin
    dsimp only [nextV] at e
    split at e
    · rename_i c hc'
      cases e
      have go : ∀ h', h'.IsStrIter I (strIterType x) x t (i + 1) → Heap.SameBut I s.heap h' → Q (some (.str ⟨#[c]⟩ s.toks)) { s with heap := h', toks := s.toks + 1 } := fun h' hit hs => by
        obtain ⟨oI', g1', hc', hd'⟩ := hit
        exact q _ oI' h' _ ⟨_, rfl⟩ ⟨t, hc', hd'⟩ (rest_turn S hs g1')
      have hit : s.heap.IsStrIter I (strIterType x) x t i := ⟨oI, g1, hc, hd⟩
      unfold strIterType at hit go
      cases ha : x.cps.all (· < 128) with
      | true => rw [ha] at hit go; exact wpAny_pyNext_ascii_item hit hc' go
      | false => rw [ha] at hit go; exact wpAny_pyNext_wide_item hit hc' go
    · cases e
  | rev k i =>
    obtain ⟨a, d, hk, hc, hd⟩ := hin
    cases i with
    | zero => cases e
    | succ i =>
      dsimp only [nextV] at e
      cases h1 : seqAt H k with
      | none => rw [h1] at e; cases e
      | some l =>
        rw [h1] at e
        simp only at e
        cases h2 : l[i]? with
        | none => rw [h2] at e; cases e
        | some v' =>
          rw [h2] at e; cases e
          obtain ⟨its, hl, rel⟩ := seqAt_ok h1 S hk
          obtain ⟨b, hb, rb⟩ := rel.get h2
          have hd2 : oI.data = .fields #[.ref a, rawInt (i : Int)] := by rw [hd, show ((↑(i + 1) : Int) - 1) = (i : Int) by (first | decide | lia | omega)]
          refine wpAny_pyNext_rev_item ⟨oI, g1, hc, hd2⟩ hl (by simpa using hb) fun h' hit hs => ?_
          obtain ⟨oI', g1', hc', hd'⟩ := hit
          exact q b oI' h' s.toks rb ⟨a, d, hk, hc', hd'⟩ (rest_turn S hs g1')
theorem next_end {it : It} {Q : Option Value → Shared → Prop} (e : nextV H it = some none) (hh : A.handled = none) (hin : ItIn μ it oI) (S : StD D fx μ H m ((I, oI) :: rest) s.heap)
    (q : ∀ h' tk, StD D fx μ H m rest h' → Q none { s with heap := h', toks := tk }) : wpAny (model D.prog D.w) A (pyNext (.ref I)) Q E s := by
  obtain ⟨g1, g2, g3⟩ := rest_get S
  have fin : ∀ h', Heap.ExtBut I s.heap h' → Q none { s with heap := h' } := fun h' hs => q h' s.toks (rest_drop S hs)
  cases it with
  | list k i =>
    obtain ⟨a, d, hk, hc, hd⟩ := hin
    dsimp only [nextV] at e
    cases h1 : seqAt H k with
    | none => rw [h1] at e; cases e
    | some l =>
      rw [h1] at e
      simp only at e
      cases h2 : l[i]? with
      | some v' => rw [h2] at e; cases e
      | none =>
        obtain ⟨its, hl, rel⟩ := seqAt_ok h1 S hk
        have hx : its.toArray[i]? = none := by
          have := rel.length
          rw [List.getElem?_eq_none_iff] at h2
          simp; (first | decide | lia | omega)
        exact wpAny_pyNext_list_end hh ⟨oI, g1, hc, hd⟩ hl hx fin
  | range a n =>
    cases n with
    | succ n => cases e
    | zero =>
      have hin' : oI = _ := hin
      subst hin'
      exact wpAny_pyNext_range_end hh g1 (by (first | decide | lia | omega)) fin
  | str x i =>
    obtain ⟨t, hc, hd⟩ := hin
    dsimp only [nextV] at e
    split at e
    · cases e
    · rename_i hc'
      have hit : s.heap.IsStrIter I (strIterType x) x t i := ⟨oI, g1, hc, hd⟩
      unfold strIterType at hit
      cases ha : x.cps.all (· < 128) with
      | true => rw [ha] at hit; exact wpAny_pyNext_ascii_end hh hit hc' fin
      | false => rw [ha] at hit; exact wpAny_pyNext_wide_end hh hit hc' fin
  | rev k i =>
    obtain ⟨a, d, hk, hc, hd⟩ := hin
    cases i with
    | succ i =>
      dsimp only [nextV] at e
      cases h1 : seqAt H k with
      | none => rw [h1] at e; cases e
      | some l =>
        rw [h1] at e
        simp only at e
        cases h2 : l[i]? with
        | none => rw [h2] at e; cases e
        | some v' => rw [h2] at e; cases e
    | zero => exact wpAny_pyNext_rev_end hh ⟨oI, g1, hc, hd⟩ fin

noncomputable def iterOf (v : V) (σ : Sg) : Option (It × Sg) := match v with
  | .ref k => ob σ.H[k]? fun o => (match o with
    | .list _ => some (.list k 0, σ)
    | .slist _ => some (.list k 0, σ)
    | .range a b => onT (decide (a = 0)) (some (.range 0 b.toNat, ⟨σ.H, σ.ds, (-1000 ≤ b ∧ b ≤ 1000) :: σ.cs⟩))
    | _ => none)
  | .str x => some (.str x 0, σ)
  | .sstr x => some (.str x 0, σ)
  | _ => none
theorem iterOf_le {v : V} {it : It} {σ σ' : Sg} (e : iterOf v σ = some (it, σ')) : σ.le σ' := by
  refine (?_ : Post (iterOf v σ) fun p => σ.le p.2) _ e
  cases v with
  | ref k =>
    refine .ob fun o ho => ?_
    cases o with
    | list l => exact .pure (.refl _)
    | slist l => exact .pure (.refl _)
    | range a b => exact .onT fun _ => .pure ⟨[_], rfl⟩
    | _ => exact .none
  | str x => exact .pure (.refl _)
  | sstr x => exact .pure (.refl _)
  | _ => exact .none
theorem rangeSize_of (b : Int) : Builtin.Range.rangeSize 0 b 1 = ((b.toNat : Nat) : Int) := by
  unfold Builtin.Range.rangeSize
  rw [if_pos (by decide)]
  split
  · rw [Int.ediv_one]; (first | decide | lia | omega)
  · (first | decide | lia | omega)
theorem range_small {b : Int} (h1 : -1000 ≤ b) (h2 : b ≤ 1000) : Builtin.Range.small 0 b 1 = true := by
  unfold Builtin.Range.small
  rw [rangeSize_of]
  have f : ∀ i : Int, -2000 ≤ i → i ≤ 2000 → Builtin.Range.rangeFitsLong i = true := fun i a b => by
    simp only [Builtin.Range.rangeFitsLong, Bool.and_eq_true, decide_eq_true_eq]
    (first | decide | lia | omega)
  rw [f 0 (by (first | decide | lia | omega)) (by (first | decide | lia | omega)), f b (by (first | decide | lia | omega)) (by (first | decide | lia | omega)), f 1 (by (first | decide | lia | omega)) (by (first | decide | lia | omega)), f _ (by (first | decide | lia | omega)) (by (first | decide | lia | omega)), if_pos (by decide), f (b + (1 - 1)) (by (first | decide | lia | omega)) (by (first | decide | lia | omega))]
  simp
noncomputable def IterEnd (D : Wd) (fx : Fx) (H' : List O) (it : It) (μ : Mu) (m : Str → Option Value) (rest : Ledger) (s : Shared) (Q : Value → Shared → Prop) : Prop :=
  ∀ (I : Addr) (oI : Obj) (more : Mu) (h' : Heap) (tk' : Nat), ItIn (μ ++ more) it oI → StD D fx (μ ++ more) H' m ((I, oI) :: rest) h' → Q (.ref I) { s with heap := h', toks := tk' }
theorem IterEnd.next {H' : List O} {it : It} {more : Mu} {h : Heap} {tk : Nat} {Q : Value → Shared → Prop} (P : IterEnd D fx H' it μ m rest s Q) : IterEnd D fx H' it (μ ++ more) m rest { s with heap := h, toks := tk } Q := by
  intro I oI more' h' tk' hi S
  rw [List.append_assoc] at hi S
  exact P I oI _ h' tk' hi S
theorem iterOf_ok {v : V} {it : It} {σ σ' : Sg} (e : iterOf v σ = some (it, σ')) : σ.le σ' ∧ (σ'.ok → ∀ {r : Value} {Q : Value → Shared → Prop}, RelV μ v r → StD D fx μ σ.H m rest s.heap → IterEnd D fx σ'.H it μ m rest s Q → wpAny (model D.prog D.w) A (pyIter r) Q E s) := by
  refine ⟨iterOf_le e, ?_⟩
  have lst : ∀ {k : Nat} {l : List V} {r : Value} {Q : Value → Shared → Prop}, (σ.H[k]? = some (.list l) ∨ σ.H[k]? = some (.slist l)) → RelV μ (.ref k) r → StD D fx μ σ.H m rest s.heap → IterEnd D fx σ.H (.list k 0) μ m rest s Q → wpAny (model D.prog D.w) A (pyIter r) Q E s := by
    intro k l r Q ho hr S P
    obtain ⟨a, d, hk, rfl⟩ := hr
    have hs : seqAt σ.H k = some l := by
      unfold seqAt
      rcases ho with ho | ho <;> rw [ho]
    obtain ⟨its, hl, rel⟩ := seqAt_ok hs S hk
    refine wpAny_pyIter_list hl ?_
    exact P _ _ [] _ s.toks ⟨a, d, by rw [List.append_nil]; exact hk, rfl, rfl⟩ (by rw [List.append_nil]; exact rest_push S rfl)
  have strq : ∀ {x : Str} {t : Tok} {Q : Value → Shared → Prop}, StD D fx μ σ.H m rest s.heap → IterEnd D fx σ.H (.str x 0) μ m rest s Q → wpAny (model D.prog D.w) A (pyIter (.str x t)) Q E s := by
    intro x t Q S P
    refine wpAny_pyIter_strU ?_
    exact P _ _ [] _ s.toks ⟨t, rfl, rfl⟩ (by rw [List.append_nil]; exact rest_push S rfl)
  refine (?_ : Post (iterOf v σ) fun p => p.2.ok → ∀ {r : Value} {Q : Value → Shared → Prop}, RelV μ v r → StD D fx μ σ.H m rest s.heap → IterEnd D fx p.2.H p.1 μ m rest s Q → wpAny (model D.prog D.w) A (pyIter r) Q E s) _ e
  cases v with
  | ref k =>
    refine .ob fun o ho => ?_
    cases o with
    | list l => exact .pure fun _ _ _ hr S P => lst (.inl ho) hr S P
    | slist l => exact .pure fun _ _ _ hr S P => lst (.inr ho) hr S P
    | range a b =>
      refine .onT fun h0 => .pure fun ok r Q hr S P => ?_
      cases of_decide_eq_true h0
      obtain ⟨b1, b2⟩ := ok _ (.head _)
      obtain ⟨a, d, hk, rfl⟩ := hr
      obtain ⟨p, led, hp, N, nd, al, _, t, u, v, h1⟩ := S.obj ho
      cases hk.symm.trans hp
      refine wpAny_pyIter_range (N.get (List.mem_append_left _ h1)) (range_small b1 b2) ?_
      rw [rangeSize_of]
      exact P _ _ [] _ s.toks rfl (by rw [List.append_nil]; exact rest_push S rfl)
    | _ => exact .none
  | str x => refine .pure fun _ _ _ hr S P => ?_; obtain ⟨t, rfl⟩ := hr; exact strq S P
  | sstr x => refine .pure fun _ _ _ hr S P => ?_; obtain ⟨t, rfl⟩ := hr; exact strq S P
  | _ => exact .none
end
end Mine
end
section
open PySem PySem.W PyProof.Rows PySem.Calls PySem.Spec
namespace Mine

noncomputable def isFreeK : NameKind → Bool
  | .free => true
  | _ => false
noncomputable def isCellK : Option NameKind → Bool
  | some .cell => true
  | _ => false
noncomputable def relN (outer : List (Str × NameKind)) : List (Str × NameKind) → List (Str × NameKind)
  | [] => []
  | (n, k) :: r => (match isFreeK k, isCellK (lkS outer (code n)) with
    | true, true => (n, .cell)
    | _, _ => (n, k)) :: relN outer r
noncomputable def freeC (cells : List (Str × Nat)) : List (Str × NameKind) → List (Str × Nat) → Option (List (Str × Nat))
  | [], acc => some acc
  | (n, k) :: r, acc => match isFreeK k with
    | true => match lkS cells (code n) with
      | some j => freeC cells r ((n, j) :: acc)
      | none => none
    | false => freeC cells r acc
noncomputable def AccRel (μ : Mu) (a : List (Str × Nat)) (b : List (Str × Addr)) : Prop := All2 (fun x y => x.1 = y.1 ∧ ∃ p, μ[x.2]? = some p ∧ y.2 = p.1) a b
theorem AccRel.cells {μ : Mu} : ∀ {a : List (Str × Nat)} {b : List (Str × Addr)}, AccRel μ a b → CellsOk μ b a
  | _, _, .nil => fun x k h => by cases h
  | (n, j) :: r, (n', c) :: r', .cons ⟨e1, p, e2, e3⟩ t => fun x k h => by
    have e1' : n = n' := e1
    subst e1'
    unfold lkS at h
    rw [List.lookup_cons]
    split at h
    · rename_i q
      cases h
      have := code_inj (Nat.eq_of_beq_eq_true q)
      subst this
      exact ⟨p, e2, by simp; exact e3⟩
    · rename_i q
      have : (x == n) = false := by
        cases z : x == n with
        | false => rfl
        | true => rw [beq_iff_eq.mp z, Nat.beq_refl] at q; cases q
      rw [this]
      exact AccRel.cells t x k h
theorem isFreeK_iff {k : NameKind} : (k == NameKind.free) = isFreeK k := by cases k <;> rfl
theorem isCellK_iff {k : Option NameKind} : (k == some NameKind.cell) = isCellK k := by
  cases k with
  | none => rfl
  | some k => cases k <;> rfl
theorem relabel_names {scope : Scope} {env : Env} {outer : List (Str × NameKind)} (hk : env.scope.kind = .function) (hn : env.scope.names = outer) : (relabel scope env).names = relN outer scope.names := by
  show scope.names.map _ = _
  induction scope.names with
  | nil => rfl
  | cons p r ih =>
    obtain ⟨n, k⟩ := p
    rw [List.map_cons, ih]
    rw [show relN outer ((n, k) :: r) = (match isFreeK k, isCellK (lkS outer (code n)) with
    | true, true => (n, .cell)
    | _, _ => (n, k)) :: relN outer r from rfl]
    congr 1
    dsimp only
    have h1 : (env.scope.kind == ScopeKind.function) = true := by rw [hk]; rfl
    have h2 : (env.kindOf n == some NameKind.cell) = isCellK (lkS outer (code n)) := by
      rw [isCellK_iff, lkS_lookup, ← hn]; rfl
    rw [isFreeK_iff, h1, h2]
    cases isFreeK k <;> cases isCellK (lkS outer (code n)) <;> rfl
theorem closure_loop {env : Env} {μ : Mu} {cells : List (Str × Nat)} (hc : CellsOk μ env.cells cells) : ∀ (names : List (Str × NameKind)) (acc res : List (Str × Nat)) (cl : List (Str × Addr)), freeC cells names acc = some res → AccRel μ acc cl →
    ∃ cl', (forIn names cl fun x r => (if x.2 == NameKind.free then do let a ← cellOf env x.1; pure (ForInStep.yield ((x.1, a) :: r)) else pure (ForInStep.yield r) : Sem (ForInStep (List (Str × Addr))))) = pure cl' ∧ AccRel μ res cl'
  | [], acc, res, cl, h, ha => by
    cases h
    exact ⟨cl, rfl, ha⟩
  | (n, k) :: r, acc, res, cl, h, ha => by
    unfold freeC at h
    rw [List.forIn_cons]
    dsimp only
    rw [isFreeK_iff]
    split at h
    · rename_i hk
      split at h
      · rename_i j hj
        obtain ⟨p, hp, hl⟩ := hc _ _ hj
        obtain ⟨cl', e1, e2⟩ := closure_loop hc r _ _ ((n, p.1) :: cl) h (.cons ⟨rfl, p, hp, rfl⟩ ha)
        refine ⟨cl', ?_, e2⟩
        rw [if_pos hk]
        have : cellOf env n = pure p.1 := by unfold cellOf; rw [hl]
        rw [this]
        simp only [pure_bind]
        exact e1
      · cases h
    · rename_i hk
      obtain ⟨cl', e1, e2⟩ := closure_loop hc r _ _ cl h ha
      refine ⟨cl', ?_, e2⟩
      rw [if_neg (by rw [hk]; exact Bool.false_ne_true)]
      simp only [pure_bind]
      exact e1
theorem closure_ok {env : Env} {scope : Scope} {μ : Mu} {cells res : List (Str × Nat)} (hc : CellsOk μ env.cells cells) (h : freeC cells scope.names [] = some res) : ∃ cl, closureFor scope env = pure cl ∧ AccRel μ res cl := by
  obtain ⟨cl, e1, e2⟩ := closure_loop hc scope.names [] res [] h .nil
  refine ⟨cl, ?_, e2⟩
  unfold closureFor
  simp only [bind_pure]
  rw [← e1]

section
variable {D : Wd} {n : Nat} {fx : Fx} {A : Around} {E : Value → Shared → Prop} {μ : Mu} {H : List O} {m : Str → Option Value} {rest rest' : Ledger} {s : Shared} {h : Heap}
theorem StD.perm (S : StD D fx μ H m rest h) (p : rest.Perm rest') : StD D fx μ H m rest' h := by
  obtain ⟨led, N, nd, al⟩ := S.ex
  refine ⟨S.fr, S.ap, led, fun q hq => N q ?_, ?_, al⟩
  · exact (List.Perm.append_left led p).mem_iff.mpr hq
  · exact ((List.Perm.append_left led p).map _).nodup_iff.mp nd
noncomputable def accO (b : Bool) (l : List V) : O := match b with
  | true => .slist l
  | false => .list l
theorem accO_in {b : Bool} {l : List V} {led : Ledger} {p : Addr × Addr} (x : ObjIn D.prog D.w μ led p (.list l)) : ObjIn D.prog D.w μ led p (accO b l) := by cases b <;> exact x
theorem StD.conv {d : Nat} {o o' : O} (S : StD D fx μ H m rest h) (e : H[d]? = some o) (c : ∀ led p, ObjIn D.prog D.w μ led p o → ObjIn D.prog D.w μ led p o') : StD D fx μ (H.set d o') m rest h := by
  obtain ⟨led, N, nd, al⟩ := S.ex
  refine ⟨S.fr, S.ap, led, N, nd, ?_⟩
  refine all2_of (by rw [List.length_set, al.length]) fun i q o1 hi hj => ?_
  by_cases z : d = i
  · subst z
    obtain ⟨o2, e2, x⟩ := al.get hi
    rw [e] at e2; cases e2
    rw [List.getElem?_set_self (by obtain ⟨hl, _⟩ := List.getElem?_eq_some_iff.mp e; exact hl)] at hj
    cases hj
    exact c _ _ x
  · rw [List.getElem?_set_ne z] at hj
    obtain ⟨o2, e2, x⟩ := al.get hi
    rw [hj] at e2; cases e2
    exact x
theorem append_acc {b : Bool} {d : Nat} {l : List V} {a a' : Addr} {u : V} {r : Value} {Q : Value → Shared → Prop} (S : StD D fx μ H m rest s.heap) (ho : H[d]? = some (accO b l)) (hk : μ[d]? = some (a, a')) (hl : l.length ≤ 1000) (hr : RelV μ u r)
    (q : ∀ h' tk, StD D fx μ (H.set d (accO b (l ++ [u]))) m rest h' → Q .none { s with heap := h', toks := tk }) : wpAny (model D.prog D.w) A (call (.builtin "list.append") [.ref a, r]) Q E s := by
  have ho' : H[d]? = some (.list l) ∨ H[d]? = some (.slist l) := by
    cases b
    · exact .inl ho
    · exact .inr ho
  obtain ⟨led, its, n, N, nd, al, hm, hrel, hL, hd⟩ := seq_of S ho' hk
  have hlen := hrel.length
  refine append_K S.fr N (upd_of (List.mem_append_left _ hm) nd) (fun h' F' N' => ?_) (le_sizeLine (by simp; (first | decide | lia | omega)))
  have ob : ObjIn D.prog D.w μ (setA led a (W.listOf (its.toArray.push r) (n + 1))) (a, a') (.list (l ++ [u])) := ⟨hd, its ++ [r], n + 1, by rw [← List.push_toArray]; exact setA_mem hm, hrel.append (.one hr)⟩
  exact q _ _ (S.turn nd al hk (.inl rfl) hm F' N' (accO_in ob))
theorem iter_self {I : Addr} {oI : Obj} {it : It} {Q : Value → Shared → Prop} (hin : ItIn μ it oI) (hg : s.heap.get? I = some oI) (q : Q (.ref I) s) : wpAny (model D.prog D.w) A (pyIter (.ref I)) Q E s := by
  cases it with
  | list k i =>
    obtain ⟨a, d, _, hc, hd⟩ := hin
    exact wpAny_pyIter_listiter ⟨oI, hg, hc, hd⟩ q
  | range a n =>
    have e : oI = _ := hin
    subst e
    exact wpAny_pyIter_rangeiter hg q
  | str x i =>
    obtain ⟨t, hc, hd⟩ := hin
    have hit : s.heap.IsStrIter I (strIterType x) x t i := ⟨oI, hg, hc, hd⟩
    unfold strIterType at hit
    cases ha : x.cps.all (· < 128) with
    | true => rw [ha] at hit; exact wpAny_pyIter_striter_ascii hit q
    | false => rw [ha] at hit; exact wpAny_pyIter_striter_wide hit q
  | rev k i =>
    obtain ⟨a, d, _, hc, hd⟩ := hin
    exact wpAny_pyIter_revIter ⟨oI, hg, hc, hd⟩ q
end

noncomputable def TstT (D : Wd) (n : Nat) (ne : NE) (tests : List PySem.Expr) (H : List O) (b : Bool) (H' : List O) : Prop :=
  ∀ (fx : Fx) (env : Env) (dp un : Nat) (μ : Mu) (m : Str → Option Value) (rest : Ledger) (s : Shared) (Q : Bool → Shared → Prop), fx.Ok D → Room n dp un → EnvOk fx env ne μ m rest → StD D fx μ H m rest s.heap →
    PostG D fx H' (relB b) μ m rest s Q → wpAny (model D.prog D.w) (fx.A dp un) (forIn tests true fun c r => if r = true then do let ok ← isTrue c env (eval c env); pure (ForInStep.yield ok) else pure (ForInStep.yield r)) Q NoE s
theorem TstT.nil {D : Wd} {n : Nat} {ne : NE} {H : List O} : TstT D n ne [] H true H := fun _ _ _ _ _ _ _ _ _ _ _ _ S P => wpAny_tests_nil (P.here' rfl S)
theorem TstT.one {D : Wd} {n : Nat} {ne : NE} {c : PySem.Expr} {H H' : List O} {b : Bool} (t : TrT D n ne c H b H') : TstT D n ne [c] H b H' := fun fx env dp un μ m rest s Q okx room eo S P => wpAny_tests_one (t fx env dp un μ m rest s Q okx room eo S P)
theorem TstT.up {D : Wd} {n n' : Nat} {ne : NE} {tests : List PySem.Expr} {H H' : List O} {b : Bool} (h : n ≤ n') (t : TstT D n ne tests H b H') : TstT D n' ne tests H b H' := fun fx env dp un μ m rest s Q okx room eo S P => t fx env dp un μ m rest s Q okx (room.le h) eo S P
inductive CompR (D : Wd) (n : Nat) (neC : V → NE) (tests : List PySem.Expr) (elt : PySem.Expr) (b : Bool) (d : Nat) : Nat → It → List O → List O → Prop
  | done {k it H} : nextV H it = some none → CompR D n neC tests elt b d k it H H
  | pass {k it it' v H H₁ H₂ u l H'} : nextV H it = some (some (v, it')) → TstT D n (neC v) tests H true H₁ → EvT D n (neC v) elt H₁ u H₂ → H₂[d]? = some (accO b l) → l.length ≤ 1000 → CompR D n neC tests elt b d k it' (H₂.set d (accO b (l ++ [u]))) H' → CompR D n neC tests elt b d (k + 1) it H H'
  | fail {k it it' v H H₁ H'} : nextV H it = some (some (v, it')) → TstT D n (neC v) tests H false H₁ → CompR D n neC tests elt b d k it' H₁ H' → CompR D n neC tests elt b d (k + 1) it H H'
noncomputable def noCellsN : List (Str × NameKind) → Bool
  | [] => true
  | (_, k) :: r => match isCellK (some k) with
    | true => false
    | false => noCellsN r
theorem noCellsN_ok : ∀ {l : List (Str × NameKind)}, noCellsN l = true → ∀ y ∈ l, y.2 ≠ .cell
  | (n, k) :: r, h, y, hy => by
    unfold noCellsN at h
    split at h
    · cases h
    · rename_i hk
      rcases List.mem_cons.mp hy with rfl | hy
      · intro e
        have e' : k = .cell := e
        subst e'
        cases hk
      · exact noCellsN_ok h y hy
noncomputable def locsTrue (all : List (Str × NameKind)) : List (Str × NameKind) → Bool
  | [] => true
  | (n, k) :: r => match isLocalK (some k), isLocalK (lkS all (code n)) with
    | true, false => false
    | _, _ => locsTrue all r
theorem locsTrue_ok {all : List (Str × NameKind)} : ∀ {l : List (Str × NameKind)}, locsTrue all l = true → ∀ y ∈ l, y.2 = .local → all.lookup y.1 = some .local
  | (n, k) :: r, h, y, hy, e => by
    unfold locsTrue at h
    split at h
    · cases h
    · rename_i hk
      rcases List.mem_cons.mp hy with rfl | hy
      · have e' : k = .local := e
        subst e'
        have : isLocalK (lkS all (code n)) = true := by
          cases q : isLocalK (lkS all (code n)) with
          | true => rfl
          | false => exact absurd q (hk rfl)
        rw [← lkS_lookup]
        exact isLocalK_iff this
      · exact locsTrue_ok h y hy e
noncomputable def isFunK : ScopeKind → Bool
  | .function => true
  | _ => false
theorem isFunK_iff {k : ScopeKind} (h : isFunK k = true) : k = .function := by
  cases k <;> first | rfl | cases h
noncomputable def scopeOk (scope : Scope) (x : Str) : Bool := match isFunK scope.kind, noCellsN scope.names, locsTrue scope.names scope.names, isLocalK (lkS scope.names (code x)) with
  | true, true, true, true => true
  | _, _, _, _ => false
theorem scopeOk_ok {scope : Scope} {x : Str} (h : scopeOk scope x = true) : scope.kind = .function ∧ (∀ y ∈ scope.names, y.2 ≠ .cell) ∧ (∀ y ∈ scope.names, y.2 = .local → scope.names.lookup y.1 = some .local) ∧ scope.names.lookup x = some .local := by
  unfold scopeOk at h
  split at h
  · rename_i h1 h2 h3 h4
    exact ⟨isFunK_iff h1, noCellsN_ok h2, locsTrue_ok h3, by rw [← lkS_lookup]; exact isLocalK_iff h4⟩
  · cases h
noncomputable def okIter : PySem.Expr → Bool
  | .Set .. => false
  | _ => true
theorem folded_of {iter : PySem.Expr} (h : okIter iter = true) (env : Env) (y : Value) : foldedSetIterable iter env y = pure y := by
  cases iter <;> first | rfl | cases h
noncomputable def neComp (ne : NE) (scope : Scope) (cells : List (Str × Nat)) (x : Str) (v : V) : NE := ⟨relN ne.names scope.names, [(x, v)], cells⟩
section
variable {D : Wd} {n : Nat} {fx : Fx} {dp un : Nat} {μ : Mu} {H H₁ H₂ H' : List O} {m : Str → Option Value} {rest : Ledger} {s : Shared}
open LCg in
noncomputable def CompE (D : Wd) (fx : Fx) (envC : Env) (neC : V → NE) (x : Str) (μ : Mu) (m : Str → Option Value) (rest : Ledger) (C : Addr) : Prop :=
  ∀ {more : Mu} {I : Addr} {oI oC : Obj} {mC : Str → Option Value} {v : V} {rv : Value}, RelV (μ ++ more) v rv → NsObj oC (fun y => if y = x then some rv else mC y) → EnvOk fx envC (neC v) (μ ++ more) m ((I, oI) :: (C, oC) :: rest)
inductive CompI (D : Wd) (n : Nat) (neC : V → NE) (tests : List PySem.Expr) (elt : PySem.Expr) (b : Bool) (d : Nat) (H' : List O) (fx : Fx) (μ : Mu) (m : Str → Option Value) (rest : Ledger) (I C : Addr) (s : Shared) (k : Nat) : Shared → Prop
  | mk {more : Mu} {H : List O} {it : It} {h : Heap} {tk : Nat} {oI oC : Obj} {mC : Str → Option Value} : CompR D n neC tests elt b d k it H H' → ItIn (μ ++ more) it oI → StD D fx (μ ++ more) H m ((I, oI) :: (C, oC) :: rest) h → LCg.NsObj oC mC → CompI D n neC tests elt b d H' fx μ m rest I C s k { s with heap := h, toks := tk }
theorem toE0 {α : Type} {A : Around} {t : Sem α} {Q : α → Shared → Prop} {E : Value → Shared → Prop} {s : Shared} (h : wpAny (model D.prog D.w) A t Q NoE s) : wpAny (model D.prog D.w) A t Q E s := wpAny_mono h (fun _ _ z => z) fun _ _ z => z.elim
open LCg in
theorem assign_comp {scope : Scope} {cl : List (Str × Addr)} {C I : Addr} {env : Env} {x : Str} {px : Pos} {oI oC : Obj} {mC : Str → Option Value} {rv : Value} {Q : Unit → Shared → Prop} {E : Value → Shared → Prop} (hkind : scope.kind = .function) (hx : scope.names.lookup x = some .local) (hnC : NsObj oC mC) (S : StD D fx μ H m ((I, oI) :: (C, oC) :: rest) s.heap)
    (q : ∀ oC' h' tk', NsObj oC' (fun y => if y = x then some rv else mC y) → StD D fx μ H m ((I, oI) :: (C, oC') :: rest) h' → Q () { s with heap := h', toks := tk' }) :
    wpAny (model D.prog D.w) (fx.A dp un) (assign (.Name x px) (compEnvC scope cl C env) rv) Q E s := by
  have S₁ := S.perm (List.Perm.swap _ _ _)
  refine wpAny_assign_Name (wpAny_storeName_local (lookup_relabel_local hx) (hnC.ns (rest_get S₁).1) (fun h'' hn'' hs'' => ?_) (by simp [compEnvC, relabel, hkind]))
  obtain ⟨oC', g', hoC'⟩ := ns_obj hn''
  exact q oC' h'' _ hoC' ((rest_turn S₁ hs'' g').perm (List.Perm.swap _ _ _))
open LCg in
theorem comp_loop {scope : Scope} {cl : List (Str × Addr)} {C I ad ad' : Addr} {env : Env} {x : Str} {px pos : Pos} {iter elt : PySem.Expr} {tests : List PySem.Expr} {neC : V → NE} {b : Bool} {d k : Nat} {it : It} {oI oC : Obj} {mC : Str → Option Value} {P : Result → Shared → Prop} (okx : fx.Ok D) (room : Room n dp un) (hkind : scope.kind = .function) (hx : scope.names.lookup x = some .local)
    (hE : CompE D fx (compEnvC scope cl C env) neC x μ m rest C) (hd : μ[d]? = some (ad, ad')) (R : CompR D n neC tests elt b d k it H H') (hin : ItIn μ it oI) (S : StD D fx μ H m ((I, oI) :: (C, oC) :: rest) s.heap) (hn : NsObj oC mC)
    (fin : ∀ oC mC more h tk, NsObj oC mC → StD D fx (μ ++ more) H' m ((C, oC) :: rest) h → P (.ok .next) { s with heap := h, toks := tk }) :
    codeAny (model D.prog D.w) (fx.A dp un) (.compLoop (.ListComp elt [⟨.Name x px, iter, tests, 0⟩] scope pos) 0 (.ref I) (.ref ad) (compEnvC scope cl C env)) P s := by
  refine codeAny_compLoop_tests (CompI D n neC tests elt b d H' fx μ m rest I C s) (fun k s' hI => ?_) k (.mk (more := []) (h := s.heap) (tk := s.toks) R (by rw [List.append_nil]; exact hin) (by rw [List.append_nil]; exact S) hn)
  obtain ⟨R, hin, S, hn⟩ := hI
  cases R with
  | done e => exact next_end e rfl hin S fun h₄ tk₄ S₄ => fin _ _ _ h₄ tk₄ hn S₄
  | pass e ht he hl hle R' =>
    refine next_item e hin S fun rv oI' h₄ tk₄ hr hi S₄ => ?_
    refine assign_comp (s := ⟨h₄, s.gens, s.drawn, tk₄, s.os⟩) hkind hx hn S₄ fun oC' h₅ tk₅ hn₅ S₅ => ?_
    refine toE0 (ht fx _ dp un _ m _ ⟨h₅, s.gens, s.drawn, tk₅, s.os⟩ _ okx room (hE hr hn₅) S₅ fun c mo h₆ tk₆ hc S₆ => ?_)
    cases (show c = true from hc)
    rw [List.append_assoc] at S₆
    have hr₆ := hr.ext (more := mo)
    rw [List.append_assoc] at hr₆
    refine toE0 (he fx _ dp un _ m _ ⟨h₆, s.gens, s.drawn, tk₆, s.os⟩ _ okx room (hE hr₆ hn₅) S₆ fun ru mo₂ h₇ tk₇ hru S₇ => ?_)
    have hi₇ := (hi.ext (more := mo)).ext (more := mo₂)
    rw [List.append_assoc, List.append_assoc] at hi₇
    rw [List.append_assoc, List.append_assoc] at S₇ hru
    exact append_acc (s := ⟨h₇, s.gens, s.drawn, tk₇, s.os⟩) S₇ hl (mu_ext hd) hle hru fun h₈ tk₈ S₈ => ⟨_, Nat.lt_succ_self _, .mk R' hi₇ S₈ hn₅⟩
  | fail e ht R' =>
    refine next_item e hin S fun rv oI' h₄ tk₄ hr hi S₄ => ?_
    refine assign_comp (s := ⟨h₄, s.gens, s.drawn, tk₄, s.os⟩) hkind hx hn S₄ fun oC' h₅ tk₅ hn₅ S₅ => ?_
    refine toE0 (ht fx _ dp un _ m _ ⟨h₅, s.gens, s.drawn, tk₅, s.os⟩ _ okx room (hE hr hn₅) S₅ fun c mo h₆ tk₆ hc S₆ => ?_)
    cases (show c = false from hc)
    have hi₆ := hi.ext (more := mo)
    rw [List.append_assoc] at S₆ hi₆
    exact ⟨_, Nat.lt_succ_self _, .mk R' hi₆ S₆ hn₅⟩
open LCg in
theorem comp_gen {env : Env} {ne : NE} {x : Str} {px pos pos2 : Pos} {iter elt : PySem.Expr} {tests : List PySem.Expr} {scope : Scope} {cellsC : List (Str × Nat)} {use : Option (Value → Sem Unit)} {b : Bool} {k : Nat} {it : It} {Q : Value → Shared → Prop} (okx : fx.Ok D) (room : Room n dp un) (eo : EnvOk fx env ne μ m rest)
    (S : StD D fx μ H m rest s.heap) (so : scopeOk scope x = true) (oi : okIter iter = true) (fc : freeC ne.cells scope.names [] = some cellsC)
    (first : ∀ {Q : Value → Shared → Prop}, IterEnd D fx H₁ it μ m rest s Q → wpAny (model D.prog D.w) (fx.A dp un) (eval iter env) (fun xv s₁ => wpAny (model D.prog D.w) (fx.A dp un) (pyIter xv) Q NoE s₁) NoE s)
    (R : CompR D n (neComp ne scope cellsC x) tests elt b H₁.length k it (H₁ ++ [accO b []]) H')
    (fin : ∀ (C : Addr) (oC : Obj) (mC : Str → Option Value) (r : Value) (more : Mu) (h' : Heap) (tk' : Nat), NsObj oC mC → RelV (μ ++ more) (.ref H₁.length) r → StD D fx (μ ++ more) H' m ((C, oC) :: rest) h' → compPost (model D.prog D.w) (fx.A dp un) NoE use Q r C (.ok .next) { s with heap := h', toks := tk' }) :
    wpAny (model D.prog D.w) (fx.A dp un) (comprehension (.ListComp elt [⟨.Name x px, iter, tests, 0⟩] scope pos) scope env pos2 (newList []) false (eval iter env) use) Q NoE s := by
  obtain ⟨hkind, hcell, hnames, hx⟩ := scopeOk_ok so
  obtain ⟨cl, hclos, hcl⟩ := closure_ok eo.cel fc
  refine wpAny_comprehension_free rfl (folded_of oi env) hclos hkind hnames (first fun I oI more h₁ tk₁ hin S₁ => ?_)
  refine newList_ok (vs := []) (H := H₁) S₁ rfl .nil fun dr more₂ h₂ tk₂ hdr S₂ => ?_
  have hin₂ := hin.ext (more := more₂)
  rw [List.append_assoc] at hdr S₂ hin₂
  have S₂' : StD D fx (μ ++ (more ++ more₂)) (H₁ ++ [accO b []]) m ((I, oI) :: rest) h₂ := by
    cases b with
    | false => exact S₂
    | true =>
      have := S₂.conv (d := H₁.length) (o := .list []) (o' := .slist []) (by rw [List.getElem?_append_right (Nat.le_refl _), Nat.sub_self]; rfl) fun _ _ z => z
      rw [List.set_append_right _ _ (Nat.le_refl _), Nat.sub_self] at this
      exact this
  refine wpAny_newFunctionEnv hcell (fun y hy => nomatch hy) (fun h₃ hns₃ hsb₃ => ?_) hkind
  dsimp only at hns₃ hsb₃ ⊢
  obtain ⟨oC, hgC, hoC⟩ := ns_obj hns₃
  have S₃ := rest_turn (s := ⟨_, s.gens, s.drawn, 0, s.os⟩) (rest_push (s := ⟨h₂, s.gens, s.drawn, 0, s.os⟩) (ob := { cls := .type (if (some env).isSome then "dict" else "frame"), data := .dict #[] }) S₂' rfl) hsb₃ hgC
  have S₃' := S₃.perm (List.Perm.swap _ _ _)
  obtain ⟨ad, ad', hkd, rfl⟩ := hdr
  have hE : CompE D fx (compEnvC scope cl h₂.objs.size env) (neComp ne scope cellsC x) x (μ ++ (more ++ more₂)) m rest h₂.objs.size := fun {more' I' oI' oC' mC' v rv} hr hn =>
    ⟨hkind, eo.glob, eo.blt, relabel_names eo.kind eo.nam, .inr ⟨oC', _, .tail _ (.head _), hn, fun y v' e => by
      have e' : (match Nat.beq (code x) (code y) with | true => some v | false => none) = some v' := e
      cases q : Nat.beq (code x) (code y) with
      | true =>
        rw [q] at e'
        cases e'
        exact ⟨rv, if_pos (code_inj (Nat.eq_of_beq_eq_true q)).symm, hr⟩
      | false => rw [q] at e'; exact noneNe e'⟩, by rw [List.append_assoc]; exact hcl.cells.ext⟩
  have loop : codeAny (model D.prog D.w) (fx.A dp un) (.compLoop (.ListComp elt [⟨.Name x px, iter, tests, 0⟩] scope pos) 0 (.ref I) (.ref ad) (compEnvC scope cl h₂.objs.size env)) (compPost (model D.prog D.w) (fx.A dp un) NoE use Q (.ref ad) h₂.objs.size) { s with heap := h₃, toks := tk₂ } :=
    comp_loop (s := { s with heap := h₃, toks := tk₂ }) okx room hkind hx hE hkd R hin₂ S₃' hoC fun oC mC mo h₄ tk₄ hnC S₄ => by
      rw [List.append_assoc] at S₄
      exact fin _ oC mC (.ref ad) _ h₄ tk₄ hnC ⟨ad, ad', by rw [← List.append_assoc]; exact mu_ext hkd, rfl⟩ S₄
  exact codeAny_compStart_list loop (iter_self hin₂ (rest_get (s := { s with heap := h₃, toks := tk₂ }) S₃').1 loop)
end
end Mine
end
section
open PySem PySem.W PyProof.Rows PySem.Calls PySem.Spec
namespace Mine

noncomputable def compPut (σ : Sg) (d : Nat) (u : V) : Option Sg := ob σ.H[d]? fun o => match o with
  | .list l => onT (Nat.ble l.length 1000) (some (σ.withH (σ.H.set d (.list (l ++ [u])))))
  | _ => none
theorem compPut_ok {σ : Sg} {d : Nat} {u : V} {σ' : Sg} (h : compPut σ d u = some σ') : ∃ l, σ.H[d]? = some (.list l) ∧ l.length ≤ 1000 ∧ σ' = σ.withH (σ.H.set d (.list (l ++ [u]))) := by
  refine (?_ : Post (compPut σ d u) fun σ' => ∃ l, σ.H[d]? = some (.list l) ∧ l.length ≤ 1000 ∧ σ' = σ.withH (σ.H.set d (.list (l ++ [u])))) _ h
  refine .ob fun o ho => ?_
  cases o with
  | list l => exact .le fun hl => .pure ⟨l, ho, hl, rfl⟩
  | _ => exact .none
noncomputable def compE (r : Rec) (neC : V → NE) (tests : List PySem.Expr) (elt : PySem.Expr) (d : Nat) : Nat → It → Sg → Option (Unit × Sg)
  | 0, _, _ => none
  | f + 1, it, σ => ob (nextV σ.H it) fun z => match z with
    | none => some ((), σ)
    | some y => match tests with
      | [] => bnd (r.ev (neC y.1) elt σ) fun u σ => ob (compPut σ d u) fun σ => compE r neC tests elt d f y.2 σ
      | c :: cs => match cs with
        | [] => bnd (r.tr (neC y.1) c σ) fun t σ => sel t (bnd (r.ev (neC y.1) elt σ) fun u σ => ob (compPut σ d u) fun σ => compE r neC tests elt d f y.2 σ) (compE r neC tests elt d f y.2 σ)
        | _ :: _ => none
section
variable {D : Wd} {n : Nat} {fx : Fx} {dp un : Nat} {μ : Mu} {m : Str → Option Value} {rest : Ledger} {s : Shared}
theorem compE_post {r : Rec} (ro : RecOk D n r) {neC : V → NE} {tests : List PySem.Expr} {elt : PySem.Expr} {d : Nat} {f : Nat} : ∀ {it : It} {σ : Sg}, Post (compE r neC tests elt d f it σ) fun p => σ.le p.2 ∧ (p.2.ok → CompR D n neC tests elt false d f it σ.H p.2.H) := by
  induction f with
  | zero => exact .none
  | succ f ih =>
    intro it σ
    refine .ob fun z h => ?_
    cases z with
    | none => exact .pure ⟨.refl _, fun _ => .done h⟩
    | some y =>
      have put : ∀ {u : V} {σ₁ σ₂ : Sg} {p : Unit × Sg}, compPut σ₁ d u = some σ₂ → compE r neC tests elt d f y.2 σ₂ = some p → σ₁.le p.2 ∧ ∃ l, σ₁.H[d]? = some (.list l) ∧ l.length ≤ 1000 ∧ (p.2.ok → CompR D n neC tests elt false d f y.2 (σ₁.H.set d (.list (l ++ [u]))) p.2.H) := fun h1 h2 => by
        obtain ⟨l, a, b, rfl⟩ := compPut_ok h1
        obtain ⟨le, x⟩ := ih _ h2
        exact ⟨le, l, a, b, x⟩
      cases tests with
      | nil =>
        refine .bnd fun u σ₁ h1 => .ob fun σ₂ h2 p h3 => ?_
        obtain ⟨le1, x1⟩ := ro.ev _ _ _ _ _ h1
        obtain ⟨le2, l, hl, hle, x2⟩ := put h2 h3
        exact ⟨le1.trans le2, fun ok => .pass h .nil (x1 (le2.ok ok)) hl hle (x2 ok)⟩
      | cons c cs =>
        cases cs with
        | cons => exact .none
        | nil =>
          refine .bnd fun t σ₁ h1 => ?_
          obtain ⟨le1, x1⟩ := ro.tr _ _ _ _ _ h1
          refine .sel (fun ht => .bnd fun u σ₂ h2 => .ob fun σ₃ h3 p h4 => ?_) fun ht p h4 => ?_
          · subst ht
            obtain ⟨le2, x2⟩ := ro.ev _ _ _ _ _ h2
            obtain ⟨le3, l, hl, hle, x3⟩ := put h3 h4
            exact ⟨le1.trans (le2.trans le3), fun ok => .pass h (.one (x1 ((le2.trans le3).ok ok))) (x2 (le3.ok ok)) hl hle (x3 ok)⟩
          · subst ht
            obtain ⟨le3, x3⟩ := ih _ h4
            exact ⟨le1.trans le3, fun ok => .fail h (.one (x1 (le3.ok ok))) (x3 ok)⟩
theorem comp_ev {ne : NE} {x : Str} {px pos : Pos} {iter elt : PySem.Expr} {tests : List PySem.Expr} {scope : Scope} {cellsC : List (Str × Nat)} {b : Bool} {k : Nat} {it : It} {v : V} {H : List O} {σ₁ σ₂ : Sg} {H' : List O}
    (so : scopeOk scope x = true) (oi : okIter iter = true) (fc : freeC ne.cells scope.names [] = some cellsC) (e1 : EvT D n ne iter H v σ₁.H) (e2 : iterOf v σ₁ = some (it, σ₂)) (ok : σ₂.ok)
    (R : CompR D n (neComp ne scope cellsC x) tests elt b σ₂.H.length k it (σ₂.H ++ [accO b []]) H') : EvT D n ne (.ListComp elt [⟨.Name x px, iter, tests, 0⟩] scope pos) H (.ref σ₂.H.length) H' := by
  intro fx env dp un μ m rest s Q okx room eo S P
  show wpAny _ _ (comprehension (.ListComp elt [⟨.Name x px, iter, tests, 0⟩] scope pos) scope env (firstIterPos [⟨.Name x px, iter, tests, 0⟩] pos) (newList []) false (eval iter env) none) Q NoE s
  refine comp_gen (H₁ := σ₂.H) okx room eo S so oi fc (fun {Q'} P' => ?_) R fun C oC mC r more h' tk' hn hr S' => ?_
  · refine e1 fx env dp un μ m rest s _ okx room eo S fun rv more h' tk' hr S' => ?_
    exact (iterOf_ok (s := { s with heap := h', toks := tk' }) e2).2 ok hr S' P'.next
  · have g := rest_get (s := { s with heap := h', toks := tk' }) S'
    refine ⟨mC, hn.ns g.1, fun h'' hs'' => ?_⟩
    exact P r more h'' tk' hr (rest_drop (s := { s with heap := h', toks := tk' }) S' fun b o ne e => (hs''.2 b ne).trans e)
inductive CompT (D : Wd) (n : Nat) (ne : NE) (e : PySem.Expr) (H : List O) (d : Nat) (H' : List O) : Prop
  | mk (elt : PySem.Expr) (x : Str) (px : Pos) (iter : PySem.Expr) (tests : List PySem.Expr) (scope : Scope) (pos : Pos) (cellsC : List (Str × Nat)) (b : Bool) (k : Nat) (it : It) (v : V) (σ₁ σ₂ : Sg) (he : e = .ListComp elt [⟨.Name x px, iter, tests, 0⟩] scope pos)
    (so : scopeOk scope x = true) (oi : okIter iter = true) (fc : freeC ne.cells scope.names [] = some cellsC) (e1 : EvT D n ne iter H v σ₁.H) (e2 : iterOf v σ₁ = some (it, σ₂)) (ok : σ₂.ok) (R : CompR D n (neComp ne scope cellsC x) tests elt b σ₂.H.length k it (σ₂.H ++ [accO b []]) H') (hd : d = σ₂.H.length)
theorem CompT.ev {ne : NE} {e : PySem.Expr} {H H' : List O} {d : Nat} (c : CompT D n ne e H d H') : EvT D n ne e H (.ref d) H' := by
  obtain ⟨elt, x, px, iter, tests, scope, pos, cellsC, b, k, it, v, σ₁, σ₂, rfl, so, oi, fc, e1, e2, ok, R, rfl⟩ := c
  exact comp_ev so oi fc e1 e2 ok R
noncomputable def evCompN (r : Rec) (ne : NE) (e : PySem.Expr) (σ : Sg) : Option (Nat × Sg) :=
  match e with
  | .ListComp elt gs scope _ => (match gs with
    | [] => none
    | g :: gr => (match gr with
      | _ :: _ => none
      | [] => (match g with
        | ⟨t, iter, tests, a⟩ => onT (decide (a = 0)) (match t with
          | .Name x _ => onT (scopeOk scope x) (onT (okIter iter) (ob (freeC ne.cells scope.names []) fun cellsC =>
              bnd (r.ev ne iter σ) fun v σ => bnd (iterOf v σ) fun it σ => bnd (compE r (neComp ne scope cellsC x) tests elt σ.H.length 64 it (σ.withH (σ.H ++ [.list []]))) fun _ σ' => some (σ.H.length, σ')))
          | _ => none))))
  | _ => none
theorem evCompN_post {r : Rec} (ro : RecOk D n r) {ne : NE} {e : PySem.Expr} {σ : Sg} : Post (evCompN r ne e σ) fun p => σ.le p.2 ∧ (p.2.ok → CompT D n ne e σ.H p.1 p.2.H) := by
  cases e with
  | ListComp elt gs scope pos =>
    match gs with
    | [] => exact .none
    | _ :: _ :: _ => exact .none
    | [⟨t, iter, tests, a⟩] =>
      refine .onT fun ha => ?_
      cases of_decide_eq_true ha
      cases t with
      | Name x px =>
        refine .onT fun so => .onT fun oi => .ob fun cellsC fc => .bnd fun v1 σ₁ h1 => .bnd fun it σ₂ h2 => .bnd fun u σ₃ h3 => .pure ?_
        obtain ⟨le1, x1⟩ := ro.ev _ _ _ _ _ h1
        have le2 := iterOf_le h2
        obtain ⟨le3, x3⟩ := compE_post ro _ h3
        exact ⟨le1.trans (le2.trans le3), fun ok => ⟨_, _, _, _, _, _, _, _, false, _, it, v1, σ₁, σ₂, rfl, so, oi, fc, x1 ((le2.trans le3).ok ok), h2, le3.ok ok, x3 ok, rfl⟩⟩
      | _ => exact .none
  | _ => exact .none
noncomputable def LOrcOk (D : Wd) (n : Nat) (lo : NE → PySem.Expr → Sg → Option (Nat × Sg)) : Prop := ∀ ne e σ d σ', lo ne e σ = some (d, σ') → σ.le σ' ∧ (σ'.ok → CompT D n ne e σ.H d σ'.H)
noncomputable def compX (lo : NE → PySem.Expr → Sg → Option (Nat × Sg)) (r : Rec) (ne : NE) (e : PySem.Expr) (σ : Sg) : Option (Nat × Sg) := optE (lo ne e σ) some (evCompN r ne e σ)
theorem compX_ok {lo : NE → PySem.Expr → Sg → Option (Nat × Sg)} (hl : LOrcOk D n lo) {r : Rec} (ro : RecOk D n r) {ne : NE} {e : PySem.Expr} {σ σ' : Sg} {d : Nat} (h : compX lo r ne e σ = some (d, σ')) : σ.le σ' ∧ (σ'.ok → CompT D n ne e σ.H d σ'.H) :=
  Post.optE (Q := fun p : Nat × Sg => σ.le p.2 ∧ (p.2.ok → CompT D n ne e σ.H p.1 p.2.H)) (fun p q => .pure (hl _ _ _ _ _ q)) (fun _ => evCompN_post ro) _ h
theorem comp_store {ne : NE} {x y : Str} {px py pos pos2 : Pos} {iter elt : PySem.Expr} {tests : List PySem.Expr} {scope : Scope} {cellsC : List (Str × Nat)} {b : Bool} {k : Nat} {it : It} {v : V} {H : List O} {σ₁ σ₂ : Sg} {H' : List O} {Q : Value → Shared → Prop}
    (so : scopeOk scope x = true) (oi : okIter iter = true) (fc : freeC ne.cells scope.names [] = some cellsC) (e1 : EvT D n ne iter H v σ₁.H) (e2 : iterOf v σ₁ = some (it, σ₂)) (ok : σ₂.ok)
    (R : CompR D n (neComp ne scope cellsC x) tests elt b σ₂.H.length k it (σ₂.H ++ [accO b []]) H')
    (okx : fx.Ok D) (room : Room n dp un) (eo : EnvOk fx fx.env ne μ m rest) (S : StD D fx μ H m rest s.heap) (hy : fx.cs.names.lookup y = some .local)
    (q : ∀ (r : Value) (more : Mu) (h' : Heap) (tk' : Nat), RelV (μ ++ more) (.ref σ₂.H.length) r → StD D fx (μ ++ more) H' (fun z => if z = y then some r else m z) rest h' → Q .none { s with heap := h', toks := tk' }) :
    wpAny (model D.prog D.w) (fx.A dp un) (comprehension (.ListComp elt [⟨.Name x px, iter, tests, 0⟩] scope pos) scope fx.env pos2 (newList []) false (eval iter fx.env) (some (assign (.Name y py) fx.env))) Q NoE s := by
  refine comp_gen (H₁ := σ₂.H) okx room eo S so oi fc (fun {Q'} P' => ?_) R fun C oC mC r more h' tk' hn hr S' => ?_
  · refine e1 fx fx.env dp un μ m rest s _ okx room eo S fun rv more h' tk' hr S' => ?_
    exact (iterOf_ok (s := { s with heap := h', toks := tk' }) e2).2 ok hr S' P'.next
  · show wpAny _ _ (assign (.Name y py) fx.env r) _ _ _
    have hp : (fx.env.scope.kind == .class || (fx.env.scope.kind == .module && fx.env.locals != fx.env.globals)) = false := by
      show (fx.cs.kind == .class || (fx.cs.kind == .module && _)) = false
      rw [okx.hk]; rfl
    refine wpAny_assign_Name (wpAny_storeName_local hy S'.fr.ns (fun h₂ hn₂ hs₂ => ?_) hp)
    have S₂ : StD D fx (μ ++ more) H' (fun z => if z = y then some r else m z) ((C, oC) :: rest) h₂ := S'.reframe (S'.fr.set hn₂ hs₂) fun news N => N.set hs₂
    have g := rest_get (s := { s with heap := h₂, toks := tk' }) S₂
    refine ⟨mC, hn.ns g.1, fun h'' hs'' => ?_⟩
    exact q r more h'' _ hr (rest_drop (s := { s with heap := h₂, toks := tk' }) S₂ fun b o ne e => (hs''.2 b ne).trans e)
end

noncomputable def keyStr (k : Option PySem.Expr) : Option Str := match k with
  | none => none
  | some e => match e with
    | .Constant c _ _ => (match c with
      | .str x => some x
      | _ => none)
    | _ => none
theorem keyStr_ok {k : Option PySem.Expr} {x : Str} (h : keyStr k = some x) : ∃ a p, k = some (.Constant (.str x) a p) := by
  cases k with
  | none => exact noneNe h
  | some e =>
    cases e with
    | Constant c a p =>
      cases c with
      | str y => cases h; exact ⟨_, _, rfl⟩
      | _ => exact noneNe h
    | _ => exact noneNe h
noncomputable def evPairsE (r : Rec) (ne : NE) : List (Option PySem.Expr) → List PySem.Expr → Sg → Option (List (Str × V) × Sg)
  | [], es, σ => match es with
    | [] => some ([], σ)
    | _ :: _ => none
  | k :: ks, es, σ => match es with
    | [] => none
    | e :: es => ob (keyStr k) fun x => bnd (r.ev ne e σ) fun v σ => bnd (evPairsE r ne ks es σ) fun l σ => some ((x, v) :: l, σ)
noncomputable def newKey : List (Str × V) → Str → Bool
  | [], _ => true
  | (k, _) :: r, x => match eqS k x with
    | true => false
    | false => newKey r x
noncomputable def nodupK : List (Str × V) → Bool
  | [] => true
  | (k, _) :: r => match newKey r k with
    | true => nodupK r
    | false => false
theorem newKey_ok {x : Str} : ∀ {l : List (Str × V)}, newKey l x = true → x ∉ l.map (·.1)
  | [], _, h => by simp at h
  | (k, v) :: r, h, hm => by
    unfold newKey at h
    split at h
    · cases h
    · rename_i q
      rw [List.map_cons] at hm
      rcases List.mem_cons.mp hm with e | hm
      · exact eqS_false q e.symm
      · exact newKey_ok h hm
theorem nodupK_ok : ∀ {l : List (Str × V)}, nodupK l = true → (l.map (·.1)).Nodup
  | [], _ => List.nodup_nil
  | (k, v) :: r, h => by
    unfold nodupK at h
    split at h
    · rename_i q
      rw [List.map_cons, List.nodup_cons]
      exact ⟨newKey_ok q, nodupK_ok h⟩
    · cases h
end Mine
end
section
open PySem PySem.W PyProof.Rows PySem.Calls PySem.Spec
namespace Mine

section
variable {D : Wd} {n : Nat} {fx : Fx} {dp un : Nat} {μ : Mu} {m : Str → Option Value} {rest : Ledger} {s : Shared}
noncomputable def EvPT (D : Wd) (n : Nat) (ne : NE) (ks : List (Option PySem.Expr)) (es : List PySem.Expr) (H : List O) (l : List (Str × V)) (H' : List O) : Prop :=
  ∀ (fx : Fx) (env : Env) (pos : Pos) (dp un : Nat) (μ : Mu) (m : Str → Option Value) (rest : Ledger) (s : Shared) (Q : List (Value × Value) → Shared → Prop), fx.Ok D → Room n dp un → EnvOk fx env ne μ m rest → StD D fx μ H m rest s.heap →
    PostG D fx H' (fun μ (vs : List (Value × Value)) => allStrKeys vs = true ∧ All2 (PairRel μ) l (strPairs vs)) μ m rest s Q → wpAny (model D.prog D.w) (fx.A dp un) (evalPairs (pairTrees ks es env pos)) Q NoE s
noncomputable def PairsP (D : Wd) (n : Nat) (ne : NE) (ks : List (Option PySem.Expr)) (es : List PySem.Expr) (σ : Sg) (p : List (Str × V) × Sg) : Prop :=
  (ks.all (·.isSome) = true ∧ ks.length = es.length ∧ p.1.length = ks.length) ∧ σ.le p.2 ∧ (p.2.ok → EvPT D n ne ks es σ.H p.1 p.2.H)
theorem evPairsE_ok {r : Rec} (ro : RecOk D n r) {ne : NE} {ks : List (Option PySem.Expr)} : ∀ {es : List PySem.Expr} {σ : Sg}, Post (evPairsE r ne ks es σ) (PairsP D n ne ks es σ) := by
  induction ks with
  | nil =>
    intro es σ
    cases es with
    | nil => exact .pure ⟨⟨rfl, rfl, rfl⟩, .refl _, fun _ fx env pos dp un μ m rest s Q okx room eo S P => evalPairs_nil (P.here' ⟨rfl, .nil⟩ S)⟩
    | cons => exact .none
  | cons key ks ih =>
    intro es σ
    cases es with
    | nil => exact .none
    | cons e es =>
      refine .ob fun x hx => .bnd fun v σ₁ h1 => .bnd fun l' σ₂ h2 => .pure ?_
      obtain ⟨a, p, rfl⟩ := keyStr_ok hx
      obtain ⟨le1, x1⟩ := ro.ev _ _ _ _ _ h1
      obtain ⟨⟨a1, a2, a3⟩, le2, x2⟩ := ih _ h2
      refine ⟨⟨a1, congrArg Nat.succ a2, congrArg Nat.succ a3⟩, le1.trans le2, fun ok fx env pos dp un μ m rest s Q okx room eo S P => ?_⟩
      refine evalPairs_cons ?_
      refine evConst_ok (c := .str x) (v := .str x) (μ := μ) rfl fun rk tk hrk => ?_
      refine wpAny_bind (x1 (le2.ok ok) fx env dp un μ m rest _ _ okx room eo S fun rv more h' tk' hv S' => ?_)
      refine wpAny_bind (wpAny_standAt (wpAny_pure ?_))
      refine x2 ok fx env pos dp un _ m rest _ _ okx room eo.ext S' fun vs more' h'' tk'' hvs S'' => ?_
      obtain ⟨t, rfl⟩ := hrk
      rw [List.append_assoc] at hvs S''
      have hv' := hv.ext (more := more')
      rw [List.append_assoc] at hv'
      exact P _ _ h'' tk'' ⟨hvs.1, .cons ⟨rfl, hv'⟩ hvs.2⟩ S''
noncomputable def dictE (r : Rec) (ne : NE) (ks : List (Option PySem.Expr)) (es : List PySem.Expr) (σ : Sg) : Option (V × Sg) :=
  match ks with
  | [] => match es with
    | [] => some (.ref σ.H.length, σ.withH (σ.H ++ [.dictI []]))
    | _ :: _ => none
  | _ :: _ => bnd (evPairsE r ne ks es (σ.withH (σ.H ++ [.dictS []]))) fun l σ' => ob σ'.H[σ.H.length]? fun o => match o with
    | .dictS es => (match es with
      | [] => onT (nodupK l) (onT (Nat.ble l.length 15) (some (.ref σ.H.length, σ'.withH (σ'.H.set σ.H.length (.dictS l)))))
      | _ :: _ => none)
    | _ => none
theorem nolimit {D : Wd} {fx : Fx} (okx : fx.Ok D) : fx.h₀.NoLimit := (topRead_of okx.T).nolimit
theorem pair_keys : ∀ {l : List (Str × V)} {k : List (Str × Value)}, All2 (PairRel μ) l k → k.map (·.1) = l.map (·.1)
  | _, _, .nil => rfl
  | _, _, .cons h t => by rw [List.map_cons, List.map_cons, pair_keys t, h.1]
theorem dictE_ok {r : Rec} (ro : RecOk D n r) {ne : NE} {ks : List (Option PySem.Expr)} {es : List PySem.Expr} {pos : Pos} {σ σ' : Sg} {v : V} (e : dictE r ne ks es σ = some (v, σ')) : σ.le σ' ∧ (σ'.ok → EvT D n ne (.Dict ks es pos) σ.H v σ'.H) := by
  refine (?_ : Post (dictE r ne ks es σ) fun p => σ.le p.2 ∧ (p.2.ok → EvT D n ne (.Dict ks es pos) σ.H p.1 p.2.H)) _ e
  cases ks with
  | nil =>
    cases es with
    | cons => exact .none
    | nil =>
      refine .pure ⟨Sg.le_withH _ _, fun _ fx env dp un μ m rest s Q okx room eo S P => ?_⟩
      obtain ⟨led, N, nd, al⟩ := S.ex
      refine newDict_K S.fr N (nolimit okx) fun d h' o F' N' lt hd _ _ hI _ => ?_
      exact grown (o := .dictI []) S nd al F' N' lt ⟨rfl, o, [], .head _, hd, hI, .nil⟩ P s.toks
  | cons k0 ks =>
    refine .bnd fun l σ₁ h1 => .ob fun od hd => ?_
    cases od with
    | dictS l0 =>
      cases l0 with
      | cons => exact .none
      | nil =>
      refine .onT fun hn => .onT fun hle => .pure ?_
      obtain ⟨⟨a1, a2, a3⟩, le1, x1⟩ := evPairsE_ok ro _ h1
      have le1' : σ.le σ₁ := le1
      refine ⟨le1', fun ok fx env dp un μ m rest s Q okx room eo S P => ?_⟩
      obtain ⟨led, N, nd, al⟩ := S.ex
      refine kdn_eval (knd := PySem.strKind D.prog D.w) S.fr N (nolimit okx) a1 a2 (List.cons_ne_nil _ _) (Nat.le_trans (Nat.le_of_eq a3.symm) (Nat.le_trans (Nat.le_of_ble_eq_true hle) (by decide))) fun d h₁ o F₁ N₁ lt hm hI => ?_
      have S₁ : StD D fx (μ ++ [(d, d)]) (σ.H ++ [.dictS []]) m rest h₁ := S.grow nd al F₁ N₁ lt ⟨rfl, o, [], .head _, hm, hI, .nil⟩
      refine x1 ok fx env pos dp un _ m rest _ _ okx room eo.ext S₁ fun vs more h₂ tk₂ hvs S₂ => ?_
      obtain ⟨p, led₂, hp, N₂, nd₂, al₂, hpp, o₂, kvs, m1, m2, m3, m4⟩ := S₂.obj hd
      have hk : (μ ++ [(d, d)])[σ.H.length]? = some (d, d) := by rw [List.getElem?_append_right (Nat.le_of_eq S.len), S.len, Nat.sub_self]; rfl
      have hk' := mu_ext (more := more) hk
      rw [hk'] at hp; cases hp
      cases m4
      refine kdn_made_str (s := { s with heap := h₂, toks := tk₂ }) S₂.fr N₂ (updF_of (List.mem_append_left _ m1) nd₂) m3 hvs.1 (by rw [pair_keys hvs.2]; exact nodupK_ok hn) fun h₃ o₃ F₃ N₃ hD₃ => ?_
      rw [List.append_assoc] at hk'
      have fin := S₂.turn nd₂ al₂ (by rw [List.append_assoc]; exact hk') (.inl rfl) m1 F₃ N₃ (o' := .dictS l) ⟨rfl, o₃, _, setA_mem m1, m2, hD₃, hvs.2⟩
      rw [List.append_assoc] at fin
      exact P _ _ h₃ _ ⟨d, d, hk', rfl⟩ fin
    | _ => exact .none
end
end Mine
end
section
open PySem PySem.W PyProof.Rows PySem.Calls PySem.Spec
namespace Mine

noncomputable def notV : V → Option V
  | .bool b => some (.bool (!b))
  | .sbool b => some (.sbool (!b))
  | _ => none
noncomputable def andE (r : Rec) (ne : NE) : List PySem.Expr → Sg → Option (V × Sg)
  | [], _ => none
  | e :: es, σ => bnd (r.ev ne e σ) fun v σ => match es with
    | [] => some (v, σ)
    | _ :: _ => bnd (tst v σ) fun b σ => sel b (andE r ne es σ) (some (v, σ))
noncomputable def orE (r : Rec) (ne : NE) : List PySem.Expr → Sg → Option (V × Sg)
  | [], _ => none
  | e :: es, σ => bnd (r.ev ne e σ) fun v σ => match es with
    | [] => some (v, σ)
    | _ :: _ => bnd (tst v σ) fun b σ => sel b (some (v, σ)) (orE r ne es σ)
noncomputable abbrev LO := NE → PySem.Expr → Sg → Option (Nat × Sg)
noncomputable def evUn (r : Rec) (ne : NE) (op : UnaryOp) (x : PySem.Expr) (σ : Sg) : Option (V × Sg) := match op with
  | .Not => bnd (r.ev ne x σ) fun v σ => ob (notV v) fun v => some (v, σ)
  | .USub => bnd (r.ev ne x σ) fun v σ => (match v with
    | .int i => some (.int (-i), σ)
    | _ => none)
  | _ => none
noncomputable def cmpSel {α : Type} (ops : List CmpOp) (rs : List PySem.Expr) (f : CmpOp → PySem.Expr → Option α) (g : CmpOp → CmpOp → PySem.Expr → PySem.Expr → Option α) : Option α := match ops with
  | [] => none
  | op :: ops => match rs with
    | [] => none
    | e₁ :: rs => match ops with
      | [] => (match rs with
        | [] => onF (behindInMarks op e₁) (f op e₁)
        | _ :: _ => none)
      | op₂ :: ops => (match ops with
        | [] => (match rs with
          | [] => none
          | e₂ :: rs => (match rs with
            | [] => onF (behindInMarks op₂ e₂) (g op op₂ e₁ e₂)
            | _ :: _ => none))
        | _ :: _ => none)
theorem Post.cmpSel {α : Type} {Q : α → Prop} {ops : List CmpOp} {rs : List PySem.Expr} {f : CmpOp → PySem.Expr → Option α} {g : CmpOp → CmpOp → PySem.Expr → PySem.Expr → Option α}
    (k : ∀ op e, ops = [op] → rs = [e] → behindInMarks op e = false → Post (f op e) Q) (l : ∀ op op₂ e e₂, ops = [op, op₂] → rs = [e, e₂] → behindInMarks op₂ e₂ = false → Post (g op op₂ e e₂) Q) : Post (Mine.cmpSel ops rs f g) Q := by
  match ops, rs with
  | [], _ => exact .none
  | _ :: _, [] => exact .none
  | [_], [_] => exact .onF fun hm => k _ _ rfl rfl hm
  | [_], _ :: _ :: _ => exact .none
  | [_, _], [_] => exact .none
  | [_, _], [_, _] => exact .onF fun hm => l _ _ _ _ rfl rfl hm
  | [_, _], _ :: _ :: _ :: _ => exact .none
  | _ :: _ :: _ :: _, _ :: _ => exact .none
noncomputable def evCmp (kt : Kt) (o : Orc) (r : Rec) (ne : NE) (l : PySem.Expr) (ops : List CmpOp) (rs : List PySem.Expr) (σ : Sg) : Option (V × Sg) :=
  cmpSel ops rs (fun op e₁ => bnd (r.ev ne l σ) fun a σ => bnd (r.ev ne e₁ σ) fun b σ => cmpX kt o op a b σ)
    fun op op₂ e₁ e₂ => bnd (r.ev ne l σ) fun a σ => bnd (r.ev ne e₁ σ) fun b σ => bnd (cmpX kt o op a b σ) fun v σ => bnd (tst v σ) fun k σ =>
      sel k (bnd (r.ev ne e₂ σ) fun c σ => cmpX kt o op₂ b c σ) (some (v, σ))
noncomputable def evSlice (r : Rec) (ne : NE) (v sl : PySem.Expr) (σ : Sg) : Option (V × Sg) := match sl with
  | .Slice lo up st _ => (match lo with
    | none => none
    | some lo => (match up with
      | some _ => none
      | none => (match st with
        | some _ => none
        | none => bnd (r.ev ne v σ) fun a σ => bnd (r.ev ne lo σ) fun b σ => (match a with
          | .str x => (match b with
            | .int j => onT (Nat.ble x.length 1000) (some (.str (Txt.slice x (some j) none), σ))
            | _ => none)
          | _ => none))))
  | _ => none
noncomputable def evNew (f : List V → O) (vs : List V) (σ : Sg) : Option (V × Sg) := onT (Nat.ble vs.length 1000) (some (.ref σ.H.length, σ.withH (σ.H ++ [f vs])))
noncomputable def evE (T : Tabs) (kt : Kt) (o : Orc) (lo : LO) (r : Rec) (ne : NE) (e : PySem.Expr) (σ : Sg) : Option (V × Sg) := match e with
  | .Constant c _ _ => ob (evConst c) fun v => some (v, σ)
  | .Name x _ => evName T ne x σ
  | .BoolOp op es _ => (match op with
    | .And => andE r ne es σ
    | .Or => orE r ne es σ)
  | .BinOp l op rr _ => bnd (r.ev ne l σ) fun a σ => bnd (r.ev ne rr σ) fun b σ => binX op a b σ
  | .UnaryOp op x _ => evUn r ne op x σ
  | .IfExp t b c _ => bnd (r.tr ne t σ) fun k σ => sel k (r.ev ne b σ) (r.ev ne c σ)
  | .Compare l ops rs _ => evCmp kt o r ne l ops rs σ
  | .Attribute v a _ => onT (okBase v) (bnd (r.ev ne v σ) fun w σ => ob (getAt T w a σ) fun x => some (x, σ))
  | .Subscript v sl _ => sel (isSlice sl) (evSlice r ne v sl σ) (bnd (r.ev ne v σ) fun a σ => bnd (r.ev ne sl σ) fun b σ => subX kt o a b σ)
  | .List es _ => bnd (evList r ne es σ) fun vs σ => evNew .list vs σ
  | .Tuple es _ _ => bnd (evList r ne es σ) fun vs σ => evNew .tuple vs σ
  | .Dict ks es _ => dictE r ne ks es σ
  | .Call f args kws pos => (match kws with
    | [] => evCall T r ne f args pos σ
    | _ :: _ => none)
  | .ListComp a b c d => bnd (compX lo r ne (.ListComp a b c d) σ) fun d σ => some (.ref d, σ)
  | _ => none
noncomputable def evStep (T : Tabs) (kt : Kt) (o : Orc) (lo : LO) (r : Rec) (ne : NE) (e : PySem.Expr) (σ : Sg) : Option (V × Sg) := optE (o.eorc ne e σ) some (evE T kt o lo r ne e σ)
section
variable {D : Wd} {n : Nat} {T : Tabs} {kt : Kt} {o : Orc} {r : Rec}
theorem notV_ok {v w : V} {μ : Mu} {s : Shared} {prog : Program} {wd : World} {A : Around} {E : Value → Shared → Prop} {rv : Value} {Q : Value → Shared → Prop} (e : notV v = some w) (h : RelV μ v rv) (q : ∀ r, RelV μ w r → Q r s) : wpAny (model prog wd) A (unaryOp .Not rv) Q E s := by
  revert q
  cases v with
  | bool b => cases (show rv = .bool b from h); apply inj1 e; exact fun q => not_of (wpAny_truthy_bool (q _ rfl))
  | sbool b => cases (show rv = .bool b from h); apply inj1 e; exact fun q => not_of (wpAny_truthy_bool (q _ rfl))
  | _ => exact noneNe e
theorem andE_post (ro : RecOk D n r) {ne : NE} {pos : Pos} {es : List PySem.Expr} : ∀ {σ : Sg}, Post (andE r ne es σ) (EvG D n ne (.BoolOp .And es pos) σ) := by
  induction es with
  | nil => exact .none
  | cons e es ih =>
    refine .bnd fun v1 σ₁ h1 => ?_
    obtain ⟨le1, x1⟩ := ro.ev _ _ _ _ _ h1
    cases es with
    | nil => exact .pure ⟨le1, fun ok fx env dp un μ m rest s Q okx room eo S P => BoolOp_one (x1 ok fx env dp un μ m rest s Q okx room eo S P)⟩
    | cons e2 es =>
      refine .bnd fun b σ₂ h2 => ?_
      obtain ⟨le2, hH, x2⟩ := tst_ok h2
      refine .sel (fun hb p h => ?_) fun hb => .pure ⟨le1.trans le2, fun ok fx env dp un μ m rest s Q okx room eo S P => ?_⟩
      · obtain ⟨le3, x3⟩ := ih p h
        refine ⟨le1.trans (le2.trans le3), fun ok fx env dp un μ m rest s Q okx room eo S P => ?_⟩
        refine BoolOp_and (x1 ((le2.trans le3).ok ok) fx env dp un μ m rest s _ okx room eo S fun rv more h' tk' hr S' => x2 (le3.ok ok) hr ?_)
        subst hb
        exact x3 ok fx env dp un _ m rest _ _ okx room eo.ext (hH ▸ S') P.next
      · refine BoolOp_and (x1 (le2.ok ok) fx env dp un μ m rest s _ okx room eo S fun rv more h' tk' hr S' => x2 ok hr ?_)
        subst hb
        exact P rv more h' tk' hr (hH.symm ▸ S')
theorem orE_post (ro : RecOk D n r) {ne : NE} {pos : Pos} {es : List PySem.Expr} : ∀ {σ : Sg}, Post (orE r ne es σ) (EvG D n ne (.BoolOp .Or es pos) σ) := by
  induction es with
  | nil => exact .none
  | cons e es ih =>
    refine .bnd fun v1 σ₁ h1 => ?_
    obtain ⟨le1, x1⟩ := ro.ev _ _ _ _ _ h1
    cases es with
    | nil => exact .pure ⟨le1, fun ok fx env dp un μ m rest s Q okx room eo S P => BoolOp_one (x1 ok fx env dp un μ m rest s Q okx room eo S P)⟩
    | cons e2 es =>
      refine .bnd fun b σ₂ h2 => ?_
      obtain ⟨le2, hH, x2⟩ := tst_ok h2
      refine .sel (fun hb => .pure ⟨le1.trans le2, fun ok fx env dp un μ m rest s Q okx room eo S P => ?_⟩) fun hb p h => ?_
      · refine BoolOp_or (x1 (le2.ok ok) fx env dp un μ m rest s _ okx room eo S fun rv more h' tk' hr S' => x2 ok hr ?_)
        subst hb
        exact P rv more h' tk' hr (hH.symm ▸ S')
      · obtain ⟨le3, x3⟩ := ih p h
        refine ⟨le1.trans (le2.trans le3), fun ok fx env dp un μ m rest s Q okx room eo S P => ?_⟩
        refine BoolOp_or (x1 ((le2.trans le3).ok ok) fx env dp un μ m rest s _ okx room eo S fun rv more h' tk' hr S' => x2 (le3.ok ok) hr ?_)
        subst hb
        exact x3 ok fx env dp un _ m rest _ _ okx room eo.ext (hH ▸ S') P.next
theorem two_ok (ro : RecOk D n r) {ne : NE} {e1 e2 : PySem.Expr} {σ σ₁ σ₂ : Sg} {a b : V} (h1 : r.ev ne e1 σ = some (a, σ₁)) (h2 : r.ev ne e2 σ₁ = some (b, σ₂)) :
    σ.le σ₂ ∧ (σ₂.ok → ∀ {fx : Fx} {env : Env} {dp un : Nat} {μ : Mu} {m : Str → Option Value} {rest : Ledger} {s : Shared} {Q : Value → Value → Shared → Prop}, fx.Ok D → Room n dp un → EnvOk fx env ne μ m rest → StD D fx μ σ.H m rest s.heap →
      (∀ (ra rb : Value) (more : Mu) (h' : Heap) (tk' : Nat), RelV (μ ++ more) a ra → RelV (μ ++ more) b rb → StD D fx (μ ++ more) σ₂.H m rest h' → Q ra rb { s with heap := h', toks := tk' }) →
      wpAny (model D.prog D.w) (fx.A dp un) (eval e1 env) (fun ra s₁ => wpAny (model D.prog D.w) (fx.A dp un) (eval e2 env) (fun rb s₂ => Q ra rb s₂) NoE s₁) NoE s) := by
  obtain ⟨le1, x1⟩ := ro.ev _ _ _ _ _ h1
  obtain ⟨le2, x2⟩ := ro.ev _ _ _ _ _ h2
  refine ⟨le1.trans le2, fun ok {fx env dp un μ m rest s Q} okx room eo S q => ?_⟩
  refine x1 (le2.ok ok) fx env dp un μ m rest s _ okx room eo S fun ra more h' tk' hr S' => ?_
  refine x2 ok fx env dp un _ m rest _ _ okx room eo.ext S' fun rb more' h'' tk'' hr' S'' => ?_
  have hr₂ := hr.ext (more := more')
  rw [List.append_assoc] at hr' S'' hr₂
  exact q ra rb _ h'' tk'' hr₂ hr' S''
end
end Mine
end
section
open PySem PySem.W PyProof.Rows PySem.Calls PySem.Spec
namespace Mine
section
variable {D : Wd} {n : Nat} {T : Tabs} {kt : Kt} {o : Orc} {r : Rec}
theorem EvT.weaken0 {ne : NE} {e : PySem.Expr} {H H' : List O} {v : V} (x : EvT D 0 ne e H v H') : EvT D n ne e H v H' := fun fx env dp un μ m rest s Q okx room eo S P => x fx env dp un μ m rest s Q okx room.zero eo S P
theorem evUn_post (ro : RecOk D n r) {ne : NE} {op : PySem.UnaryOp} {e : PySem.Expr} {pos : Pos} {σ : Sg} : Post (evUn r ne op e σ) (EvG D n ne (.UnaryOp op e pos) σ) := by
  cases op with
  | Not =>
    refine .bnd fun v σ₁ h1 => .ob fun w hn => ?_
    obtain ⟨le, x⟩ := ro.ev _ _ _ _ _ h1
    refine .pure ⟨le, fun ok fx env dp un μ m rest s Q okx room eo S P => ?_⟩
    refine UnaryOp_ (x ok fx env dp un μ m rest s _ okx room eo S fun ra more h' tk' ha S' => ?_)
    exact notV_ok (s := { s with heap := h', toks := tk' }) hn ha fun rv hr => P rv more h' tk' hr S'
  | USub =>
    refine .bnd fun v σ₁ h1 => ?_
    obtain ⟨le, x⟩ := ro.ev _ _ _ _ _ h1
    cases v with
    | int i =>
      refine .pure ⟨le, fun ok fx env dp un μ m rest s Q okx room eo S P => ?_⟩
      refine UnaryOp_ (x ok fx env dp un μ m rest s _ okx room eo S fun ra more h' tk' ha S' => ?_)
      obtain ⟨t, rfl⟩ := ha
      exact PyProof.Rows.neg_int (P _ more h' _ ⟨_, rfl⟩ S')
    | _ => exact .none
  | _ => exact .none
theorem ifExp_post (ro : RecOk D n r) {ne : NE} {t b c : PySem.Expr} {pos : Pos} {σ : Sg} : Post (bnd (r.tr ne t σ) fun k σ => sel k (r.ev ne b σ) (r.ev ne c σ)) (EvG D n ne (.IfExp t b c pos) σ) := by
  refine .bnd fun k σ₁ h1 => ?_
  obtain ⟨le1, x1⟩ := ro.tr _ _ _ _ _ h1
  refine .sel (fun hk p h => ?_) fun hk p h => ?_ <;>
  · obtain ⟨le2, x2⟩ := ro.ev _ _ _ _ _ h
    refine ⟨le1.trans le2, fun ok fx env dp un μ m rest s Q okx room eo S P => ?_⟩
    refine IfExp_ (x1 (le2.ok ok) fx env dp un μ m rest s _ okx room eo S fun c more h' tk' hc S' => ?_)
    cases (show c = k from hc)
    subst hk
    exact x2 ok fx env dp un _ m rest _ _ okx room eo.ext S' P.next
theorem cmp1_post (hkt : KtOk D kt) (ho : OrOk D n o) (ro : RecOk D n r) {ne : NE} {l e₁ : PySem.Expr} {op : CmpOp} {pos : Pos} {σ : Sg} (hm : behindInMarks op e₁ = false) :
    Post (bnd (r.ev ne l σ) fun a σ => bnd (r.ev ne e₁ σ) fun b σ => cmpX kt o op a b σ) (EvG D n ne (.Compare l [op] [e₁] pos) σ) := by
  refine .bnd fun a σ₁ h1 => .bnd fun b σ₂ h2 p h => ?_
  obtain ⟨le, x⟩ := two_ok ro h1 h2
  obtain ⟨lec, hHc, xc⟩ := cmpX_ok hkt ho.c h
  refine ⟨le.trans lec, fun ok fx env dp un μ m rest s Q okx room eo S P => ?_⟩
  refine wpAny_Compare1 (x (lec.ok ok) okx room eo S fun ra rb more h' tk' ha hb S' => ?_) hm
  exact xc ok (s := { s with heap := h', toks := tk' }) okx room S' ha hb (hHc ▸ P).next
theorem cmp2_post (hkt : KtOk D kt) (ho : OrOk D n o) (ro : RecOk D n r) {ne : NE} {l e₁ e₂ : PySem.Expr} {op op₂ : CmpOp} {pos : Pos} {σ : Sg} (hm : behindInMarks op₂ e₂ = false) :
    Post (bnd (r.ev ne l σ) fun a σ => bnd (r.ev ne e₁ σ) fun b σ => bnd (cmpX kt o op a b σ) fun v σ => bnd (tst v σ) fun k σ =>
      sel k (bnd (r.ev ne e₂ σ) fun c σ => cmpX kt o op₂ b c σ) (some (v, σ))) (EvG D n ne (.Compare l [op, op₂] [e₁, e₂] pos) σ) := by
  refine .bnd fun a σ₁ h1 => .bnd fun b σ₂ h2 => .bnd fun v1 σc hc => .bnd fun k σ₃ h3 => ?_
  obtain ⟨le, x⟩ := two_ok ro h1 h2
  obtain ⟨lec, hHc, xc⟩ := cmpX_ok hkt ho.c hc
  obtain ⟨le3, hH, x3⟩ := tst_ok h3
  rw [hHc] at hH
  refine .sel (fun hk => .bnd fun c σ₄ h4 p h => ?_) fun hk => .pure ?_
  · obtain ⟨le4, x4⟩ := ro.ev _ _ _ _ _ h4
    obtain ⟨lec2, hHc2, xc2⟩ := cmpX_ok hkt ho.c h
    refine ⟨le.trans (lec.trans (le3.trans (le4.trans lec2))), fun ok fx env dp un μ m rest s Q okx room eo S P => ?_⟩
    rw [hHc2] at P
    refine Compare_chain (rs := []) ?_ hm
    refine wpAny_mono (x ((lec.trans (le3.trans (le4.trans lec2))).ok ok) (Q := fun ra rb s₂ => wpAny (model D.prog D.w) (fx.A dp un) (compareOp _ ra rb) (fun c s₂ => wpAny (model D.prog D.w) (fx.A dp un) (truthy c) (fun t s₃ => if t then wpAny (model D.prog D.w) (fx.A dp un) (compareChain _ rb [_] [eval _ env]) Q NoE s₃ else Q c s₃) NoE s₂) NoE s₂) okx room eo S fun ra rb more h' tk' ha hb S' => ?_) (fun ra s₁ h₁ => chain_link h₁) fun _ _ z => z
    refine xc ((le3.trans (le4.trans lec2)).ok ok) (s := { s with heap := h', toks := tk' }) okx room S' ha hb fun rc more2 h2 tk2 hrc S2 => ?_
    refine x3 ((le4.trans lec2).ok ok) hrc ?_
    subst hk
    refine chain_last ?_
    rw [hH] at x4
    refine x4 (lec2.ok ok) fx env dp un _ m rest _ _ okx room eo.ext.ext S2 fun rd more3 h3 tk3 hrd S3 => ?_
    refine xc2 ok (s := { s with heap := h3, toks := tk3 }) okx room S3 hb.ext.ext hrd ?_
    exact ((P.next (more := more) (h := h') (tk := tk')).next (more := more2) (h := h2) (tk := tk2)).next (more := more3) (h := h3) (tk := tk3)
  · refine ⟨le.trans (lec.trans le3), fun ok fx env dp un μ m rest s Q okx room eo S P => ?_⟩
    rw [hH] at P
    refine Compare_chain (rs := []) ?_ hm
    refine wpAny_mono (x ((lec.trans le3).ok ok) (Q := fun ra rb s₂ => wpAny (model D.prog D.w) (fx.A dp un) (compareOp _ ra rb) (fun c s₂ => wpAny (model D.prog D.w) (fx.A dp un) (truthy c) (fun t s₃ => if t then wpAny (model D.prog D.w) (fx.A dp un) (compareChain _ rb [_] [eval _ env]) Q NoE s₃ else Q c s₃) NoE s₂) NoE s₂) okx room eo S fun ra rb more h' tk' ha hb S' => ?_) (fun ra s₁ h₁ => chain_link h₁) fun _ _ z => z
    refine xc (le3.ok ok) (s := { s with heap := h', toks := tk' }) okx room S' ha hb fun rc more2 h2 tk2 hrc S2 => ?_
    refine x3 ok hrc ?_
    subst hk
    exact P.next (more := more) (h := h') (tk := tk') rc more2 h2 tk2 hrc S2
theorem evCmp_post (hkt : KtOk D kt) (ho : OrOk D n o) (ro : RecOk D n r) {ne : NE} {l : PySem.Expr} {ops : List CmpOp} {rs : List PySem.Expr} {pos : Pos} {σ : Sg} : Post (evCmp kt o r ne l ops rs σ) (EvG D n ne (.Compare l ops rs pos) σ) := by
  refine .cmpSel (fun op e h1 h2 hm => ?_) fun op op₂ e e₂ h1 h2 hm => ?_
  · subst h1 h2; exact cmp1_post hkt ho ro hm
  · subst h1 h2; exact cmp2_post hkt ho ro hm
theorem evSlice_post (ro : RecOk D n r) {ne : NE} {v sl : PySem.Expr} {pos : Pos} {σ : Sg} : Post (evSlice r ne v sl σ) (EvG D n ne (.Subscript v sl pos) σ) := by
  cases sl with
  | Slice lo up st q =>
    cases lo with
    | none => exact .none
    | some lo =>
      cases up with
      | some => exact .none
      | none =>
        cases st with
        | some => exact .none
        | none =>
          refine .bnd fun a σ₁ h1 => .bnd fun b σ₂ h2 => ?_
          obtain ⟨le1, x1⟩ := ro.ev _ _ _ _ _ h1
          obtain ⟨le2, x2⟩ := ro.ev _ _ _ _ _ h2
          cases a with
          | str x =>
            cases b with
            | int j =>
              refine .onT fun hl => .pure ⟨le1.trans le2, fun ok fx env dp un μ m rest s Q okx room eo S P => ?_⟩
              refine Subscript_ (x1 (le2.ok ok) fx env dp un μ m rest s _ okx room eo S fun ra more h' tk' ha S' => ?_)
              refine wpAny_Slice (x2 ok fx env dp un _ m rest _ _ okx room eo.ext S' fun rb more2 h2 tk2 hb S2 => ?_)
              refine wpAny_pure (wpAny_pure ?_)
              exact strSlice_ok (s := { s with heap := h2, toks := tk2 }) S2 ha.ext hb hl ((P.next (more := more) (h := h') (tk := tk')).next (more := more2) (h := h2) (tk := tk2))
            | _ => exact .none
          | _ => exact .none
  | _ => exact .none
theorem evBin_post (ro : RecOk D n r) {ne : NE} {l rr : PySem.Expr} {op : Operator} {pos : Pos} {σ : Sg} : Post (bnd (r.ev ne l σ) fun a σ => bnd (r.ev ne rr σ) fun b σ => binX op a b σ) (EvG D n ne (.BinOp l op rr pos) σ) := by
  refine .bnd fun a σ₁ h1 => .bnd fun b σ₂ h2 p h => ?_
  obtain ⟨le, x⟩ := two_ok ro h1 h2
  obtain ⟨leb, xb⟩ := binX_post _ h
  refine ⟨le.trans leb, fun ok fx env dp un μ m rest s Q okx room eo S P => ?_⟩
  refine wpAny_BinOp (x (leb.ok ok) okx room eo S fun ra rb more h' tk' ha hb S' => ?_)
  exact BinW.on (xb ok ⟨D, fx, _, m, rest, { s with heap := h', toks := tk' }, fx.A dp un, rfl⟩ ra rb Q S' ha hb P.next)
theorem evSub_post (hkt : KtOk D kt) (ho : OrOk D n o) (ro : RecOk D n r) {ne : NE} {v sl : PySem.Expr} {pos : Pos} {σ : Sg} (hs : isSlice sl = false) : Post (bnd (r.ev ne v σ) fun a σ => bnd (r.ev ne sl σ) fun b σ => subX kt o a b σ) (EvG D n ne (.Subscript v sl pos) σ) := by
  refine .bnd fun a σ₁ h1 => .bnd fun b σ₂ h2 p h => ?_
  obtain ⟨le, x⟩ := two_ok ro h1 h2
  obtain ⟨leb, xb⟩ := subX_post hkt ho.s _ h
  refine ⟨le.trans leb, fun ok fx env dp un μ m rest s Q okx room eo S P => ?_⟩
  refine Subscript_ (x (leb.ok ok) okx room eo S fun ra rb more h' tk' ha hb S' => ?_)
  exact xb ok ⟨fx, dp, un, _, m, rest, { s with heap := h', toks := tk' }, okx, room⟩ ra rb _ _ Q hs S' ha hb P.next
theorem evAt_post (hT : TabsOk D T) (ro : RecOk D n r) {ne : NE} {v : PySem.Expr} {a : Str} {pos : Pos} {σ : Sg} (hb : okBase v = true) : Post (bnd (r.ev ne v σ) fun w σ => ob (getAt T w a σ) fun x => some (x, σ)) (EvG D n ne (.Attribute v a pos) σ) := by
  refine .bnd fun w σ₁ h1 => .ob fun y hg => ?_
  obtain ⟨le, x⟩ := ro.ev _ _ _ _ _ h1
  refine .pure ⟨le, fun ok fx env dp un μ m rest s Q okx room eo S P => ?_⟩
  refine Attribute_any_ (x ok fx env dp un μ m rest s _ okx room eo S fun ra more h' tk' ha S' => ?_) (by rw [arm_eval_Attribute, attributeBase_of hb])
  exact getAt_ok (s := { s with heap := h', toks := tk' }) hT.cl hg okx S' ha P.next
theorem evLst_post (ro : RecOk D n r) {ne : NE} {es : List PySem.Expr} {pos : Pos} {σ : Sg} : Post (bnd (evList r ne es σ) fun vs σ => evNew .list vs σ) (EvG D n ne (.List es pos) σ) := by
  refine .bnd fun vs σ₁ h1 => .onT fun hl => ?_
  obtain ⟨_, le, x⟩ := evList_ok ro h1
  refine .pure ⟨le, fun ok fx env dp un μ m rest s Q okx room eo S P => ?_⟩
  refine List_ (x ok fx env _ dp un μ m rest s _ okx room eo S fun rs more h' tk' hr S' => ?_)
  exact newList_ok (s := { s with heap := h', toks := tk' }) S' hl hr P.next
theorem evTup_post (ro : RecOk D n r) {ne : NE} {es : List PySem.Expr} {b : Nat} {pos : Pos} {σ : Sg} : Post (bnd (evList r ne es σ) fun vs σ => evNew .tuple vs σ) (EvG D n ne (.Tuple es b pos) σ) := by
  refine .bnd fun vs σ₁ h1 => .onT fun hl => ?_
  obtain ⟨_, le, x⟩ := evList_ok ro h1
  refine .pure ⟨le, fun ok fx env dp un μ m rest s Q okx room eo S P => ?_⟩
  refine Tuple_ (x ok fx env _ dp un μ m rest s _ okx room eo S fun rs more h' tk' hr S' => ?_)
  exact newTuple_ok (s := { s with heap := h', toks := tk' }) S' hl hr P.next
theorem evE_post {lo : LO} (hT : TabsOk D T) (hkt : KtOk D kt) (ho : OrOk D n o) (hlo : LOrcOk D n lo) (ro : RecOk D n r) {ne : NE} {e : PySem.Expr} {σ : Sg} : Post (evE T kt o lo r ne e σ) (EvG D n ne e σ) := by
  cases e with
  | Constant c k pos => exact .ob fun v hv => .pure ⟨.refl _, fun ok fx env dp un μ m rest s Q okx room eo S P => evConst_ok hv fun rv tk hr => P.here tk hr S⟩
  | Name x pos =>
    rintro ⟨v, σ'⟩ h
    obtain ⟨rfl, x⟩ := evName_ok hT.gl h
    exact ⟨.refl _, fun _ => x.weaken0⟩
  | BoolOp op es pos =>
    cases op with
    | And => exact andE_post ro
    | Or => exact orE_post ro
  | BinOp l op rr pos => exact evBin_post ro
  | UnaryOp op x pos => exact evUn_post ro
  | IfExp t b c pos => exact ifExp_post ro
  | Compare l ops rs pos => exact evCmp_post hkt ho ro
  | Attribute v a pos => exact .onT fun hb => evAt_post hT ro hb
  | Subscript v sl pos => exact .sel (fun _ => evSlice_post ro) fun hs => evSub_post hkt ho ro hs
  | List es pos => exact evLst_post ro
  | Tuple es b pos => exact evTup_post ro
  | Dict ks es pos => exact fun p h => dictE_ok ro h
  | Call f args kws pos =>
    cases kws with
    | nil => exact evCall_post hT ro
    | cons => exact .none
  | ListComp a b c d =>
    refine .bnd fun d σ₁ h => ?_
    obtain ⟨le, x⟩ := compX_ok hlo ro h
    exact .pure ⟨le, fun ok => (x ok).ev⟩
  | _ => exact .none
theorem evStep_ok {lo : LO} (hT : TabsOk D T) (hkt : KtOk D kt) (ho : OrOk D n o) (hlo : LOrcOk D n lo) (ro : RecOk D n r) {ne : NE} {e : PySem.Expr} {σ σ' : Sg} {v : V} (h : evStep T kt o lo r ne e σ = some (v, σ')) : σ.le σ' ∧ (σ'.ok → EvT D n ne e σ.H v σ'.H) :=
  Post.optE (Q := EvG D n ne e σ) (fun p h => .pure (ho.e _ _ _ _ _ h)) (fun _ => evE_post hT hkt ho hlo ro) _ h
end
end Mine
end
section
open PySem PySem.W PyProof.Rows PySem.Calls PySem.Spec
namespace Mine
noncomputable def allE (r : Rec) (ne : NE) : List PySem.Expr → Sg → Option (Bool × Sg)
  | [], σ => some (true, σ)
  | e :: es, σ => bnd (r.tr ne e σ) fun b σ => sel b (allE r ne es σ) (some (false, σ))
noncomputable def someE (r : Rec) (ne : NE) : List PySem.Expr → Sg → Option (Bool × Sg)
  | [], σ => some (false, σ)
  | e :: es, σ => bnd (r.tr ne e σ) fun b σ => sel b (some (true, σ)) (someE r ne es σ)
noncomputable def trCmp (kt : Kt) (o : Orc) (r : Rec) (ne : NE) (l : PySem.Expr) (ops : List CmpOp) (rs : List PySem.Expr) (σ : Sg) : Option (Bool × Sg) :=
  cmpSel ops rs (fun op e₁ => bnd (r.ev ne l σ) fun a σ => bnd (r.ev ne e₁ σ) fun b σ => bnd (cmpX kt o op a b σ) fun v σ => tst v σ)
    fun op op₂ e₁ e₂ => bnd (r.ev ne l σ) fun a σ => bnd (r.ev ne e₁ σ) fun b σ => bnd (cmpX kt o op a b σ) fun v σ => bnd (tst v σ) fun k σ =>
      sel k (bnd (r.ev ne e₂ σ) fun c σ => bnd (cmpX kt o op₂ b c σ) fun v σ => tst v σ) (some (false, σ))
noncomputable def plainE (e : PySem.Expr) : Bool := match e with
  | .Name .. => true
  | .Call .. => true
  | .Attribute .. => true
  | .Subscript .. => true
  | .Constant .. => true
  | _ => false
noncomputable def trStep (kt : Kt) (o : Orc) (r : Rec) (ne : NE) (e : PySem.Expr) (σ : Sg) : Option (Bool × Sg) := sel (plainE e) (bnd (r.ev ne e σ) fun v σ => tst v σ) (match e with
  | .UnaryOp op x _ => (match op with
    | .Not => bnd (r.tr ne x σ) fun b σ => some (!b, σ)
    | _ => none)
  | .BoolOp op es _ => (match op with
    | .And => allE r ne es σ
    | .Or => someE r ne es σ)
  | .IfExp t b c _ => bnd (r.tr ne t σ) fun k σ => sel k (r.tr ne b σ) (r.tr ne c σ)
  | .Compare l ops rs _ => trCmp kt o r ne l ops rs σ
  | _ => none)
noncomputable def TrG (D : Wd) (n : Nat) (ne : NE) (e : PySem.Expr) (σ : Sg) (p : Bool × Sg) : Prop := σ.le p.2 ∧ (p.2.ok → TrT D n ne e σ.H p.1 p.2.H)
section
variable {D : Wd} {n : Nat} {T : Tabs} {kt : Kt} {o : Orc} {r : Rec}
theorem allE_post (ro : RecOk D n r) {ne : NE} {pos : Pos} {es : List PySem.Expr} : ∀ {σ : Sg}, Post (allE r ne es σ) (TrG D n ne (.BoolOp .And es pos) σ) := by
  induction es with
  | nil => exact .pure ⟨.refl _, fun _ fx env dp un μ m rest s Q okx room eo S P => isTrue_and_nil (P.here' rfl S)⟩
  | cons e es ih =>
    refine .bnd fun b σ₁ h1 => ?_
    obtain ⟨le1, x1⟩ := ro.tr _ _ _ _ _ h1
    refine .sel (fun hb p h => ?_) fun hb => .pure ⟨le1, fun ok fx env dp un μ m rest s Q okx room eo S P => ?_⟩
    · obtain ⟨le2, x2⟩ := ih p h
      refine ⟨le1.trans le2, fun ok fx env dp un μ m rest s Q okx room eo S P => ?_⟩
      refine isTrue_and (x1 (le2.ok ok) fx env dp un μ m rest s _ okx room eo S fun c more h' tk' hc S' => ?_)
      cases (show c = b from hc)
      subst hb
      exact x2 ok fx env dp un _ m rest _ _ okx room eo.ext S' P.next
    · refine isTrue_and (x1 ok fx env dp un μ m rest s _ okx room eo S fun c more h' tk' hc S' => ?_)
      cases (show c = b from hc)
      subst hb
      exact P _ more h' tk' rfl S'
theorem someE_post (ro : RecOk D n r) {ne : NE} {pos : Pos} {es : List PySem.Expr} : ∀ {σ : Sg}, Post (someE r ne es σ) (TrG D n ne (.BoolOp .Or es pos) σ) := by
  induction es with
  | nil => exact .pure ⟨.refl _, fun _ fx env dp un μ m rest s Q okx room eo S P => isTrue_or_nil (P.here' rfl S)⟩
  | cons e es ih =>
    refine .bnd fun b σ₁ h1 => ?_
    obtain ⟨le1, x1⟩ := ro.tr _ _ _ _ _ h1
    refine .sel (fun hb => .pure ⟨le1, fun ok fx env dp un μ m rest s Q okx room eo S P => ?_⟩) fun hb p h => ?_
    · refine isTrue_or (x1 ok fx env dp un μ m rest s _ okx room eo S fun c more h' tk' hc S' => ?_)
      cases (show c = b from hc)
      subst hb
      exact P _ more h' tk' rfl S'
    · obtain ⟨le2, x2⟩ := ih p h
      refine ⟨le1.trans le2, fun ok fx env dp un μ m rest s Q okx room eo S P => ?_⟩
      refine isTrue_or (x1 (le2.ok ok) fx env dp un μ m rest s _ okx room eo S fun c more h' tk' hc S' => ?_)
      cases (show c = b from hc)
      subst hb
      exact x2 ok fx env dp un _ m rest _ _ okx room eo.ext S' P.next
theorem plainE_is {e : PySem.Expr} (h : plainE e = true) (env : Env) : isTrue e env (eval e env) = (do let v ← eval e env; standAt e.pos; holding [v] (truthy v)) := by
  cases e <;> first | rfl | cases h
theorem plain_tr (ro : RecOk D n r) {ne : NE} {e : PySem.Expr} {σ : Sg} (he : plainE e = true) : Post (bnd (r.ev ne e σ) fun v σ => tst v σ) (TrG D n ne e σ) := by
  refine .bnd fun v σ₁ h1 p h => ?_
  obtain ⟨le1, x1⟩ := ro.ev _ _ _ _ _ h1
  obtain ⟨le2, hH, x2⟩ := tst_ok h
  refine ⟨le1.trans le2, fun ok fx env dp un μ m rest s Q okx room eo S P => ?_⟩
  rw [hH] at P
  refine isTrue_plain (x1 (le2.ok ok) fx env dp un μ m rest s _ okx room eo S fun rv more h' tk' hr S' => ?_) (plainE_is he env)
  exact x2 ok hr (P _ more h' tk' rfl S')
theorem trIf_post (ro : RecOk D n r) {ne : NE} {t b c : PySem.Expr} {pos : Pos} {σ : Sg} : Post (bnd (r.tr ne t σ) fun k σ => sel k (r.tr ne b σ) (r.tr ne c σ)) (TrG D n ne (.IfExp t b c pos) σ) := by
  refine .bnd fun k σ₁ h1 => ?_
  obtain ⟨le1, x1⟩ := ro.tr _ _ _ _ _ h1
  refine .sel (fun hk p h => ?_) fun hk p h => ?_ <;>
  · obtain ⟨le2, x2⟩ := ro.tr _ _ _ _ _ h
    refine ⟨le1.trans le2, fun ok fx env dp un μ m rest s Q okx room eo S P => ?_⟩
    refine isTrue_IfExp (x1 (le2.ok ok) fx env dp un μ m rest s _ okx room eo S fun c more h' tk' hc S' => ?_)
    cases (show c = k from hc)
    subst hk
    exact x2 ok fx env dp un _ m rest _ _ okx room eo.ext S' P.next
theorem trCmp1_post (hkt : KtOk D kt) (ho : OrOk D n o) (ro : RecOk D n r) {ne : NE} {l e₁ : PySem.Expr} {op : CmpOp} {pos : Pos} {σ : Sg} (hm : behindInMarks op e₁ = false) :
    Post (bnd (r.ev ne l σ) fun a σ => bnd (r.ev ne e₁ σ) fun b σ => bnd (cmpX kt o op a b σ) fun v σ => tst v σ) (TrG D n ne (.Compare l [op] [e₁] pos) σ) := by
  refine .bnd fun a σ₁ h1 => .bnd fun b σ₂ h2 => .bnd fun v1 σc hc p h => ?_
  obtain ⟨le, x⟩ := two_ok ro h1 h2
  obtain ⟨lec, hHc, xc⟩ := cmpX_ok hkt ho.c hc
  obtain ⟨le2, hH, x2⟩ := tst_ok h
  refine ⟨le.trans (lec.trans le2), fun ok fx env dp un μ m rest s Q okx room eo S P => ?_⟩
  rw [hH, hHc] at P
  refine wpAny_isTrue_Compare1 (x ((lec.trans le2).ok ok) okx room eo S fun ra rb more h' tk' ha hb S' => ?_) hm
  refine xc (le2.ok ok) (s := { s with heap := h', toks := tk' }) okx room S' ha hb fun rc more2 h2 tk2 hrc S2 => ?_
  exact x2 ok hrc (P.next (more := more) (h := h') (tk := tk') _ more2 h2 tk2 rfl S2)
theorem trCmp2_post (hkt : KtOk D kt) (ho : OrOk D n o) (ro : RecOk D n r) {ne : NE} {l e₁ e₂ : PySem.Expr} {op op₂ : CmpOp} {pos : Pos} {σ : Sg} (hm : behindInMarks op₂ e₂ = false) :
    Post (bnd (r.ev ne l σ) fun a σ => bnd (r.ev ne e₁ σ) fun b σ => bnd (cmpX kt o op a b σ) fun v σ => bnd (tst v σ) fun k σ =>
      sel k (bnd (r.ev ne e₂ σ) fun c σ => bnd (cmpX kt o op₂ b c σ) fun v σ => tst v σ) (some (false, σ))) (TrG D n ne (.Compare l [op, op₂] [e₁, e₂] pos) σ) := by
  refine .bnd fun a σ₁ h1 => .bnd fun b σ₂ h2 => .bnd fun v1 σc hc => .bnd fun k σ₃ h3 => ?_
  obtain ⟨le, x⟩ := two_ok ro h1 h2
  obtain ⟨lec, hHc, xc⟩ := cmpX_ok hkt ho.c hc
  obtain ⟨le3, hH, x3⟩ := tst_ok h3
  rw [hHc] at hH
  refine .sel (fun hk => .bnd fun c σ₄ h4 => .bnd fun v2 σd hc2 p h => ?_) fun hk => .pure ?_
  · obtain ⟨le4, x4⟩ := ro.ev _ _ _ _ _ h4
    obtain ⟨lec2, hHc2, xc2⟩ := cmpX_ok hkt ho.c hc2
    obtain ⟨le5, hH5, x5⟩ := tst_ok h
    refine ⟨le.trans (lec.trans (le3.trans (le4.trans (lec2.trans le5)))), fun ok fx env dp un μ m rest s Q okx room eo S P => ?_⟩
    rw [hH5, hHc2] at P
    refine isTrue_chain (rs := []) ?_ hm
    refine wpAny_mono (x ((lec.trans (le3.trans (le4.trans (lec2.trans le5)))).ok ok) (Q := fun ra rb s₂ => wpAny (model D.prog D.w) (fx.A dp un) (compareOp _ ra rb) (fun c s₂ => wpAny (model D.prog D.w) (fx.A dp un) (truthy c) (fun t s₃ => if t then wpAny (model D.prog D.w) (fx.A dp un) (testChain _ rb [_] [eval _ env]) Q NoE s₃ else Q false s₃) NoE s₂) NoE s₂) okx room eo S fun ra rb more h' tk' ha hb S' => ?_) (fun ra s₁ h₁ => test_link h₁) fun _ _ z => z
    refine xc ((le3.trans (le4.trans (lec2.trans le5))).ok ok) (s := { s with heap := h', toks := tk' }) okx room S' ha hb fun rc more2 h2 tk2 hrc S2 => ?_
    refine x3 ((le4.trans (lec2.trans le5)).ok ok) hrc ?_
    subst hk
    refine test_last ?_
    rw [hH] at x4
    refine x4 ((lec2.trans le5).ok ok) fx env dp un _ m rest _ _ okx room eo.ext.ext S2 fun rd more3 h3 tk3 hrd S3 => ?_
    refine xc2 (le5.ok ok) (s := { s with heap := h3, toks := tk3 }) okx room S3 hb.ext.ext hrd fun re more4 h4 tk4 hre S4 => ?_
    exact x5 ok hre (((P.next (more := more) (h := h') (tk := tk')).next (more := more2) (h := h2) (tk := tk2)).next (more := more3) (h := h3) (tk := tk3) _ more4 h4 tk4 rfl S4)
  · refine ⟨le.trans (lec.trans le3), fun ok fx env dp un μ m rest s Q okx room eo S P => ?_⟩
    rw [hH] at P
    refine isTrue_chain (rs := []) ?_ hm
    refine wpAny_mono (x ((lec.trans le3).ok ok) (Q := fun ra rb s₂ => wpAny (model D.prog D.w) (fx.A dp un) (compareOp _ ra rb) (fun c s₂ => wpAny (model D.prog D.w) (fx.A dp un) (truthy c) (fun t s₃ => if t then wpAny (model D.prog D.w) (fx.A dp un) (testChain _ rb [_] [eval _ env]) Q NoE s₃ else Q false s₃) NoE s₂) NoE s₂) okx room eo S fun ra rb more h' tk' ha hb S' => ?_) (fun ra s₁ h₁ => test_link h₁) fun _ _ z => z
    refine xc (le3.ok ok) (s := { s with heap := h', toks := tk' }) okx room S' ha hb fun rc more2 h2 tk2 hrc S2 => ?_
    refine x3 ok hrc ?_
    subst hk
    exact P.next (more := more) (h := h') (tk := tk') _ more2 h2 tk2 rfl S2
theorem trStep_post (hkt : KtOk D kt) (ho : OrOk D n o) (ro : RecOk D n r) {ne : NE} {e : PySem.Expr} {σ : Sg} : Post (trStep kt o r ne e σ) (TrG D n ne e σ) := by
  refine .sel (fun h => plain_tr ro h) fun _ => ?_
  cases e with
  | UnaryOp op x pos =>
    cases op with
    | Not =>
      refine .bnd fun b1 σ₁ h1 => ?_
      obtain ⟨le1, x1⟩ := ro.tr _ _ _ _ _ h1
      refine .pure ⟨le1, fun ok fx env dp un μ m rest s Q okx room eo S P => ?_⟩
      refine isTrue_not (x1 ok fx env dp un μ m rest s _ okx room eo S fun c more h' tk' hc S' => ?_)
      cases (show c = b1 from hc)
      exact P _ more h' tk' rfl S'
    | _ => exact .none
  | BoolOp op es pos =>
    cases op with
    | And => exact allE_post ro
    | Or => exact someE_post ro
  | IfExp t b c pos => exact trIf_post ro
  | Compare l ops rs pos =>
    refine .cmpSel (fun op e h1 h2 hm => ?_) fun op op₂ e e₂ h1 h2 hm => ?_
    · subst h1 h2; exact trCmp1_post hkt ho ro hm
    · subst h1 h2; exact trCmp2_post hkt ho ro hm
  | _ => exact .none
theorem trStep_ok (hkt : KtOk D kt) (ho : OrOk D n o) (ro : RecOk D n r) {ne : NE} {e : PySem.Expr} {σ σ' : Sg} {b : Bool} (h : trStep kt o r ne e σ = some (b, σ')) : σ.le σ' ∧ (σ'.ok → TrT D n ne e σ.H b σ'.H) := trStep_post hkt ho ro _ h
end
end Mine
end
section
open PySem PySem.W PyProof.Rows PySem.Calls PySem.Spec
namespace Mine
noncomputable abbrev LR := List (Str × V)
noncomputable def NE.withL (ne : NE) (l : LR) : NE := ⟨ne.names, l, ne.cells⟩
noncomputable def isCellO (o : O) : Bool := match o with
  | .cell _ => true
  | _ => false
noncomputable def storeN (ne : NE) (x : Str) (v : V) (σ : Sg) : Option (LR × Sg) := sel (isLocalK (lkS ne.names (code x))) (some (putS ne.locs x v, σ))
  (onT (isCellK (lkS ne.names (code x))) (ob (lkS ne.cells (code x)) fun k => ob σ.H[k]? fun o => onT (isCellO o) (some (ne.locs, σ.withH (σ.H.set k (.cell (some v)))))))
noncomputable def setItemV (o i v : V) (σ : Sg) : Option Sg := ob (refOf o) fun k => ob σ.H[k]? fun c => match i with
  | .int j => (match c with
    | .list l => onT (decide (0 ≤ j)) (onT (decide (j < l.length)) (onT (Nat.ble l.length 1000) (some (σ.withH (σ.H.set k (.list (l.set j.toNat v)))))))
    | .dictI es => onT (Nat.ble es.length 1000) (some (σ.withH (σ.H.set k (.dictI (putD' eqI es j v)))))
    | _ => none)
  | .str x => (match c with
    | .dictS es => onT (Nat.ble es.length 1000) (some (σ.withH (σ.H.set k (.dictS (putD' eqS es x v)))))
    | _ => none)
  | _ => none
theorem LocsOk.put {μ : Mu} {m : Str → Option Value} {locs : LR} {x : Str} {v : V} {r : Value} (h : LocsOk μ m locs) (hr : RelV μ v r) : LocsOk μ (fun y => if y = x then some r else m y) (putS locs x v) := by
  intro y w e
  rw [lkS_putS] at e
  by_cases hxy : code x = code y
  · rw [if_pos hxy] at e
    cases e
    exact ⟨r, by simp [code_inj hxy], hr⟩
  · rw [if_neg hxy] at e
    obtain ⟨q, h1, h2⟩ := h _ _ e
    refine ⟨q, ?_, h2⟩
    have ne : y ≠ x := fun z => hxy (by rw [z])
    simp [ne, h1]
theorem ki_setL_set {v : Value} : ∀ {l : List Value} {k : Nat}, k < l.length → ki_setL l k v = some (l.set k v)
  | _ :: r, 0, _ => rfl
  | x :: r, k + 1, h => by
    have := ki_setL_set (v := v) (l := r) (k := k) (by simpa using h)
    unfold ki_setL
    rw [this]
    rfl
noncomputable def PostA (D : Wd) (fx : Fx) (H' : List O) (locs' : LR) (μ : Mu) (rest : Ledger) (s : Shared) (Q : Unit → Shared → Prop) : Prop :=
  ∀ (more : Mu) (h' : Heap) (tk' : Nat) (m' : Str → Option Value), LocsOk (μ ++ more) m' locs' → StD D fx (μ ++ more) H' m' rest h' → Q () { s with heap := h', toks := tk' }
section
variable {D : Wd} {n : Nat} {T : Tabs} {kt : Kt} {o : Orc} {r : Rec} {fx : Fx} {dp un : Nat} {μ : Mu} {H : List O} {m : Str → Option Value} {rest : Ledger} {s : Shared} {A : Around} {E : Value → Shared → Prop}
theorem PostA.next {H' : List O} {locs' : LR} {more : Mu} {h : Heap} {tk : Nat} {Q : Unit → Shared → Prop} (P : PostA D fx H' locs' μ rest s Q) : PostA D fx H' locs' (μ ++ more) rest { s with heap := h, toks := tk } Q := by
  intro more' h' tk' m' hl S
  rw [List.append_assoc] at hl S
  exact P _ h' tk' m' hl S
theorem PostA.at {H' : List O} {locs' : LR} {Q : Unit → Shared → Prop} (P : PostA D fx H' locs' μ rest s Q) {h' : Heap} {m' : Str → Option Value} (tk : Nat) (hl : LocsOk μ m' locs') (S : StD D fx μ H' m' rest h') : Q () { s with heap := h', toks := tk } :=
  P [] h' tk m' (by rw [List.append_nil]; exact hl) (by rw [List.append_nil]; exact S)
theorem isLocalK_eq {k : Option NameKind} : (k == some NameKind.local) = isLocalK k := by
  cases k with
  | none => rfl
  | some k => cases k <;> rfl
theorem kind_local' {x : Str} {ne : NE} (hn : fx.cs.names = ne.names) (h : isLocalK (lkS ne.names (code x)) = true) : fx.env.kindOf x = some .local := by
  show fx.cs.names.lookup x = _
  rw [hn, ← lkS_lookup]
  rw [← isLocalK_eq] at h
  exact eq_of_beq h
theorem kind_cell {x : Str} {ne : NE} (hn : fx.cs.names = ne.names) (h : isCellK (lkS ne.names (code x)) = true) : fx.env.kindOf x = some .cell := by
  show fx.cs.names.lookup x = _
  rw [hn, ← lkS_lookup]
  have := isCellK_iff (k := lkS ne.names (code x))
  rw [h] at this
  exact eq_of_beq this
noncomputable def StoreP (D : Wd) (ne : NE) (x : Str) (v : V) (σ : Sg) (p : LR × Sg) : Prop := σ.le p.2 ∧ ∀ {fx : Fx} {μ : Mu} {m : Str → Option Value} {rest : Ledger} {s : Shared} {A : Around} {E : Value → Shared → Prop} {rv : Value} {Q : Unit → Shared → Prop}, fx.Ok D → fx.cs.names = ne.names → LocsOk μ m ne.locs → CellsOk μ fx.cl ne.cells → StD D fx μ σ.H m rest s.heap → RelV μ v rv →
  PostA D fx p.2.H p.1 μ rest s Q → wpAny (model D.prog D.w) A (storeName fx.env x rv) Q E s
theorem storeN_post {ne : NE} {x : Str} {v : V} {σ : Sg} : Post (storeN ne x v σ) (StoreP D ne x v σ) := by
  refine .sel (fun hk => .pure ⟨.refl _, fun {fx μ m rest s A E rv Q} okx hn hl _ S hv P => ?_⟩) fun _ => .onT fun hk => .ob fun k hck => .ob fun o ho => .onT fun hc0 => ?_
  · refine wpAny_storeName_local (kind_local' hn hk) S.fr.ns (fun h₂ hn₂ hs₂ => ?_) (by show (fx.cs.kind == .class || (fx.cs.kind == .module && _)) = false; rw [okx.hk]; rfl)
    exact P.at _ (hl.put hv) (S.reframe (S.fr.set hn₂ hs₂) fun news N => N.set hs₂)
  · cases o with
    | cell v0 =>
      refine .pure ⟨Sg.le_withH _ _, fun okx hn hl hc S hv P => ?_⟩
      obtain ⟨p, hp, hlk⟩ := hc _ _ hck
      obtain ⟨p', led, hp', N, nd, al, hpp, ob, rr, h1, h2, h3⟩ := S.obj ho
      cases hp.symm.trans hp'
      refine storeX_C S.fr N hlk (updF_of (List.mem_append_left _ h1) nd) h2 (fun h' o' F' N' hd' => ?_) okx.hk (kind_cell hn hk)
      exact P.at _ hl (S.turn nd al hp (.inl rfl) h1 F' N' ⟨hpp, o', _, setA_mem h1, hd', hv⟩)
    | _ => exact (nomatch hc0)
noncomputable def SetP (D : Wd) (a i v : V) (σ σ' : Sg) : Prop := σ.le σ' ∧ ∀ {fx : Fx} {μ : Mu} {m : Str → Option Value} {rest : Ledger} {s : Shared} {A : Around} {E : Value → Shared → Prop} {ra ri rv : Value} {Q : Unit → Shared → Prop}, StD D fx μ σ.H m rest s.heap → RelV μ a ra → RelV μ i ri → RelV μ v rv →
    (∀ h' tk, StD D fx μ σ'.H m rest h' → Q () { s with heap := h', toks := tk }) → wpAny (model D.prog D.w) A (setItem ra ri rv) Q E s
theorem le_1000 {n : Nat} (h : Nat.ble n 1000 = true) {m : Nat} (e : n = m) : m ≤ sizeLine := Nat.le_trans (e ▸ Nat.le_of_ble_eq_true h) (by decide +kernel)
theorem setItemV_post {a i v : V} {σ : Sg} : Post (setItemV a i v σ) (SetP D a i v σ) := by
  refine .ob fun k hk => .ob fun c ho => ?_
  rw [refOf_ok hk]
  cases i with
  | int j =>
    cases c with
    | list l =>
      refine .onT fun h1 => .onT fun h2 => .onT fun h3 => .pure ⟨Sg.le_withH _ _, fun {fx μ m rest s A E ra ri rv Q} S ha hi hv P => ?_⟩
      obtain ⟨u, rfl⟩ := hi
      obtain ⟨ad, d, hk, rfl⟩ := ha
      obtain ⟨led, its, n, N, nd, al, hm, hrel, hL, hd⟩ := seq_of S (.inl ho) hk
      have h1 := of_decide_eq_true h1
      have h2 := of_decide_eq_true h2
      have h3 := Nat.le_of_ble_eq_true h3
      have hlen := hrel.length
      refine ki_set S.fr N h1 (by (first | decide | lia | omega)) (ki_setL_set (v := rv) (l := its) (by (first | decide | lia | omega))) (upd_of (List.mem_append_left _ hm) nd) fun h' F' N' => ?_
      exact P _ _ (S.turn nd al hk (.inl rfl) hm F' N' ⟨hd, _, n, setA_mem hm, hrel.set _ hv⟩)
    | dictI es =>
      refine .onT fun hle => .pure ⟨Sg.le_withH _ _, fun S ha hi hv P => ?_⟩
      obtain ⟨u, rfl⟩ := hi
      obtain ⟨ad, d, hk, rfl⟩ := ha
      obtain ⟨p, led, hp, N, nd, al, e2, o, kvs, h1, h2, h3, h4⟩ := S.obj ho
      cases hk.symm.trans hp
      refine kda_set S.fr N (updF_of (List.mem_append_left _ h1) nd) h3 (intKind_is _ _ _ _) (le_1000 hle h4.length) fun h' o' F' N' hD' => ?_
      exact P _ _ (S.turn nd al hk (.inl rfl) h1 F' N' ⟨e2, o', _, setA_mem h1, h2, hD', putD_rel eqI_he hv h4⟩)
    | _ => exact .none
  | str x =>
    cases c with
    | dictS es =>
      refine .onT fun hle => .pure ⟨Sg.le_withH _ _, fun S ha hi hv P => ?_⟩
      obtain ⟨u, rfl⟩ := hi
      obtain ⟨ad, d, hk, rfl⟩ := ha
      obtain ⟨p, led, hp, N, nd, al, e2, o, kvs, h1, h2, h3, h4⟩ := S.obj ho
      cases hk.symm.trans hp
      refine kda_set S.fr N (updF_of (List.mem_append_left _ h1) nd) h3 (strKind_is _ _ _ _) (le_1000 hle h4.length) fun h' o' F' N' hD' => ?_
      exact P _ _ (S.turn nd al hk (.inl rfl) h1 F' N' ⟨e2, o', _, setA_mem h1, h2, hD', putD_rel eqS_eq hv h4⟩)
    | _ => exact .none
  | _ => exact .none
end
end Mine
end
section
open PySem PySem.W PyProof.Rows PySem.Calls PySem.Spec
namespace Mine
noncomputable def nmIn (names : List (Str × NameKind)) (line : Nat) (e : PySem.Expr) : Option Str := match e with
  | .Name id pos => onT (isLocalK (lkS names (code id))) (onT (Nat.beq pos.line line) (some id))
  | _ => none
noncomputable def allLocal (names : List (Str × NameKind)) (line : Nat) : List PySem.Expr → Option (List Str)
  | [] => some []
  | e :: r => ob (nmIn names line e) fun id => ob (allLocal names line r) fun l => some (id :: l)
noncomputable def pick (env : Env) (line : Nat) : PySem.Expr → Option Str
  | .Name id pos => if env.kindOf id == some .local && pos.line == line then some id else none
  | _ => none
theorem pick_name {env : Env} {names : List (Str × NameKind)} (hn : env.scope.names = names) (line : Nat) (e : PySem.Expr) : pick env line e = nmIn names line e := by
  cases e with
  | Name id pos =>
    show (if (env.kindOf id == some NameKind.local && pos.line == line) = true then some id else none) = onT (isLocalK (lkS names (code id))) (onT (Nat.beq pos.line line) (some id))
    rw [show (env.kindOf id == some NameKind.local) = isLocalK (lkS names (code id)) by rw [isLocalK_eq, lkS_lookup, ← hn]; rfl, show (pos.line == line) = Nat.beq pos.line line by rw [Bool.eq_iff_iff, beq_iff_eq, Nat.beq_eq]]
    cases isLocalK (lkS names (code id)) with
    | false => rfl
    | true => cases Nat.beq pos.line line <;> rfl
  | _ => rfl
theorem pick_some {names : List (Str × NameKind)} {line : Nat} {f : PySem.Expr → Option Str} (hf : ∀ e, f e = nmIn names line e) {l : List PySem.Expr} : Post (allLocal names line l) fun ns => l.filterMap f = ns ∧ ns.length = l.length := by
  induction l with
  | nil => exact .pure ⟨rfl, rfl⟩
  | cons e r ih => exact .ob fun id h1 => .ob fun ns h2 => .pure ⟨by rw [List.filterMap_cons_some ((hf e).trans h1), (ih _ h2).1], congrArg (· + 1) (ih _ h2).2⟩
theorem pick_none {names : List (Str × NameKind)} {line : Nat} {f : PySem.Expr → Option Str} (hf : ∀ e, f e = nmIn names line e) {l : List PySem.Expr} (h : allLocal names line l = none) : (l.filterMap f).length < l.length := by
  induction l with
  | nil => exact nomatch h
  | cons e r ih =>
    cases h1 : nmIn names line e with
    | none => rw [List.filterMap_cons_none ((hf e).trans h1)]; exact Nat.lt_succ_of_le (List.length_filterMap_le ..)
    | some id =>
      rw [List.filterMap_cons_some ((hf e).trans h1)]
      unfold allLocal at h
      rw [h1] at h
      cases h2 : allLocal names line r with
      | none => exact Nat.succ_lt_succ (ih h2)
      | some ns => rw [h2] at h; exact nomatch h
noncomputable def headLine (ts : List PySem.Expr) : Nat := (ts.head?.map (·.pos.line)).getD 0
noncomputable def swapV (ne : NE) (ts vs : List PySem.Expr) : Option (Option (List Str)) := sel (!(ts.length == 2 || ts.length == 3) || vs.length != ts.length) (some none) (onT (noStars vs) (optE (allLocal ne.names (headLine ts) ts)
  (fun names => onF (names.eraseDups.length != names.length) (sel (vs.all (foldedForSure 8)) (some none) (onF (vs.all (constantsAlone 8)) (some (some names))))) (some none)))
noncomputable def swapK (ne : NE) (ts : List PySem.Expr) (value : PySem.Expr) : Option (Option (List Str)) :=
  match value with
  | .Tuple vs _ _ => swapV ne ts vs
  | _ => some none
theorem noStars_anyS {vs : List PySem.Expr} (h : noStars vs = true) : vs.any isStarE = false := by
  induction vs with
  | nil => rfl
  | cons e r ih =>
    unfold noStars at h
    cases q : isStarE e with
    | true => rw [q] at h; exact nomatch h
    | false => rw [q] at h; rw [List.any_cons, ih h, q]; rfl
noncomputable def swapM (ts vs : List PySem.Expr) (env : Env) : Sem (Option (List Str)) := do
  if !(ts.length == 2 || ts.length == 3) || vs.length != ts.length || env.blockKind != .function then return none
  if vs.any isStarE then return none
  let names := ts.filterMap (pick env (headLine ts))
  if names.length != ts.length || names.eraseDups.length != names.length then return none
  if vs.all (foldedForSure 8) then return none
  if vs.all (constantsAlone 8) then unsupported "assign.tuple-of-constant-expressions:order-of-the-stores"
  return some names
theorem swapM_eq (ts : List PySem.Expr) (k : Nat) (tp : Pos) (vs : List PySem.Expr) (k2 : Nat) (p2 : Pos) (env : Env) : swappedStores [.Tuple ts k tp] (.Tuple vs k2 p2) env = swapM ts vs env := rfl
theorem swapV_post {ne : NE} {ts vs : List PySem.Expr} {env : Env} (hb : env.blockKind = .function) (hn : env.scope.names = ne.names) : Post (swapV ne ts vs) fun x => swapM ts vs env = pure x := by
  have hf := pick_name hn (headLine ts)
  unfold swapM
  dsimp only
  refine .sel (fun q => .pure ?_) fun q => .onT fun q2 => .optE (fun names q3 => .onF fun q4 => ?_) fun q3 => .pure ?_
  · rw [if_pos (by rw [q]; rfl)]
  · obtain ⟨pa1, pa2⟩ := pick_some hf _ q3
    rw [if_neg (by rw [q, hb]; decide), if_neg (by rw [noStars_anyS q2]; exact Bool.false_ne_true), pa1, if_neg (by rw [pa2] at q4 ⊢; rw [q4, bne_self_eq_false]; exact Bool.false_ne_true)]
    refine .sel (fun q5 => .pure (if_pos q5)) fun q5 => .onF fun q6 => .pure ?_
    rw [if_neg (by rw [q5]; exact Bool.false_ne_true)]
    exact if_neg (by rw [q6]; exact Bool.false_ne_true)
  · rw [if_neg (by rw [q, hb]; decide), if_neg (by rw [noStars_anyS q2]; exact Bool.false_ne_true), if_pos (by rw [bne_iff_ne.mpr (Nat.ne_of_lt (pick_none hf q3))]; rfl)]
theorem swapK_ok {ne : NE} {ts : List PySem.Expr} {k : Nat} {tp : Pos} {value : PySem.Expr} {env : Env} {x : Option (List Str)} (h : swapK ne ts value = some x) (hk : env.scope.kind = .function) (hn : env.scope.names = ne.names) : swappedStores [.Tuple ts k tp] value env = pure x := by
  cases value with
  | Tuple vs k2 p2 => exact (swapM_eq ..).trans (swapV_post (by unfold Env.blockKind; rw [hk]; rfl) hn _ h)
  | _ => exact inj1 (P := fun x => _ = pure x) h rfl
end Mine
end
section
open PySem PySem.W PyProof.Rows PySem.Calls PySem.Spec
namespace Mine
noncomputable def AsgT (D : Wd) (n : Nat) (ne : NE) (t : PySem.Expr) (v : V) (H : List O) (l' : LR) (H' : List O) : Prop :=
  ∀ (fx : Fx) (dp un : Nat) (μ : Mu) (m : Str → Option Value) (rest : Ledger) (s : Shared) (Q : Unit → Shared → Prop) (rv : Value), fx.Ok D → Room n dp un → fx.cs.names = ne.names → LocsOk μ m ne.locs → CellsOk μ fx.cl ne.cells → StD D fx μ H m rest s.heap → RelV μ v rv →
    PostA D fx H' l' μ rest s Q → wpAny (model D.prog D.w) (fx.A dp un) (assign t fx.env rv) Q NoE s
noncomputable def asg1 (r : Rec) (ne : NE) (t : PySem.Expr) (v : V) (σ : Sg) : Option (LR × Sg) :=
  match t with
  | .Name x _ => storeN ne x v σ
  | .Subscript o i _ => onF (isSlice i) (bnd (r.ev ne o σ) fun ov σ => bnd (r.ev ne i σ) fun iv σ => ob (setItemV ov iv v σ) fun σ => some (ne.locs, σ))
  | _ => none
noncomputable def asgs (r : Rec) : NE → List PySem.Expr → List V → Sg → Option (LR × Sg)
  | ne, [], vs, σ => (match vs with
    | [] => some (ne.locs, σ)
    | _ :: _ => none)
  | ne, t :: ts, vs, σ => onF (isStarE t) (ob (uncons vs) fun p => bnd (asg1 r ne t p.1 σ) fun l σ => asgs r (ne.withL l) ts p.2 σ)
noncomputable def tupOf (o : O) : Option (List V) := match o with
  | .tuple vs => some vs
  | _ => none
theorem tupOf_ok {o : O} {l : List V} (h : tupOf o = some l) : o = .tuple l := by
  cases o with
  | tuple => exact congrArg O.tuple (Option.some.inj h)
  | _ => exact noneNe h
noncomputable def tupAt (H : List O) (v : V) : Option (List V) := ob (refOf v) fun k => ob H[k]? fun o => tupOf o
noncomputable def tupEs (t : PySem.Expr) : Option (List PySem.Expr) := match t with
  | .Tuple ts _ _ => some ts
  | _ => none
theorem tupEs_ok {t : PySem.Expr} {ts : List PySem.Expr} (h : tupEs t = some ts) : ∃ k p, t = .Tuple ts k p := by
  cases t with
  | Tuple ts' k p => exact ⟨k, p, congrArg (PySem.Expr.Tuple · k p) (Option.some.inj h)⟩
  | _ => exact noneNe h
noncomputable def asgE (r : Rec) (ne : NE) (t : PySem.Expr) (v : V) (σ : Sg) : Option (LR × Sg) := optE (tupEs t) (fun ts => ob (tupAt σ.H v) fun vs => asgs r ne ts vs σ) (asg1 r ne t v σ)
noncomputable def storeMany : NE → List Str → List V → Sg → Option (LR × Sg)
  | ne, [], _, σ => some (ne.locs, σ)
  | ne, x :: xs, vs, σ => ob (uncons vs) fun p => bnd (storeN ne x p.1 σ) fun l σ => storeMany (ne.withL l) xs p.2 σ
section
variable {D : Wd} {n : Nat} {T : Tabs} {kt : Kt} {o : Orc} {r : Rec} {fx : Fx} {dp un : Nat} {μ : Mu} {H : List O} {m : Str → Option Value} {rest : Ledger} {s : Shared}
theorem wpAny_release {M : Model} {A : Around} {E : Value → Shared → Prop} {vs keep : List Value} {Q : Unit → Shared → Prop} (h : Q () s) : wpAny M A (release vs keep) Q E s := fun Γ p hΓ => by rw [Sem.wp_release]; exact h
noncomputable def AsgG (D : Wd) (n : Nat) (ne : NE) (t : PySem.Expr) (v : V) (σ : Sg) (p : LR × Sg) : Prop := σ.le p.2 ∧ (p.2.ok → AsgT D n ne t v σ.H p.1 p.2.H)
theorem asg1_post (ro : RecOk D n r) {ne : NE} {t : PySem.Expr} {v : V} {σ : Sg} : Post (asg1 r ne t v σ) (AsgG D n ne t v σ) := by
  cases t with
  | Name x px => exact fun p e => ⟨(storeN_post (D := D) p e).1, fun _ fx dp un μ m rest s Q rv okx room hn hl hc S hv P => wpAny_assign_Name ((storeN_post p e).2 okx hn hl hc S hv P)⟩
  | Subscript o i px =>
    refine .onF fun _ => .bnd fun ov σ₁ h1 => .bnd fun iv σ₂ h2 => .ob fun σ₃ hs => .pure ?_
    obtain ⟨le, x⟩ := two_ok ro h1 h2
    obtain ⟨le3, x3⟩ := setItemV_post (D := D) _ hs
    refine ⟨le.trans le3, fun ok fx dp un μ m rest s Q rv okx room hn hl hc S hv P => ?_⟩
    rw [assign_Subscript]
    refine wpAny_bind (wpAny_holding (wpAny_mono (x (le3.ok ok) (Q := fun ra rb s₂ => wpAny (model D.prog D.w) (fx.A dp un) (setItem ra rb rv) Q NoE s₂) okx room (.ofFn okx hn hl hc) S fun ra rb more h' tk' ha hb S' => ?_) (fun ra s₁ h₁ => wpAny_bind (wpAny_holding (wpAny_mono h₁ (fun rb s₂ h₂ => wpAny_bind (wpAny_standAt (wpAny_bind (wpAny_holding (wpAny_mono h₂ (fun _ s₃ h₃ => wpAny_release h₃) fun _ _ z => z))))) fun _ _ z => z))) fun _ _ z => z))
    exact x3 (s := { s with heap := h', toks := tk' }) S' ha hb hv.ext fun h'' tk'' S'' => P.next.at (s := { s with heap := h', toks := tk' }) tk'' (hl.ext) S''
  | _ => exact .none
noncomputable def AsgsP (D : Wd) (n : Nat) (ne : NE) (ts : List PySem.Expr) (vs : List V) (σ : Sg) (p : LR × Sg) : Prop := σ.le p.2 ∧ ts.length = vs.length ∧ (∀ env, (assignEach ts env).length = ts.length ∧ (assignEach ts env).findIdx? (·.1) = none) ∧
      (p.2.ok → ∀ {fx : Fx} {dp un : Nat} {μ : Mu} {m : Str → Option Value} {rest : Ledger} {s : Shared} {Q : Unit → Shared → Prop} {rs : List Value}, fx.Ok D → Room n dp un → fx.cs.names = ne.names → LocsOk μ m ne.locs → CellsOk μ fx.cl ne.cells → StD D fx μ σ.H m rest s.heap → RelVs μ vs rs →
        PostA D fx p.2.H p.1 μ rest s Q → wpAny (model D.prog D.w) (fx.A dp un) (assignInOrder ((assignEach ts fx.env).map (·.2)) rs) Q NoE s)
theorem each_cons {t : PySem.Expr} {ts : List PySem.Expr} (h : isStarE t = false) (env : Env) : assignEach (t :: ts) env = (false, assign t env) :: assignEach ts env := by
  cases t <;> first | rfl | exact (nomatch h)
theorem asgs_post (ro : RecOk D n r) {ts : List PySem.Expr} : ∀ {vs : List V} {ne : NE} {σ : Sg}, Post (asgs r ne ts vs σ) (AsgsP D n ne ts vs σ) := by
  induction ts with
  | nil =>
    intro vs ne σ
    cases vs with
    | nil => exact .pure ⟨.refl _, rfl, fun _ => ⟨rfl, rfl⟩, fun _ {fx dp un μ m rest s Q rs} okx room hn hl hc S hv P => assignInOrder_nil (P.at s.toks hl S)⟩
    | cons => exact .none
  | cons t ts ih =>
    intro vs ne σ
    refine .onF fun hst => .ob fun q hq => .bnd fun l1 σ₁ h1 p h2 => ?_
    obtain ⟨v, vs'⟩ := q
    cases uncons_ok hq
    obtain ⟨le1, x1⟩ := asg1_post ro _ h1
    obtain ⟨le2, el, ae, x2⟩ := ih _ h2
    refine ⟨le1.trans le2, congrArg Nat.succ el, fun env => ?_, fun ok {fx dp un μ m rest s Q rs} okx room hn hl hc S hv P => ?_⟩
    · rw [each_cons hst]
      exact ⟨congrArg Nat.succ (ae env).1, by rw [List.findIdx?_cons, (ae env).2]; rfl⟩
    · rw [each_cons hst]
      cases hv with
      | cons hv1 hv2 => exact assignInOrder_cons (x1 (le2.ok ok) fx dp un μ m rest s _ _ okx room hn hl hc S hv1 fun more h' tk' m' hl' S' => x2 ok okx room hn hl' hc.ext S' (RelVs.ext hv2) P.next)
theorem tupAt_ok {v : V} {vs : List V} {rv : Value} (e : tupAt H v = some vs) (S : StD D fx μ H m rest s.heap) (hr : RelV μ v rv) : ∃ a its, rv = .ref a ∧ IsTup s.heap a (List.toArray its) ∧ RelVs μ vs its :=
  ob_ e fun k hk e => ob_ e fun o ho e => by
    rw [refOf_ok hk] at hr
    rw [tupOf_ok e] at ho
    exact tup_at S ho hr
theorem asgT_tuple (ro : RecOk D n r) {ne : NE} {ts : List PySem.Expr} {k : Nat} {pos : Pos} {v : V} {σ : Sg} : Post (ob (tupAt σ.H v) fun vs => asgs r ne ts vs σ) (AsgG D n ne (.Tuple ts k pos) v σ) := by
  refine .ob fun vs hvs p e => ?_
  obtain ⟨le, el, ae, x⟩ := asgs_post ro _ e
  refine ⟨le, fun ok fx dp un μ m rest s Q rv okx room hn hl hc S hv P => ?_⟩
  obtain ⟨a, its, rfl, ht, rel⟩ := tupAt_ok hvs S hv
  obtain ⟨led, N, nd, al⟩ := S.ex
  obtain ⟨a1, a2⟩ := ae fx.env
  exact unpackN_ S.fr N ht rfl (a1.trans (el.trans rel.length)) a2 fun h' F' N' => x ok (s := { s with heap := h' }) okx room hn hl hc ⟨F', S.ap, led, N', nd, al⟩ rel P
theorem asgE_post (ro : RecOk D n r) {ne : NE} {t : PySem.Expr} {v : V} {σ : Sg} : Post (asgE r ne t v σ) (AsgG D n ne t v σ) :=
  .optE (fun ts h => by obtain ⟨k, p, rfl⟩ := tupEs_ok h; exact asgT_tuple ro) fun _ => asg1_post ro
theorem asgE_ok (ro : RecOk D n r) {ne : NE} {t : PySem.Expr} {v : V} {σ σ' : Sg} {l : LR} (e : asgE r ne t v σ = some (l, σ')) : σ.le σ' ∧ (σ'.ok → AsgT D n ne t v σ.H l σ'.H) := asgE_post ro _ e
noncomputable def ManyP (D : Wd) (ne : NE) (xs : List Str) (vs : List V) (σ : Sg) (p : LR × Sg) : Prop := σ.le p.2 ∧
      (∀ {fx : Fx} {dp un : Nat} {μ : Mu} {m : Str → Option Value} {rest : Ledger} {s : Shared} {Q : Unit → Shared → Prop} {rs : List Value}, fx.Ok D → fx.cs.names = ne.names → LocsOk μ m ne.locs → CellsOk μ fx.cl ne.cells → StD D fx μ σ.H m rest s.heap → RelVs μ vs rs →
        PostA D fx p.2.H p.1 μ rest s Q → wpAny (model D.prog D.w) (fx.A dp un) (assignInOrder (xs.map fun n => bindName fx.env n) rs) Q NoE s)
theorem storeMany_post {xs : List Str} : ∀ {vs : List V} {ne : NE} {σ : Sg}, Post (storeMany ne xs vs σ) (ManyP D ne xs vs σ) := by
  induction xs with
  | nil => exact .pure ⟨.refl _, fun {fx dp un μ m rest s Q rs} okx hn hl hc S hv P => assignInOrder_nil (P.at s.toks hl S)⟩
  | cons x xs ih =>
    intro vs ne σ
    refine .ob fun q hq => .bnd fun l1 σ₁ h1 p h2 => ?_
    obtain ⟨v, vs'⟩ := q
    cases uncons_ok hq
    obtain ⟨le1, x1⟩ := storeN_post (D := D) _ h1
    obtain ⟨le2, x2⟩ := ih _ h2
    refine ⟨le1.trans le2, fun {fx dp un μ m rest s Q rs} okx hn hl hc S hv P => ?_⟩
    cases hv with
    | cons hv1 hv2 => exact assignInOrder_cons (wpAny_bindName (x1 okx hn hl hc S hv1 fun more h' tk' m' hl' S' => x2 okx hn hl' hc.ext S' (RelVs.ext hv2) P.next))

noncomputable def iterG (r : Rec) (ne : NE) (e : PySem.Expr) (σ : Sg) : Option (It × Sg) := bnd (r.ev ne e σ) fun v σ => iterOf v σ
noncomputable def isBi8 (v : Option V) : Bool := match v with
  | some w => (match w with
    | .bi n => Nat.beq n 8
    | _ => false)
  | none => false
noncomputable def isGI (k : Option NameKind) : Bool := match k with
  | some .globalImplicit => true
  | _ => false
noncomputable def revArg (T : Tabs) (ne : NE) (e : PySem.Expr) : Option PySem.Expr := match e with
  | .Call f args kws _ => (match kws with
    | [] => (match f with
      | .Name x _ => ob (un1 args) fun a => onT (isGI (lkS ne.names (code x))) (onT (isBi8 (lkS T.gl (code x))) (onF (isStarE a) (onF (eqS x dbg) (some a))))
      | _ => none)
    | _ :: _ => none)
  | _ => none
noncomputable def iterX (T : Tabs) (r : Rec) (ne : NE) (e : PySem.Expr) (σ : Sg) : Option (It × Sg) := optE (revArg T ne e) (fun a => bnd (r.ev ne a σ) fun v σ => ob (refOf v) fun k => ob (seqAt σ.H k) fun l => some (.rev k l.length, σ)) (iterG r ne e σ)
noncomputable def ItT (D : Wd) (n : Nat) (ne : NE) (e : PySem.Expr) (H : List O) (it : It) (H' : List O) : Prop :=
  ∀ (fx : Fx) (env : Env) (dp un : Nat) (μ : Mu) (m : Str → Option Value) (rest : Ledger) (s : Shared) (Q : Value → Shared → Prop), fx.Ok D → Room n dp un → EnvOk fx env ne μ m rest → StD D fx μ H m rest s.heap →
    IterEnd D fx H' it μ m rest s Q → wpAny (model D.prog D.w) (fx.A dp un) (eval e env) (fun xv s₁ => wpAny (model D.prog D.w) (fx.A dp un) (pyIter xv) Q NoE s₁) NoE s
noncomputable def ItG (D : Wd) (n : Nat) (ne : NE) (e : PySem.Expr) (σ : Sg) (p : It × Sg) : Prop := σ.le p.2 ∧ (p.2.ok → ItT D n ne e σ.H p.1 p.2.H)
theorem iter_gen (ro : RecOk D n r) {ne : NE} {e : PySem.Expr} {σ : Sg} : Post (iterG r ne e σ) (ItG D n ne e σ) := by
  refine .bnd fun v σ₁ h1 p h2 => ?_
  obtain ⟨le1, x1⟩ := ro.ev _ _ _ _ _ h1
  have le2 := iterOf_le h2
  exact ⟨le1.trans le2, fun ok fx env dp un μ m rest s Q okx room eo S P => x1 (le2.ok ok) fx env dp un μ m rest s _ okx room eo S fun rv more h' tk' hr S' => (iterOf_ok (s := { s with heap := h', toks := tk' }) h2).2 ok hr S' P.next⟩
theorem isGI_ok {k : Option NameKind} (h : isGI k = true) : k = some .globalImplicit := by
  cases k with
  | none => exact (nomatch h)
  | some k => cases k <;> first | rfl | exact (nomatch h)
theorem isBi8_ok {k : Option V} (h : isBi8 k = true) : k = some (.bi 8) := by
  cases k with
  | none => exact (nomatch h)
  | some v =>
    cases v with
    | bi n => exact congrArg (fun n => some (V.bi n)) (Nat.eq_of_beq_eq_true h)
    | _ => exact (nomatch h)
noncomputable def RevP (T : Tabs) (ne : NE) (e a : PySem.Expr) : Prop := ∃ x q p, e = .Call (.Name x q) [a] [] p ∧ isStarE a = false ∧ ∀ σ, evName T ne x σ = some (.bi 8, σ)
theorem revArg_post {ne : NE} {e : PySem.Expr} : Post (revArg T ne e) (RevP T ne e) := by
  cases e with
  | Call f args kws p =>
    cases kws with
    | cons => exact .none
    | nil =>
      cases f with
      | Name x q =>
        refine .ob fun a ha => .onT fun hk => .onT fun hg => .onF fun hs => .onF fun hd => .pure ?_
        rw [un1_ok ha]
        refine ⟨x, q, p, rfl, hs, fun σ => ?_⟩
        unfold evName
        rw [hd, isGI_ok hk]
        show ob (lkS T.gl (code x)) (fun v => some (v, σ)) = _
        rw [isBi8_ok hg]; rfl
      | _ => exact .none
  | _ => exact .none
theorem iterX_post (hT : TabsOk D T) (ro : RecOk D n r) {ne : NE} {e : PySem.Expr} {σ : Sg} : Post (iterX T r ne e σ) (ItG D n ne e σ) := by
  refine .optE (fun a ha => ?_) fun _ => iter_gen ro
  obtain ⟨x, q, p, rfl, hs, en⟩ := revArg_post _ ha
  refine .bnd fun v σ₁ h1 => .ob fun k0 hv => .ob fun l hl => .pure ?_
  obtain ⟨le1, x1⟩ := ro.ev _ _ _ _ _ h1
  refine ⟨le1, fun ok fx env dp un μ m rest s Q okx room eo S P => ?_⟩
  refine Call_ ((evName_ok (D := D) hT.gl (en σ)).2 fx env dp un μ m rest s _ okx room.zero eo S fun rf more0 h0 tk0 hf S0 => ?_)
  cases (show rf = biVal 8 from hf)
  refine PySem.Pv.callWith_type1 ?_ (starEach_cons hs _ _) (noStars_any (es := []) rfl)
  refine spliced_more (rest := []) (x1 ok fx env dp un _ m rest _ _ okx room eo.ext S0 fun rv more h' tk' hr S' => ?_) (starEach_cons hs _ _)
  refine spliced_none ?_
  rw [refOf_ok hv] at hr
  obtain ⟨ad, d, hkk, rfl⟩ := hr
  obtain ⟨its, hL, rel⟩ := seqAt_ok (s := { s with heap := h', toks := tk' }) hl S' hkk
  refine call_reversed_list hL ?_
  have hin : ItIn (μ ++ more0 ++ more) (.rev k0 l.length) (revObj ad (((List.toArray its).size : Int) - 1)) := ⟨ad, d, hkk, rfl, by rw [List.size_toArray, ← rel.length]; rfl⟩
  have S'' := rest_push (ob := revObj ad (((List.toArray its).size : Int) - 1)) (s := { s with heap := h', toks := tk' }) S' rfl
  refine iter_self (s := ⟨_, s.gens, s.drawn, tk', s.os⟩) hin (Heap.get?_push_size _ rfl) ?_
  rw [List.append_assoc] at hin S''
  exact P _ _ _ _ _ hin S''
end
end Mine
end
section
open PySem PySem.W PyProof.Rows PySem.Calls PySem.Spec
namespace Mine
noncomputable abbrev XO := NE → Stmt → Sg → Option ((Fl × LR) × Sg)
noncomputable def isComp : PySem.Expr → Bool
  | .ListComp .. => true
  | .SetComp .. => true
  | .DictComp .. => true
  | _ => false
theorem swaps_of {e : PySem.Expr} (h : isComp e = false) (t : Option PySem.Expr) (l : Nat) (env : Env) : swapsWith e t l env = pure false := by
  cases e <;> first | rfl | cases h
theorem swaps_cell {e : PySem.Expr} {t : Str} {tp : Pos} {env : Env} (h : env.scope.names.lookup t = some .cell) (l : Nat) : swapsWith e (some (.Name t tp)) l env = pure false := by
  have hk : env.kindOf t = some .cell := h
  have hb : (env.kindOf t == some NameKind.local) = false := by rw [hk]; rfl
  cases e <;> first
    | rfl
    | (unfold swapsWith; simp [hb])
theorem swaps_sub {e o i : PySem.Expr} {p : Pos} (l : Nat) (env : Env) : swapsWith e (some (.Subscript o i p)) l env = pure false := by
  cases e <;> rfl
noncomputable def isLC (k : Option NameKind) : Bool := isLocalK k || isCellK k
noncomputable def noLC (t : Str) (l : List (Str × NameKind)) : Bool := l.all fun p => !(eqS p.1 t && isLC (some p.2))
theorem noLC_ok {t : Str} {l : List (Str × NameKind)} (h : noLC t l = true) : (l.any fun (n, k) => n == t && (k == .local || k == .cell)) = false := by
  have h' := List.all_eq_true.mp h
  refine Bool.eq_false_iff.mpr fun q => ?_
  obtain ⟨p, hp, q⟩ := List.any_eq_true.mp q
  have r : (eqS p.1 t && isLC (some p.2)) = false := by have := h' p hp; rw [Bool.not_eq_true'] at this; exact this
  have e : (p.1 == t && (p.2 == .local || p.2 == .cell)) = (eqS p.1 t && isLC (some p.2)) := by
    rw [beq_eqS]
    cases p.2 <;> rfl
  exact Bool.false_ne_true (r.symm.trans (e.symm.trans q))
noncomputable def lcOf (e : PySem.Expr) : Option (Scope × Pos) := match e with
  | .ListComp _ _ scope pos => some (scope, pos)
  | _ => none
theorem lcOf_ok {e : PySem.Expr} {p : Scope × Pos} (h : lcOf e = some p) : ∃ a b, e = .ListComp a b p.1 p.2 := by
  cases e with
  | ListComp a b c d => exact inj1 (P := fun p : Scope × Pos => ∃ a' b', PySem.Expr.ListComp a b c d = .ListComp a' b' p.1 p.2) h ⟨a, b, rfl⟩
  | _ => exact noneNe h
noncomputable def swapB (ne : NE) (t : Str) (tp : Pos) (e : PySem.Expr) : Bool := match lcOf e with
  | some p => isLocalK (lkS ne.names (code t)) && (Nat.beq tp.line p.2.line && noLC t p.1.names)
  | none => false
theorem swapB_ok {ne : NE} {t : Str} {tp : Pos} {e : PySem.Expr} {env : Env} (h : swapB ne t tp e = true) (hk : env.scope.kind = .function) (hn : env.scope.names = ne.names) (l : Nat) : swapsWith e (some (.Name t tp)) l env = pure true ∧ env.scope.names.lookup t = some .local := by
  unfold swapB at h
  cases hq : lcOf e with
  | none => rw [hq] at h; exact (nomatch h)
  | some p =>
    rw [hq] at h
    obtain ⟨a, b, rfl⟩ := lcOf_ok hq
    have h1 := Bool.and_eq_true_iff.mp h
    have h2 := Bool.and_eq_true_iff.mp h1.2
    have hl : env.scope.names.lookup t = some .local := by rw [hn, ← lkS_lookup]; exact isLocalK_iff h1.1
    refine ⟨?_, hl⟩
    have hb : env.blockKind = .function := by unfold Env.blockKind; rw [hk]; rfl
    have hkk : env.kindOf t = some .local := hl
    show (pure (env.blockKind == .function && env.kindOf t == some .local && tp.line == p.2.line && !(p.1.names.any fun (n, k) => n == t && (k == .local || k == .cell))) : Sem Bool) = pure true
    rw [hb, hkk, noLC_ok h2.2, Nat.eq_of_beq_eq_true h2.1, beq_self_eq_true p.2.line]
    rfl
noncomputable def noRef : V → Bool
  | .ref _ => false
  | .val _ => false
  | .bi _ => false
  | _ => true
noncomputable def flowE {α : Type} (p : Fl × LR) (go b : LR → Option α) (c : V → LR → Option α) : Option α := match p.1 with
  | .next => go p.2
  | .cont => go p.2
  | .brk => b p.2
  | .ret v => c v p.2
theorem Post.flow {α : Type} {Q : α → Prop} {p : Fl × LR} {go b : LR → Option α} {c : V → LR → Option α} (k : (p.1 = .next ∨ p.1 = .cont) → Post (go p.2) Q) (l : p.1 = .brk → Post (b p.2) Q) (m : ∀ v, p.1 = .ret v → Post (c v p.2) Q) : Post (flowE p go b c) Q := by
  obtain ⟨fl, p⟩ := p
  cases fl with
  | next => exact k (.inl rfl)
  | cont => exact k (.inr rfl)
  | brk => exact l rfl
  | ret v => exact m v rfl
noncomputable def whileE (r : Rec) (ne : NE) (test : PySem.Expr) (body : List Stmt) : Nat → LR → Sg → Option ((Fl × LR) × Sg)
  | 0, _, _ => none
  | f + 1, l, σ => bnd (r.tr (ne.withL l) test σ) fun b σ => sel b (bnd (r.exs (ne.withL l) body σ) fun p σ => flowE p (fun l' => whileE r ne test body f l' σ) (fun l' => some ((.next, l'), σ)) fun v l' => some ((.ret v, l'), σ)) (some ((.next, l), σ))
noncomputable def okTarget : PySem.Expr → It → Bool
  | .Tuple .., .list _ _ => true
  | .Tuple .., _ => false
  | .List .., _ => false
  | _, _ => true
noncomputable def forE (r : Rec) (ne : NE) (t : PySem.Expr) (body : List Stmt) : Nat → It → LR → Sg → Option ((Fl × LR) × Sg)
  | 0, _, _, _ => none
  | f + 1, it, l, σ => ob (nextV σ.H it) fun z => match z with
    | none => some ((.next, l), σ)
    | some y => onT (okTarget t y.2) (bnd (asgE r (ne.withL l) t y.1 σ) fun l1 σ => bnd (r.exs (ne.withL l1) body σ) fun p σ => flowE p (fun l' => forE r ne t body f y.2 l' σ) (fun l' => some ((.next, l'), σ)) fun v l' => some ((.ret v, l'), σ))
noncomputable def asgName (r : Rec) (ne : NE) (x : Str) (value : PySem.Expr) (σ : Sg) : Option ((Fl × LR) × Sg) := bnd (r.ev ne value σ) fun v σ => bnd (storeN ne x v σ) fun l σ => some ((.next, l), σ)
noncomputable def asgSub (r : Rec) (ne : NE) (o i value : PySem.Expr) (σ : Sg) : Option ((Fl × LR) × Sg) := bnd (r.ev ne value σ) fun v σ => bnd (r.ev ne o σ) fun ov σ => bnd (r.ev ne i σ) fun iv σ => ob (setItemV ov iv v σ) fun σ => some ((.next, ne.locs), σ)
noncomputable def asgAttr (T : Tabs) (r : Rec) (ne : NE) (o : PySem.Expr) (a : Str) (value : PySem.Expr) (σ : Sg) : Option ((Fl × LR) × Sg) := bnd (r.ev ne value σ) fun v σ => bnd (r.ev ne o σ) fun ov σ => ob (setAt T ov a v σ) fun σ => some ((.next, ne.locs), σ)
noncomputable def asgTup (r : Rec) (ne : NE) (es : List PySem.Expr) (k : Nat) (p : Pos) (value : PySem.Expr) (σ : Sg) : Option ((Fl × LR) × Sg) := ob (swapK ne es value) fun z => match z with
  | some names => bnd (r.ev ne value σ) fun v σ => ob (tupAt σ.H v) fun vs => onT (Nat.beq vs.length names.length) (bnd (storeMany ne names.reverse vs.reverse σ) fun l σ => some ((.next, l), σ))
  | none => bnd (r.ev ne value σ) fun v σ => bnd (asgE r ne (.Tuple es k p) v σ) fun l σ => some ((.next, l), σ)
noncomputable def asgS (T : Tabs) (lo : LO) (r : Rec) (ne : NE) (t value : PySem.Expr) (σ : Sg) : Option ((Fl × LR) × Sg) := match t with
  | .Name x px => sel (isComp value) (sel (swapB ne x px value) (bnd (compX lo r ne value σ) fun d σ => some ((.next, putS ne.locs x (.ref d)), σ)) (onT (isCellK (lkS ne.names (code x))) (asgName r ne x value σ))) (asgName r ne x value σ)
  | .Attribute o a _ => onF (isComp value) (asgAttr T r ne o a value σ)
  | .Subscript o i _ => onF (isSlice i) (asgSub r ne o i value σ)
  | .Tuple es k p => onF (isComp value) (asgTup r ne es k p value σ)
  | _ => none
noncomputable def stE (T : Tabs) (lo : LO) (r : Rec) (ne : NE) (st : Stmt) (σ : Sg) : Option ((Fl × LR) × Sg) := match st with
  | .Assign ts value _ => (match ts with
    | [] => none
    | t :: ts => (match ts with
      | [] => asgS T lo r ne t value σ
      | _ :: _ => none))
  | .Expr e _ => onF (isComp e) (bnd (r.ev ne e σ) fun v σ => onT (noRef v) (some ((.next, ne.locs), σ)))
  | .If t b e _ => bnd (r.tr ne t σ) fun k σ => sel k (r.exs ne b σ) (r.exs ne e σ)
  | .While t b e _ => (match e with
    | [] => whileE r ne t b 300 ne.locs σ
    | _ :: _ => none)
  | .For t it b e _ => (match e with
    | [] => onT (okIter it) (bnd (iterX T r ne it σ) fun it σ => forE r ne t b 300 it ne.locs σ)
    | _ :: _ => none)
  | .Return e _ => (match e with
    | some e => bnd (r.ev ne e σ) fun v σ => some ((.ret v, ne.locs), σ)
    | none => some ((.ret .none, ne.locs), σ))
  | .Break _ => some ((.brk, ne.locs), σ)
  | .Continue _ => some ((.cont, ne.locs), σ)
  | _ => none
noncomputable def stStep (T : Tabs) (lo : LO) (xo : XO) (r : Rec) (ne : NE) (st : Stmt) (σ : Sg) : Option ((Fl × LR) × Sg) := optE (xo ne st σ) some (stE T lo r ne st σ)
noncomputable def stsStep (T : Tabs) (lo : LO) (xo : XO) (r : Rec) : NE → List Stmt → Sg → Option ((Fl × LR) × Sg)
  | ne, [], σ => some ((.next, ne.locs), σ)
  | ne, st :: ss, σ => bnd (stStep T lo xo r ne st σ) fun p σ => match p.1 with
    | .next => stsStep T lo xo r (ne.withL p.2) ss σ
    | _ => some (p, σ)
noncomputable def StT (D : Wd) (n : Nat) (ne : NE) (st : Stmt) (H : List O) (fl : Fl) (locs' : LR) (H' : List O) : Prop :=
  ∀ (fx : Fx) (dp un : Nat) (μ : Mu) (m : Str → Option Value) (rest : Ledger) (s : Shared) (Q : Flow → Shared → Prop), fx.Ok D → Room n dp un → fx.cs.names = ne.names → LocsOk μ m ne.locs → CellsOk μ fx.cl ne.cells → StD D fx μ H m rest s.heap →
    (∀ (f : Flow) (more : Mu) (h' : Heap) (tk' : Nat) (m' : Str → Option Value), RelF (μ ++ more) fl f → LocsOk (μ ++ more) m' locs' → StD D fx (μ ++ more) H' m' rest h' → Q f { s with heap := h', toks := tk' }) →
    wpAny (model D.prog D.w) (fx.A dp un) (exec st fx.env) Q NoE s
noncomputable def PostF (D : Wd) (fx : Fx) (H' : List O) (fl : Fl) (locs' : LR) (μ : Mu) (rest : Ledger) (s : Shared) (Q : Flow → Shared → Prop) : Prop :=
  ∀ (f : Flow) (more : Mu) (h' : Heap) (tk' : Nat) (m' : Str → Option Value), RelF (μ ++ more) fl f → LocsOk (μ ++ more) m' locs' → StD D fx (μ ++ more) H' m' rest h' → Q f { s with heap := h', toks := tk' }
noncomputable def XOk (D : Wd) (n : Nat) (xo : XO) : Prop := ∀ ne st σ fl l σ', xo ne st σ = some ((fl, l), σ') → σ.le σ' ∧ (σ'.ok → StT D n ne st σ.H fl l σ'.H)
section
variable {D : Wd} {n : Nat} {T : Tabs} {xo : XO} {r : Rec} {fx : Fx} {dp un : Nat} {μ : Mu} {H : List O} {m : Str → Option Value} {rest : Ledger} {s : Shared}
theorem PostF.next {H' : List O} {fl : Fl} {locs' : LR} {more : Mu} {h : Heap} {tk : Nat} {Q : Flow → Shared → Prop} (P : PostF D fx H' fl locs' μ rest s Q) : PostF D fx H' fl locs' (μ ++ more) rest { s with heap := h, toks := tk } Q := by
  intro f more' h' tk' m' hf hl S
  rw [List.append_assoc] at hf hl S
  exact P f _ h' tk' m' hf hl S
theorem PostF.at {H' : List O} {fl : Fl} {locs' : LR} {Q : Flow → Shared → Prop} (P : PostF D fx H' fl locs' μ rest s Q) {f : Flow} {h' : Heap} {m' : Str → Option Value} (tk : Nat) (hf : RelF μ fl f) (hl : LocsOk μ m' locs') (S : StD D fx μ H' m' rest h') : Q f { s with heap := h', toks := tk } :=
  P f [] h' tk m' (by rw [List.append_nil]; exact hf) (by rw [List.append_nil]; exact hl) (by rw [List.append_nil]; exact S)
theorem PostF.here {H' : List O} {fl : Fl} {locs' : LR} {Q : Flow → Shared → Prop} (P : PostF D fx H' fl locs' μ rest s Q) {f : Flow} {m' : Str → Option Value} (hf : RelF μ fl f) (hl : LocsOk μ m' locs') (S : StD D fx μ H' m' rest s.heap) : Q f s := P.at s.toks hf hl S
noncomputable def Turn (D : Wd) (n0 : Nat) (it : It) (H : List O) (l : LR) (H' : List O) (l' : LR) : Prop :=
  ∀ (fx : Fx) (μ more : Mu) (m : Str → Option Value) (rest : Ledger) (h : Heap) (oI : Obj), μ.length = n0 → StD D fx (μ ++ more) H m rest h → LocsOk (μ ++ more) m l → ItIn (μ ++ more) it oI → ∃ more', StD D fx (μ ++ more') H' m rest h ∧ LocsOk (μ ++ more') m l' ∧ ItIn (μ ++ more') it oI
theorem Turn.refl {n0 : Nat} {it : It} {H : List O} {l : LR} : Turn D n0 it H l H l := fun _ _ more _ _ _ _ _ S hl hi => ⟨more, S, hl, hi⟩
inductive ForR (D : Wd) (n : Nat) (ne : NE) (t : PySem.Expr) (body : List Stmt) (n0 : Nat) : Nat → It → List O → LR → Fl → LR → List O → Prop
  | done {k it H l} : nextV H it = some none → ForR D n ne t body n0 k it H l .next l H
  | step {k it it' v H l H₁ l₁ fl H₂ l₂ H₃ l₃ fl' l' H'} : nextV H it = some (some (v, it')) → okTarget t it' = true → AsgT D n (ne.withL l) t v H l₁ H₁ → ExT D n (ne.withL l₁) body H₁ fl l₂ H₂ → (fl = .next ∨ fl = .cont) → Turn D n0 it' H₂ l₂ H₃ l₃ → ForR D n ne t body n0 k it' H₃ l₃ fl' l' H' → ForR D n ne t body n0 (k + 1) it H l fl' l' H'
  | brk {k it it' v H l H₁ l₁ H₂ l₂} : nextV H it = some (some (v, it')) → okTarget t it' = true → AsgT D n (ne.withL l) t v H l₁ H₁ → ExT D n (ne.withL l₁) body H₁ .brk l₂ H₂ → ForR D n ne t body n0 (k + 1) it H l .next l₂ H₂
  | ret {k it it' v w H l H₁ l₁ H₂ l₂} : nextV H it = some (some (v, it')) → okTarget t it' = true → AsgT D n (ne.withL l) t v H l₁ H₁ → ExT D n (ne.withL l₁) body H₁ (.ret w) l₂ H₂ → ForR D n ne t body n0 (k + 1) it H l (.ret w) l₂ H₂
inductive WhileR (D : Wd) (n : Nat) (ne : NE) (test : PySem.Expr) (body : List Stmt) : Nat → List O → LR → Fl → LR → List O → Prop
  | done {k H l H₁} : TrT D n (ne.withL l) test H false H₁ → WhileR D n ne test body k H l .next l H₁
  | step {k H l H₁ fl H₂ l₂ fl' l' H'} : TrT D n (ne.withL l) test H true H₁ → ExT D n (ne.withL l) body H₁ fl l₂ H₂ → (fl = .next ∨ fl = .cont) → WhileR D n ne test body k H₂ l₂ fl' l' H' → WhileR D n ne test body (k + 1) H l fl' l' H'
  | brk {k H l H₁ H₂ l₂} : TrT D n (ne.withL l) test H true H₁ → ExT D n (ne.withL l) body H₁ .brk l₂ H₂ → WhileR D n ne test body (k + 1) H l .next l₂ H₂
  | ret {k w H l H₁ H₂ l₂} : TrT D n (ne.withL l) test H true H₁ → ExT D n (ne.withL l) body H₁ (.ret w) l₂ H₂ → WhileR D n ne test body (k + 1) H l (.ret w) l₂ H₂
theorem CompT.store {ne : NE} {y : Str} {py spos : Pos} {e : PySem.Expr} {H H' : List O} {d : Nat} {Q : Flow → Shared → Prop} (c : CompT D n ne e H d H') (okx : fx.Ok D) (room : Room n dp un) (hn : fx.cs.names = ne.names) (hl : LocsOk μ m ne.locs) (hc : CellsOk μ fx.cl ne.cells) (S : StD D fx μ H m rest s.heap) (hsw : swapB ne y py e = true)
    (P : PostF D fx H' .next (putS ne.locs y (.ref d)) μ rest s Q) : wpAny (model D.prog D.w) (fx.A dp un) (exec (.Assign [.Name y py] e spos) fx.env) Q NoE s := by
  obtain ⟨elt, x, px, iter, tests, scope, pos, cellsC, b, k, it, v, σ₁, σ₂, rfl, so, oi, fc, e1, e2, ok, R, rfl⟩ := c
  obtain ⟨h1, h2⟩ := swapB_ok (env := fx.env) hsw okx.hk hn spos.line
  rw [exec_Assign_Name_used _ _ _ _ h1]
  refine wpAny_bind (wpAny_standAt (wpAny_bind ?_))
  show wpAny _ _ (do let _ ← comprehension (.ListComp elt [⟨.Name x px, iter, tests, 0⟩] scope pos) scope fx.env _ (newList []) false (eval iter fx.env) (some (assign (.Name y py) fx.env))) _ _ s
  have w := comp_store (pos := pos) (pos2 := firstIterPos [⟨.Name x px, iter, tests, 0⟩] pos) (px := px) (py := py) (Q := fun _ s' => Q .next s') so oi fc e1 e2 ok R okx room (.ofFn okx hn hl hc) S h2 fun r more h' tk' hr S' => P .next more h' tk' _ rfl (hl.ext.put hr) S'
  exact wpAny_bind (wpAny_mono w (fun _ s' hq => wpAny_pure (wpAny_pure hq)) fun _ _ z => z)
inductive WhileI (D : Wd) (n : Nat) (ne : NE) (test : PySem.Expr) (body : List Stmt) (fl : Fl) (l' : LR) (H' : List O) (fx : Fx) (μ : Mu) (rest : Ledger) (s : Shared) (k : Nat) : Shared → Prop
  | mk {more : Mu} {H : List O} {l : LR} {h : Heap} {tk : Nat} {m : Str → Option Value} : WhileR D n ne test body k H l fl l' H' → LocsOk (μ ++ more) m l → StD D fx (μ ++ more) H m rest h → WhileI D n ne test body fl l' H' fx μ rest s k { s with heap := h, toks := tk }
theorem While_ok {ne : NE} {test : PySem.Expr} {body : List Stmt} {pos : Pos} {k : Nat} {H : List O} {fl : Fl} {l' : LR} {H' : List O} (R : WhileR D n ne test body k H ne.locs fl l' H') : StT D n ne (.While test body [] pos) H fl l' H' := by
  intro fx dp un μ m rest s Q okx room hn hl hc S P
  refine wpAny_While (codeAny_whileLoop (WhileI D n ne test body fl l' H' fx μ rest s) (fun k s' hI => ?_) k (.mk (more := []) (h := s.heap) (tk := s.toks) R (by rw [List.append_nil]; exact hl) (by rw [List.append_nil]; exact S)))
  obtain ⟨R, hl, S⟩ := hI
  rename_i more H l h tk m
  have eo : EnvOk fx fx.env (ne.withL l) (μ ++ more) m rest := .ofFn okx hn hl hc.ext
  have go : ∀ {b : Bool} {H₁ : List O} {F G : Shared → Prop} {E : Value → Shared → Prop}, TrT D n (ne.withL l) test H b H₁ → (∀ more1 h1 tk1, b = true → LocsOk (μ ++ (more ++ more1)) m l → StD D fx (μ ++ (more ++ more1)) H₁ m rest h1 → F { s with heap := h1, toks := tk1 }) → (∀ more1 h1 tk1, b = false → LocsOk (μ ++ (more ++ more1)) m l → StD D fx (μ ++ (more ++ more1)) H₁ m rest h1 → G { s with heap := h1, toks := tk1 }) →
      wpAny (model D.prog D.w) (fx.A dp un) (isTrue test fx.env (eval test fx.env)) (fun b s₂ => if b then F s₂ else G s₂) E { s with heap := h, toks := tk } := fun {b H₁ F G E} ht f g => by
    refine toE0 (ht fx fx.env dp un _ m rest _ _ okx room eo S fun c more1 h1 tk1 hb S1 => ?_)
    cases (show c = b from hb)
    have hl1 := hl.ext (more := more1)
    rw [List.append_assoc] at S1 hl1
    cases b
    · exact g more1 h1 tk1 rfl hl1 S1
    · exact f more1 h1 tk1 rfl hl1 S1
  have body : ∀ {fl2 : Fl} {H₁ H₂ : List O} {l₂ : LR} {F : Flow → Shared → Prop} {E : Value → Shared → Prop}, TrT D n (ne.withL l) test H true H₁ → ExT D n (ne.withL l) body H₁ fl2 l₂ H₂ → (∀ f more2 h2 tk2 m2, RelF (μ ++ more2) fl2 f → LocsOk (μ ++ more2) m2 l₂ → StD D fx (μ ++ more2) H₂ m2 rest h2 → F f { s with heap := h2, toks := tk2 }) →
      ∀ {G : Shared → Prop}, wpAny (model D.prog D.w) (fx.A dp un) (isTrue test fx.env (eval test fx.env)) (fun b s₂ => if b then wpAny (model D.prog D.w) (fx.A dp un) (execs body fx.env) F E s₂ else G s₂) E { s with heap := h, toks := tk } := fun ht hx q G =>
    go ht (fun more1 h1 tk1 _ hl1 S1 => toE0 (hx fx dp un _ m rest _ _ okx room hn hl1 hc.ext S1 fun f more2 h2 tk2 m2 hf hl2 S2 => by
      rw [List.append_assoc] at hf hl2 S2
      exact q f _ h2 tk2 m2 hf hl2 S2)) fun _ _ _ e => nomatch e
  cases R with
  | done ht => exact go ht (fun _ _ _ e => nomatch e) fun more1 h1 tk1 _ hl1 S1 => wpAny_execs_nil (P .next _ h1 tk1 m rfl hl1 S1)
  | step ht hx hf R' =>
    refine body ht hx fun f more2 h2 tk2 m2 hf2 hl2 S2 => ?_
    have fin : ∃ j, j < _ + 1 ∧ WhileI D n ne test _ fl l' H' fx μ rest s j { s with heap := h2, toks := tk2 } := ⟨_, Nat.lt_succ_self _, .mk R' hl2 S2⟩
    rcases hf with rfl | rfl
    · cases (show f = .next from hf2); exact fin
    · cases (show f = .cont from hf2); exact fin
  | brk ht hx =>
    refine body ht hx fun f more2 h2 tk2 m2 hf2 hl2 S2 => ?_
    cases (show f = .brk from hf2)
    exact P .next _ h2 tk2 m2 rfl hl2 S2
  | ret ht hx =>
    refine body ht hx fun f more2 h2 tk2 m2 hf2 hl2 S2 => ?_
    obtain ⟨rv, rfl, hrv⟩ := hf2
    exact P (.ret rv) _ h2 tk2 m2 ⟨rv, rfl, hrv⟩ hl2 S2
theorem toE {α : Type} {A : Around} {t : Sem α} {Q : α → Shared → Prop} {E : Value → Shared → Prop} {s : Shared} (h : wpAny (model D.prog D.w) A t Q NoE s) : wpAny (model D.prog D.w) A t Q E s := wpAny_mono h (fun _ _ z => z) fun _ _ z => z.elim
theorem go_ok {A : Around} {t : PySem.Expr} {it : It} {I : Addr} {oI : Obj} {rv : Value} {Q : Unit → Shared → Prop} {E : Value → Shared → Prop} (ho : okTarget t it = true) (hi : ItIn μ it oI) (hg : s.heap.get? I = some oI) (q : Q () s) : wpAny (model D.prog D.w) A (letOwnedTupleGo t (.ref I) rv) Q E s := by
  cases t with
  | Tuple es k p =>
    cases it with
    | list a b =>
      obtain ⟨a, d, _, hcl, hd⟩ := hi
      cases rv with
      | ref T => exact wpAny_letOwnedTupleGo_listiter ⟨oI, hg, hcl, hd⟩ q
      | _ => exact wpAny_pure q
    | _ => exact (nomatch ho)
  | List es p => exact (nomatch ho)
  | _ => exact wpAny_pure q
theorem for_turn {ne : NE} {t : PySem.Expr} {body : List Stmt} {it it' : It} {v : V} {l l₁ l₂ : LR} {H₁ H₂ : List O} {fl : Fl} {I : Addr} {oI : Obj} {F : Flow → Shared → Prop} {G : Shared → Prop} {E : Value → Shared → Prop} (e : nextV H it = some (some (v, it'))) (ho : okTarget t it' = true) (ha : AsgT D n (ne.withL l) t v H l₁ H₁) (hx : ExT D n (ne.withL l₁) body H₁ fl l₂ H₂)
    (okx : fx.Ok D) (room : Room n dp un) (hn : fx.cs.names = ne.names) (hl : LocsOk μ m l) (hc : CellsOk μ fx.cl ne.cells) (hin : ItIn μ it oI) (S : StD D fx μ H m ((I, oI) :: rest) s.heap)
    (q : ∀ f more h' tk' m' oI', RelF (μ ++ more) fl f → LocsOk (μ ++ more) m' l₂ → ItIn (μ ++ more) it' oI' → StD D fx (μ ++ more) H₂ m' ((I, oI') :: rest) h' → F f { s with heap := h', toks := tk' }) :
    wpAny (model D.prog D.w) (fx.A dp un) (pyNext (.ref I)) (fun r s₁ => match r with
      | none => G s₁
      | some v => wpAny (model D.prog D.w) (fx.A dp un) (letOwnedTupleGo t (.ref I) v) (fun _ s₁' => wpAny (model D.prog D.w) (fx.A dp un) (assign t fx.env v) (fun _ s₂ => wpAny (model D.prog D.w) (fx.A dp un) (execs body fx.env) F E s₂) E s₁') E s₁) E s := by
  refine next_item e hin S fun rv oI' h₄ tk₄ hr hi S₄ => ?_
  refine go_ok ho hi (rest_get (s := { s with heap := h₄, toks := tk₄ }) S₄).1 ?_
  refine toE (ha fx dp un _ m _ _ _ rv okx room hn hl hc S₄ hr fun more2 h2 tk2 m2 hl2 S2 => ?_)
  refine toE (hx fx dp un _ m2 _ _ _ okx room hn hl2 hc.ext S2 fun f more3 h3 tk3 m3 hf3 hl3 S3 => ?_)
  have hi3 := hi.ext (more := more2 ++ more3)
  rw [List.append_assoc] at hf3 hl3 S3
  exact q f _ h3 tk3 m3 oI' hf3 hl3 hi3 S3
inductive LoopI (D : Wd) (n : Nat) (ne : NE) (t : PySem.Expr) (body : List Stmt) (n0 : Nat) (fl : Fl) (l' : LR) (H' : List O) (fx : Fx) (μ : Mu) (rest : Ledger) (I : Addr) (s : Shared) (k : Nat) : Shared → Prop
  | mk {more : Mu} {H : List O} {it : It} {l : LR} {h : Heap} {tk : Nat} {m : Str → Option Value} {oI : Obj} : ForR D n ne t body n0 k it H l fl l' H' → LocsOk (μ ++ more) m l → ItIn (μ ++ more) it oI → StD D fx (μ ++ more) H m ((I, oI) :: rest) h → LoopI D n ne t body n0 fl l' H' fx μ rest I s k { s with heap := h, toks := tk }
theorem for_core {ne : NE} {t : PySem.Expr} {body : List Stmt} {n0 k : Nat} {it : It} {l l' : LR} {fl : Fl} {H' : List O} {I : Addr} {oI : Obj} {mo : Mu} {R : Result → Shared → Prop} (X : ForR D n ne t body n0 k it H l fl l' H') (hμ : μ.length = n0) (okx : fx.Ok D) (room : Room n dp un) (hn : fx.cs.names = ne.names) (hl : LocsOk (μ ++ mo) m l) (hc : CellsOk μ fx.cl ne.cells)
    (hin : ItIn (μ ++ mo) it oI) (S : StD D fx (μ ++ mo) H m ((I, oI) :: rest) s.heap) (P : PostF D fx H' fl l' μ rest s fun f s' => R (.ok f) s') : codeAny (model D.prog D.w) (fx.A dp un) (.forLoop t (.ref I) body [] fx.env) R s := by
  refine codeAny_forLoop_any (LoopI D n ne t body n0 fl l' H' fx μ rest I s) (fun k s' hI => ?_) k (.mk (h := s.heap) (tk := s.toks) X hl hin S)
  obtain ⟨X, hl, hin, S⟩ := hI
  cases X with
  | done e => exact next_end e rfl hin S fun h₄ tk₄ S₄ => wpAny_execs_nil (P _ _ h₄ tk₄ _ rfl hl S₄)
  | step e ho ha hx hf hT X' =>
    refine for_turn e ho ha hx okx room hn hl hc.ext hin S fun f more h' tk' m' oI' hf' hl' hi' S' => ?_
    rw [List.append_assoc] at hl' S' hi'
    obtain ⟨more4, S4, hl4, hi4⟩ := hT fx μ _ m' _ h' oI' hμ S' hl' hi'
    have fin : ∃ m, m < _ + 1 ∧ LoopI D n ne t body n0 fl l' H' fx μ rest I s m { s with heap := h', toks := tk' } := ⟨_, Nat.lt_succ_self _, .mk X' hl4 hi4 S4⟩
    rcases hf with rfl | rfl
    · cases (show f = .next from hf'); exact fin
    · cases (show f = .cont from hf'); exact fin
  | brk e ho ha hx =>
    refine for_turn e ho ha hx okx room hn hl hc.ext hin S fun f more h' tk' m' oI' hf' hl' hi' S' => ?_
    cases (show f = .brk from hf')
    rw [List.append_assoc] at hl' S'
    exact P .next _ h' tk' m' rfl hl' (rest_drop (s := { s with heap := h', toks := tk' }) S' fun _ _ _ e => e)
  | ret e ho ha hx =>
    refine for_turn e ho ha hx okx room hn hl hc.ext hin S fun f more h' tk' m' oI' hf' hl' hi' S' => ?_
    obtain ⟨rv, rfl, hrv⟩ := hf'
    rw [List.append_assoc] at hl' S' hrv
    exact P (.ret rv) _ h' tk' m' ⟨rv, rfl, hrv⟩ hl' (rest_drop (s := { s with heap := h', toks := tk' }) S' fun _ _ _ e => e)
theorem For_ok {ne : NE} {t ite : PySem.Expr} {body : List Stmt} {pos : Pos} {k : Nat} {it : It} {H H₁ : List O} {fl : Fl} {l' : LR} {H' : List O} (oi : okIter ite = true) (first : ItT D n ne ite H it H₁) (X : ForR D n ne t body H₁.length k it H₁ ne.locs fl l' H') : StT D n ne (.For t ite body [] pos) H fl l' H' := by
  intro fx dp un μ m rest s Q okx room hn hl hc S P
  refine wpAny_For (first fx fx.env dp un μ m rest s _ okx room (.ofFn okx hn hl hc) S fun I oI more0 h0 tk0 hin0 S0 => ?_) (folded_of oi _)
  have hl0 : LocsOk (μ ++ more0 ++ []) m ne.locs := by rw [List.append_nil]; exact hl.ext
  rw [← List.append_nil (μ ++ more0)] at hin0
  have S1 := S0
  rw [← List.append_nil (μ ++ more0)] at S1
  exact for_core (s := { s with heap := h0, toks := tk0 }) X S0.len okx room hn hl0 hc.ext hin0 S1 (PostF.next (s := s) P)
end
end Mine
end
section
open PySem PySem.W PyProof.Rows PySem.Calls PySem.Spec
namespace Mine
section
variable {D : Wd} {n : Nat} {T : Tabs} {kt : Kt} {o : Orc} {xo : XO} {r : Rec} {fx : Fx} {dp un : Nat} {μ : Mu} {H : List O} {m : Str → Option Value} {rest : Ledger} {s : Shared}
theorem all2_rev {α β : Type} {R : α → β → Prop} {l : List α} {k : List β} (x : All2 R l k) : All2 R l.reverse k.reverse := by
  induction x with
  | nil => exact .nil
  | cons h _ ih => rw [List.reverse_cons, List.reverse_cons]; exact ih.append (.one h)
noncomputable def StG (D : Wd) (n : Nat) (ne : NE) (st : Stmt) (σ : Sg) (p : (Fl × LR) × Sg) : Prop := σ.le p.2 ∧ (p.2.ok → StT D n ne st σ.H p.1.1 p.1.2 p.2.H)
noncomputable def ExG (D : Wd) (n : Nat) (ne : NE) (ss : List Stmt) (σ : Sg) (p : (Fl × LR) × Sg) : Prop := σ.le p.2 ∧ (p.2.ok → ExT D n ne ss σ.H p.1.1 p.1.2 p.2.H)
theorem whileE_post (ro : RecOk D n r) {ne : NE} {test : PySem.Expr} {body : List Stmt} {f : Nat} : ∀ {l : LR} {σ : Sg}, Post (whileE r ne test body f l σ) fun p => σ.le p.2 ∧ (p.2.ok → WhileR D n ne test body f σ.H l p.1.1 p.1.2 p.2.H) := by
  induction f with
  | zero => exact .none
  | succ f ih =>
    intro l σ
    refine .bnd fun b σ₁ h1 => ?_
    obtain ⟨le1, x1⟩ := ro.tr _ _ _ _ _ h1
    refine .sel (fun hb => .bnd fun q σ₂ h2 => ?_) fun hb => ?_
    · subst hb
      obtain ⟨fl1, l1⟩ := q
      obtain ⟨le2, x2⟩ := ro.exs _ _ _ _ _ _ h2
      refine .flow (fun hf p h3 => ?_) (fun hf => .pure ⟨le1.trans le2, fun ok => .brk (x1 (le2.ok ok)) ((show fl1 = .brk from hf) ▸ x2 ok)⟩) fun v hf => .pure ⟨le1.trans le2, fun ok => .ret (x1 (le2.ok ok)) ((show fl1 = .ret v from hf) ▸ x2 ok)⟩
      obtain ⟨le3, x3⟩ := ih _ h3
      exact ⟨le1.trans (le2.trans le3), fun ok => .step (x1 ((le2.trans le3).ok ok)) (x2 (le3.ok ok)) hf (x3 ok)⟩
    · subst hb
      exact .pure ⟨le1, fun ok => .done (x1 ok)⟩
theorem forE_post (ro : RecOk D n r) {ne : NE} {t : PySem.Expr} {body : List Stmt} {n0 f : Nat} : ∀ {it : It} {l : LR} {σ : Sg}, Post (forE r ne t body f it l σ) fun p => σ.le p.2 ∧ (p.2.ok → ForR D n ne t body n0 f it σ.H l p.1.1 p.1.2 p.2.H) := by
  induction f with
  | zero => exact .none
  | succ f ih =>
    intro it l σ
    refine .ob fun z hz => ?_
    cases z with
    | none => exact .pure ⟨.refl _, fun ok => .done hz⟩
    | some y =>
      refine .onT fun ho => .bnd fun l1 σ₁ h1 => .bnd fun q σ₂ h2 => ?_
      obtain ⟨fl1, l2⟩ := q
      obtain ⟨le1, x1⟩ := asgE_ok ro h1
      obtain ⟨le2, x2⟩ := ro.exs _ _ _ _ _ _ h2
      refine .flow (fun hf p h3 => ?_) (fun hf => .pure ⟨le1.trans le2, fun ok => .brk hz ho (x1 (le2.ok ok)) ((show fl1 = .brk from hf) ▸ x2 ok)⟩) fun v hf => .pure ⟨le1.trans le2, fun ok => .ret hz ho (x1 (le2.ok ok)) ((show fl1 = .ret v from hf) ▸ x2 ok)⟩
      obtain ⟨le3, x3⟩ := ih _ h3
      exact ⟨le1.trans (le2.trans le3), fun ok => .step hz ho (x1 ((le2.trans le3).ok ok)) (x2 (le3.ok ok)) hf .refl (x3 ok)⟩
theorem setAt_le {T : Tabs} {a v : V} {x : Str} {σ σ' : Sg} (hs : setAt T a x v σ = some σ') : σ.le σ' :=
  (show Post (setAt T a x v σ) fun σ' => σ.le σ' from .ob fun _ _ => .ob fun _ _ => .ob fun _ _ => .ob fun _ _ => .onT fun _ => .onT fun _ => .pure (Sg.le_withH _ _)) _ hs
theorem ev_T (ro : RecOk D n r) {ne : NE} {e : PySem.Expr} {σ σ₁ : Sg} {v : V} (h : r.ev ne e σ = some (v, σ₁)) : σ.le σ₁ ∧ (σ₁.ok → ∀ {fx : Fx} {dp un : Nat} {μ : Mu} {m : Str → Option Value} {rest : Ledger} {s : Shared} {Q : Value → Shared → Prop}, fx.Ok D → Room n dp un → fx.cs.names = ne.names → LocsOk μ m ne.locs → CellsOk μ fx.cl ne.cells → StD D fx μ σ.H m rest s.heap →
    PostG D fx σ₁.H (relV v) μ m rest s Q → wpAny (model D.prog D.w) (fx.A dp un) (eval e fx.env) Q NoE s) := by
  obtain ⟨le, x⟩ := ro.ev _ _ _ _ _ h
  exact ⟨le, fun ok {fx dp un μ m rest s Q} okx room hn hl hc S P => x ok fx fx.env dp un μ m rest s Q okx room (.ofFn okx hn hl hc) S P⟩
theorem asgName_post (ro : RecOk D n r) {ne : NE} {x : Str} {px pos : Pos} {value : PySem.Expr} {σ : Sg} (sw : ∀ fx : Fx, fx.cs.names = ne.names → swapsWith value (some (.Name x px)) pos.line fx.env = pure false) : Post (asgName r ne x value σ) (StG D n ne (.Assign [.Name x px] value pos) σ) := by
  refine .bnd fun v σ₁ h1 => .bnd fun l1 σ₂ h2 => .pure ?_
  obtain ⟨le1, x1⟩ := ev_T ro h1
  obtain ⟨le2, x2⟩ := storeN_post (D := D) _ h2
  refine ⟨le1.trans le2, fun ok fx dp un μ m rest s Q okx room hn hl hc S P => ?_⟩
  refine wpAny_Assign_Name (x1 (le2.ok ok) okx room hn hl hc S fun rv more h' tk' hr S' => ?_) (sw fx hn)
  exact x2 (s := { s with heap := h', toks := tk' }) okx hn hl.ext hc.ext S' hr fun more2 h2 tk2 m2 hl2 S2 => (PostF.next P) .next more2 h2 tk2 m2 rfl hl2 S2
theorem asgSub_post (ro : RecOk D n r) {ne : NE} {o i value : PySem.Expr} {px pos : Pos} {σ : Sg} (sw : ∀ env : Env, swapsWith value (some (.Subscript o i px)) pos.line env = pure false) : Post (asgSub r ne o i value σ) (StG D n ne (.Assign [.Subscript o i px] value pos) σ) := by
  refine .bnd fun v σ₁ h1 => .bnd fun ov σ₂ h2 => .bnd fun iv σ₃ h3 => .ob fun σ₄ hs => .pure ?_
  obtain ⟨le1, x1⟩ := ro.ev _ _ _ _ _ h1
  obtain ⟨le, x⟩ := two_ok ro h2 h3
  obtain ⟨le3, x3⟩ := setItemV_post (D := D) _ hs
  refine ⟨le1.trans (le.trans le3), fun ok fx dp un μ m rest s Q okx room hn hl hc S P => ?_⟩
  have eo : EnvOk fx fx.env ne μ m rest := .ofFn okx hn hl hc
  refine wpAny_Assign_Subscript (x1 ((le.trans le3).ok ok) fx fx.env dp un μ m rest s _ okx room eo S fun rv more h' tk' hr S' => ?_) (sw _)
  refine x (le3.ok ok) (Q := fun ra rb s₂ => wpAny (model D.prog D.w) (fx.A dp un) (setItem ra rb rv) (fun _ => Q .next) NoE s₂) okx room eo.ext S' fun ra rb more2 h2 tk2 ha hb S2 => ?_
  refine x3 (s := { s with heap := h2, toks := tk2 }) S2 ha hb hr.ext fun h3 tk3 S3 => ?_
  exact (PostF.next (more := more2) (h := h2) (tk := tk2) (PostF.next (more := more) (h := h') (tk := tk') P)).at tk3 rfl hl.ext.ext S3
theorem asgAttr_post (hT : TabsOk D T) (ro : RecOk D n r) {ne : NE} {o value : PySem.Expr} {a : Str} {px pos : Pos} {σ : Sg} (hcomp : isComp value = false) : Post (asgAttr T r ne o a value σ) (StG D n ne (.Assign [.Attribute o a px] value pos) σ) := by
  refine .bnd fun v σ₁ h1 => .bnd fun ov σ₂ h2 => .ob fun σ₃ hs => .pure ?_
  obtain ⟨le, x⟩ := two_ok ro h1 h2
  have le3 := setAt_le hs
  refine ⟨le.trans le3, fun ok fx dp un μ m rest s Q okx room hn hl hc S P => ?_⟩
  refine plainObj_wpAny_Assign_Attribute (x (le3.ok ok) (Q := fun ra rb s₂ => wpAny (model D.prog D.w) (fx.A dp un) (setAttr rb _ ra) (fun _ => Q .next) NoE s₂) okx room (.ofFn okx hn hl hc) S fun ra rb more h' tk' ha hb S' => ?_) (swaps_of hcomp _ _ _)
  exact setAt_ok (s := { s with heap := h', toks := tk' }) hT.cl hs okx S' hb ha fun _ more2 h2 tk2 _ S2 => (PostF.next P) .next more2 h2 tk2 m rfl hl.ext.ext S2
theorem asgTup_post (ro : RecOk D n r) {ne : NE} {es : List PySem.Expr} {k : Nat} {p pos : Pos} {value : PySem.Expr} {σ : Sg} (hcomp : isComp value = false) : Post (asgTup r ne es k p value σ) (StG D n ne (.Assign [.Tuple es k p] value pos) σ) := by
  refine .ob fun z hsw => ?_
  cases z with
  | some names =>
    refine .bnd fun v σ₁ h1 => .ob fun vs hvs => .beq fun hlen => .bnd fun l1 σ₂ h2 => .pure ?_
    obtain ⟨le1, x1⟩ := ev_T ro h1
    obtain ⟨le2, x2⟩ := storeMany_post (D := D) _ h2
    refine ⟨le1.trans le2, fun ok fx dp un μ m rest s Q okx room hn hl hc S P => ?_⟩
    refine Assign_Tuple_swapped (names := names) (x1 (le2.ok ok) okx room hn hl hc S fun rv more h' tk' hr S' => ?_) (by unfold swapsWithSole; exact swaps_of hcomp _ _ _) (swapK_ok hsw okx.hk hn)
    obtain ⟨a, its, rfl, ht, rel⟩ := tupAt_ok (s := { s with heap := h', toks := tk' }) hvs S' hr
    have hnl : names.length = its.toArray.size := hlen.symm.trans rel.length
    rw [hnl]
    refine unpackItems_tuple rfl ht fun h2 he2 => ?_
    obtain ⟨led, N, nd, al⟩ := S'.ex
    have S2 : StD D fx (μ ++ more) σ₁.H m rest h2 := ⟨S'.fr.extBut he2 (Nat.le_refl _), S'.ap, led, N.extBut he2 (Nat.le_refl _), nd, al⟩
    exact x2 (s := { s with heap := h2, toks := tk' }) okx hn hl.ext hc.ext S2 (all2_rev rel) fun more3 h3 tk3 m3 hl3 S3 => (PostF.next (more := more) (h := h') (tk := tk') P) .next more3 h3 tk3 m3 rfl hl3 S3
  | none =>
    refine .bnd fun v σ₁ h1 => .bnd fun l1 σ₂ h2 => .pure ?_
    obtain ⟨le1, x1⟩ := ev_T ro h1
    obtain ⟨le2, x2⟩ := asgE_ok ro h2
    refine ⟨le1.trans le2, fun ok fx dp un μ m rest s Q okx room hn hl hc S P => ?_⟩
    refine Assign_Tuple (x1 (le2.ok ok) okx room hn hl hc S fun rv more h' tk' hr S' => ?_) (by unfold swapsWithSole; exact swaps_of hcomp _ _ _) (swapK_ok hsw okx.hk hn)
    exact x2 ok fx dp un _ m rest { s with heap := h', toks := tk' } _ rv okx room hn hl.ext hc.ext S' hr fun more2 h2 tk2 m2 hl2 S2 => (PostF.next P) .next more2 h2 tk2 m2 rfl hl2 S2
theorem asgS_post {lo : LO} (hT : TabsOk D T) (hlo : LOrcOk D n lo) (ro : RecOk D n r) {ne : NE} {t value : PySem.Expr} {pos : Pos} {σ : Sg} : Post (asgS T lo r ne t value σ) (StG D n ne (.Assign [t] value pos) σ) := by
  cases t with
  | Name x px =>
    refine .sel (fun _ => .sel (fun hsw => .bnd fun d σ₁ h1 => .pure ?_) fun _ => .onT fun hc => asgName_post ro fun fx hn => swaps_cell (kind_cell hn hc) _) fun hcomp => asgName_post ro fun fx hn => swaps_of hcomp _ _ _
    obtain ⟨le, x⟩ := compX_ok hlo ro h1
    exact ⟨le, fun ok fx dp un μ m rest s Q okx room hn hl hc S P => (x ok).store okx room hn hl hc S hsw P⟩
  | Attribute o a px => exact .onF fun hcomp => asgAttr_post hT ro hcomp
  | Subscript o i px => exact .onF fun _ => asgSub_post ro fun env => swaps_sub _ _
  | Tuple es k p => exact .onF fun hcomp => asgTup_post ro hcomp
  | _ => exact .none
theorem noRef_next {v : V} {rv : Value} {Q : Flow → Shared → Prop} (hv : noRef v = true) (h : RelV μ v rv) (q : Q .next s) : (match (generalizing := false) rv with | .ref _ => False | _ => Q .next s) := by
  cases v with
  | ref => exact (nomatch hv)
  | val => exact (nomatch hv)
  | bi => exact (nomatch hv)
  | int => obtain ⟨t, rfl⟩ := h; exact q
  | sint => obtain ⟨t, rfl⟩ := h; exact q
  | str => obtain ⟨t, rfl⟩ := h; exact q
  | sstr => obtain ⟨t, rfl⟩ := h; exact q
  | _ => cases (show rv = _ from h); exact q
theorem if_post (ro : RecOk D n r) {ne : NE} {t : PySem.Expr} {b e : List Stmt} {pos : Pos} {σ : Sg} : Post (bnd (r.tr ne t σ) fun k σ => sel k (r.exs ne b σ) (r.exs ne e σ)) (StG D n ne (.If t b e pos) σ) := by
  refine .bnd fun k σ₁ h1 => ?_
  obtain ⟨le1, x1⟩ := ro.tr _ _ _ _ _ h1
  have go : ∀ {c : List Stmt}, (∀ {Q : Flow → Shared → Prop} {fx : Fx} {dp un : Nat} {s : Shared}, wpAny (model D.prog D.w) (fx.A dp un) (execs c fx.env) Q NoE s → (if k then wpAny (model D.prog D.w) (fx.A dp un) (execs b fx.env) Q NoE s else wpAny (model D.prog D.w) (fx.A dp un) (execs e fx.env) Q NoE s)) → Post (r.exs ne c σ₁) (StG D n ne (.If t b e pos) σ) := fun pick p h => by
    obtain ⟨le2, x2⟩ := ro.exs _ _ _ _ _ _ h
    refine ⟨le1.trans le2, fun ok fx dp un μ m rest s Q okx room hn hl hc S P => ?_⟩
    refine wpAny_If (x1 (le2.ok ok) fx fx.env dp un μ m rest s _ okx room (.ofFn okx hn hl hc) S fun c more h' tk' hcc S' => ?_)
    cases (show c = k from hcc)
    exact pick (x2 ok fx dp un _ m rest _ _ okx room hn hl.ext hc.ext S' (PostF.next P))
  exact .sel (fun hk => go fun h => by rw [hk]; exact h) fun hk => go fun h => by rw [hk]; exact h
theorem stE_post {lo : LO} (hT : TabsOk D T) (hlo : LOrcOk D n lo) (ro : RecOk D n r) {ne : NE} {st : Stmt} {σ : Sg} : Post (stE T lo r ne st σ) (StG D n ne st σ) := by
  cases st with
  | Assign ts value pos =>
    cases ts with
    | nil => exact .none
    | cons t ts =>
      cases ts with
      | nil => exact asgS_post hT hlo ro
      | cons => exact .none
  | Expr e pos =>
    refine .onF fun hcomp => .bnd fun v σ₁ h1 => .onT fun hnr => .pure ?_
    obtain ⟨le1, x1⟩ := ev_T ro h1
    refine ⟨le1, fun ok fx dp un μ m rest s Q okx room hn hl hc S P => ?_⟩
    refine wpAny_Expr (x1 ok okx room hn hl hc S fun rv more h' tk' hr S' => noRef_next hnr hr (P .next more h' tk' m rfl hl.ext S')) (by unfold interactive; show (fx.cs.kind == _ && _) = false; rw [okx.hk]; rfl) (swaps_of hcomp _ _ _)
  | If t b e pos => exact if_post ro
  | While t b e pos =>
    cases e with
    | cons => exact .none
    | nil => exact fun p h => ⟨(whileE_post ro _ h).1, fun ok => While_ok ((whileE_post ro _ h).2 ok)⟩
  | For t it b e pos =>
    cases e with
    | cons => exact .none
    | nil =>
      refine .onT fun oi => .bnd fun it σ₁ h1 p h => ?_
      obtain ⟨le1, x1⟩ := iterX_post hT ro _ h1
      obtain ⟨le2, x2⟩ := forE_post (D := D) ro _ h
      exact ⟨le1.trans le2, fun ok => For_ok oi (x1 (le2.ok ok)) (x2 ok)⟩
  | Return e pos =>
    cases e with
    | some e =>
      refine .bnd fun v σ₁ h1 => .pure ?_
      obtain ⟨le1, x1⟩ := ev_T ro h1
      exact ⟨le1, fun ok fx dp un μ m rest s Q okx room hn hl hc S P => wpAny_Return_some (x1 ok okx room hn hl hc S fun rv more h' tk' hr S' => P (.ret rv) more h' tk' m ⟨rv, rfl, hr⟩ hl.ext S')⟩
    | none => exact .pure ⟨.refl _, fun ok fx dp un μ m rest s Q okx room hn hl hc S P => wpAny_Return_none (PostF.here P ⟨_, rfl, rfl⟩ hl S)⟩
  | Break pos => exact .pure ⟨.refl _, fun ok fx dp un μ m rest s Q okx room hn hl hc S P => wpAny_Break (PostF.here P rfl hl S)⟩
  | Continue pos => exact .pure ⟨.refl _, fun ok fx dp un μ m rest s Q okx room hn hl hc S P => wpAny_Continue (PostF.here P rfl hl S)⟩
  | _ => exact .none
theorem stStep_ok {lo : LO} (hT : TabsOk D T) (hlo : LOrcOk D n lo) (hx : XOk D n xo) (ro : RecOk D n r) {ne : NE} {st : Stmt} {σ : Sg} : Post (stStep T lo xo r ne st σ) (StG D n ne st σ) := .optE (fun p h => .pure (hx _ _ _ _ _ _ h)) fun _ => stE_post hT hlo ro
theorem stsStep_ok {lo : LO} (hT : TabsOk D T) (hlo : LOrcOk D n lo) (hx : XOk D n xo) (ro : RecOk D n r) {ss : List Stmt} : ∀ {ne : NE} {σ : Sg}, Post (stsStep T lo xo r ne ss σ) (ExG D n ne ss σ) := by
  induction ss with
  | nil => exact .pure ⟨.refl _, fun ok fx dp un μ m rest s Q okx room hn hl hc S P => wpAny_execs_nil (PostF.here P rfl hl S)⟩
  | cons st ss ih =>
    intro ne σ
    refine .bnd fun q σ₁ h1 => ?_
    obtain ⟨le1, x1⟩ := stStep_ok hT hlo hx ro _ h1
    obtain ⟨fl, l1⟩ := q
    have stop : ((∀ (Q : Flow → Shared → Prop) (μ : Mu) (f : Flow) (s : Shared) (fx : Fx) (dp un : Nat), RelF μ fl f → Q f s → (match f with | .next => wpAny (model D.prog D.w) (fx.A dp un) (execs ss fx.env) Q NoE s | r => Q r s))) → Post (some ((fl, l1), σ₁)) (ExG D n ne (st :: ss) σ) := fun g => .pure ⟨le1, fun ok fx dp un μ m rest s Q okx room hn hl hc S P =>
      wpAny_execs_cons (x1 ok fx dp un μ m rest s _ okx room hn hl hc S fun f more h' tk' m' hf hl' S' => g Q _ f _ fx dp un hf (P f more h' tk' m' hf hl' S'))⟩
    cases fl with
    | next =>
      intro p h
      obtain ⟨le2, x2⟩ := ih _ h
      refine ⟨le1.trans le2, fun ok fx dp un μ m rest s Q okx room hn hl hc S P => ?_⟩
      refine wpAny_execs_cons (x1 (le2.ok ok) fx dp un μ m rest s _ okx room hn hl hc S fun f more h' tk' m' hf hl' S' => ?_)
      cases (show f = .next from hf)
      exact x2 ok fx dp un _ m' rest _ _ okx room hn hl' hc.ext S' (PostF.next P)
    | brk => exact stop fun Q μ f s fx dp un hf q => by cases (show f = .brk from hf); exact q
    | cont => exact stop fun Q μ f s fx dp un hf q => by cases (show f = .cont from hf); exact q
    | ret v => exact stop fun Q μ f s fx dp un hf q => by obtain ⟨rv, rfl, _⟩ := hf; exact q
structure Cfg where
  T : Tabs
  kt : Kt
  o : Orc
  xo : XO
  lo : LO
noncomputable def stepR (c : Cfg) (r : Rec) : Rec where
  ev := evStep c.T c.kt c.o c.lo r
  tr := trStep c.kt c.o r
  call := fun f vs σ => callAny c.T r f vs σ
  exs := stsStep c.T c.lo c.xo r
noncomputable def runR (c : Cfg) : Nat → Rec
  | 0 => ⟨fun _ _ _ => none, fun _ _ _ => none, fun _ _ _ => none, fun _ _ _ => none⟩
  | f + 1 => stepR c (runR c f)
structure CfgOk (D : Wd) (n : Nat) (c : Cfg) : Prop where
  T : TabsOk D c.T
  orc : ∀ k, OrcOk D (n + k) c.T.orc
  kt : KtOk D c.kt
  o : ∀ k, OrOk D (n + k) c.o
  xo : ∀ k, XOk D (n + k) c.xo
  lo : ∀ k, LOrcOk D (n + k) c.lo
theorem runR_ok {c : Cfg} (hc : CfgOk D n c) : ∀ f, RecOk D (n + f) (runR c f)
  | 0 => ⟨fun _ _ _ _ _ h => (by cases h), fun _ _ _ _ _ h => (by cases h), fun _ _ _ _ _ h => (by cases h), fun _ _ _ _ _ _ h => (by cases h)⟩
  | f + 1 => by
    have ih := runR_ok hc f
    have ev : ∀ ne e σ v σ', (runR c (f + 1)).ev ne e σ = some (v, σ') → σ.le σ' ∧ (σ'.ok → EvT D (n + f) ne e σ.H v σ'.H) := fun ne e σ v σ' h => evStep_ok hc.T hc.kt (hc.o f) (hc.lo f) ih h
    have tr : ∀ ne e σ v σ', (runR c (f + 1)).tr ne e σ = some (v, σ') → σ.le σ' ∧ (σ'.ok → TrT D (n + f) ne e σ.H v σ'.H) := fun ne e σ v σ' h => trStep_ok hc.kt (hc.o f) ih h
    have exs : ∀ ne ss σ fl l σ', (runR c (f + 1)).exs ne ss σ = some ((fl, l), σ') → σ.le σ' ∧ (σ'.ok → ExT D (n + f) ne ss σ.H fl l σ'.H) := fun ne ss σ fl l σ' h => stsStep_ok hc.T (hc.lo f) (hc.xo f) ih _ h
    have le : ∀ {dp un : Nat}, Room (n + (f + 1)) dp un → Room (n + f) dp un := fun h => h.le (Nat.le_succ _)
    exact ⟨fun ne e σ v σ' h => ⟨(ev ne e σ v σ' h).1, fun ok fx env dp un μ m rest s Q okx room eo S P => (ev ne e σ v σ' h).2 ok fx env dp un μ m rest s Q okx (le room) eo S P⟩,
      fun ne e σ v σ' h => ⟨(tr ne e σ v σ' h).1, fun ok fx env dp un μ m rest s Q okx room eo S P => (tr ne e σ v σ' h).2 ok fx env dp un μ m rest s Q okx (le room) eo S P⟩,
      fun f' vs σ v σ' h => callAny_ok hc.T (hc.orc (f + 1)) ih h,
      fun ne ss σ fl l σ' h => ⟨(exs ne ss σ fl l σ' h).1, fun ok fx dp un μ m rest s Q okx room hn hl hc S P => (exs ne ss σ fl l σ' h).2 ok fx dp un μ m rest s Q okx (le room) hn hl hc S P⟩⟩
end
end Mine
end
section
open PySem PySem.W PyProof.Rows PySem.Calls PySem.Spec
namespace Mine
noncomputable def renV (f : Nat → Nat) : V → V
  | .ref k => .ref (f k)
  | v => v
noncomputable def renO (f : Nat → Nat) : O → O
  | .list l => .list (l.map (renV f))
  | .slist l => .slist (l.map (renV f))
  | .tuple l => .tuple (l.map (renV f))
  | .inst C fs => .inst C (fs.map fun p => (p.1, renV f p.2))
  | .dictI es => .dictI (es.map fun p => (p.1, renV f p.2))
  | .dictS es => .dictS (es.map fun p => (p.1, renV f p.2))
  | .cell v => .cell (v.map (renV f))
  | .range a b => .range a b
noncomputable def MuTo (f : Nat → Nat) (μ₁ μ₂ : Mu) : Prop := ∀ j p, μ₁[j]? = some p → μ₂[f j]? = some p
noncomputable def MuBack (f : Nat → Nat) (μ₁ μ₂ : Mu) : Prop := ∀ j p, μ₂[f j]? = some p → μ₁[j]? = some p
theorem RelV.ren {f : Nat → Nat} {μ₁ μ₂ : Mu} (h : MuTo f μ₁ μ₂) {v : V} {r : Value} (x : RelV μ₁ v r) : RelV μ₂ (renV f v) r := by
  cases v with
  | ref k => obtain ⟨a, d, e, q⟩ := x; exact ⟨a, d, h _ _ e, q⟩
  | _ => exact x
theorem RelV.unren {f : Nat → Nat} {μ₁ μ₂ : Mu} (h : MuBack f μ₁ μ₂) {v : V} {r : Value} (x : RelV μ₂ (renV f v) r) : RelV μ₁ v r := by
  cases v with
  | ref k => obtain ⟨a, d, e, q⟩ := x; exact ⟨a, d, h _ _ e, q⟩
  | _ => exact x
theorem all2_map {α β γ : Type} {R : γ → β → Prop} {g : α → γ} {l : List α} {k : List β} : All2 R (l.map g) k ↔ All2 (fun a b => R (g a) b) l k := by
  induction l generalizing k with
  | nil => cases k with
    | nil => exact ⟨fun _ => .nil, fun _ => .nil⟩
    | cons => exact ⟨fun h => (nomatch h), fun h => (nomatch h)⟩
  | cons a l ih => cases k with
    | nil => exact ⟨fun h => (nomatch h), fun h => (nomatch h)⟩
    | cons => exact ⟨fun | .cons h r => .cons h (ih.mp r), fun | .cons h r => .cons h (ih.mpr r)⟩
theorem all2_mapL {α β γ : Type} {R : α → β → Prop} {R' : γ → β → Prop} {g : α → γ} (h : ∀ a b, R a b → R' (g a) b) {l : List α} {k : List β} (x : All2 R l k) : All2 R' (l.map g) k := all2_map.mpr (x.mono h)
theorem all2_unmapL {α β γ : Type} {R : α → β → Prop} {R' : γ → β → Prop} {g : α → γ} (h : ∀ a b, R' (g a) b → R a b) {l : List α} {k : List β} (x : All2 R' (l.map g) k) : All2 R l k := (all2_map.mp x).mono h
section
variable {prog : Program} {w : World} {f : Nat → Nat} {μ₁ μ₂ : Mu} {led led' : Ledger} {p : Addr × Addr}
theorem ObjR.ren {R : V → Value → Prop} {o : O} : ObjR prog w R led p (renO f o) = ObjR prog w (fun v r => R (renV f v) r) led p o := by
  have z : ∀ {α β : Type} {S : α → β → Prop} {g : α → α} {l : List α} {k : List β}, All2 S (l.map g) k = All2 (fun a b => S (g a) b) l k := propext all2_map
  cases o with
  | list vs => show (_ ∧ ∃ its n, _ ∧ All2 _ (vs.map _) its) = _; simp only [z]; rfl
  | slist vs => show (_ ∧ ∃ its n, _ ∧ All2 _ (vs.map _) its) = _; simp only [z]; rfl
  | tuple vs => show (_ ∧ ∃ its n, _ ∧ All2 _ (vs.map _) its) = _; simp only [z]; rfl
  | inst C fs => show (_ ∧ ∃ es n, _ ∧ _ ∧ All2 _ (fs.map _) es) = _; simp only [z]; rfl
  | dictI es => show (_ ∧ ∃ o kvs, _ ∧ _ ∧ _ ∧ All2 _ (es.map _) kvs) = _; simp only [z]; rfl
  | dictS es => show (_ ∧ ∃ o kvs, _ ∧ _ ∧ _ ∧ All2 _ (es.map _) kvs) = _; simp only [z]; rfl
  | cell v => cases v <;> rfl
  | range a b => rfl
theorem ObjIn.ren (h : MuTo f μ₁ μ₂) {o : O} (x : ObjIn prog w μ₁ led p o) (hs : ∀ q ∈ led, q.1 = p.1 ∨ q.1 = p.2 → q ∈ led') : ObjIn prog w μ₂ led' p (renO f o) := cast ObjR.ren.symm (ObjR.mono (fun _ _ => RelV.ren h) hs x)
theorem ObjIn.unren (h : MuBack f μ₁ μ₂) {o : O} (x : ObjIn prog w μ₂ led p (renO f o)) (hs : ∀ q ∈ led, q.1 = p.1 ∨ q.1 = p.2 → q ∈ led') : ObjIn prog w μ₁ led' p o := ObjR.mono (fun _ _ => RelV.unren h) hs (cast ObjR.ren x)
end

noncomputable def outN (sel : List Nat) (n : Nat) (j : Nat) : Nat := match sel[j]? with
  | some k => k
  | none => n + (j - sel.length)
noncomputable def updS : List Nat → List O → List O → List O
  | k :: ks, o :: os, H => updS ks os (H.set k o)
  | _, _, H => H
theorem updS_len : ∀ (ks : List Nat) (os H : List O), (updS ks os H).length = H.length
  | [], _, _ => rfl
  | _ :: _, [], _ => rfl
  | k :: ks, o :: os, H => by
    show (updS ks os (H.set k o)).length = _
    rw [updS_len ks os, List.length_set]
theorem updS_other : ∀ {ks : List Nat} {os H : List O} {i : Nat}, i ∉ ks → (updS ks os H)[i]? = H[i]?
  | [], _, _, _, _ => rfl
  | _ :: _, [], _, _, _ => rfl
  | k :: ks, o :: os, H, i, h => by
    show (updS ks os (H.set k o))[i]? = _
    rw [updS_other fun hm => h (List.mem_cons_of_mem _ hm), List.getElem?_set_ne fun e => h (by rw [e]; exact List.mem_cons_self)]
theorem updS_sel : ∀ {ks : List Nat} {os H : List O} {j k : Nat}, ks.Nodup → ks.length = os.length → ks[j]? = some k → k < H.length → (updS ks os H)[k]? = os[j]?
  | [], _, _, _, _, _, _, h, _ => by simp at h
  | _ :: _, [], _, _, _, _, h, _, _ => by simp at h
  | k0 :: ks, o :: os, H, j, k, nd, hl, hj, hk => by
    show (updS ks os (H.set k0 o))[k]? = _
    rw [List.nodup_cons] at nd
    cases j with
    | zero =>
      simp at hj
      subst hj
      rw [updS_other nd.1, List.getElem?_set_self hk]
      rfl
    | succ j =>
      simp at hj
      rw [updS_sel nd.2 (by simpa using hl) hj (by rw [List.length_set]; exact hk)]
      rfl
structure Part (sel : List Nat) (Hs H : List O) : Prop where
  len : Hs.length = sel.length
  nd : sel.Nodup
  at' : ∀ (j : Nat) (o : O), Hs[j]? = some o → ∃ k : Nat, sel[j]? = some k ∧ H[k]? = some (renO (outN sel H.length) o)
noncomputable def partMu (sel : List Nat) (μ : Mu) : Mu := sel.map fun k => μ.getD k (0, 0)
section
variable {D : Wd} {fx : Fx} {μ : Mu} {H Hs : List O} {m : Str → Option Value} {rest : Ledger} {h : Heap} {sel : List Nat}
theorem Part.lt (P : Part sel Hs H) {j k : Nat} (e : sel[j]? = some k) : k < H.length := by
  have hj : j < sel.length := by obtain ⟨hl, _⟩ := List.getElem?_eq_some_iff.mp e; exact hl
  have : j < Hs.length := by rw [P.len]; exact hj
  obtain ⟨k', e1, e2⟩ := P.at' j Hs[j] (List.getElem?_eq_getElem this)
  rw [e] at e1; cases e1
  obtain ⟨hl, _⟩ := List.getElem?_eq_some_iff.mp e2
  exact hl
theorem partMu_at {j k : Nat} (e : sel[j]? = some k) (hk : k < μ.length) : (partMu sel μ)[j]? = μ[k]? := by
  unfold partMu
  rw [List.getElem?_map, e]
  show some (μ.getD k (0, 0)) = _
  rw [List.getD_eq_getElem?_getD, List.getElem?_eq_getElem hk]
  rfl
theorem part_to (P : Part sel Hs H) (hl : μ.length = H.length) (more : Mu) : MuTo (outN sel H.length) (partMu sel μ ++ more) (μ ++ more) := by
  intro j p e
  have lm : (partMu sel μ).length = sel.length := by unfold partMu; rw [List.length_map]
  unfold outN
  cases hj : sel[j]? with
  | some k =>
    have hk := P.lt hj
    have hjl : j < sel.length := by obtain ⟨hl, _⟩ := List.getElem?_eq_some_iff.mp hj; exact hl
    rw [List.getElem?_append_left (by rw [lm]; exact hjl), partMu_at hj (by rw [hl]; exact hk)] at e
    exact mu_ext e
  | none =>
    have hjl : sel.length ≤ j := List.getElem?_eq_none_iff.mp hj
    rw [List.getElem?_append_right (by rw [lm]; exact hjl), lm] at e
    show (μ ++ more)[H.length + (j - sel.length)]? = _
    rw [List.getElem?_append_right (by rw [hl]; (first | decide | lia | omega)), hl]
    rw [show H.length + (j - sel.length) - H.length = j - sel.length by (first | decide | lia | omega)]
    exact e
theorem part_back (P : Part sel Hs H) (hl : μ.length = H.length) : MuBack (outN sel H.length) (partMu sel μ) μ := by
  intro j p e
  unfold outN at e
  cases hj : sel[j]? with
  | some k =>
    rw [hj] at e
    rw [partMu_at hj (by rw [hl]; exact P.lt hj)]
    exact e
  | none =>
    rw [hj] at e
    have : μ[H.length + (j - sel.length)]? = none := List.getElem?_eq_none (by rw [hl]; (first | decide | lia | omega))
    have e' : μ[H.length + (j - sel.length)]? = some p := e
    rw [this] at e'; cases e'
theorem StD.part (S : StD D fx μ H m rest h) (P : Part sel Hs H) : ∃ rs, StD D fx (partMu sel μ) Hs m rs h ∧ (∀ q ∈ rest, q ∈ rs) ∧
    ∀ (more : Mu) (Hs' G : List O) (h' : Heap) (m' : Str → Option Value), Hs'.length = sel.length → StD D fx (partMu sel μ ++ more) (Hs' ++ G) m' rs h' →
      StD D fx (μ ++ more) (updS sel (Hs'.map (renO (outN sel H.length))) H ++ G.map (renO (outN sel H.length))) m' rest h' := by
  have hl := S.len
  obtain ⟨led, N, nd, al⟩ := S.ex
  let mine : Addr × Obj → Bool := fun q => (partMu sel μ).any fun p => q.1 == p.1 || q.1 == p.2
  have mine_iff : ∀ q, mine q = true ↔ ∃ p ∈ partMu sel μ, q.1 = p.1 ∨ q.1 = p.2 := fun q => by
    show (partMu sel μ).any _ = true ↔ _
    rw [List.any_eq_true]
    constructor
    · rintro ⟨p, hp, e⟩
      exact ⟨p, hp, by simpa using e⟩
    · rintro ⟨p, hp, e⟩
      exact ⟨p, hp, by simpa using e⟩
  have hperm : ((led.filter mine) ++ (led.filter (fun q => !mine q) ++ rest)).Perm (led ++ rest) := by
    rw [← List.append_assoc]
    exact (List.filter_append_perm mine led).append_right rest
  have lm : (partMu sel μ).length = sel.length := by unfold partMu; rw [List.length_map]
  have muS : ∀ {j : Nat} {p : Addr × Addr}, (partMu sel μ)[j]? = some p → ∃ k, sel[j]? = some k ∧ μ[k]? = some p := fun {j p} e => by
    have hj : j < sel.length := by obtain ⟨hl, _⟩ := List.getElem?_eq_some_iff.mp e; rw [lm] at hl; exact hl
    have e1 : sel[j]? = some sel[j] := List.getElem?_eq_getElem hj
    rw [partMu_at e1 (by rw [hl]; exact P.lt e1)] at e
    exact ⟨_, e1, e⟩
  refine ⟨led.filter (fun q => !mine q) ++ rest, ⟨S.fr, ?_, led.filter mine, fun q hq => N q (hperm.mem_iff.mp hq), (hperm.map _).nodup_iff.mpr nd, ?_⟩, fun q hq => List.mem_append_right _ hq, fun more Hs' G h' m' hl' S' => ?_⟩
  · rw [List.pairwise_iff_getElem]
    intro i j hi hj hij
    obtain ⟨k, e1, e2⟩ := muS (List.getElem?_eq_getElem hi)
    obtain ⟨k', e1', e2'⟩ := muS (List.getElem?_eq_getElem hj)
    refine pair_ne S.ap e2 e2' fun e => ?_
    subst e
    obtain ⟨a1, a2⟩ := List.getElem?_eq_some_iff.mp e1
    obtain ⟨b1, b2⟩ := List.getElem?_eq_some_iff.mp e1'
    have := (List.pairwise_iff_getElem.mp P.nd) i j a1 b1 hij
    exact this (by rw [a2, b2])
  · refine all2_of (by rw [lm, P.len]) fun j p o hj ho => ?_
    obtain ⟨k, e1, e2⟩ := P.at' j o ho
    obtain ⟨k', e1', e2'⟩ := muS hj
    rw [e1] at e1'; cases e1'
    obtain ⟨p', e3, x⟩ := al.get' e2
    rw [e2'] at e3; cases e3
    refine x.unren (part_back P hl) fun q hq hq' => List.mem_filter.mpr ⟨hq, (mine_iff q).mpr ⟨p, List.mem_of_getElem? hj, hq'⟩⟩
  · obtain ⟨led', N', nd', al'⟩ := S'.ex
    have hperm' : ((led' ++ led.filter (fun q => !mine q)) ++ rest).Perm (led' ++ (led.filter (fun q => !mine q) ++ rest)) := by rw [List.append_assoc]
    have to := part_to P hl more
    have keep : ∀ {i : Nat} {p : Addr × Addr} {o : O}, i ∉ sel → μ[i]? = some p → ObjIn D.prog D.w μ led p o → ∀ q ∈ led, q.1 = p.1 ∨ q.1 = p.2 → q ∈ led.filter (fun q => !mine q) := fun {i p o} hi hp x q hq hq' => by
      refine List.mem_filter.mpr ⟨hq, ?_⟩
      cases hm : mine q with
      | false => rfl
      | true =>
        obtain ⟨p', hp', e⟩ := (mine_iff q).mp hm
        obtain ⟨j, hj⟩ := List.mem_iff_getElem?.mp hp'
        obtain ⟨k, e1, e2⟩ := muS hj
        have ne : i ≠ k := fun e => hi (e ▸ List.mem_of_getElem? e1)
        have ap := pair_ne S.ap hp e2 ne
        exfalso
        rcases hq' with a | a <;> rcases e with b | b <;> rw [a] at b
        · exact ap.1 b
        · exact ap.2.1 b
        · exact ap.2.2.1 b
        · exact ap.2.2.2 b
    refine ⟨S'.fr, ?_, led' ++ led.filter (fun q => !mine q), fun q hq => N' q (hperm'.mem_iff.mp hq), (hperm'.map _).nodup_iff.mpr nd', ?_⟩
    · rw [List.pairwise_append]
      have ap' := S'.ap
      rw [List.pairwise_append] at ap'
      refine ⟨S.ap, ap'.2.1, fun p hp q hq => ?_⟩
      obtain ⟨i, hi⟩ := List.mem_iff_getElem?.mp hp
      by_cases hs : i ∈ sel
      · obtain ⟨j, hj⟩ := List.mem_iff_getElem?.mp hs
        refine ap'.2.2 p (List.mem_of_getElem? (i := j) ?_) q hq
        rw [partMu_at hj (by rw [hl]; exact P.lt hj)]
        exact hi
      · obtain ⟨o, ho, x⟩ := al.get hi
        obtain ⟨j, hj⟩ := List.mem_iff_getElem?.mp hq
        have hj' : (partMu sel μ ++ more)[sel.length + j]? = some q := by
          rw [List.getElem?_append_right (by rw [lm]; (first | decide | lia | omega)), lm, show sel.length + j - sel.length = j by (first | decide | lia | omega)]
          exact hj
        obtain ⟨o', ho', x'⟩ := al'.get hj'
        obtain ⟨⟨o1, m1⟩, o2, m2⟩ := x.mems
        obtain ⟨⟨o3, m3⟩, o4, m4⟩ := x'.mems
        have k1 := keep (o := o) hs hi x _ m1 (.inl rfl)
        have k2 := keep (o := o) hs hi x _ m2 (.inr rfl)
        rw [List.map_append, List.nodup_append] at nd'
        have dis : ∀ {a b : Addr} {o o' : Obj}, (a, o) ∈ led.filter (fun q => !mine q) → (b, o') ∈ led' → a ≠ b := fun {a b o o'} ha hb e =>
          nd'.2.2 b (List.mem_map_of_mem (f := (·.1)) hb) a (List.mem_map_of_mem (f := (·.1)) (List.mem_append_left _ ha)) e.symm
        exact ⟨dis k1 m3, dis k1 m4, dis k2 m3, dis k2 m4⟩
    · refine all2_of (by rw [List.length_append, List.length_append, updS_len, List.length_map, hl]; have := al'.length; rw [List.length_append, List.length_append, lm, hl'] at this; (first | decide | lia | omega)) fun i p o hi ho => ?_
      by_cases hiH : i < H.length
      · rw [List.getElem?_append_left (by rw [hl]; exact hiH)] at hi
        rw [List.getElem?_append_left (by rw [updS_len]; exact hiH)] at ho
        by_cases hs : i ∈ sel
        · obtain ⟨j, hj⟩ := List.mem_iff_getElem?.mp hs
          have hjl : j < sel.length := by obtain ⟨hl, _⟩ := List.getElem?_eq_some_iff.mp hj; exact hl
          rw [updS_sel P.nd (by rw [List.length_map, hl']) hj hiH, List.getElem?_map] at ho
          obtain ⟨o1, ho1, rfl⟩ := Option.map_eq_some_iff.mp ho
          have hj' : (partMu sel μ ++ more)[j]? = some p := by
            rw [List.getElem?_append_left (by rw [lm]; exact hjl), partMu_at hj (by rw [hl]; exact hiH)]
            exact hi
          obtain ⟨o2, ho2, x⟩ := al'.get hj'
          rw [List.getElem?_append_left (by rw [hl']; exact hjl), ho1] at ho2
          cases ho2
          exact x.ren to fun q hq _ => List.mem_append_left _ hq
        · rw [updS_other hs] at ho
          obtain ⟨o2, ho2, x⟩ := al.get hi
          rw [ho] at ho2; cases ho2
          exact x.ext fun q hq hq' => List.mem_append_right _ (keep (o := o) hs hi x q hq hq')
      · have hge : H.length ≤ i := Nat.le_of_not_lt hiH
        rw [List.getElem?_append_right (by rw [hl]; exact hge), hl] at hi
        rw [List.getElem?_append_right (by rw [updS_len]; exact hge), updS_len, List.getElem?_map] at ho
        obtain ⟨o1, ho1, rfl⟩ := Option.map_eq_some_iff.mp ho
        have hj' : (partMu sel μ ++ more)[sel.length + (i - H.length)]? = some p := by
          rw [List.getElem?_append_right (by rw [lm]; (first | decide | lia | omega)), lm, show sel.length + (i - H.length) - sel.length = i - H.length by (first | decide | lia | omega)]
          exact hi
        obtain ⟨o2, ho2, x⟩ := al'.get hj'
        rw [List.getElem?_append_right (by rw [hl']; (first | decide | lia | omega)), hl', show sel.length + (i - H.length) - sel.length = i - H.length by (first | decide | lia | omega), ho1] at ho2
        cases ho2
        exact x.ren to fun q hq _ => List.mem_append_left _ hq
end
end Mine
end
section
open PySem PySem.W PyProof.Rows PySem.Calls PySem.Spec
namespace Mine
noncomputable def ClV (n : Nat) : V → Prop
  | .ref k => k < n
  | _ => True
noncomputable def ClO (n : Nat) : O → Prop
  | .list l => ∀ v ∈ l, ClV n v
  | .slist l => ∀ v ∈ l, ClV n v
  | .tuple l => ∀ v ∈ l, ClV n v
  | .inst _ fs => ∀ p ∈ fs, ClV n p.2
  | .dictI es => ∀ p ∈ es, ClV n p.2
  | .dictS es => ∀ p ∈ es, ClV n p.2
  | .cell (some v) => ClV n v
  | .cell none => True
  | .range _ _ => True
noncomputable def ClH (H : List O) : Prop := ∀ o ∈ H, ClO H.length o
theorem ClV.rel {μ more : Mu} {n : Nat} {v : V} {r : Value} (c : ClV n v) (hl : μ.length = n) (x : RelV (μ ++ more) v r) : RelV μ v r := by
  cases v with
  | ref k =>
    obtain ⟨a, d, e, q⟩ := x
    have hk : k < n := c
    rw [List.getElem?_append_left (by (first | decide | lia | omega))] at e
    exact ⟨a, d, e, q⟩
  | _ => exact x
theorem all2_back {α β : Type} {R R' : α → β → Prop} : ∀ {l : List α} {k : List β}, All2 R l k → (∀ a ∈ l, ∀ b, R a b → R' a b) → All2 R' l k
  | _, _, .nil, _ => .nil
  | _, _, .cons x t, h => .cons (h _ (.head _) _ x) (all2_back t fun a ha => h a (.tail _ ha))
section
variable {D : Wd} {n : Nat} {fx : Fx} {μ more : Mu} {H Hs G : List O} {m : Str → Option Value} {rest : Ledger} {h : Heap} {sel : List Nat}
theorem ClO.obj {prog : Program} {w : World} {led : Ledger} {p : Addr × Addr} {o : O} (c : ClO n o) (hl : μ.length = n) (x : ObjIn prog w (μ ++ more) led p o) : ObjIn prog w μ led p o := by
  cases o with
  | list vs => obtain ⟨e, its, k, h1, h2⟩ := x; exact ⟨e, its, k, h1, all2_back h2 fun a ha b y => (c a ha).rel hl y⟩
  | slist vs => obtain ⟨e, its, k, h1, h2⟩ := x; exact ⟨e, its, k, h1, all2_back h2 fun a ha b y => (c a ha).rel hl y⟩
  | tuple vs => obtain ⟨e, its, k, h1, h2⟩ := x; exact ⟨e, its, k, h1, all2_back h2 fun a ha b y => (c a ha).rel hl y⟩
  | inst C fs => obtain ⟨e, es, k, h1, h2, h3⟩ := x; exact ⟨e, es, k, h1, h2, all2_back h3 fun a ha b y => ⟨y.1, (c a ha).rel hl y.2⟩⟩
  | dictI es => obtain ⟨e, o, k, h1, h2, h3, h4⟩ := x; exact ⟨e, o, k, h1, h2, h3, all2_back h4 fun a ha b y => ⟨y.1, (c a ha).rel hl y.2⟩⟩
  | dictS es => obtain ⟨e, o, k, h1, h2, h3, h4⟩ := x; exact ⟨e, o, k, h1, h2, h3, all2_back h4 fun a ha b y => ⟨y.1, (c a ha).rel hl y.2⟩⟩
  | cell v =>
    obtain ⟨e, o, r, h1, h2, h3⟩ := x
    refine ⟨e, o, r, h1, h2, ?_⟩
    cases v with
    | none => cases r with
      | none => trivial
      | some r => exact h3.elim
    | some v => cases r with
      | none => exact h3.elim
      | some r => exact ClV.rel c hl h3
  | range a b => exact x
theorem StD.drop (S : StD D fx (μ ++ more) (H ++ G) m rest h) (hl : μ.length = H.length) (c : ClH H) : StD D fx μ H m rest h := by
  obtain ⟨led, N, nd, al⟩ := S.ex
  refine ⟨S.fr, (List.pairwise_append.mp S.ap).1, led, N, nd, all2_of hl fun i p o hi ho => ?_⟩
  obtain ⟨o', ho', x⟩ := al.get (mu_ext (more := more) hi)
  have : i < H.length := by obtain ⟨hl, _⟩ := List.getElem?_eq_some_iff.mp ho; exact hl
  rw [List.getElem?_append_left this, ho] at ho'
  cases ho'
  exact (c o (List.mem_of_getElem? ho)).obj hl x
theorem CodeT.drop {f : V} {vs : List V} {v : V} (c : CodeT D n f vs H v (Hs ++ G)) (hl : Hs.length = H.length) (hc : ClH Hs) (hv : ClV Hs.length v) : CodeT D n f vs H v Hs := by
  intro fx dp un μ m rest s R fr rs ok room S hf hvs P
  refine c fx dp un μ m rest s R fr rs ok room S hf hvs fun r more h' tk' hr S' => ?_
  have hm : μ.length = Hs.length := by rw [hl]; exact S.len
  have := P r [] h' tk' (by rw [List.append_nil]; exact hv.rel hm hr) (by rw [List.append_nil]; exact S'.drop hm hc)
  exact this
theorem TrT.drop {ne : NE} {e : PySem.Expr} {b : Bool} (c : TrT D n ne e H b (Hs ++ G)) (hl : Hs.length = H.length) (hc : ClH Hs) : TrT D n ne e H b Hs := by
  intro fx env dp un μ m rest s Q ok room eo S P
  refine c fx env dp un μ m rest s Q ok room eo S fun r more h' tk' hr S' => ?_
  have hm : μ.length = Hs.length := by rw [hl]; exact S.len
  exact P r [] h' tk' hr (by rw [List.append_nil]; exact S'.drop hm hc)
theorem updS_same (P : Part sel Hs H) : updS sel (Hs.map (renO (outN sel H.length))) H = H := by
  apply List.ext_getElem?
  intro i
  by_cases hs : i ∈ sel
  · obtain ⟨j, hj⟩ := List.mem_iff_getElem?.mp hs
    have hi := P.lt hj
    rw [updS_sel P.nd (by rw [List.length_map, P.len]) hj hi, List.getElem?_map]
    have hjl : j < Hs.length := by rw [P.len]; obtain ⟨hl, _⟩ := List.getElem?_eq_some_iff.mp hj; exact hl
    obtain ⟨k, e1, e2⟩ := P.at' j Hs[j] (List.getElem?_eq_getElem hjl)
    rw [hj] at e1; cases e1
    rw [List.getElem?_eq_getElem hjl, e2]; rfl
  · exact updS_other hs
theorem relVs_unren {f : Nat → Nat} {μ₁ μ₂ : Mu} (h : MuBack f μ₁ μ₂) {vs : List V} {rs : List Value} (x : RelVs μ₂ (vs.map (renV f)) rs) : RelVs μ₁ vs rs := all2_unmapL (g := renV f) (fun _ _ y => RelV.unren h y) x
theorem CodeT.frame {a : Addr} {vs : List V} {v : V} {Hs' : List O} (c : CodeT D n (.val a) vs Hs v (Hs' ++ G)) (P : Part sel Hs H) (hl' : Hs'.length = sel.length) :
    CodeT D n (.val a) (vs.map (renV (outN sel H.length))) H (renV (outN sel H.length) v) (updS sel (Hs'.map (renO (outN sel H.length))) H ++ G.map (renO (outN sel H.length))) := by
  intro fx dp un μ m rest s R fr rs ok room S hf hvs PG
  obtain ⟨rst, S', hsub, exit⟩ := S.part P
  have back := part_back P S.len
  refine c fx dp un _ m rst s R fr rs ok room S' hf (relVs_unren back hvs) fun r more h' tk' hr S'' => ?_
  exact PG r more h' tk' (RelV.ren (part_to P S.len more) hr) (exit more Hs' G h' m hl' S'')
theorem CodeT.frame0 {a : Addr} {vs : List V} {v : V} (c : CodeT D n (.val a) vs Hs v Hs) (P : Part sel Hs H) : CodeT D n (.val a) (vs.map (renV (outN sel H.length))) H (renV (outN sel H.length) v) H := by
  have := CodeT.frame (G := []) (by rw [List.append_nil]; exact c) P P.len
  rw [updS_same P, List.map_nil, List.append_nil] at this
  exact this
structure NePart (sel : List Nat) (n : Nat) (nes ne : NE) : Prop where
  names : nes.names = ne.names
  locs : ∀ x v, lkS nes.locs (code x) = some v → lkS ne.locs (code x) = some (renV (outN sel n) v)
  cells : ∀ x (k : Nat), lkS nes.cells (code x) = some k → ∃ k', sel[k]? = some k' ∧ lkS ne.cells (code x) = some k'
theorem EnvOk.part {env : Env} {nes ne : NE} {rs : Ledger} (eo : EnvOk fx env ne μ m rest) (np : NePart sel H.length nes ne) (P : Part sel Hs H) (hl : μ.length = H.length) (hsub : ∀ q ∈ rest, q ∈ rs) : EnvOk fx env nes (partMu sel μ) m rs where
  kind := eo.kind
  glob := eo.glob
  blt := eo.blt
  nam := by rw [np.names]; exact eo.nam
  loc := by
    have back := part_back P hl
    have lo : ∀ {m' : Str → Option Value}, LocsOk μ m' ne.locs → LocsOk (partMu sel μ) m' nes.locs := fun h x v e => by
      obtain ⟨r, h1, h2⟩ := h _ _ (np.locs _ _ e)
      exact ⟨r, h1, RelV.unren back h2⟩
    rcases eo.loc with ⟨a, b⟩ | ⟨oC, mC, a, b, c⟩
    · exact .inl ⟨a, lo b⟩
    · exact .inr ⟨oC, mC, hsub _ a, b, lo c⟩
  cel := by
    intro x k e
    obtain ⟨k', e1, e2⟩ := np.cells _ _ e
    obtain ⟨p, h1, h2⟩ := eo.cel _ _ e2
    exact ⟨p, by rw [partMu_at e1 (by rw [hl]; exact P.lt e1)]; exact h1, h2⟩
theorem TrT.frame0 {nes ne : NE} {e : PySem.Expr} {b : Bool} (c : TrT D n nes e Hs b Hs) (P : Part sel Hs H) (np : NePart sel H.length nes ne) : TrT D n ne e H b H := by
  intro fx env dp un μ m rest s Q ok room eo S PG
  obtain ⟨rst, S', hsub, exit⟩ := S.part P
  refine c fx env dp un _ m rst s Q ok room (eo.part np P S.len hsub) S' fun r more h' tk' hr S'' => ?_
  have S3 := exit more Hs [] h' m P.len (by rw [List.append_nil]; exact S'')
  rw [updS_same P, List.map_nil, List.append_nil] at S3
  exact PG r more h' tk' hr S3
theorem EvT.frame {nes ne : NE} {e : PySem.Expr} {v : V} {Hs' : List O} (c : EvT D n nes e Hs v (Hs' ++ G)) (P : Part sel Hs H) (np : NePart sel H.length nes ne) (hl' : Hs'.length = sel.length) :
    EvT D n ne e H (renV (outN sel H.length) v) (updS sel (Hs'.map (renO (outN sel H.length))) H ++ G.map (renO (outN sel H.length))) := by
  intro fx env dp un μ m rest s Q ok room eo S PG
  obtain ⟨rst, S', hsub, exit⟩ := S.part P
  refine c fx env dp un _ m rst s Q ok room (eo.part np P S.len hsub) S' fun r more h' tk' hr S'' => ?_
  exact PG r more h' tk' (RelV.ren (part_to P S.len more) hr) (exit more Hs' G h' m hl' S'')
end
end Mine
end
section
open PySem PySem.W PyProof.Rows PySem.Calls PySem.Spec
namespace Mine
noncomputable def oldN (n0 : Nat) (ks : List Nat) (len j : Nat) : Nat := match Nat.blt j n0 with
  | true => j
  | false => match ks[j - n0]? with
    | some k => k
    | none => len + j
theorem blt_iff {a b : Nat} : Nat.blt a b = true ↔ a < b := by
  unfold Nat.blt
  rw [Nat.ble_eq]; exact Iff.rfl
theorem blt_false {a b : Nat} (h : Nat.blt a b = false) : b ≤ a := by
  rcases Nat.lt_or_ge a b with q | q
  · rw [blt_iff.mpr q] at h; cases h
  · exact q
noncomputable def newMu (ks : List Nat) (old : Mu) : Mu := ks.map fun k => old.getD k (0, 0)
section
variable {D : Wd} {fx : Fx} {μ more : Mu} {H G : List O} {m : Str → Option Value} {rest : Ledger} {h : Heap} {n0 : Nat} {ks : List Nat}
theorem newMu_at {old : Mu} {i k : Nat} (e : ks[i]? = some k) (hk : k < old.length) : (newMu ks old)[i]? = old[k]? := by
  unfold newMu
  rw [List.getElem?_map, e]
  show some (old.getD k (0, 0)) = _
  rw [List.getD_eq_getElem?_getD, List.getElem?_eq_getElem hk]
  rfl
theorem new_back (hl : μ.length = n0) (hH : (μ ++ more).length = H.length) (hk : ∀ k ∈ ks, k < H.length) : MuBack (oldN n0 ks H.length) (μ ++ newMu ks (μ ++ more)) (μ ++ more) := by
  intro j p e
  unfold oldN at e
  cases q : Nat.blt j n0 with
  | true =>
    rw [q] at e
    have hj := blt_iff.mp q
    have e' : (μ ++ more)[j]? = some p := e
    rw [List.getElem?_append_left (by (first | decide | lia | omega))] at e' ⊢
    exact e'
  | false =>
    rw [q] at e
    have hj := blt_false q
    rw [List.getElem?_append_right (by (first | decide | lia | omega)), hl]
    cases c : ks[j - n0]? with
    | some k =>
      rw [c] at e
      rw [newMu_at c (by rw [hH]; exact hk k (List.mem_of_getElem? c))]
      exact e
    | none =>
      rw [c] at e
      have e' : (μ ++ more)[H.length + j]? = some p := e
      rw [List.getElem?_eq_none (by (first | decide | lia | omega))] at e'
      cases e'
theorem StD.pick (S : StD D fx (μ ++ more) H m rest h) (hl : μ.length = n0) (hn : n0 ≤ H.length) (hk : ∀ k ∈ ks, n0 ≤ k ∧ k < H.length) (nd : ks.Nodup) (hG : G.length = n0 + ks.length)
    (hg : ∀ (j : Nat) (o : O), G[j]? = some o → ∃ k : Nat, ((j < n0 ∧ k = j) ∨ (n0 ≤ j ∧ ks[j - n0]? = some k)) ∧ H[k]? = some (renO (oldN n0 ks H.length) o)) : StD D fx (μ ++ newMu ks (μ ++ more)) G m rest h := by
  have hH := S.len
  have back := new_back (ks := ks) hl hH fun k hm => (hk k hm).2
  obtain ⟨led, N, nd', al⟩ := S.ex
  have lm : (newMu ks (μ ++ more)).length = ks.length := by unfold newMu; rw [List.length_map]
  have at1 : ∀ {i : Nat} {p : Addr × Addr}, (μ ++ newMu ks (μ ++ more))[i]? = some p → ∃ k, (μ ++ more)[k]? = some p ∧ ((i < n0 ∧ k = i) ∨ (n0 ≤ i ∧ ks[i - n0]? = some k)) := fun {i p} e => by
    rcases Nat.lt_or_ge i n0 with q | q
    · rw [List.getElem?_append_left (by (first | decide | lia | omega))] at e
      exact ⟨i, by rw [List.getElem?_append_left (by (first | decide | lia | omega))]; exact e, .inl ⟨q, rfl⟩⟩
    · rw [List.getElem?_append_right (by (first | decide | lia | omega)), hl] at e
      have hi : i - n0 < ks.length := by obtain ⟨hl, _⟩ := List.getElem?_eq_some_iff.mp e; rw [lm] at hl; exact hl
      have e1 : ks[i - n0]? = some ks[i - n0] := List.getElem?_eq_getElem hi
      rw [newMu_at e1 (by rw [hH]; exact (hk _ (List.mem_of_getElem? e1)).2)] at e
      exact ⟨_, e, .inr ⟨q, e1⟩⟩
  refine ⟨S.fr, ?_, led, N, nd', ?_⟩
  · rw [List.pairwise_iff_getElem]
    intro i j hi hj hij
    obtain ⟨k, e1, c1⟩ := at1 (List.getElem?_eq_getElem hi)
    obtain ⟨k', e2, c2⟩ := at1 (List.getElem?_eq_getElem hj)
    refine pair_ne S.ap e1 e2 fun e => ?_
    subst e
    rcases c1 with ⟨a1, a2⟩ | ⟨a1, a2⟩ <;> rcases c2 with ⟨b1, b2⟩ | ⟨b1, b2⟩
    · (first | decide | lia | omega)
    · have := (hk _ (List.mem_of_getElem? b2)).1; (first | decide | lia | omega)
    · (first | decide | lia | omega)
    · obtain ⟨x1, x2⟩ := List.getElem?_eq_some_iff.mp a2
      obtain ⟨y1, y2⟩ := List.getElem?_eq_some_iff.mp b2
      have := (List.pairwise_iff_getElem.mp nd) (i - n0) (j - n0) x1 y1 (by (first | decide | lia | omega))
      exact this (by rw [x2, y2])
  · refine all2_of (by rw [List.length_append, lm, hG, hl]) fun i p o hi ho => ?_
    obtain ⟨k, e1, c1⟩ := at1 hi
    obtain ⟨o', ho', x⟩ := al.get e1
    obtain ⟨k', c2, b2⟩ := hg _ _ ho
    have ek : k = k' := by
      rcases c1 with ⟨a1, a2⟩ | ⟨a1, a2⟩ <;> rcases c2 with ⟨b1, b2⟩ | ⟨b1, b2⟩
      · (first | decide | lia | omega)
      · (first | decide | lia | omega)
      · (first | decide | lia | omega)
      · rw [a2] at b2; cases b2; rfl
    subst ek
    rw [b2] at ho'; cases ho'
    exact x.unren back fun q hq _ => hq
end
noncomputable def newN (n0 : Nat) (ks : List Nat) (k : Nat) : Option Nat := sel (Nat.blt k n0) (some k) (ob (ks.findIdx? fun j => Nat.beq j k) fun i => some (n0 + i))
theorem newN_post {n0 len k : Nat} {ks : List Nat} : Post (newN n0 ks k) fun j => oldN n0 ks len j = k := by
  refine .sel (fun q => .pure ?_) fun q => .ob fun i hi => .pure ?_
  · unfold oldN; rw [q]
  · unfold oldN
    rw [show Nat.blt (n0 + i) n0 = false from Bool.eq_false_iff.mpr fun z => absurd (blt_iff.mp z) (Nat.not_lt.mpr (Nat.le_add_right _ _)), Nat.add_sub_cancel_left]
    rw [List.findIdx?_eq_some_iff_getElem] at hi
    obtain ⟨hl, e, _⟩ := hi
    rw [List.getElem?_eq_getElem hl]
    exact Nat.eq_of_beq_eq_true e
theorem newN_ok {n0 len k j : Nat} {ks : List Nat} (h : newN n0 ks k = some j) : oldN n0 ks len j = k := newN_post _ h
noncomputable def NoRefV : V → Prop
  | .ref _ => False
  | _ => True
noncomputable def mvV (f : Nat → Option Nat) (v : V) : Option V := match v with
  | .ref k => ob (f k) fun j => some (.ref j)
  | v => some v
noncomputable def mvL (f : Nat → Option Nat) : List V → Option (List V)
  | [] => some []
  | v :: r => ob (mvV f v) fun v => ob (mvL f r) fun r => some (v :: r)
noncomputable def mvP {K : Type} (f : Nat → Option Nat) : List (K × V) → Option (List (K × V))
  | [] => some []
  | p :: r => ob (mvV f p.2) fun v => ob (mvP f r) fun r => some ((p.1, v) :: r)
noncomputable def mvO (f : Nat → Option Nat) (o : O) : Option (O × List Prop) := match o with
  | .list l => ob (mvL f l) fun l => some (.list l, [])
  | .slist l => some (.slist l, [∀ v ∈ l, NoRefV v])
  | .tuple l => ob (mvL f l) fun l => some (.tuple l, [])
  | .inst C fs => ob (mvP f fs) fun l => some (.inst C l, [])
  | .dictI es => ob (mvP f es) fun l => some (.dictI l, [])
  | .dictS es => ob (mvP f es) fun l => some (.dictS l, [])
  | .cell v => optE v (fun v => ob (mvV f v) fun v => some (.cell (some v), [])) (some (.cell none, []))
  | .range a b => some (.range a b, [])
section
variable {f : Nat → Option Nat} {g : Nat → Nat} (h : ∀ k j, f k = some j → g j = k)
include h
theorem mvV_post {v : V} : Post (mvV f v) fun w => renV g w = v := by
  cases v with
  | ref k => exact .ob fun j q => .pure (congrArg V.ref (h _ _ q))
  | _ => exact .pure rfl
theorem mvV_ok {v w : V} (e : mvV f v = some w) : renV g w = v := mvV_post h _ e
theorem mvL_ok {l : List V} : Post (mvL f l) fun l' => l'.map (renV g) = l := by
  induction l with
  | nil => exact .pure rfl
  | cons v r ih => exact .ob fun v' h1 => .ob fun r' h2 => .pure (by rw [List.map_cons, mvV_ok h h1, ih _ h2])
theorem mvP_ok {K : Type} {l : List (K × V)} : Post (mvP f l) fun l' => l'.map (fun p => (p.1, renV g p.2)) = l := by
  induction l with
  | nil => exact .pure rfl
  | cons p r ih => exact .ob fun v' h1 => .ob fun r' h2 => .pure (by rw [List.map_cons, mvV_ok h h1, ih _ h2])
omit h in
theorem noRef_ren {l : List V} (h : ∀ v ∈ l, NoRefV v) : l.map (renV g) = l := by
  refine (List.map_congr_left fun v hv => ?_).trans (List.map_id _)
  have := h v hv
  cases v with
  | ref => exact this.elim
  | _ => rfl
theorem mvO_post {o : O} : Post (mvO f o) fun p => (∀ c ∈ p.2, c) → renO g p.1 = o := by
  cases o with
  | list l => exact .ob fun l' q => .pure fun _ => congrArg O.list (mvL_ok h _ q)
  | slist l => exact .pure fun ok => congrArg O.slist (noRef_ren (ok _ (.head _)))
  | tuple l => exact .ob fun l' q => .pure fun _ => congrArg O.tuple (mvL_ok h _ q)
  | inst C fs => exact .ob fun l' q => .pure fun _ => congrArg (O.inst C) (mvP_ok h _ q)
  | dictI es => exact .ob fun l' q => .pure fun _ => congrArg O.dictI (mvP_ok h _ q)
  | dictS es => exact .ob fun l' q => .pure fun _ => congrArg O.dictS (mvP_ok h _ q)
  | cell v => cases v with
    | none => exact .pure fun _ => rfl
    | some v => exact .ob fun l' q => .pure fun _ => congrArg (fun v => O.cell (some v)) (mvV_ok h q)
  | range a b => exact .pure fun _ => rfl
end
end Mine
end
section
open PySem PySem.W PyProof.Rows PySem.Calls PySem.Spec
namespace Mine
structure Zp where
  z : Addr
  ti : Addr
  to : Addr
  i : Addr
  j : Addr
structure ZAp (q : Zp) (l : Addr) : Prop where
  a : q.ti ≠ q.z ∧ q.to ≠ q.z ∧ q.i ≠ q.z ∧ q.j ≠ q.z
  b : q.ti ≠ q.to ∧ q.ti ≠ q.i ∧ q.ti ≠ q.j
  c : q.to ≠ q.i ∧ q.to ≠ q.j ∧ q.i ≠ q.j
  d : l ≠ q.z ∧ l ≠ q.to ∧ l ≠ q.i ∧ l ≠ q.j
structure ZIn (h : Heap) (q : Zp) (x : Str) (l : Addr) (f0 : Value) (n m : Nat) (u v : Value) : Prop where
  z : IsZip h q.z q.ti q.to f0
  ti : IsPair h q.ti (.ref q.i) (.ref q.j)
  to : IsPair h q.to u v
  i : ∃ t, h.IsStrIter q.i "str_ascii_iterator" x t n
  j : h.IsListIter q.j l m
section
variable {prog : Program} {w : World} {A : Around} {E : Value → Shared → Prop} {s : Shared}
noncomputable abbrev NotZ (q : Zp) (c : Addr) : Prop := c ≠ q.z ∧ c ≠ q.to ∧ c ≠ q.i ∧ c ≠ q.j
theorem zs_item {q : Zp} {x : Str} {l : Addr} {its : Array Value} {n c : Nat} {y u v : Value} {Q : Option Value → Shared → Prop} (ap : ZAp q l) (Z : ZIn s.heap q x l .none n n u v) (hl : s.heap.IsList l its) (hx : x.cps[n]? = some c) (hy : its[n]? = some y)
    (hQ : ∀ h' tk t, ZIn h' q x l (rawInt s.heap.objs.size) (n + 1) (n + 1) (.str ⟨#[c]⟩ t) y → IsPair h' s.heap.objs.size (.str ⟨#[c]⟩ t) y → (∀ b o, NotZ q b → s.heap.get? b = some o → h'.get? b = some o) → Q (some (.ref s.heap.objs.size)) { s with heap := h', toks := tk }) :
    wpAny (model prog w) A (pyNext (.ref q.z)) Q E s := by
  obtain ⟨⟨a1, a2, a3, a4⟩, ⟨b1, b2, b3⟩, ⟨c1, c2, c3⟩, ⟨d1, d2, d3, d4⟩⟩ := ap
  obtain ⟨gz, gti, gto, ⟨t, gi⟩, gj⟩ := Z
  have tz : s.TypeIs (.ref q.z) "zip" := ⟨_, gz, rfl⟩
  unfold pyNext
  refine wpAny_bind (wpAny_attempt (wpAny_callSpecial?_slot (name := Str.ofString "__next__") tz PySem.F.slot_zip_next (wpAny_call_entry PySem.F.slot_zip_next tz PySem.F.entry_zip_next ?_ (PySem.F.args_zip_next_1 _))))
  show wpAny _ _ (field (.ref q.z) 2 >>= _) _ _ _
  refine wpAny_bind (wpAny_field gz rfl (x := .bool false) rfl ?_)
  show wpAny _ _ (field (.ref q.z) 3 >>= _) _ _ _
  refine wpAny_bind (wpAny_field gz rfl (x := .ref q.ti) rfl (wpAny_bind (wpAny_seqItems gti rfl ?_)))
  show wpAny _ _ (Builtin.SmallTypes.ownedTupleIsFree (.ref q.z) >>= _) _ _ _
  unfold Builtin.SmallTypes.ownedTupleIsFree
  refine wpAny_bind (wpAny_bind (wpAny_field gz rfl (x := .none) rfl (wpAny_pure ?_)))
  simp only [if_true]
  refine wpAny_bind (wpAny_rule (wpAny_bind (wpAny_field gz rfl (x := .ref q.to) rfl (wpAny_bind (wpAny_setField_rec gz (by simp) fun h₁ z₁ s₁ => ?_)))))
  replace z₁ : IsZip h₁ q.z q.ti q.to .ellipsis := z₁
  refine wpAny_bind ?_
  simp only [List.zipIdx_cons, List.zipIdx_nil, List.forIn_cons, List.forIn_nil]
  refine wpAny_bind (wpAny_bind (wpAny_onRaise ?_))
  show wpAny _ _ (Builtin.SmallTypes.nextOf (.ref q.i) >>= _) _ _ _
  refine wpAny_bind (wpAny_nextOf_ascii_item (gi.extBut s₁.extBut a3) hx fun h₂ i₂ s₂ => wpAny_pure ?_)
  have to₂ : IsPair h₂ q.to u v := s₂.extBut _ _ c1 (s₁.extBut _ _ a2 gto)
  refine wpAny_bind (wpAny_seqItems to₂ rfl (wpAny_bind (wpAny_updateSeq_pair to₂ fun h₃ to₃ s₃ => ?_)))
  replace to₃ : IsPair h₃ q.to (.str ⟨#[c]⟩ s.toks) v := to₃
  refine wpAny_bind (wpAny_letGo (wpAny_pure ?_))
  refine wpAny_bind (wpAny_bind (wpAny_onRaise ?_))
  show wpAny _ _ (Builtin.SmallTypes.nextOf (.ref q.j) >>= _) _ _ _
  have j₃ : h₃.IsListIter q.j l n := ((gj.extBut s₁.extBut a4).extBut s₂.extBut c3.symm).extBut s₃.extBut c2.symm
  have l₃ : h₃.IsList l its := ((hl.extBut s₁.extBut d1).extBut s₂.extBut d3).extBut s₃.extBut d2
  refine wpAny_bind (wpAny_nextOf_list_item j₃ l₃ hy fun h₄ j₄ s₄ => wpAny_pure ?_)
  have to₄ : IsPair h₄ q.to (.str ⟨#[c]⟩ s.toks) v := s₄.extBut _ _ c2 to₃
  refine wpAny_bind (wpAny_seqItems to₄ rfl (wpAny_bind (wpAny_updateSeq_pair to₄ fun h₅ to₅ s₅ => ?_)))
  replace to₅ : IsPair h₅ q.to (.str ⟨#[c]⟩ s.toks) y := to₅
  refine wpAny_bind (wpAny_letGo (wpAny_pure (wpAny_pure ?_)))
  refine wpAny_bind (wpAny_seqItems to₅ rfl (wpAny_bind (wpAny_newTuple ?_)))
  have size₅ : h₅.objs.size = s.heap.objs.size := by rw [s₅.1, s₄.1, s₃.1, s₂.1, s₁.1]
  have z₅ : IsZip h₅ q.z q.ti q.to .ellipsis := s₅.extBut _ _ a2.symm (s₄.extBut _ _ a4.symm (s₃.extBut _ _ a2.symm (s₂.extBut _ _ a3.symm z₁)))
  have keep₅ : ∀ b o, NotZ q b → s.heap.get? b = some o → h₅.get? b = some o := fun b o hb e => s₅.extBut _ _ hb.2.1 (s₄.extBut _ _ hb.2.2.2 (s₃.extBut _ _ hb.2.1 (s₂.extBut _ _ hb.2.2.1 (s₁.extBut _ _ hb.1 e))))
  have i₅ : h₅.IsStrIter q.i "str_ascii_iterator" x t (n + 1) := ((i₂.extBut s₃.extBut c1.symm).extBut s₄.extBut c3).extBut s₅.extBut c1.symm
  have j₅ : h₅.IsListIter q.j l (n + 1) := j₄.extBut s₅.extBut c2.symm
  have zlt : q.z < h₅.objs.size := Heap.lt_size z₅
  show wpAny _ _ (Builtin.SmallTypes.ownedTupleHandOut (.ref q.z) (.ref h₅.objs.size) >>= _) _ _ _
  unfold Builtin.SmallTypes.ownedTupleHandOut
  refine wpAny_bind ?_
  have z₆ : IsZip (h₅.push { cls := .type "tuple", data := .seq #[.str ⟨#[c]⟩ s.toks, y] }) q.z q.ti q.to .ellipsis := Heap.get?_push_of_some _ z₅
  refine wpAny_bind (wpAny_setField_rec z₆ (by simp) fun h₇ z₇ s₇ => ?_)
  replace z₇ : IsZip h₇ q.z q.ti q.to (rawInt h₅.objs.size) := z₇
  refine wpAny_setField_rec z₇ (by simp) fun h₈ z₈ s₈ => ?_
  replace z₈ : IsZip h₈ q.z q.ti q.to (rawInt h₅.objs.size) := z₈
  have up₈ : ∀ b o, b ≠ q.z → (h₅.push { cls := .type "tuple", data := .seq #[.str ⟨#[c]⟩ s.toks, y] }).get? b = some o → h₈.get? b = some o := fun b o hb e => s₈.extBut _ _ hb (s₇.extBut _ _ hb e)
  have up : ∀ b o, b ≠ q.z → h₅.get? b = some o → h₈.get? b = some o := fun b o hb e => up₈ b o hb (Heap.get?_push_of_some _ e)
  have p₈ : IsPair h₈ h₅.objs.size (.str ⟨#[c]⟩ s.toks) y := up₈ _ _ (Nat.ne_of_gt zlt) (Heap.get?_push_size _ rfl)
  rw [size₅] at z₈ p₈
  refine wpAny_pure ⟨_, rfl, wpAny_pure ?_⟩
  show Q (some (.ref h₅.objs.size)) _
  rw [size₅]
  exact hQ h₈ _ s.toks ⟨z₈, up _ _ a1 (keep₅ _ _ ⟨a1, b1, b2, b3⟩ gti), up _ _ a2 to₅, (let ⟨o, e, r⟩ := i₅; ⟨t, o, up _ _ a3 e, r⟩), j₅.at fun o e => up _ o a4 e⟩ p₈ fun b o hb e => up b o hb.1 (keep₅ b o hb e)
theorem zs_end {q : Zp} {x : Str} {l : Addr} {n : Nat} {u v : Value} {Q : Option Value → Shared → Prop} (hh : A.handled = none) (ap : ZAp q l) (Z : ZIn s.heap q x l .none n n u v) (hx : x.cps[n]? = none)
    (hQ : ∀ h' tk, (∀ b o, NotZ q b → s.heap.get? b = some o → h'.get? b = some o) → Q none { s with heap := h', toks := tk }) :
    wpAny (model prog w) A (pyNext (.ref q.z)) Q E s := by
  obtain ⟨⟨a1, a2, a3, a4⟩, ⟨b1, b2, b3⟩, ⟨c1, c2, c3⟩, ⟨d1, d2, d3, d4⟩⟩ := ap
  obtain ⟨gz, gti, gto, ⟨t, gi⟩, gj⟩ := Z
  have tz : s.TypeIs (.ref q.z) "zip" := ⟨_, gz, rfl⟩
  unfold pyNext
  refine wpAny_bind (wpAny_attempt (wpAny_callSpecial?_slot (name := Str.ofString "__next__") tz PySem.F.slot_zip_next (wpAny_call_entry PySem.F.slot_zip_next tz PySem.F.entry_zip_next ?_ (PySem.F.args_zip_next_1 _))))
  show wpAny _ _ (field (.ref q.z) 2 >>= _) _ _ _
  refine wpAny_bind (wpAny_field gz rfl (x := .bool false) rfl ?_)
  show wpAny _ _ (field (.ref q.z) 3 >>= _) _ _ _
  refine wpAny_bind (wpAny_field gz rfl (x := .ref q.ti) rfl (wpAny_bind (wpAny_seqItems gti rfl ?_)))
  show wpAny _ _ (Builtin.SmallTypes.ownedTupleIsFree (.ref q.z) >>= _) _ _ _
  unfold Builtin.SmallTypes.ownedTupleIsFree
  refine wpAny_bind (wpAny_bind (wpAny_field gz rfl (x := .none) rfl (wpAny_pure ?_)))
  simp only [if_true]
  refine wpAny_bind (wpAny_rule (wpAny_bind (wpAny_field gz rfl (x := .ref q.to) rfl (wpAny_bind (wpAny_setField_rec gz (by simp) fun h₁ z₁ s₁ => ?_)))))
  replace z₁ : IsZip h₁ q.z q.ti q.to .ellipsis := z₁
  refine wpAny_bind ?_
  simp only [List.zipIdx_cons, List.zipIdx_nil, List.forIn_cons, List.forIn_nil]
  refine wpAny_bind (wpAny_bind (wpAny_onRaise ?_))
  show wpAny _ _ (Builtin.SmallTypes.nextOf (.ref q.i) >>= _) _ _ _
  refine wpAny_bind (wpAny_nextOf_ascii_end hh (gi.extBut s₁.extBut a3) hx fun h₂ e s₂ he => ?_)
  obtain ⟨oe, ge, ce⟩ := he
  have z₂ : IsZip h₂ q.z q.ti q.to .ellipsis := s₂ _ _ a3.symm z₁
  have ez : e ≠ q.z := fun y => by subst y; rw [z₂] at ge; cases ge; simp at ce
  refine wpAny_setField_rec z₂ (by simp) fun h₃ _ s₃ => ?_
  refine wpAny_bind (wpAny_isInstance (T := "StopIteration") (b := true) ⟨oe, s₃.extBut _ _ ez ge, ce⟩ isSubtype_stop ?_)
  exact wpAny_pure (hQ _ s.toks fun b o hb y => s₃.extBut _ _ hb.1 (s₂ _ _ hb.2.2.1 (s₁.extBut _ _ hb.1 y)))
end
noncomputable abbrev zsA (h : Heap) (x : Str) (t : Tok) : Heap := h.push { cls := .type (strIterType x), data := .fields #[.str x t, .int 0 0] }
noncomputable abbrev zsB (h : Heap) (x : Str) (t : Tok) (l : Addr) : Heap := (zsA h x t).push { cls := .type "list_iterator", data := .fields #[.ref l, .int 0 0] }
noncomputable abbrev zsC (h : Heap) (x : Str) (t : Tok) (l : Addr) : Heap := (zsB h x t l).push { cls := .type "tuple", data := .seq #[.ref h.objs.size, .ref (zsA h x t).objs.size] }
noncomputable abbrev zsD (h : Heap) (x : Str) (t : Tok) (l : Addr) : Heap := (zsC h x t l).push { cls := .type "tuple", data := .seq #[.none, .none] }
noncomputable abbrev zsE (h : Heap) (x : Str) (t : Tok) (l : Addr) : Heap := (zsD h x t l).push { cls := .type "zip", data := .fields #[.none, .bool false, .bool false, .ref (zsB h x t l).objs.size, .ref (zsC h x t l).objs.size] }
theorem zs_class (a b : Value) : Builtin.SmallTypes.newClass "zip" ⟨[.type "zip", a, b], []⟩ = pure (.type "zip", [a, b]) := by
  unfold Builtin.SmallTypes.newClass
  simp only [isType, sub_zip, pure_bind, Bool.not_true, Bool.false_eq_true, if_false]
theorem zs_meets (x : Str) (t : Tok) (l : Addr) (its : Array Value) :
    Meets (Builtin.«zip.__new__» ⟨[.type "zip", .str x t, .ref l], []⟩) (fun _ R s => s.heap.IsList l its ∧ R (.ok (.ret (.ref (zsD s.heap x t l).objs.size))) { s with heap := zsE s.heap x t l }) :=
  .of_wp fun prog w A R s h => by
    obtain ⟨hp, g, d, tk, os⟩ := s; obtain ⟨hl, h⟩ := h
    show wpAny _ _ (Builtin.SmallTypes.newClass "zip" ⟨[.type "zip", .str x t, .ref l], []⟩ >>= _) _ _ _
    refine wpAny_bind (wpAny_of_eq (zs_class _ _) ?_)
    show wpAny _ _ (Builtin.SmallTypes.iterAll [.str x t, .ref l] >>= _) _ _ _
    refine wpAny_bind ?_
    unfold Builtin.SmallTypes.iterAll
    simp only [List.forIn_cons, List.forIn_nil]
    refine wpAny_bind (wpAny_bind (wpAny_bind (wpAny_holding (wpAny_pyIter_strU ?_))))
    refine wpAny_pure (wpAny_bind (wpAny_bind (wpAny_holding (wpAny_pyIter_list (Heap.IsList.push hl _) ?_))))
    refine wpAny_pure (wpAny_pure (wpAny_pure ?_))
    have two : 2 ≤ sizeLine := le_sizeLine (by decide)
    have five : 5 ≤ sizeLine := le_sizeLine (by decide)
    refine wpAny_bind (wpAny_newTuple (hsz := ?p1) ?_)
    case p1 => exact two
    refine wpAny_bind (wpAny_newTuple (hsz := ?p2) ?_)
    case p2 => exact two
    refine wpAny_bind ?_
    unfold Builtin.SmallTypes.newRecord
    refine wpAny_newObj_type (hd := ?p3) ?_
    case p3 => exact Nat.le_trans (show 5 ≤ sizeLine from five) (Nat.le_add_right _ 2)
    exact wpAny_pure ⟨_, rfl, h⟩
section
variable {prog : Program} {w : World} {A : Around} {E : Value → Shared → Prop} {s : Shared}
theorem zs_new {x : Str} {t : Tok} {l : Addr} {its : Array Value} {Q : Value → Shared → Prop} (hx : x.cps.all (· < 128) = true) (hl : s.heap.IsList l its)
    (h : ∀ h', ZIn h' ⟨s.heap.objs.size + 4, s.heap.objs.size + 2, s.heap.objs.size + 3, s.heap.objs.size, s.heap.objs.size + 1⟩ x l .none 0 0 .none .none → (∀ b o, s.heap.get? b = some o → h'.get? b = some o) → h'.objs.size = s.heap.objs.size + 5 → Q (.ref (s.heap.objs.size + 4)) { s with heap := h' }) :
    wpAny (model prog w) A (call (.type "zip") [.str x t, .ref l]) Q E s := by
  refine callType_new PySem.F.called_zip (by decide) (PySem.F.typeCall_zip_2 _ _) (PySem.F.newCall_zip_2 _ _) (fun obj => PySem.F.args_object_init_3 obj _ _) PySem.F.entry_zip_new (zs_meets x t l its) ⟨hl, ?_⟩
  have e1 : (zsA s.heap x t).objs.size = s.heap.objs.size + 1 := Heap.size_push ..
  have e2 : (zsB s.heap x t l).objs.size = s.heap.objs.size + 2 := by rw [Heap.size_push, e1]
  have e3 : (zsC s.heap x t l).objs.size = s.heap.objs.size + 3 := by rw [Heap.size_push, e2]
  have e4 : (zsD s.heap x t l).objs.size = s.heap.objs.size + 4 := by rw [Heap.size_push, e3]
  have e5 : (zsE s.heap x t l).objs.size = s.heap.objs.size + 5 := by rw [Heap.size_push, e4]
  have g5 : (zsE s.heap x t l).get? (zsD s.heap x t l).objs.size = some _ := Heap.get?_push_size _ rfl
  have g4 : (zsE s.heap x t l).get? (zsC s.heap x t l).objs.size = some _ := Heap.get?_push_of_some _ (Heap.get?_push_size _ rfl)
  have g3 : (zsE s.heap x t l).get? (zsB s.heap x t l).objs.size = some _ := Heap.get?_push_of_some _ (Heap.get?_push_of_some _ (Heap.get?_push_size _ rfl))
  have g2 : (zsE s.heap x t l).get? (zsA s.heap x t).objs.size = some _ := Heap.get?_push_of_some _ (Heap.get?_push_of_some _ (Heap.get?_push_of_some _ (Heap.get?_push_size _ rfl)))
  have g1 : (zsE s.heap x t l).get? s.heap.objs.size = some _ := Heap.get?_push_of_some _ (Heap.get?_push_of_some _ (Heap.get?_push_of_some _ (Heap.get?_push_of_some _ (Heap.get?_push_size _ rfl))))
  show _ ∧ _
  rw [e2, e3, e4] at g5
  rw [e1, e2] at g3
  rw [e3] at g4
  rw [e1] at g2
  have hty : strIterType x = "str_ascii_iterator" := by unfold strIterType; rw [if_pos hx]
  rw [e4]
  exact ⟨⟨_, g5, rfl⟩, h _ ⟨g5, g3, g4, ⟨t, _, g1, by rw [hty], rfl⟩, ⟨_, g2, rfl, rfl⟩⟩ (fun c o y => Heap.get?_push_of_some _ (Heap.get?_push_of_some _ (Heap.get?_push_of_some _ (Heap.get?_push_of_some _ (Heap.get?_push_of_some _ y))))) e5⟩
end
end Mine
end
section
open PySem PySem.W PyProof.Rows PySem.Calls PySem.Spec
namespace Mine
noncomputable def five (q : Zp) (a b c d e : Obj) : Ledger := [(q.z, a), (q.ti, b), (q.to, c), (q.i, d), (q.j, e)]
inductive ZipR (D : Wd) (n : Nat) (ne : NE) (t : PySem.Expr) (body : List Stmt) (x : Str) (k : Nat) : Nat → Nat → List O → LR → LR → List O → Prop
  | done {j i H loc} : x.cps[i]? = none → ZipR D n ne t body x k j i H loc loc H
  | step {j i ch l v H loc H₁ loc₁ H₂ loc₂ loc' H'} : x.cps[i]? = some ch → seqAt H k = some l → l[i]? = some v → AsgT D n (ne.withL loc) t (.ref H.length) (H ++ [.tuple [.str ⟨#[ch]⟩, v]]) loc₁ H₁ → ExT D n (ne.withL loc₁) body H₁ .next loc₂ H₂ →
      ZipR D n ne t body x k j (i + 1) H₂ loc₂ loc' H' → ZipR D n ne t body x k (j + 1) i H loc loc' H'
section
variable {D : Wd} {n : Nat} {fx : Fx} {dp un : Nat} {μ : Mu} {H : List O} {m : Str → Option Value} {rest : Ledger} {h h' : Heap}
theorem five_facts {q : Zp} {a b c d e : Obj} (S : StD D fx μ H m (five q a b c d e ++ rest) h) : (∀ p ∈ five q a b c d e, h.get? p.1 = some p.2 ∧ p.1 ≠ fx.L ∧ fx.h₀.get? p.1 = none) ∧ (q.z ≠ q.ti ∧ q.z ≠ q.to ∧ q.z ≠ q.i ∧ q.z ≠ q.j) ∧ (q.ti ≠ q.to ∧ q.ti ≠ q.i ∧ q.ti ≠ q.j) ∧ (q.to ≠ q.i ∧ q.to ≠ q.j) ∧ q.i ≠ q.j := by
  obtain ⟨led, N, nd, al⟩ := S.ex
  refine ⟨fun p hp => N p (List.mem_append_right _ (List.mem_append_left _ hp)), ?_⟩
  rw [List.map_append, List.nodup_append] at nd
  have nd2 := nd.2.1
  rw [List.map_append, List.nodup_append] at nd2
  have nd3 : [q.z, q.ti, q.to, q.i, q.j].Nodup := nd2.1
  simp at nd3
  obtain ⟨⟨a1, a2, a3, a4⟩, ⟨b1, b2, b3⟩, ⟨c1, c2⟩, d1⟩ := nd3
  exact ⟨⟨a1, a2, a3, a4⟩, ⟨b1, b2, b3⟩, ⟨c1, c2⟩, d1⟩
theorem five_apart {q : Zp} {a b c d e : Obj} {led : Ledger} (nd : ((led ++ (five q a b c d e ++ rest)).map (·.1)).Nodup) : ∀ p ∈ led ++ rest, p.1 ≠ q.z ∧ p.1 ≠ q.ti ∧ p.1 ≠ q.to ∧ p.1 ≠ q.i ∧ p.1 ≠ q.j := by
  intro p hp
  have key : ∀ y ∈ five q a b c d e, p.1 ≠ y.1 := fun y hy he => by
    rw [List.map_append, List.nodup_append] at nd
    rcases List.mem_append.mp hp with hp | hp
    · exact nd.2.2 p.1 (List.mem_map_of_mem (f := (·.1)) hp) y.1 (List.mem_map_of_mem (f := (·.1)) (List.mem_append_left _ hy)) he
    · have nd2 := nd.2.1
      rw [List.map_append, List.nodup_append] at nd2
      exact nd2.2.2 y.1 (List.mem_map_of_mem (f := (·.1)) hy) p.1 (List.mem_map_of_mem (f := (·.1)) hp) he.symm
  exact ⟨key (q.z, a) (.head _), key (q.ti, b) (.tail _ (.head _)), key (q.to, c) (.tail _ (.tail _ (.head _))), key (q.i, d) (.tail _ (.tail _ (.tail _ (.head _)))), key (q.j, e) (.tail _ (.tail _ (.tail _ (.tail _ (.head _)))))⟩
theorem five_news {q : Zp} {a b c d e a' b' c' d' e' : Obj} {led : Ledger} (F : Fr fx.h₀ fx.L h m) (N : News fx.h₀ fx.L h (led ++ (five q a b c d e ++ rest))) (nd : ((led ++ (five q a b c d e ++ rest)).map (·.1)).Nodup) (keep : ∀ x o, NotZ q x → h.get? x = some o → h'.get? x = some o)
    (ga : h'.get? q.z = some a') (gb : h'.get? q.ti = some b') (gc : h'.get? q.to = some c') (gd : h'.get? q.i = some d') (ge : h'.get? q.j = some e') :
    Fr fx.h₀ fx.L h' m ∧ News fx.h₀ fx.L h' (led ++ (five q a' b' c' d' e' ++ rest)) ∧ ((led ++ (five q a' b' c' d' e' ++ rest)).map (·.1)).Nodup := by
  have F5 : ∀ p ∈ five q a b c d e, h.get? p.1 = some p.2 ∧ p.1 ≠ fx.L ∧ fx.h₀.get? p.1 = none := fun p hp => N p (List.mem_append_right _ (List.mem_append_left _ hp))
  have ap := five_apart nd
  have fz := F5 (q.z, a) (.head _)
  have ft := F5 (q.ti, b) (.tail _ (.head _))
  have fo := F5 (q.to, c) (.tail _ (.tail _ (.head _)))
  have fi := F5 (q.i, d) (.tail _ (.tail _ (.tail _ (.head _))))
  have fj := F5 (q.j, e) (.tail _ (.tail _ (.tail _ (.tail _ (.head _)))))
  refine ⟨⟨F.ns.at' fun o z => keep _ o ⟨fz.2.1.symm, fo.2.1.symm, fi.2.1.symm, fj.2.1.symm⟩ z, fun x o z => keep x o ⟨(fun y => by rw [y, fz.2.2] at z; cases z), (fun y => by rw [y, fo.2.2] at z; cases z), (fun y => by rw [y, fi.2.2] at z; cases z), (fun y => by rw [y, fj.2.2] at z; cases z)⟩ (F.keep x o z), F.above⟩, fun p hp => ?_, ?_⟩
  · rcases List.mem_append.mp hp with hp | hp
    · obtain ⟨x1, x2, x3, x4, x5⟩ := ap p (List.mem_append_left _ hp)
      obtain ⟨y1, y2, y3⟩ := N p (List.mem_append_left _ hp)
      exact ⟨keep _ _ ⟨x1, x3, x4, x5⟩ y1, y2, y3⟩
    · rcases List.mem_append.mp hp with hp | hp
      · simp only [five, List.mem_cons, List.not_mem_nil, or_false] at hp
        rcases hp with rfl | rfl | rfl | rfl | rfl
        · exact ⟨ga, fz.2⟩
        · exact ⟨gb, ft.2⟩
        · exact ⟨gc, fo.2⟩
        · exact ⟨gd, fi.2⟩
        · exact ⟨ge, fj.2⟩
      · obtain ⟨x1, x2, x3, x4, x5⟩ := ap p (List.mem_append_right _ hp)
        obtain ⟨y1, y2, y3⟩ := N p (List.mem_append_right _ (List.mem_append_right _ hp))
        exact ⟨keep _ _ ⟨x1, x3, x4, x5⟩ y1, y2, y3⟩
  · have : (led ++ (five q a' b' c' d' e' ++ rest)).map (·.1) = (led ++ (five q a b c d e ++ rest)).map (·.1) := by
      rw [List.map_append, List.map_append, List.map_append, List.map_append]; rfl
    rw [this]; exact nd
theorem five_drop {q : Zp} {a b c d e : Obj} (S : StD D fx μ H m (five q a b c d e ++ rest) h) (keep : ∀ x o, NotZ q x → h.get? x = some o → h'.get? x = some o) : StD D fx μ H m rest h' := by
  obtain ⟨F5, _⟩ := five_facts S
  obtain ⟨led, N, nd, al⟩ := S.ex
  have ap := five_apart nd
  have fz := F5 (q.z, a) (.head _)
  have fo := F5 (q.to, c) (.tail _ (.tail _ (.head _)))
  have fi := F5 (q.i, d) (.tail _ (.tail _ (.tail _ (.head _))))
  have fj := F5 (q.j, e) (.tail _ (.tail _ (.tail _ (.tail _ (.head _)))))
  refine ⟨⟨S.fr.ns.at' fun o z => keep _ o ⟨fz.2.1.symm, fo.2.1.symm, fi.2.1.symm, fj.2.1.symm⟩ z, fun x o z => keep x o ⟨(fun y => by rw [y, fz.2.2] at z; cases z), (fun y => by rw [y, fo.2.2] at z; cases z), (fun y => by rw [y, fi.2.2] at z; cases z), (fun y => by rw [y, fj.2.2] at z; cases z)⟩ (S.fr.keep x o z), S.fr.above⟩, S.ap, led, fun p hp => ?_, ?_, al⟩
  · obtain ⟨x1, x2, x3, x4, x5⟩ := ap p hp
    have hp' : p ∈ led ++ (five q a b c d e ++ rest) := (List.mem_append.mp hp).elim (fun z => List.mem_append_left _ z) fun z => List.mem_append_right _ (List.mem_append_right _ z)
    obtain ⟨y1, y2, y3⟩ := N p hp'
    exact ⟨keep _ _ ⟨x1, x3, x4, x5⟩ y1, y2, y3⟩
  · rw [List.map_append, List.nodup_append] at nd ⊢
    refine ⟨nd.1, ?_, fun x hx y hy => nd.2.2 x hx y ?_⟩
    · have := nd.2.1
      rw [List.map_append, List.nodup_append] at this
      exact this.2.1
    · rw [List.map_append]; exact List.mem_append_right _ hy
noncomputable abbrev zob (q : Zp) (f0 : Value) : Obj := { cls := .type "zip", dict := none, data := .fields #[f0, .bool false, .bool false, .ref q.ti, .ref q.to], slots := #[] }
noncomputable abbrev pob (a b : Value) : Obj := { cls := .type "tuple", data := .seq #[a, b] }
structure ZSh (x : Str) (l : Addr) (i : Nat) (oi oj : Obj) : Prop where
  fst : ∃ t, oi.cls = .type "str_ascii_iterator" ∧ oi.data = .fields #[.str x t, .int i 0]
  snd : oj.cls = .type "list_iterator" ∧ oj.data = .fields #[.ref l, .int i 0]
theorem five_zin {q : Zp} {x : Str} {l : Addr} {i : Nat} {u v f0 : Value} {oi oj : Obj} (S : StD D fx μ H m (five q (zob q f0) (pob (.ref q.i) (.ref q.j)) (pob u v) oi oj ++ rest) h) (sh : ZSh x l i oi oj) : ZIn h q x l f0 i i u v := by
  obtain ⟨F5, _⟩ := five_facts S
  obtain ⟨t, a1, a2⟩ := sh.fst
  exact ⟨(F5 _ (.head _)).1, (F5 _ (.tail _ (.head _))).1, (F5 _ (.tail _ (.tail _ (.head _)))).1, ⟨t, oi, (F5 (q.i, oi) (.tail _ (.tail _ (.tail _ (.head _))))).1, a1, a2⟩, ⟨oj, (F5 (q.j, oj) (.tail _ (.tail _ (.tail _ (.tail _ (.head _)))))).1, sh.snd.1, sh.snd.2⟩⟩
theorem zin_sh {q : Zp} {x : Str} {l : Addr} {i : Nat} {u v f0 : Value} (Z : ZIn h q x l f0 i i u v) : ∃ oi oj, h.get? q.i = some oi ∧ h.get? q.j = some oj ∧ ZSh x l i oi oj := by
  obtain ⟨t, oi, a1, a2, a3⟩ := Z.i
  obtain ⟨oj, b1, b2, b3⟩ := Z.j
  exact ⟨oi, oj, a1, b1, ⟨t, a2, a3⟩, b2, b3⟩
theorem five_ap {q : Zp} {a b c d e : Obj} {k : Nat} {ad dd : Addr} (S : StD D fx μ H m (five q a b c d e ++ rest) h) (hk : μ[k]? = some (ad, dd)) : ZAp q ad := by
  obtain ⟨_, ⟨a1, a2, a3, a4⟩, ⟨b1, b2, b3⟩, ⟨c1, c2⟩, d1⟩ := five_facts S
  obtain ⟨led, N, nd, al⟩ := S.ex
  obtain ⟨o, ho, x⟩ := al.get hk
  obtain ⟨⟨ob, hm⟩, _⟩ := x.mems
  obtain ⟨e1, e2, e3, e4, e5⟩ := five_apart nd _ (List.mem_append_left _ hm)
  exact ⟨⟨a1.symm, a2.symm, a3.symm, a4.symm⟩, ⟨b1, b2, b3⟩, ⟨c1, c2, d1⟩, ⟨e1, e3, e4, e5⟩⟩
theorem five_new {n0 : Nat} {a b c d e : Obj} (S : StD D fx μ H m rest h) (hs : h.objs.size = n0) (keep : ∀ x o, h.get? x = some o → h'.get? x = some o) (ga : h'.get? (n0 + 4) = some a) (gb : h'.get? (n0 + 2) = some b) (gc : h'.get? (n0 + 3) = some c) (gd : h'.get? n0 = some d) (ge : h'.get? (n0 + 1) = some e) :
    StD D fx μ H m (five ⟨n0 + 4, n0 + 2, n0 + 3, n0, n0 + 1⟩ a b c d e ++ rest) h' := by
  obtain ⟨led, N, nd, al⟩ := S.ex
  have hL : fx.L < n0 := by rw [← hs]; exact S.fr.ns.lt
  have hlt : ∀ p ∈ led ++ rest, p.1 < n0 := fun p hp => by rw [← hs]; exact Heap.lt_size (N p hp).1
  have h0 : ∀ j, n0 ≤ j → fx.h₀.get? j = none := fun j hj => by
    cases z : fx.h₀.get? j with
    | none => rfl
    | some o => exact absurd (Nat.lt_of_lt_of_le (Heap.lt_size z) (Nat.le_trans S.fr.above (Nat.le_of_lt hL))) (Nat.not_lt.mpr hj)
  have new : ∀ {j : Nat} {o : Obj}, n0 ≤ j → h'.get? j = some o → h'.get? j = some o ∧ j ≠ fx.L ∧ fx.h₀.get? j = none := fun hj g => ⟨g, (fun z => absurd (z ▸ hL) (Nat.not_lt.mpr hj)), h0 _ hj⟩
  refine ⟨S.fr.keeps keep, S.ap, led, fun p hp => ?_, ?_, al⟩
  · rcases List.mem_append.mp hp with hp | hp
    · obtain ⟨y1, y2, y3⟩ := N p (List.mem_append_left _ hp)
      exact ⟨keep _ _ y1, y2, y3⟩
    · rcases List.mem_append.mp hp with hp | hp
      · simp only [five, List.mem_cons, List.not_mem_nil, or_false] at hp
        rcases hp with rfl | rfl | rfl | rfl | rfl
        · exact new (by (first | decide | lia | omega)) ga
        · exact new (by (first | decide | lia | omega)) gb
        · exact new (by (first | decide | lia | omega)) gc
        · exact new (Nat.le_refl _) gd
        · exact new (by (first | decide | lia | omega)) ge
      · obtain ⟨y1, y2, y3⟩ := N p (List.mem_append_right _ hp)
        exact ⟨keep _ _ y1, y2, y3⟩
  · have pm : (led ++ (five ⟨n0 + 4, n0 + 2, n0 + 3, n0, n0 + 1⟩ a b c d e ++ rest)).Perm (five ⟨n0 + 4, n0 + 2, n0 + 3, n0, n0 + 1⟩ a b c d e ++ (led ++ rest)) := by
      rw [← List.append_assoc, ← List.append_assoc]
      exact List.perm_append_comm.append_right rest
    refine ((pm.map _).nodup_iff).mpr ?_
    rw [List.map_append, List.nodup_append]
    refine ⟨?_, nd, fun x hx y hy e => ?_⟩
    · show [n0 + 4, n0 + 2, n0 + 3, n0, n0 + 1].Nodup
      simp
    · obtain ⟨p, hp, rfl⟩ := List.mem_map.mp hy
      have h1 := hlt p hp
      have h2 : n0 ≤ x := by
        have hx' : x ∈ [n0 + 4, n0 + 2, n0 + 3, n0, n0 + 1] := hx
        simp only [List.mem_cons, List.not_mem_nil, or_false] at hx'
        rcases hx' with rfl | rfl | rfl | rfl | rfl
        · exact Nat.le_add_right _ _
        · exact Nat.le_add_right _ _
        · exact Nat.le_add_right _ _
        · exact Nat.le_refl _
        · exact Nat.le_add_right _ _
      exact absurd (e ▸ h1) (Nat.not_lt.mpr h2)
theorem five_tuple {q : Zp} {a b c d e a' b' c' d' e' : Obj} {x1 x2 : V} {r1 r2 : Value} (S : StD D fx μ H m (five q a b c d e ++ rest) h) (keep : ∀ x o, NotZ q x → h.get? x = some o → h'.get? x = some o) (ga : h'.get? q.z = some a') (gb : h'.get? q.ti = some b') (gc : h'.get? q.to = some c') (gd : h'.get? q.i = some d') (ge : h'.get? q.j = some e')
    (pT : h'.get? h.objs.size = some (pob r1 r2)) (h1 : RelV μ x1 r1) (h2 : RelV μ x2 r2) : StD D fx (μ ++ [(h.objs.size, h.objs.size)]) (H ++ [.tuple [x1, x2]]) m (five q a' b' c' d' e' ++ rest) h' := by
  obtain ⟨led, N, nd, al⟩ := S.ex
  obtain ⟨F', N', nd'⟩ := five_news S.fr N nd keep ga gb gc gd ge
  have S5 : StD D fx μ H m (five q a' b' c' d' e' ++ rest) h' := ⟨F', S.ap, led, N', nd', al⟩
  have lenL : fx.L < h.objs.size := S.fr.ns.lt
  refine St.grow (o := .tuple [x1, x2]) S5 nd' al F' (fun p hp => ?_) (fun p hp => ?_) ⟨rfl, [r1, r2], 0, .head _, .cons h1.ext (.cons h2.ext .nil)⟩
  · rcases List.mem_cons.mp hp with rfl | hp
    · refine ⟨pT, Nat.ne_of_gt lenL, ?_⟩
      cases z : fx.h₀.get? h.objs.size with
      | none => rfl
      | some o => exact absurd (Nat.lt_of_lt_of_le (Heap.lt_size z) (Nat.le_trans S.fr.above (Nat.le_of_lt lenL))) (Nat.lt_irrefl _)
    · exact N' p hp
  · have : p.1 ∈ (led ++ (five q a' b' c' d' e' ++ rest)).map (·.1) := List.mem_map_of_mem hp
    rw [show (led ++ (five q a' b' c' d' e' ++ rest)).map (·.1) = (led ++ (five q a b c d e ++ rest)).map (·.1) by rw [List.map_append, List.map_append, List.map_append, List.map_append]; rfl] at this
    obtain ⟨p', hp', e'⟩ := List.mem_map.mp this
    rw [← e']
    exact Heap.lt_size (N p' hp').1
inductive ZipI (D : Wd) (n : Nat) (ne : NE) (t : PySem.Expr) (body : List Stmt) (x : Str) (k : Nat) (loc' : LR) (H' : List O) (fx : Fx) (μ : Mu) (rest : Ledger) (q : Zp) (ad : Addr) (s : Shared) (kk : Nat) : Shared → Prop
  | mk {more : Mu} {i : Nat} {H : List O} {loc : LR} {h : Heap} {tk : Nat} {m : Str → Option Value} {u v : Value} {oi oj : Obj} : ZipR D n ne t body x k kk i H loc loc' H' → LocsOk (μ ++ more) m loc → ZSh x ad i oi oj → StD D fx (μ ++ more) H m (five q (zob q .none) (pob (.ref q.i) (.ref q.j)) (pob u v) oi oj ++ rest) h → ZipI D n ne t body x k loc' H' fx μ rest q ad s kk { s with heap := h, toks := tk }
theorem zip_core {s : Shared} {ne : NE} {es : List PySem.Expr} {ek : Nat} {ep : Pos} {body : List Stmt} {x : Str} {k kk : Nat} {loc' : LR} {H' : List O} {q : Zp} {ad dd : Addr} {R : Result → Shared → Prop} {s0 : Shared} (I : ZipI D n ne (.Tuple es ek ep) body x k loc' H' fx μ rest q ad s kk s0) (hkk : μ[k]? = some (ad, dd)) (okx : fx.Ok D) (room : Room n dp un) (hn : fx.cs.names = ne.names) (hc : CellsOk μ fx.cl ne.cells)
    (P : PostF D fx H' .next loc' μ rest s fun f s' => R (.ok f) s') : codeAny (model D.prog D.w) (fx.A dp un) (.forLoop (.Tuple es ek ep) (.ref q.z) body [] fx.env) R s0 := by
  refine codeAny_forLoop_any (ZipI D n ne (.Tuple es ek ep) body x k loc' H' fx μ rest q ad s) (fun k' s' hI => ?_) kk I
  obtain ⟨R', hl', sh, S'⟩ := hI
  rename_i more i Hn loc h' tk m' u v oi oj
  have ap := five_ap S' (mu_ext (more := more) hkk)
  have Z := five_zin S' sh
  cases R' with
  | done hd => exact zs_end (s := { s with heap := h', toks := tk }) rfl ap Z hd fun h4 tk4 keep4 => wpAny_execs_nil (P .next _ h4 tk4 m' rfl hl' (five_drop S' keep4))
  | @step j'' _ ch lv vv _ _ _ _ _ _ _ _ hch hsq hv ha hb R' =>
    obtain ⟨its', hL', rel'⟩ := seqAt_ok (s := { s with heap := h', toks := tk }) hsq S' (mu_ext (more := more) hkk)
    obtain ⟨yv, hy, hrel⟩ := rel'.get hv
    refine zs_item (s := { s with heap := h', toks := tk }) ap Z hL' hch (by simpa using hy) fun h4 tk4 t4 Z4 p4 keep4 => ?_
    obtain ⟨oi4, oj4, gi4, gj4, sh4⟩ := zin_sh Z4
    refine wpAny_letOwnedTupleGo_zip Z4.z fun h5 z5 sb5 => ?_
    have S6 := five_tuple (rest := rest) (x1 := .str ⟨#[ch]⟩) S' (fun b o hb' e => sb5.extBut _ _ hb'.1 (keep4 b o hb' e)) z5 (sb5.extBut _ _ ap.a.1 Z4.ti) (sb5.extBut _ _ ap.a.2.1 Z4.to) (sb5.extBut _ _ ap.a.2.2.1 gi4) (sb5.extBut _ _ ap.a.2.2.2 gj4) (sb5.extBut _ _ (Nat.ne_of_gt (Heap.lt_size Z.z)) p4) ⟨t4, rfl⟩ hrel
    have lenE : (μ ++ more).length = Hn.length := S'.len
    refine toE (ha fx dp un _ m' _ { s with heap := h5, toks := tk4 } _ (.ref h'.objs.size) okx room hn hl'.ext hc.ext.ext S6 ⟨_, _, by rw [List.getElem?_append_right (Nat.le_of_eq lenE), lenE, Nat.sub_self]; rfl, rfl⟩ fun more7 h7 tk7 m7 hl7 S7 => ?_)
    refine toE (hb fx dp un _ m7 _ { s with heap := h7, toks := tk7 } _ okx room hn hl7 hc.ext.ext.ext S7 fun f more8 h8 tk8 m8 hf8 hl8 S8 => ?_)
    cases (show f = .next from hf8)
    rw [List.append_assoc μ, List.append_assoc μ, List.append_assoc μ] at hl8 S8
    exact ⟨_, Nat.lt_succ_self _, .mk R' hl8 sh4 S8⟩
theorem ForZ_ok {ne : NE} {t e1 e2 : PySem.Expr} {es : List PySem.Expr} {ek : Nat} {ep : Pos} {body : List Stmt} {pos cp np : Pos} {nm : Str} {x : Str} {k j : Nat} {loc' : LR} {H' : List O} {T : Tabs} {σ : Sg} {l0 : List V} (hT : GlOk D T.gl) (hσ : σ.H = H) (hnm : evName T ne nm σ = some (.bi 5, σ)) (s1 : isStarE e1 = false) (s2 : isStarE e2 = false)
    (h1 : EvT D n ne e1 H (.str x) H) (h2 : EvT D n ne e2 H (.ref k) H) (hk : seqAt H k = some l0) (hx : x.cps.all (· < 128) = true) (ht : t = .Tuple es ek ep) (R : ZipR D n ne t body x k j 0 H ne.locs loc' H') : StT D n ne (.For t (.Call (.Name nm np) [e1, e2] [] cp) body [] pos) H .next loc' H' := by
  subst ht
  intro fx dp un μ m rest s Q okx room hn hl hc S P
  have eo : EnvOk fx fx.env ne μ m rest := .ofFn okx hn hl hc
  refine wpAny_For (Call_ ((evName_ok (D := D) hT hnm).2 fx fx.env dp un μ m rest s _ okx room.zero eo (hσ.symm ▸ S) fun rf more0 h0 tk0 hf S0 => ?_)) (fun _ => rfl)
  rw [hσ] at S0
  cases (show rf = biVal 5 from hf)
  refine PySem.Pv.callWith_type1 ?_ (starEach_cons s1 _ _) (noStars_any (es := [e2]) (by unfold noStars; rw [s2]; rfl))
  refine spliced_more (h1 fx fx.env dp un _ m rest _ _ okx room eo.ext S0 fun r1 more1 h1' tk1 hr1 S1 => ?_) (starEach_cons s1 _ _)
  refine spliced_more (rest := []) (h2 fx fx.env dp un _ m rest _ _ okx room eo.ext.ext S1 fun r2 more2 h2' tk2 hr2 S2 => ?_) (starEach_cons s2 _ _)
  refine spliced_none ?_
  obtain ⟨tt, rfl⟩ := hr1
  obtain ⟨ad, dd, hkk, rfl⟩ := hr2
  obtain ⟨its, hL, rel⟩ := seqAt_ok (s := { s with heap := h2', toks := tk2 }) hk S2 hkk
  refine zs_new hx hL fun h3 Z3 keep3 size3 => ?_
  refine wpAny_pyIter_zip Z3.z ?_
  obtain ⟨oi3, oj3, gi3, gj3, sh3⟩ := zin_sh Z3
  have S3 := five_new S2 rfl keep3 Z3.z Z3.ti Z3.to gi3 gj3
  have hl3 : LocsOk (μ ++ more0 ++ more1 ++ more2 ++ []) m ne.locs := hl.ext.ext.ext.ext
  have S3' := S3
  rw [← List.append_nil (μ ++ more0 ++ more1 ++ more2)] at S3'
  exact zip_core (q := ⟨h2'.objs.size + 4, h2'.objs.size + 2, h2'.objs.size + 3, h2'.objs.size, h2'.objs.size + 1⟩) (s := { s with heap := h3, toks := tk2 }) (.mk (tk := tk2) R hl3 sh3 S3') hkk okx room hn hc.ext.ext.ext (PostF.next (s := s) (PostF.next (s := s) (PostF.next (s := s) P)))
end
end Mine
end
section
open PySem PySem.W PyProof.Rows PySem.Calls PySem.Spec
namespace Mine
noncomputable def topS (i : Nat) : Stmt := ((PySem.Challenge.pw_np0104_01.main.body)[i]?).getD (.Pass default)
noncomputable def metS (i j : Nat) : Stmt := match topS i with
  | .ClassDef _ _ _ b _ _ _ _ _ _ _ => (b[j]?).getD (.Pass default)
  | s => s
noncomputable def parS : Stmt → Arguments
  | .FunctionDef _ a _ _ _ _ _ _ _ _ => a
  | _ => ⟨[], [], none, [], [], none, []⟩
noncomputable def bodS : Stmt → List Stmt
  | .FunctionDef _ _ b _ _ _ _ _ _ _ => b
  | _ => []
noncomputable def scoS : Stmt → Scope
  | .FunctionDef _ _ _ _ _ _ s _ _ _ => s
  | _ => default
noncomputable def argNames (a : Arguments) : List Str := a.args.map (·.arg)
noncomputable def fnS (q : Str) (s : Stmt) (d : List V) : Fn := ⟨q, argNames (parS s), d, bodS s, scoS s⟩
noncomputable def F28 : Fn := fnS "is_word_at" (topS 3) []
noncomputable def F35 : Fn := fnS "is_symbol_at" (topS 4) []
noncomputable def F42 : Fn := fnS "is_bound" (topS 5) []
noncomputable def F49 : Fn := fnS "holds_at" (topS 6) []
noncomputable def F180 : Fn := fnS "sign_at" (topS 38) []
noncomputable def F187 : Fn := fnS "is_escaped" (topS 39) []
noncomputable def F194 : Fn := fnS "joined" (topS 40) []
noncomputable def F208 : Fn := fnS "Frame.__init__" (metS 41 0) []
noncomputable def F215 : Fn := fnS "Frame.put" (metS 41 1) []
noncomputable def F229 : Fn := fnS "Frame.node" (metS 41 3) []
noncomputable def F250 : Fn := fnS "Parsing.__init__" (metS 42 0) []
noncomputable def F257 : Fn := fnS "Parsing.top" (metS 42 1) []
noncomputable def F264 : Fn := fnS "Parsing.sign" (metS 42 2) []
noncomputable def F271 : Fn := fnS "Parsing.whole" (metS 42 3) []
noncomputable def F278 : Fn := fnS "Parsing.step" (metS 42 4) []
noncomputable def F285 : Fn := fnS "Parsing.repeated" (metS 42 5) []
noncomputable def F292 : Fn := fnS "Parsing.repeat" (metS 42 6) []
noncomputable def F299 : Fn := fnS "Parsing.escaped" (metS 42 7) []
noncomputable def F313 : Fn := fnS "Parsing.by_symbol" (metS 42 9) []
noncomputable def F325 : Fn := fnS "Parsing.opened" (metS 42 11) []
noncomputable def F332 : Fn := fnS "Parsing.closed" (metS 42 12) []
noncomputable def F339 : Fn := fnS "Parsing.number" (metS 42 13) []
noncomputable def F367 : Fn := fnS "parse_regexp" (topS 43) []
noncomputable def F382 : Fn := fnS "Regcode.__init__" (metS 47 0) []
noncomputable def F403 : Fn := fnS "Compiling.__init__" (metS 48 0) []
noncomputable def F410 : Fn := fnS "Compiling.label" (metS 48 1) []
noncomputable def F417 : Fn := fnS "Compiling.wait" (metS 48 2) []
noncomputable def F424 : Fn := fnS "Compiling.run" (metS 48 3) []
noncomputable def F429 : Fn := fnS "Compiling.node" (metS 48 4) []
noncomputable def F443 : Fn := fnS "Compiling.repeated" (metS 48 6) []
noncomputable def F450 : Fn := fnS "Compiling.split" (metS 48 7) []
noncomputable def F457 : Fn := fnS "Compiling.loop" (metS 48 8) []
noncomputable def F464 : Fn := fnS "Compiling.settled" (metS 48 9) []
noncomputable def F478 : Fn := fnS "compile_node" (topS 49) []
noncomputable def F485 : Fn := fnS "compile_regexp" (topS 50) []
noncomputable def F499 : Fn := fnS "Choice.__init__" (metS 54 0) []
noncomputable def F521 : Fn := fnS "Regmachine.__init__" (metS 55 0) [.int 400000]
noncomputable def F526 : Fn := fnS "Regmachine.match_at" (metS 55 1) []
noncomputable def F533 : Fn := fnS "Regmachine.span" (metS 55 2) []
noncomputable def F540 : Fn := fnS "Regmachine.run" (metS 55 3) []
noncomputable def F547 : Fn := fnS "Regmachine.go_back" (metS 55 4) []
noncomputable def F554 : Fn := fnS "Regmachine.keep" (metS 55 5) []
noncomputable def F561 : Fn := fnS "Regmachine.asked" (metS 55 6) []
noncomputable def F601 : Fn := fnS "Syntax.__init__" (metS 63 0) []
noncomputable def F641 : Fn := fnS "sorted_flags" (topS 64) []
noncomputable def F646 : Fn := fnS "read_syntax" (topS 65) []
noncomputable def F661 : Fn := fnS "SyntaxTable.__init__" (metS 66 0) [.none]
noncomputable def F668 : Fn := fnS "SyntaxTable.modify" (metS 66 1) []
noncomputable def F689 : Fn := fnS "SyntaxTable.own" (metS 66 4) []
noncomputable def F696 : Fn := fnS "SyntaxTable.at" (metS 66 5) []
noncomputable def F703 : Fn := fnS "SyntaxTable.kind_of" (metS 66 6) []
noncomputable def F732 : Fn := fnS "TextRow.__init__" (metS 68 0) []
noncomputable def F739 : Fn := fnS "TextRow.begin" (metS 68 1) []
noncomputable def F746 : Fn := fnS "TextRow.end" (metS 68 2) []
noncomputable def F753 : Fn := fnS "TextRow.code_at" (metS 68 3) []
noncomputable def F767 : Fn := fnS "_law_draw" (topS 70) []
noncomputable def F774 : Fn := fnS "_law_runs" (topS 71) []
noncomputable def F779 : Fn := fnS "_law_offsets" (topS 72) []
noncomputable def F784 : Fn := fnS "law" (topS 73) []
structure Row where
  adr : Nat
  q : Str
  s : Stmt
  dv : Value
noncomputable def rows1 : List Row := [⟨194, "joined", (topS 40), .none⟩, ⟨229, "Frame.node", (metS 41 3), .none⟩, ⟨257, "Parsing.top", (metS 42 1), .none⟩, ⟨264, "Parsing.sign", (metS 42 2), .none⟩, ⟨271, "Parsing.whole", (metS 42 3), .none⟩, ⟨278, "Parsing.step", (metS 42 4), .none⟩, ⟨313, "Parsing.by_symbol", (metS 42 9), .none⟩, ⟨325, "Parsing.opened", (metS 42 11), .none⟩, ⟨332, "Parsing.closed", (metS 42 12), .none⟩, ⟨339, "Parsing.number", (metS 42 13), .none⟩, ⟨367, "parse_regexp", (topS 43), .none⟩, ⟨410, "Compiling.label", (metS 48 1), .none⟩, ⟨464, "Compiling.settled", (metS 48 9), .none⟩, ⟨641, "sorted_flags", (topS 64), .none⟩, ⟨646, "read_syntax", (topS 65), .none⟩, ⟨739, "TextRow.begin", (metS 68 1), .none⟩, ⟨746, "TextRow.end", (metS 68 2), .none⟩]
noncomputable def rows2 : List Row := [⟨180, "sign_at", (topS 38), .none⟩, ⟨215, "Frame.put", (metS 41 1), .none⟩, ⟨250, "Parsing.__init__", (metS 42 0), .none⟩, ⟨285, "Parsing.repeated", (metS 42 5), .none⟩, ⟨299, "Parsing.escaped", (metS 42 7), .none⟩, ⟨403, "Compiling.__init__", (metS 48 0), .none⟩, ⟨417, "Compiling.wait", (metS 48 2), .none⟩, ⟨424, "Compiling.run", (metS 48 3), .none⟩, ⟨429, "Compiling.node", (metS 48 4), .none⟩, ⟨443, "Compiling.repeated", (metS 48 6), .none⟩, ⟨485, "compile_regexp", (topS 50), .none⟩, ⟨533, "Regmachine.span", (metS 55 2), .none⟩, ⟨540, "Regmachine.run", (metS 55 3), .none⟩, ⟨547, "Regmachine.go_back", (metS 55 4), .none⟩, ⟨689, "SyntaxTable.own", (metS 66 4), .none⟩, ⟨696, "SyntaxTable.at", (metS 66 5), .none⟩, ⟨703, "SyntaxTable.kind_of", (metS 66 6), .none⟩, ⟨753, "TextRow.code_at", (metS 68 3), .none⟩, ⟨767, "_law_draw", (topS 70), .none⟩, ⟨774, "_law_runs", (topS 71), .none⟩]
noncomputable def rows3 : List Row := [⟨28, "is_word_at", (topS 3), .none⟩, ⟨35, "is_symbol_at", (topS 4), .none⟩, ⟨42, "is_bound", (topS 5), .none⟩, ⟨187, "is_escaped", (topS 39), .none⟩, ⟨208, "Frame.__init__", (metS 41 0), .none⟩, ⟨478, "compile_node", (topS 49), .none⟩, ⟨526, "Regmachine.match_at", (metS 55 1), .none⟩, ⟨561, "Regmachine.asked", (metS 55 6), .none⟩, ⟨668, "SyntaxTable.modify", (metS 66 1), .none⟩, ⟨779, "_law_offsets", (topS 72), .none⟩]
noncomputable def rows4 : List Row := [⟨292, "Parsing.repeat", (metS 42 6), .none⟩, ⟨450, "Compiling.split", (metS 48 7), .none⟩, ⟨457, "Compiling.loop", (metS 48 8), .none⟩, ⟨499, "Choice.__init__", (metS 54 0), .none⟩, ⟨554, "Regmachine.keep", (metS 55 5), .none⟩, ⟨601, "Syntax.__init__", (metS 63 0), .none⟩]
noncomputable def rows5 : List Row := [⟨49, "holds_at", (topS 6), .none⟩, ⟨382, "Regcode.__init__", (metS 47 0), .none⟩]
noncomputable def rowsD : List Row := [⟨521, "Regmachine.__init__", (metS 55 0), .ref 514⟩, ⟨661, "SyntaxTable.__init__", (metS 66 0), .ref 654⟩, ⟨732, "TextRow.__init__", (metS 68 0), .ref 725⟩]
noncomputable def tfn0 : List (Nat × Fn) := [(194, F194), (229, F229), (257, F257), (264, F264), (271, F271), (278, F278), (313, F313), (325, F325), (332, F332), (339, F339), (367, F367), (410, F410), (464, F464), (641, F641), (646, F646), (739, F739), (746, F746), (180, F180), (215, F215), (250, F250), (285, F285), (299, F299), (403, F403), (417, F417), (424, F424), (429, F429), (443, F443), (485, F485), (533, F533), (540, F540), (547, F547), (689, F689), (696, F696), (703, F703), (753, F753), (767, F767), (774, F774), (28, F28), (35, F35), (42, F42), (187, F187), (208, F208), (478, F478), (526, F526), (561, F561), (668, F668), (779, F779), (292, F292), (450, F450), (457, F457), (499, F499), (554, F554), (601, F601), (49, F49), (382, F382)]
noncomputable def tfn : List (Nat × Fn) := [(521, F521), (661, F661), (732, F732), (194, F194), (229, F229), (257, F257), (264, F264), (271, F271), (278, F278), (313, F313), (325, F325), (332, F332), (339, F339), (367, F367), (410, F410), (464, F464), (641, F641), (646, F646), (739, F739), (746, F746), (180, F180), (215, F215), (250, F250), (285, F285), (299, F299), (403, F403), (417, F417), (424, F424), (429, F429), (443, F443), (485, F485), (533, F533), (540, F540), (547, F547), (689, F689), (696, F696), (703, F703), (753, F753), (767, F767), (774, F774), (28, F28), (35, F35), (42, F42), (187, F187), (208, F208), (478, F478), (526, F526), (561, F561), (668, F668), (779, F779), (292, F292), (450, F450), (457, F457), (499, F499), (554, F554), (601, F601), (49, F49), (382, F382)]
noncomputable def tglO : List (Str × V) := [(("is_word_at" : Str), .val 28), (("is_symbol_at" : Str), .val 35), (("is_bound" : Str), .val 42), (("holds_at" : Str), .val 49), (("sign_at" : Str), .val 180), (("is_escaped" : Str), .val 187), (("joined" : Str), .val 194), (("parse_regexp" : Str), .val 367), (("compile_node" : Str), .val 478), (("compile_regexp" : Str), .val 485), (("sorted_flags" : Str), .val 641), (("read_syntax" : Str), .val 646), (("_law_draw" : Str), .val 767), (("_law_runs" : Str), .val 774), (("_law_offsets" : Str), .val 779), (("Frame" : Str), .val 232), (("Parsing" : Str), .val 356), (("Regcode" : Str), .val 385), (("Compiling" : Str), .val 467), (("Choice" : Str), .val 502), (("Regmachine" : Str), .val 583), (("Syntax" : Str), .val 632), (("SyntaxTable" : Str), .val 713), (("TextRow" : Str), .val 756), (("PLACES" : Str), .val 165), (("SYMBOL_PLACES" : Str), .val 166), (("PLAIN" : Str), .val 368), (("LINE_FEED_regplaces" : Str), .int 10), (("LINE_FEED_regmachine" : Str), .int 10), (("MOST_ROWS" : Str), .int 20000), (("MOST_STEPS" : Str), .int 400000), (("KINDS_syntax" : Str), .str " w_.()'\"\\/$<>@!|"), (("KINDS_regnodes" : Str), .str " w_.()'\"\\/$<>@!|"), (("FLAGS" : Str), .str "1234bcnp"), (("WORD" : Str), .str "w"), (("PUNCTUATION" : Str), .str "."), (("INHERITS" : Str), .str "@"), (("WHITESPACE" : Str), .str " ")]
noncomputable def tglB : List (Str × Nat) := [(("len" : Str), 0), (("range" : Str), 1), (("abs" : Str), 2), (("ord" : Str), 3), (("chr" : Str), 4), (("zip" : Str), 5), (("sorted" : Str), 6), (("list" : Str), 7), (("reversed" : Str), 8), (("max" : Str), 9), (("all" : Str), 10)]
noncomputable def tgl : List (Str × V) := [(("is_word_at" : Str), .val 28), (("is_symbol_at" : Str), .val 35), (("is_bound" : Str), .val 42), (("holds_at" : Str), .val 49), (("sign_at" : Str), .val 180), (("is_escaped" : Str), .val 187), (("joined" : Str), .val 194), (("parse_regexp" : Str), .val 367), (("compile_node" : Str), .val 478), (("compile_regexp" : Str), .val 485), (("sorted_flags" : Str), .val 641), (("read_syntax" : Str), .val 646), (("_law_draw" : Str), .val 767), (("_law_runs" : Str), .val 774), (("_law_offsets" : Str), .val 779), (("Frame" : Str), .val 232), (("Parsing" : Str), .val 356), (("Regcode" : Str), .val 385), (("Compiling" : Str), .val 467), (("Choice" : Str), .val 502), (("Regmachine" : Str), .val 583), (("Syntax" : Str), .val 632), (("SyntaxTable" : Str), .val 713), (("TextRow" : Str), .val 756), (("PLACES" : Str), .val 165), (("SYMBOL_PLACES" : Str), .val 166), (("PLAIN" : Str), .val 368), (("LINE_FEED_regplaces" : Str), .int 10), (("LINE_FEED_regmachine" : Str), .int 10), (("MOST_ROWS" : Str), .int 20000), (("MOST_STEPS" : Str), .int 400000), (("KINDS_syntax" : Str), .str " w_.()'\"\\/$<>@!|"), (("KINDS_regnodes" : Str), .str " w_.()'\"\\/$<>@!|"), (("FLAGS" : Str), .str "1234bcnp"), (("WORD" : Str), .str "w"), (("PUNCTUATION" : Str), .str "."), (("INHERITS" : Str), .str "@"), (("WHITESPACE" : Str), .str " "), (("len" : Str), .bi 0), (("range" : Str), .bi 1), (("abs" : Str), .bi 2), (("ord" : Str), .bi 3), (("chr" : Str), .bi 4), (("zip" : Str), .bi 5), (("sorted" : Str), .bi 6), (("list" : Str), .bi 7), (("reversed" : Str), .bi 8), (("max" : Str), .bi 9), (("all" : Str), .bi 10)]
noncomputable def c232 : Cl := ⟨some 208, [(("put" : Str), 215), (("node" : Str), 229)], ["word", "number", "done", "nodes", "is_loose"]⟩
noncomputable def c356 : Cl := ⟨some 250, [(("top" : Str), 257), (("sign" : Str), 264), (("whole" : Str), 271), (("step" : Str), 278), (("repeated" : Str), 285), (("repeat" : Str), 292), (("escaped" : Str), 299), (("by_symbol" : Str), 313), (("opened" : Str), 325), (("closed" : Str), 332), (("number" : Str), 339)], ["codes", "place", "frames", "groups"]⟩
noncomputable def c385 : Cl := ⟨some 382, [], ["rows", "groups", "marks", "folds"]⟩
noncomputable def c467 : Cl := ⟨some 403, [(("label" : Str), 410), (("wait" : Str), 417), (("run" : Str), 424), (("node" : Str), 429), (("repeated" : Str), 443), (("split" : Str), 450), (("loop" : Str), 457), (("settled" : Str), 464)], ["folds", "rows", "places", "labels", "marks", "waiting"]⟩
noncomputable def c502 : Cl := ⟨some 499, [], ["row", "place", "changes"]⟩
noncomputable def c583 : Cl := ⟨some 521, [(("match_at" : Str), 526), (("span" : Str), 533), (("run" : Str), 540), (("go_back" : Str), 547), (("keep" : Str), 554), (("asked" : Str), 561)], ["code", "view", "table", "point", "steps", "taken", "limit", "kept", "marks", "choices", "changes"]⟩
noncomputable def c632 : Cl := ⟨some 601, [], ["kind", "match", "flags"]⟩
noncomputable def c713 : Cl := ⟨some 661, [(("modify" : Str), 668), (("own" : Str), 689), (("at" : Str), 696), (("kind_of" : Str), 703)], ["parent", "rows"]⟩
noncomputable def c756 : Cl := ⟨some 732, [(("begin" : Str), 739), (("end" : Str), 746), (("code_at" : Str), 753)], ["codes", "place"]⟩
noncomputable def tcl : List (Nat × Cl) := [(232, c232), (356, c356), (385, c385), (467, c467), (502, c502), (583, c583), (632, c632), (713, c713), (756, c756)]

noncomputable def d165 : List (Int × V) := [(96, .str "start"), (39, .str "end"), (61, .str "point"), (98, .str "bound"), (66, .str "inside"), (60, .str "wordstart"), (62, .str "wordend")]
noncomputable def d166 : List (Int × V) := [(60, .str "symbolstart"), (62, .str "symbolend")]
noncomputable def t368 : List Str := ["any", "set", "syntax", "at", "back"]
noncomputable def kt : Kt := ⟨[(368, t368)], [(165, d165), (166, d166)]⟩

noncomputable def rowsN : List Row := rows1 ++ rows2 ++ rows3 ++ rows4 ++ rows5
end Mine
end
section
open PySem PySem.W PyProof.Rows PySem.Calls PySem.Spec
namespace Mine
noncomputable def funcOf (d : Data) : Option FuncData := match d with
  | .func fd => some fd
  | _ => none
noncomputable def funcAt (K : Frag) (a : Nat) : Option FuncData := ob (K.lookup a) fun o => funcOf o.data
noncomputable def fnD (r : Row) (name : Str) (doc pm : Value) (an : Option Addr) (cdv ct : Value) : FuncData := fnOf name r.q (parS r.s) (bodS r.s) (scoS r.s) r.dv .none doc pm an cdv ct
noncomputable def fnPart (K : Frag) (r : Row) : Option FuncData × Bool := (funcAt K r.adr, match funcAt K r.adr with
  | some fd => codeIn K fd.code r.q
  | none => false)
noncomputable def fnWant (K : Frag) (r : Row) : Option FuncData × Bool := ((funcAt K r.adr).map fun fd => fnD r fd.name fd.doc fd.pyModule fd.annotations fd.code fd.closureTuple, true)
noncomputable def seqOf (d : Data) : Option (Array Value × Nat) := match d with
  | .seq vs n => some (vs, n)
  | _ => none
noncomputable def seqPart (K : Frag) (a : Nat) : Option (Array Value × Nat) := ob (K.lookup a) fun o => seqOf o.data
noncomputable def ofVal : Value → V
  | .str s _ => .str s
  | .int i _ => .int i
  | .ref a => .val a
  | _ => .none
noncomputable def okVal : Value → Bool
  | .str _ _ => true
  | .int _ _ => true
  | .ref _ => true
  | _ => false
noncomputable def glPart (K : Frag) (x : Str) : Option V := match nsIn K mainGlobals x with
  | some (some r) => (match okVal r with
    | true => some (ofVal r)
    | false => none)
  | _ => none
noncomputable def clInit (K : Frag) (a : Nat) (o : Option Nat) : Option (Option Value) × Bool := match o with
  | some f => (findIn K (.ref a) "__init__", isFn K (.ref f))
  | none => (findIn K (.ref a) "__init__", true)
noncomputable def wInit (o : Option Nat) : Option (Option Value) × Bool := match o with
  | some f => (some (some (.ref f)), true)
  | none => (some (some (.builtin "object.__init__")), true)
noncomputable def ClPart : Type := Bool × Bool × Option (Option Value) × Bool × Bool × List (Option (Option Value)) × List (Option (Option Value) × Bool) × (Option (Option Value) × Bool)
noncomputable def clPart (K : Frag) (c : Nat × Cl) : ClPart := (plainGet K c.1 "", hasDictIn K c.1, findIn K (.ref c.1) "__setattr__", plainOver K c.1, makesIn K c.1, c.2.attrs.map (findIn K (.ref c.1)), c.2.meth.map (fun p => (findIn K (.ref c.1) p.1, isFn K (.ref p.2))), clInit K c.1 c.2.init)
noncomputable def clWant (c : Nat × Cl) : ClPart := (true, true, some (some (.builtin "object.__setattr__")), true, true, c.2.attrs.map (fun _ => some none), c.2.meth.map (fun p => (some (some (.ref p.2)), true)), wInit c.2.init)
noncomputable def entLit (e : DictEntry) : Option (Int × V) := match e.key with
  | .int k _ => onT (decide (e.hash = hashInt k)) (onT (okVal e.val) (some (k, ofVal e.val)))
  | _ => none
noncomputable def entsLit : List DictEntry → Option (List (Int × V))
  | [] => some []
  | e :: r => ob (entLit e) fun p => ob (entsLit r) fun l => some (p :: l)
noncomputable def strsVal : List Value → Option (List Str)
  | [] => some []
  | v :: r => match v with
    | .str s _ => ob (strsVal r) fun l => some (s :: l)
    | _ => none
noncomputable def tupPart (K : Frag) (a : Nat) : Option (List Str) := ob (K.lookup a) fun o => match o.cls with
  | .type c => onT (decide (c = "tuple")) (ob (seqOf o.data) fun p => strsVal p.1.toList)
  | _ => none
noncomputable def dictOf (d : Data) : Option (Array DictEntry) := match d with
  | .dict es _ => some es
  | _ => none
noncomputable def dicPart (K : Frag) (a : Nat) : Option (List (Int × V)) := ob (K.lookup a) fun o => match o.cls with
  | .type c => onT (decide (c = "dict")) (onT (o.dict.isNone && o.slots.isEmpty) (ob (dictOf o.data) fun es => entsLit es.toList))
  | _ => none
structure KOk (K : Frag) : Prop where
  fn : rowsN.map (fnPart K) = rowsN.map (fnWant K)
  fnD : rowsD.map (fnPart K) = rowsD.map (fnWant K)
  df : [seqPart K 514, seqPart K 654, seqPart K 725] = [some (#[.int 0 954, .int 400000 907], 0), some (#[.none], 0), some (#[.int 1 1268], 0)]
  gl : tglO.map (fun p => glPart K p.1) = tglO.map fun p => some p.2
  bi : tglB.map (fun p => nsIn K mainGlobals p.1) = tglB.map fun _ => some none
  cl : tcl.map (clPart K) = tcl.map clWant
  kfn : tfn.map (fun p => keepIn K (.ref p.1)) = tfn.map fun _ => true
  kcl : tcl.map (fun p => keepIn K (.ref p.1)) = tcl.map fun _ => true
  tup : tupPart K 368 = some t368
  dic : [dicPart K 165, dicPart K 166] = [some d165, some d166]
theorem map_eq {α β : Type} {f g : α → β} {l : List α} (h : l.map f = l.map g) : ∀ x ∈ l, f x = g x := List.map_inj_left.mp h
theorem seqOf_ok {d : Data} {vs : Array Value} {n : Nat} (h : seqOf d = some (vs, n)) : d = .seq vs n := by
  unfold seqOf at h
  split at h
  · exact inj2 (P := fun a b => Data.seq _ _ = Data.seq a b) h rfl
  · exact noneNe h
theorem funcOf_ok {d : Data} {fd : FuncData} (h : funcOf d = some fd) : d = .func fd := by
  unfold funcOf at h
  split at h
  · exact congrArg Data.func (Option.some.inj h)
  · exact noneNe h
theorem fnPart_ok {K : Frag} {r : Row} (h : fnPart K r = fnWant K r) : ∃ name doc pm an cdv ct oc od osl, K.lookup r.adr = some ⟨oc, od, .func (fnD r name doc pm an cdv ct), osl⟩ ∧ codeIn K cdv r.q = true := by
  have h1 : funcAt K r.adr = (funcAt K r.adr).map fun fd => fnD r fd.name fd.doc fd.pyModule fd.annotations fd.code fd.closureTuple := congrArg Prod.fst h
  have h2 : (match funcAt K r.adr with | some fd => codeIn K fd.code r.q | none => false) = true := congrArg Prod.snd h
  cases hf : funcAt K r.adr with
  | none => rw [hf] at h2; exact (nomatch h2)
  | some fd =>
    rw [hf] at h1 h2
    have e : fd = fnD r fd.name fd.doc fd.pyModule fd.annotations fd.code fd.closureTuple := Option.some.inj h1
    refine ob_ hf fun o ho hd => ?_
    have e2 : o.data = .func (fnD r fd.name fd.doc fd.pyModule fd.annotations fd.code fd.closureTuple) := (funcOf_ok hd).trans (congrArg Data.func e)
    exact ⟨fd.name, fd.doc, fd.pyModule, fd.annotations, fd.code, fd.closureTuple, o.cls, o.dict, o.slots, ho.trans (congrArg (fun d => some (⟨o.cls, o.dict, d, o.slots⟩ : Obj)) e2), h2⟩
structure FnShape (F : Fn) : Prop where
  co : F.scope.isCoroutine = false
  gen : F.scope.isGenerator = false
  kind : F.scope.kind = .function
  kinds : (F.params.all fun x => F.scope.names.lookup x == some .local || F.scope.names.lookup x == some .cell) = true
  ck : ((cellsOf F.scope.names []).all fun x => F.scope.names.lookup x == some .cell) = true
  nodup : F.params.Nodup
  nd : ((cellsFrom 0 F.scope.names []).map (·.1)).Nodup
noncomputable def ShP (F : Fn) : Prop := (F.scope.isCoroutine = false ∧ F.scope.isGenerator = false ∧ F.scope.kind = .function) ∧ ((F.params.all fun x => F.scope.names.lookup x == some .local || F.scope.names.lookup x == some .cell) = true ∧ ((cellsOf F.scope.names []).all fun x => F.scope.names.lookup x == some .cell) = true) ∧ F.params.Nodup ∧ ((cellsFrom 0 F.scope.names []).map (·.1)).Nodup
noncomputable def shD (F : Fn) : Decidable (ShP F) := by unfold ShP; infer_instance
noncomputable def shB (F : Fn) : Bool := @decide (ShP F) (shD F)
theorem shB_ok {F : Fn} (h : shB F = true) : FnShape F := by
  have h' : ShP F := @of_decide_eq_true _ (shD F) h
  exact ⟨h'.1.1, h'.1.2.1, h'.1.2.2, h'.2.1.1, h'.2.1.2, h'.2.2.1, h'.2.2.2⟩
theorem shapes : tfn.map (fun p => shB p.2) = tfn.map fun _ => true := by kernel_rfl
theorem S784 : FnShape F784 := shB_ok (by kernel_rfl)
noncomputable abbrev BindN (rs : List Row) (vs : List Value) : Prop := ∀ (name : Str) (doc pm : Value) (an : Option Addr) (cdv ct : Value), rs.map (fun r => bindArgs (fnD r name doc pm an cdv ct) ⟨vs, []⟩) = rs.map fun r => pure ((argNames (parS r.s)).zip vs)
theorem bind1 (a : Value) : BindN rows1 [a] := fun _ _ _ _ _ _ => by kernel_rfl
theorem bind2 (a b : Value) : BindN rows2 [a, b] := fun _ _ _ _ _ _ => by kernel_rfl
theorem bind3 (a b c : Value) : BindN rows3 [a, b, c] := fun _ _ _ _ _ _ => by kernel_rfl
theorem bind4 (a b c d : Value) : BindN rows4 [a, b, c, d] := fun _ _ _ _ _ _ => by kernel_rfl
theorem bind5 (a b c d e : Value) : BindN rows5 [a, b, c, d, e] := fun _ _ _ _ _ _ => by kernel_rfl
theorem len_cons {α : Type} {vs : List α} {n : Nat} (h : vs.length = n + 1) : ∃ a r, vs = a :: r ∧ r.length = n := by
  cases vs with
  | nil => cases h
  | cons a r => exact ⟨a, r, rfl, Nat.succ.inj h⟩
theorem len_nil {α : Type} {vs : List α} (h : vs.length = 0) : vs = [] := List.length_eq_zero_iff.mp h
noncomputable def Binds0 (r : Row) : Prop := ∀ (name : Str) (doc pm : Value) (an : Option Addr) (cdv ct : Value) (vs : List Value), vs.length = (argNames (parS r.s)).length → bindArgs (fnD r name doc pm an cdv ct) ⟨vs, []⟩ = pure ((argNames (parS r.s)).zip vs)
theorem lens {n : Nat} {rs : List Row} (h : rs.map (fun r => (argNames (parS r.s)).length) = rs.map fun _ => n) {r : Row} (hr : r ∈ rs) {vs : List Value} (e : vs.length = (argNames (parS r.s)).length) : vs.length = n := e.trans (map_eq h r hr)
theorem binds0 : ∀ r ∈ rowsN, Binds0 r := by
  intro r hr name doc pm an cdv ct vs e
  rcases List.mem_append.mp hr with hr | hr
  · rcases List.mem_append.mp hr with hr | hr
    · rcases List.mem_append.mp hr with hr | hr
      · rcases List.mem_append.mp hr with hr | hr
        · obtain ⟨a, r1, rfl, e1⟩ := len_cons (lens (n := 1) (by kernel_rfl) hr e)
          cases len_nil e1
          exact map_eq (bind1 a name doc pm an cdv ct) r hr
        · obtain ⟨a, r1, rfl, e1⟩ := len_cons (lens (n := 2) (by kernel_rfl) hr e)
          obtain ⟨b, r2, rfl, e2⟩ := len_cons e1
          cases len_nil e2
          exact map_eq (bind2 a b name doc pm an cdv ct) r hr
      · obtain ⟨a, r1, rfl, e1⟩ := len_cons (lens (n := 3) (by kernel_rfl) hr e)
        obtain ⟨b, r2, rfl, e2⟩ := len_cons e1
        obtain ⟨c, r3, rfl, e3⟩ := len_cons e2
        cases len_nil e3
        exact map_eq (bind3 a b c name doc pm an cdv ct) r hr
    · obtain ⟨a, r1, rfl, e1⟩ := len_cons (lens (n := 4) (by kernel_rfl) hr e)
      obtain ⟨b, r2, rfl, e2⟩ := len_cons e1
      obtain ⟨c, r3, rfl, e3⟩ := len_cons e2
      obtain ⟨d, r4, rfl, e4⟩ := len_cons e3
      cases len_nil e4
      exact map_eq (bind4 a b c d name doc pm an cdv ct) r hr
  · obtain ⟨a, r1, rfl, e1⟩ := len_cons (lens (n := 5) (by kernel_rfl) hr e)
    obtain ⟨b, r2, rfl, e2⟩ := len_cons e1
    obtain ⟨c, r3, rfl, e3⟩ := len_cons e2
    obtain ⟨d, r4, rfl, e4⟩ := len_cons e3
    obtain ⟨f, r5, rfl, e5⟩ := len_cons e4
    cases len_nil e5
    exact map_eq (bind5 a b c d f name doc pm an cdv ct) r hr
theorem fnOk_of {D : Wd} {r : Row} {dl : List V} (h : fnPart D.K r = fnWant D.K r) (hs : FnShape (fnS r.q r.s dl))
    (hb : ∀ (name : Str) (doc pm : Value) (an : Option Addr) (cdv ct : Value) (s : Shared) (vs : List Value), D.K.In s.heap → (argNames (parS r.s)).length ≤ vs.length + dl.length → vs.length ≤ (argNames (parS r.s)).length →
      ∃ ds, (∀ μ, RelVs μ (dl.drop (vs.length + dl.length - (argNames (parS r.s)).length)) ds) ∧ BindsTo s (fnD r name doc pm an cdv ct) ⟨vs, []⟩ ((argNames (parS r.s)).zip (vs ++ ds))) : FnOk D r.adr (fnS r.q r.s dl) := by
  obtain ⟨name, doc, pm, an, cdv, ct, oc, od, osl, h1, h2⟩ := fnPart_ok h
  exact ⟨⟨name, parS r.s, r.dv, .none, doc, pm, an, cdv, ct, oc, od, osl, h1, h2, fun s vs X l1 l2 => hb name doc pm an cdv ct s vs X l1 l2⟩, hs.co, hs.gen, hs.kind, hs.kinds, hs.ck, hs.nodup, hs.nd⟩
theorem fnOk_plain {D : Wd} (X : KOk D.K) {r : Row} (hr : r ∈ rowsN) (hs : FnShape (fnS r.q r.s [])) : FnOk D r.adr (fnS r.q r.s []) :=
  fnOk_of (map_eq X.fn r hr) hs fun name doc pm an cdv ct s vs _ l1 l2 => ⟨[], fun μ => by rw [List.drop_nil]; exact .nil, by
    rw [List.append_nil]
    exact BindsTo.of_eq (binds0 r hr name doc pm an cdv ct vs (Nat.le_antisymm l2 l1))⟩
theorem fnOk_dflt {D : Wd} {r : Row} {dl : List V} {rs : List Value} {T : Nat} {items : Array Value} {n : Nat} (h : fnPart D.K r = fnWant D.K r) (hs : FnShape (fnS r.q r.s dl)) (hdv : r.dv = .ref T) (hT : seqPart D.K T = some (items, n)) (hrel : ∀ μ, RelVs μ dl rs)
    (hk : ∀ (name : Str) (doc pm : Value) (an : Option Addr) (cdv ct : Value) (vs : List Value), (argNames (parS r.s)).length ≤ vs.length + dl.length → vs.length ≤ (argNames (parS r.s)).length → ∃ k : Option (Array Value) → Sem (List (Str × Value)), bindArgs (fnD r name doc pm an cdv ct) ⟨vs, []⟩ = seqItems? r.dv >>= k ∧ k (some items) = pure ((argNames (parS r.s)).zip (vs ++ rs.drop (vs.length + dl.length - (argNames (parS r.s)).length)))) : FnOk D r.adr (fnS r.q r.s dl) := by
  refine fnOk_of h hs fun name doc pm an cdv ct s vs X l1 l2 => ?_
  obtain ⟨k, k1, k2⟩ := hk name doc pm an cdv ct vs l1 l2
  refine ⟨_, fun μ => All2.drop (hrel μ) _, ?_⟩
  refine ob_ hT fun o ho hT => ?_
  exact binds_K (fd := fnD r name doc pm an cdv ct) X hdv ho (seqOf_ok hT) k1 k2
end Mine
end
section
open PySem PySem.W PyProof.Rows PySem.Calls PySem.Spec
namespace Mine
noncomputable def r521 : Row := ⟨521, "Regmachine.__init__", metS 55 0, .ref 514⟩
noncomputable def r661 : Row := ⟨661, "SyntaxTable.__init__", metS 66 0, .ref 654⟩
noncomputable def r732 : Row := ⟨732, "TextRow.__init__", metS 68 0, .ref 725⟩
section
variable (name : Str) (doc pm : Value) (an : Option Addr) (cdv ct a b c d e f : Value)
theorem bd521 : ∃ k : Option (Array Value) → Sem (List (Str × Value)), bindArgs (fnD r521 name doc pm an cdv ct) ⟨[a, b, c, d, e], []⟩ = seqItems? r521.dv >>= k ∧ k (some #[.int 0 954, .int 400000 907]) = pure ((argNames (parS r521.s)).zip [a, b, c, d, e, .int 400000 907]) := ⟨_, rfl, rfl⟩
theorem bd521' : ∃ k : Option (Array Value) → Sem (List (Str × Value)), bindArgs (fnD r521 name doc pm an cdv ct) ⟨[a, b, c, d, e, f], []⟩ = seqItems? r521.dv >>= k ∧ k (some #[.int 0 954, .int 400000 907]) = pure ((argNames (parS r521.s)).zip [a, b, c, d, e, f]) := ⟨_, rfl, rfl⟩
theorem bd661 : ∃ k : Option (Array Value) → Sem (List (Str × Value)), bindArgs (fnD r661 name doc pm an cdv ct) ⟨[a], []⟩ = seqItems? r661.dv >>= k ∧ k (some #[.none]) = pure ((argNames (parS r661.s)).zip [a, .none]) := ⟨_, rfl, rfl⟩
theorem bd661' : ∃ k : Option (Array Value) → Sem (List (Str × Value)), bindArgs (fnD r661 name doc pm an cdv ct) ⟨[a, b], []⟩ = seqItems? r661.dv >>= k ∧ k (some #[.none]) = pure ((argNames (parS r661.s)).zip [a, b]) := ⟨_, rfl, rfl⟩
theorem bd732 : ∃ k : Option (Array Value) → Sem (List (Str × Value)), bindArgs (fnD r732 name doc pm an cdv ct) ⟨[a, b, c], []⟩ = seqItems? r732.dv >>= k ∧ k (some #[.int 1 1268]) = pure ((argNames (parS r732.s)).zip [a, b, c]) := ⟨_, rfl, rfl⟩
end
theorem ofVal_rel {μ : Mu} {r : Value} (h : okVal r = true) : RelV μ (ofVal r) r := by
  cases r with
  | str => exact ⟨_, rfl⟩
  | int => exact ⟨_, rfl⟩
  | ref => rfl
  | _ => cases h
theorem shp {a : Nat} {F : Fn} (h : (a, F) ∈ tfn) : FnShape F := shB_ok (map_eq shapes _ h)
section
variable {D : Wd} (X : KOk D.K)
include X
theorem K521 : FnOk D 521 F521 := fnOk_dflt (r := r521) (dl := [.int 400000]) (rs := [.int 400000 907]) (T := 514) (map_eq X.fnD _ (.head _)) (shp (a := 521) (.head _)) rfl (List.cons.inj X.df).1 (fun _ => .one ⟨_, rfl⟩) fun name doc pm an cdv ct vs l1 l2 => by
  have l1' : 6 ≤ vs.length + 1 := l1
  have l2' : vs.length ≤ 6 := l2
  rcases Nat.lt_or_ge vs.length 6 with h | h
  · have e := Nat.le_antisymm (Nat.le_of_lt_succ h) (Nat.le_of_succ_le_succ l1')
    obtain ⟨a, r1, rfl, e1⟩ := len_cons e
    obtain ⟨b, r2, rfl, e2⟩ := len_cons e1
    obtain ⟨c, r3, rfl, e3⟩ := len_cons e2
    obtain ⟨d, r4, rfl, e4⟩ := len_cons e3
    obtain ⟨f, r5, rfl, e5⟩ := len_cons e4
    cases len_nil e5
    exact bd521 name doc pm an cdv ct a b c d f
  · have e := Nat.le_antisymm l2' h
    obtain ⟨a, r1, rfl, e1⟩ := len_cons e
    obtain ⟨b, r2, rfl, e2⟩ := len_cons e1
    obtain ⟨c, r3, rfl, e3⟩ := len_cons e2
    obtain ⟨d, r4, rfl, e4⟩ := len_cons e3
    obtain ⟨f, r5, rfl, e5⟩ := len_cons e4
    obtain ⟨g, r6, rfl, e6⟩ := len_cons e5
    cases len_nil e6
    exact bd521' name doc pm an cdv ct a b c d f g
theorem K661 : FnOk D 661 F661 := fnOk_dflt (r := r661) (dl := [.none]) (rs := [.none]) (T := 654) (map_eq X.fnD _ (.tail _ (.head _))) (shp (a := 661) (.tail _ (.head _))) rfl (List.cons.inj (List.cons.inj X.df).2).1 (fun _ => .one rfl) fun name doc pm an cdv ct vs l1 l2 => by
  have l1' : 2 ≤ vs.length + 1 := l1
  have l2' : vs.length ≤ 2 := l2
  rcases Nat.lt_or_ge vs.length 2 with h | h
  · have e := Nat.le_antisymm (Nat.le_of_lt_succ h) (Nat.le_of_succ_le_succ l1')
    obtain ⟨a, r1, rfl, e1⟩ := len_cons e
    cases len_nil e1
    exact bd661 name doc pm an cdv ct a
  · have e := Nat.le_antisymm l2' h
    obtain ⟨a, r1, rfl, e1⟩ := len_cons e
    obtain ⟨b, r2, rfl, e2⟩ := len_cons e1
    cases len_nil e2
    exact bd661' name doc pm an cdv ct a b
theorem K732 : FnOk D 732 F732 := fnOk_dflt (r := r732) (dl := []) (rs := []) (T := 725) (map_eq X.fnD _ (.tail _ (.tail _ (.head _)))) (shp (a := 732) (.tail _ (.tail _ (.head _)))) rfl (List.cons.inj (List.cons.inj (List.cons.inj X.df).2).2).1 (fun _ => .nil) fun name doc pm an cdv ct vs l1 l2 => by
  have e : vs.length = 3 := Nat.le_antisymm l2 l1
  obtain ⟨a, r1, rfl, e1⟩ := len_cons e
  obtain ⟨b, r2, rfl, e2⟩ := len_cons e1
  obtain ⟨c, r3, rfl, e3⟩ := len_cons e2
  cases len_nil e3
  exact bd732 name doc pm an cdv ct a b c
theorem tfn_ok : FnsOk D tfn := by
  intro p hp
  have rest : p ∈ tfn0 → FnOk D p.1 p.2 := fun h => by
    have e : tfn0 = rowsN.map fun r => (r.adr, fnS r.q r.s []) := rfl
    rw [e] at h
    obtain ⟨r, hr, q⟩ := List.mem_map.mp h
    cases q
    exact fnOk_plain X hr (shp hp)
  cases hp with
  | head => exact K521 X
  | tail _ h =>
    cases h with
    | head => exact K661 X
    | tail _ h =>
      cases h with
      | head => exact K732 X
      | tail _ h => exact rest h
theorem tcl_ok : ClsOk D tcl := fun c hc => by
  have h : clPart D.K c = clWant c := map_eq X.cl c hc
  refine ⟨congrArg (·.1) h, congrArg (·.2.1) h, congrArg (·.2.2.1) h, congrArg (·.2.2.2.1) h, congrArg (·.2.2.2.2.1) h, map_eq (congrArg (·.2.2.2.2.2.1) h), fun p hp => ?_, ?_⟩
  · have q := map_eq (congrArg (·.2.2.2.2.2.2.1) h) p hp
    exact ⟨congrArg Prod.fst q, congrArg Prod.snd q⟩
  · have q : clInit D.K c.1 c.2.init = wInit c.2.init := congrArg (·.2.2.2.2.2.2.2) h
    revert q
    cases c.2.init with
    | none => exact fun q => congrArg Prod.fst q
    | some f => exact fun q => ⟨congrArg Prod.fst q, congrArg Prod.snd q⟩
theorem tgl_ok : GlOk D tgl := fun p hp => by
  have e : tgl = tglO ++ tglB.map fun b => (b.1, .bi b.2) := rfl
  rw [e] at hp
  rcases List.mem_append.mp hp with h | h
  · have q : glPart D.K p.1 = some p.2 := map_eq X.gl p h
    unfold glPart at q
    split at q
    · rename_i r hr
      split at q
      · rename_i ho
        exact ⟨r, fun μ => Option.some.inj q ▸ ofVal_rel ho, .inl hr⟩
      · exact noneNe q
    · exact noneNe q
  · obtain ⟨b, hb, rfl⟩ := List.mem_map.mp h
    have q := map_eq X.bi b hb
    have q2 : tglB.map (fun b => bootBuiltins b.1) = tglB.map fun b => some (biVal b.2) := by kernel_rfl
    have q3 : tglB.map (fun b => decide (b.1 = ("__name__" : Str))) = tglB.map fun _ => false := by kernel_rfl
    exact ⟨biVal b.2, fun _ => rfl, .inr ⟨q, map_eq q2 b hb, of_decide_eq_false (map_eq q3 b hb)⟩⟩
theorem fn_at {a : Nat} {F : Fn} (h : lkN tfn a = some F) : FnOk D a F := tfn_ok X _ (lkN_mem h)
noncomputable def tabs (orc : Nat → List V → Sg → Option (V × Sg)) : Tabs := ⟨tgl, tfn, tcl, orc⟩
theorem tabs_ok (orc : Nat → List V → Sg → Option (V × Sg)) : TabsOk D (tabs orc) := ⟨tgl_ok X, tfn_ok X, tcl_ok X, map_eq X.kfn, map_eq X.kcl⟩
end
theorem entLit_ok {prog : Program} {w : World} {e : DictEntry} {p : Int × V} (h : entLit e = some p) : (PySem.intKind prog w).is p.1 e.key = true ∧ e.hash = (PySem.intKind prog w).hash p.1 ∧ RelV [] p.2 e.val := by
  refine (?_ : Post (entLit e) fun p => (PySem.intKind prog w).is p.1 e.key = true ∧ e.hash = (PySem.intKind prog w).hash p.1 ∧ RelV [] p.2 e.val) _ h
  obtain ⟨hash, key, val⟩ := e
  cases key with
  | int k t => exact .onT fun q => .onT fun q2 => .pure ⟨intKind_is _ _ _ _, of_decide_eq_true q, ofVal_rel q2⟩
  | _ => exact .none
theorem entsLit_ok {prog : Program} {w : World} {es : List DictEntry} : Post (entsLit es) fun l => ∃ kvs : List (Int × Value), PySem.Pairs (PySem.intKind prog w) es kvs ∧ All2 (PairRel []) l kvs ∧ (∀ e ∈ es, ∃ k, (PySem.intKind prog w).is k e.key = true ∧ e.hash = (PySem.intKind prog w).hash k) ∧ kvs.map (·.1) = l.map (·.1) := by
  induction es with
  | nil => exact .pure ⟨[], .nil, .nil, fun e he => (nomatch he), rfl⟩
  | cons e r ih =>
    refine .ob fun p hp => .ob fun l hl => .pure ?_
    obtain ⟨a1, a2, a3⟩ := entLit_ok (prog := prog) (w := w) hp
    obtain ⟨kvs, h1, h2, h3, h4⟩ := ih _ hl
    refine ⟨(p.1, e.val) :: kvs, .cons a1 rfl h1, .cons ⟨rfl, a3⟩ h2, fun e' he' => ?_, congrArg (p.1 :: ·) h4⟩
    cases he' with
    | head => exact ⟨p.1, a1, a2⟩
    | tail _ he' => exact h3 e' he'
theorem strsVal_ok {vs : List Value} : Post (strsVal vs) fun l => StrsAre vs l := by
  induction vs with
  | nil => exact .pure .nil
  | cons v r ih =>
    cases v with
    | str s t => exact .ob fun l hl => .pure (.cons _ _ (ih _ hl))
    | _ => exact .none
theorem tupPart_ok {K : Frag} {a : Nat} {ss : List Str} (h : tupPart K a = some ss) : ∃ o items n, K.lookup a = some o ∧ o.cls = .type "tuple" ∧ o.data = .seq items n ∧ StrsAre items.toList ss := by
  refine (?_ : Post (tupPart K a) fun ss => ∃ o items n, K.lookup a = some o ∧ o.cls = .type "tuple" ∧ o.data = .seq items n ∧ StrsAre items.toList ss) _ h
  refine .ob fun o ho => ?_
  obtain ⟨c, od, d, sl⟩ := o
  cases c with
  | type c => exact .onT fun q l hl => ob_ hl fun p hp hl => ⟨_, p.1, p.2, ho, congrArg Value.type (of_decide_eq_true q), seqOf_ok hp, strsVal_ok _ hl⟩
  | _ => exact .none
theorem dictOf_ok {d : Data} {es : Array DictEntry} (h : dictOf d = some es) : ∃ ep, d = .dict es ep := by
  unfold dictOf at h
  split at h
  · exact ⟨_, congrArg (Data.dict · _) (Option.some.inj h)⟩
  · exact noneNe h
theorem dicPart_ok {D : Wd} {a : Nat} {l : List (Int × V)} (h : dicPart D.K a = some l) (h4 : (l.map (·.1)).Nodup) (h5 : (a == sysModules) = false) :
    ∃ o kvs, D.K.lookup a = some o ∧ o.IsDictOf (PySem.intKind D.prog D.w) kvs ∧ All2 (PairRel []) l kvs ∧ (a == sysModules) = false := by
  revert h4
  refine (?_ : Post (dicPart D.K a) fun l => (l.map (·.1)).Nodup → ∃ o kvs, D.K.lookup a = some o ∧ o.IsDictOf (PySem.intKind D.prog D.w) kvs ∧ All2 (PairRel []) l kvs ∧ (a == sysModules) = false) _ h
  refine .ob fun o ho => ?_
  obtain ⟨c, od, d, sl⟩ := o
  cases c with
  | type c =>
    refine .onT fun q => .onT fun q2 => .ob fun es he l hl h4 => ?_
    obtain ⟨kvs, p1, p2, p3, p4⟩ := entsLit_ok (prog := D.prog) (w := D.w) _ hl
    obtain ⟨ep, rfl⟩ := dictOf_ok he
    have q3 := Bool.and_eq_true_iff.mp q2
    exact ⟨_, kvs, ho, ⟨_, ep, ⟨congrArg Value.type (of_decide_eq_true q), Option.isNone_iff_eq_none.mp q3.1, Array.isEmpty_iff.mp q3.2⟩, rfl, fun e he => p3 e (Array.mem_def.mp he), p1, by rw [p4]; exact h4⟩, p2, h5⟩
  | _ => exact .none
theorem kt_ok {D : Wd} (X : KOk D.K) : KtOk D kt where
  tup := fun q hq => by
    cases hq with
    | head => exact tupPart_ok X.tup
    | tail _ h => nomatch h
  dict := fun q hq => by
    cases hq with
    | head => exact dicPart_ok (List.cons.inj X.dic).1 (by decide) (by decide)
    | tail _ h =>
      cases h with
      | head => exact dicPart_ok (List.cons.inj (List.cons.inj X.dic).2).1 (by decide) (by decide)
      | tail _ h => nomatch h
end Mine
end
section
open PySem PySem.W PyProof.Rows PySem.Calls PySem.Spec
namespace Mine
noncomputable def intOf : V → Int
  | .int i => i
  | .sint i => i
  | _ => 0
noncomputable def isSint : V → Prop
  | .sint _ => True
  | _ => False
noncomputable def sorcL (j : Int) (l : List V) (σ : Sg) : Option (V × Sg) := optE (unary σ.ds 0) (fun p => ob l[p.1]? fun v => some (v, ⟨σ.H, p.2, (j = p.1 ∧ l.length ≤ 1000) :: σ.cs⟩))
  (ob (strsOf l) fun ys => some (.sstr (ys.getD j.toNat emptyS), ⟨σ.H, σ.ds, (0 ≤ j ∧ j < l.length ∧ l.length ≤ 1000) :: σ.cs⟩))
noncomputable def sorc1 (a b : V) (σ : Sg) : Option (V × Sg) := ob (sintOf b) fun j => match a with
  | .str s => some (.sstr ⟨#[s.cps.getD j.toNat 0]⟩, ⟨σ.H, σ.ds, (0 ≤ j ∧ j < s.length ∧ s.length ≤ 1000) :: σ.cs⟩)
  | .ref k => ob σ.H[k]? fun o => match o with
    | .slist l => some (.sint (intOf (l.getD j.toNat .none)), ⟨σ.H, σ.ds, (0 ≤ j ∧ j < l.length ∧ l.length ≤ 1000 ∧ ∀ v ∈ l, isSint v) :: σ.cs⟩)
    | .list l => sorcL j l σ
    | _ => none
  | _ => none
theorem strsOf_at {l : List V} {ys : List Str} (h : strsOf l = some ys) : l = ys.map .str := by
  refine (?_ : Post (strsOf l) fun ys => l = ys.map .str) _ h
  clear h ys
  induction l with
  | nil => exact .pure rfl
  | cons v r ih =>
    cases v with
    | str s => exact .ob fun l hl => .pure (congrArg (V.str s :: ·) (ih _ hl))
    | _ => exact .none
theorem isSint_eq {v : V} (h : isSint v) : v = .sint (intOf v) := by
  cases v <;> first | rfl | exact h.elim
theorem sorc_item {D : Wd} {n : Nat} {σ : Sg} {k : Nat} {l : List V} {j : Int} {v u : V} {ds : List Bool} {c : Prop} (ho : σ.H[k]? = some (.list l) ∨ σ.H[k]? = some (.slist l)) (hu : ∀ μ r, RelV μ u r → RelV μ v r)
    (hc : c → 0 ≤ j ∧ j < l.length ∧ l.length ≤ 1000 ∧ l[j.toNat]? = some u) : SorcP D n (.ref k) (.sint j) σ (v, ⟨σ.H, ds, c :: σ.cs⟩) := by
  refine ⟨⟨[_], rfl⟩, fun ok {fx dp un μ m rest s Q ra rb value slice} hsl okx room S ha hb P => ?_⟩
  obtain ⟨h0, h1, h2, hv⟩ := hc (ok _ (.head _))
  obtain ⟨t, rfl⟩ := hb
  obtain ⟨ad, d, hk, rfl⟩ := id ha
  exact tail_any (list_type S ho hk) slot_list_getitem.lookup (list_item S ho (idx_in h0 h1) (small_in h0 h1 h2) hv ha fun r more h' tk' hr S' => P r more h' tk' (hu _ _ hr) S') (subscripted_of hsl _ _)
theorem get_in {α : Type} {l : List α} {d : α} {j : Nat} (hj : j < l.length) : l[j]? = some (l.getD j d) := by
  rw [List.getD_eq_getElem?_getD, List.getElem?_eq_getElem hj]; rfl
theorem toNat_lt {j : Int} {n : Nat} (h0 : 0 ≤ j) (h1 : j < n) : j.toNat < n := by lia
theorem getD_mem {α : Type} {l : List α} {d : α} {j : Nat} (hj : j < l.length) : l.getD j d ∈ l := List.mem_of_getElem? (get_in hj)
theorem sorcL_post {D : Wd} {n : Nat} {σ : Sg} {k : Nat} {l : List V} {j : Int} (ho : σ.H[k]? = some (.list l)) : Post (sorcL j l σ) (SorcP D n (.ref k) (.sint j) σ) :=
  .optE (fun p _ => .ob fun v hv => .pure (sorc_item (.inl ho) (fun _ _ => id) fun ⟨e, h2⟩ => by
      have hi : p.1 < l.length := (List.getElem?_eq_some_iff.mp hv).1
      subst e
      exact ⟨Int.natCast_nonneg _, Int.ofNat_lt.mpr hi, h2, hv⟩))
    fun _ => .ob fun ys hys => .pure (sorc_item (u := .str (ys.getD j.toNat emptyS)) (.inl ho) (fun _ _ => id) fun ⟨h0, h1, h2⟩ => ⟨h0, h1, h2, by
      have he := strsOf_at hys
      have hj := toNat_lt h0 h1
      rw [he, List.length_map] at hj
      rw [he, List.getElem?_map, get_in hj]; rfl⟩)
theorem sorc_str {D : Wd} {n : Nat} {σ : Sg} {x : Str} {j : Int} : SorcP D n (.str x) (.sint j) σ (.sstr ⟨#[x.cps.getD j.toNat 0]⟩, ⟨σ.H, σ.ds, (0 ≤ j ∧ j < x.length ∧ x.length ≤ 1000) :: σ.cs⟩) := by
  refine ⟨⟨[_], rfl⟩, fun ok {fx dp un μ m rest s Q ra rb value slice} hsl okx room S ha hb P => ?_⟩
  obtain ⟨h0, h1, h2⟩ := ok _ (.head _)
  obtain ⟨t, rfl⟩ := ha
  obtain ⟨u, rfl⟩ := hb
  have hx : Txt.charAt x j = some (x.cps.getD j.toNat 0) := by
    unfold Txt.charAt
    rw [seqIndex_of (idx_in h0 h1)]
    show x.cps[j.toNat]? = _
    rw [Array.getD_eq_getD_getElem?, Array.getElem?_eq_getElem (show j.toNat < x.cps.size from toNat_lt h0 h1)]; rfl
  refine tail_any (T := "str") (typeIs_str _ _ _) F.slot_str_getitem.lookup (SB.getItem (idxOf_small (small_in h0 h1 h2)) (by rw [hx]; rfl) ?_) (subscripted_of hsl _ _)
  rw [show Txt.item x j = ⟨#[x.cps.getD j.toNat 0]⟩ by unfold Txt.item; rw [hx]; rfl]
  exact P.here _ ⟨_, rfl⟩ S
theorem sorc1_post {D : Wd} {n : Nat} {a b : V} {σ : Sg} : Post (sorc1 a b σ) (SorcP D n a b σ) := by
  refine .ob fun j hj => sintOf_ok hj ▸ ?_
  cases a with
  | str x => exact .pure sorc_str
  | ref k =>
    refine .ob fun o ho => ?_
    cases o with
    | slist l => exact .pure (sorc_item (.inr ho) (fun _ _ => id) fun ⟨h0, h1, h2, h3⟩ => ⟨h0, h1, h2, (get_in (toNat_lt h0 h1)).trans (congrArg some (isSint_eq (h3 _ (getD_mem (toNat_lt h0 h1)))))⟩)
    | list l => exact sorcL_post ho
    | _ => exact .none
  | _ => exact .none
theorem sorc1_ok {D : Wd} (n : Nat) : SOrcOk D n sorc1 := fun _ _ _ _ _ e => sorc1_post _ e
noncomputable def orc1 : Orc := ⟨fun _ _ _ => none, fun _ _ _ _ => none, sorc1⟩
noncomputable def cfg1 (orc : Nat → List V → Sg → Option (V × Sg)) : Cfg := ⟨tabs orc, kt, orc1, fun _ _ _ => none, fun _ _ _ => none⟩
theorem orc1_ok {D : Wd} (n : Nat) : OrOk D n orc1 := ⟨fun _ _ _ _ _ h => (by cases h), (by intro _ _ _ _ _ _ h; intros; cases h), sorc1_ok n⟩
theorem cfg1_ok {D : Wd} (hK : KOk D.K) {n : Nat} {orc : Nat → List V → Sg → Option (V × Sg)} (ho : ∀ k, OrcOk D (n + k) orc) : CfgOk D n (cfg1 orc) where
  T := tabs_ok hK _
  orc := ho
  kt := kt_ok hK
  o := fun _ => orc1_ok _
  xo := fun _ _ _ _ _ _ _ h => by cases h
  lo := fun _ _ _ _ _ _ h => by cases h
theorem OrcOk.none {D : Wd} {n : Nat} : OrcOk D n (fun _ _ _ => none) := fun _ _ _ _ _ h => by cases h
end Mine
end
section
open PySem PySem.W PyProof.Rows PySem.Calls PySem.Spec
namespace Mine
theorem CodeT.up {D : Wd} {n n' : Nat} {f : V} {vs : List V} {H H' : List O} {v : V} (h : n ≤ n') (c : CodeT D n f vs H v H') : CodeT D n' f vs H v H' := fun fx dp un μ m rest s R fr rs ok room S hf hv P => c fx dp un μ m rest s R fr rs ok (room.le h) S hf hv P
noncomputable def syn (k : Str) : O := .inst 632 [("kind", .sstr k), ("match", .none), ("flags", .str "")]
noncomputable def T8 (k0 k1 k2 k3 k4 k5 : Str) : List O := [.inst 713 [("parent", .none), ("rows", .ref 1)], .dictI [(97, .ref 2), (98, .ref 3), (10, .ref 4), (32, .ref 5), (95, .ref 6), (46, .ref 7)], syn k0, syn k1, syn k2, syn k3, syn k4, syn k5]
noncomputable def V2 (l : List V) (b : Int) : List O := [.inst 756 [("codes", .ref 1), ("place", .sint b)], .slist l]
noncomputable def nil1 : Nat → List V → Sg → Option (V × Sg) := fun _ _ _ => none
noncomputable def codeAt (l : List V) (b p : Int) : Int := match decide (b ≤ p), decide (p < b + l.length) with
  | true, true => intOf (l.getD (p - b).toNat .none)
  | _, _ => -1
noncomputable def sixCodes : List Int := [97, 98, 10, 32, 95, 46]
noncomputable def kindAt (k0 k1 k2 k3 k4 k5 : Str) (c : Int) : Str := [k0, k1, k2, k3, k4, k5].getD (sixCodes.idxOf c) ""
section
variable (k0 k1 k2 k3 k4 k5 : Str)
theorem kind0 : (runR (cfg1 nil1) 30).call (.val 703) [.ref 0, .int 97] ⟨T8 k0 k1 k2 k3 k4 k5, [false], []⟩ = some (.sstr k0, ⟨T8 k0 k1 k2 k3 k4 k5, [], [eqS k0 "@" = false]⟩) := by kernel_rfl
theorem kind1 : (runR (cfg1 nil1) 30).call (.val 703) [.ref 0, .int 98] ⟨T8 k0 k1 k2 k3 k4 k5, [false], []⟩ = some (.sstr k1, ⟨T8 k0 k1 k2 k3 k4 k5, [], [eqS k1 "@" = false]⟩) := by kernel_rfl
theorem kind2 : (runR (cfg1 nil1) 30).call (.val 703) [.ref 0, .int 10] ⟨T8 k0 k1 k2 k3 k4 k5, [false], []⟩ = some (.sstr k2, ⟨T8 k0 k1 k2 k3 k4 k5, [], [eqS k2 "@" = false]⟩) := by kernel_rfl
theorem kind3 : (runR (cfg1 nil1) 30).call (.val 703) [.ref 0, .int 32] ⟨T8 k0 k1 k2 k3 k4 k5, [false], []⟩ = some (.sstr k3, ⟨T8 k0 k1 k2 k3 k4 k5, [], [eqS k3 "@" = false]⟩) := by kernel_rfl
theorem kind4 : (runR (cfg1 nil1) 30).call (.val 703) [.ref 0, .int 95] ⟨T8 k0 k1 k2 k3 k4 k5, [false], []⟩ = some (.sstr k4, ⟨T8 k0 k1 k2 k3 k4 k5, [], [eqS k4 "@" = false]⟩) := by kernel_rfl
theorem kind5 : (runR (cfg1 nil1) 30).call (.val 703) [.ref 0, .int 46] ⟨T8 k0 k1 k2 k3 k4 k5, [false], []⟩ = some (.sstr k5, ⟨T8 k0 k1 k2 k3 k4 k5, [], [eqS k5 "@" = false]⟩) := by kernel_rfl
end
section
variable (l : List V) (b p : Int)
theorem code_in : (runR (cfg1 nil1) 30).call (.val 753) [.ref 0, .sint p] ⟨V2 l b, [true, true], []⟩ = some (.sint (intOf (l.getD (p - b).toNat .none)), ⟨V2 l b, [], [0 ≤ p - b ∧ p - b < l.length ∧ l.length ≤ 1000 ∧ ∀ v ∈ l, isSint v, decide (p < b + l.length) = true, l.length ≤ 1000, decide (b ≤ p) = true]⟩) := by kernel_rfl
theorem code_hi : (runR (cfg1 nil1) 30).call (.val 753) [.ref 0, .sint p] ⟨V2 l b, [true, false], []⟩ = some (.int (-1), ⟨V2 l b, [], [decide (p < b + l.length) = false, l.length ≤ 1000, decide (b ≤ p) = true]⟩) := by kernel_rfl
theorem code_lo : (runR (cfg1 nil1) 30).call (.val 753) [.ref 0, .sint p] ⟨V2 l b, [false], []⟩ = some (.int (-1), ⟨V2 l b, [], [decide (b ≤ p) = false]⟩) := by kernel_rfl
end
theorem run_code {D : Wd} {n f : Nat} {c : Cfg} (hc : CfgOk D n c) {a : V} {vs : List V} {H : List O} {ds : List Bool} {v : V} {σ' : Sg} (e : (runR c f).call a vs ⟨H, ds, []⟩ = some (v, σ')) (ok : σ'.ok) : CodeT D (n + f) a vs H v σ'.H := ((runR_ok hc f).call _ _ _ _ _ e).2 ok
theorem CodeT.args {D : Wd} {n : Nat} {a : V} {vs vs' : List V} {H H' : List O} {v : V} (c : CodeT D n a vs H v H') (h : ∀ μ rs, RelVs μ vs' rs → RelVs μ vs rs) : CodeT D n a vs' H v H' := fun fx dp un μ m rest s R fr rs ok room S hf hv P => c fx dp un μ m rest s R fr rs ok room S hf (h _ _ hv) P
theorem CodeT.val {D : Wd} {n : Nat} {a : V} {vs : List V} {H H' : List O} {v v' : V} (c : CodeT D n a vs H v H') (h : ∀ μ r, RelV μ v r → RelV μ v' r) : CodeT D n a vs H v' H' := fun fx dp un μ m rest s R fr rs ok room S hf hv P => c fx dp un μ m rest s R fr rs ok room S hf hv fun r more h' tk' hr S' => P r more h' tk' (h _ _ hr) S'
theorem code_local {D : Wd} (hK : KOk D.K) (l : List V) (b p : Int) (h1 : l.length ≤ 1000) (h2 : ∀ v ∈ l, isSint v) : CodeT D 30 (.val 753) [.ref 0, .sint p] (V2 l b) (.sint (codeAt l b p)) (V2 l b) := by
  have hc : CfgOk D 0 (cfg1 nil1) := cfg1_ok hK fun _ => OrcOk.none
  by_cases q1 : b ≤ p
  · by_cases q2 : p < b + l.length
    · have := run_code hc (code_in l b p) (by
        intro c hc
        simp only [List.mem_cons, List.not_mem_nil, or_false] at hc
        rcases hc with rfl | rfl | rfl | rfl
        · exact ⟨by (first | decide | lia | omega), by (first | decide | lia | omega), h1, h2⟩
        · exact decide_eq_true q2
        · exact h1
        · exact decide_eq_true q1)
      unfold codeAt
      rw [decide_eq_true q1, decide_eq_true q2]
      simpa using this
    · have := run_code hc (code_hi l b p) (by
        intro c hc
        simp only [List.mem_cons, List.not_mem_nil, or_false] at hc
        rcases hc with rfl | rfl | rfl
        · exact decide_eq_false q2
        · exact h1
        · exact decide_eq_true q1)
      unfold codeAt
      rw [decide_eq_true q1, decide_eq_false q2]
      exact CodeT.val (v := .int (-1)) (by simpa using this) fun μ r h => h
  · have := run_code hc (code_lo l b p) (by
      intro c hc
      simp only [List.mem_cons, List.not_mem_nil, or_false] at hc
      subst hc
      exact decide_eq_false q1)
    unfold codeAt
    rw [decide_eq_false q1]
    exact CodeT.val (v := .int (-1)) (by simpa using this) fun μ r h => h
theorem kind_local {D : Wd} (hK : KOk D.K) (k0 k1 k2 k3 k4 k5 : Str) (c : Int) (hc : c ∈ sixCodes) (hk : ∀ k ∈ [k0, k1, k2, k3, k4, k5], eqS k "@" = false) : CodeT D 30 (.val 703) [.ref 0, .sint c] (T8 k0 k1 k2 k3 k4 k5) (.sstr (kindAt k0 k1 k2 k3 k4 k5 c)) (T8 k0 k1 k2 k3 k4 k5) := by
  have ok : CfgOk D 0 (cfg1 nil1) := cfg1_ok hK fun _ => OrcOk.none
  have sa : ∀ {i : Int} (μ : Mu) (rs : List Value), RelVs μ [.ref 0, .sint i] rs → RelVs μ [.ref 0, .int i] rs := fun μ rs h => by
    cases h with | cons h1 h2 => cases h2 with | cons h3 h4 => exact .cons h1 (.cons h3 h4)
  have one : ∀ {k : Str} {σ' : Sg}, σ'.cs = [eqS k "@" = false] → k ∈ [k0, k1, k2, k3, k4, k5] → σ'.ok := fun e hm c hc' => by
    rw [e] at hc'
    rw [List.mem_singleton.mp hc']
    exact hk _ hm
  simp only [sixCodes, List.mem_cons, List.not_mem_nil, or_false] at hc
  rcases hc with rfl | rfl | rfl | rfl | rfl | rfl
  · exact (run_code ok (kind0 k0 k1 k2 k3 k4 k5) (one rfl (by simp))).args sa
  · exact (run_code ok (kind1 k0 k1 k2 k3 k4 k5) (one rfl (by simp))).args sa
  · exact (run_code ok (kind2 k0 k1 k2 k3 k4 k5) (one rfl (by simp))).args sa
  · exact (run_code ok (kind3 k0 k1 k2 k3 k4 k5) (one rfl (by simp))).args sa
  · exact (run_code ok (kind4 k0 k1 k2 k3 k4 k5) (one rfl (by simp))).args sa
  · exact (run_code ok (kind5 k0 k1 k2 k3 k4 k5) (one rfl (by simp))).args sa
end Mine
end
section
open PySem PySem.W PyProof.Rows PySem.Calls PySem.Spec
namespace Mine
noncomputable def valsS : List (Str × V) → List Str → Option (List V)
  | [], ns => (match ns with
    | [] => some []
    | _ :: _ => none)
  | p :: fs, ns => (match ns with
    | [] => none
    | n :: ns => onT (eqS p.1 n) (ob (valsS fs ns) fun vs => some (p.2 :: vs)))
theorem valsS_ok {fs : List (Str × V)} : ∀ {ns : List Str}, Post (valsS fs ns) fun vs => fs = ns.zip vs := by
  induction fs with
  | nil =>
    intro ns
    cases ns with
    | nil => exact .pure rfl
    | cons => exact .none
  | cons p fs ih =>
    intro ns
    cases ns with
    | nil => exact .none
    | cons n ns => exact .onT fun q => .ob fun vs hv => .pure (by rw [ih _ hv, ← eqS_iff.mp q]; rfl)
noncomputable def valsI : List (Int × V) → List Int → Option (List V)
  | [], ns => (match ns with
    | [] => some []
    | _ :: _ => none)
  | p :: fs, ns => (match ns with
    | [] => none
    | n :: ns => onT (decide (p.1 = n)) (ob (valsI fs ns) fun vs => some (p.2 :: vs)))
theorem valsI_ok {fs : List (Int × V)} : ∀ {ns : List Int}, Post (valsI fs ns) fun vs => fs = ns.zip vs := by
  induction fs with
  | nil =>
    intro ns
    cases ns with
    | nil => exact .pure rfl
    | cons => exact .none
  | cons p fs ih =>
    intro ns
    cases ns with
    | nil => exact .none
    | cons n ns => exact .onT fun q => .ob fun vs hv => .pure (by rw [ih _ hv, ← of_decide_eq_true q]; rfl)
noncomputable def refsOf : List V → Option (List Nat)
  | [] => some []
  | v :: r => ob (refOf v) fun k => ob (refsOf r) fun ks => some (k :: ks)
theorem refsOf_ok {vs : List V} : Post (refsOf vs) fun ks => vs = ks.map .ref := by
  induction vs with
  | nil => exact .pure rfl
  | cons v r ih => exact .ob fun k hk => .ob fun ks hks => .pure (by rw [refOf_ok hk, ih _ hks]; rfl)
noncomputable def nodupN : List Nat → Bool
  | [] => true
  | k :: r => match r.all fun j => !(Nat.beq j k) with
    | true => nodupN r
    | false => false
theorem nodupN_ok {l : List Nat} : nodupN l = true → l.Nodup := by
  induction l with
  | nil => exact fun _ => List.nodup_nil
  | cons k r ih =>
    intro h
    have h' : (match r.all fun j => !(Nat.beq j k) with | true => nodupN r | false => false) = true := h
    cases q : r.all fun j => !(Nat.beq j k) with
    | false => rw [q] at h'; exact (nomatch h')
    | true =>
      rw [q] at h'
      refine List.nodup_cons.mpr ⟨fun hm => ?_, ih h'⟩
      have := List.all_eq_true.mp q k hm
      rw [Nat.beq_refl] at this
      exact (nomatch this)
noncomputable def slAt (H : List O) (k : Nat) : Option (List V) := ob H[k]? fun o => slOf o
theorem slAt_ok {H : List O} {k : Nat} {l : List V} (h : slAt H k = some l) : H[k]? = some (.slist l) := ob_ h fun o h1 h => by rw [h1, slOf_ok h]
noncomputable def nKind : Str := "kind"
noncomputable def nMatch : Str := "match"
noncomputable def nFlags : Str := "flags"
noncomputable def nCodes : Str := "codes"
noncomputable def nPlace : Str := "place"
noncomputable def nParent : Str := "parent"
noncomputable def nRows : Str := "rows"
noncomputable def fldAt (H : List O) (C : Nat) (ns : List Str) (k : Nat) : Option (List V) := ob H[k]? fun o => ob (instOf C o) fun fs => valsS fs ns
theorem fldAt_ok {H : List O} {C k : Nat} {ns : List Str} {vs : List V} (h : fldAt H C ns k = some vs) : H[k]? = some (.inst C (ns.zip vs)) :=
  ob_ h fun o h1 h => ob_ h fun fs h2 h => by rw [h1, instOf_ok h2, valsS_ok _ h]
noncomputable def synAt (H : List O) (k : Nat) : Option Str := ob (fldAt H 632 [nKind, nMatch, nFlags] k) fun vs => ob (un3 vs) fun p => ob (sstrOf p.1) fun x => onT (isN p.2.1) (onT (isS0 p.2.2) (some x))
theorem synAt_ok {H : List O} {k : Nat} {x : Str} (h : synAt H k = some x) : H[k]? = some (syn x) :=
  ob_ h fun vs h1 h => ob_ h fun p h2 h => ob_ h fun y h3 h => onT_ h fun h4 h => onT_ h fun h5 h => by
    rw [fldAt_ok h1, un3_ok h2, sstrOf_ok h3, isN_ok h4, isS0_ok h5, Option.some.inj h]; rfl
noncomputable def synsAt (H : List O) : List Nat → Option (List Str)
  | [] => some []
  | k :: r => ob (synAt H k) fun x => ob (synsAt H r) fun xs => some (x :: xs)
theorem synsAt_ok {H : List O} {ks : List Nat} : Post (synsAt H ks) fun xs => All2 (fun k o => H[k]? = some o) ks (xs.map syn) := by
  induction ks with
  | nil => exact .pure .nil
  | cons k r ih => exact .ob fun x hx => .ob fun xs hxs => .pure (.cons (synAt_ok hx) (ih _ hxs))
theorem all2_at {α β : Type} {R : α → β → Prop} {l : List α} {k : List β} (x : All2 R l k) : ∀ {j : Nat} {b : β}, k[j]? = some b → ∃ a, l[j]? = some a ∧ R a b := by
  induction x with
  | nil => exact fun {j b} e => (nomatch e)
  | @cons a b l k h _ ih =>
    intro j c e
    cases j with
    | zero => exact ⟨a, rfl, Option.some.inj e ▸ h⟩
    | succ j => exact ih e
theorem part_of {H Hs Hr : List O} {sel : List Nat} (x : All2 (fun k o => H[k]? = some o) sel Hr) (e : Hr = Hs.map (renO (outN sel H.length))) (nd : sel.Nodup) : Part sel Hs H := by
  subst e
  refine ⟨(x.length.trans (List.length_map _)).symm, nd, fun j o e => ?_⟩
  exact all2_at x (by rw [List.getElem?_map, e]; rfl)
noncomputable def lookV (H : List O) (v : Nat) : Option (Nat × List V × Int) := ob (fldAt H 756 [nCodes, nPlace] v) fun vs => ob (un2 vs) fun p => ob (refOf p.1) fun kc => ob (sintOf p.2) fun b => ob H[kc]? fun o => ob (slOf o) fun l => onT (nodupN [v, kc]) (some (kc, l, b))
theorem ren_sints {f : Nat → Nat} {l : List V} (h : ∀ v ∈ l, isSint v) : l.map (renV f) = l :=
  (List.map_congr_left fun v hv => by rw [isSint_eq (h v hv)]; rfl).trans (List.map_id _)
theorem lookV_at {H : List O} {v : Nat} {p : Nat × List V × Int} (h : lookV H v = some p) : All2 (fun k o => H[k]? = some o) [v, p.1] [.inst 756 [("codes", .ref p.1), ("place", .sint p.2.2)], .slist p.2.1] ∧ [v, p.1].Nodup :=
  ob_ h fun vs h1 h => ob_ h fun p h2 h => ob_ h fun kc h3 h => ob_ h fun b h4 h => ob_ h fun o h5 h => ob_ h fun l h6 h => onT_ h fun h7 h => by
    cases h
    exact ⟨.cons (by rw [fldAt_ok h1, un2_ok h2, refOf_ok h3, sintOf_ok h4]; rfl) (.one (by rw [h5, slOf_ok h6])), nodupN_ok h7⟩
theorem ren_V2 {f : Nat → Nat} {l : List V} {b : Int} (hs : ∀ v ∈ l, isSint v) : [O.inst 756 [("codes", .ref (f 1)), ("place", .sint b)], .slist l] = [O.inst 756 [("codes", .ref 1), ("place", .sint b)], .slist l].map (renO f) := by
  show _ = [O.inst 756 [("codes", .ref (f 1)), ("place", .sint b)], .slist (l.map (renV f))]
  rw [ren_sints hs]
theorem part2 {H : List O} {v : Nat} {p : Nat × List V × Int} (h : lookV H v = some p) (hs : ∀ v ∈ p.2.1, isSint v) : Part [v, p.1] (V2 p.2.1 p.2.2) H :=
  part_of (lookV_at h).1 (ren_V2 (f := outN [v, p.1] H.length) hs) (lookV_at h).2
structure Six where
  r : Nat
  s0 : Nat
  s1 : Nat
  s2 : Nat
  s3 : Nat
  s4 : Nat
  s5 : Nat
  k0 : Str
  k1 : Str
  k2 : Str
  k3 : Str
  k4 : Str
  k5 : Str
noncomputable def lookT (H : List O) (t : Nat) : Option Six := ob (fldAt H 713 [nParent, nRows] t) fun vs => ob (un2 vs) fun p => onT (isN p.1) (ob (refOf p.2) fun r => ob H[r]? fun o => ob (dIOf o) fun es => ob (valsI es sixCodes) fun us => ob (refsOf us) fun ks => ob (synsAt H ks) fun xs => onT (nodupN (t :: r :: ks)) (ob (un6 ks) fun s => ob (un6 xs) fun k =>
  some ⟨r, s.1.1, s.1.2.1, s.1.2.2, s.2.1, s.2.2.1, s.2.2.2, k.1.1, k.1.2.1, k.1.2.2, k.2.1, k.2.2.1, k.2.2.2⟩))
noncomputable def Six.sel (x : Six) (t : Nat) : List Nat := [t, x.r, x.s0, x.s1, x.s2, x.s3, x.s4, x.s5]
noncomputable def Six.ks (x : Six) : List Str := [x.k0, x.k1, x.k2, x.k3, x.k4, x.k5]
noncomputable def Six.objs (x : Six) : List O := [.inst 713 [("parent", .none), ("rows", .ref x.r)], .dictI [(97, .ref x.s0), (98, .ref x.s1), (10, .ref x.s2), (32, .ref x.s3), (95, .ref x.s4), (46, .ref x.s5)], syn x.k0, syn x.k1, syn x.k2, syn x.k3, syn x.k4, syn x.k5]
noncomputable def Six.heap (x : Six) : List O := T8 x.k0 x.k1 x.k2 x.k3 x.k4 x.k5
noncomputable def Six.kind (x : Six) (c : Int) : Str := kindAt x.k0 x.k1 x.k2 x.k3 x.k4 x.k5 c
theorem lookT_at {H : List O} {t : Nat} {x : Six} (h : lookT H t = some x) : All2 (fun k o => H[k]? = some o) (x.sel t) x.objs ∧ (x.sel t).Nodup :=
  ob_ h fun vs h1 h => ob_ h fun p h2 h => onT_ h fun h3 h => ob_ h fun r h4 h => ob_ h fun o h5 h => ob_ h fun es h6 h => ob_ h fun us h7 h => ob_ h fun ks h8 h => ob_ h fun xs h9 h => onT_ h fun h10 h => ob_ h fun s h11 h => ob_ h fun k h12 h => by
    have a := synsAt_ok _ h9
    have nd := nodupN_ok h10
    have b : H[t]? = some (.inst 713 [(nParent, .none), (nRows, .ref r)]) := by rw [fldAt_ok h1, un2_ok h2, isN_ok h3, refOf_ok h4]; rfl
    have c : H[r]? = some (.dictI (sixCodes.zip (ks.map .ref))) := by rw [h5, dIOf_ok h6, valsI_ok _ h7, refsOf_ok _ h8]
    rw [un6_ok h11, un6_ok h12] at a
    rw [un6_ok h11] at c nd
    cases h
    exact ⟨.cons b (.cons c a), nd⟩
theorem partT {H : List O} {t : Nat} {x : Six} (h : lookT H t = some x) : Part (x.sel t) x.heap H := part_of (lookT_at h).1 rfl (lookT_at h).2
end Mine
end
section
open PySem PySem.W PyProof.Rows PySem.Calls PySem.Spec
namespace Mine
noncomputable def orc0 (a : Nat) (vs : List V) (σ : Sg) : Option (V × Sg) := sel (Nat.beq a 753)
  (ob (un2 vs) fun p => ob (refOf p.1) fun v => ob (sintOf p.2) fun i => ob (lookV σ.H v) fun x => some (.sint (codeAt x.2.1 x.2.2 i), ⟨σ.H, σ.ds, (x.2.1.length ≤ 1000 ∧ ∀ v ∈ x.2.1, isSint v) :: σ.cs⟩))
  (onT (Nat.beq a 703) (ob (un2 vs) fun p => ob (refOf p.1) fun t => ob (sintOf p.2) fun c => ob (lookT σ.H t) fun x => some (.sstr (x.kind c), ⟨σ.H, σ.ds, (c ∈ sixCodes ∧ ∀ k ∈ x.ks, eqS k "@" = false) :: σ.cs⟩)))
noncomputable def OrcG (D : Wd) (n a : Nat) (vs : List V) (σ : Sg) (p : V × Sg) : Prop := σ.le p.2 ∧ (p.2.ok → CodeT D n (.val a) vs σ.H p.1 p.2.H)
theorem orc0_post {D : Wd} (hK : KOk D.K) {n : Nat} (hn : 30 ≤ n) {a : Nat} {vs : List V} {σ : Sg} : Post (orc0 a vs σ) (OrcG D n a vs σ) :=
  .sel (fun qa => .ob fun p h1 => .ob fun v h2 => .ob fun i h3 => .ob fun x h4 => .pure ⟨⟨[_], rfl⟩, fun ok => by
    rw [Nat.eq_of_beq_eq_true qa, un2_ok h1, refOf_ok h2, sintOf_ok h3]
    have h := ok _ (.head _)
    exact ((code_local hK x.2.1 x.2.2 i h.1 h.2).up hn).frame0 (part2 h4 h.2)⟩)
  fun _ => .onT fun qa => .ob fun p h1 => .ob fun v h2 => .ob fun i h3 => .ob fun x h4 => .pure ⟨⟨[_], rfl⟩, fun ok => by
    rw [Nat.eq_of_beq_eq_true qa, un2_ok h1, refOf_ok h2, sintOf_ok h3]
    have h := ok _ (.head _)
    exact ((kind_local hK x.k0 x.k1 x.k2 x.k3 x.k4 x.k5 i h.1 h.2).up hn).frame0 (partT h4)⟩
theorem orc0_ok {D : Wd} (hK : KOk D.K) {n : Nat} (hn : 30 ≤ n) : OrcOk D n orc0 := fun _ _ _ _ _ e => orc0_post hK hn _ e
noncomputable def L10 (l : List V) (b : Int) (k0 k1 k2 k3 k4 k5 : Str) : List O := [.inst 756 [("codes", .ref 1), ("place", .sint b)], .slist l, .inst 713 [("parent", .none), ("rows", .ref 3)], .dictI [(97, .ref 4), (98, .ref 5), (10, .ref 6), (32, .ref 7), (95, .ref 8), (46, .ref 9)], syn k0, syn k1, syn k2, syn k3, syn k4, syn k5]
structure VT where
  kc : Nat
  l : List V
  b : Int
  x : Six
noncomputable def lookVT (H : List O) (v t : Nat) : Option VT := ob (lookV H v) fun p => ob (lookT H t) fun x => onT (nodupN (v :: p.1 :: x.sel t)) (some ⟨p.1, p.2.1, p.2.2, x⟩)
structure TextOk (l : List V) (ks : List Str) : Prop where
  len : l.length ≤ 1000
  sint : ∀ v ∈ l, isSint v
  six : ∀ v ∈ l, intOf v ∈ sixCodes
  at' : ∀ k ∈ ks, eqS k "@" = false
theorem partVT {H : List O} {v t : Nat} {y : VT} (h : lookVT H v t = some y) (hs : ∀ v ∈ y.l, isSint v) : Part (v :: y.kc :: y.x.sel t) (L10 y.l y.b y.x.k0 y.x.k1 y.x.k2 y.x.k3 y.x.k4 y.x.k5) H :=
  ob_ h fun p h1 h => ob_ h fun x h2 h => onT_ h fun h3 h => by
    cases h
    have a := (lookV_at h1).1.append (lookT_at h2).1
    exact part_of a (congrArg (· ++ x.objs) (ren_V2 (f := outN (v :: p.1 :: x.sel t) H.length) hs)) (nodupN_ok h3)
end Mine
end
section
open PySem PySem.W PyProof.Rows PySem.Calls PySem.Spec
namespace Mine
noncomputable abbrev OrcF := Nat → List V → Sg → Option (V × Sg)
noncomputable def LX (l : List V) (b : Int) (x : Six) : List O := L10 l b x.k0 x.k1 x.k2 x.k3 x.k4 x.k5
noncomputable def vtOrc (next : OrcF) (adr : Nat) (g : Six → List V → Int → Int → Bool) : OrcF := fun a vs σ => sel (Nat.beq a adr)
  (ob (un3 vs) fun q => ob (refOf q.1) fun v => ob (refOf q.2.1) fun t => ob (sintOf q.2.2) fun p => ob (lookVT σ.H v t) fun y => some (.sbool (g y.x y.l y.b p), ⟨σ.H, σ.ds, TextOk y.l y.x.ks :: σ.cs⟩)) (next a vs σ)
theorem vtOrc_ok {D : Wd} {n : Nat} {next : OrcF} {adr : Nat} {g : Six → List V → Int → Int → Bool} (hnext : OrcOk D n next) (hloc : ∀ l b x p, TextOk l x.ks → CodeT D n (.val adr) [.ref 0, .ref 2, .sint p] (LX l b x) (.sbool (g x l b p)) (LX l b x)) : OrcOk D n (vtOrc next adr g) := by
  intro a vs σ v σ' e
  refine (?_ : Post (vtOrc next adr g a vs σ) (OrcG D n a vs σ)) _ e
  exact .sel (fun qa => .ob fun q h1 => .ob fun v h2 => .ob fun t h3 => .ob fun p h4 => .ob fun y h5 => .pure ⟨⟨[_], rfl⟩, fun ok => by
    rw [Nat.eq_of_beq_eq_true qa, un3_ok h1, refOf_ok h2, refOf_ok h3, sintOf_ok h4]
    have h := ok _ (.head _)
    exact (hloc y.l y.b y.x p h).frame0 (partVT h5 h.sint)⟩) fun _ p h => hnext _ _ _ _ _ h
theorem codeAt_six {l : List V} {b p : Int} (h : ∀ v ∈ l, intOf v ∈ sixCodes) (h0 : 0 ≤ codeAt l b p) : codeAt l b p ∈ sixCodes := by
  unfold codeAt at *
  split at h0
  · rename_i h1 h2
    have h1 := of_decide_eq_true h1
    have h2 := of_decide_eq_true h2
    have hj : (p - b).toNat < l.length := by (first | decide | lia | omega)
    rw [List.getD_eq_getElem?_getD, List.getElem?_eq_getElem hj]
    exact h _ (List.getElem_mem hj)
  · exact absurd h0 (by decide)
noncomputable def inWS (k : Str) : Bool := !(Builtin.Str.occurrences "w_" k 0 (Str.ofString "w_").length 1).isEmpty
noncomputable def isW (x : Six) (l : List V) (b p : Int) : Bool := match decide (0 ≤ codeAt l b p) with
  | true => eqS (x.kind (codeAt l b p)) "w"
  | false => false
noncomputable def isS (x : Six) (l : List V) (b p : Int) : Bool := match decide (0 ≤ codeAt l b p) with
  | true => inWS (x.kind (codeAt l b p))
  | false => false
section
variable (l : List V) (b p : Int) (x : Six)
noncomputable abbrev CndL (l : List V) : Prop := l.length ≤ 1000 ∧ ∀ v ∈ l, isSint v
noncomputable abbrev CndK (l : List V) (b p : Int) (x : Six) : Prop := codeAt l b p ∈ sixCodes ∧ ∀ k ∈ x.ks, eqS k "@" = false
theorem word_t : (runR (cfg1 orc0) 30).call (.val 28) [.ref 0, .ref 2, .sint p] ⟨LX l b x, [true], []⟩ = some (.sbool (eqS (x.kind (codeAt l b p)) "w"), ⟨LX l b x, [], [CndK l b p x, decide (0 ≤ codeAt l b p) = true, CndL l]⟩) := by kernel_rfl
theorem word_f : (runR (cfg1 orc0) 30).call (.val 28) [.ref 0, .ref 2, .sint p] ⟨LX l b x, [false], []⟩ = some (.sbool (decide (0 ≤ codeAt l b p)), ⟨LX l b x, [], [decide (0 ≤ codeAt l b p) = false, CndL l]⟩) := by kernel_rfl
theorem symb_t : (runR (cfg1 orc0) 30).call (.val 35) [.ref 0, .ref 2, .sint p] ⟨LX l b x, [true], []⟩ = some (.sbool (inWS (x.kind (codeAt l b p))), ⟨LX l b x, [], [CndK l b p x, decide (0 ≤ codeAt l b p) = true, CndL l]⟩) := by kernel_rfl
theorem symb_f : (runR (cfg1 orc0) 30).call (.val 35) [.ref 0, .ref 2, .sint p] ⟨LX l b x, [false], []⟩ = some (.sbool (decide (0 ≤ codeAt l b p)), ⟨LX l b x, [], [decide (0 ≤ codeAt l b p) = false, CndL l]⟩) := by kernel_rfl
end
theorem okl1 {H : List O} {ds : List Bool} {a : Prop} (h : a) : Sg.ok ⟨H, ds, [a]⟩ := fun c hc => by rw [List.mem_singleton.mp hc]; exact h
theorem okc {H : List O} {ds : List Bool} {a : Prop} {r : List Prop} (h : a) (t : Sg.ok ⟨H, ds, r⟩) : Sg.ok ⟨H, ds, a :: r⟩ := fun c hc => by
  rcases List.mem_cons.mp hc with rfl | hc
  · exact h
  · exact t c hc
theorem okn {H : List O} {ds : List Bool} : Sg.ok ⟨H, ds, []⟩ := fun c hc => nomatch hc
theorem word_local {D : Wd} (hK : KOk D.K) {n : Nat} (hn : 60 ≤ n) (l : List V) (b : Int) (x : Six) (p : Int) (h : TextOk l x.ks) : CodeT D n (.val 28) [.ref 0, .ref 2, .sint p] (LX l b x) (.sbool (isW x l b p)) (LX l b x) := by
  have hc : CfgOk D 30 (cfg1 orc0) := cfg1_ok hK fun k => orc0_ok hK (by (first | decide | lia | omega))
  cases q : decide (0 ≤ codeAt l b p) with
  | true =>
    have := (run_code hc (word_t l b p x) (okc ⟨codeAt_six h.six (of_decide_eq_true q), h.at'⟩ (okc q (okc ⟨h.len, h.sint⟩ okn)))).up hn
    unfold isW; rw [q]; exact this
  | false =>
    have := (run_code hc (word_f l b p x) (okc q (okc ⟨h.len, h.sint⟩ okn))).up hn
    unfold isW; rw [q] at this ⊢; exact this
theorem symb_local {D : Wd} (hK : KOk D.K) {n : Nat} (hn : 60 ≤ n) (l : List V) (b : Int) (x : Six) (p : Int) (h : TextOk l x.ks) : CodeT D n (.val 35) [.ref 0, .ref 2, .sint p] (LX l b x) (.sbool (isS x l b p)) (LX l b x) := by
  have hc : CfgOk D 30 (cfg1 orc0) := cfg1_ok hK fun k => orc0_ok hK (by (first | decide | lia | omega))
  cases q : decide (0 ≤ codeAt l b p) with
  | true =>
    have := (run_code hc (symb_t l b p x) (okc ⟨codeAt_six h.six (of_decide_eq_true q), h.at'⟩ (okc q (okc ⟨h.len, h.sint⟩ okn)))).up hn
    unfold isS; rw [q]; exact this
  | false =>
    have := (run_code hc (symb_f l b p x) (okc q (okc ⟨h.len, h.sint⟩ okn))).up hn
    unfold isS; rw [q] at this ⊢; exact this
noncomputable def orcB : OrcF := vtOrc (vtOrc orc0 35 isS) 28 isW
theorem orcB_ok {D : Wd} (hK : KOk D.K) {n : Nat} (hn : 60 ≤ n) : OrcOk D n orcB := vtOrc_ok (vtOrc_ok (orc0_ok hK (by (first | decide | lia | omega))) (symb_local hK hn)) (word_local hK hn)
noncomputable def isB (x : Six) (l : List V) (b p : Int) : Bool := match decide (p = b) with
  | true => true
  | false => match decide (p = b + l.length) with
    | true => true
    | false => isW x l b (p - 1) != isW x l b p
section
variable (l : List V) (b p : Int) (x : Six)
theorem bound_t : (runR (cfg1 orcB) 30).call (.val 42) [.ref 0, .ref 2, .sint p] ⟨LX l b x, [true], []⟩ = some (.bool true, ⟨LX l b x, [], [decide (p = b) = true]⟩) := by kernel_rfl
theorem bound_ft : (runR (cfg1 orcB) 30).call (.val 42) [.ref 0, .ref 2, .sint p] ⟨LX l b x, [false, true], []⟩ = some (.bool true, ⟨LX l b x, [], [decide (p = b + l.length) = true, l.length ≤ 1000, decide (p = b) = false]⟩) := by kernel_rfl
theorem bound_ff : (runR (cfg1 orcB) 30).call (.val 42) [.ref 0, .ref 2, .sint p] ⟨LX l b x, [false, false], []⟩ = some (.sbool (isW x l b (p - 1) != isW x l b p), ⟨LX l b x, [], [TextOk l x.ks, TextOk l x.ks, decide (p = b + l.length) = false, l.length ≤ 1000, decide (p = b) = false]⟩) := by kernel_rfl
end
theorem bound_local {D : Wd} (hK : KOk D.K) {n : Nat} (hn : 90 ≤ n) (l : List V) (b : Int) (x : Six) (p : Int) (h : TextOk l x.ks) : CodeT D n (.val 42) [.ref 0, .ref 2, .sint p] (LX l b x) (.sbool (isB x l b p)) (LX l b x) := by
  have hc : CfgOk D 60 (cfg1 orcB) := cfg1_ok hK fun k => orcB_ok hK (by (first | decide | lia | omega))
  cases q : decide (p = b) with
  | true =>
    have := (run_code hc (bound_t l b p x) (okl1 q)).up hn
    unfold isB; rw [q]; exact this
  | false =>
    cases q2 : decide (p = b + l.length) with
    | true =>
      have := (run_code hc (bound_ft l b p x) (okc q2 (okc h.len (okc q okn)))).up hn
      unfold isB; rw [q, q2]; exact this
    | false =>
      have := (run_code hc (bound_ff l b p x) (okc h (okc h (okc q2 (okc h.len (okc q okn)))))).up hn
      unfold isB; rw [q, q2]; exact this
noncomputable def orcC : OrcF := vtOrc orcB 42 isB
theorem orcC_ok {D : Wd} (hK : KOk D.K) {n : Nat} (hn : 90 ≤ n) : OrcOk D n orcC := vtOrc_ok (orcB_ok hK (by (first | decide | lia | omega))) (bound_local hK hn)
end Mine
end
section
open PySem PySem.W PyProof.Rows PySem.Calls PySem.Spec
namespace Mine
section
variable (l : List V) (b pt p : Int) (w : Str) (x : Six)
theorem h_bol_t : (runR (cfg1 orcC) 30).call (.val 49) [.sstr w, .ref 0, .ref 2, .sint pt, .sint p] ⟨LX l b x, [true, true], []⟩ = some (.sbool (decide (p = b)), ⟨LX l b x, [], [decide (p = b) = true, eqS w "bol" = true]⟩) := by kernel_rfl
theorem h_bol_f : (runR (cfg1 orcC) 30).call (.val 49) [.sstr w, .ref 0, .ref 2, .sint pt, .sint p] ⟨LX l b x, [true, false], []⟩ = some (.sbool (decide (codeAt l b (p - 1) = 10)), ⟨LX l b x, [], [CndL l, decide (p = b) = false, eqS w "bol" = true]⟩) := by kernel_rfl
theorem h_eol_t : (runR (cfg1 orcC) 30).call (.val 49) [.sstr w, .ref 0, .ref 2, .sint pt, .sint p] ⟨LX l b x, [false, true, true], []⟩ = some (.sbool (decide (p = b + l.length)), ⟨LX l b x, [], [decide (p = b + l.length) = true, l.length ≤ 1000, eqS w "eol" = true, eqS w "bol" = false]⟩) := by kernel_rfl
theorem h_eol_f : (runR (cfg1 orcC) 30).call (.val 49) [.sstr w, .ref 0, .ref 2, .sint pt, .sint p] ⟨LX l b x, [false, true, false], []⟩ = some (.sbool (decide (codeAt l b p = 10)), ⟨LX l b x, [], [CndL l, decide (p = b + l.length) = false, l.length ≤ 1000, eqS w "eol" = true, eqS w "bol" = false]⟩) := by kernel_rfl
theorem h_start : (runR (cfg1 orcC) 30).call (.val 49) [.sstr w, .ref 0, .ref 2, .sint pt, .sint p] ⟨LX l b x, [false, false, true], []⟩ = some (.sbool (decide (p = b)), ⟨LX l b x, [], [eqS w "start" = true, eqS w "eol" = false, eqS w "bol" = false]⟩) := by kernel_rfl
theorem h_end : (runR (cfg1 orcC) 30).call (.val 49) [.sstr w, .ref 0, .ref 2, .sint pt, .sint p] ⟨LX l b x, [false, false, false, true], []⟩ = some (.sbool (decide (p = b + l.length)), ⟨LX l b x, [], [l.length ≤ 1000, eqS w "end" = true, eqS w "start" = false, eqS w "eol" = false, eqS w "bol" = false]⟩) := by kernel_rfl
theorem h_point : (runR (cfg1 orcC) 30).call (.val 49) [.sstr w, .ref 0, .ref 2, .sint pt, .sint p] ⟨LX l b x, [false, false, false, false, true], []⟩ = some (.sbool (decide (p = pt)), ⟨LX l b x, [], [eqS w "point" = true, eqS w "end" = false, eqS w "start" = false, eqS w "eol" = false, eqS w "bol" = false]⟩) := by kernel_rfl
theorem h_bi : (runR (cfg1 orcC) 30).call (.val 49) [.sstr w, .ref 0, .ref 2, .sint pt, .sint p] ⟨LX l b x, [false, false, false, false, false, true], []⟩ = some (.sbool ((isB x l b p == eqS w "bound")), ⟨LX l b x ++ [.tuple [.str "bound", .str "inside"]], [], [TextOk l x.ks, anyS [Str.ofString "bound", Str.ofString "inside"] w = true, eqS w "point" = false, eqS w "end" = false, eqS w "start" = false, eqS w "eol" = false, eqS w "bol" = false]⟩) := by kernel_rfl
theorem h_ws_t : (runR (cfg1 orcC) 30).call (.val 49) [.sstr w, .ref 0, .ref 2, .sint pt, .sint p] ⟨LX l b x, [false, false, false, false, false, false, true, true], []⟩ = some (.sbool (!isW x l b (p - 1)), ⟨LX l b x ++ [.tuple [.str "bound", .str "inside"]], [], [TextOk l x.ks, isW x l b p = true, TextOk l x.ks, eqS w "wordstart" = true, anyS [Str.ofString "bound", Str.ofString "inside"] w = false, eqS w "point" = false, eqS w "end" = false, eqS w "start" = false, eqS w "eol" = false, eqS w "bol" = false]⟩) := by kernel_rfl
theorem h_ws_f : (runR (cfg1 orcC) 30).call (.val 49) [.sstr w, .ref 0, .ref 2, .sint pt, .sint p] ⟨LX l b x, [false, false, false, false, false, false, true, false], []⟩ = some (.sbool (isW x l b p), ⟨LX l b x ++ [.tuple [.str "bound", .str "inside"]], [], [isW x l b p = false, TextOk l x.ks, eqS w "wordstart" = true, anyS [Str.ofString "bound", Str.ofString "inside"] w = false, eqS w "point" = false, eqS w "end" = false, eqS w "start" = false, eqS w "eol" = false, eqS w "bol" = false]⟩) := by kernel_rfl
theorem h_we_t : (runR (cfg1 orcC) 30).call (.val 49) [.sstr w, .ref 0, .ref 2, .sint pt, .sint p] ⟨LX l b x, [false, false, false, false, false, false, false, true, true], []⟩ = some (.sbool (!isW x l b p), ⟨LX l b x ++ [.tuple [.str "bound", .str "inside"]], [], [TextOk l x.ks, isW x l b (p - 1) = true, TextOk l x.ks, eqS w "wordend" = true, eqS w "wordstart" = false, anyS [Str.ofString "bound", Str.ofString "inside"] w = false, eqS w "point" = false, eqS w "end" = false, eqS w "start" = false, eqS w "eol" = false, eqS w "bol" = false]⟩) := by kernel_rfl
theorem h_we_f : (runR (cfg1 orcC) 30).call (.val 49) [.sstr w, .ref 0, .ref 2, .sint pt, .sint p] ⟨LX l b x, [false, false, false, false, false, false, false, true, false], []⟩ = some (.sbool (isW x l b (p - 1)), ⟨LX l b x ++ [.tuple [.str "bound", .str "inside"]], [], [isW x l b (p - 1) = false, TextOk l x.ks, eqS w "wordend" = true, eqS w "wordstart" = false, anyS [Str.ofString "bound", Str.ofString "inside"] w = false, eqS w "point" = false, eqS w "end" = false, eqS w "start" = false, eqS w "eol" = false, eqS w "bol" = false]⟩) := by kernel_rfl
theorem h_ss_t : (runR (cfg1 orcC) 30).call (.val 49) [.sstr w, .ref 0, .ref 2, .sint pt, .sint p] ⟨LX l b x, [false, false, false, false, false, false, false, false, true, true], []⟩ = some (.sbool (!isS x l b (p - 1)), ⟨LX l b x ++ [.tuple [.str "bound", .str "inside"]], [], [TextOk l x.ks, isS x l b p = true, TextOk l x.ks, eqS w "symbolstart" = true, eqS w "wordend" = false, eqS w "wordstart" = false, anyS [Str.ofString "bound", Str.ofString "inside"] w = false, eqS w "point" = false, eqS w "end" = false, eqS w "start" = false, eqS w "eol" = false, eqS w "bol" = false]⟩) := by kernel_rfl
theorem h_ss_f : (runR (cfg1 orcC) 30).call (.val 49) [.sstr w, .ref 0, .ref 2, .sint pt, .sint p] ⟨LX l b x, [false, false, false, false, false, false, false, false, true, false], []⟩ = some (.sbool (isS x l b p), ⟨LX l b x ++ [.tuple [.str "bound", .str "inside"]], [], [isS x l b p = false, TextOk l x.ks, eqS w "symbolstart" = true, eqS w "wordend" = false, eqS w "wordstart" = false, anyS [Str.ofString "bound", Str.ofString "inside"] w = false, eqS w "point" = false, eqS w "end" = false, eqS w "start" = false, eqS w "eol" = false, eqS w "bol" = false]⟩) := by kernel_rfl
theorem h_se_t : (runR (cfg1 orcC) 30).call (.val 49) [.sstr w, .ref 0, .ref 2, .sint pt, .sint p] ⟨LX l b x, [false, false, false, false, false, false, false, false, false, true], []⟩ = some (.sbool (!isS x l b p), ⟨LX l b x ++ [.tuple [.str "bound", .str "inside"]], [], [TextOk l x.ks, isS x l b (p - 1) = true, TextOk l x.ks, eqS w "symbolstart" = false, eqS w "wordend" = false, eqS w "wordstart" = false, anyS [Str.ofString "bound", Str.ofString "inside"] w = false, eqS w "point" = false, eqS w "end" = false, eqS w "start" = false, eqS w "eol" = false, eqS w "bol" = false]⟩) := by kernel_rfl
theorem h_se_f : (runR (cfg1 orcC) 30).call (.val 49) [.sstr w, .ref 0, .ref 2, .sint pt, .sint p] ⟨LX l b x, [false, false, false, false, false, false, false, false, false, false], []⟩ = some (.sbool (isS x l b (p - 1)), ⟨LX l b x ++ [.tuple [.str "bound", .str "inside"]], [], [isS x l b (p - 1) = false, TextOk l x.ks, eqS w "symbolstart" = false, eqS w "wordend" = false, eqS w "wordstart" = false, anyS [Str.ofString "bound", Str.ofString "inside"] w = false, eqS w "point" = false, eqS w "end" = false, eqS w "start" = false, eqS w "eol" = false, eqS w "bol" = false]⟩) := by kernel_rfl
end
theorem clV_sint {n : Nat} {v : V} (h : isSint v) : ClV n v := by
  rw [isSint_eq h]; trivial
noncomputable def clVB (n : Nat) (v : V) : Bool := match v with
  | .ref k => Nat.blt k n
  | _ => true
theorem clVB_ok {n : Nat} {v : V} (h : clVB n v = true) : ClV n v := by
  cases v with
  | ref k => exact Nat.le_of_ble_eq_true h
  | _ => trivial
noncomputable def clOB (n : Nat) (o : O) : Bool := match o with
  | .list l => l.all (clVB n)
  | .tuple l => l.all (clVB n)
  | .inst _ fs => fs.all fun p => clVB n p.2
  | .dictI fs => fs.all fun p => clVB n p.2
  | .cell v => v.all (clVB n)
  | .range _ _ => true
  | _ => false
theorem clOB_ok {n : Nat} {o : O} (h : clOB n o = true) : ClO n o := by
  cases o with
  | list l => exact fun v hv => clVB_ok (List.all_eq_true.mp h v hv)
  | tuple l => exact fun v hv => clVB_ok (List.all_eq_true.mp h v hv)
  | inst _ l => exact fun v hv => clVB_ok (List.all_eq_true.mp h v hv)
  | dictI l => exact fun v hv => clVB_ok (List.all_eq_true.mp h v hv)
  | cell v =>
    cases v with
    | none => trivial
    | some v => exact clVB_ok h
  | range _ _ => trivial
  | _ => exact (nomatch h)
theorem clO_sints {n : Nat} {l : List V} (h : ∀ v ∈ l, isSint v) : ClO n (.slist l) := fun v hv => clV_sint (h v hv)
inductive AllM {α : Type} (P : α → Prop) : List α → Prop
  | nil : AllM P []
  | cons {a : α} {l : List α} : P a → AllM P l → AllM P (a :: l)
theorem all_mem {α : Type} {P : α → Prop} {l : List α} (h : AllM P l) {x : α} (m : x ∈ l) : P x := by
  induction h with
  | nil => exact (nomatch m)
  | cons p t ih =>
    cases m with
    | head => exact p
    | tail _ m => exact ih m
theorem allM_of {α : Type} {P : α → Prop} {f : α → Bool} {l : List α} (k : ∀ a, f a = true → P a) (h : l.all f = true) : AllM P l := by
  induction l with
  | nil => exact .nil
  | cons a l ih =>
    have h' := Bool.and_eq_true_iff.mp h
    exact .cons (k a h'.1) (ih h'.2)
theorem clLX {l : List V} {b : Int} {x : Six} (h : ∀ v ∈ l, isSint v) : ClH (LX l b x) := fun _ m =>
  all_mem (P := ClO 10) (.cons (clOB_ok rfl) (.cons (clO_sints h) (allM_of (f := clOB 10) (fun _ => clOB_ok) rfl))) m
noncomputable def holdsB (w : Str) (x : Six) (l : List V) (b pt p : Int) : Bool :=
  match eqS w "bol" with
  | true => (match decide (p = b) with
    | true => true
    | false => decide (codeAt l b (p - 1) = 10))
  | false => match eqS w "eol" with
    | true => (match decide (p = b + l.length) with
      | true => true
      | false => decide (codeAt l b p = 10))
    | false => match eqS w "start" with
      | true => decide (p = b)
      | false => match eqS w "end" with
        | true => decide (p = b + l.length)
        | false => match eqS w "point" with
          | true => decide (p = pt)
          | false => match anyS [Str.ofString "bound", Str.ofString "inside"] w with
            | true => (isB x l b p == eqS w "bound")
            | false => match eqS w "wordstart" with
              | true => (match isW x l b p with
                | true => !isW x l b (p - 1)
                | false => false)
              | false => match eqS w "wordend" with
                | true => (match isW x l b (p - 1) with
                  | true => !isW x l b p
                  | false => false)
                | false => match eqS w "symbolstart" with
                  | true => (match isS x l b p with
                    | true => !isS x l b (p - 1)
                    | false => false)
                  | false => (match isS x l b (p - 1) with
                    | true => !isS x l b p
                    | false => false)
theorem holds_local {D : Wd} (hK : KOk D.K) {n : Nat} (hn : 120 ≤ n) (w : Str) (l : List V) (b pt p : Int) (x : Six) (h : TextOk l x.ks) : CodeT D n (.val 49) [.sstr w, .ref 0, .ref 2, .sint pt, .sint p] (LX l b x) (.sbool (holdsB w x l b pt p)) (LX l b x) := by
  have hc : CfgOk D 90 (cfg1 orcC) := cfg1_ok hK fun k => orcC_ok hK (by (first | decide | lia | omega))
  have hl : CndL l := ⟨h.len, h.sint⟩
  unfold holdsB
  cases q0 : eqS w "bol" with
  | true =>
    cases r : decide (p = b) with
    | true =>
      have := (run_code hc (h_bol_t l b pt p w x) (okc r (okc q0 okn))).up hn
      rw [r] at this
      exact this
    | false =>
      have := (run_code hc (h_bol_f l b pt p w x) (okc hl (okc r (okc q0 okn)))).up hn
      exact this
  | false =>
    cases q1 : eqS w "eol" with
    | true =>
      cases r : decide (p = b + l.length) with
      | true =>
        have := (run_code hc (h_eol_t l b pt p w x) (okc r (okc h.len (okc q1 (okc q0 okn))))).up hn
        rw [r] at this
        exact this
      | false =>
        have := (run_code hc (h_eol_f l b pt p w x) (okc hl (okc r (okc h.len (okc q1 (okc q0 okn)))))).up hn
        exact this
    | false =>
      cases q2 : eqS w "start" with
      | true =>
        have := (run_code hc (h_start l b pt p w x) (okc q2 (okc q1 (okc q0 okn)))).up hn
        exact this
      | false =>
        cases q3 : eqS w "end" with
        | true =>
          have := (run_code hc (h_end l b pt p w x) (okc h.len (okc q3 (okc q2 (okc q1 (okc q0 okn)))))).up hn
          exact this
        | false =>
          cases q4 : eqS w "point" with
          | true =>
            have := (run_code hc (h_point l b pt p w x) (okc q4 (okc q3 (okc q2 (okc q1 (okc q0 okn)))))).up hn
            exact this
          | false =>
            cases q5 : anyS [Str.ofString "bound", Str.ofString "inside"] w with
            | true =>
              have := ((run_code hc (h_bi l b pt p w x) (okc h (okc q5 (okc q4 (okc q3 (okc q2 (okc q1 (okc q0 okn)))))))).up hn).drop rfl (clLX h.sint) trivial
              exact this
            | false =>
              cases q6 : eqS w "wordstart" with
              | true =>
                cases r : isW x l b p with
                | true =>
                  have := ((run_code hc (h_ws_t l b pt p w x) (okc h (okc r (okc h (okc q6 (okc q5 (okc q4 (okc q3 (okc q2 (okc q1 (okc q0 okn))))))))))).up hn).drop rfl (clLX h.sint) trivial
                  exact this
                | false =>
                  have := ((run_code hc (h_ws_f l b pt p w x) (okc r (okc h (okc q6 (okc q5 (okc q4 (okc q3 (okc q2 (okc q1 (okc q0 okn)))))))))).up hn).drop rfl (clLX h.sint) trivial
                  rw [r] at this
                  exact this
              | false =>
                cases q7 : eqS w "wordend" with
                | true =>
                  cases r : isW x l b (p - 1) with
                  | true =>
                    have := ((run_code hc (h_we_t l b pt p w x) (okc h (okc r (okc h (okc q7 (okc q6 (okc q5 (okc q4 (okc q3 (okc q2 (okc q1 (okc q0 okn)))))))))))).up hn).drop rfl (clLX h.sint) trivial
                    exact this
                  | false =>
                    have := ((run_code hc (h_we_f l b pt p w x) (okc r (okc h (okc q7 (okc q6 (okc q5 (okc q4 (okc q3 (okc q2 (okc q1 (okc q0 okn))))))))))).up hn).drop rfl (clLX h.sint) trivial
                    rw [r] at this
                    exact this
                | false =>
                  cases q8 : eqS w "symbolstart" with
                  | true =>
                    cases r : isS x l b p with
                    | true =>
                      have := ((run_code hc (h_ss_t l b pt p w x) (okc h (okc r (okc h (okc q8 (okc q7 (okc q6 (okc q5 (okc q4 (okc q3 (okc q2 (okc q1 (okc q0 okn))))))))))))).up hn).drop rfl (clLX h.sint) trivial
                      exact this
                    | false =>
                      have := ((run_code hc (h_ss_f l b pt p w x) (okc r (okc h (okc q8 (okc q7 (okc q6 (okc q5 (okc q4 (okc q3 (okc q2 (okc q1 (okc q0 okn)))))))))))).up hn).drop rfl (clLX h.sint) trivial
                      rw [r] at this
                      exact this
                  | false =>
                    cases r : isS x l b (p - 1) with
                    | true =>
                      have := ((run_code hc (h_se_t l b pt p w x) (okc h (okc r (okc h (okc q8 (okc q7 (okc q6 (okc q5 (okc q4 (okc q3 (okc q2 (okc q1 (okc q0 okn))))))))))))).up hn).drop rfl (clLX h.sint) trivial
                      exact this
                    | false =>
                      have := ((run_code hc (h_se_f l b pt p w x) (okc r (okc h (okc q8 (okc q7 (okc q6 (okc q5 (okc q4 (okc q3 (okc q2 (okc q1 (okc q0 okn)))))))))))).up hn).drop rfl (clLX h.sint) trivial
                      rw [r] at this
                      exact this
noncomputable def txtOf (v : V) : Option Str := match v with
  | .str s => some s
  | .sstr s => some s
  | _ => none
theorem txtOf_rel {v : V} {w : Str} (h : txtOf v = some w) {μ : Mu} {r : Value} (x : RelV μ v r) : RelV μ (.sstr w) r := by
  cases v with
  | str => exact Option.some.inj h ▸ x
  | sstr => exact Option.some.inj h ▸ x
  | _ => exact noneNe h
noncomputable def orcD : OrcF := fun a vs σ => sel (Nat.beq a 49)
  (ob (uncons vs) fun a0 => ob (txtOf a0.1) fun w => ob (uncons a0.2) fun a1 => ob (refOf a1.1) fun v => ob (un3 a1.2) fun q => ob (refOf q.1) fun t => ob (sintOf q.2.1) fun pt => ob (sintOf q.2.2) fun p => ob (lookVT σ.H v t) fun y => some (.sbool (holdsB w y.x y.l y.b pt p), ⟨σ.H, σ.ds, TextOk y.l y.x.ks :: σ.cs⟩))
  (orcC a vs σ)
theorem orcD_ok {D : Wd} (hK : KOk D.K) {n : Nat} (hn : 120 ≤ n) : OrcOk D n orcD := by
  intro a vs σ v σ' e
  refine (?_ : Post (orcD a vs σ) (OrcG D n a vs σ)) _ e
  exact .sel (fun qa => .ob fun a0 h0 => .ob fun w h1 => .ob fun a1 h2 => .ob fun v h3 => .ob fun q h4 => .ob fun t h5 => .ob fun pt h6 => .ob fun p h7 => .ob fun y h8 => .pure ⟨⟨[_], rfl⟩, fun ok => by
    rw [Nat.eq_of_beq_eq_true qa, uncons_ok h0, uncons_ok h2, refOf_ok h3, un3_ok h4, refOf_ok h5, sintOf_ok h6, sintOf_ok h7]
    have h := ok _ (.head _)
    exact ((holds_local hK hn w y.l y.b pt p y.x h).frame0 (partVT h8 h.sint)).args fun μ rs z => by
      cases z with | cons z1 z2 => exact .cons (txtOf_rel h1 z1) z2⟩) fun _ p h => orcC_ok hK (Nat.le_trans (by decide) hn) _ _ _ _ _ h
end Mine
end
section
open PySem PySem.W PyProof.Rows PySem.Calls PySem.Spec
namespace Mine
noncomputable def PickOk (n0 : Nat) (H : List O) (l : LR) (H' : List O) (l' : LR) : Prop := ∀ (D : Wd) (fx : Fx) (μ more : Mu) (m : Str → Option Value) (rest : Ledger) (h : Heap), μ.length = n0 → StD D fx (μ ++ more) H m rest h → LocsOk (μ ++ more) m l →
  ∃ more', StD D fx (μ ++ more') H' m rest h ∧ LocsOk (μ ++ more') m l'
theorem PickOk.refl {n0 : Nat} {H : List O} {l : LR} : PickOk n0 H l H l := fun _ _ _ more _ _ _ _ S hl => ⟨more, S, hl⟩
theorem PickOk.trans {n0 : Nat} {H H' H'' : List O} {l l' l'' : LR} (a : PickOk n0 H l H' l') (b : PickOk n0 H' l' H'' l'') : PickOk n0 H l H'' l'' := fun D fx μ more m rest h e S hl => by
  obtain ⟨more', S', hl'⟩ := a D fx μ more m rest h e S hl
  exact b D fx μ more' m rest h e S' hl'
noncomputable def gcO (n0 : Nat) (all : List Nat) (H : List O) : List Nat → Option (List O × List Prop)
  | [] => some ([], [])
  | k :: r => ob H[k]? fun o => ob (mvO (newN n0 all) o) fun p => ob (gcO n0 all H r) fun q => some (p.1 :: q.1, p.2 ++ q.2)
noncomputable def upTo : Nat → List Nat → List Nat
  | 0, l => l
  | n + 1, l => upTo n (n :: l)
noncomputable def allGe (n0 : Nat) (l : List Nat) : Bool := l.all fun k => Nat.ble n0 k
noncomputable def gcA (n0 : Nat) (H : List O) (l : LR) (ks : List Nat) : Option (List O × LR × List Prop) := onT (nodupN ks) (onT (Nat.ble n0 H.length) (onT (allGe n0 ks) (ob (gcO n0 ks H (upTo n0 ks)) fun p => ob (mvP (newN n0 ks) l) fun l' => some (p.1, l', p.2))))
noncomputable def refsV (v : V) : List Nat := match v with
  | .ref k => [k]
  | _ => []
noncomputable def refsL (l : List V) : List Nat := l.flatMap refsV
noncomputable def refsP {K : Type} (l : List (K × V)) : List Nat := l.flatMap fun p => refsV p.2
noncomputable def refsO (o : O) : List Nat := match o with
  | .list l => refsL l
  | .tuple l => refsL l
  | .inst _ fs => refsP fs
  | .dictI es => refsP es
  | .dictS es => refsP es
  | .cell v => (match v with
    | some v => refsV v
    | none => [])
  | _ => []
noncomputable def hasN (l : List Nat) (x : Nat) : Bool := l.any fun k => Nat.beq k x
noncomputable def reach (n0 : Nat) (H : List O) : Nat → List Nat → List Nat → List Nat
  | 0, _, seen => seen
  | _ + 1, [], seen => seen
  | f + 1, k :: st, seen => match Nat.blt k n0 || hasN seen k with
    | true => reach n0 H f st seen
    | false => match H[k]? with
      | some o => reach n0 H f (refsO o ++ st) (seen ++ [k])
      | none => seen
noncomputable def refsH (n : Nat) (l : List O) : List Nat := (l.take n).flatMap refsO
noncomputable def gc (n0 : Nat) (H : List O) (l : LR) : Option (List O × LR × List Prop) := gcA n0 H l (reach n0 H 900 (refsP l ++ refsH n0 H) [])
theorem upTo_eq (n : Nat) : ∀ l : List Nat, upTo n l = List.range n ++ l := by
  induction n with
  | zero => exact fun _ => rfl
  | succ n ih => exact fun l => (ih _).trans (by rw [List.range_succ, List.append_assoc]; rfl)
theorem upTo_at {n : Nat} {l : List Nat} {j k : Nat} (h : (upTo n l)[j]? = some k) : (j < n ∧ k = j) ∨ (n ≤ j ∧ l[j - n]? = some k) := by
  rw [upTo_eq] at h
  rcases Nat.lt_or_ge j n with q | q
  · rw [List.getElem?_append_left (by rw [List.length_range]; exact q), List.getElem?_range q] at h
    exact .inl ⟨q, (Option.some.inj h).symm⟩
  · rw [List.getElem?_append_right (by rw [List.length_range]; exact q), List.length_range] at h
    exact .inr ⟨q, h⟩
theorem gcO_post {n0 len : Nat} {all : List Nat} {H : List O} {ks : List Nat} : Post (gcO n0 all H ks) fun p => (∀ c ∈ p.2, c) → All2 (fun k o => H[k]? = some (renO (oldN n0 all len) o)) ks p.1 := by
  induction ks with
  | nil => exact .pure fun _ => .nil
  | cons k r ih => exact .ob fun o h1 => .ob fun p h2 => .ob fun q h3 => .pure fun ok => .cons (h1.trans (congrArg some (mvO_post (g := oldN n0 all len) (fun _ _ => newN_ok) _ h2 fun c hc => ok c (List.mem_append_left _ hc)).symm)) (ih _ h3 fun c hc => ok c (List.mem_append_right _ hc))
theorem mvP_lk {f : Nat → Option Nat} {l : LR} {n : Nat} {v : V} : Post (mvP f l) fun l' => lkS l' n = some v → ∃ w, lkS l n = some w ∧ mvV f w = some v := by
  induction l with
  | nil => exact .pure fun e => noneNe e
  | cons p r ih => exact .ob fun v' h1 => .ob fun r' h2 => .pure fun e => lkS_ e (fun q e => ⟨p.2, lkS_yes q, h1.trans (congrArg some e)⟩) fun q e =>
      have ⟨w, a, b⟩ := ih _ h2 e
      ⟨w, (lkS_no (p := p) q).trans a, b⟩
theorem gcA_pick {n0 : Nat} {H : List O} {l : LR} {ks : List Nat} : Post (gcA n0 H l ks) fun p => (∀ c ∈ p.2.2, c) → ∀ {D : Wd} {fx : Fx} {μ more : Mu} {m : Str → Option Value} {rest : Ledger} {hp : Heap}, μ.length = n0 → StD D fx (μ ++ more) H m rest hp →
    StD D fx (μ ++ newMu ks (μ ++ more)) p.1 m rest hp ∧ MuBack (oldN n0 ks H.length) (μ ++ newMu ks (μ ++ more)) (μ ++ more) ∧ mvP (newN n0 ks) l = some p.2.1 := by
  refine .onT fun h1 => .onT fun h2 => .onT fun h3 => .ob fun p h4 => .ob fun l' h5 => .pure fun ok {D fx μ more m rest hp} e S => ?_
  have al := gcO_post (len := H.length) _ h4 ok
  have ln : p.1.length = n0 + ks.length := by rw [← al.length, upTo_eq, List.length_append, List.length_range]
  have lt : ∀ k ∈ ks, k < H.length := fun k hk => by
    obtain ⟨i, hi⟩ := List.mem_iff_getElem?.mp (show k ∈ upTo n0 ks by rw [upTo_eq]; exact List.mem_append_right _ hk)
    obtain ⟨o, _, b⟩ := al.get hi
    exact (List.getElem?_eq_some_iff.mp b).1
  refine ⟨S.pick (ks := ks) (G := p.1) e (Nat.le_of_ble_eq_true h2) (fun k hk => ⟨Nat.le_of_ble_eq_true (List.all_eq_true.mp h3 k hk), lt k hk⟩) (nodupN_ok h1) ln fun j o q => ?_, new_back (more := more) (ks := ks) e S.len lt, h5⟩
  obtain ⟨k, b1, b2⟩ := al.get' q
  exact ⟨k, upTo_at b1, b2⟩
theorem mv_locs {n0 len : Nat} {ks : List Nat} {μ μ' : Mu} {m : Str → Option Value} {l l' : LR} (back : MuBack (oldN n0 ks len) μ' μ) (h : mvP (newN n0 ks) l = some l') (hl : LocsOk μ m l) : LocsOk μ' m l' := fun x v q => by
  obtain ⟨w, b1, b2⟩ := mvP_lk _ h q
  obtain ⟨r, b3, b4⟩ := hl x w b1
  exact ⟨r, b3, RelV.unren back ((mvV_ok (g := oldN n0 ks len) (fun _ _ => newN_ok) b2).symm ▸ b4)⟩
theorem gcA_ok {n0 : Nat} {H H' : List O} {l l' : LR} {ks : List Nat} {cs : List Prop} (h : gcA n0 H l ks = some (H', l', cs)) (ok : ∀ c ∈ cs, c) : PickOk n0 H l H' l' := fun D fx μ more m rest hp e S hl =>
  have ⟨a, b, c⟩ := gcA_pick _ h ok e S
  ⟨_, a, mv_locs b c hl⟩
theorem gc_ok {n0 : Nat} {H H' : List O} {l l' : LR} {cs : List Prop} (h : gc n0 H l = some (H', l', cs)) (ok : ∀ c ∈ cs, c) : PickOk n0 H l H' l' := gcA_ok h ok
section
variable {D : Wd} {n : Nat} {ne : NE}
theorem ExT.nil {H : List O} : ExT D n ne [] H .next ne.locs H := fun fx dp un μ m rest s Q okx room hn hl hc S P => wpAny_execs_nil (PostF.here P rfl hl S)
theorem ExT.cons {st : Stmt} {ss : List Stmt} {H H₁ H' : List O} {l₁ l' : LR} {fl : Fl} (a : StT D n ne st H .next l₁ H₁) (b : ExT D n (ne.withL l₁) ss H₁ fl l' H') : ExT D n ne (st :: ss) H fl l' H' := by
  intro fx dp un μ m rest s Q okx room hn hl hc S P
  refine wpAny_execs_cons (a fx dp un μ m rest s _ okx room hn hl hc S fun f more h' tk' m' hf hl' S' => ?_)
  have hf' : f = .next := hf
  subst hf'
  exact b fx dp un _ m' rest _ _ okx room hn hl' hc.ext S' (PostF.next P)
theorem run_st {f : Nat} {c : Cfg} (hc : CfgOk D n c) {st : Stmt} {H : List O} {ds : List Bool} {fl : Fl} {l : LR} {σ' : Sg} (e : stStep c.T c.lo c.xo (runR c f) ne st ⟨H, ds, []⟩ = some ((fl, l), σ')) (ok : σ'.ok) : StT D (n + f) ne st H fl l σ'.H := (stStep_ok hc.T (hc.lo f) (hc.xo f) (runR_ok hc f) _ e).2 ok
theorem run_ex {f : Nat} {c : Cfg} (hc : CfgOk D n c) {ss : List Stmt} {H : List O} {ds : List Bool} {fl : Fl} {l : LR} {σ' : Sg} (e : (runR c f).exs ne ss ⟨H, ds, []⟩ = some ((fl, l), σ')) (ok : σ'.ok) : ExT D (n + f) ne ss H fl l σ'.H := ((runR_ok hc f).exs _ _ _ _ _ _ e).2 ok
theorem run_tr {f : Nat} {c : Cfg} (hc : CfgOk D n c) {e : PySem.Expr} {H : List O} {ds : List Bool} {b : Bool} {σ' : Sg} (h : (runR c f).tr ne e ⟨H, ds, []⟩ = some (b, σ')) (ok : σ'.ok) : TrT D (n + f) ne e H b σ'.H := ((runR_ok hc f).tr _ _ _ _ _ h).2 ok
theorem run_ev {f : Nat} {c : Cfg} (hc : CfgOk D n c) {e : PySem.Expr} {H : List O} {ds : List Bool} {v : V} {σ' : Sg} (h : (runR c f).ev ne e ⟨H, ds, []⟩ = some (v, σ')) (ok : σ'.ok) : EvT D (n + f) ne e H v σ'.H := ((runR_ok hc f).ev _ _ _ _ _ h).2 ok
noncomputable def itLow (n0 : Nat) : It → Prop
  | .list k _ => k < n0
  | .range _ _ => True
  | .str _ _ => True
  | .rev k _ => k < n0
theorem ItIn.low {n0 : Nat} {μ more more' : Mu} {it : It} {o : Obj} (hl : μ.length = n0) (h : itLow n0 it) (x : ItIn (μ ++ more) it o) : ItIn (μ ++ more') it o := by
  cases it with
  | list k i =>
    obtain ⟨a, d, e, r⟩ := x
    have hk : k < n0 := h
    rw [List.getElem?_append_left (by (first | decide | lia | omega))] at e
    exact ⟨a, d, mu_ext e, r⟩
  | range a n => exact x
  | str s i => exact x
  | rev k i =>
    obtain ⟨a, d, e, r⟩ := x
    have hk : k < n0 := h
    rw [List.getElem?_append_left (by (first | decide | lia | omega))] at e
    exact ⟨a, d, mu_ext e, r⟩
theorem Turn.pick {n0 : Nat} {it : It} {H H' : List O} {l l' : LR} (hlow : itLow n0 it) (hp : PickOk n0 H l H' l') : Turn D n0 it H l H' l' := fun fx μ more m rest h oI e S hl hi => by
  obtain ⟨more', S', hl'⟩ := hp D fx μ _ m _ h e S hl
  exact ⟨more', S', hl', hi.low e hlow⟩
noncomputable abbrev ForP (D : Wd) (n : Nat) (ne : NE) (t : PySem.Expr) (body : List Stmt) (n0 k : Nat) (it : It) (H : List O) (l l' : LR) (H' : List O) : Prop := ForR D n ne t body n0 k it H l .next l' H'
theorem ForP.step {ne : NE} {t : PySem.Expr} {body : List Stmt} {n0 k : Nat} {it it' : It} {v : V} {H H₁ H₂ H₃ H' : List O} {l l₁ l₂ l₃ l' : LR} (e : nextV H it = some (some (v, it'))) (low : itLow n0 it') (ho : okTarget t it' = true) (ha : AsgT D n (ne.withL l) t v H l₁ H₁) (hx : ExT D n (ne.withL l₁) body H₁ .next l₂ H₂) (hp : PickOk n0 H₂ l₂ H₃ l₃) (R : ForP D n ne t body n0 k it' H₃ l₃ l' H') : ForP D n ne t body n0 (k + 1) it H l l' H' :=
  ForR.step e ho ha hx (.inl rfl) (Turn.pick low hp) R
end
end Mine
end
section
open PySem PySem.W PyProof.Rows PySem.Calls PySem.Spec
namespace Mine
noncomputable def DK (l : List V) (c : Int) : List O := [.list [.ref 1, .sint c], .slist l]
noncomputable def drawIn (l : List V) (c many : Int) : Int := (intOf (l.getD (c + 1 - 1).toNat .none)).fmod many
noncomputable def drawOut (l : List V) (c many : Int) : Int := (((c + 1) * (c + 1) * 37 + 23 * (c + 1) + 7 * (l.length : Int)).fdiv 5).fmod many
section
variable (l : List V) (c many : Int)
theorem draw_in : (runR (cfg1 nil1) 30).call (.val 767) [.ref 0, .sint many] ⟨DK l c, [true], []⟩ = some (.sint (drawIn l c many), ⟨DK l (c + 1), [], [many ≠ 0, 0 ≤ c + 1 - 1 ∧ c + 1 - 1 < l.length ∧ l.length ≤ 1000 ∧ ∀ v ∈ l, isSint v, decide (c + 1 ≤ (l.length : Int)) = true, l.length ≤ 1000]⟩) := by kernel_rfl
theorem draw_out : (runR (cfg1 nil1) 30).call (.val 767) [.ref 0, .sint many] ⟨DK l c, [false], []⟩ = some (.sint (drawOut l c many), ⟨DK l (c + 1), [], [many ≠ 0, Builtin.divisionGoesByPylong ((c + 1) * (c + 1) * 37 + 23 * (c + 1) + 7 * (l.length : Int)) 5 = false, l.length ≤ 1000, small ((c + 1) * (c + 1)) = true, small (c + 1) = true, decide (c + 1 ≤ (l.length : Int)) = false, l.length ≤ 1000]⟩) := by kernel_rfl
end
noncomputable def drawV (l : List V) (c many : Int) : Int := match decide (c + 1 ≤ (l.length : Int)) with
  | true => drawIn l c many
  | false => drawOut l c many
theorem drawV_range {l : List V} {c many : Int} (h : 0 < many) : 0 ≤ drawV l c many ∧ drawV l c many < many := by
  unfold drawV drawIn drawOut
  split
  · exact ⟨Int.fmod_nonneg_of_pos _ h, Int.fmod_lt_of_pos _ h⟩
  · exact ⟨Int.fmod_nonneg_of_pos _ h, Int.fmod_lt_of_pos _ h⟩
theorem draw_local {D : Wd} (hK : KOk D.K) (l : List V) (c many : Int) (h1 : l.length ≤ 1000) (h2 : ∀ v ∈ l, isSint v) (h3 : 0 ≤ c) (h4 : c ≤ 1000) (h5 : many ≠ 0) : CodeT D 30 (.val 767) [.ref 0, .sint many] (DK l c) (.sint (drawV l c many)) (DK l (c + 1)) := by
  have hc : CfgOk D 0 (cfg1 nil1) := cfg1_ok hK fun _ => OrcOk.none
  have sm : ∀ x : Int, 0 ≤ x → x ≤ 100000000 → small x = true := fun x a b => by
    unfold small
    rw [decide_eq_true (by (first | decide | lia | omega)), decide_eq_true (by (first | decide | lia | omega))]; rfl
  unfold drawV
  cases q : decide (c + 1 ≤ (l.length : Int)) with
  | true =>
    have q' := of_decide_eq_true q
    have := run_code hc (draw_in l c many) (okc h5 (okc ⟨by (first | decide | lia | omega), by (first | decide | lia | omega), h1, h2⟩ (okc q (okc h1 okn))))
    simpa using this
  | false =>
    have b1 : (c + 1) * (c + 1) ≤ 1001 * 1001 := Int.mul_le_mul (by (first | decide | lia | omega)) (by (first | decide | lia | omega)) (by (first | decide | lia | omega)) (by (first | decide | lia | omega))
    have b0 : 0 ≤ (c + 1) * (c + 1) := Int.mul_nonneg (by (first | decide | lia | omega)) (by (first | decide | lia | omega))
    have := run_code hc (draw_out l c many) (okc h5 (okc rfl (okc h1 (okc (sm _ b0 (by (first | decide | lia | omega))) (okc (sm _ (by (first | decide | lia | omega)) (by (first | decide | lia | omega))) (okc q (okc h1 okn)))))))
    simpa using this
noncomputable def liOf (o : O) : Option (List V) := match o with
  | .list l => some l
  | _ => none
theorem liOf_ok {o : O} {l : List V} (h : liOf o = some l) : o = .list l := by
  cases o with
  | list => exact congrArg O.list (Option.some.inj h)
  | _ => exact noneNe h
noncomputable def lookD (H : List O) (d : Nat) : Option (Nat × List V × Int) := ob H[d]? fun o => ob (liOf o) fun vs => ob (un2 vs) fun p => ob (refOf p.1) fun k => ob (sintOf p.2) fun c => ob H[k]? fun o => ob (slOf o) fun l => onT (nodupN [d, k]) (some (k, l, c))
theorem lookD_at {H : List O} {d : Nat} : Post (lookD H d) fun q => (H[d]? = some (.list [.ref q.1, .sint q.2.2]) ∧ H[q.1]? = some (.slist q.2.1)) ∧ [d, q.1].Nodup :=
  .ob fun o h1 => .ob fun vs h2 => .ob fun p h3 => .ob fun k h4 => .ob fun c h5 => .ob fun o' h6 => .ob fun l h7 => .onT fun h8 => .pure ⟨⟨h1.trans (congrArg some ((liOf_ok h2).trans (congrArg O.list (by rw [un2_ok h3, refOf_ok h4, sintOf_ok h5])))), h6.trans (congrArg some (slOf_ok h7))⟩, nodupN_ok h8⟩
theorem partD {H : List O} {d : Nat} {q : Nat × List V × Int} (h : lookD H d = some q) (hs : ∀ v ∈ q.2.1, isSint v) : Part [d, q.1] (DK q.2.1 q.2.2) H :=
  have ⟨⟨a, b⟩, c⟩ := lookD_at _ h
  part_of (.cons a (.one b)) (by show _ = [O.list [.ref q.1, .sint q.2.2], O.slist (q.2.1.map _)]; rw [ren_sints hs]) c
theorem set_id {H : List O} {k : Nat} {o : O} (h : H[k]? = some o) : H.set k o = H := by
  obtain ⟨hl, e⟩ := List.getElem?_eq_some_iff.mp h
  rw [← e]; exact List.set_getElem_self hl
structure DeckOk (l : List V) (c many : Int) : Prop where
  len : l.length ≤ 1000
  sint : ∀ v ∈ l, isSint v
  lo : 0 ≤ c
  hi : c ≤ 1000
  many : many ≠ 0
noncomputable def intArg (v : V) : Option Int := match v with
  | .int i => some i
  | .sint i => some i
  | _ => none
noncomputable def orcE : OrcF := fun a vs σ => sel (Nat.beq a 767) (ob (un2 vs) fun p => ob (refOf p.1) fun d => ob (intArg p.2) fun many => ob (lookD σ.H d) fun q => some (.sint (drawV q.2.1 q.2.2 many), ⟨σ.H.set d (.list [.ref q.1, .sint (q.2.2 + 1)]), σ.ds, DeckOk q.2.1 q.2.2 many :: σ.cs⟩)) (orcD a vs σ)
theorem intArg_ok {μ : Mu} {x : V} {i : Int} {r : Value} (h : intArg x = some i) (hr : RelV μ x r) : RelV μ (.sint i) r := by
  cases x with
  | int => exact Option.some.inj h ▸ hr
  | sint => exact Option.some.inj h ▸ hr
  | _ => exact noneNe h
theorem draw_frame {D : Wd} (hK : KOk D.K) {n : Nat} (hn : 30 ≤ n) {H : List O} {d : Nat} {many : Int} {q : Nat × List V × Int} (hl : lookD H d = some q) (h : DeckOk q.2.1 q.2.2 many) : CodeT D n (.val 767) [.ref d, .sint many] H (.sint (drawV q.2.1 q.2.2 many)) (H.set d (.list [.ref q.1, .sint (q.2.2 + 1)])) := by
  have base := CodeT.frame (G := []) (a := 767) (by rw [List.append_nil]; exact (draw_local hK q.2.1 q.2.2 many h.len h.sint h.lo h.hi h.many).up hn) (partD hl h.sint) rfl
  obtain ⟨⟨_, b⟩, c⟩ := lookD_at _ hl
  have eH : updS [d, q.1] ((DK q.2.1 (q.2.2 + 1)).map (renO (outN [d, q.1] H.length))) H ++ [].map (renO (outN [d, q.1] H.length)) = H.set d (.list [.ref q.1, .sint (q.2.2 + 1)]) := by
    rw [List.map_nil, List.append_nil]
    show (H.set d (.list [.ref q.1, .sint (q.2.2 + 1)])).set q.1 (O.slist (q.2.1.map _)) = _
    rw [ren_sints h.sint]
    exact set_id ((List.getElem?_set_ne (List.rel_of_pairwise_cons c (.head _))).trans b)
  rw [eH] at base
  exact base
theorem orcE_ok {D : Wd} (hK : KOk D.K) {n : Nat} (hn : 120 ≤ n) : OrcOk D n orcE := fun a vs σ v σ' e =>
  (.sel (fun qa => .ob fun p h1 => .ob fun d h2 => .ob fun many h3 => .ob fun q h4 => .pure ⟨⟨[_], rfl⟩, fun ok => by
    rw [Nat.eq_of_beq_eq_true qa, un2_ok h1, refOf_ok h2]
    refine (draw_frame hK (Nat.le_trans (by decide) hn) h4 (ok _ (.head _))).args fun μ rs z => ?_
    cases z with | cons z1 z2 => cases z2 with | cons z2 z3 => exact .cons z1 (.cons (intArg_ok h3 z2) z3)⟩)
  fun _ p h => orcD_ok hK hn _ _ _ _ _ h : Post (orcE a vs σ) (OrcG D n a vs σ)) _ e
end Mine
end
section
open PySem PySem.W PyProof.Rows PySem.Calls PySem.Spec
namespace Mine
section
variable {D : Wd} {n : Nat} {neC : V → NE} {elt c : PySem.Expr} {H : List O}
theorem acc_at {acc : List V} : (H ++ [O.slist acc])[H.length]? = some (accO true acc) := by
  rw [List.getElem?_append_right (Nat.le_refl _), Nat.sub_self]; rfl
theorem acc_set {acc acc' : List V} : (H ++ [O.slist acc]).set H.length (accO true acc') = H ++ [O.slist acc'] := by
  rw [List.set_append_right _ _ (Nat.le_refl _), Nat.sub_self]; rfl
theorem compR_list {k : Nat} {l : List V} {g : V → V} (hk : ∀ acc, seqAt (H ++ [.slist acc]) k = some l) (he : ∀ v ∈ l, ∀ acc, EvT D n (neC v) elt (H ++ [.slist acc]) (g v) (H ++ [.slist acc])) (hl : l.length ≤ 1000) :
    CompR D n neC [] elt true H.length l.length (.list k 0) (H ++ [accO true []]) (H ++ [accO true (l.map g)]) := by
  have main : ∀ (j i : Nat), i + j = l.length → CompR D n neC [] elt true H.length j (.list k i) (H ++ [accO true ((l.take i).map g)]) (H ++ [accO true (l.map g)]) := by
    intro j
    induction j with
    | zero =>
      intro i hi
      have hd : nextV (H ++ [accO true ((l.take i).map g)]) (.list k i) = some none := by
        show (match seqAt (H ++ [O.slist _]) k with | some l => _ | none => _) = _
        rw [hk]
        show (match l[i]? with | some v => _ | none => _) = _
        rw [List.getElem?_eq_none (by (first | decide | lia | omega))]
      have e : (l.take i).map g = l.map g := by rw [List.take_of_length_le (by (first | decide | lia | omega))]
      rw [e] at hd ⊢
      exact .done hd
    | succ j ih =>
      intro i hi
      have hil : i < l.length := by (first | decide | lia | omega)
      have hx : nextV (H ++ [accO true ((l.take i).map g)]) (.list k i) = some (some (l[i], .list k (i + 1))) := by
        show (match seqAt (H ++ [O.slist _]) k with | some l => _ | none => _) = _
        rw [hk]
        show (match l[i]? with | some v => _ | none => _) = _
        rw [List.getElem?_eq_getElem hil]
      refine .pass hx .nil (he l[i] (List.getElem_mem hil) _) acc_at (by rw [List.length_map, List.length_take]; (first | decide | lia | omega)) ?_
      rw [acc_set]
      have e : (l.take i).map g ++ [g l[i]] = (l.take (i + 1)).map g := by rw [List.take_succ_eq_append_getElem hil, List.map_append]; rfl
      rw [e]
      exact ih (i + 1) (by (first | decide | lia | omega))
  exact main l.length 0 (by (first | decide | lia | omega))
theorem compR_str {x : Str} {g : Nat → V} (he : ∀ ch ∈ x.cps.toList, ∀ acc, EvT D n (neC (.str ⟨#[ch]⟩)) elt (H ++ [.slist acc]) (g ch) (H ++ [.slist acc])) (hl : x.cps.size ≤ 1000) :
    CompR D n neC [] elt true H.length x.cps.size (.str x 0) (H ++ [accO true []]) (H ++ [accO true (x.cps.toList.map g)]) := by
  have main : ∀ (j i : Nat), i + j = x.cps.toList.length → CompR D n neC [] elt true H.length j (.str x i) (H ++ [accO true ((x.cps.toList.take i).map g)]) (H ++ [accO true (x.cps.toList.map g)]) := by
    intro j
    induction j with
    | zero =>
      intro i hi
      have hd : nextV (H ++ [accO true ((x.cps.toList.take i).map g)]) (.str x i) = some none := by
        show (match x.cps[i]? with | some c => _ | none => _) = _
        rw [Array.getElem?_eq_none (by rw [← Array.length_toList]; (first | decide | lia | omega))]
      have e : (x.cps.toList.take i).map g = x.cps.toList.map g := by rw [List.take_of_length_le (by (first | decide | lia | omega))]
      rw [e] at hd ⊢
      exact .done hd
    | succ j ih =>
      intro i hi
      have hil : i < x.cps.toList.length := by (first | decide | lia | omega)
      have hx : nextV (H ++ [accO true ((x.cps.toList.take i).map g)]) (.str x i) = some (some (.str ⟨#[x.cps.toList[i]]⟩, .str x (i + 1))) := by
        show (match x.cps[i]? with | some c => _ | none => _) = _
        rw [← Array.getElem?_toList, List.getElem?_eq_getElem hil]
      refine .pass hx .nil (he _ (List.getElem_mem hil) _) acc_at (by rw [List.length_map, List.length_take, Array.length_toList] at *; (first | decide | lia | omega)) ?_
      rw [acc_set]
      have e : (x.cps.toList.take i).map g ++ [g x.cps.toList[i]] = (x.cps.toList.take (i + 1)).map g := by rw [List.take_succ_eq_append_getElem hil, List.map_append]; rfl
      rw [e]
      exact ih (i + 1) (by (first | decide | lia | omega))
  have := main x.cps.toList.length 0 (by (first | decide | lia | omega))
  rw [Array.length_toList] at this
  exact this
noncomputable def passed (p : Nat → Bool) (N : Nat) : List V := ((List.range N).filter p).map fun i => .sint ((i : Nat) : Int)
theorem compR_filter {N : Nat} {p : Nat → Bool} (ht : ∀ i, i < N → ∀ acc, TrT D n (neC (.int (i : Int))) c (H ++ [.slist acc]) (p i) (H ++ [.slist acc])) (he : ∀ i, i < N → ∀ acc, EvT D n (neC (.int (i : Int))) elt (H ++ [.slist acc]) (.sint (i : Int)) (H ++ [.slist acc])) (hl : N ≤ 1000) :
    CompR D n neC [c] elt true H.length N (.range 0 N) (H ++ [accO true []]) (H ++ [accO true (passed p N)]) := by
  have main : ∀ (j i : Nat), i + j = N → CompR D n neC [c] elt true H.length j (.range (i : Int) j) (H ++ [accO true (passed p i)]) (H ++ [accO true (passed p N)]) := by
    intro j
    induction j with
    | zero =>
      intro i hi
      have e : i = N := by (first | decide | lia | omega)
      subst e
      exact .done rfl
    | succ j ih =>
      intro i hi
      have hlen : (passed p i).length ≤ 1000 := by
        unfold passed
        rw [List.length_map]
        have h1 := List.length_filter_le p (List.range i)
        rw [List.length_range] at h1
        (first | decide | lia | omega)
      have hnext := ih (i + 1) (by (first | decide | lia | omega))
      have ei : ((i : Int) + 1) = ((i + 1 : Nat) : Int) := by (first | decide | lia | omega)
      cases hp : p i with
      | true =>
        have t := ht i (by (first | decide | lia | omega)) (passed p i)
        rw [hp] at t
        refine .pass rfl (.one t) (he i (by (first | decide | lia | omega)) _) acc_at hlen ?_
        rw [acc_set]
        have e : passed p i ++ [V.sint (i : Int)] = passed p (i + 1) := by
          unfold passed
          rw [List.range_succ, List.filter_append, List.map_append]
          simp [hp]
        rw [e, ei]
        exact hnext
      | false =>
        have t := ht i (by (first | decide | lia | omega)) (passed p i)
        rw [hp] at t
        refine .fail rfl (.one t) ?_
        have e : passed p i = passed p (i + 1) := by
          unfold passed
          rw [List.range_succ, List.filter_append, List.map_append]
          simp [hp]
        rw [ei]
        have : (H ++ [O.slist (passed p i)]) = H ++ [accO true (passed p (i + 1))] := by rw [← e]; rfl
        rw [this]
        exact hnext
  have := main N 0 (by (first | decide | lia | omega))
  exact this
end
end Mine
end
section
open PySem PySem.W PyProof.Rows PySem.Calls PySem.Spec
namespace Mine
noncomputable def isIntV : V → Prop
  | .int _ => True
  | .sint _ => True
  | _ => False
theorem isSint.isInt {v : V} (h : isSint v) : isIntV v := by
  rw [isSint_eq h]; trivial
theorem intsAre_of {μ : Mu} {l : List V} {its : List Value} (h : RelVs μ l its) (hi : ∀ v ∈ l, isIntV v) : IntsAre its (l.map intOf) := by
  induction h with
  | nil => exact .nil
  | @cons v r l k a _ ih =>
    have hv := hi v (.head _)
    have ht := ih fun u hu => hi u (.tail _ hu)
    cases v with
    | int i => obtain ⟨t, rfl⟩ := a; exact .cons _ _ ht
    | sint i => obtain ⟨t, rfl⟩ := a; exact .cons _ _ ht
    | _ => exact hv.elim
noncomputable def pairOf (H : List O) (l : List V) : Option (Int × Int) := ob (un1 l) fun v => ob (tupAt H v) fun vs => ob (un2 vs) fun p => ob (intArg p.1) fun x => ob (intArg p.2) fun y => some (x, y)
noncomputable def pairD (p : Int × Int) : PyData := .list [.tuple [.int p.1, .int p.2]]
noncomputable def neInts (l l' : List V) : V × List Prop := (.sbool (!decide (l.map intOf = l'.map intOf)), [∀ v ∈ l, isIntV v, ∀ v ∈ l', isIntV v])
noncomputable def inIntV (x : Int) (b : V) (H : List O) : Option (Bool × List Prop) := ob (refOf b) fun k => ob (slAt H k) fun l => some (anyI (l.map intOf) x, [∀ v ∈ l, isIntV v])
noncomputable def corc2 (op : CmpOp) (a b : V) (σ : Sg) : Option (V × List Prop) := match op with
  | .NotEq => ob (lstAt σ.H b) fun y => ob (lstAt σ.H a) fun x => sel (x.2 && y.2) (ob (pairOf σ.H x.1) fun p => ob (pairOf σ.H y.1) fun q => some (.sbool (!PyData.eqv (pairD p) (pairD q)), [])) (onF (y.2 && isNilV y.1) (some (neInts x.1 y.1)))
  | .In => ob (intArg a) fun x => ob (inIntV x b σ.H) fun p => some (.sbool p.1, p.2)
  | .NotIn => ob (intArg a) fun x => ob (inIntV x b σ.H) fun p => some (.sbool (!p.1), p.2)
  | _ => none
theorem any_ints (x : Int) : ∀ l : List Int, (l.map PyData.int).any (fun y => PyData.eqv y (.int x)) = anyI l x
  | [] => rfl
  | y :: r => by
    rw [List.map_cons, List.any_cons, any_ints x r]
    show _ = (match decide (y = x) with | true => true | false => anyI r x)
    have : PyData.eqv (.int y) (.int x) = decide (y = x) := by
      simp [PyData.eqv]
      rfl
    rw [this]
    cases decide (y = x) <;> rfl
section
variable {D : Wd} {n : Nat}
theorem intArg_rel {μ : Mu} {a : V} {x : Int} {r : Value} (h : intArg a = some x) (hr : RelV μ a r) : ∃ t, r = .int x t := by
  cases a with
  | int => exact Option.some.inj h ▸ hr
  | sint => exact Option.some.inj h ▸ hr
  | _ => exact noneNe h
theorem pairOf_ok {fx : Fx} {μ : Mu} {H : List O} {m : Str → Option Value} {rest : Ledger} {s : Shared} {l : List V} {p : Int × Int} {ad : Addr} {its : List Value} (e : pairOf H l = some p) (S : StD D fx μ H m rest s.heap) (hl : s.heap.IsList ad its.toArray) (hr : RelVs μ l its) : ∃ as, Reads s.heap (.ref ad) (pairD p) as :=
  ob_ e fun v h1 e => ob_ e fun vs h2 e => ob_ e fun q h3 e => ob_ e fun x h4 e => ob_ e fun y h5 e => by
    cases e
    rw [un1_ok h1] at hr
    cases hr with | cons r1 r2 =>
    cases r2
    obtain ⟨at', its2, rfl, g', r3⟩ := tupAt_ok h2 S r1
    rw [un2_ok h3] at r3
    cases r3 with | cons r4 r5 =>
    cases r5 with | cons r5 r6 =>
    cases r6
    obtain ⟨t1, rfl⟩ := intArg_rel h4 r4
    obtain ⟨t2, rfl⟩ := intArg_rel h5 r5
    obtain ⟨o, g1, g2, n1, g3⟩ := hl
    obtain ⟨o', g1', g2', n1', g3'⟩ := g'
    exact ⟨_, .list g1 g2 g3 (.cons (.tuple g1' g2' g3' (.cons (.int _ _) (.cons (.int _ _) .nil))) .nil)⟩
noncomputable def InP (fx : Fx) (μ : Mu) (H : List O) (m : Str → Option Value) (rest : Ledger) (s : Shared) (x : Int) (rb : Value) (D : Wd) (p : Bool × List Prop) : Prop := (∀ c ∈ p.2, c) → ∃ l as, Reads s.heap rb (.list (l.map PyData.int)) as ∧ p.1 = anyI l x
theorem inIntV_post {fx : Fx} {μ : Mu} {H : List O} {m : Str → Option Value} {rest : Ledger} {s : Shared} {x : Int} {b : V} {rb : Value} (S : StD D fx μ H m rest s.heap) (hb : RelV μ b rb) : Post (inIntV x b H) (InP fx μ H m rest s x rb D) :=
  .ob fun k h1 => .ob fun l h2 => .pure fun ok => by
    rw [refOf_ok h1] at hb
    obtain ⟨ad, its, rfl, g, r⟩ := lstAt_ok (H := H) (a := .ref k) (l := l) (k := false) (by show ob H[k]? _ = _; rw [slAt_ok h2]; rfl) S hb
    obtain ⟨o, g1, g2, n1, g3⟩ := g
    exact ⟨_, _, .list g1 g2 g3 (IntsAre.reads _ (intsAre_of r (ok _ (.head _)))), rfl⟩
noncomputable def CorcP (D : Wd) (n : Nat) (op : CmpOp) (a b : V) (σ : Sg) (p : V × List Prop) : Prop := (∀ c ∈ p.2, c) → ∀ {fx : Fx} {dp un : Nat} {μ : Mu} {m : Str → Option Value} {rest : Ledger} {s : Shared} {Q : Value → Shared → Prop} {ra rb : Value},
  fx.Ok D → Room n dp un → StD D fx μ σ.H m rest s.heap → RelV μ a ra → RelV μ b rb → PostG D fx σ.H (relV p.1) μ m rest s Q → wpAny (model D.prog D.w) (fx.A dp un) (compareOp op ra rb) Q NoE s
theorem un_ok {n dp un : Nat} (hn : 20 ≤ n) (room : Room n dp un) : un + 64 < cLine := by
  have := (room.le hn).2
  (first | decide | lia | omega)
theorem un_ok1 {un : Nat} (h : un + 64 < cLine) : un + 1 + min 0 0 < cLine := by
  show un + 1 + 0 < cLine
  (first | decide | lia | omega)
theorem corc2_post (hn : 20 ≤ n) {op : CmpOp} {a b : V} {σ : Sg} : Post (corc2 op a b σ) (CorcP D n op a b σ) := by
  cases op with
  | NotEq =>
    refine .ob fun y h2 => .ob fun x h1 => .sel (fun _ => .ob fun p hp => .ob fun q hq => .pure fun _ {fx dp un μ m rest s Q ra rb} okx room S ha hb P => ?_) fun _ => .onF fun _ => .pure fun ok {fx dp un μ m rest s Q ra rb} okx room S ha hb P => ?_
    · obtain ⟨ad, its, rfl, g1, g2⟩ := lstAt_ok h1 S ha
      obtain ⟨ad', its', rfl, g1', g2'⟩ := lstAt_ok h2 S hb
      obtain ⟨as, r1⟩ := pairOf_ok hp S g1 g2
      obtain ⟨bs, r2⟩ := pairOf_ok hq S g1' g2'
      exact SeqAt.compareNe_shaped r1 r2 rfl rfl (un_ok hn room) (P.here' rfl S)
    · obtain ⟨ad, its, rfl, g1, g2⟩ := lstAt_ok h1 S ha
      obtain ⟨ad', its', rfl, g1', g2'⟩ := lstAt_ok h2 S hb
      exact ke_ne_ints g1 g1' (intsAre_of g2 (ok _ (.head _))) (intsAre_of g2' (ok _ (.tail _ (.head _)))) (un_ok hn room) (P.here' rfl S)
  | In =>
    refine .ob fun x h1 => .ob fun p hp => .pure fun ok {fx dp un μ m rest s Q ra rb} okx room S ha hb P => ?_
    obtain ⟨t, rfl⟩ := intArg_rel h1 ha
    obtain ⟨l, as, h3, e⟩ := inIntV_post S hb _ hp ok
    refine SeqAt.in_list_reads h3 (.int x t) (ke_canLayAll0 _) rfl (by rw [ke_depthAll]; exact un_ok1 (un_ok hn room)) ?_
    rw [any_ints]
    exact P.here' (congrArg Value.bool e.symm) S
  | NotIn =>
    refine .ob fun x h1 => .ob fun p hp => .pure fun ok {fx dp un μ m rest s Q ra rb} okx room S ha hb P => ?_
    obtain ⟨t, rfl⟩ := intArg_rel h1 ha
    obtain ⟨l, as, h3, e⟩ := inIntV_post S hb _ hp ok
    refine SeqAt.notIn_list_reads h3 (.int x t) (ke_canLayAll0 _) rfl (by rw [ke_depthAll]; exact un_ok1 (un_ok hn room)) ?_
    rw [any_ints]
    exact P.here' (congrArg (fun b => Value.bool (!b)) e.symm) S
  | _ => exact .none
theorem corc2_ok (hn : 20 ≤ n) : COrcOk D n corc2 := fun _ _ _ _ _ _ e => corc2_post hn _ e
end
end Mine
end
section
open PySem PySem.W PyProof.Rows PySem.Calls PySem.Spec
namespace Mine
noncomputable def lawSt (i : Nat) : Stmt := (F784.body[i]?).getD (.Pass default)
noncomputable def eltOf : PySem.Expr → PySem.Expr
  | .ListComp e _ _ _ => e
  | e => e
noncomputable def genOf : PySem.Expr → List Comprehension
  | .ListComp _ g _ _ => g
  | _ => []
noncomputable def scOf : PySem.Expr → Scope
  | .ListComp _ _ s _ => s
  | _ => F784.scope
noncomputable def itOf (e : PySem.Expr) : PySem.Expr := match genOf e with
  | [g] => g.iter
  | _ => e
noncomputable def tsOf (e : PySem.Expr) : List PySem.Expr := match genOf e with
  | [g] => g.ifs
  | _ => []
noncomputable def nmOf (e : PySem.Expr) : Str := match genOf e with
  | [⟨.Name x _, _, _, _⟩] => x
  | _ => emptyS
noncomputable def npOf (e : PySem.Expr) : Pos := match genOf e with
  | [⟨.Name _ p, _, _, _⟩] => p
  | _ => default
noncomputable def psOf (e : PySem.Expr) : Pos := match e with
  | .ListComp _ _ _ p => p
  | _ => default
noncomputable def pinLo (line col : Nat) (ne0 : NE) (e0 : PySem.Expr) (H0 : List O) (d : Nat) (H' : List O) (next : LO) : LO := fun ne e σ => sel (Nat.beq (psOf e).line line && Nat.beq (psOf e).col col) (some (d, ⟨H', σ.ds, (ne = ne0 ∧ e = e0 ∧ σ.H = H0) :: σ.cs⟩)) (next ne e σ)
theorem pinLo_ok {D : Wd} {n line col : Nat} {ne0 : NE} {e0 : PySem.Expr} {H0 H' : List O} {d : Nat} {next : LO} (c : CompT D n ne0 e0 H0 d H') (hn : LOrcOk D n next) : LOrcOk D n (pinLo line col ne0 e0 H0 d H' next) := fun ne e σ d' σ' h =>
  (.sel (fun _ => .pure ⟨⟨[_], rfl⟩, fun ok => by
    obtain ⟨rfl, e2, e3⟩ := ok _ (.head _)
    rw [e2, e3]
    exact c⟩) fun _ p h => hn _ _ _ _ _ h : Post (pinLo line col ne0 e0 H0 d H' next ne e σ) fun p => σ.le p.2 ∧ (p.2.ok → CompT D n ne e σ.H p.1 p.2.H)) _ h
noncomputable def noLo : LO := fun _ _ _ => none
theorem noLo_ok {D : Wd} {n : Nat} : LOrcOk D n noLo := fun _ _ _ _ _ h => by cases h
noncomputable def sorcS (a b : V) (σ : Sg) : Option (V × Sg) := ob (refOf a) fun k => ob (sintOf b) fun j => ob σ.H[k]? fun o => ob (slOf o) fun l => some (.sstr (strOfV (l.getD j.toNat .none)), ⟨σ.H, σ.ds, (0 ≤ j ∧ j < l.length ∧ l.length ≤ 1000 ∧ ∀ v ∈ l, isSstr v) :: σ.cs⟩)
theorem sorcS_ok {D : Wd} (n : Nat) : SOrcOk D n sorcS := fun a b σ v σ' e => (.ob fun k hk => .ob fun j hj => .ob fun o ho => .ob fun l hl => .pure (refOf_ok hk ▸ sintOf_ok hj ▸ sorc_item (.inr (ho.trans (congrArg some (slOf_ok hl)))) (fun _ _ => id)
  fun ⟨h0, h1, h2, h3⟩ => ⟨h0, h1, h2, (get_in (toNat_lt h0 h1)).trans (congrArg some (isSstr_eq (h3 _ (getD_mem (toNat_lt h0 h1)))))⟩) : Post (sorcS a b σ) (SorcP D n a b σ)) _ e
noncomputable def orcL : Orc := ⟨fun _ _ _ => none, corc2, sorc1⟩
noncomputable def orcS : Orc := ⟨fun _ _ _ => none, corc2, sorcS⟩
theorem orcL_ok {D : Wd} {n : Nat} (hn : 20 ≤ n) : OrOk D n orcL := ⟨fun _ _ _ _ _ h => (by cases h), corc2_ok hn, sorc1_ok n⟩
theorem orcS_ok {D : Wd} {n : Nat} (hn : 20 ≤ n) : OrOk D n orcS := ⟨fun _ _ _ _ _ h => (by cases h), corc2_ok hn, sorcS_ok n⟩
noncomputable def cfgX (o : Orc) (orc : OrcF) (lo : LO) : Cfg := ⟨tabs orc, kt, o, fun _ _ _ => none, lo⟩
theorem cfgX_ok {D : Wd} (hK : KOk D.K) {n : Nat} {o : Orc} {orc : OrcF} {lo : LO} (hor : ∀ k, OrOk D (n + k) o) (ho : ∀ k, OrcOk D (n + k) orc) (hlo : ∀ k, LOrcOk D (n + k) lo) : CfgOk D n (cfgX o orc lo) where
  T := tabs_ok hK _
  orc := ho
  kt := kt_ok hK
  o := hor
  xo := fun _ _ _ _ _ _ _ h => by cases h
  lo := hlo
noncomputable abbrev cfgL (orc : OrcF) (lo : LO) : Cfg := cfgX orcL orc lo
theorem cfgL_ok {D : Wd} (hK : KOk D.K) {n : Nat} {orc : OrcF} {lo : LO} (hn : 20 ≤ n) (ho : ∀ k, OrcOk D (n + k) orc) (hlo : ∀ k, LOrcOk D (n + k) lo) : CfgOk D n (cfgL orc lo) := cfgX_ok hK (fun k => orcL_ok (by (first | decide | lia | omega))) ho hlo
theorem CompT.up {D : Wd} {n n' : Nat} {ne : NE} {e : PySem.Expr} {H H' : List O} {d : Nat} (h : n ≤ n') (c : CompT D n ne e H d H') : CompT D n' ne e H d H' := by
  obtain ⟨elt, x, px, iter, tests, scope, pos, cellsC, b, k, it, v, σ₁, σ₂, e0, so, oi, fc, e1, e2, ok, R, ed⟩ := c
  have ue : ∀ {ne : NE} {e : PySem.Expr} {H H' : List O} {v : V}, EvT D n ne e H v H' → EvT D n' ne e H v H' := fun c fx env dp un μ m rest s Q okx room eo S P => c fx env dp un μ m rest s Q okx (room.le h) eo S P
  have ut : ∀ {ne : NE} {e : PySem.Expr} {H H' : List O} {b : Bool}, TrT D n ne e H b H' → TrT D n' ne e H b H' := fun c fx env dp un μ m rest s Q okx room eo S P => c fx env dp un μ m rest s Q okx (room.le h) eo S P
  have uR : ∀ {k : Nat} {it : It} {H H' : List O} {neC : V → NE} {d : Nat}, CompR D n neC tests elt b d k it H H' → CompR D n' neC tests elt b d k it H H' := by
    intro k it H H' neC d R
    induction R with
    | done h => exact .done h
    | pass a b c d e _ ih => exact .pass a (b.up h) (ue c) d e ih
    | fail a b _ ih => exact .fail a (b.up h) ih
  exact ⟨elt, x, px, iter, tests, scope, pos, cellsC, b, k, it, v, σ₁, σ₂, e0, so, oi, fc, ue e1, e2, ok, uR R, ed⟩
noncomputable def ExB (D : Wd) (n : Nat) (ne : NE) (n0 : Nat) (ss : List Stmt) (H : List O) (fl : Fl) (l' : LR) (H' : List O) : Prop :=
  ∀ (fx : Fx) (dp un : Nat) (μ more : Mu) (m : Str → Option Value) (rest : Ledger) (s : Shared) (Q : Flow → Shared → Prop), μ.length = n0 → Fx.Ok D fx → Room n dp un → fx.cs.names = ne.names → LocsOk (μ ++ more) m ne.locs → CellsOk μ fx.cl ne.cells →
    StD D fx (μ ++ more) H m rest s.heap → PostF D fx H' fl l' μ rest s Q → wpAny (model D.prog D.w) (fx.A dp un) (execs ss fx.env) Q NoE s
section
variable {D : Wd} {n n0 : Nat} {ne : NE}
theorem ExB.nil {H : List O} : ExB D n ne n0 [] H .next ne.locs H := fun fx dp un μ more m rest s Q e okx room hn hl hc S P => wpAny_execs_nil (P .next more s.heap s.toks m rfl hl S)
theorem ExB.cons {st : Stmt} {ss : List Stmt} {H H₁ H₂ H' : List O} {l₁ l₂ l' : LR} {fl : Fl} (a : StT D n ne st H .next l₁ H₁) (p : PickOk n0 H₁ l₁ H₂ l₂) (b : ExB D n (ne.withL l₂) n0 ss H₂ fl l' H') : ExB D n ne n0 (st :: ss) H fl l' H' := by
  intro fx dp un μ more m rest s Q e okx room hn hl hc S P
  refine wpAny_execs_cons (a fx dp un (μ ++ more) m rest s _ okx room hn hl hc.ext S fun f more1 h' tk' m' hf' hl' S' => ?_)
  have hf' : f = .next := hf'
  subst hf'
  rw [List.append_assoc] at S' hl'
  obtain ⟨more2, S2, hl2⟩ := p D fx μ _ m' rest h' e S' hl'
  exact b fx dp un μ more2 m' rest _ _ e okx room hn hl2 hc S2 fun f more h tk m hf hl S => P f more h tk m hf hl S
theorem ExB.ofT {ss : List Stmt} {H H' : List O} {l' : LR} {fl : Fl} (a : ExT D n ne ss H fl l' H') : ExB D n ne n0 ss H fl l' H' := by
  intro fx dp un μ more m rest s Q e okx room hn hl hc S P
  exact a fx dp un (μ ++ more) m rest s Q okx room hn hl hc.ext S fun f more1 h' tk' m' hf' hl' S' => by
    rw [List.append_assoc] at S' hl' hf'
    exact P f (more ++ more1) h' tk' m' hf' hl' S'
theorem ExB.toT {ss : List Stmt} {H H' : List O} {l' : LR} {fl : Fl} (a : ExB D n ne H.length ss H fl l' H') : ExT D n ne ss H fl l' H' := by
  intro fx dp un μ m rest s Q okx room hn hl hc S P
  exact a fx dp un μ [] m rest s Q S.len okx room hn (by rw [List.append_nil]; exact hl) hc (by rw [List.append_nil]; exact S) P
end
theorem PickOk.conv {n0 d : Nat} {o o' : O} {H : List O} {l : LR} (e : H[d]? = some o) (c : ∀ (D : Wd) (μ : Mu) (led : Ledger) (p : Addr × Addr), ObjIn D.prog D.w μ led p o → ObjIn D.prog D.w μ led p o') : PickOk n0 H l (H.set d o') l := fun D _ _ more _ _ _ _ S hl => ⟨more, S.conv e fun led p x => c D _ led p x, hl⟩

noncomputable def LocsW (l l' : LR) : Prop := ∀ x v', lkS l' (code x) = some v' → ∃ v, lkS l (code x) = some v ∧ ∀ μ r, RelV μ v r → RelV μ v' r
theorem LocsW.ok {μ : Mu} {m : Str → Option Value} {l l' : LR} (w : LocsW l l') (h : LocsOk μ m l) : LocsOk μ m l' := fun x v e => by
  obtain ⟨v0, e0, r⟩ := w x v e
  obtain ⟨u, h1, h2⟩ := h x v0 e0
  exact ⟨u, h1, r _ _ h2⟩
theorem LocsW.refl {l : LR} : LocsW l l := fun x v e => ⟨v, e, fun _ _ h => h⟩
theorem LocsW.nil {l : LR} : LocsW l [] := fun x v e => by cases e
theorem LocsW.cons {l l' : LR} {x : Str} {v v' : V} (h : ∀ μ r, RelV μ v r → RelV μ v' r) (w : LocsW l l') : LocsW ((x, v) :: l) ((x, v') :: l') := fun y u e => by
  unfold lkS at e ⊢
  cases q : Nat.beq (code x) (code y) with
  | true => rw [q] at e; cases e; exact ⟨v, rfl, h⟩
  | false => rw [q] at e; exact w y u e
theorem PickOk.locsW {n0 : Nat} {H : List O} {l l' : LR} (w : LocsW l l') : PickOk n0 H l H l' := fun _ _ _ more _ _ _ _ S hl => ⟨more, S, w.ok hl⟩
theorem EnvOk.weak {fx : Fx} {e : Env} {names : List (Str × NameKind)} {l l' : LR} {cells : List (Str × Nat)} {μ : Mu} {m : Str → Option Value} {rest : Ledger} (w : LocsW l l') (x : EnvOk fx e ⟨names, l, cells⟩ μ m rest) : EnvOk fx e ⟨names, l', cells⟩ μ m rest :=
  ⟨x.kind, x.glob, x.blt, x.nam, x.loc.imp (fun h => ⟨h.1, w.ok h.2⟩) fun ⟨a, b, h1, h2, h3⟩ => ⟨a, b, h1, h2, w.ok h3⟩, x.cel⟩
section
variable {D : Wd} {n : Nat} {names : List (Str × NameKind)} {l l' : LR} {cells : List (Str × Nat)}
theorem TrT.weak {e : PySem.Expr} {H H' : List O} {b : Bool} (w : LocsW l l') (c : TrT D n ⟨names, l', cells⟩ e H b H') : TrT D n ⟨names, l, cells⟩ e H b H' := fun fx env dp un μ m rest s Q okx room eo S P => c fx env dp un μ m rest s Q okx room (eo.weak w) S P
end
theorem AsgT.weak {D : Wd} {n : Nat} {ne : NE} {t : PySem.Expr} {v : V} {H H' : List O} {l l' : LR} (w : LocsW l l') (c : AsgT D n ne t v H l H') : AsgT D n ne t v H l' H' := fun fx dp un μ m rest s Q rv okx room hn hl hc S hr P => c fx dp un μ m rest s Q rv okx room hn hl hc S hr fun more h' tk' m' hl' S' => P more h' tk' m' (w.ok hl') S'
section
variable {D : Wd} {n n' : Nat} {ne : NE}
theorem StT.up {st : Stmt} {H H' : List O} {fl : Fl} {l : LR} (h : n ≤ n') (c : StT D n ne st H fl l H') : StT D n' ne st H fl l H' := fun fx dp un μ m rest s Q okx room hn hl hc S P => c fx dp un μ m rest s Q okx (room.le h) hn hl hc S P
theorem ExT.up {st : List Stmt} {H H' : List O} {fl : Fl} {l : LR} (h : n ≤ n') (c : ExT D n ne st H fl l H') : ExT D n' ne st H fl l H' := fun fx dp un μ m rest s Q okx room hn hl hc S P => c fx dp un μ m rest s Q okx (room.le h) hn hl hc S P
theorem EvT.up {e : PySem.Expr} {H H' : List O} {v : V} (h : n ≤ n') (c : EvT D n ne e H v H') : EvT D n' ne e H v H' := fun fx env dp un μ m rest s Q okx room eo S P => c fx env dp un μ m rest s Q okx (room.le h) eo S P
theorem EvT.val {e : PySem.Expr} {H H' : List O} {v v' : V} (w : ∀ μ r, RelV μ v r → RelV μ v' r) (c : EvT D n ne e H v H') : EvT D n ne e H v' H' := fun fx env dp un μ m rest s Q okx room eo S P => c fx env dp un μ m rest s Q okx room eo S fun r more h' tk' hr S' => P r more h' tk' (w _ _ hr) S'
theorem AsgT.up {t : PySem.Expr} {v : V} {H H' : List O} {l : LR} (h : n ≤ n') (c : AsgT D n ne t v H l H') : AsgT D n' ne t v H l H' := fun fx dp un μ m rest s Q rv okx room hn hl hc S hr P => c fx dp un μ m rest s Q rv okx (room.le h) hn hl hc S hr P
theorem ItT.up {e : PySem.Expr} {it : It} {H H' : List O} (h : n ≤ n') (c : ItT D n ne e H it H') : ItT D n' ne e H it H' := fun fx env dp un μ m rest s Q okx room eo S P => c fx env dp un μ m rest s Q okx (room.le h) eo S P
end
theorem CodeT.ofBody {D : Wd} {n : Nat} {f : Addr} {F : Fn} {vs : List V} {H H' : List O} {v : V} {l : LR} {binds : List (Str × V)} {cn : List Str} (fo : FnOk D f F) (hlo : Nat.ble F.params.length (vs.length + F.dflt.length) = true) (hhi : Nat.ble vs.length F.params.length = true)
    (hb : bindsF F vs = binds) (hcn : cellsOf F.scope.names [] = cn)
    (b : ExT D n ⟨F.scope.names, onlyLocals F.scope.names binds, numCells cn H.length⟩ F.body (H ++ cn.map fun n => .cell (lkS binds (code n))) (.ret v) l H') : CodeT D (n + 1) (.val f) vs H v H' := code_run fo hlo hhi hb hcn rfl b
noncomputable def gcV (n0 : Nat) (H : List O) (v : V) : Option (List O × V × List Prop) := ob (gcA n0 H [("r", v)] (reach n0 H 900 (refsV v ++ refsH n0 H) [])) fun p => ob (un1 p.2.1) fun q => some (p.1, q.2, p.2.2)
theorem CodeT.pick {D : Wd} {n : Nat} {f : V} {vs : List V} {H H' : List O} {v : V} (c : CodeT D n f vs H v H') : Post (gcV H.length H' v) fun p => (∀ c ∈ p.2.2, c) → CodeT D n f vs H p.2.1 p.1 := by
  refine .ob fun p h1 => .ob fun q h2 => .pure fun ok fx dp un μ m rest s R fr rs okx room S hf hv P => ?_
  refine c fx dp un μ m rest s R fr rs okx room S hf hv fun r more h' tk' hr S' => ?_
  obtain ⟨pk, back, hm⟩ := gcA_pick _ h1 ok S.len S'
  rw [un1_ok h2] at hm
  refine ob_ hm fun v' h3 hm => P r _ h' tk' (RelV.unren back ?_) pk
  have e : v' = q.2 := by cases hm; rfl
  rw [← e, mvV_ok (g := oldN H.length _ H'.length) (fun _ _ => newN_ok) h3]
  exact hr
theorem CodeT.conv {D : Wd} {n d : Nat} {f : V} {vs : List V} {H H' : List O} {v : V} {o o' : O} (c : CodeT D n f vs H v H') (e : H'[d]? = some o) (w : ∀ (D : Wd) (μ : Mu) (led : Ledger) (p : Addr × Addr), ObjIn D.prog D.w μ led p o → ObjIn D.prog D.w μ led p o') : CodeT D n f vs H v (H'.set d o') := fun fx dp un μ m rest s R fr rs okx room S hf hv P =>
  c fx dp un μ m rest s R fr rs okx room S hf hv fun r more h' tk' hr S' => P r more h' tk' hr (S'.conv e fun led p x => w D _ led p x)
theorem StT.ifF {D : Wd} {n : Nat} {ne : NE} {t : PySem.Expr} {b : List Stmt} {pos : Pos} {H H' : List O} (c : TrT D n ne t H false H') : StT D n ne (.If t b [] pos) H .next ne.locs H' := by
  intro fx dp un μ m rest s Q okx room hn hl hc S P
  refine wpAny_If (c fx fx.env dp un μ m rest s _ okx room (.ofFn okx hn hl hc) S fun c more h' tk' hcc S' => ?_)
  have hc' : c = false := hcc
  subst hc'
  simp only [Bool.false_eq_true, if_false]
  exact wpAny_execs_nil (P .next more h' tk' m rfl hl.ext S')
theorem relVs_ints {μ : Mu} {its : List Value} {ns : List Int} (h : IntsAre its ns) : RelVs μ (ns.map V.sint) its := by
  induction h with
  | nil => exact .nil
  | cons n t h ih => exact .cons ⟨t, rfl⟩ ih
theorem ev_uptoX {D : Wd} {n : Nat} {ne : NE} {x : Str} {xp sp pos cp : Pos} {j : Int} {ck nn : Nat} {H : List O} {a : Addr} {o : Obj} {its : List Value} {ns : List Int} (h1 : EvT D n ne (.Name x xp) H (.val a) H) (hk : (a, o) ∈ D.ex) (hc : o.cls = .type "list") (hd : o.data = .seq its.toArray nn) (hI : IntsAre its ns) (hj : 0 ≤ j) (hl : ns.length ≤ 1000) :
    EvT D n ne (.Subscript (.Name x xp) (.Slice none (some (.Constant (.int j) ck cp)) none sp) pos) H (.ref H.length) (H ++ [.slist ((ns.map V.sint).take j.toNat)]) := by
  intro fx env dp un μ m rest s Q okx room eo S P
  refine Subscript_ (h1 fx env dp un μ m rest s _ okx room eo S fun ra more h' tk' ha S' => ?_)
  refine wpAny_Slice (wpAny_pure ?_)
  refine evalPart_some_step ?_
  refine evConst_ok (c := .int j) (k := ck) (pos := cp) (v := .int j) (μ := μ) rfl fun rj tkj hrj => ?_
  refine evalPart_none_step ?_
  obtain ⟨tj, rfl⟩ := hrj
  have ha' : ra = .ref a := ha
  subst ha'
  have hg : h'.get? a = some o := S'.fr.keep _ _ (okx.M _ hk)
  have hrel : RelVs (μ ++ more) (ns.map V.sint) its := relVs_ints hI
  have hlen : ns.length = its.length := by rw [← hrel.length, List.length_map]
  obtain ⟨led, N, nd, al⟩ := S'.ex
  refine slice_list (s := { s with heap := h', toks := tkj }) S'.fr N ⟨_, hg, hc, _, hd⟩ .none (.int j tj) (fun h2 F2 N2 => ?_) rfl (fun _ => rfl) (le_sizeLine (by simp; (first | decide | lia | omega)))
  have lt : ∀ p ∈ led ++ rest, p.1 < h'.objs.size + 1 := fun p hp => Nat.lt_succ_of_lt (Heap.lt_size (N p hp).1)
  have e1 : (slicePick its.toArray none (some j) none) = (its.take j.toNat).toArray := by
    have ej : j = (j.toNat : Int) := by (first | decide | lia | omega)
    rw [ej, slicePick_upto' its.toArray j.toNat]
    simp [← ej]
  have S2 : StD D fx (μ ++ more ++ [(h'.objs.size + 1, h'.objs.size + 1)]) (H ++ [.slist ((ns.map V.sint).take j.toNat)]) m rest h2 := S'.grow nd al F2 N2 lt ⟨rfl, its.take j.toNat, 0, by rw [e1]; exact .head _, (hrel.take _).mono fun _ _ z => z.ext⟩
  have hlen2 : (μ ++ more).length = H.length := S'.len
  exact P.next (more := more) (h := h') (tk := tkj) _ [(h'.objs.size + 1, h'.objs.size + 1)] h2 tkj ⟨h'.objs.size + 1, h'.objs.size + 1, by rw [List.getElem?_append_right (Nat.le_of_eq hlen2), hlen2, Nat.sub_self]; rfl, rfl⟩ S2
end Mine
end
section
open PySem PySem.W PyProof.Rows PySem.Calls PySem.Spec
namespace Mine
noncomputable def wkV : V → V
  | .int i => .sint i
  | .str s => .sstr s
  | .bool b => .sbool b
  | v => v
theorem wkV_ok {μ : Mu} {r : Value} {v : V} (h : RelV μ v r) : RelV μ (wkV v) r := by
  cases v <;> exact h
theorem wkVs_ok {μ : Mu} {l : List V} {rs : List Value} (h : RelVs μ l rs) : RelVs μ (l.map wkV) rs := all2_mapL (g := wkV) (fun _ _ y => wkV_ok y) h
noncomputable def wkO (b : Bool) : O → O
  | .list l => match b with
    | true => .slist (l.map wkV)
    | false => .list (l.map wkV)
  | .tuple l => .tuple (l.map wkV)
  | .inst C fs => .inst C (fs.map fun p => (p.1, wkV p.2))
  | .cell (some v) => .cell (some (wkV v))
  | o => o
theorem wkO_ok {D : Wd} {μ : Mu} {led : Ledger} {p : Addr × Addr} {b : Bool} {o : O} (x : ObjIn D.prog D.w μ led p o) : ObjIn D.prog D.w μ led p (wkO b o) := by
  cases o with
  | list l =>
    obtain ⟨e, its, n, h1, h2⟩ := x
    cases b
    · exact ⟨e, its, n, h1, wkVs_ok h2⟩
    · exact ⟨e, its, n, h1, wkVs_ok h2⟩
  | tuple l => obtain ⟨e, its, n, h1, h2⟩ := x; exact ⟨e, its, n, h1, wkVs_ok h2⟩
  | inst C fs => obtain ⟨e, es, n, h1, h2, h3⟩ := x; exact ⟨e, es, n, h1, h2, all2_mapL (g := fun p => (p.1, wkV p.2)) (fun _ _ y => ⟨y.1, wkV_ok y.2⟩) h3⟩
  | cell v =>
    cases v with
    | none => exact x
    | some v =>
      obtain ⟨e, o, r, h1, h2, h3⟩ := x
      refine ⟨e, o, r, h1, h2, ?_⟩
      cases r with
      | none => exact h3.elim
      | some r => exact wkV_ok (v := v) h3
  | _ => exact x
noncomputable def setAt' (k : Nat) (f : O → O) (H : List O) : List O := match H[k]? with
  | some o => H.set k (f o)
  | none => H
noncomputable def cvH : List (Nat × Bool) → List O → List O
  | [], H => H
  | p :: r, H => cvH r (setAt' p.1 (wkO p.2) H)
theorem PickOk.set' {n0 : Nat} {l : LR} {k : Nat} {f : O → O} {H : List O} (w : ∀ (D : Wd) (μ : Mu) (led : Ledger) (p : Addr × Addr) (o : O), ObjIn D.prog D.w μ led p o → ObjIn D.prog D.w μ led p (f o)) : PickOk n0 H l (setAt' k f H) l := by
  unfold setAt'
  cases h : H[k]? with
  | none => exact .refl
  | some o => exact PickOk.conv h fun D μ led p x => w D μ led p o x
theorem PickOk.cv {n0 : Nat} {l : LR} {cv : List (Nat × Bool)} : ∀ {H : List O}, PickOk n0 H l (cvH cv H) l := by
  induction cv with
  | nil => exact .refl
  | cons p r ih => exact (PickOk.set' fun _ _ _ _ _ x => wkO_ok x).trans ih
noncomputable def keepL (ks : List (Str × Bool)) : LR → LR
  | [] => []
  | p :: r => match lkS ks (code p.1) with
    | some b => (p.1, (match b with
      | true => wkV p.2
      | false => p.2)) :: keepL ks r
    | none => keepL ks r
theorem keepL_at {ks : List (Str × Bool)} {l : LR} {x : Str} {v : V} (h : lkS (keepL ks l) (code x) = some v) : (∃ b, lkS ks (code x) = some b) ∧ ∃ v0, lkS l (code x) = some v0 ∧ ∀ μ r, RelV μ v0 r → RelV μ v r := by
  induction l with
  | nil => exact noneNe h
  | cons p r ih =>
    unfold keepL at h
    cases q : lkS ks (code p.1) with
    | some b =>
      rw [q] at h
      refine lkS_ h (fun w e => ⟨⟨b, codeE w ▸ q⟩, p.2, lkS_yes w, fun μ r hr => ?_⟩) fun w e => ⟨(ih e).1, ?_⟩
      · subst e
        cases b with
        | true => exact wkV_ok hr
        | false => exact hr
      · obtain ⟨_, v0, a, b⟩ := ih e
        exact ⟨v0, (lkS_no (p := p) w).trans a, b⟩
    | none =>
      rw [q] at h
      obtain ⟨⟨b, hb⟩, v0, h1, h2⟩ := ih h
      cases w : Nat.beq (code p.1) (code x) with
      | true => rw [codeE w, hb] at q; exact nomatch q
      | false => exact ⟨⟨b, hb⟩, v0, (lkS_no w).trans h1, h2⟩
theorem keepL_w {ks : List (Str × Bool)} {l : LR} : LocsW l (keepL ks l) := fun x v h => (keepL_at h).2
noncomputable def Stp (D : Wd) (n n0 : Nat) (ne : NE) (st : Stmt) (H : List O) (l' : LR) (G : List O) : Prop := ∃ l₁ H₁, StT D n ne st H .next l₁ H₁ ∧ PickOk n0 H₁ l₁ G l'
noncomputable def isNext (fl : Fl) : Bool := match fl with
  | .next => true
  | _ => false
theorem isNext_ok {fl : Fl} (h : isNext fl = true) : fl = .next := by
  cases fl with
  | next => rfl
  | _ => exact nomatch h
noncomputable def stepG (c : Cfg) (f n0 : Nat) (keep : List (Str × Bool)) (cv : List (Nat × Bool)) (ne : NE) (st : Stmt) (H : List O) (ds : List Bool) : Option ((List O × LR) × List Prop) :=
  ob (stStep c.T c.lo c.xo (runR c f) ne st ⟨H, ds, []⟩) fun p => onT (isNext p.1.1) (ob (gc n0 p.2.H (keepL keep p.1.2)) fun q => some ((cvH cv q.1, q.2.1), q.2.2 ++ p.2.cs))
theorem stepG_post {D : Wd} {n : Nat} {c : Cfg} {f n0 : Nat} {keep : List (Str × Bool)} {cv : List (Nat × Bool)} {ne : NE} {st : Stmt} {H : List O} {ds : List Bool} (hc : CfgOk D n c) : Post (stepG c f n0 keep cv ne st H ds) fun z => (∀ p ∈ z.2, p) → Stp D (n + f) n0 ne st H z.1.2 z.1.1 :=
  .ob fun p h => .onT fun hf => .ob fun q hg => .pure fun ok => ⟨p.1.2, p.2.H, isNext_ok hf ▸ run_st hc h fun c hp => ok c (List.mem_append_right _ hp), (PickOk.locsW keepL_w).trans ((gc_ok hg fun c hp => ok c (List.mem_append_left _ hp)).trans .cv)⟩
theorem stepG_ok {D : Wd} {n : Nat} {c : Cfg} {f n0 : Nat} {keep : List (Str × Bool)} {cv : List (Nat × Bool)} {ne : NE} {st : Stmt} {H : List O} {ds : List Bool} {G : List O} {l' : LR} {cs : List Prop} (hc : CfgOk D n c) (e : stepG c f n0 keep cv ne st H ds = some ((G, l'), cs)) (ok : ∀ p ∈ cs, p) : Stp D (n + f) n0 ne st H l' G := stepG_post hc _ e ok
theorem Stp.up {D : Wd} {n n' n0 : Nat} {ne : NE} {st : Stmt} {H G : List O} {l' : LR} (h : n ≤ n') (s : Stp D n n0 ne st H l' G) : Stp D n' n0 ne st H l' G := let ⟨l, H1, a, b⟩ := s; ⟨l, H1, StT.up h a, b⟩
theorem Stp.then {D : Wd} {n n0 : Nat} {ne : NE} {st : Stmt} {H G G' : List O} {l' l'' : LR} (s : Stp D n n0 ne st H l' G) (p : PickOk n0 G l' G' l'') : Stp D n n0 ne st H l'' G' := let ⟨l, H1, a, b⟩ := s; ⟨l, H1, a, b.trans p⟩
theorem ExB.step {D : Wd} {n n0 : Nat} {ne : NE} {st : Stmt} {ss : List Stmt} {H G H' : List O} {l₂ l' : LR} {fl : Fl} (s : Stp D n n0 ne st H l₂ G) (b : ExB D n (ne.withL l₂) n0 ss G fl l' H') : ExB D n ne n0 (st :: ss) H fl l' H' := let ⟨_, _, a, p⟩ := s; ExB.cons a p b
theorem run_exB {D : Wd} {n f n0 : Nat} {c : Cfg} {ne : NE} (hc : CfgOk D n c) {ss : List Stmt} {H : List O} {ds : List Bool} {fl : Fl} {l : LR} {σ' : Sg} (e : (runR c f).exs ne ss ⟨H, ds, []⟩ = some ((fl, l), σ')) (ok : σ'.ok) : ExB D (n + f) ne n0 ss H fl l σ'.H := ExB.ofT (run_ex hc e ok)
theorem all_append {a b : List Prop} (ha : ∀ p ∈ a, p) (hb : ∀ p ∈ b, p) : ∀ p ∈ a ++ b, p := fun p hp => (List.mem_append.mp hp).elim (ha p) (hb p)
theorem all_cons {a : Prop} {b : List Prop} (ha : a) (hb : ∀ p ∈ b, p) : ∀ p ∈ a :: b, p := fun p hp => by
  rcases List.mem_cons.mp hp with rfl | hp
  · exact ha
  · exact hb p hp
theorem all_nil : ∀ p ∈ ([] : List Prop), p := fun p hp => nomatch hp
theorem isSint.noRef {v : V} (h : isSint v) : NoRefV v := by
  rw [isSint_eq h]; exact trivial
theorem sint_all {l : List V} (h : ∀ v ∈ l, isSint v) : ∀ v ∈ l, NoRefV v := fun v hv => (h v hv).noRef
noncomputable def neZ (l : LR) : NE := ⟨F784.scope.names, l, numCells (cellsOf F784.scope.names []) 0⟩
noncomputable def valOf : Stmt → PySem.Expr
  | .Assign _ v _ => v
  | .Return (some v) _ => v
  | _ => .Constant .none 0 default
noncomputable def eltsOf : PySem.Expr → List PySem.Expr
  | .List l _ => l
  | .Tuple l _ _ => l
  | _ => []
noncomputable def eltAt (e : PySem.Expr) (i : Nat) : PySem.Expr := ((eltsOf e)[i]?).getD e
noncomputable def argOf : PySem.Expr → PySem.Expr
  | .Call _ (a :: _) _ _ => a
  | e => e
theorem compOf {D : Wd} {n : Nat} {ne : NE} {e : PySem.Expr} {H H' : List O} {d : Nat} {cellsC : List (Str × Nat)} {k : Nat} {it : It} {v : V} {σ₁ σ₂ : Sg} (he : e = .ListComp (eltOf e) [⟨.Name (nmOf e) (npOf e), itOf e, tsOf e, 0⟩] (scOf e) (psOf e)) (so : scopeOk (scOf e) (nmOf e) = true) (oi : okIter (itOf e) = true)
    (fc : freeC ne.cells (scOf e).names [] = some cellsC) (e1 : EvT D n ne (itOf e) H v σ₁.H) (e2 : iterOf v σ₁ = some (it, σ₂)) (ok : σ₂.ok) (hd : σ₂.H.length = d) (R : CompR D n (neComp ne (scOf e) cellsC (nmOf e)) (tsOf e) (eltOf e) true d k it (σ₂.H ++ [accO true []]) H') : CompT D n ne e H d H' := by
  subst hd
  exact ⟨eltOf e, nmOf e, npOf e, itOf e, tsOf e, scOf e, psOf e, cellsC, true, k, it, v, σ₁, σ₂, he, so, oi, fc, e1, e2, ok, R, rfl⟩
end Mine
end
section
open PySem PySem.W PyProof.Rows PySem.Calls PySem.Spec
namespace Mine
noncomputable def cmp0 : PySem.Expr := eltAt (valOf (lawSt 0)) 0
noncomputable def sScript : Str := "script"
noncomputable def slcOf (e : PySem.Expr) : PySem.Expr := match itOf e with
  | .Subscript _ s _ => s
  | e => e
noncomputable def npS : Pos := match itOf cmp0 with
  | .Subscript (.Name _ p) _ _ => p
  | _ => default
noncomputable def ckS : Nat := match slcOf cmp0 with
  | .Slice _ (some (.Constant _ k _)) _ _ => k
  | _ => 0
noncomputable def cpS : Pos := match slcOf cmp0 with
  | .Slice _ (some (.Constant _ _ p)) _ _ => p
  | _ => default
noncomputable def spS : Pos := match slcOf cmp0 with
  | .Slice _ _ _ p => p
  | _ => default
noncomputable def posS : Pos := match itOf cmp0 with
  | .Subscript _ _ p => p
  | _ => default
noncomputable def iabs (i : Int) : Int := if i < 0 then -i else i
noncomputable def absV : V → V
  | .sint i => .sint (iabs i)
  | v => v
noncomputable def HA : List O := [.cell none, .cell none, .cell none, .cell none, .cell none, .cell none, .cell none, .cell none]
noncomputable def lA (a : Addr) : LR := [(sScript, .val a)]
noncomputable def sc30 (ns : List Int) : List V := (ns.map V.sint).take 30
noncomputable def deckC (ns : List Int) : List V := (sc30 ns).map absV
noncomputable def HA1 (ns : List Int) : List O := HA ++ [.slist (sc30 ns)]
theorem sc30_sint (ns : List Int) : ∀ v ∈ sc30 ns, isSint v := fun v hv => by
  obtain ⟨i, _, rfl⟩ := List.mem_map.mp (List.mem_of_mem_take hv)
  trivial
theorem deckC_sint (ns : List Int) : ∀ v ∈ deckC ns, isSint v := by
  intro v hv
  obtain ⟨u, hu, rfl⟩ := List.mem_map.mp hv
  rw [isSint_eq (sc30_sint ns u hu)]; exact trivial
theorem deckC_len (ns : List Int) : (deckC ns).length ≤ 30 := by
  unfold deckC sc30
  rw [List.length_map, List.length_take]
  (first | decide | lia | omega)
theorem elt0 {D : Wd} (hK : KOk D.K) (a : Addr) (H : List O) (i : Int) : EvT D 150 (neComp (neZ (lA a)) (scOf cmp0) [] (nmOf cmp0) (.sint i)) (eltOf cmp0) H (.sint (iabs i)) H := by
  have hc : CfgOk D 120 (cfg1 orcE) := cfg1_ok hK fun k => orcE_ok hK (by (first | decide | lia | omega))
  have run : (runR (cfg1 orcE) 30).ev (neComp (neZ (lA a)) (scOf cmp0) [] (nmOf cmp0) (.sint i)) (eltOf cmp0) ⟨H, [], []⟩ = some (.sint (iabs i), ⟨H, [], []⟩) := by kernel_rfl
  exact run_ev hc run okn
noncomputable def lo0 (a : Addr) (ns : List Int) : LO := pinLo 669 12 (neZ (lA a)) cmp0 HA 9 (HA1 ns ++ [.slist (deckC ns)]) noLo
noncomputable def noneC : O := .cell none
noncomputable def HB (c : List V) : List O := [noneC, noneC, noneC, noneC, noneC, noneC, noneC, .cell (some (.ref 8)), .list [.ref 9, .sint 0], .slist c]
noncomputable def st0R (a : Addr) (ns : List Int) := stepG (cfgL orcE (lo0 a ns)) 30 8 [] [(8, false)] (neZ (lA a)) (lawSt 0) HA []
theorem run0 (a : Addr) (ns : List Int) : st0R a ns = some ((HB (deckC ns), []), [∀ v ∈ deckC ns, NoRefV v, neZ (lA a) = neZ (lA a) ∧ cmp0 = cmp0 ∧ HA = HA]) := by kernel_rfl
section
variable {D : Wd} (hK : KOk D.K)
include hK
theorem comp0 {a : Addr} {o : Obj} {its : List Value} {ns : List Int} {nn : Nat} (hk : (a, o) ∈ D.ex) (hoc : o.cls = .type "list") (hod : o.data = .seq its.toArray nn) (hI : IntsAre its ns) (hl : ns.length ≤ 1000) : CompT D 150 (neZ (lA a)) cmp0 HA 9 (HA1 ns ++ [.slist (deckC ns)]) := by
  have hc : CfgOk D 120 (cfg1 orcE) := cfg1_ok hK fun k => orcE_ok hK (by (first | decide | lia | omega))
  have h1 : (runR (cfg1 orcE) 30).ev (neZ (lA a)) (.Name sScript npS) ⟨HA, [], []⟩ = some (.val a, ⟨HA, [], []⟩) := by kernel_rfl
  have it : itOf cmp0 = .Subscript (.Name sScript npS) (.Slice none (some (.Constant (.int 30) ckS cpS)) none spS) posS := by kernel_rfl
  have e1 : EvT D 150 (neZ (lA a)) (itOf cmp0) HA (.ref 8) (HA1 ns) := by
    rw [it]
    exact ev_uptoX (j := 30) (run_ev hc h1 okn) hk hoc hod hI (by decide) hl
  have lk : ∀ acc, seqAt (HA1 ns ++ [.slist acc]) 8 = some (sc30 ns) := fun acc => rfl
  have R := compR_list (D := D) (n := 150) (neC := neComp (neZ (lA a)) (scOf cmp0) [] (nmOf cmp0)) (elt := eltOf cmp0) (H := HA1 ns) (k := 8) (l := sc30 ns) (g := absV) lk (fun v hv acc => by
    have := sc30_sint ns v hv
    match v, this with
    | .sint i, _ => exact elt0 hK a _ i) (by unfold sc30; rw [List.length_take]; (first | decide | lia | omega))
  exact compOf (cellsC := []) (k := (sc30 ns).length) (it := .list 8 0) (σ₁ := ⟨HA1 ns, [], []⟩) (σ₂ := ⟨HA1 ns, [], []⟩) (by kernel_rfl) (by kernel_rfl) (by kernel_rfl) (by kernel_rfl) e1 rfl okn rfl R
theorem s0 {a : Addr} {o : Obj} {its : List Value} {ns : List Int} {nn : Nat} (hk : (a, o) ∈ D.ex) (hoc : o.cls = .type "list") (hod : o.data = .seq its.toArray nn) (hI : IntsAre its ns) (hl : ns.length ≤ 1000) : Stp D 180 8 (neZ (lA a)) (lawSt 0) HA [] (HB (deckC ns)) := by
  have hc : CfgOk D 150 (cfgL orcE (lo0 a ns)) := cfgL_ok hK (by (first | decide | lia | omega)) (fun k => orcE_ok hK (by (first | decide | lia | omega))) fun k => pinLo_ok ((comp0 hK hk hoc hod hI hl).up (by (first | decide | lia | omega))) noLo_ok
  exact stepG_ok hc (run0 a ns) (all_cons (sint_all (deckC_sint ns)) (all_cons ⟨rfl, rfl, rfl⟩ all_nil))
end
noncomputable def signsS : Str := "ab\n _."
noncomputable def sParent : Str := "parent"
noncomputable def sRows : Str := "rows"
noncomputable def HC (c : List V) (n : Int) : List O := [noneC, noneC, noneC, noneC, noneC, .cell (some (.ref 8)), .cell (some (.str signsS)), .cell (some (.ref 10)), .inst 713 [(sParent, .none), (sRows, .ref 9)], .dictI [], .list [.ref 11, .sint n], .slist c]
noncomputable def st1R (c : List V) := stepG (cfgL orcE noLo) 30 8 [] [] (neZ []) (lawSt 1) (HB c) []
theorem run1 (c : List V) : st1R c = some ((HC c 0, []), [∀ v ∈ c, NoRefV v]) := by kernel_rfl
noncomputable def strsV (l : List Str) : List V := l.map .str
structure Kd where
  k0 : Str
  k1 : Str
  k2 : Str
  k3 : Str
  k4 : Str
  k5 : Str
noncomputable def Kd.l (k : Kd) : List Str := [k.k0, k.k1, k.k2, k.k3, k.k4, k.k5]
noncomputable def kdA : Kd := ⟨"w", "w", ">", " ", "_", "."⟩
noncomputable def kdB : Kd := ⟨"w", "_", "w", ".", " ", "w"⟩
noncomputable def kdC : Kd := ⟨"_", ".", " ", "w", "w", "_"⟩
noncomputable def IsKd (k : Kd) : Prop := k = kdA ∨ k = kdB ∨ k = kdC
noncomputable def HD (c : List V) (n : Int) (kd : Kd) : List O := [noneC, noneC, noneC, noneC, .cell (some (.ref 8)), .cell (some (.ref 9)), .cell (some (.str signsS)), .cell (some (.ref 11)), .list (strsV kd.l), .inst 713 [(sParent, .none), (sRows, .ref 10)], .dictI [], .list [.ref 12, .sint n], .slist c]
noncomputable def st2R (c : List V) (n : Int) (ds : List Bool) := stepG (cfgL orcE noLo) 30 8 [] [] (neZ []) (lawSt 2) (HC c n) ds
noncomputable def cd2 (c : List V) (n : Int) (i : Nat) : List Prop := [∀ v ∈ c, NoRefV v, drawV c n 3 = (i : Int) ∧ [V.ref 12, V.ref 13, V.ref 14].length ≤ 1000, DeckOk c n 3]
theorem run2_0 (c : List V) (n : Int) : st2R c n [false] = some ((HD c (n + 1) kdA, []), cd2 c n 0) := by kernel_rfl
theorem run2_1 (c : List V) (n : Int) : st2R c n [true, false] = some ((HD c (n + 1) kdB, []), cd2 c n 1) := by kernel_rfl
theorem run2_2 (c : List V) (n : Int) : st2R c n [true, true, false] = some ((HD c (n + 1) kdC, []), cd2 c n 2) := by kernel_rfl
section
variable {D : Wd} (hK : KOk D.K)
include hK
theorem cfgE_ok : CfgOk D 150 (cfgL orcE noLo) := cfgL_ok hK (by (first | decide | lia | omega)) (fun k => orcE_ok hK (by (first | decide | lia | omega))) fun k => noLo_ok
theorem s1 {c : List V} (hs : ∀ v ∈ c, isSint v) : Stp D 180 8 (neZ []) (lawSt 1) (HB c) [] (HC c 0) :=
  stepG_ok (cfgE_ok hK) (run1 c) (all_cons (sint_all hs) all_nil)
theorem s2 {c : List V} {n : Int} (hs : ∀ v ∈ c, isSint v) (dk : DeckOk c n 3) : ∃ kd, IsKd kd ∧ Stp D 180 8 (neZ []) (lawSt 2) (HC c n) [] (HD c (n + 1) kd) := by
  have three : [V.ref 12, V.ref 13, V.ref 14].length ≤ 1000 := Nat.le_of_ble_eq_true rfl
  have r := drawV_range (l := c) (c := n) (many := 3) (by decide)
  have h3 : drawV c n 3 = ((0 : Nat) : Int) ∨ drawV c n 3 = ((1 : Nat) : Int) ∨ drawV c n 3 = ((2 : Nat) : Int) := by (first | decide | lia | omega)
  have cd : ∀ i : Nat, drawV c n 3 = (i : Int) → ∀ p ∈ cd2 c n i, p := fun i h => all_cons (sint_all hs) (all_cons ⟨h, three⟩ (all_cons dk all_nil))
  rcases h3 with h | h | h
  · exact ⟨kdA, .inl rfl, stepG_ok (cfgE_ok hK) (run2_0 c n) (cd 0 h)⟩
  · exact ⟨kdB, .inr (.inl rfl), stepG_ok (cfgE_ok hK) (run2_1 c n) (cd 1 h)⟩
  · exact ⟨kdC, .inr (.inr rfl), stepG_ok (cfgE_ok hK) (run2_2 c n) (cd 2 h)⟩
end
end Mine
end
section
open PySem PySem.W PyProof.Rows PySem.Calls PySem.Spec
namespace Mine
noncomputable def wkF1 (x : Str) (p : Str × V) : Str × V := (p.1, match eqS p.1 x with | true => wkV p.2 | false => p.2)
noncomputable def wkF (x : Str) : O → O
  | .inst C fs => .inst C (fs.map (wkF1 x))
  | o => o
theorem wkF_ok {D : Wd} {μ : Mu} {led : Ledger} {p : Addr × Addr} {x : Str} {o : O} (h : ObjIn D.prog D.w μ led p o) : ObjIn D.prog D.w μ led p (wkF x o) := by
  cases o with
  | inst C fs =>
    obtain ⟨e, es, n, h1, h2, h3⟩ := h
    refine ⟨e, es, n, h1, h2, all2_mapL (g := wkF1 x) (fun a _ y => ⟨y.1, ?_⟩) h3⟩
    show RelV μ (match eqS a.1 x with | true => wkV a.2 | false => a.2) _
    cases eqS a.1 x
    · exact y.2
    · exact wkV_ok y.2
  | _ => exact h
noncomputable def cvF (x : Str) : List Nat → List O → List O
  | [], H => H
  | k :: r, H => cvF x r (setAt' k (wkF x) H)
theorem PickOk.cvF {n0 : Nat} {l : LR} {x : Str} {cv : List Nat} : ∀ {H : List O}, PickOk n0 H l (Mine.cvF x cv H) l := by
  induction cv with
  | nil => exact .refl
  | cons k r ih => exact (PickOk.set' fun _ _ _ _ _ y => wkF_ok y).trans ih
noncomputable def zipE (r : Rec) (ne : NE) (t : PySem.Expr) (body : List Stmt) (x : Str) (k : Nat) : Nat → Nat → LR → Sg → Option (LR × Sg)
  | 0, _, _, _ => none
  | f + 1, i, l, σ => optE x.cps[i]? (fun ch => ob (seqAt σ.H k) fun vs => ob vs[i]? fun v => bnd (asgE r (ne.withL l) t (.ref σ.H.length) (σ.withH (σ.H ++ [.tuple [.str ⟨#[ch]⟩, v]]))) fun l1 σ => bnd (r.exs (ne.withL l1) body σ) fun p σ => onT (isNext p.1) (zipE r ne t body x k f (i + 1) p.2 σ)) (some (l, σ))
theorem zipE_post {D : Wd} {n : Nat} {r : Rec} (ro : RecOk D n r) {ne : NE} {t : PySem.Expr} {body : List Stmt} {x : Str} {k f : Nat} : ∀ {i : Nat} {l : LR} {σ : Sg}, Post (zipE r ne t body x k f i l σ) fun p => σ.le p.2 ∧ (p.2.ok → ∃ j, ZipR D n ne t body x k j i σ.H l p.1 p.2.H) := by
  induction f with
  | zero => exact .none
  | succ f ih =>
    refine .optE (fun ch hch => .ob fun vs hvs => .ob fun v hv => .bnd fun l1 σ₁ h1 => .bnd fun p σ₂ h2 => .onT fun hf q h3 => ?_) fun h => .pure ⟨.refl _, fun _ => ⟨0, .done h⟩⟩
    obtain ⟨le1, x1⟩ := asgE_ok ro h1
    obtain ⟨le2, x2⟩ := ro.exs _ _ _ _ _ _ h2
    rw [isNext_ok hf] at x2
    obtain ⟨le3, x3⟩ := ih _ h3
    refine ⟨Sg.le.trans le1 (le2.trans le3), fun ok => ?_⟩
    obtain ⟨j, R⟩ := x3 ok
    exact ⟨j + 1, .step hch hvs hv (x1 ((le2.trans le3).ok ok)) (x2 (le3.ok ok)) R⟩
noncomputable def forT : Stmt → PySem.Expr
  | .For t _ _ _ _ => t
  | _ => .Constant .none 0 default
noncomputable def forI : Stmt → PySem.Expr
  | .For _ i _ _ _ => i
  | _ => .Constant .none 0 default
noncomputable def forB : Stmt → List Stmt
  | .For _ _ b _ _ => b
  | _ => []
noncomputable def forP : Stmt → Pos
  | .For _ _ _ _ p => p
  | _ => default
noncomputable def argsOf : PySem.Expr → List PySem.Expr
  | .Call _ a _ _ => a
  | _ => []
noncomputable def callP : PySem.Expr → Pos
  | .Call _ _ _ p => p
  | _ => default
noncomputable def fnNm : PySem.Expr → Str
  | .Call (.Name x _) _ _ _ => x
  | _ => emptyS
noncomputable def fnPos : PySem.Expr → Pos
  | .Call (.Name _ p) _ _ _ => p
  | _ => default
noncomputable def argA (e : PySem.Expr) : PySem.Expr := ((argsOf e)[0]?).getD e
noncomputable def argB (e : PySem.Expr) : PySem.Expr := ((argsOf e)[1]?).getD e
noncomputable def sKind : Str := "kind"
noncomputable def HE (c : List V) (n : Int) (k : Kd) : List O := [noneC, noneC, noneC, noneC, .cell (some (.ref 8)), .cell (some (.ref 9)), .cell (some (.str signsS)), .cell (some (.ref 17)), .list (strsV k.l), .inst 713 [(sParent, .none), (sRows, .ref 10)],
  .dictI [(97, .ref 11), (98, .ref 12), (10, .ref 13), (32, .ref 14), (95, .ref 15), (46, .ref 16)], syn k.k0, syn k.k1, syn k.k2, syn k.k3, syn k.k4, syn k.k5, .list [.ref 18, .sint n], .slist c]
noncomputable def zipRun (c : List V) (n : Int) (kd : Kd) : Option ((List O × LR) × List Prop) := ob (zipE (runR (cfgL orcE noLo) 30) (neZ []) (forT (lawSt 3)) (forB (lawSt 3)) signsS 8 10 0 [] ⟨HD c n kd, [], []⟩) fun p => ob (gc 8 p.2.H (keepL [] p.1)) fun q => some ((cvF sKind [11, 12, 13, 14, 15, 16] q.1, q.2.1), q.2.2 ++ p.2.cs)
theorem zg0 (c : List V) (n : Int) : zipRun c n kdA = some ((HE c n kdA, []), [∀ v ∈ c, NoRefV v]) := by kernel_rfl
theorem zg1 (c : List V) (n : Int) : zipRun c n kdB = some ((HE c n kdB, []), [∀ v ∈ c, NoRefV v]) := by kernel_rfl
theorem zg2 (c : List V) (n : Int) : zipRun c n kdC = some ((HE c n kdC, []), [∀ v ∈ c, NoRefV v]) := by kernel_rfl
section
variable {D : Wd} (hK : KOk D.K)
include hK
theorem zip_stp {c : List V} {n : Int} {kd : Kd} : Post (zipRun c n kd) fun z => (∀ p ∈ z.2, p) → Stp D 180 8 (neZ []) (lawSt 3) (HD c n kd) z.1.2 z.1.1 := by
  have hc := cfgE_ok hK
  refine .ob fun p h => .ob fun q hg => .pure fun ok => ⟨p.1, p.2.H, ?_, (PickOk.locsW keepL_w).trans ((gc_ok hg fun c hp => ok c (List.mem_append_left _ hp)).trans .cvF)⟩
  obtain ⟨le, x⟩ := zipE_post (runR_ok hc 30) _ h
  obtain ⟨j, R⟩ := x fun c hp => ok c (List.mem_append_right _ hp)
  have r1 : (runR (cfgL orcE noLo) 30).ev (neZ []) (argA (forI (lawSt 3))) ⟨HD c n kd, [], []⟩ = some (.str signsS, ⟨HD c n kd, [], []⟩) := by kernel_rfl
  have r2 : (runR (cfgL orcE noLo) 30).ev (neZ []) (argB (forI (lawSt 3))) ⟨HD c n kd, [], []⟩ = some (.ref 8, ⟨HD c n kd, [], []⟩) := by kernel_rfl
  have hnm : evName (tabs orcE) (neZ []) (fnNm (forI (lawSt 3))) ⟨HD c n kd, [], []⟩ = some (.bi 5, ⟨HD c n kd, [], []⟩) := by kernel_rfl
  rw [show lawSt 3 = .For (forT (lawSt 3)) (.Call (.Name (fnNm (forI (lawSt 3))) (fnPos (forI (lawSt 3)))) [argA (forI (lawSt 3)), argB (forI (lawSt 3))] [] (callP (forI (lawSt 3)))) (forB (lawSt 3)) [] (forP (lawSt 3)) by kernel_rfl]
  exact ForZ_ok (T := tabs orcE) (σ := ⟨HD c n kd, [], []⟩) (l0 := strsV kd.l) (tabs_ok hK _).gl rfl hnm (by kernel_rfl) (by kernel_rfl) (run_ev hc r1 okn) (run_ev hc r2 okn) rfl (by decide +kernel) (show forT (lawSt 3) = .Tuple (match forT (lawSt 3) with | .Tuple es _ _ => es | _ => []) (match forT (lawSt 3) with | .Tuple _ k _ => k | _ => 0) (match forT (lawSt 3) with | .Tuple _ _ p => p | _ => default) by kernel_rfl) R
theorem s3 {c : List V} {n : Int} {kd : Kd} (hk : IsKd kd) (hs : ∀ v ∈ c, isSint v) : Stp D 180 8 (neZ []) (lawSt 3) (HD c n kd) [] (HE c n kd) := by
  rcases hk with rfl | rfl | rfl
  · exact zip_stp hK _ (zg0 c n) (all_cons (sint_all hs) all_nil)
  · exact zip_stp hK _ (zg1 c n) (all_cons (sint_all hs) all_nil)
  · exact zip_stp hK _ (zg2 c n) (all_cons (sint_all hs) all_nil)
end
end Mine
end
section
open PySem PySem.W PyProof.Rows PySem.Calls PySem.Spec
namespace Mine
noncomputable def sPicked : Str := "picked"
noncomputable def cmp4 : PySem.Expr := valOf (lawSt 4)
noncomputable abbrev pinC (e0 : PySem.Expr) (ne0 : NE) (H0 : List O) (d : Nat) (H' : List O) (next : LO) : LO := pinLo (psOf e0).line (psOf e0).col ne0 e0 H0 d H' next
noncomputable def picks (c : List V) (n : Int) (k : Nat) : List Int := (List.range k).map fun i => drawV c (n + (i : Nat)) 6
theorem picks_succ (c : List V) (n : Int) (k : Nat) : picks c n (k + 1) = picks c n k ++ [drawV c (n + (k : Nat)) 6] := by
  unfold picks
  rw [List.range_succ, List.map_append]; rfl
theorem picks_len (c : List V) (n : Int) (k : Nat) : (picks c n k).length = k := by
  unfold picks
  rw [List.length_map, List.length_range]
theorem picks_range {c : List V} {n : Int} {k : Nat} : ∀ j ∈ picks c n k, 0 ≤ j ∧ j < 6 := fun j hj => by
  obtain ⟨i, _, rfl⟩ := List.mem_map.mp hj
  exact drawV_range (by decide)
noncomputable def sDeckN : Str := "deck"
noncomputable def cl4 : List (Str × Nat) := [(sDeckN, 7)]
theorem free4 : freeC (neZ []).cells (scOf cmp4).names [] = some cl4 := by kernel_rfl
theorem it4 (c : List V) (n : Int) (kd : Kd) : (runR (cfg1 orcE) 30).ev (neZ []) (itOf cmp4) ⟨HE c n kd, [], []⟩ = some (.ref 19, ⟨HE c (n + 1) kd ++ [.range 0 (drawV c n 8)], [], [DeckOk c n 8]⟩) := by kernel_rfl
theorem elt4 (c : List V) (n : Int) (kd : Kd) (b i : Int) (acc : List V) : (runR (cfg1 orcE) 30).ev (neComp (neZ []) (scOf cmp4) cl4 (nmOf cmp4) (.int i)) (eltOf cmp4) ⟨HE c n kd ++ [.range 0 b, .slist acc], [], []⟩ = some (.sint (drawV c n 6), ⟨HE c (n + 1) kd ++ [.range 0 b, .slist acc], [], [DeckOk c n 6]⟩) := by kernel_rfl
theorem deckOk {c : List V} (h1 : c.length ≤ 30) (h2 : ∀ v ∈ c, isSint v) {n many : Int} (h3 : 0 ≤ n) (h4 : n ≤ 1000) (h5 : 0 < many) : DeckOk c n many := ⟨by (first | decide | lia | omega), h2, h3, h4, by (first | decide | lia | omega)⟩
noncomputable def HF (c : List V) (n : Int) (kd : Kd) (ps : List Int) : List O := [noneC, noneC, noneC, noneC, .cell (some (.ref 9)), .cell (some (.ref 10)), .cell (some (.str signsS)), .cell (some (.ref 18)), .slist (ps.map .sint), .list (strsV kd.l), .inst 713 [(sParent, .none), (sRows, .ref 11)],
  .dictI [(97, .ref 12), (98, .ref 13), (10, .ref 14), (32, .ref 15), (95, .ref 16), (46, .ref 17)], syn kd.k0, syn kd.k1, syn kd.k2, syn kd.k3, syn kd.k4, syn kd.k5, .list [.ref 19, .sint n], .slist c]
noncomputable def lF : LR := [(sPicked, .ref 8)]
noncomputable def H4 (c : List V) (n n' b : Int) (kd : Kd) (ps : List Int) : List O := HE c n' kd ++ [.range 0 b, .slist (ps.map .sint)]
theorem run4 (c : List V) (n n' b : Int) (kd : Kd) (ps : List Int) : stepG (cfgL orcE (pinC cmp4 (neZ []) (HE c n kd) 20 (H4 c n n' b kd ps) noLo)) 30 8 [(sPicked, false)] [] (neZ []) (lawSt 4) (HE c n kd) [] = some ((HF c n' kd ps, lF), [∀ v ∈ ps.map V.sint, NoRefV v, ∀ v ∈ c, NoRefV v, neZ [] = neZ [] ∧ cmp4 = cmp4 ∧ HE c n kd = HE c n kd]) := by kernel_rfl
theorem noRef_ints (ps : List Int) : ∀ v ∈ ps.map V.sint, NoRefV v := fun v hv => by
  obtain ⟨i, _, rfl⟩ := List.mem_map.mp hv; trivial
section
variable {D : Wd} (hK : KOk D.K)
include hK
theorem comp4 {c : List V} {n : Int} {kd : Kd} (h1 : c.length ≤ 30) (h2 : ∀ v ∈ c, isSint v) (h3 : 0 ≤ n) (h4 : n ≤ 900) (k : Nat) (hk : (k : Int) = drawV c n 8) : CompT D 150 (neZ []) cmp4 (HE c n kd) 20 (H4 c n (n + 1 + k) (drawV c n 8) kd (picks c (n + 1) k)) := by
  have hc : CfgOk D 120 (cfg1 orcE) := cfg1_ok hK fun k => orcE_ok hK (by (first | decide | lia | omega))
  have r8 := drawV_range (l := c) (c := n) (many := 8) (by decide)
  have e1 := run_ev hc (it4 c n kd) (okc (deckOk h1 h2 h3 (by (first | decide | lia | omega)) (by decide)) okn)
  have main : ∀ (j i : Nat), i + j = k → CompR D 150 (neComp (neZ []) (scOf cmp4) cl4 (nmOf cmp4)) (tsOf cmp4) (eltOf cmp4) true 20 j (.range (i : Int) j) (HE c (n + 1 + i) kd ++ [.range 0 (drawV c n 8), .slist ((picks c (n + 1) i).map .sint)]) (HE c (n + 1 + k) kd ++ [.range 0 (drawV c n 8), .slist ((picks c (n + 1) k).map .sint)]) := by
    intro j
    induction j with
    | zero =>
      intro i hi
      have e : i = k := by (first | decide | lia | omega)
      subst e
      exact .done rfl
    | succ j ih =>
      intro i hi
      have ev := run_ev hc (elt4 c (n + 1 + i) kd (drawV c n 8) i ((picks c (n + 1) i).map .sint)) (okc (deckOk h1 h2 (by (first | decide | lia | omega)) (by (first | decide | lia | omega)) (by decide)) okn)
      refine .pass rfl (by rw [show tsOf _ = [] by kernel_rfl]; exact .nil) ev (l := (picks c (n + 1) i).map .sint) rfl (by rw [List.length_map, picks_len]; (first | decide | lia | omega)) ?_
      have e := ih (i + 1) (by (first | decide | lia | omega))
      rw [picks_succ, List.map_append] at e
      rw [show n + 1 + ((i + 1 : Nat) : Int) = n + 1 + (i : Int) + 1 by (first | decide | lia | omega), show ((i + 1 : Nat) : Int) = (i : Int) + 1 by (first | decide | lia | omega)] at e
      exact e
  have R := main k 0 (by (first | decide | lia | omega))
  have hkN : (drawV c n 8).toNat = k := by (first | decide | lia | omega)
  refine compOf (cellsC := cl4) (k := k) (it := .range 0 k) (σ₁ := ⟨HE c (n + 1) kd ++ [.range 0 (drawV c n 8)], [], []⟩) (σ₂ := ⟨HE c (n + 1) kd ++ [.range 0 (drawV c n 8)], [], [-1000 ≤ drawV c n 8 ∧ drawV c n 8 ≤ 1000]⟩) (by kernel_rfl) (by kernel_rfl) (by kernel_rfl) free4 e1 ?_ (okc ⟨by (first | decide | lia | omega), by (first | decide | lia | omega)⟩ okn) rfl ?_
  · show some (It.range 0 (drawV c n 8).toNat, _) = _
    rw [hkN]
  · have e0 : n + 1 + ((0 : Nat) : Int) = n + 1 := by (first | decide | lia | omega)
    rw [e0] at R
    exact R
theorem s4 {c : List V} {n : Int} {kd : Kd} (h1 : c.length ≤ 30) (h2 : ∀ v ∈ c, isSint v) (h3 : 0 ≤ n) (h4 : n ≤ 900) : ∃ k : Nat, k ≤ 7 ∧ Stp D 190 8 (neZ []) (lawSt 4) (HE c n kd) lF (HF c (n + 1 + k) kd (picks c (n + 1) k)) := by
  have r8 := drawV_range (l := c) (c := n) (many := 8) (by decide)
  refine ⟨(drawV c n 8).toNat, by (first | decide | lia | omega), ?_⟩
  have cp := comp4 hK (kd := kd) h1 h2 h3 h4 (drawV c n 8).toNat (by (first | decide | lia | omega))
  have hc : CfgOk D 160 (cfgL orcE (pinC cmp4 (neZ []) (HE c n kd) 20 (H4 c n (n + 1 + ((drawV c n 8).toNat : Nat)) (drawV c n 8) kd (picks c (n + 1) (drawV c n 8).toNat)) noLo)) := cfgL_ok hK (by (first | decide | lia | omega)) (fun k => orcE_ok hK (by (first | decide | lia | omega))) fun k => pinLo_ok (cp.up (by (first | decide | lia | omega))) noLo_ok
  exact stepG_ok hc (run4 c n _ _ kd _) (all_cons (noRef_ints _) (all_cons (sint_all h2) (all_cons ⟨rfl, rfl, rfl⟩ all_nil)))
end
end Mine
end
section
open PySem PySem.W PyProof.Rows PySem.Calls PySem.Spec
namespace Mine
noncomputable def sText : Str := "text"
noncomputable def sKinds : Str := "kinds"
noncomputable def cmp5a : PySem.Expr := argOf (eltAt (valOf (lawSt 5)) 0)
noncomputable def cmp5b : PySem.Expr := eltAt (valOf (lawSt 5)) 1
noncomputable def signS (j : Int) : Str := ⟨#[signsS.cps.getD j.toNat 0]⟩
noncomputable def signV (j : Int) : V := .sstr (signS j)
noncomputable def kindS (kd : Kd) (j : Int) : Str := kd.l.getD j.toNat emptyS
noncomputable def kindV (kd : Kd) (j : Int) : V := .sstr (kindS kd j)
noncomputable def textS (ps : List Int) : Str := Txt.join emptyS ((ps.map signV).map strOfV)
noncomputable def sSignsN : Str := "signs"
noncomputable def sKindOfN : Str := "kind_of"
noncomputable def cl5a : List (Str × Nat) := [(sSignsN, 6)]
noncomputable def cl5b : List (Str × Nat) := [(sKindOfN, 4)]
theorem free5a : freeC (neZ lF).cells (scOf cmp5a).names [] = some cl5a := by kernel_rfl
theorem free5b : freeC (neZ lF).cells (scOf cmp5b).names [] = some cl5b := by kernel_rfl
noncomputable def onV (f : Int → V) : V → V
  | .sint j => f j
  | v => v
section
variable (c : List V) (n : Int) (kd : Kd) (ps : List Int)
theorem it5a (G : List O) : (runR (cfg1 orcE) 30).ev (neZ lF) (itOf cmp5a) ⟨HF c n kd ps ++ G, [], []⟩ = some (.ref 8, ⟨HF c n kd ps ++ G, [], []⟩) := by kernel_rfl
theorem it5b (G : List O) : (runR (cfg1 orcE) 30).ev (neZ lF) (itOf cmp5b) ⟨HF c n kd ps ++ G, [], []⟩ = some (.ref 8, ⟨HF c n kd ps ++ G, [], []⟩) := by kernel_rfl
theorem elt5a (j : Int) (G : List O) : (runR (cfg1 orcE) 30).ev (neComp (neZ lF) (scOf cmp5a) cl5a (nmOf cmp5a) (.sint j)) (eltOf cmp5a) ⟨HF c n kd ps ++ G, [], []⟩ = some (signV j, ⟨HF c n kd ps ++ G, [], [0 ≤ j ∧ j < signsS.length ∧ signsS.length ≤ 1000]⟩) := by kernel_rfl
theorem elt5b (j : Int) (G : List O) : (runR (cfg1 orcE) 30).ev (neComp (neZ lF) (scOf cmp5b) cl5b (nmOf cmp5b) (.sint j)) (eltOf cmp5b) ⟨HF c n kd ps ++ G, [], []⟩ = some (kindV kd j, ⟨HF c n kd ps ++ G, [], [0 ≤ j ∧ j < (strsV kd.l).length ∧ (strsV kd.l).length ≤ 1000]⟩) := by kernel_rfl
noncomputable def G5a : List O := HF c n kd ps ++ [.slist (ps.map signV)]
noncomputable def G5b : List O := HF c n kd ps ++ [.slist (ps.map signV), .slist (ps.map (kindV kd))]
noncomputable def lo5 : LO := pinC cmp5a (neZ lF) (HF c n kd ps) 20 (G5a c n kd ps) (pinC cmp5b (neZ lF) (G5a c n kd ps) 21 (G5b c n kd ps) noLo)
noncomputable def HG : List O := [noneC, noneC, noneC, noneC, .cell (some (.ref 9)), .cell (some (.ref 10)), .cell (some (.str signsS)), .cell (some (.ref 18)), .slist (ps.map (kindV kd)), .list (strsV kd.l), .inst 713 [(sParent, .none), (sRows, .ref 11)],
  .dictI [(97, .ref 12), (98, .ref 13), (10, .ref 14), (32, .ref 15), (95, .ref 16), (46, .ref 17)], syn kd.k0, syn kd.k1, syn kd.k2, syn kd.k3, syn kd.k4, syn kd.k5, .list [.ref 19, .sint n], .slist c]
noncomputable def lG : LR := [(sKinds, .ref 8), (sText, .sstr (textS ps))]
noncomputable def cs5 : List Prop := [∀ v ∈ ps.map (kindV kd), NoRefV v, ∀ v ∈ c, NoRefV v, neZ lF = neZ lF ∧ cmp5b = cmp5b ∧ G5a c n kd ps = G5a c n kd ps, (∀ v ∈ ps.map signV, isSstr v) ∧ emptyS.length ≤ 64 ∧ sumLens ((ps.map signV).map strOfV) + (ps.map signV).length * 64 ≤ 100000, neZ lF = neZ lF ∧ cmp5a = cmp5a ∧ HF c n kd ps = HF c n kd ps]
theorem run5 : stepG (cfgL orcE (lo5 c n kd ps)) 30 8 [(sText, false), (sKinds, false)] [] (neZ lF) (lawSt 5) (HF c n kd ps) [] = some ((HG c n kd ps, lG ps), cs5 c n kd ps) := by kernel_rfl
end
theorem sumLens_one : ∀ ps : List Int, sumLens ((ps.map signV).map strOfV) = ps.length
  | [] => rfl
  | j :: r => by
    show (signS j).length + sumLens ((r.map signV).map strOfV) = _
    rw [sumLens_one r, List.length_cons, show (signS j).length = 1 from rfl]
    (first | decide | lia | omega)
section
variable {D : Wd} (hK : KOk D.K)
include hK
theorem comp5a {c : List V} {n : Int} {kd : Kd} {ps : List Int} (hp : ∀ j ∈ ps, 0 ≤ j ∧ j < 6) (hl : ps.length ≤ 7) : CompT D 150 (neZ lF) cmp5a (HF c n kd ps) 20 (G5a c n kd ps) := by
  have hc : CfgOk D 120 (cfg1 orcE) := cfg1_ok hK fun k => orcE_ok hK (by (first | decide | lia | omega))
  have e1 := run_ev hc (it5a c n kd ps []) okn
  rw [List.append_nil] at e1
  have R := compR_list (D := D) (n := 150) (neC := neComp (neZ lF) (scOf cmp5a) cl5a (nmOf cmp5a)) (elt := eltOf cmp5a) (H := HF c n kd ps) (k := 8) (l := ps.map .sint) (g := onV signV) (fun acc => rfl) (fun v hv acc => by
    obtain ⟨j, hj, rfl⟩ := List.mem_map.mp hv
    exact run_ev hc (elt5a c n kd ps j [.slist acc]) (okc ⟨(hp j hj).1, (hp j hj).2, by decide⟩ okn)) (by rw [List.length_map]; (first | decide | lia | omega))
  rw [show (ps.map V.sint).map (onV signV) = ps.map signV by rw [List.map_map]; rfl] at R
  exact compOf (cellsC := cl5a) (k := (ps.map V.sint).length) (it := .list 8 0) (σ₁ := ⟨HF c n kd ps, [], []⟩) (σ₂ := ⟨HF c n kd ps, [], []⟩) (by kernel_rfl) (by kernel_rfl) (by kernel_rfl) free5a e1 rfl okn rfl R
theorem comp5b {c : List V} {n : Int} {kd : Kd} {ps : List Int} (hp : ∀ j ∈ ps, 0 ≤ j ∧ j < 6) (hl : ps.length ≤ 7) : CompT D 150 (neZ lF) cmp5b (G5a c n kd ps) 21 (G5b c n kd ps) := by
  have hc : CfgOk D 120 (cfg1 orcE) := cfg1_ok hK fun k => orcE_ok hK (by (first | decide | lia | omega))
  have e1 := run_ev hc (it5b c n kd ps [.slist (ps.map signV)]) okn
  have R := compR_list (D := D) (n := 150) (neC := neComp (neZ lF) (scOf cmp5b) cl5b (nmOf cmp5b)) (elt := eltOf cmp5b) (H := G5a c n kd ps) (k := 8) (l := ps.map .sint) (g := onV (kindV kd)) (fun acc => rfl) (fun v hv acc => by
    obtain ⟨j, hj, rfl⟩ := List.mem_map.mp hv
    exact run_ev hc (elt5b c n kd ps j [.slist (ps.map signV), .slist acc]) (okc ⟨(hp j hj).1, (hp j hj).2, Nat.le_of_ble_eq_true rfl⟩ okn)) (by rw [List.length_map]; (first | decide | lia | omega))
  rw [show (ps.map V.sint).map (onV (kindV kd)) = ps.map (kindV kd) by rw [List.map_map]; rfl] at R
  exact compOf (cellsC := cl5b) (k := (ps.map V.sint).length) (it := .list 8 0) (σ₁ := ⟨G5a c n kd ps, [], []⟩) (σ₂ := ⟨G5a c n kd ps, [], []⟩) (by kernel_rfl) (by kernel_rfl) (by kernel_rfl) free5b e1 rfl okn rfl R
theorem s5 {c : List V} {n : Int} {kd : Kd} {ps : List Int} (h2 : ∀ v ∈ c, isSint v) (hp : ∀ j ∈ ps, 0 ≤ j ∧ j < 6) (hl : ps.length ≤ 7) : Stp D 190 8 (neZ lF) (lawSt 5) (HF c n kd ps) (lG ps) (HG c n kd ps) := by
  have hc : CfgOk D 160 (cfgL orcE (lo5 c n kd ps)) := cfgL_ok hK (by (first | decide | lia | omega)) (fun k => orcE_ok hK (by (first | decide | lia | omega))) fun k => pinLo_ok ((comp5a hK hp hl).up (by (first | decide | lia | omega))) (pinLo_ok ((comp5b hK hp hl).up (by (first | decide | lia | omega))) noLo_ok)
  refine stepG_ok hc (run5 c n kd ps) ?_
  refine all_cons ?_ (all_cons (sint_all h2) (all_cons ⟨rfl, rfl, rfl⟩ (all_cons ⟨?_, by decide, ?_⟩ (all_cons ⟨rfl, rfl, rfl⟩ all_nil))))
  · intro v hv
    obtain ⟨j, _, rfl⟩ := List.mem_map.mp hv; trivial
  · intro v hv
    obtain ⟨j, _, rfl⟩ := List.mem_map.mp hv; trivial
  · rw [sumLens_one, List.length_map]; (first | decide | lia | omega)
end
noncomputable def HH (c : List V) (n : Int) (kd : Kd) (ps : List Int) (base spot : Int) : List O := [noneC, noneC, .cell (some (.sint spot)), .cell (some (.sint base)), .cell (some (.ref 9)), .cell (some (.ref 10)), .cell (some (.str signsS)), .cell (some (.ref 18)), .slist (ps.map (kindV kd)), .list (strsV kd.l), .inst 713 [(sParent, .none), (sRows, .ref 11)],
  .dictI [(97, .ref 12), (98, .ref 13), (10, .ref 14), (32, .ref 15), (95, .ref 16), (46, .ref 17)], syn kd.k0, syn kd.k1, syn kd.k2, syn kd.k3, syn kd.k4, syn kd.k5, .list [.ref 19, .sint n], .slist c]
theorem run6 (c : List V) (n : Int) (kd : Kd) (ps : List Int) : stepG (cfgL orcE noLo) 30 8 [(sText, false), (sKinds, false)] [] (neZ (lG ps)) (lawSt 6) (HG c n kd ps) [] = some ((HH c (n + 1 + 1) kd ps (drawV c n 3) (drawV c (n + 1) ((textS ps).length + 2)), lG ps), [∀ v ∈ ps.map (kindV kd), NoRefV v, ∀ v ∈ c, NoRefV v, DeckOk c (n + 1) ((textS ps).length + 2), (textS ps).length ≤ 1000, DeckOk c n 3]) := by kernel_rfl
section
variable {D : Wd} (hK : KOk D.K)
include hK
theorem s6 {c : List V} {n : Int} {kd : Kd} {ps : List Int} (h1 : c.length ≤ 30) (h2 : ∀ v ∈ c, isSint v) (h3 : 0 ≤ n) (h4 : n ≤ 900) (hT : (textS ps).length ≤ 1000) : Stp D 180 8 (neZ (lG ps)) (lawSt 6) (HG c n kd ps) (lG ps) (HH c (n + 1 + 1) kd ps (drawV c n 3) (drawV c (n + 1) ((textS ps).length + 2))) := by
  refine stepG_ok (cfgE_ok hK) (run6 c n kd ps) (all_cons ?_ (all_cons (sint_all h2) (all_cons (deckOk h1 h2 (by (first | decide | lia | omega)) (by (first | decide | lia | omega)) (by (first | decide | lia | omega))) (all_cons hT (all_cons (deckOk h1 h2 h3 (by (first | decide | lia | omega)) (by decide)) all_nil)))))
  intro v hv
  obtain ⟨j, _, rfl⟩ := List.mem_map.mp hv; trivial
end
end Mine
end
section
open PySem PySem.W PyProof.Rows PySem.Calls PySem.Spec
namespace Mine
noncomputable def Blk (D : Wd) (n n0 : Nat) (ne : NE) (ss : List Stmt) (H : List O) (l' : LR) (G : List O) : Prop := ∃ l₁ H₁, ExT D n ne ss H .next l₁ H₁ ∧ PickOk n0 H₁ l₁ G l'
noncomputable def exG (c : Cfg) (f n0 : Nat) (keep : List (Str × Bool)) (cv : List (Nat × Bool)) (ne : NE) (ss : List Stmt) (H : List O) (ds : List Bool) : Option ((List O × LR) × List Prop) :=
  ob ((runR c f).exs ne ss ⟨H, ds, []⟩) fun p => onT (isNext p.1.1) (ob (gc n0 p.2.H (keepL keep p.1.2)) fun q => some ((cvH cv q.1, q.2.1), q.2.2 ++ p.2.cs))
theorem exG_post {D : Wd} {n : Nat} {c : Cfg} {f n0 : Nat} {keep : List (Str × Bool)} {cv : List (Nat × Bool)} {ne : NE} {ss : List Stmt} {H : List O} {ds : List Bool} (hc : CfgOk D n c) : Post (exG c f n0 keep cv ne ss H ds) fun z => (∀ p ∈ z.2, p) → Blk D (n + f) n0 ne ss H z.1.2 z.1.1 :=
  .ob fun p h => .onT fun hf => .ob fun q hg => .pure fun ok => ⟨p.1.2, p.2.H, isNext_ok hf ▸ run_ex hc h fun c hp => ok c (List.mem_append_right _ hp), (PickOk.locsW keepL_w).trans ((gc_ok hg fun c hp => ok c (List.mem_append_left _ hp)).trans .cv)⟩
theorem exG_ok {D : Wd} {n : Nat} {c : Cfg} {f n0 : Nat} {keep : List (Str × Bool)} {cv : List (Nat × Bool)} {ne : NE} {ss : List Stmt} {H : List O} {ds : List Bool} {G : List O} {l' : LR} {cs : List Prop} (hc : CfgOk D n c) (e : exG c f n0 keep cv ne ss H ds = some ((G, l'), cs)) (ok : ∀ p ∈ cs, p) : Blk D (n + f) n0 ne ss H l' G := exG_post hc _ e ok
theorem Blk.up {D : Wd} {n n' n0 : Nat} {ne : NE} {ss : List Stmt} {H G : List O} {l' : LR} (h : n ≤ n') (s : Blk D n n0 ne ss H l' G) : Blk D n' n0 ne ss H l' G := let ⟨l, H1, a, b⟩ := s; ⟨l, H1, ExT.up h a, b⟩
noncomputable def isName : PySem.Expr → Bool
  | .Name _ _ => true
  | _ => false
theorem forP_range {D : Wd} {n n0 : Nat} {ne : NE} {t : PySem.Expr} {body : List Stmt} {N : Nat} (ht : isName t = true) (I : Nat → List O) (l : LR) (l₁ : Nat → LR) (ha : ∀ i, i < N → AsgT D n (ne.withL l) t (.int (i : Int)) (I i) (l₁ i) (I i)) (hb : ∀ i, i < N → Blk D n n0 (ne.withL (l₁ i)) body (I i) l (I (i + 1))) :
    ForP D n ne t body n0 N (.range 0 N) (I 0) l l (I N) := by
  have hot : ∀ a b, okTarget t (.range a b) = true := fun a b => by
    cases t <;> first | rfl | cases ht
  have main : ∀ (j i : Nat), i + j = N → ForP D n ne t body n0 j (.range (i : Int) j) (I i) l l (I N) := by
    intro j
    induction j with
    | zero =>
      intro i hi
      have e : i = N := by (first | decide | lia | omega)
      subst e
      exact .done rfl
    | succ j ih =>
      intro i hi
      obtain ⟨l₂, H₂, hx, hp⟩ := hb i (by (first | decide | lia | omega))
      have e := ih (i + 1) (by (first | decide | lia | omega))
      rw [show ((i + 1 : Nat) : Int) = (i : Int) + 1 by (first | decide | lia | omega)] at e
      exact .step rfl trivial (hot _ _) (ha i (by (first | decide | lia | omega))) hx hp e
  exact main N 0 (by (first | decide | lia | omega))
noncomputable def runSt (i : Nat) : Stmt := (F774.body[i]?).getD (.Pass default)
noncomputable def neR (l : LR) : NE := ⟨F774.scope.names, l, []⟩
noncomputable def sWanted : Str := "wanted"
noncomputable def sBegins : Str := "begins_own"
noncomputable def sEnds : Str := "ends"
noncomputable def sAt : Str := "at"
noncomputable def lR0 (wd : Str) : LR := [(sKinds, .ref 0), (sWanted, .str wd)]
noncomputable def lR (wd : Str) : LR := [(sKinds, .ref 0), (sWanted, .str wd), (sEnds, .ref 1), (sBegins, .ref 2)]
noncomputable def keepR : List (Str × Bool) := [(sKinds, false), (sWanted, false), (sBegins, false), (sEnds, false)]
noncomputable def lR1 (wd : Str) (j : Int) : LR := lR wd ++ [(sAt, .sint j)]
noncomputable def HR (K B E : List V) : List O := [.slist K, .slist E, .slist B]
noncomputable def HR4 (K B E : List V) : List O := [.slist K, .slist E, .slist B, .range 0 K.length]
noncomputable def cfgS : Cfg := cfgX orcS orcE noLo
noncomputable def inW (wd k : Str) : Bool := !(Builtin.Str.occurrences wd k 0 wd.length 1).isEmpty
noncomputable abbrev cI (K : List V) (j : Int) : Prop := 0 ≤ j ∧ j < K.length ∧ K.length ≤ 1000 ∧ ∀ v ∈ K, isSstr v
noncomputable def rrun (K B E : List V) (wd : Str) (j : Int) (ds : List Bool) := exG cfgS 30 4 keepR [] (neR (lR1 wd j)) (forB (runSt 1)) (HR4 K B E) ds
noncomputable def cN (K B E : List V) : List Prop := [∀ v ∈ K, NoRefV v, ∀ v ∈ E, NoRefV v, ∀ v ∈ B, NoRefV v]
noncomputable def cAn (B E : List V) : List Prop := [B.length ≤ 1000, isNilV B = true]
noncomputable def cAe (B E : List V) : List Prop := [B.length ≤ 1000, decide ((B.length : Int) = E.length) = true, E.length ≤ 1000, B.length ≤ 1000, isNilV B = false]
noncomputable def cAo (B E : List V) : List Prop := [decide ((B.length : Int) = E.length) = false, E.length ≤ 1000, B.length ≤ 1000, isNilV B = false]
noncomputable def cEl (K E : List V) (wd : Str) (j : Int) : List Prop := [E.length ≤ 1000, decide (j + 1 = (K.length : Int)) = true, K.length ≤ 1000]
noncomputable def cEy (K E : List V) (wd : Str) (j : Int) : List Prop := [E.length ≤ 1000, (!inW wd (strOfV (K.getD (j + 1).toNat .none))) = true, cI K (j + 1), decide (j + 1 = (K.length : Int)) = false, K.length ≤ 1000]
noncomputable def cEz (K E : List V) (wd : Str) (j : Int) : List Prop := [(!inW wd (strOfV (K.getD (j + 1).toNat .none))) = false, cI K (j + 1), decide (j + 1 = (K.length : Int)) = false, K.length ≤ 1000]
section
variable (K B E : List V) (wd : Str) (j : Int)
theorem rr_f : rrun K B E wd j [false] = some ((HR4 K B E, lR wd), cN K B E ++ [inW wd (strOfV (K.getD j.toNat .none)) = false, cI K j]) := by kernel_rfl
theorem rr_nl : rrun K B E wd j [true, true, true] = some ((HR4 K (B ++ [.sint j]) (E ++ [.sint (j + 1)]), lR wd), cN K (B ++ [.sint j]) (E ++ [.sint (j + 1)]) ++ (cEl K E wd j ++ (cAn B E ++ [inW wd (strOfV (K.getD j.toNat .none)) = true, cI K j]))) := by kernel_rfl
theorem rr_ny : rrun K B E wd j [true, true, false, true] = some ((HR4 K (B ++ [.sint j]) (E ++ [.sint (j + 1)]), lR wd), cN K (B ++ [.sint j]) (E ++ [.sint (j + 1)]) ++ (cEy K E wd j ++ (cAn B E ++ [inW wd (strOfV (K.getD j.toNat .none)) = true, cI K j]))) := by kernel_rfl
theorem rr_nz : rrun K B E wd j [true, true, false, false] = some ((HR4 K (B ++ [.sint j]) E, lR wd), cN K (B ++ [.sint j]) E ++ (cEz K E wd j ++ (cAn B E ++ [inW wd (strOfV (K.getD j.toNat .none)) = true, cI K j]))) := by kernel_rfl
theorem rr_el : rrun K B E wd j [true, false, true, true] = some ((HR4 K (B ++ [.sint j]) (E ++ [.sint (j + 1)]), lR wd), cN K (B ++ [.sint j]) (E ++ [.sint (j + 1)]) ++ (cEl K E wd j ++ (cAe B E ++ [inW wd (strOfV (K.getD j.toNat .none)) = true, cI K j]))) := by kernel_rfl
theorem rr_ey : rrun K B E wd j [true, false, true, false, true] = some ((HR4 K (B ++ [.sint j]) (E ++ [.sint (j + 1)]), lR wd), cN K (B ++ [.sint j]) (E ++ [.sint (j + 1)]) ++ (cEy K E wd j ++ (cAe B E ++ [inW wd (strOfV (K.getD j.toNat .none)) = true, cI K j]))) := by kernel_rfl
theorem rr_ez : rrun K B E wd j [true, false, true, false, false] = some ((HR4 K (B ++ [.sint j]) E, lR wd), cN K (B ++ [.sint j]) E ++ (cEz K E wd j ++ (cAe B E ++ [inW wd (strOfV (K.getD j.toNat .none)) = true, cI K j]))) := by kernel_rfl
theorem rr_ol : rrun K B E wd j [true, false, false, true] = some ((HR4 K B (E ++ [.sint (j + 1)]), lR wd), cN K B (E ++ [.sint (j + 1)]) ++ (cEl K E wd j ++ (cAo B E ++ [inW wd (strOfV (K.getD j.toNat .none)) = true, cI K j]))) := by kernel_rfl
theorem rr_oy : rrun K B E wd j [true, false, false, false, true] = some ((HR4 K B (E ++ [.sint (j + 1)]), lR wd), cN K B (E ++ [.sint (j + 1)]) ++ (cEy K E wd j ++ (cAo B E ++ [inW wd (strOfV (K.getD j.toNat .none)) = true, cI K j]))) := by kernel_rfl
theorem rr_oz : rrun K B E wd j [true, false, false, false, false] = some ((HR4 K B E, lR wd), cN K B E ++ (cEz K E wd j ++ (cAo B E ++ [inW wd (strOfV (K.getD j.toNat .none)) = true, cI K j]))) := by kernel_rfl
theorem rr_0 : stepG cfgS 30 1 keepR [(1, true), (2, true)] (neR (lR0 wd)) (runSt 0) [.slist K] [] = some ((HR K [] [], lR wd), [∀ v ∈ K, NoRefV v]) := by kernel_rfl
theorem rr_it : iterX (tabs orcE) (runR cfgS 30) (neR (lR wd)) (forI (runSt 1)) ⟨HR K [] [], [], []⟩ = some (.range 0 K.length, ⟨HR4 K [] [], [], [-1000 ≤ (K.length : Int) ∧ (K.length : Int) ≤ 1000, K.length ≤ 1000]⟩) := by kernel_rfl
theorem rr_gc : gc 1 (HR4 K B E) (lR wd) = some (HR K B E, lR wd, cN K B E) := by kernel_rfl
theorem rr_at (H : List O) : asgE (runR cfgS 30) ((neR (lR wd)).withL (lR wd)) (forT (runSt 1)) (.int j) ⟨H, [], []⟩ = some (lR wd ++ [(sAt, .int j)], ⟨H, [], []⟩) := by kernel_rfl
theorem rr_ret : (runR cfgS 30).exs (neR (lR wd)) [runSt 2] ⟨HR K B E, [], []⟩ = some ((.ret (.ref 3), lR wd), ⟨HR K B E ++ [.tuple [.ref 2, .ref 1]], [], []⟩) := by kernel_rfl
end
noncomputable def openR (B E : List V) : Bool := match isNilV B with
  | true => true
  | false => decide ((B.length : Int) = E.length)
noncomputable def lastR (K : List V) (wd : Str) (j : Int) : Bool := match decide (j + 1 = (K.length : Int)) with
  | true => true
  | false => !inW wd (strOfV (K.getD (j + 1).toNat .none))
noncomputable def rstep (K : List V) (wd : Str) (j : Int) (p : List V × List V) : List V × List V := match inW wd (strOfV (K.getD j.toNat .none)) with
  | false => p
  | true => (match openR p.1 p.2 with | true => p.1 ++ [.sint j] | false => p.1, match lastR K wd j with | true => p.2 ++ [.sint (j + 1)] | false => p.2)
noncomputable def runsV (K : List V) (wd : Str) : Nat → List V × List V
  | 0 => ([], [])
  | i + 1 => rstep K wd i (runsV K wd i)
theorem rstep_ok {K : List V} {wd : Str} {j : Int} {p : List V × List V} (h1 : ∀ v ∈ p.1, isSint v) (h2 : ∀ v ∈ p.2, isSint v) : (∀ v ∈ (rstep K wd j p).1, isSint v) ∧ (∀ v ∈ (rstep K wd j p).2, isSint v) ∧ (rstep K wd j p).1.length ≤ p.1.length + 1 ∧ (rstep K wd j p).2.length ≤ p.2.length + 1 := by
  have ap : ∀ {l : List V} {i : Int}, (∀ v ∈ l, isSint v) → ∀ v ∈ l ++ [V.sint i], isSint v := fun h v hv => by
    rcases List.mem_append.mp hv with a | a
    · exact h v a
    · rw [List.mem_singleton.mp a]; trivial
  unfold rstep
  split
  · exact ⟨h1, h2, by (first | decide | lia | omega), by (first | decide | lia | omega)⟩
  · refine ⟨?_, ?_, ?_, ?_⟩ <;> dsimp only
    · split
      · exact ap h1
      · exact h1
    · split
      · exact ap h2
      · exact h2
    · split <;> simp
    · split <;> simp
theorem runsV_ok (K : List V) (wd : Str) : ∀ i, (∀ v ∈ (runsV K wd i).1, isSint v) ∧ (∀ v ∈ (runsV K wd i).2, isSint v) ∧ (runsV K wd i).1.length ≤ i ∧ (runsV K wd i).2.length ≤ i
  | 0 => ⟨fun v hv => (nomatch hv), fun v hv => (nomatch hv), Nat.le_refl _, Nat.le_refl _⟩
  | i + 1 => by
    obtain ⟨a, b, c, d⟩ := runsV_ok K wd i
    obtain ⟨a', b', c', d'⟩ := rstep_ok (K := K) (wd := wd) (j := i) a b
    exact ⟨a', b', by unfold runsV; (first | decide | lia | omega), by unfold runsV; (first | decide | lia | omega)⟩
theorem isSstr.noRef {v : V} (h : isSstr v) : NoRefV v := by
  rw [isSstr_eq h]; exact trivial
section
variable {D : Wd} (hK : KOk D.K)
include hK
theorem cfgS_ok : CfgOk D 150 cfgS := cfgX_ok hK (fun k => orcS_ok (by (first | decide | lia | omega))) (fun k => orcE_ok hK (by (first | decide | lia | omega))) fun k => noLo_ok
theorem turnR {K : List V} {wd : Str} (hl : K.length ≤ 500) (hs : ∀ v ∈ K, isSstr v) (i : Nat) (hi : i < K.length) : Blk D 180 4 (neR (lR1 wd i)) (forB (runSt 1)) (HR4 K (runsV K wd i).1 (runsV K wd i).2) (lR wd) (HR4 K (runsV K wd (i + 1)).1 (runsV K wd (i + 1)).2) := by
  have hc := cfgS_ok hK
  obtain ⟨sB, sE, lB, lE⟩ := runsV_ok K wd i
  obtain ⟨sB', sE', _, _⟩ := runsV_ok K wd (i + 1)
  have kn : ∀ v ∈ K, NoRefV v := fun v hv => (hs v hv).noRef
  have h0 : cI K (i : Int) := ⟨by (first | decide | lia | omega), by (first | decide | lia | omega), by (first | decide | lia | omega), hs⟩
  revert sB' sE'
  show (∀ v ∈ (rstep K wd i (runsV K wd i)).1, isSint v) → (∀ v ∈ (rstep K wd i (runsV K wd i)).2, isSint v) → Blk D 180 4 (neR (lR1 wd i)) (forB (runSt 1)) (HR4 K (runsV K wd i).1 (runsV K wd i).2) (lR wd) (HR4 K (rstep K wd i (runsV K wd i)).1 (rstep K wd i (runsV K wd i)).2)
  generalize runsV K wd i = p at *
  obtain ⟨B, E⟩ := p
  unfold rstep
  cases q0 : inW wd (strOfV (K.getD (i : Int).toNat .none)) with
  | false => exact fun sB' sE' => exG_ok hc (rr_f K B E wd i) (all_append (all_cons kn (all_cons (sint_all sE') (all_cons (sint_all sB') all_nil))) (all_cons q0 (all_cons h0 all_nil)))
  | true =>
    have tl : ∀ p ∈ [inW wd (strOfV (K.getD (i : Int).toNat .none)) = true, cI K (i : Int)], p := all_cons q0 (all_cons h0 all_nil)
    have lB1 : B.length ≤ 1000 := by dsimp only at lB; (first | decide | lia | omega)
    have lE1 : E.length ≤ 1000 := by dsimp only at lE; (first | decide | lia | omega)
    have lK1 : K.length ≤ 1000 := by (first | decide | lia | omega)
    dsimp only
    have hn : ∀ {B' E' : List V}, (∀ v ∈ B', isSint v) → (∀ v ∈ E', isSint v) → ∀ p ∈ cN K B' E', p := fun a b => all_cons kn (all_cons (sint_all b) (all_cons (sint_all a) all_nil))
    have key : ∀ {cA : List Prop}, (∀ p ∈ cA, p) → ∀ {B' : List V} {dA : List Bool},
        (rrun K B E wd i (true :: dA ++ [true]) = some ((HR4 K B' (E ++ [V.sint ((i : Int) + 1)]), lR wd), cN K B' (E ++ [V.sint ((i : Int) + 1)]) ++ (cEl K E wd i ++ (cA ++ [inW wd (strOfV (K.getD (i : Int).toNat .none)) = true, cI K (i : Int)])))) →
        (rrun K B E wd i (true :: dA ++ [false, true]) = some ((HR4 K B' (E ++ [V.sint ((i : Int) + 1)]), lR wd), cN K B' (E ++ [V.sint ((i : Int) + 1)]) ++ (cEy K E wd i ++ (cA ++ [inW wd (strOfV (K.getD (i : Int).toNat .none)) = true, cI K (i : Int)])))) →
        (rrun K B E wd i (true :: dA ++ [false, false]) = some ((HR4 K B' E, lR wd), cN K B' E ++ (cEz K E wd i ++ (cA ++ [inW wd (strOfV (K.getD (i : Int).toNat .none)) = true, cI K (i : Int)])))) →
        (∀ v ∈ B', isSint v) → (∀ v ∈ (match lastR K wd i with | true => E ++ [V.sint ((i : Int) + 1)] | false => E), isSint v) → Blk D 180 4 (neR (lR1 wd i)) (forB (runSt 1)) (HR4 K B E) (lR wd) (HR4 K B' (match lastR K wd i with | true => E ++ [V.sint ((i : Int) + 1)] | false => E)) := by
      intro cA hA B' dA r1 r2 r3 sB' sE'
      cases q1 : decide ((i : Int) + 1 = (K.length : Int)) with
      | true =>
        have ql : lastR K wd i = true := by unfold lastR; rw [q1]
        rw [ql] at sE' ⊢
        exact exG_ok hc r1 (all_append (hn sB' sE') (all_append (all_cons lE1 (all_cons q1 (all_cons lK1 all_nil))) (all_append hA tl)))
      | false =>
        have q1' := of_decide_eq_false q1
        have h1 : cI K ((i : Int) + 1) := ⟨by (first | decide | lia | omega), by (first | decide | lia | omega), lK1, hs⟩
        cases q2 : !inW wd (strOfV (K.getD ((i : Int) + 1).toNat .none)) with
        | true =>
          have ql : lastR K wd i = true := by unfold lastR; rw [q1]; exact q2
          rw [ql] at sE' ⊢
          exact exG_ok hc r2 (all_append (hn sB' sE') (all_append (all_cons lE1 (all_cons q2 (all_cons h1 (all_cons q1 (all_cons lK1 all_nil))))) (all_append hA tl)))
        | false =>
          have ql : lastR K wd i = false := by unfold lastR; rw [q1]; exact q2
          rw [ql] at sE' ⊢
          exact exG_ok hc r3 (all_append (hn sB' sE') (all_append (all_cons q2 (all_cons h1 (all_cons q1 (all_cons lK1 all_nil)))) (all_append hA tl)))
    cases q3 : isNilV B with
    | true =>
      have qo : openR B E = true := by unfold openR; rw [q3]
      rw [qo]
      exact key (cA := cAn B E) (dA := [true]) (all_cons lB1 (all_cons q3 all_nil)) (rr_nl K B E wd i) (rr_ny K B E wd i) (rr_nz K B E wd i)
    | false =>
      cases q4 : decide ((B.length : Int) = E.length) with
      | true =>
        have qo : openR B E = true := by unfold openR; rw [q3]; exact q4
        rw [qo]
        exact key (cA := cAe B E) (dA := [false, true]) (all_cons lB1 (all_cons q4 (all_cons lE1 (all_cons lB1 (all_cons q3 all_nil))))) (rr_el K B E wd i) (rr_ey K B E wd i) (rr_ez K B E wd i)
      | false =>
        have qo : openR B E = false := by unfold openR; rw [q3]; exact q4
        rw [qo]
        exact key (cA := cAo B E) (dA := [false, false]) (all_cons q4 (all_cons lE1 (all_cons lB1 (all_cons q3 all_nil)))) (rr_ol K B E wd i) (rr_oy K B E wd i) (rr_oz K B E wd i)
end
end Mine
end
section
open PySem PySem.W PyProof.Rows PySem.Calls PySem.Spec
namespace Mine
theorem passed_succ (p : Nat → Bool) (n : Nat) : passed p (n + 1) = passed p n ++ (match p n with | true => [V.sint (n : Int)] | false => []) := by
  unfold passed
  rw [List.range_succ, List.filter_append, List.map_append]
  congr 1
  cases h : p n <;> simp [h]
theorem passed_zero (p : Nat → Bool) : passed p 0 = [] := rfl
noncomputable def wIn (K : List V) (wd : Str) (i : Nat) : Bool := match decide (i < K.length) with
  | true => inW wd (strOfV (K.getD i .none))
  | false => false
noncomputable def before (W : Nat → Bool) : Nat → Bool
  | 0 => false
  | i + 1 => W i
noncomputable def stB (W : Nat → Bool) (i : Nat) : Bool := W i && !before W i
noncomputable def enE (W : Nat → Bool) (i : Nat) : Bool := before W i && !W i
theorem count (W : Nat → Bool) : ∀ m, (passed (stB W) m).length = (passed (enE W) (m + 1)).length + (if (before W m && W m) = true then 1 else 0)
  | 0 => by
    rw [passed_succ, passed_zero, passed_zero]
    have : enE W 0 = false := rfl
    rw [this]; rfl
  | m + 1 => by
    have ih := count W m
    rw [passed_succ (stB W), passed_succ (enE W) (m + 1), List.length_append, List.length_append, ih]
    have e1 : before W (m + 1) = W m := rfl
    have e2 : enE W (m + 1) = (W m && !W (m + 1)) := rfl
    have e3 : stB W m = (W m && !before W m) := rfl
    rw [e1, e2, e3]
    cases W m <;> cases before W m <;> cases W (m + 1) <;> simp
theorem runs_plain (K : List V) (wd : Str) : ∀ m, m ≤ K.length → runsV K wd m = (passed (stB (wIn K wd)) m, passed (enE (wIn K wd)) (m + 1))
  | 0, _ => by
    rw [passed_succ]
    rfl
  | m + 1, hm => by
    have ih := runs_plain K wd m (by (first | decide | lia | omega))
    have hW : wIn K wd m = inW wd (strOfV (K.getD (m : Int).toNat .none)) := by
      unfold wIn
      rw [decide_eq_true (by (first | decide | lia | omega))]
      rfl
    show rstep K wd m (runsV K wd m) = _
    rw [ih]
    unfold rstep
    rw [← hW, passed_succ (stB (wIn K wd)), passed_succ (enE (wIn K wd)) (m + 1)]
    have e2 : enE (wIn K wd) (m + 1) = (wIn K wd m && !wIn K wd (m + 1)) := rfl
    have e3 : stB (wIn K wd) m = (wIn K wd m && !before (wIn K wd) m) := rfl
    rw [e2, e3]
    have cnt := count (wIn K wd) m
    cases q : wIn K wd m with
    | false => simp
    | true =>
      have hl : lastR K wd m = !wIn K wd (m + 1) := by
        unfold lastR wIn
        by_cases z : (m : Int) + 1 = K.length
        · rw [decide_eq_true z, decide_eq_false (by (first | decide | lia | omega))]
          rfl
        · rw [decide_eq_false z, decide_eq_true (by (first | decide | lia | omega))]
          rfl
      have ho : openR (passed (stB (wIn K wd)) m) (passed (enE (wIn K wd)) (m + 1)) = !before (wIn K wd) m := by
        rw [q, Bool.and_true] at cnt
        unfold openR
        cases b : before (wIn K wd) m with
        | true =>
          rw [b, if_pos rfl] at cnt
          cases hn : passed (stB (wIn K wd)) m with
          | nil => rw [hn] at cnt; simp at cnt
          | cons v r =>
            rw [hn] at cnt
            show decide _ = false
            exact decide_eq_false (by (first | decide | lia | omega))
        | false =>
          rw [b, if_neg (by simp)] at cnt
          cases hn : passed (stB (wIn K wd)) m with
          | nil => rfl
          | cons v r =>
            rw [hn] at cnt
            show decide _ = true
            exact decide_eq_true (by (first | decide | lia | omega))
      dsimp only
      rw [ho, hl]
      cases before (wIn K wd) m <;> cases wIn K wd (m + 1) <;> simp
end Mine
end
section
open PySem PySem.W PyProof.Rows PySem.Calls PySem.Spec
namespace Mine
theorem LocsW.last {x : Str} {i : Int} {l : LR} : LocsW (l ++ [(x, .int i)]) (l ++ [(x, .sint i)]) := by
  induction l with
  | nil => exact .cons (fun _ _ h => h) .nil
  | cons p r ih => exact .cons (fun _ _ h => h) ih
section
variable {D : Wd} (hK : KOk D.K)
include hK
theorem runs_local {K : List V} {wd : Str} (hl : K.length ≤ 500) (hs : ∀ v ∈ K, isSstr v) : CodeT D 190 (.val 774) [.ref 0, .str wd] [.slist K] (.ref 3) [.slist K, .slist (runsV K wd K.length).2, .slist (runsV K wd K.length).1, .tuple [.ref 2, .ref 1]] := by
  have hc := cfgS_ok hK
  have kn : ∀ v ∈ K, NoRefV v := fun v hv => (hs v hv).noRef
  have st0 : Stp D 180 1 (neR (lR0 wd)) (runSt 0) [.slist K] (lR wd) (HR K [] []) := stepG_ok hc (rr_0 K wd) (all_cons kn all_nil)
  have it := (iterX_post (n := 180) (tabs_ok hK orcE) (runR_ok hc 30) _ (rr_it K wd)).2 (okc ⟨by (first | decide | lia | omega), by (first | decide | lia | omega)⟩ (okc (by (first | decide | lia | omega)) okn))
  have fp := forP_range (D := D) (n := 180) (n0 := 4) (ne := neR (lR wd)) (t := forT (runSt 1)) (body := forB (runSt 1)) (N := K.length) (by kernel_rfl) (fun i => HR4 K (runsV K wd i).1 (runsV K wd i).2) (lR wd) (fun i => lR1 wd i)
    (fun i hi => AsgT.weak (l := lR wd ++ [(sAt, .int i)]) .last ((asgE_ok (D := D) (n := 180) (runR_ok hc 30) (rr_at wd i _)).2 okn))
    (fun i hi => turnR hK hl hs i hi)
  have st1 : StT D 180 (neR (lR wd)) (runSt 1) (HR K [] []) .next (lR wd) (HR4 K (runsV K wd K.length).1 (runsV K wd K.length).2) := by
    have e : runSt 1 = .For (forT (runSt 1)) (forI (runSt 1)) (forB (runSt 1)) [] (forP (runSt 1)) := by kernel_rfl
    rw [e]
    exact For_ok (by kernel_rfl) it fp
  obtain ⟨sB, sE, _, _⟩ := runsV_ok K wd K.length
  have p1 : PickOk 1 (HR4 K (runsV K wd K.length).1 (runsV K wd K.length).2) (lR wd) (HR K (runsV K wd K.length).1 (runsV K wd K.length).2) (lR wd) := gc_ok (rr_gc K _ _ wd) (all_cons kn (all_cons (sint_all sE) (all_cons (sint_all sB) all_nil)))
  have st2 : ExB D 180 (neR (lR wd)) 1 [runSt 2] (HR K (runsV K wd K.length).1 (runsV K wd K.length).2) (.ret (.ref 3)) (lR wd) (HR K (runsV K wd K.length).1 (runsV K wd K.length).2 ++ [.tuple [.ref 2, .ref 1]]) := run_exB hc (rr_ret K _ _ wd) okn
  have b : ExB D 180 (neR (lR0 wd)) 1 [runSt 0, runSt 1, runSt 2] [.slist K] (.ret (.ref 3)) (lR wd) (HR K (runsV K wd K.length).1 (runsV K wd K.length).2 ++ [.tuple [.ref 2, .ref 1]]) := ExB.step st0 (ExB.cons st1 p1 st2)
  have bd : F774.body = [runSt 0, runSt 1, runSt 2] := by kernel_rfl
  have x := ExB.toT (H := [.slist K]) b
  rw [← bd] at x
  exact (CodeT.ofBody (cn := []) (fn_at hK (F := F774) (by kernel_rfl)) (by kernel_rfl) (by kernel_rfl) (binds := lR0 wd) (by kernel_rfl) (by kernel_rfl) (by exact x)).up (by (first | decide | lia | omega))
end
structure RunsOk (K : List V) : Prop where
  len : K.length ≤ 500
  str : ∀ v ∈ K, isSstr v
noncomputable def strOf (v : V) : Option Str := match v with
  | .str s => some s
  | _ => none
theorem strOf_ok {v : V} {s : Str} (h : strOf v = some s) : v = .str s := by
  cases v with
  | str => exact congrArg V.str (Option.some.inj h)
  | _ => exact noneNe h
noncomputable def orcF : OrcF := fun a vs σ => sel (Nat.beq a 774) (ob (un2 vs) fun p => ob (refOf p.1) fun k => ob (strOf p.2) fun wd => ob σ.H[k]? fun o => ob (slOf o) fun K => some (.ref (σ.H.length + 2), ⟨σ.H ++ [.slist (runsV K wd K.length).2, .slist (runsV K wd K.length).1, .tuple [.ref (σ.H.length + 1), .ref σ.H.length]], σ.ds, RunsOk K :: σ.cs⟩)) (orcE a vs σ)
theorem ren_sstrs {f : Nat → Nat} {l : List V} (h : ∀ v ∈ l, isSstr v) : l.map (renV f) = l := by
  refine (List.map_congr_left fun v hv => ?_).trans (List.map_id _)
  rw [isSstr_eq (h v hv)]; rfl
theorem frame_sl {D : Wd} {n a : Nat} {vs : List V} {v : V} {H G : List O} {K : List V} {k : Nat} (hk : H[k]? = some (.slist K)) (hs : ∀ v ∈ K, isSstr v) (c : CodeT D n (.val a) vs [.slist K] v ([.slist K] ++ G)) : CodeT D n (.val a) (vs.map (renV (outN [k] H.length))) H (renV (outN [k] H.length) v) (H ++ G.map (renO (outN [k] H.length))) := by
  have base := CodeT.frame (Hs' := [.slist K]) c (part_of (.one hk) (by show _ = [O.slist (K.map _)]; rw [ren_sstrs hs]) (List.pairwise_singleton _ _)) rfl
  rw [show updS [k] ([O.slist K].map (renO (outN [k] H.length))) H = H by show H.set k (O.slist (K.map _)) = _; rw [ren_sstrs hs]; exact set_id hk] at base
  exact base
theorem orcF_ok {D : Wd} (hK : KOk D.K) {n : Nat} (hn : 190 ≤ n) : OrcOk D n orcF := fun a vs σ v σ' e =>
  (.sel (fun qa => .ob fun p h1 => .ob fun k h2 => .ob fun wd h3 => .ob fun o h4 => .ob fun K h5 => .pure ⟨⟨[_], rfl⟩, fun ok => by
    rw [Nat.eq_of_beq_eq_true qa, un2_ok h1, refOf_ok h2, strOf_ok h3]
    have h := ok _ (.head _)
    obtain ⟨sB, sE, _, _⟩ := runsV_ok K wd K.length
    have base := frame_sl (G := [.slist (runsV K wd K.length).2, .slist (runsV K wd K.length).1, .tuple [.ref 2, .ref 1]]) (h4.trans (congrArg some (slOf_ok h5))) h.str ((runs_local hK (wd := wd) h.len h.str).up hn)
    rw [show ([O.slist (runsV K wd K.length).2, .slist (runsV K wd K.length).1, .tuple [.ref 2, .ref 1]]).map (renO (outN [k] σ.H.length)) = [O.slist (runsV K wd K.length).2, .slist (runsV K wd K.length).1, .tuple [.ref (σ.H.length + 1), .ref σ.H.length]] by
      show [O.slist ((runsV K wd K.length).2.map _), O.slist ((runsV K wd K.length).1.map _), O.tuple [.ref (outN [k] σ.H.length 2), .ref (outN [k] σ.H.length 1)]] = _
      rw [ren_sints sB, ren_sints sE]; rfl] at base
    exact base⟩)
  fun _ p h => orcE_ok hK (Nat.le_trans (by decide) hn) _ _ _ _ _ h : Post (orcF a vs σ) (OrcG D n a vs σ)) _ e
end Mine
end
section
open PySem PySem.W PyProof.Rows PySem.Calls PySem.Spec
namespace Mine
noncomputable def offSt (i : Nat) : Stmt := (F779.body[i]?).getD (.Pass default)
noncomputable def cB : PySem.Expr := valOf (offSt 3)
noncomputable def cP : PySem.Expr := eltAt (valOf (offSt 5)) 0
noncomputable def cIn : PySem.Expr := valOf (offSt 6)
noncomputable def sSize : Str := "size"
noncomputable def sWords : Str := "words"
noncomputable def sSpot : Str := "spot"
noncomputable def sBounds : Str := "bounds"
noncomputable def cellsO : List (Str × Nat) := numCells (cellsOf F779.scope.names []) 1
noncomputable def neO (cl : List (Str × Nat)) : NE := ⟨F779.scope.names, [], cl⟩
noncomputable def tst0 (e : PySem.Expr) : PySem.Expr := ((tsOf e)[0]?).getD e
noncomputable def cfgO : Cfg := cfgL orcF noLo
noncomputable def LB (s : Int) (B E : List V) : List O := [.cell (some (.sint s)), .cell (some (.ref 2)), .tuple [.ref 3, .ref 4], .slist B, .slist E]
noncomputable def neB (i : Int) : NE := neComp (neO []) (scOf cB) [(sWords, 1), (sSize, 0)] (nmOf cB) (.sint i)
noncomputable def neP (i : Int) : NE := neComp (neO []) (scOf cP) [(sSpot, 0)] (nmOf cP) (.sint i)
noncomputable def neI (i : Int) : NE := neComp (neO []) (scOf cIn) [(sBounds, 0)] (nmOf cIn) (.sint i)
noncomputable def isBd (B E : List V) (s i : Int) : Bool := match anyI [0, s] i with
  | true => true
  | false => match anyI (B.map intOf) i with
    | true => true
    | false => anyI (E.map intOf) i
section
variable (s i : Int) (B E : List V) (d : Bool)
theorem tB_t : (runR cfgO 30).tr (neB i) (tst0 cB) ⟨LB s B E, [true], []⟩ = some (true, ⟨LB s B E ++ [.tuple [.int 0, .sint s]], [], [anyI [0, s] i = true]⟩) := by kernel_rfl
theorem tB_ft : (runR cfgO 30).tr (neB i) (tst0 cB) ⟨LB s B E, [false, true], []⟩ = some (true, ⟨LB s B E ++ [.tuple [.int 0, .sint s]], [], [anyI (B.map intOf) i = true, ∀ v ∈ B, isIntV v, anyI [0, s] i = false]⟩) := by kernel_rfl
theorem tB_fft : (runR cfgO 30).tr (neB i) (tst0 cB) ⟨LB s B E, [false, false, true], []⟩ = some (true, ⟨LB s B E ++ [.tuple [.int 0, .sint s]], [], [anyI (E.map intOf) i = true, ∀ v ∈ E, isIntV v, anyI (B.map intOf) i = false, ∀ v ∈ B, isIntV v, anyI [0, s] i = false]⟩) := by kernel_rfl
theorem tB_fff : (runR cfgO 30).tr (neB i) (tst0 cB) ⟨LB s B E, [false, false, false], []⟩ = some (false, ⟨LB s B E ++ [.tuple [.int 0, .sint s]], [], [anyI (E.map intOf) i = false, ∀ v ∈ E, isIntV v, anyI (B.map intOf) i = false, ∀ v ∈ B, isIntV v, anyI [0, s] i = false]⟩) := by kernel_rfl
theorem tP : (runR cfgO 30).tr (neP i) (tst0 cP) ⟨[.cell (some (.sint s))], [d], []⟩ = some (d, ⟨[.cell (some (.sint s))], [], [decide (i = s) = d]⟩) := by kernel_rfl
theorem tI : (runR cfgO 30).tr (neI i) (tst0 cIn) ⟨[.cell (some (.ref 1)), .slist B], [d], []⟩ = some (d, ⟨[.cell (some (.ref 1)), .slist B], [], [(!anyI (B.map intOf) i) = d, ∀ v ∈ B, isIntV v]⟩) := by kernel_rfl
theorem iB : (runR cfgO 30).ev (neO [(sSize, 0)]) (itOf cB) ⟨[.cell (some (.sint s))], [], []⟩ = some (.ref 1, ⟨[.cell (some (.sint s))] ++ [.range 0 (s + 1)], [], []⟩) := by kernel_rfl
theorem iP : (runR cfgO 30).ev (neO [(sSize, 0)]) (itOf cP) ⟨[.cell (some (.sint s))], [], []⟩ = some (.ref 1, ⟨[.cell (some (.sint s))] ++ [.range 0 (s + 1)], [], []⟩) := by kernel_rfl
theorem iI : (runR cfgO 30).ev (neO [(sSize, 0)]) (itOf cIn) ⟨[.cell (some (.sint s))], [], []⟩ = some (.ref 1, ⟨[.cell (some (.sint s))] ++ [.range 0 (s + 1)], [], []⟩) := by kernel_rfl
theorem eB (cl : List (Str × Nat)) (H : List O) : (runR cfgO 30).ev (neComp (neO cellsO) (scOf cB) cl (nmOf cB) (.int i)) (eltOf cB) ⟨H, [], []⟩ = some (.int i, ⟨H, [], []⟩) := by kernel_rfl
theorem eP (cl : List (Str × Nat)) (H : List O) : (runR cfgO 30).ev (neComp (neO cellsO) (scOf cP) cl (nmOf cP) (.int i)) (eltOf cP) ⟨H, [], []⟩ = some (.int i, ⟨H, [], []⟩) := by kernel_rfl
theorem eI (cl : List (Str × Nat)) (H : List O) : (runR cfgO 30).ev (neComp (neO cellsO) (scOf cIn) cl (nmOf cIn) (.int i)) (eltOf cIn) ⟨H, [], []⟩ = some (.int i, ⟨H, [], []⟩) := by kernel_rfl
end
theorem clLB {s : Int} {B E : List V} (hB : ∀ v ∈ B, isSint v) (hE : ∀ v ∈ E, isSint v) : ClH (LB s B E) := by
  intro o ho
  simp only [LB, List.mem_cons, List.not_mem_nil, or_false] at ho
  rcases ho with rfl | rfl | rfl | rfl | rfl
  · trivial
  · show 2 < 5; (first | decide | lia | omega)
  · intro v hv
    simp only [List.mem_cons, List.not_mem_nil, or_false] at hv
    rcases hv with rfl | rfl
    · show 3 < 5; (first | decide | lia | omega)
    · show 4 < 5; (first | decide | lia | omega)
  · exact fun v hv => clV_sint (hB v hv)
  · exact fun v hv => clV_sint (hE v hv)
theorem isInt_all {l : List V} (h : ∀ v ∈ l, isSint v) : ∀ v ∈ l, isIntV v := fun v hv => (h v hv).isInt
theorem compPick {D : Wd} {n : Nat} {ne : NE} {e : PySem.Expr} {H : List O} {s : Int} {cl : List (Str × Nat)} {p : Nat → Bool} (he : e = .ListComp (eltOf e) [⟨.Name (nmOf e) (npOf e), itOf e, [tst0 e], 0⟩] (scOf e) (psOf e)) (so : scopeOk (scOf e) (nmOf e) = true) (oi : okIter (itOf e) = true)
    (fc : freeC ne.cells (scOf e).names [] = some cl) (hit : EvT D n ne (itOf e) H (.ref H.length) (H ++ [.range 0 s])) (h0 : 0 ≤ s) (h1 : s ≤ 500) (ht : ∀ i, i < s.toNat → ∀ acc, TrT D n (neComp ne (scOf e) cl (nmOf e) (.sint (i : Int))) (tst0 e) (H ++ [.range 0 s, .slist acc]) (p i) (H ++ [.range 0 s, .slist acc]))
    (hel : ∀ i, i < s.toNat → ∀ acc, EvT D n (neComp ne (scOf e) cl (nmOf e) (.int (i : Int))) (eltOf e) (H ++ [.range 0 s, .slist acc]) (.int (i : Int)) (H ++ [.range 0 s, .slist acc])) : CompT D n ne e H (H.length + 1) (H ++ [.range 0 s, .slist (passed p s.toNat)]) := by
  have ap : ∀ acc : List V, (H ++ [O.range 0 s]) ++ [O.slist acc] = H ++ [.range 0 s, .slist acc] := fun acc => by rw [List.append_assoc]; rfl
  have R := compR_filter (D := D) (n := n) (neC := neComp ne (scOf e) cl (nmOf e)) (elt := eltOf e) (c := tst0 e) (H := H ++ [.range 0 s]) (N := s.toNat) (p := p)
    (fun i hi acc => by
      rw [ap]
      exact TrT.weak (l := [(nmOf e, .int (i : Int))]) (l' := [(nmOf e, .sint (i : Int))]) (.cons (fun _ _ h => h) .nil) (ht i hi acc)) (fun i hi acc => by
      rw [ap]
      exact (hel i hi acc).val fun _ _ h => h) (by (first | decide | lia | omega))
  have hlen : (H ++ [O.range 0 s]).length = H.length + 1 := by rw [List.length_append]; rfl
  rw [hlen] at R
  have e2 : H ++ [O.range 0 s] ++ [accO true (passed p s.toNat)] = H ++ [.range 0 s, .slist (passed p s.toNat)] := ap _
  rw [e2] at R
  have hi : iterOf (.ref H.length) ⟨H ++ [O.range 0 s], [], []⟩ = some (.range 0 s.toNat, ⟨H ++ [O.range 0 s], [], [-1000 ≤ s ∧ s ≤ 1000]⟩) := by
    have hg : (H ++ [O.range 0 s])[H.length]? = some (.range 0 s) := by
      rw [List.getElem?_append_right (Nat.le_refl _), Nat.sub_self]; rfl
    show ob (H ++ [O.range 0 s])[H.length]? _ = _
    rw [hg]
    rfl
  exact ⟨eltOf e, nmOf e, npOf e, itOf e, [tst0 e], scOf e, psOf e, cl, true, _, .range 0 s.toNat, .ref H.length, ⟨H ++ [O.range 0 s], [], []⟩, ⟨H ++ [O.range 0 s], [], [-1000 ≤ s ∧ s ≤ 1000]⟩, he, so, oi, fc, hit, hi, okc ⟨by (first | decide | lia | omega), by (first | decide | lia | omega)⟩ okn, by
    show CompR D n _ _ _ true (H ++ [O.range 0 s]).length _ _ _ _
    rw [hlen]
    exact R, by show _ = (H ++ [O.range 0 s]).length; rw [hlen]⟩
theorem ev_range1 {D : Wd} {n : Nat} {ne : NE} {e : PySem.Expr} {H : List O} {s : Int} {names : List (Str × NameKind)} {x : Str} {k : Nat} (hn : ne.names = names) (hk : H[k]? = some (.cell (some (.sint s)))) (hx : lkS ne.cells (code x) = some k)
    (c : EvT D n ⟨names, [], [(x, 0)]⟩ e [.cell (some (.sint s))] (.ref 1) ([.cell (some (.sint s))] ++ [.range 0 (s + 1)])) : EvT D n ne e H (.ref H.length) (H ++ [.range 0 (s + 1)]) := by
  have P : Part [k] [.cell (some (.sint s))] H := ⟨rfl, by simp, fun j o q => by
    match j, q with
    | 0, q => cases q; exact ⟨k, rfl, hk⟩⟩
  have np : NePart [k] H.length ⟨names, [], [(x, 0)]⟩ ne := ⟨hn.symm, fun y v q => (by cases q), fun y j q => by
    have q' : (match Nat.beq (code x) (code y) with | true => some 0 | false => lkS [] (code y)) = some j := q
    cases z : Nat.beq (code x) (code y) with
    | true =>
      rw [z] at q'
      cases q'
      rw [← Nat.eq_of_beq_eq_true z]
      exact ⟨k, rfl, hx⟩
    | false => rw [z] at q'; cases q'⟩
  have r := EvT.frame (Hs' := [.cell (some (.sint s))]) c P np rfl
  rw [updS_same P] at r
  have e1 : renV (outN [k] H.length) (.ref 1) = .ref H.length := rfl
  rw [e1] at r
  exact r
theorem nePart1 {names : List (Str × NameKind)} {l : LR} {x : Str} {k n : Nat} {cl : List (Str × Nat)} {sel : List Nat} (hl : ∀ y v, lkS l (code y) = some v → v = renV (outN sel n) v) (hx : lkS cl (code x) = some k) (hs : sel[0]? = some k) : NePart sel n ⟨names, l, [(x, 0)]⟩ ⟨names, l, cl⟩ := ⟨rfl, fun y v q => by rw [← hl y v q]; exact q, fun y j q => by
    have q' : (match Nat.beq (code x) (code y) with | true => some 0 | false => lkS [] (code y)) = some j := q
    cases z : Nat.beq (code x) (code y) with
    | true =>
      rw [z] at q'
      cases q'
      rw [← Nat.eq_of_beq_eq_true z]
      exact ⟨k, hs, hx⟩
    | false => rw [z] at q'; cases q'⟩
theorem nePart2 {names : List (Str × NameKind)} {l : LR} {x y : Str} {k k' n : Nat} {cl : List (Str × Nat)} {sel : List Nat} (hl : ∀ y v, lkS l (code y) = some v → v = renV (outN sel n) v) (hx : lkS cl (code x) = some k) (hy : lkS cl (code y) = some k') (hs : sel[0]? = some k') (hs' : sel[1]? = some k) : NePart sel n ⟨names, l, [(x, 1), (y, 0)]⟩ ⟨names, l, cl⟩ := ⟨rfl, fun y v q => by rw [← hl y v q]; exact q, fun u j q => by
    have q' : (match Nat.beq (code x) (code u) with | true => some 1 | false => (match Nat.beq (code y) (code u) with | true => some 0 | false => lkS [] (code u))) = some j := q
    cases z : Nat.beq (code x) (code u) with
    | true =>
      rw [z] at q'
      cases q'
      rw [← Nat.eq_of_beq_eq_true z]
      exact ⟨k, hs', hx⟩
    | false =>
      rw [z] at q'
      cases z2 : Nat.beq (code y) (code u) with
      | true =>
        rw [z2] at q'
        cases q'
        rw [← Nat.eq_of_beq_eq_true z2]
        exact ⟨k', hs, hy⟩
      | false => rw [z2] at q'; cases q'⟩
theorem lk_one {x : Str} {v : V} {n : Nat} {y : Str} {u : V} {sel : List Nat} (hv : v = renV (outN sel n) v) (h : lkS [(x, v)] (code y) = some u) : u = renV (outN sel n) u := by
  unfold lkS at h
  split at h
  · cases h; exact hv
  · cases h
section
variable {D : Wd} (hK : KOk D.K)
include hK
theorem cfgO_ok : CfgOk D 190 cfgO := cfgL_ok hK (by (first | decide | lia | omega)) (fun k => orcF_ok hK (by (first | decide | lia | omega))) fun k => noLo_ok
theorem testB {s i : Int} {B E : List V} (hB : ∀ v ∈ B, isSint v) (hE : ∀ v ∈ E, isSint v) : TrT D 220 (neB i) (tst0 cB) (LB s B E) (isBd B E s i) (LB s B E) := by
  have hc := cfgO_ok hK
  unfold isBd
  cases q1 : anyI [0, s] i with
  | true => exact (run_tr hc (tB_t s i B E) (okc q1 okn)).drop rfl (clLB hB hE)
  | false =>
    cases q2 : anyI (B.map intOf) i with
    | true => exact (run_tr hc (tB_ft s i B E) (okc q2 (okc (isInt_all hB) (okc q1 okn)))).drop rfl (clLB hB hE)
    | false =>
      cases q3 : anyI (E.map intOf) i with
      | true => exact (run_tr hc (tB_fft s i B E) (okc q3 (okc (isInt_all hE) (okc q2 (okc (isInt_all hB) (okc q1 okn)))))).drop rfl (clLB hB hE)
      | false => exact (run_tr hc (tB_fff s i B E) (okc q3 (okc (isInt_all hE) (okc q2 (okc (isInt_all hB) (okc q1 okn)))))).drop rfl (clLB hB hE)
end
end Mine
end
section
open PySem PySem.W PyProof.Rows PySem.Calls PySem.Spec
namespace Mine
noncomputable def samePos (p q : Pos) : Bool := match Nat.beq p.line q.line with
  | true => Nat.beq p.col q.col
  | false => false
noncomputable def cellAt (H : List O) (k : Nat) : Option V := ob H[k]? fun o => cvOf o
theorem cellAt_ok {H : List O} {k : Nat} {v : V} (h : cellAt H k = some v) : H[k]? = some (.cell (some v)) := ob_ h fun o h1 h => by rw [h1, cvOf_ok h]
noncomputable def cellInt (H : List O) (k : Nat) : Option Int := ob (cellAt H k) fun v => sintOf v
theorem cellInt_ok {H : List O} {k : Nat} {s : Int} (h : cellInt H k = some s) : H[k]? = some (.cell (some (.sint s))) := ob_ h fun v h1 h => by rw [cellAt_ok h1, sintOf_ok h]
structure BdAt where
  t : Nat
  b : Nat
  e : Nat
  B : List V
  E : List V
noncomputable def bdAt (H : List O) : Option BdAt := ob (cellAt H 2) fun v => ob (refOf v) fun t => ob (tupAt H (.ref t)) fun l => ob (un2 l) fun p => ob (refOf p.1) fun b => ob (refOf p.2) fun e => ob (slAt H b) fun B => ob (slAt H e) fun E => onT (nodupN [3, 2, t, b, e]) (some ⟨t, b, e, B, E⟩)
noncomputable abbrev AtH (H : List O) : List Nat → List O → Prop := All2 fun k o => H[k]? = some o
theorem tupAt_at {H : List O} {t : Nat} {l : List V} (h : tupAt H (.ref t) = some l) : H[t]? = some (.tuple l) :=
  ob_ (show (ob H[t]? fun o => tupOf o) = some l from h) fun o ho h => by rw [ho, tupOf_ok h]
theorem bdAt_ok {H : List O} {x : BdAt} (h : bdAt H = some x) : AtH H [2, x.t, x.b, x.e] [.cell (some (.ref x.t)), .tuple [.ref x.b, .ref x.e], .slist x.B, .slist x.E] ∧ [3, 2, x.t, x.b, x.e].Nodup :=
  ob_ h fun v h1 h => ob_ h fun t h2 h => ob_ h fun l h3 h => ob_ h fun p h4 h => ob_ h fun b h5 h => ob_ h fun e h6 h => ob_ h fun B h7 h => ob_ h fun E h8 h => onT_ h fun h9 h => by
    have a := cellAt_ok h1
    rw [refOf_ok h2] at a
    have b := tupAt_at h3
    rw [un2_ok h4, refOf_ok h5, refOf_ok h6] at b
    cases h
    exact ⟨.cons a (.cons b (.cons (slAt_ok h7) (.one (slAt_ok h8)))), nodupN_ok h9⟩
noncomputable def bnAt (H : List O) : Option (Nat × List V) := ob (cellAt H 1) fun v => ob (refOf v) fun b => ob (slAt H b) fun B => onT (nodupN [1, b]) (some (b, B))
theorem bnAt_ok {H : List O} {x : Nat × List V} (h : bnAt H = some x) : AtH H [1, x.1] [.cell (some (.ref x.1)), .slist x.2] ∧ [1, x.1].Nodup :=
  ob_ h fun v h1 h => ob_ h fun b h2 h => ob_ h fun B h3 h => onT_ h fun h4 h => by
    have a := cellAt_ok h1
    rw [refOf_ok h2] at a
    cases h
    exact ⟨.cons a (.one (slAt_ok h3)), nodupN_ok h4⟩
noncomputable abbrev SameO (ne : NE) (e e0 : PySem.Expr) : Prop := ne.names = F779.scope.names ∧ ne.cells = cellsO ∧ e = e0
noncomputable def isOut (B : List V) (i : Int) : Bool := !anyI (B.map intOf) i
noncomputable def pickRes (σ : Sg) (s : Int) (p : Nat → Bool) (c : Prop) : Nat × Sg := (σ.H.length + 1, ⟨σ.H ++ [.range 0 (s + 1), .slist (passed p (s + 1).toNat)], σ.ds, c :: σ.cs⟩)
noncomputable def lo1 (ne : NE) (e : PySem.Expr) (σ : Sg) (s : Int) : Option (Nat × Sg) := ob (bdAt σ.H) fun x => some (pickRes σ s (fun i => isBd x.B x.E s i) (SameO ne e cB ∧ (0 ≤ s ∧ s ≤ 400) ∧ (∀ v ∈ x.B, isSint v) ∧ ∀ v ∈ x.E, isSint v))
noncomputable def lo2 (ne : NE) (e : PySem.Expr) (σ : Sg) (s : Int) : Option (Nat × Sg) := ob (cellInt σ.H 4) fun sp => some (pickRes σ s (fun i => decide ((i : Int) = sp)) (SameO ne e cP ∧ (0 ≤ s ∧ s ≤ 400)))
noncomputable def lo3 (ne : NE) (e : PySem.Expr) (σ : Sg) (s : Int) : Option (Nat × Sg) := ob (bnAt σ.H) fun x => some (pickRes σ s (fun i => isOut x.2 i) (SameO ne e cIn ∧ (0 ≤ s ∧ s ≤ 400) ∧ ∀ v ∈ x.2, isSint v))
noncomputable def loO : LO := fun ne e σ => ob (cellInt σ.H 3) fun s => sel (samePos (psOf e) (psOf cB)) (lo1 ne e σ s) (sel (samePos (psOf e) (psOf cP)) (lo2 ne e σ s) (onT (samePos (psOf e) (psOf cIn)) (lo3 ne e σ s)))
theorem at_app {H G : List O} {ks : List Nat} {os : List O} (h : AtH H ks os) : AtH (H ++ G) ks os := by
  induction h with
  | nil => exact .nil
  | @cons k o ks os h _ ih => exact .cons (by rw [List.getElem?_append_left (by obtain ⟨hl, _⟩ := List.getElem?_eq_some_iff.mp h; exact hl)]; exact h) ih
theorem eta_ne {ne : NE} {names : List (Str × NameKind)} {cells : List (Str × Nat)} (h1 : ne.names = names) (h2 : ne.cells = cells) : ne = ⟨names, ne.locs, cells⟩ := by
  cases ne; cases h1; cases h2; rfl
theorem size_le {s : Int} (h : 0 ≤ s ∧ s ≤ 400) : 0 ≤ s + 1 ∧ s + 1 ≤ 500 := by (first | decide | lia | omega)
section
variable {D : Wd} (hK : KOk D.K)
include hK
noncomputable def LoG (D : Wd) (n : Nat) (ne : NE) (e : PySem.Expr) (σ : Sg) (p : Nat × Sg) : Prop := σ.le p.2 ∧ (p.2.ok → CompT D n ne e σ.H p.1 p.2.H)
theorem lo1_post {n : Nat} (hn : 220 ≤ n) {ne : NE} {e : PySem.Expr} {σ : Sg} {s : Int} (hs : σ.H[(3 : Nat)]? = some (.cell (some (.sint s)))) : Post (lo1 ne e σ s) (LoG D n ne e σ) :=
  .ob fun x hx => .pure ⟨⟨[_], rfl⟩, fun ok => by
    obtain ⟨⟨n1, n2, rfl⟩, hsz, hB, hE⟩ := ok _ (.head _)
    have hc := cfgO_ok hK
    refine (compPick (n := 220) (cl := [(sWords, 2), (sSize, 3)]) (p := fun i => isBd x.B x.E s i) (by kernel_rfl) (by kernel_rfl) (by kernel_rfl) (by rw [n2]; kernel_rfl) (ev_range1 n1 hs (by rw [n2]; kernel_rfl) (run_ev hc (iB s) okn)) (size_le hsz).1 (size_le hsz).2 (fun i hi acc => ?_) fun i hi acc => ?_).up hn
    · refine (testB hK (s := s) (i := i) hB hE).frame0 (part_of (at_app (.cons hs (bdAt_ok hx).1)) ?_ (bdAt_ok hx).2) ?_
      · show _ = [O.cell _, .cell _, .tuple _, .slist (x.B.map _), .slist (x.E.map _)]
        rw [ren_sints hB, ren_sints hE]; rfl
      · unfold neB neComp
        rw [n1]
        exact nePart2 (fun y v q => lk_one rfl q) (by kernel_rfl) (by kernel_rfl) rfl rfl
    · rw [eta_ne n1 n2]
      exact run_ev hc (eB i _ _) okn⟩
theorem lo2_post {n : Nat} (hn : 220 ≤ n) {ne : NE} {e : PySem.Expr} {σ : Sg} {s : Int} (hs : σ.H[(3 : Nat)]? = some (.cell (some (.sint s)))) : Post (lo2 ne e σ s) (LoG D n ne e σ) :=
  .ob fun sp hsp => .pure ⟨⟨[_], rfl⟩, fun ok => by
    obtain ⟨⟨n1, n2, rfl⟩, hsz⟩ := ok _ (.head _)
    have hc := cfgO_ok hK
    refine (compPick (n := 220) (cl := [(sSpot, 4)]) (p := fun i => decide ((i : Int) = sp)) (by kernel_rfl) (by kernel_rfl) (by kernel_rfl) (by rw [n2]; kernel_rfl) (ev_range1 n1 hs (by rw [n2]; kernel_rfl) (run_ev hc (iP s) okn)) (size_le hsz).1 (size_le hsz).2 (fun i hi acc => ?_) fun i hi acc => ?_).up hn
    · refine (run_tr hc (tP sp i _) (okc rfl okn)).frame0 (part_of (sel := [4]) (at_app (.one (cellInt_ok hsp))) rfl (nodupN_ok rfl)) ?_
      unfold neP neComp
      rw [n1]
      exact nePart1 (fun y v q => lk_one rfl q) (by kernel_rfl) rfl
    · rw [eta_ne n1 n2]
      exact run_ev hc (eP i _ _) okn⟩
theorem lo3_post {n : Nat} (hn : 220 ≤ n) {ne : NE} {e : PySem.Expr} {σ : Sg} {s : Int} (hs : σ.H[(3 : Nat)]? = some (.cell (some (.sint s)))) : Post (lo3 ne e σ s) (LoG D n ne e σ) :=
  .ob fun x hx => .pure ⟨⟨[_], rfl⟩, fun ok => by
    obtain ⟨⟨n1, n2, rfl⟩, hsz, hB⟩ := ok _ (.head _)
    have hc := cfgO_ok hK
    refine (compPick (n := 220) (cl := [(sBounds, 1)]) (p := fun i => isOut x.2 i) (by kernel_rfl) (by kernel_rfl) (by kernel_rfl) (by rw [n2]; kernel_rfl) (ev_range1 n1 hs (by rw [n2]; kernel_rfl) (run_ev hc (iI s) okn)) (size_le hsz).1 (size_le hsz).2 (fun i hi acc => ?_) fun i hi acc => ?_).up hn
    · refine (run_tr hc (tI i x.2 _) (okc rfl (okc (isInt_all hB) okn))).frame0 (part_of (at_app (bnAt_ok hx).1) ?_ (bnAt_ok hx).2) ?_
      · show _ = [O.cell _, .slist (x.2.map _)]
        rw [ren_sints hB]; rfl
      · unfold neI neComp
        rw [n1]
        exact nePart1 (fun y v q => lk_one rfl q) (by kernel_rfl) rfl
    · rw [eta_ne n1 n2]
      exact run_ev hc (eI i _ _) okn⟩
theorem loO_ok {n : Nat} (hn : 220 ≤ n) : LOrcOk D n loO := fun ne e σ d σ' h =>
  (Post.ob fun s hs => .sel (fun _ => lo1_post hK hn (cellInt_ok hs)) fun _ => .sel (fun _ => lo2_post hK hn (cellInt_ok hs)) fun _ => .onT fun _ => lo3_post hK hn (cellInt_ok hs) : Post (loO ne e σ) (LoG D n ne e σ)) _ h
end
end Mine
end
section
open PySem PySem.W PyProof.Rows PySem.Calls PySem.Spec
open PySem.Builtin.Str PySem.StrLaws
namespace Mine
noncomputable def nlS : Str := "\n"
noncomputable def isNl (t : Str) (i : Nat) : Bool := decide (t.cps.toList[i]? = some 10)
noncomputable def cuts (t : Str) : List Nat := (List.range t.length).filter (isNl t)
theorem nl_sub (t : Str) {i : Nat} (h : i < t.length) : subAt t nlS i = isNl t i := by
  have hl : i < t.cps.toList.length := by simpa [Str.length] using h
  have h1 : nlS.length = 1 := by decide
  have h2 : nlS.cps.toList = [10] := by decide
  rw [subAt_eq, h1, h2, List.drop_eq_getElem_cons hl, List.take_succ_cons, List.take_zero]
  unfold isNl
  rw [List.getElem?_eq_getElem hl]
  by_cases q : t.cps.toList[i] = 10
  · simp [q]
  · simp
    rfl
theorem occ_nl (t : Str) (hi limit : Nat) : ∀ (m a : Nat) (st : Array Nat × Nat), st.snd ≤ a → st.fst.size ≤ a → a + m ≤ limit → (forIn (List.range' a m) st (occBody t nlS hi limit)).run.fst.toList = st.fst.toList ++ (List.range' a m).filter (fun i => decide (i + nlS.length ≤ hi ∧ subAt t nlS i = true))
  | 0, a, st, _, _, _ => by simp
  | m + 1, a, st, h1, h2, h3 => by
    rw [List.range'_succ, List.forIn_cons]
    by_cases q : a + nlS.length ≤ hi ∧ subAt t nlS a = true
    · have hb : occBody t nlS hi limit a st = pure (ForInStep.yield (st.fst.push a, a + nlS.length)) := by
        unfold occBody
        rw [if_pos ⟨⟨⟨by (first | decide | lia | omega), h1⟩, q.1⟩, q.2⟩]
      have e := occ_nl t hi limit m (a + 1) (st.fst.push a, a + nlS.length) (by show a + nlS.length ≤ a + 1; have : nlS.length = 1 := by decide
                                                                                (first | decide | lia | omega)) (by simp; (first | decide | lia | omega)) (by (first | decide | lia | omega))
      rw [hb]
      show (forIn (List.range' (a + 1) m) (st.fst.push a, a + nlS.length) (occBody t nlS hi limit)).run.fst.toList = _
      rw [e, List.filter_cons, if_pos (decide_eq_true q)]
      simp
    · have hb : occBody t nlS hi limit a st = pure (ForInStep.yield (st.fst, st.snd)) := by
        unfold occBody
        rw [if_neg fun z => q ⟨z.1.2, z.2⟩]
      have e := occ_nl t hi limit m (a + 1) st (by (first | decide | lia | omega)) (by (first | decide | lia | omega)) (by (first | decide | lia | omega))
      rw [hb]
      show (forIn (List.range' (a + 1) m) st (occBody t nlS hi limit)).run.fst.toList = _
      rw [e, List.filter_cons, if_neg (by simpa using q)]
theorem occ_cuts (t : Str) : occurrences t nlS 0 t.length (t.length + 1) = cuts t := by
  rw [occ_eq, occ_nl t t.length (t.length + 1) (t.length + 1 - 0) 0 (#[], 0) (Nat.le_refl _) (Nat.le_refl _) (by (first | decide | lia | omega))]
  have h1 : nlS.length = 1 := by decide
  show [] ++ _ = _
  rw [List.nil_append, Nat.sub_zero, ← List.range_eq_range', List.range_succ, List.filter_append, h1]
  have e2 : [t.length].filter (fun i => decide (i + 1 ≤ t.length ∧ subAt t nlS i = true)) = [] := by
    rw [List.filter_cons, if_neg (by rw [decide_eq_true_eq]; (first | decide | lia | omega))]; rfl
  rw [e2, List.append_nil]
  refine List.filter_congr fun i hi => ?_
  have hi := List.mem_range.mp hi
  rw [← nl_sub t hi]
  cases q : subAt t nlS i <;> simp <;> (first | decide | lia | omega)
noncomputable def rowsAt : List Str → Int → List (Int × Int)
  | [], _ => []
  | r :: rs, a => (a, a + r.length) :: rowsAt rs (a + r.length + 1)
theorem len_sub (t : Str) {a c : Nat} (h1 : a ≤ c) (h2 : c ≤ t.length) : (strSub t a c).length = c - a := by
  have : (strSub t a c).length = (strSub t a c).cps.toList.length := by simp [Str.length]
  have h3 : t.length = t.cps.toList.length := by simp [Str.length]
  rw [this, strSub_toList, List.length_take, List.length_drop]
  (first | decide | lia | omega)
theorem rows_parts (t : Str) : ∀ (C : List Nat) (a f : Nat), a ≤ t.length → ChainTo t nlS t.length a C f → (rowsAt (partsFrom t 1 a C) a).map (·.1) = (a : Int) :: C.map (fun c : Nat => (c : Int) + 1) ∧ (rowsAt (partsFrom t 1 a C) a).map (·.2) = C.map (fun c : Nat => (c : Int)) ++ [(t.length : Int)]
  | [], a, f, ha, h => by
    have e : (a : Int) + ((strSub t a t.length).length : Int) = t.length := by rw [len_sub t ha (Nat.le_refl _)]; (first | decide | lia | omega)
    exact ⟨rfl, by show [(a : Int) + ((strSub t a t.length).length : Int)] = _; rw [e]; rfl⟩
  | c :: r, a, f, ha, h => by
    have h1 : nlS.length = 1 := by decide
    obtain ⟨q1, q2, q3⟩ := h
    have q4 := q2.1
    rw [h1] at q3 q4
    obtain ⟨e1, e2⟩ := rows_parts t r (c + 1) f q4 q3
    have e : (a : Int) + ((strSub t a c).length : Int) = c := by rw [len_sub t q1 (by (first | decide | lia | omega))]; (first | decide | lia | omega)
    have ec : ((c : Int) + 1) = ((c + 1 : Nat) : Int) := by (first | decide | lia | omega)
    constructor
    · show (a : Int) :: (rowsAt (partsFrom t 1 (c + 1) r) ((a : Int) + (strSub t a c).length + 1)).map (·.1) = _
      rw [e, ec, e1, List.map_cons]
      rfl
    · show ((a : Int) + (strSub t a c).length) :: (rowsAt (partsFrom t 1 (c + 1) r) ((a : Int) + (strSub t a c).length + 1)).map (·.2) = _
      rw [e, ec, e2, List.map_cons]
      rfl
theorem split_rows (t : Str) : (rowsAt (Txt.split t nlS) 0).map (·.1) = (0 : Int) :: (cuts t).map (fun c : Nat => (c : Int) + 1) ∧ (rowsAt (Txt.split t nlS) 0).map (·.2) = (cuts t).map (fun c : Nat => (c : Int)) ++ [(t.length : Int)] ∧ (Txt.split t nlS).length = (cuts t).length + 1 := by
  obtain ⟨f, h⟩ := occ_chain t nlS (t.length + 1)
  rw [occ_cuts] at h
  have h1 : nlS.length = 1 := by decide
  have whole : Txt.split t nlS = partsFrom t 1 0 (cuts t) := by
    unfold Txt.split
    have none : cuts t = [] → [t] = partsFrom t 1 0 (cuts t) := fun e => by
      rw [e]
      show [t] = [strSub t 0 t.length]
      rw [sub_whole]
    split
    · rename_i q
      refine none ?_
      rw [Bool.or_eq_true, decide_eq_true_eq, decide_eq_true_eq] at q
      rcases q with q | q
      · rw [h1] at q
        have : t.length = 0 := by (first | decide | lia | omega)
        unfold cuts
        rw [this]; rfl
      · exfalso
        have hk : Builtin.Str.strKind nlS = 1 := by decide +kernel
        rw [hk] at q
        unfold Builtin.Str.strKind at q
        split at q
        · (first | decide | lia | omega)
        · split at q <;> (first | decide | lia | omega)
    · rw [occ_cuts]
      split
      · rename_i q
        exact none (List.isEmpty_iff.mp q)
      · rw [partsBetween_eq, h1]
  rw [whole]
  obtain ⟨e1, e2⟩ := rows_parts t (cuts t) 0 f (Nat.zero_le _) h
  refine ⟨e1, e2, ?_⟩
  have : ∀ (C : List Nat) (a : Nat), (partsFrom t 1 a C).length = C.length + 1 := by
    intro C
    induction C with
    | nil => intro a; rfl
    | cons c r ih => intro a; show (partsFrom t 1 (c + 1) r).length + 1 = _; rw [ih]; rfl
  exact this _ _
theorem starts_filter (t : Str) : (0 : Int) :: (cuts t).map (fun c : Nat => (c : Int) + 1) = ((List.range (t.length + 1)).filter fun i => decide (i = 0) || isNl t (i - 1)).map fun i : Nat => (i : Int) := by
  rw [List.range_succ_eq_map, List.filter_cons, if_pos (by simp), List.map_cons, List.filter_map, List.map_map]
  unfold cuts
  congr 1
theorem ends_filter (t : Str) : (cuts t).map (fun c : Nat => (c : Int)) ++ [(t.length : Int)] = ((List.range (t.length + 1)).filter fun i => decide (i = t.length) || isNl t i).map fun i : Nat => (i : Int) := by
  rw [List.range_succ, List.filter_append, List.map_append]
  congr 1
  · congr 1
    unfold cuts
    refine List.filter_congr fun i hi => ?_
    have hi := List.mem_range.mp hi
    have : decide (i = t.length) = false := decide_eq_false (by (first | decide | lia | omega))
    rw [this, Bool.false_or]
  · simp
end Mine
end
section
open PySem PySem.W PyProof.Rows PySem.Calls PySem.Spec
namespace Mine
noncomputable def rowsK (t : Str) (k : Nat) : List (Int × Int) := rowsAt ((List.range k).map fun i => (Txt.split t nlS).getD i emptyS) 0
noncomputable def bolV (t : Str) (k : Nat) : List V := (rowsK t k).map fun p => .sint p.1
noncomputable def eolV (t : Str) (k : Nat) : List V := (rowsK t k).map fun p => .sint p.2
noncomputable def wS : Str := "w"
noncomputable def symS : Str := "w_"
noncomputable def bdL (K : List V) (s : Int) : List V := passed (fun i => isBd (runsV K wS K.length).1 (runsV K wS K.length).2 s i) (s + 1).toNat
noncomputable def ptL (s sp : Int) : List V := passed (fun i => decide ((i : Int) = sp)) (s + 1).toNat
noncomputable def inL (K : List V) (s : Int) : List V := passed (fun i => isOut (bdL K s) i) (s + 1).toNat
noncomputable def dueE (d : Nat) : List (Str × V) := [("bol", .ref d), ("eol", .ref (d + 1)), ("start", .ref (d + 2)), ("end", .ref (d + 3)), ("point", .ref (d + 4)), ("bound", .ref (d + 5)), ("inside", .ref (d + 6)), ("wordstart", .ref (d + 7)), ("wordend", .ref (d + 8)), ("symbolstart", .ref (d + 9)), ("symbolend", .ref (d + 10))]
noncomputable def dueO (K bol eol : List V) (s sp : Int) : List O := [.slist bol, .slist eol, .slist [.sint 0], .slist [.sint s], .slist (ptL s sp), .slist (bdL K s), .slist (inL K s), .slist (runsV K wS K.length).1, .slist (runsV K wS K.length).2, .slist (runsV K symS K.length).1, .slist (runsV K symS K.length).2]
noncomputable def offRun (t : Str) (K : List V) (sp : Int) (ds : List Bool) : Option ((V × List O) × List Prop) := ob ((runR (cfgL orcF loO) 30).call (.val 779) [.sstr t, .ref 0, .sint sp] ⟨[.slist K], ds, []⟩) fun p => ob (gcV 1 p.2.H p.1) fun q => some ((q.2.1, cvH [(2, true), (3, true), (4, true), (5, true)] q.1), q.2.2 ++ p.2.cs)
noncomputable def lensC (t : Str) : Nat → List Prop
  | 0 => []
  | k + 1 => (((Txt.split t nlS).getD k emptyS).length ≤ 1000) :: (((Txt.split t nlS).getD k emptyS).length ≤ 1000) :: lensC t k
noncomputable abbrev SmO (e : PySem.Expr) : Prop := F779.scope.names = F779.scope.names ∧ cellsO = cellsO ∧ e = e
noncomputable def offC (t : Str) (K : List V) (sp : Int) (k : Nat) : List Prop :=
  [∀ v ∈ K, NoRefV v, ∀ v ∈ ptL t.length sp, NoRefV v, ∀ v ∈ bdL K t.length, NoRefV v, ∀ v ∈ inL K t.length, NoRefV v, ∀ v ∈ (runsV K wS K.length).1, NoRefV v, ∀ v ∈ (runsV K wS K.length).2, NoRefV v, ∀ v ∈ (runsV K symS K.length).1, NoRefV v, ∀ v ∈ (runsV K symS K.length).2, NoRefV v,
   SmO cIn ∧ (0 ≤ (t.length : Int) ∧ (t.length : Int) ≤ 400) ∧ ∀ v ∈ bdL K t.length, isSint v, SmO cP ∧ (0 ≤ (t.length : Int) ∧ (t.length : Int) ≤ 400), SmO cB ∧ (0 ≤ (t.length : Int) ∧ (t.length : Int) ≤ 400) ∧ (∀ v ∈ (runsV K wS K.length).1, isSint v) ∧ ∀ v ∈ (runsV K wS K.length).2, isSint v, RunsOk K, RunsOk K]
   ++ (lensC t k ++ [(Txt.split t nlS).length = k ∧ t.length ≤ 1000, t.length ≤ 1000])
noncomputable def offG (t : Str) (K : List V) (sp : Int) (k : Nat) : List O := .slist K :: .dictS (dueE 2) :: dueO K (bolV t k) (eolV t k) t.length sp
section
variable (t : Str) (K : List V) (sp : Int)
theorem off1 : offRun t K sp [true, false] = some ((.ref 1, offG t K sp 1), offC t K sp 1) := by kernel_rfl
theorem off2 : offRun t K sp [true, true, false] = some ((.ref 1, offG t K sp 2), offC t K sp 2) := by kernel_rfl
theorem off3 : offRun t K sp [true, true, true, false] = some ((.ref 1, offG t K sp 3), offC t K sp 3) := by kernel_rfl
theorem off4 : offRun t K sp [true, true, true, true, false] = some ((.ref 1, offG t K sp 4), offC t K sp 4) := by kernel_rfl
theorem off5 : offRun t K sp [true, true, true, true, true, false] = some ((.ref 1, offG t K sp 5), offC t K sp 5) := by kernel_rfl
theorem off6 : offRun t K sp [true, true, true, true, true, true, false] = some ((.ref 1, offG t K sp 6), offC t K sp 6) := by kernel_rfl
theorem off7 : offRun t K sp [true, true, true, true, true, true, true, false] = some ((.ref 1, offG t K sp 7), offC t K sp 7) := by kernel_rfl
theorem off8 : offRun t K sp [true, true, true, true, true, true, true, true, false] = some ((.ref 1, offG t K sp 8), offC t K sp 8) := by kernel_rfl
end
end Mine
end
section
open PySem PySem.W PyProof.Rows PySem.Calls PySem.Spec
namespace Mine
theorem CodeT.cv {D : Wd} {n : Nat} {f : V} {vs : List V} {H : List O} {v : V} {cv : List (Nat × Bool)} : ∀ {H' : List O}, CodeT D n f vs H v H' → CodeT D n f vs H v (cvH cv H') := by
  induction cv with
  | nil => exact fun c => c
  | cons p r ih =>
    refine fun {H'} c => ih ?_
    unfold setAt'
    cases h : H'[p.1]? with
    | none => exact c
    | some o => exact c.conv h fun D μ led p x => wkO_ok x
noncomputable def bolF (t : Str) : List V := passed (fun i => decide (i = 0) || isNl t (i - 1)) (t.length + 1)
noncomputable def eolF (t : Str) : List V := passed (fun i => decide (i = t.length) || isNl t i) (t.length + 1)
theorem rowsK_eq (t : Str) : rowsK t (Txt.split t nlS).length = rowsAt (Txt.split t nlS) 0 := by
  unfold rowsK
  congr 1
  apply List.ext_getElem?
  intro i
  rw [List.getElem?_map]
  by_cases h : i < (Txt.split t nlS).length
  · rw [List.getElem?_range h, List.getElem?_eq_getElem h]
    show some ((Txt.split t nlS).getD i emptyS) = _
    rw [List.getD_eq_getElem?_getD, List.getElem?_eq_getElem h]; rfl
  · rw [List.getElem?_eq_none (by simpa using h), List.getElem?_eq_none (by (first | decide | lia | omega))]; rfl
theorem bol_eq (t : Str) : bolV t (Txt.split t nlS).length = bolF t := by
  unfold bolV bolF passed
  rw [rowsK_eq]
  have h := (split_rows t).1.trans (starts_filter t)
  have e : (rowsAt (Txt.split t nlS) 0).map (fun p => V.sint p.1) = ((rowsAt (Txt.split t nlS) 0).map (·.1)).map V.sint := by rw [List.map_map]; rfl
  rw [e, h, List.map_map]; rfl
theorem eol_eq (t : Str) : eolV t (Txt.split t nlS).length = eolF t := by
  unfold eolV eolF passed
  rw [rowsK_eq]
  have h := (split_rows t).2.1.trans (ends_filter t)
  have e : (rowsAt (Txt.split t nlS) 0).map (fun p => V.sint p.2) = ((rowsAt (Txt.split t nlS) 0).map (·.2)).map V.sint := by rw [List.map_map]; rfl
  rw [e, h, List.map_map]; rfl
theorem passed_sint (p : Nat → Bool) (n : Nat) : ∀ v ∈ passed p n, isSint v := fun v hv => by
  obtain ⟨i, _, rfl⟩ := List.mem_map.mp hv; trivial
structure OffOk (t : Str) (K : List V) : Prop where
  len : t.length ≤ 7
  klen : K.length ≤ 100
  str : ∀ v ∈ K, isSstr v
theorem split_part (t : Str) (i : Nat) : ((Txt.split t nlS).getD i emptyS).length ≤ t.length := by
  by_cases h : i < (Txt.split t nlS).length
  · have hm : (Txt.split t nlS).getD i emptyS ∈ Txt.split t nlS := by
      rw [List.getD_eq_getElem?_getD, List.getElem?_eq_getElem h]; exact List.getElem_mem h
    obtain ⟨h1, h2, h3⟩ := split_rows t
    have key : ∀ (R : List Str) (a b : Int), 0 ≤ a → (∀ p ∈ rowsAt R a, p.2 ≤ b) → ∀ r ∈ R, (r.length : Int) ≤ b := by
      intro R
      induction R with
      | nil => intro a b _ _ r hr; cases hr
      | cons x R ih =>
        intro a b ha hb r hr
        rcases List.mem_cons.mp hr with rfl | hr
        · have := hb (a, a + r.length) (.head _)
          dsimp only at this
          (first | decide | lia | omega)
        · exact ih (a + x.length + 1) b (by (first | decide | lia | omega)) (fun p hp => hb p (.tail _ hp)) r hr
    have := key _ 0 t.length (Int.le_refl _) (fun p hp => by
      have hp2 : p.2 ∈ (rowsAt (Txt.split t nlS) 0).map (·.2) := List.mem_map_of_mem (f := fun q : Int × Int => q.2) hp
      rw [h2] at hp2
      rcases List.mem_append.mp hp2 with q | q
      · obtain ⟨c, hc, e⟩ := List.mem_map.mp q
        have := List.mem_range.mp (List.mem_filter.mp hc).1
        (first | decide | lia | omega)
      · rw [List.mem_singleton.mp q]; exact Int.le_refl _) _ hm
    (first | decide | lia | omega)
  · rw [List.getD_eq_getElem?_getD, List.getElem?_eq_none (by (first | decide | lia | omega))]
    exact Nat.zero_le _
theorem lensC_ok {t : Str} (h : t.length ≤ 7) : ∀ k, ∀ p ∈ lensC t k, p
  | 0 => all_nil
  | k + 1 => by
    have := split_part t k
    exact all_cons (by (first | decide | lia | omega)) (all_cons (by (first | decide | lia | omega)) (lensC_ok h k))
theorem offC_ok {t : Str} {K : List V} {sp : Int} {k : Nat} (h : OffOk t K) (hk : (Txt.split t nlS).length = k) : ∀ p ∈ offC t K sp k, p := by
  have r := runsV_ok K wS K.length
  have r2 := runsV_ok K symS K.length
  have ro : RunsOk K := ⟨by have := h.klen; (first | decide | lia | omega), h.str⟩
  have tl := h.len
  have b : 0 ≤ (t.length : Int) ∧ (t.length : Int) ≤ 400 := ⟨by (first | decide | lia | omega), by (first | decide | lia | omega)⟩
  refine all_append ?_ (all_append (lensC_ok tl k) (all_cons ⟨hk, by (first | decide | lia | omega)⟩ (all_cons (by (first | decide | lia | omega)) all_nil)))
  exact all_cons (fun v hv => (h.str v hv).noRef) (all_cons (sint_all (passed_sint _ _)) (all_cons (sint_all (passed_sint _ _)) (all_cons (sint_all (passed_sint _ _)) (all_cons (sint_all r.1) (all_cons (sint_all r.2.1) (all_cons (sint_all r2.1) (all_cons (sint_all r2.2.1)
    (all_cons ⟨⟨rfl, rfl, rfl⟩, b, passed_sint _ _⟩ (all_cons ⟨⟨rfl, rfl, rfl⟩, b⟩ (all_cons ⟨⟨rfl, rfl, rfl⟩, b, r.1, r.2.1⟩ (all_cons ro (all_cons ro all_nil))))))))))))
theorem cuts_len (t : Str) : (cuts t).length ≤ t.length := by
  have h := List.length_filter_le (isNl t) (List.range t.length)
  rw [List.length_range] at h
  exact h
section
variable {D : Wd} (hK : KOk D.K)
include hK
theorem offRun_ok {t : Str} {K : List V} {sp : Int} {ds : List Bool} : Post (offRun t K sp ds) fun z => (∀ p ∈ z.2, p) → CodeT D 250 (.val 779) [.sstr t, .ref 0, .sint sp] [.slist K] z.1.1 z.1.2 :=
  have hc : CfgOk D 220 (cfgL orcF loO) := cfgL_ok hK (by decide) (fun k => orcF_ok hK (Nat.le_add_right_of_le (by decide))) fun k => loO_ok hK (Nat.le_add_right_of_le (by decide))
  .ob fun p h => .ob fun q hg => .pure fun ok => (CodeT.pick (run_code hc h fun c hp => ok c (List.mem_append_right _ hp)) _ hg fun c hp => ok c (List.mem_append_left _ hp)).cv
theorem off_local {t : Str} {K : List V} {sp : Int} (h : OffOk t K) : CodeT D 250 (.val 779) [.sstr t, .ref 0, .sint sp] [.slist K] (.ref 1) (.slist K :: .dictS (dueE 2) :: dueO K (bolF t) (eolF t) t.length sp) := by
  have hl := (split_rows t).2.2
  have hc := cuts_len t
  have ht := h.len
  rw [← bol_eq, ← eol_eq]
  have hk : (Txt.split t nlS).length = 1 ∨ (Txt.split t nlS).length = 2 ∨ (Txt.split t nlS).length = 3 ∨ (Txt.split t nlS).length = 4 ∨ (Txt.split t nlS).length = 5 ∨ (Txt.split t nlS).length = 6 ∨ (Txt.split t nlS).length = 7 ∨ (Txt.split t nlS).length = 8 := by (first | decide | lia | omega)
  rcases hk with q | q | q | q | q | q | q | q
  · rw [q]; exact offRun_ok hK _ (off1 t K sp) (offC_ok h q)
  · rw [q]; exact offRun_ok hK _ (off2 t K sp) (offC_ok h q)
  · rw [q]; exact offRun_ok hK _ (off3 t K sp) (offC_ok h q)
  · rw [q]; exact offRun_ok hK _ (off4 t K sp) (offC_ok h q)
  · rw [q]; exact offRun_ok hK _ (off5 t K sp) (offC_ok h q)
  · rw [q]; exact offRun_ok hK _ (off6 t K sp) (offC_ok h q)
  · rw [q]; exact offRun_ok hK _ (off7 t K sp) (offC_ok h q)
  · rw [q]; exact offRun_ok hK _ (off8 t K sp) (offC_ok h q)
end
noncomputable def orcG : OrcF := fun a vs σ => sel (Nat.beq a 779) (ob (un3 vs) fun p => ob (sstrOf p.1) fun t => ob (refOf p.2.1) fun k => ob (sintOf p.2.2) fun sp => ob σ.H[k]? fun o => ob (slOf o) fun K => some (.ref σ.H.length, ⟨σ.H ++ (.dictS (dueE (σ.H.length + 1)) :: dueO K (bolF t) (eolF t) t.length sp), σ.ds, OffOk t K :: σ.cs⟩)) (orcF a vs σ)
theorem ren_due {t : Str} {K : List V} {sp : Int} {k N : Nat} : (O.dictS (dueE 2) :: dueO K (bolF t) (eolF t) t.length sp).map (renO (outN [k] N)) = O.dictS (dueE (N + 1)) :: dueO K (bolF t) (eolF t) t.length sp := by
  have r := runsV_ok K wS K.length
  have r2 := runsV_ok K symS K.length
  unfold dueO
  simp only [List.map_cons, List.map_nil, renO]
  rw [ren_sints (l := bolF t) (passed_sint _ _), ren_sints (l := eolF t) (passed_sint _ _), ren_sints (l := ptL t.length sp) (passed_sint _ _), ren_sints (l := bdL K t.length) (passed_sint _ _), ren_sints (l := inL K t.length) (passed_sint _ _),
    ren_sints r.1, ren_sints r.2.1, ren_sints r2.1, ren_sints r2.2.1]
  rfl
theorem orcG_ok {D : Wd} (hK : KOk D.K) {n : Nat} (hn : 250 ≤ n) : OrcOk D n orcG := fun a vs σ v σ' e =>
  (.sel (fun qa => .ob fun p h1 => .ob fun t h2 => .ob fun k h3 => .ob fun sp h4 => .ob fun o h5 => .ob fun K h6 => .pure ⟨⟨[_], rfl⟩, fun ok => by
    rw [Nat.eq_of_beq_eq_true qa, un3_ok h1, sstrOf_ok h2, refOf_ok h3, sintOf_ok h4]
    have h := ok _ (.head _)
    have base := frame_sl (G := .dictS (dueE 2) :: dueO K (bolF t) (eolF t) t.length sp) (h5.trans (congrArg some (slOf_ok h6))) h.str ((off_local hK (sp := sp) h).up hn)
    rw [ren_due] at base
    exact base⟩)
  fun _ p h => orcF_ok hK (Nat.le_trans (by decide) hn) _ _ _ _ _ h : Post (orcG a vs σ) (OrcG D n a vs σ)) _ e
end Mine
end
section
open PySem PySem.W PyProof.Rows PySem.Calls PySem.Spec
namespace Mine
noncomputable def cmp7 : PySem.Expr := argOf (eltAt (valOf (lawSt 7)) 0)
noncomputable def codesV (t : Str) : List V := t.cps.toList.map fun ch : Nat => .sint (ch : Int)
theorem codesV_sint (t : Str) : ∀ v ∈ codesV t, isSint v := fun v hv => by
  obtain ⟨i, _, rfl⟩ := List.mem_map.mp hv; trivial
noncomputable def sDue : Str := "due"
noncomputable def sView : Str := "view"
theorem it7 (ps : List Int) (H : List O) : (runR (cfg1 orcE) 30).ev (neZ (lG ps)) (itOf cmp7) ⟨H, [], []⟩ = some (.sstr (textS ps), ⟨H, [], []⟩) := by kernel_rfl
theorem elt7 (ps : List Int) (ch : Nat) (H : List O) : (runR (cfg1 orcE) 30).ev (neComp (neZ (lG ps)) (scOf cmp7) [] (nmOf cmp7) (.str ⟨#[ch]⟩)) (eltOf cmp7) ⟨H, [], []⟩ = some (.int ch, ⟨H, [], []⟩) := by kernel_rfl
noncomputable def lo7 (ps : List Int) (H : List O) (d : Nat) : LO := pinC cmp7 (neZ (lG ps)) H d (H ++ [.slist (codesV (textS ps))]) noLo
theorem comp7 {D : Wd} (hK : KOk D.K) (ps : List Int) (H : List O) (hl : (textS ps).length ≤ 7) : CompT D 150 (neZ (lG ps)) cmp7 H H.length (H ++ [.slist (codesV (textS ps))]) := by
  have hc : CfgOk D 120 (cfg1 orcE) := cfg1_ok hK fun k => orcE_ok hK (by (first | decide | lia | omega))
  have hs : (textS ps).cps.size ≤ 1000 := by have : (textS ps).cps.size = (textS ps).length := rfl; (first | decide | lia | omega)
  have R := compR_str (D := D) (n := 150) (neC := neComp (neZ (lG ps)) (scOf cmp7) [] (nmOf cmp7)) (elt := eltOf cmp7) (H := H) (x := textS ps) (g := fun ch : Nat => .sint (ch : Int)) (fun ch hch acc => (run_ev hc (elt7 ps ch _) okn).val fun _ _ h => h) hs
  exact compOf (cellsC := []) (k := (textS ps).cps.size) (it := .str (textS ps) 0) (σ₁ := ⟨H, [], []⟩) (σ₂ := ⟨H, [], []⟩) (by kernel_rfl) (by kernel_rfl) (by kernel_rfl) (by kernel_rfl) (run_ev hc (it7 ps H) okn) rfl okn rfl R
end Mine
end
section
open PySem PySem.W PyProof.Rows PySem.Calls PySem.Spec
namespace Mine
structure Ctx where
  t : Str
  c : List V
  kd : Kd
  base : Int
  spot : Int
  cd : List V
  d0 : List V
  d1 : List V
  d2 : List V
  d3 : List V
  d4 : List V
  d5 : List V
  d6 : List V
  d7 : List V
  d8 : List V
  d9 : List V
  d10 : List V
noncomputable def HI (x : Ctx) (n : Int) : List O := [noneC, .cell (some (.ref 20)), .cell (some (.sint x.spot)), .cell (some (.sint x.base)), .cell (some (.ref 22)), .cell (some (.ref 23)), .cell (some (.str signsS)), .cell (some (.ref 31)), .dictS (dueE 9),
  .slist x.d0, .slist x.d1, .slist x.d2, .slist x.d3, .slist x.d4, .slist x.d5, .slist x.d6, .slist x.d7, .slist x.d8, .slist x.d9, .slist x.d10, .inst 756 [(nCodes, .ref 21), (nPlace, .sint x.base)], .slist x.cd, .list (strsV x.kd.l), .inst 713 [(sParent, .none), (sRows, .ref 24)],
  .dictI [(97, .ref 25), (98, .ref 26), (10, .ref 27), (32, .ref 28), (95, .ref 29), (46, .ref 30)], syn x.kd.k0, syn x.kd.k1, syn x.kd.k2, syn x.kd.k3, syn x.kd.k4, syn x.kd.k5, .list [.ref 32, .sint n], .slist x.c]
noncomputable def nrD (x : Ctx) : List Prop := [∀ v ∈ x.d0, NoRefV v, ∀ v ∈ x.d1, NoRefV v, ∀ v ∈ x.d2, NoRefV v, ∀ v ∈ x.d3, NoRefV v, ∀ v ∈ x.d4, NoRefV v, ∀ v ∈ x.d5, NoRefV v, ∀ v ∈ x.d6, NoRefV v, ∀ v ∈ x.d7, NoRefV v, ∀ v ∈ x.d8, NoRefV v, ∀ v ∈ x.d9, NoRefV v, ∀ v ∈ x.d10, NoRefV v]
noncomputable def nrC (x : Ctx) : List Prop := nrD x ++ [∀ v ∈ x.cd, NoRefV v, ∀ v ∈ x.c, NoRefV v]
noncomputable def ctx7 (c : List V) (kd : Kd) (ps : List Int) (base spot : Int) : Ctx := ⟨textS ps, c, kd, base, spot, codesV (textS ps), bolF (textS ps), eolF (textS ps), [.sint 0], [.sint (textS ps).length], ptL (textS ps).length spot, bdL (ps.map (kindV kd)) (textS ps).length, inL (ps.map (kindV kd)) (textS ps).length,
  (runsV (ps.map (kindV kd)) wS (ps.map (kindV kd)).length).1, (runsV (ps.map (kindV kd)) wS (ps.map (kindV kd)).length).2, (runsV (ps.map (kindV kd)) symS (ps.map (kindV kd)).length).1, (runsV (ps.map (kindV kd)) symS (ps.map (kindV kd)).length).2⟩
structure CtxOk (x : Ctx) : Prop where
  cd : ∀ v ∈ x.cd, isSint v
  c : ∀ v ∈ x.c, isSint v
  d0 : ∀ v ∈ x.d0, isSint v
  d1 : ∀ v ∈ x.d1, isSint v
  d2 : ∀ v ∈ x.d2, isSint v
  d3 : ∀ v ∈ x.d3, isSint v
  d4 : ∀ v ∈ x.d4, isSint v
  d5 : ∀ v ∈ x.d5, isSint v
  d6 : ∀ v ∈ x.d6, isSint v
  d7 : ∀ v ∈ x.d7, isSint v
  d8 : ∀ v ∈ x.d8, isSint v
  d9 : ∀ v ∈ x.d9, isSint v
  d10 : ∀ v ∈ x.d10, isSint v
  len : x.t.length ≤ 7
  clen : x.c.length ≤ 30
theorem nrC_ok {x : Ctx} (h : CtxOk x) : ∀ p ∈ nrC x, p := all_append
  (all_cons (sint_all h.d0) (all_cons (sint_all h.d1) (all_cons (sint_all h.d2) (all_cons (sint_all h.d3) (all_cons (sint_all h.d4) (all_cons (sint_all h.d5) (all_cons (sint_all h.d6) (all_cons (sint_all h.d7) (all_cons (sint_all h.d8) (all_cons (sint_all h.d9) (all_cons (sint_all h.d10) all_nil)))))))))))
  (all_cons (sint_all h.cd) (all_cons (sint_all h.c) all_nil))
noncomputable def lI (t : Str) : LR := [(sText, .sstr t), (sDue, .ref 8)]
theorem run7 (c : List V) (n : Int) (kd : Kd) (ps : List Int) (base spot : Int) : stepG (cfgL orcG (lo7 ps (HH c n kd ps base spot) 20)) 30 8 [(sText, false), (sDue, false)] [] (neZ (lG ps)) (lawSt 7) (HH c n kd ps base spot) [] =
    some ((HI (ctx7 c kd ps base spot) n, lI (textS ps)), nrC (ctx7 c kd ps base spot) ++ [OffOk (textS ps) (ps.map (kindV kd)), (codesV (textS ps)).length ≤ 1000, neZ (lG ps) = neZ (lG ps) ∧ cmp7 = cmp7 ∧ HH c n kd ps base spot = HH c n kd ps base spot]) := by kernel_rfl
theorem text_len (ps : List Int) : (textS ps).length = ps.length := by
  unfold textS
  have key : ∀ l : List Str, (∀ s ∈ l, s.length = 1) → (Txt.join emptyS l).length = l.length := by
    intro l
    induction l with
    | nil => intro _; rfl
    | cons a r ih =>
      intro h
      cases r with
      | nil => exact h a (.head _)
      | cons b r =>
        have e := ih fun s hs => h s (.tail _ hs)
        have h1 := h a (.head _)
        have : Txt.join emptyS (a :: b :: r) = a ++ emptyS ++ Txt.join emptyS (b :: r) := by
          show Builtin.Str.glued _ _ = _ ++ Builtin.Str.glued _ _
          rw [StrLaws.glued_eq_join, StrLaws.glued_eq_join]; rfl
        rw [this, Str.length_append, Str.length_append, e, h1]
        have : emptyS.length = 0 := rfl
        rw [this]; simp only [List.length_cons]; (first | decide | lia | omega)
  rw [key, List.length_map, List.length_map]
  intro s hs
  obtain ⟨v, hv, rfl⟩ := List.mem_map.mp hs
  obtain ⟨j, _, rfl⟩ := List.mem_map.mp hv
  rfl
theorem ctx7_ok {c : List V} {kd : Kd} {ps : List Int} {base spot : Int} (h1 : c.length ≤ 30) (h2 : ∀ v ∈ c, isSint v) (hl : ps.length ≤ 7) : CtxOk (ctx7 c kd ps base spot) := by
  have r := runsV_ok (ps.map (kindV kd)) wS (ps.map (kindV kd)).length
  have r2 := runsV_ok (ps.map (kindV kd)) symS (ps.map (kindV kd)).length
  have one : ∀ i : Int, ∀ v ∈ [V.sint i], isSint v := fun i v hv => by rw [List.mem_singleton.mp hv]; trivial
  exact ⟨codesV_sint _, h2, passed_sint _ _, passed_sint _ _, one _, one _, passed_sint _ _, passed_sint _ _, passed_sint _ _, r.1, r.2.1, r2.1, r2.2.1, by show (textS ps).length ≤ 7; rw [text_len]; exact hl, h1⟩
section
variable {D : Wd} (hK : KOk D.K)
include hK
theorem s7 {c : List V} {n : Int} {kd : Kd} {ps : List Int} {base spot : Int} (h1 : c.length ≤ 30) (h2 : ∀ v ∈ c, isSint v) (hl : ps.length ≤ 7) : Stp D 300 8 (neZ (lG ps)) (lawSt 7) (HH c n kd ps base spot) (lI (textS ps)) (HI (ctx7 c kd ps base spot) n) := by
  have ht := text_len ps
  have cp := comp7 hK ps (HH c n kd ps base spot) (by (first | decide | lia | omega))
  have hc : CfgOk D 270 (cfgL orcG (lo7 ps (HH c n kd ps base spot) 20)) := cfgL_ok hK (by (first | decide | lia | omega)) (fun k => orcG_ok hK (by (first | decide | lia | omega))) fun k => pinLo_ok (cp.up (by (first | decide | lia | omega))) noLo_ok
  refine stepG_ok hc (run7 c n kd ps base spot) (all_append (nrC_ok (ctx7_ok h1 h2 hl)) (all_cons ⟨by (first | decide | lia | omega), by rw [List.length_map]; (first | decide | lia | omega), ?_⟩ (all_cons ?_ (all_cons ⟨rfl, rfl, rfl⟩ all_nil))))
  · intro v hv
    obtain ⟨j, _, rfl⟩ := List.mem_map.mp hv; trivial
  · have : (codesV (textS ps)).length = (textS ps).length := by
      unfold codesV
      rw [List.length_map, Array.length_toList]; rfl
    (first | decide | lia | omega)
end
noncomputable def sWritten : Str := "written_own"
noncomputable def wrE : List (Str × V) := [("bol", .str "^"), ("eol", .str "$"), ("start", .str "\\`"), ("end", .str "\\'"), ("point", .str "\\="), ("bound", .str "\\b"), ("inside", .str "\\B"), ("wordstart", .str "\\<"), ("wordend", .str "\\>"), ("symbolstart", .str "\\_<"), ("symbolend", .str "\\_>")]
noncomputable def HJ0 (x : Ctx) (n : Int) (wr : List (Str × V)) (wc : Option V) : List O := [.cell wc, .cell (some (.ref 21)), .cell (some (.sint x.spot)), .cell (some (.sint x.base)), .cell (some (.ref 23)), .cell (some (.ref 24)), .cell (some (.str signsS)), .cell (some (.ref 32)), .dictS (dueE 9),
  .slist x.d0, .slist x.d1, .slist x.d2, .slist x.d3, .slist x.d4, .slist x.d5, .slist x.d6, .slist x.d7, .slist x.d8, .slist x.d9, .slist x.d10, .dictS wr, .inst 756 [(nCodes, .ref 22), (nPlace, .sint x.base)], .slist x.cd, .list (strsV x.kd.l), .inst 713 [(sParent, .none), (sRows, .ref 25)],
  .dictI [(97, .ref 26), (98, .ref 27), (10, .ref 28), (32, .ref 29), (95, .ref 30), (46, .ref 31)], syn x.kd.k0, syn x.kd.k1, syn x.kd.k2, syn x.kd.k3, syn x.kd.k4, syn x.kd.k5, .list [.ref 33, .sint n], .slist x.c]
noncomputable abbrev HJ (x : Ctx) (n : Int) (wc : Option V) : List O := HJ0 x n wrE wc
noncomputable def lJ (t : Str) : LR := [(sText, .sstr t), (sDue, .ref 8), (sWritten, .ref 20)]
noncomputable def keepJ : List (Str × Bool) := [(sText, false), (sDue, false), (sWritten, false)]
theorem run8 (x : Ctx) (n : Int) : stepG (cfgL orcG noLo) 30 8 keepJ [] (neZ (lI x.t)) (lawSt 8) (HI x n) [] = some ((HJ0 x n (wrE.take 7) none, lJ x.t), nrC x) := by kernel_rfl
theorem run9 (x : Ctx) (n : Int) : stepG (cfgL orcG noLo) 30 8 keepJ [] (neZ (lJ x.t)) (lawSt 9) (HJ0 x n (wrE.take 7) none) [] = some ((HJ0 x n (wrE.take 9) none, lJ x.t), nrC x) := by kernel_rfl
theorem run10 (x : Ctx) (n : Int) : stepG (cfgL orcG noLo) 30 8 keepJ [] (neZ (lJ x.t)) (lawSt 10) (HJ0 x n (wrE.take 9) none) [] = some ((HJ x n none, lJ x.t), nrC x) := by kernel_rfl
section
variable {D : Wd} (hK : KOk D.K)
include hK
theorem cfgG_ok : CfgOk D 270 (cfgL orcG noLo) := cfgL_ok hK (by (first | decide | lia | omega)) (fun k => orcG_ok hK (by (first | decide | lia | omega))) fun k => noLo_ok
theorem s8 {x : Ctx} {n : Int} (h : CtxOk x) : Stp D 300 8 (neZ (lI x.t)) (lawSt 8) (HI x n) (lJ x.t) (HJ0 x n (wrE.take 7) none) := stepG_ok (cfgG_ok hK) (run8 x n) (nrC_ok h)
theorem s9 {x : Ctx} {n : Int} (h : CtxOk x) : Stp D 300 8 (neZ (lJ x.t)) (lawSt 9) (HJ0 x n (wrE.take 7) none) (lJ x.t) (HJ0 x n (wrE.take 9) none) := stepG_ok (cfgG_ok hK) (run9 x n) (nrC_ok h)
theorem s10 {x : Ctx} {n : Int} (h : CtxOk x) : Stp D 300 8 (neZ (lJ x.t)) (lawSt 10) (HJ0 x n (wrE.take 9) none) (lJ x.t) (HJ x n none) := stepG_ok (cfgG_ok hK) (run10 x n) (nrC_ok h)
end
end Mine
end
section
open PySem PySem.W PyProof.Rows PySem.Calls PySem.Spec
namespace Mine
theorem lt_11 {P : Nat → Prop} (h0 : P 0) (h1 : P 1) (h2 : P 2) (h3 : P 3) (h4 : P 4) (h5 : P 5) (h6 : P 6) (h7 : P 7) (h8 : P 8) (h9 : P 9) (h10 : P 10) {j : Nat} (hj : j < 11) : P j := by
  match j, hj with
  | 0, _ => exact h0
  | 1, _ => exact h1
  | 2, _ => exact h2
  | 3, _ => exact h3
  | 4, _ => exact h4
  | 5, _ => exact h5
  | 6, _ => exact h6
  | 7, _ => exact h7
  | 8, _ => exact h8
  | 9, _ => exact h9
  | 10, _ => exact h10
noncomputable def bS (i : Nat) : Stmt := ((forB (lawSt 11))[i]?).getD (.Pass default)
noncomputable def cmp11 : PySem.Expr := valOf (bS 0)
noncomputable def ifT : Stmt → PySem.Expr
  | .If t _ _ _ => t
  | _ => .Constant .none 0 default
noncomputable def ifB : Stmt → List Stmt
  | .If _ b _ _ => b
  | _ => []
noncomputable def ifP : Stmt → Pos
  | .If _ _ _ p => p
  | _ => default
noncomputable def sortedN : List Str := ["bol", "bound", "end", "eol", "inside", "point", "start", "symbolend", "symbolstart", "wordend", "wordstart"]
noncomputable def HS (x : Ctx) (n : Int) (wc : Option V) : List O := HJ x n wc ++ [.list (strsV sortedN)]
noncomputable def sWord : Str := "word"
noncomputable def sTable : Str := "table"
noncomputable def sBase : Str := "base"
noncomputable def sTold : Str := "told_own"
noncomputable def cl11 : List (Str × Nat) := [(sWord, 0), (sView, 1), (sTable, 5), (sSpot, 2), (sBase, 3)]
noncomputable def sixJ (x : Ctx) : Six := ⟨25, 26, 27, 28, 29, 30, 31, x.kd.k0, x.kd.k1, x.kd.k2, x.kd.k3, x.kd.k4, x.kd.k5⟩
noncomputable def pW (x : Ctx) (w : Str) (i : Nat) : Bool := holdsB w (sixJ x) x.cd x.base (x.base + x.spot) (x.base + (i : Int))
noncomputable def cfgG : Cfg := cfgL orcG noLo
noncomputable def lT (t : Str) : LR := [(sText, .sstr t), (sDue, .ref 8), (sWritten, .ref 20), (sTold, .ref 36)]
noncomputable def ifRun (x : Ctx) (n s : Int) (T : List V) (w : Str) : Option (Bool × Sg) := (runR cfgG 30).tr (neZ (lT x.t)) (ifT (bS 1)) ⟨HS x n (some (.str w)) ++ [.range 0 s, .slist T], [false], []⟩
noncomputable def ifC (T d : List V) : List Prop := [(!decide (T.map intOf = d.map intOf)) = false, ∀ v ∈ T, isIntV v, ∀ v ∈ d, isIntV v]
theorem free11 : freeC (neZ []).cells (scOf cmp11).names [] = some cl11 := by kernel_rfl
section
variable (x : Ctx) (n s i : Int) (w : Str) (T acc : List V) (d : Bool)
theorem it11 : iterX (tabs orcG) (runR cfgG 30) (neZ (lJ x.t)) (forI (lawSt 11)) ⟨HJ x n none, [], []⟩ = some (.list 34 0, ⟨HS x n none, [], []⟩) := by kernel_rfl
theorem as11 (wc : Option V) : asgE (runR cfgG 30) ((neZ (lJ x.t)).withL (lJ x.t)) (forT (lawSt 11)) (.str w) ⟨HS x n wc, [], []⟩ = some (lJ x.t, ⟨HS x n (some (.str w)), [], []⟩) := by kernel_rfl
theorem rg11 (H : List O) : (runR cfgG 30).ev (neZ (lJ x.t)) (itOf cmp11) ⟨H, [], []⟩ = some (.ref H.length, ⟨H ++ [.range 0 ((x.t.length : Int) + 1)], [], [x.t.length ≤ 1000]⟩) := by kernel_rfl
theorem te11 : (runR cfgG 30).tr (neComp (neZ (lJ x.t)) (scOf cmp11) cl11 (nmOf cmp11) (.sint i)) (tst0 cmp11) ⟨HS x n (some (.str w)) ++ [.range 0 s, .slist acc], [d], []⟩ = some (d, ⟨HS x n (some (.str w)) ++ [.range 0 s, .slist acc], [], [holdsB w (sixJ x) x.cd x.base (x.base + x.spot) (x.base + i) = d, TextOk x.cd (sixJ x).ks]⟩) := by kernel_rfl
theorem el11 (H : List O) : (runR cfgG 30).ev (neComp (neZ (lJ x.t)) (scOf cmp11) cl11 (nmOf cmp11) (.int i)) (eltOf cmp11) ⟨H, [], []⟩ = some (.int i, ⟨H, [], []⟩) := by kernel_rfl
theorem to11 : stStep cfgG.T (pinC cmp11 (neZ (lJ x.t)) (HS x n (some (.str w))) 36 (HS x n (some (.str w)) ++ [.range 0 s, .slist T]) noLo) cfgG.xo (runR (cfgL orcG (pinC cmp11 (neZ (lJ x.t)) (HS x n (some (.str w))) 36 (HS x n (some (.str w)) ++ [.range 0 s, .slist T]) noLo)) 30) (neZ (lJ x.t)) (bS 0) ⟨HS x n (some (.str w)), [], []⟩ =
    some ((.next, lT x.t), ⟨HS x n (some (.str w)) ++ [.range 0 s, .slist T], [], [neZ (lJ x.t) = neZ (lJ x.t) ∧ cmp11 = cmp11 ∧ HS x n (some (.str w)) = HS x n (some (.str w))]⟩) := by kernel_rfl
theorem gc11 : gc 35 (HS x n (some (.str w)) ++ [.range 0 s, .slist T]) (keepL keepJ (lT x.t)) = some (HS x n (some (.str w)), lJ x.t, nrC x) := by kernel_rfl
theorem ge11 (wc : Str) : gc 8 (HS x n (some (.str wc))) (keepL keepJ (lJ x.t)) = some (HJ x n (some (.str wc)), lJ x.t, nrC x) := by kernel_rfl
theorem if_0 : ifRun x n s T "bol" = some (false, ⟨HS x n (some (.str "bol")) ++ [.range 0 s, .slist T], [], ifC T x.d0⟩) := by kernel_rfl
theorem if_1 : ifRun x n s T "bound" = some (false, ⟨HS x n (some (.str "bound")) ++ [.range 0 s, .slist T], [], ifC T x.d5⟩) := by kernel_rfl
theorem if_2 : ifRun x n s T "end" = some (false, ⟨HS x n (some (.str "end")) ++ [.range 0 s, .slist T], [], ifC T x.d3⟩) := by kernel_rfl
theorem if_3 : ifRun x n s T "eol" = some (false, ⟨HS x n (some (.str "eol")) ++ [.range 0 s, .slist T], [], ifC T x.d1⟩) := by kernel_rfl
theorem if_4 : ifRun x n s T "inside" = some (false, ⟨HS x n (some (.str "inside")) ++ [.range 0 s, .slist T], [], ifC T x.d6⟩) := by kernel_rfl
theorem if_5 : ifRun x n s T "point" = some (false, ⟨HS x n (some (.str "point")) ++ [.range 0 s, .slist T], [], ifC T x.d4⟩) := by kernel_rfl
theorem if_6 : ifRun x n s T "start" = some (false, ⟨HS x n (some (.str "start")) ++ [.range 0 s, .slist T], [], ifC T x.d2⟩) := by kernel_rfl
theorem if_7 : ifRun x n s T "symbolend" = some (false, ⟨HS x n (some (.str "symbolend")) ++ [.range 0 s, .slist T], [], ifC T x.d10⟩) := by kernel_rfl
theorem if_8 : ifRun x n s T "symbolstart" = some (false, ⟨HS x n (some (.str "symbolstart")) ++ [.range 0 s, .slist T], [], ifC T x.d9⟩) := by kernel_rfl
theorem if_9 : ifRun x n s T "wordend" = some (false, ⟨HS x n (some (.str "wordend")) ++ [.range 0 s, .slist T], [], ifC T x.d8⟩) := by kernel_rfl
theorem if_10 : ifRun x n s T "wordstart" = some (false, ⟨HS x n (some (.str "wordstart")) ++ [.range 0 s, .slist T], [], ifC T x.d7⟩) := by kernel_rfl
end
theorem forP_list {D : Wd} {n n0 : Nat} {ne : NE} {t : PySem.Expr} {body : List Stmt} {k : Nat} {L : List V} (hk : k < n0) (hot : ∀ i, okTarget t (.list k i) = true) (I J : Nat → List O) (l : LR) (l₁ : Nat → LR) (hs : ∀ i, i ≤ L.length → seqAt (I i) k = some L)
    (ha : ∀ i v, L[i]? = some v → AsgT D n (ne.withL l) t v (I i) (l₁ i) (J i)) (hb : ∀ i, i < L.length → Blk D n n0 (ne.withL (l₁ i)) body (J i) l (I (i + 1))) :
    ForP D n ne t body n0 L.length (.list k 0) (I 0) l l (I L.length) := by
  have main : ∀ (j i : Nat), i + j = L.length → ForP D n ne t body n0 j (.list k i) (I i) l l (I L.length) := by
    intro j
    induction j with
    | zero =>
      intro i hi
      have e : i = L.length := by (first | decide | lia | omega)
      subst e
      refine .done ?_
      show (match seqAt (I L.length) k with | some l => _ | none => _) = _
      rw [hs _ (Nat.le_refl _)]
      show (match L[L.length]? with | some v => _ | none => _) = _
      rw [List.getElem?_eq_none (Nat.le_refl _)]
    | succ j ih =>
      intro i hi
      have hil : i < L.length := by (first | decide | lia | omega)
      obtain ⟨l₂, H₂, hx, hp⟩ := hb i hil
      refine .step (v := L[i]) (it' := .list k (i + 1)) ?_ hk (hot _) (ha i _ (List.getElem?_eq_getElem hil)) hx hp (ih (i + 1) (by (first | decide | lia | omega)))
      show (match seqAt (I i) k with | some l => _ | none => _) = _
      rw [hs _ (by (first | decide | lia | omega))]
      show (match L[i]? with | some v => _ | none => _) = _
      rw [List.getElem?_eq_getElem hil]
  exact main L.length 0 (by (first | decide | lia | omega))
noncomputable def dueAt (x : Ctx) : List (Str × List V) := [("bol", x.d0), ("eol", x.d1), ("start", x.d2), ("end", x.d3), ("point", x.d4), ("bound", x.d5), ("inside", x.d6), ("wordstart", x.d7), ("wordend", x.d8), ("symbolstart", x.d9), ("symbolend", x.d10)]
structure DueOk (x : Ctx) : Prop where
  ok : CtxOk x
  text : TextOk x.cd (sixJ x).ks
  due : ∀ p ∈ dueAt x, p.2 = passed (pW x p.1) (x.t.length + 1)
section
variable {D : Wd} (hK : KOk D.K)
include hK
theorem comp11 {x : Ctx} {n : Int} (h : DueOk x) (w : Str) : CompT D 300 (neZ (lJ x.t)) cmp11 (HS x n (some (.str w))) 36 (HS x n (some (.str w)) ++ [.range 0 ((x.t.length : Int) + 1), .slist (passed (pW x w) (x.t.length + 1))]) := by
  have hc : CfgOk D 270 cfgG := cfgG_ok hK
  have tl := h.ok.len
  have c := compPick (D := D) (n := 300) (ne := neZ (lJ x.t)) (e := cmp11) (H := HS x n (some (.str w))) (s := (x.t.length : Int) + 1) (cl := cl11) (p := pW x w) (by kernel_rfl) (by kernel_rfl) (by kernel_rfl) free11 (run_ev hc (rg11 x _) (okc (by (first | decide | lia | omega)) okn)) (by (first | decide | lia | omega)) (by (first | decide | lia | omega))
    (fun i hi acc => run_tr hc (te11 x n ((x.t.length : Int) + 1) i w acc _) (okc rfl (okc h.text okn))) (fun i hi acc => run_ev hc (el11 x i _) okn)
  rw [show ((x.t.length : Int) + 1).toNat = x.t.length + 1 by (first | decide | lia | omega)] at c
  exact c
theorem turn11 {x : Ctx} {n : Int} (h : DueOk x) {w : Str} {d : List V} (hd' : d = passed (pW x w) (x.t.length + 1)) (hif : ∀ s T, ifRun x n s T w = some (false, ⟨HS x n (some (.str w)) ++ [.range 0 s, .slist T], [], ifC T d⟩)) : Blk D 330 35 (neZ (lJ x.t)) (forB (lawSt 11)) (HS x n (some (.str w))) (lJ x.t) (HS x n (some (.str w))) := by
  have hc : CfgOk D 270 cfgG := cfgG_ok hK
  have cp := comp11 hK (n := n) h w
  have hc2 : CfgOk D 300 (cfgL orcG (pinC cmp11 (neZ (lJ x.t)) (HS x n (some (.str w))) 36 (HS x n (some (.str w)) ++ [.range 0 ((x.t.length : Int) + 1), .slist (passed (pW x w) (x.t.length + 1))]) noLo)) := cfgL_ok hK (by (first | decide | lia | omega)) (fun k => orcG_ok hK (by (first | decide | lia | omega))) fun k => pinLo_ok (cp.up (by (first | decide | lia | omega))) noLo_ok
  have a := run_st hc2 (to11 x n ((x.t.length : Int) + 1) w (passed (pW x w) (x.t.length + 1))) (okc ⟨rfl, rfl, rfl⟩ okn)
  have iv : ∀ v ∈ passed (pW x w) (x.t.length + 1), isIntV v := isInt_all (passed_sint _ _)
  have b0 := run_tr hc (hif ((x.t.length : Int) + 1) (passed (pW x w) (x.t.length + 1))) (okc (by rw [hd', decide_eq_true rfl]; rfl) (okc iv (okc (by rw [hd']; exact iv) okn)))
  have e : bS 1 = .If (ifT (bS 1)) (ifB (bS 1)) [] (ifP (bS 1)) := by kernel_rfl
  have b : StT D 330 (neZ (lT x.t)) (bS 1) (HS x n (some (.str w)) ++ [.range 0 ((x.t.length : Int) + 1), .slist (passed (pW x w) (x.t.length + 1))]) .next (lT x.t) (HS x n (some (.str w)) ++ [.range 0 ((x.t.length : Int) + 1), .slist (passed (pW x w) (x.t.length + 1))]) := by
    rw [e]
    exact StT.up (by (first | decide | lia | omega)) (StT.ifF (pos := ifP (bS 1)) b0)
  have eb : forB (lawSt 11) = [bS 0, bS 1] := by kernel_rfl
  refine ⟨lT x.t, _, ?_, (PickOk.locsW keepL_w).trans (gc_ok (gc11 x n ((x.t.length : Int) + 1) w (passed (pW x w) (x.t.length + 1))) (nrC_ok h.ok))⟩
  rw [eb]
  exact ExT.cons a (ExT.cons b ExT.nil)
noncomputable def wcAt (i : Nat) : Option V := match i with
  | 0 => none
  | i + 1 => (strsV sortedN)[i]?
theorem s11 {x : Ctx} {n : Int} (h : DueOk x) : Stp D 330 8 (neZ (lJ x.t)) (lawSt 11) (HJ x n none) (lJ x.t) (HJ x n (some (.str "wordstart"))) := by
  have hc : CfgOk D 270 cfgG := cfgG_ok hK
  have it := (iterX_post (n := 300) (tabs_ok hK orcG) (runR_ok hc 30) _ (it11 x n)).2 okn
  have fp := forP_list (D := D) (n := 330) (n0 := 35) (ne := neZ (lJ x.t)) (t := forT (lawSt 11)) (body := forB (lawSt 11)) (k := 34) (L := strsV sortedN) (by (first | decide | lia | omega)) (fun i => by kernel_rfl) (fun i => HS x n (wcAt i)) (fun i => HS x n (wcAt (i + 1))) (lJ x.t) (fun i => lJ x.t) (fun i hi => rfl)
    (fun i v hv => by
      have hv2 : (sortedN.map V.str)[i]? = some v := hv
      rw [List.getElem?_map] at hv2
      obtain ⟨w, _, rfl⟩ := Option.map_eq_some_iff.mp hv2
      have e2 : wcAt (i + 1) = some (.str w) := hv
      rw [e2]
      exact AsgT.up (by (first | decide | lia | omega)) ((asgE_ok (D := D) (n := 300) (runR_ok hc 30) (as11 x n w (wcAt i))).2 okn))
    (fun i hi => lt_11 (P := fun i => Blk D 330 35 (neZ (lJ x.t)) (forB (lawSt 11)) (HS x n (wcAt (i + 1))) (lJ x.t) (HS x n (wcAt (i + 1))))
      (turn11 hK h (d := x.d0) (h.due ("bol", x.d0) (List.mem_of_getElem? (i := 0) rfl)) (if_0 x n))
      (turn11 hK h (d := x.d5) (h.due ("bound", x.d5) (List.mem_of_getElem? (i := 5) rfl)) (if_1 x n))
      (turn11 hK h (d := x.d3) (h.due ("end", x.d3) (List.mem_of_getElem? (i := 3) rfl)) (if_2 x n))
      (turn11 hK h (d := x.d1) (h.due ("eol", x.d1) (List.mem_of_getElem? (i := 1) rfl)) (if_3 x n))
      (turn11 hK h (d := x.d6) (h.due ("inside", x.d6) (List.mem_of_getElem? (i := 6) rfl)) (if_4 x n))
      (turn11 hK h (d := x.d4) (h.due ("point", x.d4) (List.mem_of_getElem? (i := 4) rfl)) (if_5 x n))
      (turn11 hK h (d := x.d2) (h.due ("start", x.d2) (List.mem_of_getElem? (i := 2) rfl)) (if_6 x n))
      (turn11 hK h (d := x.d10) (h.due ("symbolend", x.d10) (List.mem_of_getElem? (i := 10) rfl)) (if_7 x n))
      (turn11 hK h (d := x.d9) (h.due ("symbolstart", x.d9) (List.mem_of_getElem? (i := 9) rfl)) (if_8 x n))
      (turn11 hK h (d := x.d8) (h.due ("wordend", x.d8) (List.mem_of_getElem? (i := 8) rfl)) (if_9 x n))
      (turn11 hK h (d := x.d7) (h.due ("wordstart", x.d7) (List.mem_of_getElem? (i := 7) rfl)) (if_10 x n))
      hi)
  have e : lawSt 11 = .For (forT (lawSt 11)) (forI (lawSt 11)) (forB (lawSt 11)) [] (forP (lawSt 11)) := by kernel_rfl
  have st : StT D 330 (neZ (lJ x.t)) (lawSt 11) (HJ x n none) .next (lJ x.t) (HS x n (some (.str "wordstart"))) := by
    rw [e]
    exact For_ok (by kernel_rfl) (ItT.up (by (first | decide | lia | omega)) it) fp
  exact ⟨lJ x.t, _, st, (PickOk.locsW keepL_w).trans (gc_ok (ge11 x n "wordstart") (nrC_ok h.ok))⟩
end
end Mine
end
section
open PySem PySem.W PyProof.Rows PySem.Calls PySem.Spec
namespace Mine
theorem passed_congr {p q : Nat → Bool} {m : Nat} (h : ∀ i, i < m → p i = q i) : passed p m = passed q m := by
  unfold passed
  congr 1
  exact List.filter_congr fun i hi => h i (List.mem_range.mp hi)
theorem anyI_passed (p : Nat → Bool) (i : Nat) : ∀ m, anyI ((passed p m).map intOf) (i : Int) = (decide (i < m) && p i)
  | 0 => by
    show false = _
    rw [decide_eq_false (by (first | decide | lia | omega))]; rfl
  | m + 1 => by
    have ap : ∀ (a b : List Int) (x : Int), anyI (a ++ b) x = (anyI a x || anyI b x) := by
      intro a b x
      rw [← anyI_eq, ← anyI_eq, ← anyI_eq, List.any_append]
    rw [passed_succ, List.map_append, ap, anyI_passed p i m]
    cases hp : p m with
    | true =>
      have e : anyI ([V.sint (m : Int)].map intOf) (i : Int) = decide (m = i) := by
        show (match decide ((m : Int) = i) with | true => true | false => false) = _
        by_cases z : m = i
        · rw [decide_eq_true (show (m : Int) = i by (first | decide | lia | omega)), decide_eq_true z]
        · rw [decide_eq_false (show ¬ (m : Int) = i by (first | decide | lia | omega)), decide_eq_false z]
      dsimp only
      rw [e]
      by_cases z : m = i
      · subst z; simp [hp]
      · rw [decide_eq_false z, Bool.or_false]
        congr 1
        by_cases y : i < m
        · rw [decide_eq_true y, decide_eq_true (by (first | decide | lia | omega))]
        · rw [decide_eq_false y, decide_eq_false (by (first | decide | lia | omega))]
    | false =>
      have e : anyI (([] : List V).map intOf) (i : Int) = false := rfl
      dsimp only
      rw [e, Bool.or_false]
      by_cases y : i < m
      · rw [decide_eq_true y, decide_eq_true (by (first | decide | lia | omega))]
      · by_cases z : i = m
        · subst z; simp [hp]
        · rw [decide_eq_false y, decide_eq_false (by (first | decide | lia | omega))]
noncomputable def codeN (j : Int) : Nat := signsS.cps.getD j.toNat 0
theorem join_cps : ∀ l : List Str, (Txt.join emptyS l).cps.toList = (l.map fun s => s.cps.toList).flatten
  | [] => rfl
  | [a] => by
    show a.cps.toList = _
    simp
  | a :: b :: r => by
    have e := join_cps (b :: r)
    have : Txt.join emptyS (a :: b :: r) = a ++ emptyS ++ Txt.join emptyS (b :: r) := by
      show Builtin.Str.glued _ _ = _ ++ Builtin.Str.glued _ _
      rw [StrLaws.glued_eq_join, StrLaws.glued_eq_join]; rfl
    rw [this]
    simp only [Str.cps_append, Array.toList_append, e, List.map_cons, List.flatten_cons]
    have : emptyS.cps.toList = [] := rfl
    rw [this, List.append_nil]
theorem flat_signs : ∀ ps : List Int, (((ps.map signV).map strOfV).map fun s => s.cps.toList).flatten = ps.map codeN
  | [] => rfl
  | j :: r => by
    show [codeN j] ++ (((r.map signV).map strOfV).map fun s => s.cps.toList).flatten = codeN j :: r.map codeN
    rw [flat_signs r]; rfl
theorem text_cps (ps : List Int) : (textS ps).cps.toList = ps.map codeN := by
  unfold textS
  rw [join_cps]
  exact flat_signs ps
theorem codes_eq (ps : List Int) : codesV (textS ps) = ps.map fun j => V.sint (codeN j : Int) := by
  unfold codesV
  rw [text_cps, List.map_map]; rfl
theorem codes_len (ps : List Int) : (codesV (textS ps)).length = ps.length := by rw [codes_eq, List.length_map]
section
variable {ps : List Int} {b : Int}
theorem codeAt_in {i : Nat} (hi : i < ps.length) : codeAt (codesV (textS ps)) b (b + (i : Int)) = (codeN ps[i] : Int) := by
  unfold codeAt
  rw [codes_len, decide_eq_true (show b ≤ b + (i : Int) by (first | decide | lia | omega)), decide_eq_true (show b + (i : Int) < b + (ps.length : Int) by (first | decide | lia | omega))]
  dsimp only
  rw [show (b + (i : Int) - b).toNat = i by (first | decide | lia | omega), codes_eq, List.getD_eq_getElem?_getD, List.getElem?_map, List.getElem?_eq_getElem hi]
  rfl
theorem codeAt_out {i : Nat} (hi : ps.length ≤ i) : codeAt (codesV (textS ps)) b (b + (i : Int)) = -1 := by
  unfold codeAt
  rw [codes_len, decide_eq_true (show b ≤ b + (i : Int) by (first | decide | lia | omega)), decide_eq_false (show ¬ b + (i : Int) < b + (ps.length : Int) by (first | decide | lia | omega))]
theorem codeAt_low : codeAt (codesV (textS ps)) b (b - 1) = -1 := by
  unfold codeAt
  rw [decide_eq_false (show ¬ b ≤ b - 1 by (first | decide | lia | omega))]
end
theorem six_cases {P : Int → Prop} (h : P 0 ∧ P 1 ∧ P 2 ∧ P 3 ∧ P 4 ∧ P 5) {j : Int} (h0 : 0 ≤ j) (h1 : j < 6) : P j := by
  have : j = 0 ∨ j = 1 ∨ j = 2 ∨ j = 3 ∨ j = 4 ∨ j = 5 := by (first | decide | lia | omega)
  rcases this with rfl | rfl | rfl | rfl | rfl | rfl
  · exact h.1
  · exact h.2.1
  · exact h.2.2.1
  · exact h.2.2.2.1
  · exact h.2.2.2.2.1
  · exact h.2.2.2.2.2
theorem kind_eq (x : Six) (kd : Kd) (hx : x.k0 = kd.k0 ∧ x.k1 = kd.k1 ∧ x.k2 = kd.k2 ∧ x.k3 = kd.k3 ∧ x.k4 = kd.k4 ∧ x.k5 = kd.k5) {j : Int} (h0 : 0 ≤ j) (h1 : j < 6) : x.kind (codeN j : Int) = kindS kd j := by
  obtain ⟨r, s0, s1, s2, s3, s4, s5, k0, k1, k2, k3, k4, k5⟩ := x
  obtain ⟨e0, e1, e2, e3, e4, e5⟩ := hx
  dsimp only at e0 e1 e2 e3 e4 e5
  subst e0 e1 e2 e3 e4 e5
  exact six_cases (P := fun j => Six.kind ⟨r, s0, s1, s2, s3, s4, s5, kd.k0, kd.k1, kd.k2, kd.k3, kd.k4, kd.k5⟩ (codeN j : Int) = kindS kd j) ⟨by kernel_rfl, by kernel_rfl, by kernel_rfl, by kernel_rfl, by kernel_rfl, by kernel_rfl⟩ h0 h1
theorem w_eq {kd : Kd} (hk : IsKd kd) {j : Int} (h0 : 0 ≤ j) (h1 : j < 6) : inW wS (kindS kd j) = eqS (kindS kd j) "w" := by
  rcases hk with rfl | rfl | rfl
  · exact six_cases (P := fun j => inW wS (kindS kdA j) = eqS (kindS kdA j) "w") ⟨by decide +kernel, by decide +kernel, by decide +kernel, by decide +kernel, by decide +kernel, by decide +kernel⟩ h0 h1
  · exact six_cases (P := fun j => inW wS (kindS kdB j) = eqS (kindS kdB j) "w") ⟨by decide +kernel, by decide +kernel, by decide +kernel, by decide +kernel, by decide +kernel, by decide +kernel⟩ h0 h1
  · exact six_cases (P := fun j => inW wS (kindS kdC j) = eqS (kindS kdC j) "w") ⟨by decide +kernel, by decide +kernel, by decide +kernel, by decide +kernel, by decide +kernel, by decide +kernel⟩ h0 h1
section
variable {ps : List Int} {b : Int} {kd : Kd}
noncomputable def kk (kd : Kd) (ps : List Int) : List V := ps.map (kindV kd)
theorem wIn_in {wd : Str} {i : Nat} (hi : i < ps.length) : wIn (kk kd ps) wd i = inW wd (kindS kd ps[i]) := by
  unfold wIn kk
  rw [List.length_map, decide_eq_true hi]
  dsimp only
  rw [List.getD_eq_getElem?_getD, List.getElem?_map, List.getElem?_eq_getElem hi]
  rfl
theorem wIn_out {wd : Str} {i : Nat} (hi : ps.length ≤ i) : wIn (kk kd ps) wd i = false := by
  unfold wIn kk
  rw [List.length_map, decide_eq_false (by (first | decide | lia | omega))]
theorem isW_eq (x : Six) (hx : x.k0 = kd.k0 ∧ x.k1 = kd.k1 ∧ x.k2 = kd.k2 ∧ x.k3 = kd.k3 ∧ x.k4 = kd.k4 ∧ x.k5 = kd.k5) (hk : IsKd kd) (hp : ∀ j ∈ ps, 0 ≤ j ∧ j < 6) (i : Nat) : isW x (codesV (textS ps)) b (b + (i : Int)) = wIn (kk kd ps) wS i := by
  unfold isW
  by_cases hi : i < ps.length
  · have hj := hp _ (List.getElem_mem hi)
    rw [codeAt_in hi, decide_eq_true (show (0 : Int) ≤ (codeN ps[i] : Int) by (first | decide | lia | omega)), wIn_in hi, w_eq hk hj.1 hj.2]
    dsimp only
    rw [kind_eq x kd hx hj.1 hj.2]
  · rw [codeAt_out (by (first | decide | lia | omega)), wIn_out (by (first | decide | lia | omega))]; rfl
theorem isS_eq (x : Six) (hx : x.k0 = kd.k0 ∧ x.k1 = kd.k1 ∧ x.k2 = kd.k2 ∧ x.k3 = kd.k3 ∧ x.k4 = kd.k4 ∧ x.k5 = kd.k5) (hp : ∀ j ∈ ps, 0 ≤ j ∧ j < 6) (i : Nat) : isS x (codesV (textS ps)) b (b + (i : Int)) = wIn (kk kd ps) symS i := by
  unfold isS
  by_cases hi : i < ps.length
  · have hj := hp _ (List.getElem_mem hi)
    rw [codeAt_in hi, decide_eq_true (show (0 : Int) ≤ (codeN ps[i] : Int) by (first | decide | lia | omega)), wIn_in hi]
    dsimp only
    rw [kind_eq x kd hx hj.1 hj.2]
    rfl
  · rw [codeAt_out (by (first | decide | lia | omega)), wIn_out (by (first | decide | lia | omega))]; rfl
theorem before_eq {f : Int → Bool} {W : Nat → Bool} (h0 : f (b - 1) = false) (h : ∀ i : Nat, f (b + (i : Int)) = W i) (i : Nat) : f (b + (i : Int) - 1) = before W i := by
  cases i with
  | zero => rw [show b + ((0 : Nat) : Int) - 1 = b - 1 by (first | decide | lia | omega)]; exact h0
  | succ k => rw [show b + ((k + 1 : Nat) : Int) - 1 = b + (k : Int) by (first | decide | lia | omega)]; exact h k
theorem isW_low (x : Six) : isW x (codesV (textS ps)) b (b - 1) = false := by
  unfold isW
  rw [codeAt_low]; rfl
theorem isS_low (x : Six) : isS x (codesV (textS ps)) b (b - 1) = false := by
  unfold isS
  rw [codeAt_low]; rfl
theorem nl_eq {i : Nat} (hi : i < ps.length) : decide (codeAt (codesV (textS ps)) b (b + (i : Int)) = 10) = isNl (textS ps) i := by
  unfold isNl
  rw [codeAt_in hi, text_cps, List.getElem?_map, List.getElem?_eq_getElem hi]
  show _ = decide (some (codeN ps[i]) = some 10)
  by_cases z : codeN ps[i] = 10
  · rw [decide_eq_true (show (codeN ps[i] : Int) = 10 by (first | decide | lia | omega)), decide_eq_true (by rw [z])]
  · rw [decide_eq_false (show ¬ (codeN ps[i] : Int) = 10 by (first | decide | lia | omega)), decide_eq_false fun e => z (Option.some.inj e)]
end
section
variable (x : Six) (l : List V) (b pt p : Int)
theorem hb_bol : holdsB "bol" x l b pt p = (match decide (p = b) with | true => true | false => decide (codeAt l b (p - 1) = 10)) := by kernel_rfl
theorem hb_eol : holdsB "eol" x l b pt p = (match decide (p = b + l.length) with | true => true | false => decide (codeAt l b p = 10)) := by kernel_rfl
theorem hb_start : holdsB "start" x l b pt p = decide (p = b) := by kernel_rfl
theorem hb_end : holdsB "end" x l b pt p = decide (p = b + l.length) := by kernel_rfl
theorem hb_point : holdsB "point" x l b pt p = decide (p = pt) := by kernel_rfl
theorem hb_bound : holdsB "bound" x l b pt p = (isB x l b p == true) := by kernel_rfl
theorem hb_inside : holdsB "inside" x l b pt p = (isB x l b p == false) := by kernel_rfl
theorem hb_ws : holdsB "wordstart" x l b pt p = (match isW x l b p with | true => !isW x l b (p - 1) | false => false) := by kernel_rfl
theorem hb_we : holdsB "wordend" x l b pt p = (match isW x l b (p - 1) with | true => !isW x l b p | false => false) := by kernel_rfl
theorem hb_ss : holdsB "symbolstart" x l b pt p = (match isS x l b p with | true => !isS x l b (p - 1) | false => false) := by kernel_rfl
theorem hb_se : holdsB "symbolend" x l b pt p = (match isS x l b (p - 1) with | true => !isS x l b p | false => false) := by kernel_rfl
end
theorem match_and (a c : Bool) : (match a with | true => c | false => false) = (a && c) := by cases a <;> rfl
theorem match_or (a c : Bool) : (match a with | true => true | false => c) = (a || c) := by cases a <;> rfl
end Mine
end
section
open PySem PySem.W PyProof.Rows PySem.Calls PySem.Spec
namespace Mine
section
variable {c : List V} {kd : Kd} {ps : List Int} {base spot : Int}
theorem sixJ_k : (sixJ (ctx7 c kd ps base spot)).k0 = kd.k0 ∧ (sixJ (ctx7 c kd ps base spot)).k1 = kd.k1 ∧ (sixJ (ctx7 c kd ps base spot)).k2 = kd.k2 ∧ (sixJ (ctx7 c kd ps base spot)).k3 = kd.k3 ∧ (sixJ (ctx7 c kd ps base spot)).k4 = kd.k4 ∧ (sixJ (ctx7 c kd ps base spot)).k5 = kd.k5 := ⟨rfl, rfl, rfl, rfl, rfl, rfl⟩
theorem tlen : (textS ps).length = ps.length := text_len ps
theorem dd (i : Nat) : decide (base + (i : Int) = base) = decide (i = 0) := by
  by_cases z : i = 0
  · rw [decide_eq_true z, decide_eq_true (by (first | decide | lia | omega))]
  · rw [decide_eq_false z, decide_eq_false (by (first | decide | lia | omega))]
theorem de (i : Nat) : decide (base + (i : Int) = base + ((codesV (textS ps)).length : Int)) = decide (i = ps.length) := by
  rw [codes_len]
  by_cases z : i = ps.length
  · rw [decide_eq_true z, decide_eq_true (by (first | decide | lia | omega))]
  · rw [decide_eq_false z, decide_eq_false (by (first | decide | lia | omega))]
theorem klen : (ps.map (kindV kd)).length = ps.length := List.length_map _
theorem runsW (wd : Str) : runsV (ps.map (kindV kd)) wd (ps.map (kindV kd)).length = (passed (stB (wIn (kk kd ps) wd)) ps.length, passed (enE (wIn (kk kd ps) wd)) (ps.length + 1)) := by
  have := runs_plain (ps.map (kindV kd)) wd (ps.map (kindV kd)).length (Nat.le_refl _)
  rw [this, klen]; rfl
theorem isB_or (x : Six) (l : List V) (b p : Int) : isB x l b p = (decide (p = b) || (decide (p = b + (l.length : Int)) || (isW x l b (p - 1) != isW x l b p))) := by
  unfold isB
  cases decide (p = b) <;> cases decide (p = b + (l.length : Int)) <;> rfl
theorem isBd_or (B E : List V) (s i : Int) : isBd B E s i = (anyI [0, s] i || (anyI (B.map intOf) i || anyI (E.map intOf) i)) := by
  unfold isBd
  cases anyI [0, s] i <;> cases anyI (B.map intOf) i <;> rfl
theorem isB_eq (hk : IsKd kd) (hp : ∀ j ∈ ps, 0 ≤ j ∧ j < 6) {i : Nat} : isB (sixJ (ctx7 c kd ps base spot)) (codesV (textS ps)) base (base + (i : Int)) = (decide (i = 0) || (decide (i = ps.length) || (before (wIn (kk kd ps) wS) i != wIn (kk kd ps) wS i))) := by
  rw [isB_or, dd, de, isW_eq _ sixJ_k hk hp, before_eq (f := isW (sixJ (ctx7 c kd ps base spot)) (codesV (textS ps)) base) (isW_low _) fun k => isW_eq _ sixJ_k hk hp k]
theorem isBd_eq {i : Nat} (hi : i < ps.length + 1) : isBd (passed (stB (wIn (kk kd ps) wS)) ps.length) (passed (enE (wIn (kk kd ps) wS)) (ps.length + 1)) (ps.length : Int) (i : Int) = (decide (i = 0) || (decide (i = ps.length) || (before (wIn (kk kd ps) wS) i != wIn (kk kd ps) wS i))) := by
  rw [isBd_or, anyI_passed, anyI_passed, decide_eq_true hi, Bool.true_and]
  have e0 : anyI [0, (ps.length : Int)] (i : Int) = (decide (i = 0) || decide (i = ps.length)) := by
    have e1 : anyI [0, (ps.length : Int)] (i : Int) = (decide ((0 : Int) = i) || decide ((ps.length : Int) = i)) := by
      unfold anyI anyI anyI
      cases decide ((0 : Int) = i) <;> cases decide ((ps.length : Int) = i) <;> rfl
    rw [e1]
    congr 1
    · by_cases z : i = 0
      · rw [decide_eq_true z, decide_eq_true (by (first | decide | lia | omega))]
      · rw [decide_eq_false z, decide_eq_false (by (first | decide | lia | omega))]
    · by_cases z : i = ps.length
      · rw [decide_eq_true z, decide_eq_true (by (first | decide | lia | omega))]
      · rw [decide_eq_false z, decide_eq_false (by (first | decide | lia | omega))]
  rw [e0, Bool.or_assoc]
  congr 1
  by_cases z : i = ps.length
  · rw [decide_eq_true z]; rfl
  · rw [decide_eq_false z, decide_eq_true (show i < ps.length by (first | decide | lia | omega))]
    unfold stB enE
    cases before (wIn (kk kd ps) wS) i <;> cases wIn (kk kd ps) wS i <;> rfl
theorem pW_eq (w : Str) (i : Nat) : pW (ctx7 c kd ps base spot) w i = holdsB w (sixJ (ctx7 c kd ps base spot)) (codesV (textS ps)) base (base + spot) (base + (i : Int)) := rfl
theorem bd_eq (hk : IsKd kd) (hp : ∀ j ∈ ps, 0 ≤ j ∧ j < 6) : bdL (ps.map (kindV kd)) ((textS ps).length : Int) = passed (fun i => isB (sixJ (ctx7 c kd ps base spot)) (codesV (textS ps)) base (base + (i : Int))) (ps.length + 1) := by
  unfold bdL
  rw [tlen, show ((ps.length : Int) + 1).toNat = ps.length + 1 by (first | decide | lia | omega), runsW]
  refine passed_congr fun i hi => ?_
  rw [isB_eq hk hp]
  exact isBd_eq hi
theorem due_ok (hk : IsKd kd) (hp : ∀ j ∈ ps, 0 ≤ j ∧ j < 6) (hl : ps.length ≤ 7) (h1 : c.length ≤ 30) (h2 : ∀ v ∈ c, isSint v) : DueOk (ctx7 c kd ps base spot) where
  ok := ctx7_ok h1 h2 hl
  text := by
    refine ⟨?_, codesV_sint _, ?_, ?_⟩
    · show (codesV (textS ps)).length ≤ 1000
      rw [codes_len]; (first | decide | lia | omega)
    · intro v hv
      have hv' : v ∈ codesV (textS ps) := hv
      rw [codes_eq] at hv'
      obtain ⟨j, hj, rfl⟩ := List.mem_map.mp hv'
      have := hp j hj
      exact six_cases (P := fun j => intOf (.sint (codeN j : Int)) ∈ sixCodes) ⟨by decide +kernel, by decide +kernel, by decide +kernel, by decide +kernel, by decide +kernel, by decide +kernel⟩ this.1 this.2
    · show ∀ k ∈ kd.l, eqS k "@" = false
      rcases hk with rfl | rfl | rfl <;> decide +kernel
  due := by
    have W := isW_eq (b := base) (sixJ (ctx7 c kd ps base spot)) sixJ_k hk hp
    have Wb := before_eq (b := base) (f := isW (sixJ (ctx7 c kd ps base spot)) (codesV (textS ps)) base) (isW_low _) W
    have Sy := isS_eq (b := base) (sixJ (ctx7 c kd ps base spot)) sixJ_k hp
    have Sb := before_eq (b := base) (f := isS (sixJ (ctx7 c kd ps base spot)) (codesV (textS ps)) base) (isS_low _) Sy
    intro p hm
    show p.2 = passed _ ((textS ps).length + 1)
    rw [tlen]
    simp only [dueAt, List.mem_cons, List.not_mem_nil, or_false] at hm
    rcases hm with rfl | rfl | rfl | rfl | rfl | rfl | rfl | rfl | rfl | rfl | rfl
    · show bolF (textS ps) = _
      unfold bolF
      rw [tlen]
      refine passed_congr fun i hi => ?_
      rw [pW_eq]
      refine Eq.trans ?_ (hb_bol _ _ _ _ _).symm
      rw [dd, match_or]
      cases i with
      | zero => rfl
      | succ k =>
        rw [show base + ((k + 1 : Nat) : Int) - 1 = base + (k : Int) by (first | decide | lia | omega), nl_eq (by (first | decide | lia | omega))]
        rfl
    · show eolF (textS ps) = _
      unfold eolF
      rw [tlen]
      refine passed_congr fun i hi => ?_
      rw [pW_eq]
      refine Eq.trans ?_ (hb_eol _ _ _ _ _).symm
      rw [de, match_or]
      by_cases z : i = ps.length
      · rw [decide_eq_true z]; rfl
      · rw [nl_eq (show i < ps.length by (first | decide | lia | omega))]
    · show [V.sint 0] = _
      have e : passed (pW (ctx7 c kd ps base spot) "start") (ps.length + 1) = passed (fun i => decide (i = 0)) (ps.length + 1) := passed_congr fun i hi => by
        rw [pW_eq]
        refine (hb_start _ _ _ _ _).trans (dd i)
      refine Eq.trans ?_ e.symm
      have z : ∀ m, passed (fun i => decide (i = 0)) (m + 1) = [V.sint 0] := by
        intro m
        induction m with
        | zero => rfl
        | succ k ih => rw [passed_succ, ih]; rfl
      exact (z _).symm
    · show [V.sint ((textS ps).length : Int)] = _
      have e : passed (pW (ctx7 c kd ps base spot) "end") (ps.length + 1) = passed (fun i => decide (i = ps.length)) (ps.length + 1) := passed_congr fun i hi => by
        rw [pW_eq]
        refine (hb_end _ _ _ _ _).trans (de i)
      refine Eq.trans ?_ e.symm
      have z : ∀ m, m ≤ ps.length → passed (fun i => decide (i = ps.length)) m = [] := by
        intro m
        induction m with
        | zero => intro _; rfl
        | succ k ih => intro h; rw [passed_succ, ih (by (first | decide | lia | omega)), decide_eq_false (by (first | decide | lia | omega))]; rfl
      rw [passed_succ, z _ (Nat.le_refl _), decide_eq_true rfl, tlen]; rfl
    · show ptL ((textS ps).length : Int) spot = _
      unfold ptL
      rw [tlen, show ((ps.length : Int) + 1).toNat = ps.length + 1 by (first | decide | lia | omega)]
      refine passed_congr fun i hi => ?_
      rw [pW_eq]
      refine Eq.trans ?_ (hb_point _ _ _ _ _).symm
      by_cases z : (i : Int) = spot
      · rw [decide_eq_true z, decide_eq_true (by (first | decide | lia | omega))]
      · rw [decide_eq_false z, decide_eq_false (by (first | decide | lia | omega))]
    · show bdL (ps.map (kindV kd)) ((textS ps).length : Int) = _
      rw [bd_eq (c := c) (base := base) (spot := spot) hk hp]
      refine passed_congr fun i hi => ?_
      rw [pW_eq]
      refine Eq.trans ?_ (hb_bound _ _ _ _ _).symm
      cases isB (sixJ (ctx7 c kd ps base spot)) (codesV (textS ps)) base (base + (i : Int)) <;> rfl
    · show inL (ps.map (kindV kd)) ((textS ps).length : Int) = _
      unfold inL
      rw [bd_eq (c := c) (base := base) (spot := spot) hk hp, tlen, show ((ps.length : Int) + 1).toNat = ps.length + 1 by (first | decide | lia | omega)]
      refine passed_congr fun i hi => ?_
      rw [pW_eq]
      refine Eq.trans ?_ (hb_inside _ _ _ _ _).symm
      unfold isOut
      rw [anyI_passed, decide_eq_true hi, Bool.true_and]
      cases isB (sixJ (ctx7 c kd ps base spot)) (codesV (textS ps)) base (base + (i : Int)) <;> rfl
    · show (runsV (ps.map (kindV kd)) wS (ps.map (kindV kd)).length).1 = _
      rw [runsW]
      have e : passed (pW (ctx7 c kd ps base spot) "wordstart") (ps.length + 1) = passed (stB (wIn (kk kd ps) wS)) (ps.length + 1) := passed_congr fun i hi => by
        rw [pW_eq]
        refine (hb_ws _ _ _ _ _).trans ?_
        rw [match_and, W, Wb]; rfl
      refine Eq.trans ?_ e.symm
      have z : stB (wIn (kk kd ps) wS) ps.length = false := by unfold stB; rw [wIn_out (Nat.le_refl _)]; rfl
      rw [passed_succ (stB _), z]
      exact (List.append_nil _).symm
    · show (runsV (ps.map (kindV kd)) wS (ps.map (kindV kd)).length).2 = _
      rw [runsW]
      refine passed_congr fun i hi => ?_
      rw [pW_eq]
      refine Eq.trans ?_ (hb_we _ _ _ _ _).symm
      rw [match_and, W, Wb]; rfl
    · show (runsV (ps.map (kindV kd)) symS (ps.map (kindV kd)).length).1 = _
      rw [runsW]
      have e : passed (pW (ctx7 c kd ps base spot) "symbolstart") (ps.length + 1) = passed (stB (wIn (kk kd ps) symS)) (ps.length + 1) := passed_congr fun i hi => by
        rw [pW_eq]
        refine (hb_ss _ _ _ _ _).trans ?_
        rw [match_and, Sy, Sb]; rfl
      refine Eq.trans ?_ e.symm
      have z : stB (wIn (kk kd ps) symS) ps.length = false := by unfold stB; rw [wIn_out (Nat.le_refl _)]; rfl
      rw [passed_succ (stB _), z]
      exact (List.append_nil _).symm
    · show (runsV (ps.map (kindV kd)) symS (ps.map (kindV kd)).length).2 = _
      rw [runsW]
      refine passed_congr fun i hi => ?_
      rw [pW_eq]
      refine Eq.trans ?_ (hb_se _ _ _ _ _).symm
      rw [match_and, Sy, Sb]; rfl
end
end Mine
end
section
open PySem PySem.W PyProof.Rows PySem.Calls PySem.Spec
namespace Mine
theorem run12 (x : Ctx) (n : Int) : stepG cfgG 30 8 keepJ [] (neZ (lJ x.t)) (lawSt 12) (HJ x n (some (.str "wordstart"))) [] = some ((HJ x (n + 1) (some (.sstr (sortedN.getD (drawV x.c n 11).toNat emptyS))), lJ x.t), nrC x ++ [0 ≤ drawV x.c n 11 ∧ drawV x.c n 11 < (strsV sortedN).length ∧ (strsV sortedN).length ≤ 1000, DeckOk x.c n 11]) := by kernel_rfl
noncomputable def sShy : Str := "shy"
noncomputable def HIw (x : Ctx) (n : Int) (wc : Option V) : List O := .cell wc :: (HI x n).drop 1
noncomputable def lU (t s : Str) : LR := [(sText, .sstr t), (sDue, .ref 8), (sShy, .str s)]
noncomputable def st13R (x : Ctx) (n : Int) (w : Str) := stepG cfgG 30 8 [(sText, false), (sDue, false), (sShy, false)] [] (neZ (lJ x.t)) (lawSt 13) (HJ x n (some (.str w))) []
noncomputable def upL (b : Int) : List V := (List.range b.toNat).map fun i : Nat => .sint (i : Int)
theorem ev_listrange {D : Wd} {n : Nat} {T : Tabs} (hT : GlOk D T.gl) {ne : NE} {f : Str} {p1 pos : Pos} {a : PySem.Expr} {H : List O} {b : Int} (hnm : evName T ne f ⟨H, [], []⟩ = some (.bi 7, ⟨H, [], []⟩)) (hs : isStarE a = false) (ha : EvT D n ne a H (.ref H.length) (H ++ [.range 0 b])) (hb : 0 ≤ b ∧ b ≤ 1000) :
    EvT D n ne (.Call (.Name f p1) [a] [] pos) H (.ref (H.length + 1)) (H ++ [.range 0 b, .slist (upL b)]) := by
  intro fx env dp un μ m rest s Q okx room eo S P
  refine Call_ ((evName_ok (D := D) hT hnm).2 fx env dp un μ m rest s _ okx room.zero eo S fun rf more0 h0 tk0 hf S0 => ?_)
  have hf' : rf = biVal 7 := hf
  subst hf'
  refine PySem.Pv.callWith_type1 ?_ (starEach_cons hs _ _) (noStars_any (es := []) rfl)
  refine spliced_more (rest := []) (ha fx env dp un _ m rest _ _ okx room eo.ext S0 fun r1 more1 h1 tk1 hr1 S1 => ?_) (starEach_cons hs _ _)
  refine spliced_none ?_
  obtain ⟨ad, d, hk, rfl⟩ := hr1
  have hob : (H ++ [O.range 0 b])[H.length]? = some (.range 0 b) := by
    rw [List.getElem?_append_right (Nat.le_refl _), Nat.sub_self]; rfl
  obtain ⟨p, led, hp, N, nd, al, e2, t, u, v, hm⟩ := S1.obj hob
  rw [hk] at hp; cases hp
  have hr : IsRange h1 ad 0 b 1 t u v := N.get (List.mem_append_left _ hm)
  have sz : (b.toNat : Int) = b := by (first | decide | lia | omega)
  refine list_rangeD (A := fx.A dp un) (s := { s with heap := h1, toks := tk1 }) rfl S1.fr N hr (range_small (by (first | decide | lia | omega)) (by (first | decide | lia | omega))) (rangeSize_of b) (by (first | decide | lia | omega)) fun h' tk ys F' N' keep hn0 hL np hc => ?_
  obtain ⟨⟨c', hg⟩, hne⟩ := id np
  have rel : ∀ {μ : Mu} {ys : List Value} {l : List Int}, CarriedAll ys (l.map PyData.int) → RelVs μ (l.map V.sint) ys := by
    intro μ ys l
    induction l generalizing ys with
    | nil => intro h; cases h; exact .nil
    | cons i r ih =>
      intro h
      cases h with | cons h1 h2 =>
      cases h1
      exact .cons ⟨_, rfl⟩ (ih h2)
  have hI := rel (μ := μ ++ more0 ++ more1) hc
  have eu : (rangeInts 0 1 b.toNat).map V.sint = upL b := by
    unfold upL rangeInts
    rw [List.map_map]
    refine List.map_congr_left fun i _ => ?_
    show V.sint (0 + (i : Int) * 1) = _
    rw [Int.mul_one, Int.zero_add]
  rw [eu] at hI
  have lt : ∀ p ∈ led ++ rest, p.1 < h1.objs.size := fun p hp => Heap.lt_size (N p hp).1
  have hLne : h1.objs.size ≠ fx.L := NewPlain.ne_locals np F'
  have N2 : News fx.h₀ fx.L h' ((h1.objs.size, W.listOf ys.toArray c') :: (led ++ rest)) := fun p hp => by
    rcases List.mem_cons.mp hp with rfl | hp
    · exact ⟨hg, hLne, hn0⟩
    · exact N' p hp
  have S2 : StD D fx (μ ++ more0 ++ more1 ++ [(h1.objs.size, h1.objs.size)]) (H ++ [.range 0 b] ++ [.slist (upL b)]) m rest h' := S1.grow nd al F' N2 lt ⟨rfl, ys, c', .head _, hI.ext⟩
  have el : H ++ [O.range 0 b] ++ [O.slist (upL b)] = H ++ [.range 0 b, .slist (upL b)] := by rw [List.append_assoc]; rfl
  rw [el] at S2
  have hl : (μ ++ more0 ++ more1).length = H.length + 1 := by rw [S1.len, List.length_append]; rfl
  have P1 := (P.next (more := more0) (h := h0) (tk := tk0)).next (more := more1) (h := h1) (tk := tk1)
  exact P1 _ [(h1.objs.size, h1.objs.size)] h' tk ⟨h1.objs.size, h1.objs.size, by rw [List.getElem?_append_right (by rw [hl]; exact Nat.le_refl _), hl]; simp, rfl⟩ S2
end Mine
end
section
open PySem PySem.W PyProof.Rows PySem.Calls PySem.Spec
namespace Mine
noncomputable def StB (D : Wd) (n n0 : Nat) (ne : NE) (st : Stmt) (H : List O) (l' : LR) (H' : List O) : Prop :=
  ∀ (fx : Fx) (dp un : Nat) (μ more : Mu) (m : Str → Option Value) (rest : Ledger) (s : Shared) (Q : Flow → Shared → Prop), μ.length = n0 → Fx.Ok D fx → Room n dp un → fx.cs.names = ne.names → LocsOk (μ ++ more) m ne.locs → CellsOk μ fx.cl ne.cells →
    StD D fx (μ ++ more) H m rest s.heap → PostF D fx H' .next l' μ rest s Q → wpAny (model D.prog D.w) (fx.A dp un) (exec st fx.env) Q NoE s
theorem ExB.consB {D : Wd} {n n0 : Nat} {ne : NE} {st : Stmt} {ss : List Stmt} {H H₁ H' : List O} {l₁ l' : LR} {fl : Fl} (a : StB D n n0 ne st H l₁ H₁) (b : ExB D n (ne.withL l₁) n0 ss H₁ fl l' H') : ExB D n ne n0 (st :: ss) H fl l' H' := by
  intro fx dp un μ more m rest s Q e okx room hn hl hc S P
  refine wpAny_execs_cons (a fx dp un μ more m rest s _ e okx room hn hl hc S fun f more1 h' tk' m' hf' hl' S' => ?_)
  have hf' : f = .next := hf'
  subst hf'
  exact b fx dp un μ more1 m' rest _ _ e okx room hn hl' hc S' fun f more h tk m hf hl S => P f more h tk m hf hl S
theorem ForPB_ok {D : Wd} {n n0 : Nat} {ne : NE} {t ite : PySem.Expr} {body : List Stmt} {pos : Pos} {kk k k' i0 : Nat} {H H₁ H₂ : List O} {l0 l2 l' : LR} {H' : List O} {ks : List Nat} {cs : List Prop} {nm nm' : Str} (oi : okIter ite = true) (first : ItT D n ne ite H (.list k i0) H₁) (hw : LocsW ne.locs l0)
    (g : gcA n0 H₁ ((nm, .ref k) :: l0) ks = some (H₂, (nm', .ref k') :: l2, cs)) (ok : ∀ c ∈ cs, c) (R : ForP D n ne t body H₂.length kk (.list k' i0) H₂ l2 l' H') : StB D n n0 ne (.For t ite body [] pos) H l' H' := by
  intro fx dp un μ0 more0' m rest s Q hμ okx room hn hl hc S P
  refine wpAny_For (first fx fx.env dp un (μ0 ++ more0') m rest s _ okx room (.ofFn okx hn hl hc.ext) S fun I oI more1 h0 tk0 hin0 S0 => ?_) (folded_of oi _)
  have hl1 : LocsOk (μ0 ++ (more0' ++ more1)) m l0 := by
    have := hw.ok (hl.ext (more := more1))
    rwa [List.append_assoc] at this
  rw [List.append_assoc] at S0 hin0
  obtain ⟨S1, back, hmv⟩ := gcA_pick _ g ok hμ S0
  refine ob_ hmv fun v' hv hmv => ob_ hmv fun l2' hl2 hmv => ?_
  have hmv := List.cons.inj (Option.some.inj hmv)
  have hv : mvV (newN n0 ks) (.ref k) = some (.ref k') := (show mvV (newN n0 ks) (.ref k) = some v' from hv).trans (congrArg some (Prod.mk.inj hmv.1).2)
  rw [hmv.2] at hl2
  have hin1 : ItIn (μ0 ++ newMu ks (μ0 ++ (more0' ++ more1))) (.list k' i0) oI := by
    obtain ⟨a, d, e, r⟩ := hin0
    have rel : RelV (μ0 ++ (more0' ++ more1)) (.ref k) (.ref a) := ⟨a, d, e, rfl⟩
    rw [← mvV_ok (g := oldN n0 ks H₁.length) (fun a b => newN_ok) hv] at rel
    obtain ⟨a', d', e', q⟩ := RelV.unren back rel
    cases q
    exact ⟨a, d', e', r⟩
  have hl2 := mv_locs back hl2 hl1
  have S2 := S1
  rw [← List.append_nil (μ0 ++ newMu ks (μ0 ++ (more0' ++ more1)))] at hin1 hl2 S2
  exact for_core (s := { s with heap := h0, toks := tk0 }) R S1.len okx room hn hl2 hc.ext hin1 S2 (PostF.next (s := s) P)
end Mine
end
section
open PySem PySem.W PyProof.Rows PySem.Calls PySem.Spec
namespace Mine
noncomputable def tT (i : Nat) : Stmt := ((forB (lawSt 14))[i]?).getD (.Pass default)
noncomputable def E14 : PySem.Expr := eltAt (eltAt (forI (lawSt 14)) 1) 1
noncomputable def sPattern : Str := "pattern"
noncomputable def sPlaces : Str := "places"
noncomputable def sCode : Str := "code"
noncomputable def sFound : Str := "found"
noncomputable def sIt : Str := "."
noncomputable def eorcR (t s : Str) : NE → PySem.Expr → Sg → Option (V × Sg) := fun ne e σ => onT (samePos (callP e) (callP E14)) (some (.ref (σ.H.length + 1), ⟨σ.H ++ [.range 0 ((t.length : Int) + 1), .slist (upL ((t.length : Int) + 1))], σ.ds, (ne = neZ (lU t s) ∧ e = E14 ∧ t.length ≤ 7) :: σ.cs⟩))
noncomputable def cfgR (t s : Str) : Cfg := cfgX ⟨eorcR t s, corc2, sorc1⟩ orcG noLo
theorem rg14 (t s : Str) (H : List O) : (runR cfgG 30).ev (neZ (lU t s)) (argA E14) ⟨H, [], []⟩ = some (.ref H.length, ⟨H ++ [.range 0 ((t.length : Int) + 1)], [], [t.length ≤ 1000]⟩) := by kernel_rfl
theorem nm14 (t s : Str) (H : List O) : evName (tabs orcG) (neZ (lU t s)) (fnNm E14) ⟨H, [], []⟩ = some (.bi 7, ⟨H, [], []⟩) := by kernel_rfl
theorem E14_eq : E14 = .Call (.Name (fnNm E14) (fnPos E14)) [argA E14] [] (callP E14) := by kernel_rfl
noncomputable def HL (x : Ctx) (n : Int) (w p1 p2 p3 : Str) (dl : List V) : List O := [.cell (some (.str w)), .cell (some (.ref 14)), .cell (some (.sint x.spot)), .cell (some (.sint x.base)), .cell (some (.ref 16)), .cell (some (.ref 17)), .cell (some (.str signsS)), .cell (some (.ref 25)),
  .list [.ref 9, .ref 11, .ref 13], .tuple [.str p1, .ref 10], .slist dl, .tuple [.str p2, .ref 12], .slist (upL ((x.t.length : Int) + 1)), .tuple [.str p3, .ref 10],
  .inst 756 [(nCodes, .ref 15), (nPlace, .sint x.base)], .slist x.cd, .list (strsV x.kd.l), .inst 713 [(sParent, .none), (sRows, .ref 18)],
  .dictI [(97, .ref 19), (98, .ref 20), (10, .ref 21), (32, .ref 22), (95, .ref 23), (46, .ref 24)], syn x.kd.k0, syn x.kd.k1, syn x.kd.k2, syn x.kd.k3, syn x.kd.k4, syn x.kd.k5, .list [.ref 26, .sint n], .slist x.c]
noncomputable def lL (t : Str) : LR := [(sText, .sstr t)]
noncomputable def keepT : List (Str × Bool) := [(sText, false)]
noncomputable def itL (it : It) : Option Nat := match it with
  | .list k i => onT (Nat.beq i 0) (some k)
  | _ => none
theorem itL_ok {it : It} {k : Nat} (h : itL it = some k) : it = .list k 0 := by
  cases it with
  | list k' i => exact onT_ h fun q h => Option.some.inj h ▸ Nat.eq_of_beq_eq_true q ▸ rfl
  | _ => exact noneNe h
noncomputable def it14R (x : Ctx) (n : Int) (w s : Str) : Option ((Nat × List O × LR) × List Prop) := ob (iterX (tabs orcG) (runR (cfgR x.t s) 30) (neZ (lU x.t s)) (forI (lawSt 14)) ⟨HIw x n (some (.str w)), [], []⟩) fun p => ob (itL p.1) fun k => ob (gc 8 p.2.H ((sIt, .ref k) :: keepL keepT (lU x.t s))) fun q => ob (uncons q.2.1) fun z => ob (refOf z.1.2) fun k' => some ((k', q.1, z.2), q.2.2 ++ p.2.cs)
noncomputable def nrL (x : Ctx) (dl : List V) : List Prop := [∀ v ∈ dl, NoRefV v, ∀ v ∈ upL ((x.t.length : Int) + 1), NoRefV v, ∀ v ∈ x.cd, NoRefV v, ∀ v ∈ x.c, NoRefV v]
noncomputable def c14 (t s : Str) : List Prop := [neZ (lU t s) = neZ (lU t s) ∧ E14 = E14 ∧ t.length ≤ 7]
theorem st13_0 (x : Ctx) (n : Int) : st13R x n "bol" = some ((HIw x n (some (.str "bol")), lU x.t "\\(?:^\\)"), nrC x) := by kernel_rfl
theorem it14_0 (x : Ctx) (n : Int) : it14R x n "bol" "\\(?:^\\)" = some ((8, HL x n "bol" "\\(?:^\\)" "\\(?:^\\)*" "\\(?:^\\)+" x.d0, lL x.t), nrL x x.d0 ++ c14 x.t "\\(?:^\\)") := by kernel_rfl
end Mine
end
section
open PySem PySem.W PyProof.Rows PySem.Calls PySem.Spec
namespace Mine
theorem ForB0_ok {D : Wd} {n n0 : Nat} {ne : NE} {t ite : PySem.Expr} {body : List Stmt} {pos : Pos} {kk : Nat} {it : It} {H H₁ H₂ : List O} {l2 l' : LR} {H' : List O} (oi : okIter ite = true) (first : ItT D n ne ite H it H₁) (low : itLow n0 it) (p : PickOk n0 H₁ ne.locs H₂ l2) (R : ForP D n ne t body n0 kk it H₂ l2 l' H') : StB D n n0 ne (.For t ite body [] pos) H l' H' := by
  intro fx dp un μ more0' m rest s Q hμ okx room hn hl hc S P
  refine wpAny_For (first fx fx.env dp un (μ ++ more0') m rest s _ okx room (.ofFn okx hn hl hc.ext) S fun I oI more1 h0 tk0 hin0 S0 => ?_) (folded_of oi _)
  have hl1 : LocsOk (μ ++ (more0' ++ more1)) m ne.locs := by
    have := hl.ext (more := more1)
    rwa [List.append_assoc] at this
  rw [List.append_assoc] at S0 hin0
  obtain ⟨mo, S1, hl2⟩ := p D fx μ _ m _ h0 hμ S0 hl1
  have hin1 : ItIn (μ ++ mo) it oI := hin0.low hμ low
  exact for_core (s := { s with heap := h0, toks := tk0 }) R hμ okx room hn hl2 hc hin1 S1 P
noncomputable def nGroups : Str := "groups"
noncomputable def nMarks : Str := "marks"
noncomputable def nFolds : Str := "folds"
noncomputable def tAt (w : Str) : O := .tuple [.str "at", .str w]
noncomputable def tDone : O := .tuple [.str "done"]
noncomputable def cG1 (w : Str) : List O := [.inst 385 [(nRows, .ref 29), (nGroups, .int 0), (nMarks, .int 0), (nFolds, .bool false)], .list [.ref 30, .ref 31], tAt w, tDone]
noncomputable def cG2 (w : Str) : List O := [.inst 385 [(nRows, .ref 29), (nGroups, .int 0), (nMarks, .int 1), (nFolds, .bool false)], .list [.ref 30, .ref 31, .ref 32, .ref 33, .ref 34, .ref 35], .tuple [.str "split", .int 1, .int 5], .tuple [.str "mark", .int 0], tAt w, .tuple [.str "progress", .int 0], .tuple [.str "jump", .int 0], tDone]
noncomputable def cG3 (w : Str) : List O := [.inst 385 [(nRows, .ref 29), (nGroups, .int 0), (nMarks, .int 1), (nFolds, .bool false)], .list [.ref 30, .ref 31, .ref 32, .ref 30, .ref 33, .ref 34, .ref 35], tAt w, .tuple [.str "split", .int 2, .int 6], .tuple [.str "mark", .int 0], .tuple [.str "progress", .int 0], .tuple [.str "jump", .int 1], tDone]
noncomputable def lP (t p : Str) (pl : Nat) : LR := [(sText, .sstr t), (sPattern, .str p), (sPlaces, .ref pl)]
noncomputable def keepV : List (Str × Bool) := [(sText, false), (sPlaces, false), (sCode, false), (sFound, false)]
noncomputable def lM (t : Str) (pl : Nat) : LR := [(sText, .sstr t), (sPlaces, .ref pl), (sFound, .ref 27), (sCode, .ref 28)]
noncomputable def lM1 (t : Str) (pl : Nat) (j : Int) : LR := lM t pl ++ [(sAt, .sint j)]
noncomputable def HM (x : Ctx) (n : Int) (w p1 p2 p3 : Str) (dl F : List V) (G : List O) : List O := HL x n w p1 p2 p3 dl ++ (.slist F :: G)
noncomputable def cmpR (x : Ctx) (n : Int) (w p1 p2 p3 : Str) (dl : List V) (p : Str) (pl : Nat) := stepG cfgG 60 27 keepV [(27, true)] (neZ (lP x.t p pl)) (tT 0) (HL x n w p1 p2 p3 dl) []
section
variable (x : Ctx) (n : Int) (w p1 p2 p3 : Str) (dl : List V)
theorem cm_0_0 : cmpR x n w p1 p2 p3 dl "\\(?:^\\)" 10 = some ((HM x n w p1 p2 p3 dl [] (cG1 "bol"), lM x.t 10), nrL x dl) := by kernel_rfl
theorem cm_0_1 : cmpR x n w p1 p2 p3 dl "\\(?:^\\)*" 12 = some ((HM x n w p1 p2 p3 dl [] (cG2 "bol"), lM x.t 12), nrL x dl ++ [-1000 ≤ (-1 - 0 : Int) ∧ (-1 - 0 : Int) ≤ 1000]) := by kernel_rfl
theorem cm_0_2 : cmpR x n w p1 p2 p3 dl "\\(?:^\\)+" 10 = some ((HM x n w p1 p2 p3 dl [] (cG3 "bol"), lM x.t 10), nrL x dl ++ [-1000 ≤ (-1 - 1 : Int) ∧ (-1 - 1 : Int) ≤ 1000]) := by kernel_rfl
end
end Mine
end
section
open PySem PySem.W PyProof.Rows PySem.Calls PySem.Spec
namespace Mine
noncomputable def sixL (x : Ctx) : Six := ⟨18, 19, 20, 21, 22, 23, 24, x.kd.k0, x.kd.k1, x.kd.k2, x.kd.k3, x.kd.k4, x.kd.k5⟩
noncomputable def hB (x : Ctx) (w : Str) (j : Int) : Bool := holdsB w (sixL x) x.cd x.base (x.base + x.spot) (x.base + j)
theorem hB_eq (x : Ctx) (w : Str) (i : Nat) : hB x w i = pW x w i := rfl
noncomputable def tuR (x : Ctx) (n : Int) (w p1 p2 p3 : Str) (dl F : List V) (G : List O) (pl : Nat) (j : Int) (ds : List Bool) := exG cfgG 60 27 keepV [] (neZ (lM1 x.t pl j)) (forB (tT 1)) (HM x n w p1 p2 p3 dl F G) ds
noncomputable def nrF (x : Ctx) (dl F : List V) : List Prop := nrL x dl ++ [∀ v ∈ F, NoRefV v]
noncomputable def tkL (x : Ctx) : Prop := TextOk x.cd (sixL x).ks
noncomputable def cHit (x : Ctx) (F : List V) (j : Int) : List Prop := [F.length + [V.sint j].length ≤ 1000, (!PyData.eqv (pairD (x.base + j, x.base + j)) (pairD (x.base + j, x.base + j))) = false, decide (x.base + j < 0) = false, decide (x.base + j < 0) = false, -1000 ≤ (0 + 1 : Int) ∧ (0 + 1 : Int) ≤ 1000]
noncomputable def cNo (F : List V) : List Prop := [F.length + ([] : List V).length ≤ 1000]
noncomputable def cPr (x : Ctx) (j : Int) : List Prop := [decide (x.base + j < x.base + j) = false]
noncomputable def cH (x : Ctx) (w : Str) (j : Int) (b : Bool) : List Prop := [hB x w j = b, tkL x]
section
variable (x : Ctx) (n : Int) (w p1 p2 p3 : Str) (dl F : List V) (j : Int)
theorem tu1_t : tuR x n w p1 p2 p3 dl F (cG1 w) 10 j [true, false, false, false] = some ((HM x n w p1 p2 p3 dl (F ++ [.sint j]) (cG1 w), lM x.t 10), nrF x dl (F ++ [.sint j]) ++ (cHit x F j ++ (cH x w j true ++ [x.t.length ≤ 1000]))) := by kernel_rfl
theorem tu1_f : tuR x n w p1 p2 p3 dl F (cG1 w) 10 j [false] = some ((HM x n w p1 p2 p3 dl (F ++ []) (cG1 w), lM x.t 10), nrF x dl (F ++ []) ++ (cNo F ++ (cH x w j false ++ [x.t.length ≤ 1000]))) := by kernel_rfl
theorem tu2_t : tuR x n w p1 p2 p3 dl F (cG2 w) 12 j [true, false, false, false, false] = some ((HM x n w p1 p2 p3 dl (F ++ [.sint j]) (cG2 w), lM x.t 12), nrF x dl (F ++ [.sint j]) ++ (cHit x F j ++ (cPr x j ++ (cH x w j true ++ [x.t.length ≤ 1000])))) := by kernel_rfl
theorem tu2_f : tuR x n w p1 p2 p3 dl F (cG2 w) 12 j [false, false, false, false] = some ((HM x n w p1 p2 p3 dl (F ++ [.sint j]) (cG2 w), lM x.t 12), nrF x dl (F ++ [.sint j]) ++ (cHit x F j ++ (cH x w j false ++ [x.t.length ≤ 1000]))) := by kernel_rfl
theorem tu3_t : tuR x n w p1 p2 p3 dl F (cG3 w) 10 j [true, true, false, false, false, false] = some ((HM x n w p1 p2 p3 dl (F ++ [.sint j]) (cG3 w), lM x.t 10), nrF x dl (F ++ [.sint j]) ++ (cHit x F j ++ (cPr x j ++ (cH x w j true ++ (cH x w j true ++ [x.t.length ≤ 1000]))))) := by kernel_rfl
theorem tu3_f : tuR x n w p1 p2 p3 dl F (cG3 w) 10 j [false] = some ((HM x n w p1 p2 p3 dl (F ++ []) (cG3 w), lM x.t 10), nrF x dl (F ++ []) ++ (cNo F ++ (cH x w j false ++ [x.t.length ≤ 1000]))) := by kernel_rfl
theorem at14 (pl : Nat) (H : List O) : asgE (runR cfgG 30) ((neZ (lM x.t pl)).withL (lM x.t pl)) (forT (tT 1)) (.int j) ⟨H, [], []⟩ = some (lM x.t pl ++ [(sAt, .int j)], ⟨H, [], []⟩) := by kernel_rfl
end
end Mine
end
section
open PySem PySem.W PyProof.Rows PySem.Calls PySem.Spec
namespace Mine
noncomputable def star2 : Prop := -1000 ≤ (-1 - 0 : Int) ∧ (-1 - 0 : Int) ≤ 1000
noncomputable def plus2 : Prop := -1000 ≤ (-1 - 1 : Int) ∧ (-1 - 1 : Int) ≤ 1000
section
variable (x : Ctx) (n : Int)
theorem st13_1 : st13R x n "eol" = some ((HIw x n (some (.str "eol")), lU x.t "\\(?:$\\)"), nrC x) := by kernel_rfl
theorem it14_1 : it14R x n "eol" "\\(?:$\\)" = some ((8, HL x n "eol" "\\(?:$\\)" "\\(?:$\\)*" "\\(?:$\\)+" x.d1, lL x.t), nrL x x.d1 ++ c14 x.t "\\(?:$\\)") := by kernel_rfl
theorem st13_2 : st13R x n "start" = some ((HIw x n (some (.str "start")), lU x.t "\\(?:\\`\\)"), nrC x) := by kernel_rfl
theorem it14_2 : it14R x n "start" "\\(?:\\`\\)" = some ((8, HL x n "start" "\\(?:\\`\\)" "\\(?:\\`\\)*" "\\(?:\\`\\)+" x.d2, lL x.t), nrL x x.d2 ++ c14 x.t "\\(?:\\`\\)") := by kernel_rfl
theorem st13_3 : st13R x n "end" = some ((HIw x n (some (.str "end")), lU x.t "\\(?:\\'\\)"), nrC x) := by kernel_rfl
theorem it14_3 : it14R x n "end" "\\(?:\\'\\)" = some ((8, HL x n "end" "\\(?:\\'\\)" "\\(?:\\'\\)*" "\\(?:\\'\\)+" x.d3, lL x.t), nrL x x.d3 ++ c14 x.t "\\(?:\\'\\)") := by kernel_rfl
theorem st13_4 : st13R x n "point" = some ((HIw x n (some (.str "point")), lU x.t "\\(?:\\=\\)"), nrC x) := by kernel_rfl
theorem it14_4 : it14R x n "point" "\\(?:\\=\\)" = some ((8, HL x n "point" "\\(?:\\=\\)" "\\(?:\\=\\)*" "\\(?:\\=\\)+" x.d4, lL x.t), nrL x x.d4 ++ c14 x.t "\\(?:\\=\\)") := by kernel_rfl
theorem st13_5 : st13R x n "bound" = some ((HIw x n (some (.str "bound")), lU x.t "\\(?:\\b\\)"), nrC x) := by kernel_rfl
theorem it14_5 : it14R x n "bound" "\\(?:\\b\\)" = some ((8, HL x n "bound" "\\(?:\\b\\)" "\\(?:\\b\\)*" "\\(?:\\b\\)+" x.d5, lL x.t), nrL x x.d5 ++ c14 x.t "\\(?:\\b\\)") := by kernel_rfl
theorem st13_6 : st13R x n "inside" = some ((HIw x n (some (.str "inside")), lU x.t "\\(?:\\B\\)"), nrC x) := by kernel_rfl
theorem it14_6 : it14R x n "inside" "\\(?:\\B\\)" = some ((8, HL x n "inside" "\\(?:\\B\\)" "\\(?:\\B\\)*" "\\(?:\\B\\)+" x.d6, lL x.t), nrL x x.d6 ++ c14 x.t "\\(?:\\B\\)") := by kernel_rfl
theorem st13_7 : st13R x n "wordstart" = some ((HIw x n (some (.str "wordstart")), lU x.t "\\(?:\\<\\)"), nrC x) := by kernel_rfl
theorem it14_7 : it14R x n "wordstart" "\\(?:\\<\\)" = some ((8, HL x n "wordstart" "\\(?:\\<\\)" "\\(?:\\<\\)*" "\\(?:\\<\\)+" x.d7, lL x.t), nrL x x.d7 ++ c14 x.t "\\(?:\\<\\)") := by kernel_rfl
theorem st13_8 : st13R x n "wordend" = some ((HIw x n (some (.str "wordend")), lU x.t "\\(?:\\>\\)"), nrC x) := by kernel_rfl
theorem it14_8 : it14R x n "wordend" "\\(?:\\>\\)" = some ((8, HL x n "wordend" "\\(?:\\>\\)" "\\(?:\\>\\)*" "\\(?:\\>\\)+" x.d8, lL x.t), nrL x x.d8 ++ c14 x.t "\\(?:\\>\\)") := by kernel_rfl
theorem st13_9 : st13R x n "symbolstart" = some ((HIw x n (some (.str "symbolstart")), lU x.t "\\(?:\\_<\\)"), nrC x) := by kernel_rfl
theorem it14_9 : it14R x n "symbolstart" "\\(?:\\_<\\)" = some ((8, HL x n "symbolstart" "\\(?:\\_<\\)" "\\(?:\\_<\\)*" "\\(?:\\_<\\)+" x.d9, lL x.t), nrL x x.d9 ++ c14 x.t "\\(?:\\_<\\)") := by kernel_rfl
theorem st13_10 : st13R x n "symbolend" = some ((HIw x n (some (.str "symbolend")), lU x.t "\\(?:\\_>\\)"), nrC x) := by kernel_rfl
theorem it14_10 : it14R x n "symbolend" "\\(?:\\_>\\)" = some ((8, HL x n "symbolend" "\\(?:\\_>\\)" "\\(?:\\_>\\)*" "\\(?:\\_>\\)+" x.d10, lL x.t), nrL x x.d10 ++ c14 x.t "\\(?:\\_>\\)") := by kernel_rfl
variable (w p1 p2 p3 : Str) (dl : List V)
theorem cm_1_0 : cmpR x n w p1 p2 p3 dl "\\(?:$\\)" 10 = some ((HM x n w p1 p2 p3 dl [] (cG1 "eol"), lM x.t 10), nrL x dl) := by kernel_rfl
theorem cm_1_1 : cmpR x n w p1 p2 p3 dl "\\(?:$\\)*" 12 = some ((HM x n w p1 p2 p3 dl [] (cG2 "eol"), lM x.t 12), nrL x dl ++ [star2]) := by kernel_rfl
theorem cm_1_2 : cmpR x n w p1 p2 p3 dl "\\(?:$\\)+" 10 = some ((HM x n w p1 p2 p3 dl [] (cG3 "eol"), lM x.t 10), nrL x dl ++ [plus2]) := by kernel_rfl
theorem cm_2_0 : cmpR x n w p1 p2 p3 dl "\\(?:\\`\\)" 10 = some ((HM x n w p1 p2 p3 dl [] (cG1 "start"), lM x.t 10), nrL x dl) := by kernel_rfl
theorem cm_2_1 : cmpR x n w p1 p2 p3 dl "\\(?:\\`\\)*" 12 = some ((HM x n w p1 p2 p3 dl [] (cG2 "start"), lM x.t 12), nrL x dl ++ [star2]) := by kernel_rfl
theorem cm_2_2 : cmpR x n w p1 p2 p3 dl "\\(?:\\`\\)+" 10 = some ((HM x n w p1 p2 p3 dl [] (cG3 "start"), lM x.t 10), nrL x dl ++ [plus2]) := by kernel_rfl
theorem cm_3_0 : cmpR x n w p1 p2 p3 dl "\\(?:\\'\\)" 10 = some ((HM x n w p1 p2 p3 dl [] (cG1 "end"), lM x.t 10), nrL x dl) := by kernel_rfl
theorem cm_3_1 : cmpR x n w p1 p2 p3 dl "\\(?:\\'\\)*" 12 = some ((HM x n w p1 p2 p3 dl [] (cG2 "end"), lM x.t 12), nrL x dl ++ [star2]) := by kernel_rfl
theorem cm_3_2 : cmpR x n w p1 p2 p3 dl "\\(?:\\'\\)+" 10 = some ((HM x n w p1 p2 p3 dl [] (cG3 "end"), lM x.t 10), nrL x dl ++ [plus2]) := by kernel_rfl
theorem cm_4_0 : cmpR x n w p1 p2 p3 dl "\\(?:\\=\\)" 10 = some ((HM x n w p1 p2 p3 dl [] (cG1 "point"), lM x.t 10), nrL x dl) := by kernel_rfl
theorem cm_4_1 : cmpR x n w p1 p2 p3 dl "\\(?:\\=\\)*" 12 = some ((HM x n w p1 p2 p3 dl [] (cG2 "point"), lM x.t 12), nrL x dl ++ [star2]) := by kernel_rfl
theorem cm_4_2 : cmpR x n w p1 p2 p3 dl "\\(?:\\=\\)+" 10 = some ((HM x n w p1 p2 p3 dl [] (cG3 "point"), lM x.t 10), nrL x dl ++ [plus2]) := by kernel_rfl
theorem cm_5_0 : cmpR x n w p1 p2 p3 dl "\\(?:\\b\\)" 10 = some ((HM x n w p1 p2 p3 dl [] (cG1 "bound"), lM x.t 10), nrL x dl) := by kernel_rfl
theorem cm_5_1 : cmpR x n w p1 p2 p3 dl "\\(?:\\b\\)*" 12 = some ((HM x n w p1 p2 p3 dl [] (cG2 "bound"), lM x.t 12), nrL x dl ++ [star2]) := by kernel_rfl
theorem cm_5_2 : cmpR x n w p1 p2 p3 dl "\\(?:\\b\\)+" 10 = some ((HM x n w p1 p2 p3 dl [] (cG3 "bound"), lM x.t 10), nrL x dl ++ [plus2]) := by kernel_rfl
theorem cm_6_0 : cmpR x n w p1 p2 p3 dl "\\(?:\\B\\)" 10 = some ((HM x n w p1 p2 p3 dl [] (cG1 "inside"), lM x.t 10), nrL x dl) := by kernel_rfl
theorem cm_6_1 : cmpR x n w p1 p2 p3 dl "\\(?:\\B\\)*" 12 = some ((HM x n w p1 p2 p3 dl [] (cG2 "inside"), lM x.t 12), nrL x dl ++ [star2]) := by kernel_rfl
theorem cm_6_2 : cmpR x n w p1 p2 p3 dl "\\(?:\\B\\)+" 10 = some ((HM x n w p1 p2 p3 dl [] (cG3 "inside"), lM x.t 10), nrL x dl ++ [plus2]) := by kernel_rfl
theorem cm_7_0 : cmpR x n w p1 p2 p3 dl "\\(?:\\<\\)" 10 = some ((HM x n w p1 p2 p3 dl [] (cG1 "wordstart"), lM x.t 10), nrL x dl) := by kernel_rfl
theorem cm_7_1 : cmpR x n w p1 p2 p3 dl "\\(?:\\<\\)*" 12 = some ((HM x n w p1 p2 p3 dl [] (cG2 "wordstart"), lM x.t 12), nrL x dl ++ [star2]) := by kernel_rfl
theorem cm_7_2 : cmpR x n w p1 p2 p3 dl "\\(?:\\<\\)+" 10 = some ((HM x n w p1 p2 p3 dl [] (cG3 "wordstart"), lM x.t 10), nrL x dl ++ [plus2]) := by kernel_rfl
theorem cm_8_0 : cmpR x n w p1 p2 p3 dl "\\(?:\\>\\)" 10 = some ((HM x n w p1 p2 p3 dl [] (cG1 "wordend"), lM x.t 10), nrL x dl) := by kernel_rfl
theorem cm_8_1 : cmpR x n w p1 p2 p3 dl "\\(?:\\>\\)*" 12 = some ((HM x n w p1 p2 p3 dl [] (cG2 "wordend"), lM x.t 12), nrL x dl ++ [star2]) := by kernel_rfl
theorem cm_8_2 : cmpR x n w p1 p2 p3 dl "\\(?:\\>\\)+" 10 = some ((HM x n w p1 p2 p3 dl [] (cG3 "wordend"), lM x.t 10), nrL x dl ++ [plus2]) := by kernel_rfl
theorem cm_9_0 : cmpR x n w p1 p2 p3 dl "\\(?:\\_<\\)" 10 = some ((HM x n w p1 p2 p3 dl [] (cG1 "symbolstart"), lM x.t 10), nrL x dl) := by kernel_rfl
theorem cm_9_1 : cmpR x n w p1 p2 p3 dl "\\(?:\\_<\\)*" 12 = some ((HM x n w p1 p2 p3 dl [] (cG2 "symbolstart"), lM x.t 12), nrL x dl ++ [star2]) := by kernel_rfl
theorem cm_9_2 : cmpR x n w p1 p2 p3 dl "\\(?:\\_<\\)+" 10 = some ((HM x n w p1 p2 p3 dl [] (cG3 "symbolstart"), lM x.t 10), nrL x dl ++ [plus2]) := by kernel_rfl
theorem cm_10_0 : cmpR x n w p1 p2 p3 dl "\\(?:\\_>\\)" 10 = some ((HM x n w p1 p2 p3 dl [] (cG1 "symbolend"), lM x.t 10), nrL x dl) := by kernel_rfl
theorem cm_10_1 : cmpR x n w p1 p2 p3 dl "\\(?:\\_>\\)*" 12 = some ((HM x n w p1 p2 p3 dl [] (cG2 "symbolend"), lM x.t 12), nrL x dl ++ [star2]) := by kernel_rfl
theorem cm_10_2 : cmpR x n w p1 p2 p3 dl "\\(?:\\_>\\)+" 10 = some ((HM x n w p1 p2 p3 dl [] (cG3 "symbolend"), lM x.t 10), nrL x dl ++ [plus2]) := by kernel_rfl
end
end Mine
end
section
open PySem PySem.W PyProof.Rows PySem.Calls PySem.Spec
namespace Mine
section
variable (x : Ctx) (n : Int) (w p1 p2 p3 : Str) (dl F : List V)
theorem itI1 : iterX (tabs orcG) (runR cfgG 30) (neZ (lM x.t 10)) (forI (tT 1)) ⟨HM x n w p1 p2 p3 dl [] (cG1 w), [], []⟩ = some (.range 0 ((x.t.length : Int) + 1).toNat, ⟨HM x n w p1 p2 p3 dl [] (cG1 w) ++ [.range 0 ((x.t.length : Int) + 1)], [], [-1000 ≤ (x.t.length : Int) + 1 ∧ (x.t.length : Int) + 1 ≤ 1000, x.t.length ≤ 1000]⟩) := by kernel_rfl
theorem itI2 : iterX (tabs orcG) (runR cfgG 30) (neZ (lM x.t 12)) (forI (tT 1)) ⟨HM x n w p1 p2 p3 dl [] (cG2 w), [], []⟩ = some (.range 0 ((x.t.length : Int) + 1).toNat, ⟨HM x n w p1 p2 p3 dl [] (cG2 w) ++ [.range 0 ((x.t.length : Int) + 1)], [], [-1000 ≤ (x.t.length : Int) + 1 ∧ (x.t.length : Int) + 1 ≤ 1000, x.t.length ≤ 1000]⟩) := by kernel_rfl
theorem itI3 : iterX (tabs orcG) (runR cfgG 30) (neZ (lM x.t 10)) (forI (tT 1)) ⟨HM x n w p1 p2 p3 dl [] (cG3 w), [], []⟩ = some (.range 0 ((x.t.length : Int) + 1).toNat, ⟨HM x n w p1 p2 p3 dl [] (cG3 w) ++ [.range 0 ((x.t.length : Int) + 1)], [], [-1000 ≤ (x.t.length : Int) + 1 ∧ (x.t.length : Int) + 1 ≤ 1000, x.t.length ≤ 1000]⟩) := by kernel_rfl
theorem gcI1 : gc 27 (HM x n w p1 p2 p3 dl [] (cG1 w) ++ [.range 0 ((x.t.length : Int) + 1)]) (lM x.t 10) = some (HM x n w p1 p2 p3 dl [] (cG1 w), lM x.t 10, nrF x dl []) := by kernel_rfl
theorem gcI2 : gc 27 (HM x n w p1 p2 p3 dl [] (cG2 w) ++ [.range 0 ((x.t.length : Int) + 1)]) (lM x.t 12) = some (HM x n w p1 p2 p3 dl [] (cG2 w), lM x.t 12, nrF x dl []) := by kernel_rfl
theorem gcI3 : gc 27 (HM x n w p1 p2 p3 dl [] (cG3 w) ++ [.range 0 ((x.t.length : Int) + 1)]) (lM x.t 10) = some (HM x n w p1 p2 p3 dl [] (cG3 w), lM x.t 10, nrF x dl []) := by kernel_rfl
theorem ifI10 (G : List O) : (runR cfgG 30).tr (neZ (lM x.t 10)) (ifT (tT 2)) ⟨HM x n w p1 p2 p3 dl F G, [false], []⟩ = some (false, ⟨HM x n w p1 p2 p3 dl F G, [], ifC F dl⟩) := by kernel_rfl
theorem ifI12 (G : List O) : (runR cfgG 30).tr (neZ (lM x.t 12)) (ifT (tT 2)) ⟨HM x n w p1 p2 p3 dl F G, [false], []⟩ = some (false, ⟨HM x n w p1 p2 p3 dl F G, [], ifC F (upL ((x.t.length : Int) + 1))⟩) := by kernel_rfl
theorem gcE1 : gc 27 (HM x n w p1 p2 p3 dl F (cG1 w)) (keepL keepT (lM x.t 10)) = some (HL x n w p1 p2 p3 dl, lL x.t, nrL x dl) := by kernel_rfl
theorem gcE2 : gc 27 (HM x n w p1 p2 p3 dl F (cG2 w)) (keepL keepT (lM x.t 12)) = some (HL x n w p1 p2 p3 dl, lL x.t, nrL x dl) := by kernel_rfl
theorem gcE3 : gc 27 (HM x n w p1 p2 p3 dl F (cG3 w)) (keepL keepT (lM x.t 10)) = some (HL x n w p1 p2 p3 dl, lL x.t, nrL x dl) := by kernel_rfl
end
theorem upL_sint (b : Int) : ∀ v ∈ upL b, isSint v := fun v hv => by
  obtain ⟨i, _, rfl⟩ := List.mem_map.mp hv; trivial
theorem upL_passed (m : Nat) : upL ((m : Int) + 1) = passed (fun _ => true) (m + 1) := by
  unfold upL passed
  rw [show ((m : Int) + 1).toNat = m + 1 by (first | decide | lia | omega), List.filter_eq_self.mpr (fun _ _ => rfl)]
theorem nrL_ok {x : Ctx} {dl : List V} (h : CtxOk x) (hd : ∀ v ∈ dl, isSint v) : ∀ p ∈ nrL x dl, p := all_cons (sint_all hd) (all_cons (sint_all (upL_sint _)) (all_cons (sint_all h.cd) (all_cons (sint_all h.c) all_nil)))
theorem nrF_ok {x : Ctx} {dl F : List V} (h : CtxOk x) (hd : ∀ v ∈ dl, isSint v) (hF : ∀ v ∈ F, isSint v) : ∀ p ∈ nrF x dl F, p := all_append (nrL_ok h hd) (all_cons (sint_all hF) all_nil)
theorem passed_len (p : Nat → Bool) (m : Nat) : (passed p m).length ≤ m := by
  unfold passed
  rw [List.length_map]
  have := List.length_filter_le p (List.range m)
  rw [List.length_range] at this
  exact this
theorem snoc_sint {F : List V} {j : Int} (hF : ∀ v ∈ F, isSint v) : ∀ v ∈ F ++ [V.sint j], isSint v := fun v hv => by
  rcases List.mem_append.mp hv with a | a
  · exact hF v a
  · rw [List.mem_singleton.mp a]; trivial
theorem cHit_ok {x : Ctx} {F : List V} {i : Nat} (hl : F.length ≤ 900) (hb : 0 ≤ x.base) : ∀ p ∈ cHit x F i, p := by
  have e : PyData.eqv (pairD (x.base + i, x.base + i)) (pairD (x.base + i, x.base + i)) = true := SeqAt.eqv_refl _ rfl
  refine all_cons (by simp; (first | decide | lia | omega)) (all_cons (by rw [e]; rfl) (all_cons (decide_eq_false (by (first | decide | lia | omega))) (all_cons (decide_eq_false (by (first | decide | lia | omega))) (all_cons ⟨by (first | decide | lia | omega), by (first | decide | lia | omega)⟩ all_nil))))
section
variable {D : Wd} (hK : KOk D.K)
include hK
theorem placesLoop {x : Ctx} {n : Int} {w p1 p2 p3 : Str} {dl : List V} {G : List O} {pl : Nat} {q : Nat → Bool} (h : DueOk x) (hd : ∀ v ∈ dl, isSint v)
    (hit : iterX (tabs orcG) (runR cfgG 30) (neZ (lM x.t pl)) (forI (tT 1)) ⟨HM x n w p1 p2 p3 dl [] G, [], []⟩ = some (.range 0 ((x.t.length : Int) + 1).toNat, ⟨HM x n w p1 p2 p3 dl [] G ++ [.range 0 ((x.t.length : Int) + 1)], [], [-1000 ≤ (x.t.length : Int) + 1 ∧ (x.t.length : Int) + 1 ≤ 1000, x.t.length ≤ 1000]⟩))
    (hgc : gc 27 (HM x n w p1 p2 p3 dl [] G ++ [.range 0 ((x.t.length : Int) + 1)]) (lM x.t pl) = some (HM x n w p1 p2 p3 dl [] G, lM x.t pl, nrF x dl []))
    (turn : ∀ i, i < x.t.length + 1 → Blk D 340 27 (neZ (lM1 x.t pl i)) (forB (tT 1)) (HM x n w p1 p2 p3 dl (passed q i) G) (lM x.t pl) (HM x n w p1 p2 p3 dl (passed q (i + 1)) G)) :
    StB D 340 27 (neZ (lM x.t pl)) (tT 1) (HM x n w p1 p2 p3 dl [] G) (lM x.t pl) (HM x n w p1 p2 p3 dl (passed q (x.t.length + 1)) G) := by
  have hc : CfgOk D 270 cfgG := cfgG_ok hK
  have tl := h.ok.len
  have it := (iterX_post (n := 300) (tabs_ok hK orcG) (runR_ok hc 30) _ hit).2 (okc ⟨by (first | decide | lia | omega), by (first | decide | lia | omega)⟩ (okc (by (first | decide | lia | omega)) okn))
  have e : tT 1 = .For (forT (tT 1)) (forI (tT 1)) (forB (tT 1)) [] (forP (tT 1)) := by kernel_rfl
  have fp := forP_range (D := D) (n := 340) (n0 := 27) (ne := neZ (lM x.t pl)) (t := forT (tT 1)) (body := forB (tT 1)) (N := x.t.length + 1) (by kernel_rfl) (fun i => HM x n w p1 p2 p3 dl (passed q i) G) (lM x.t pl) (fun i => lM1 x.t pl i)
    (fun i hi => AsgT.up (by (first | decide | lia | omega)) (AsgT.weak (l := lM x.t pl ++ [(sAt, .int i)]) .last ((asgE_ok (D := D) (n := 300) (runR_ok hc 30) (at14 x i pl _)).2 okn)))
    (fun i hi => turn i hi)
  rw [e]
  have eN : ((x.t.length : Int) + 1).toNat = x.t.length + 1 := by (first | decide | lia | omega)
  rw [eN] at it
  exact ForB0_ok (by kernel_rfl) (ItT.up (by (first | decide | lia | omega)) it) trivial (gc_ok hgc (nrF_ok h.ok hd (fun v hv => nomatch hv))) fp
theorem turnHit {x : Ctx} {n : Int} {w p1 p2 p3 : Str} {dl : List V} {G : List O} {pl : Nat} {q : Nat → Bool} {i : Nat} {ds : List Bool} {tl : List Prop} (h : DueOk x) (hb : 0 ≤ x.base) (hd : ∀ v ∈ dl, isSint v) (hi : i < x.t.length + 1) (hq : q i = true)
    (e : tuR x n w p1 p2 p3 dl (passed q i) G pl i ds = some ((HM x n w p1 p2 p3 dl (passed q i ++ [.sint i]) G, lM x.t pl), nrF x dl (passed q i ++ [.sint i]) ++ (cHit x (passed q i) i ++ tl))) (ok : ∀ p ∈ tl, p) :
    Blk D 340 27 (neZ (lM1 x.t pl i)) (forB (tT 1)) (HM x n w p1 p2 p3 dl (passed q i) G) (lM x.t pl) (HM x n w p1 p2 p3 dl (passed q (i + 1)) G) := by
  have hc : CfgOk D 270 cfgG := cfgG_ok hK
  have l1 := passed_len q i
  have tl7 := h.ok.len
  rw [passed_succ, hq]
  exact Blk.up (by (first | decide | lia | omega)) (exG_ok hc e (all_append (nrF_ok h.ok hd (snoc_sint (passed_sint _ _))) (all_append (cHit_ok (by (first | decide | lia | omega)) hb) ok)))
theorem turnNo {x : Ctx} {n : Int} {w p1 p2 p3 : Str} {dl : List V} {G : List O} {pl : Nat} {q : Nat → Bool} {i : Nat} {ds : List Bool} {tl : List Prop} (h : DueOk x) (hd : ∀ v ∈ dl, isSint v) (hi : i < x.t.length + 1) (hq : q i = false)
    (e : tuR x n w p1 p2 p3 dl (passed q i) G pl i ds = some ((HM x n w p1 p2 p3 dl (passed q i ++ []) G, lM x.t pl), nrF x dl (passed q i ++ []) ++ (cNo (passed q i) ++ tl))) (ok : ∀ p ∈ tl, p) :
    Blk D 340 27 (neZ (lM1 x.t pl i)) (forB (tT 1)) (HM x n w p1 p2 p3 dl (passed q i) G) (lM x.t pl) (HM x n w p1 p2 p3 dl (passed q (i + 1)) G) := by
  have hc : CfgOk D 270 cfgG := cfgG_ok hK
  have l1 := passed_len q i
  have tl7 := h.ok.len
  rw [passed_succ, hq]
  exact Blk.up (by (first | decide | lia | omega)) (exG_ok hc e (all_append (nrF_ok h.ok hd (by rw [List.append_nil]; exact passed_sint _ _)) (all_append (all_cons (by simp; (first | decide | lia | omega)) all_nil) ok)))
theorem cH_ok {x : Ctx} {w : Str} {i : Nat} {b : Bool} (h : DueOk x) (hb : pW x w i = b) : ∀ p ∈ cH x w i b, p := all_cons ((hB_eq x w i).trans hb) (all_cons h.text all_nil)
theorem loop1 {x : Ctx} {n : Int} {w p1 p2 p3 : Str} {dl : List V} (h : DueOk x) (hb : 0 ≤ x.base) (hd : ∀ v ∈ dl, isSint v) : StB D 340 27 (neZ (lM x.t 10)) (tT 1) (HM x n w p1 p2 p3 dl [] (cG1 w)) (lM x.t 10) (HM x n w p1 p2 p3 dl (passed (pW x w) (x.t.length + 1)) (cG1 w)) := by
  have tl7 := h.ok.len
  refine placesLoop hK h hd (itI1 x n w p1 p2 p3 dl) (gcI1 x n w p1 p2 p3 dl) fun i hi => ?_
  cases hq : pW x w i with
  | true => exact turnHit hK h hb hd hi hq (tu1_t x n w p1 p2 p3 dl _ i) (all_append (cH_ok hK h hq) (all_cons (by (first | decide | lia | omega)) all_nil))
  | false => exact turnNo hK h hd hi hq (tu1_f x n w p1 p2 p3 dl _ i) (all_append (cH_ok hK h hq) (all_cons (by (first | decide | lia | omega)) all_nil))
theorem loop2 {x : Ctx} {n : Int} {w p1 p2 p3 : Str} {dl : List V} (h : DueOk x) (hb : 0 ≤ x.base) (hd : ∀ v ∈ dl, isSint v) : StB D 340 27 (neZ (lM x.t 12)) (tT 1) (HM x n w p1 p2 p3 dl [] (cG2 w)) (lM x.t 12) (HM x n w p1 p2 p3 dl (passed (fun _ => true) (x.t.length + 1)) (cG2 w)) := by
  have tl7 := h.ok.len
  refine placesLoop hK h hd (itI2 x n w p1 p2 p3 dl) (gcI2 x n w p1 p2 p3 dl) fun i hi => ?_
  cases hq : pW x w i with
  | true => exact turnHit (q := fun _ => true) hK h hb hd hi rfl (tu2_t x n w p1 p2 p3 dl _ i) (all_append (all_cons (decide_eq_false (by (first | decide | lia | omega))) all_nil) (all_append (cH_ok hK h hq) (all_cons (by (first | decide | lia | omega)) all_nil)))
  | false => exact turnHit (q := fun _ => true) hK h hb hd hi rfl (tu2_f x n w p1 p2 p3 dl _ i) (all_append (cH_ok hK h hq) (all_cons (by (first | decide | lia | omega)) all_nil))
theorem loop3 {x : Ctx} {n : Int} {w p1 p2 p3 : Str} {dl : List V} (h : DueOk x) (hb : 0 ≤ x.base) (hd : ∀ v ∈ dl, isSint v) : StB D 340 27 (neZ (lM x.t 10)) (tT 1) (HM x n w p1 p2 p3 dl [] (cG3 w)) (lM x.t 10) (HM x n w p1 p2 p3 dl (passed (pW x w) (x.t.length + 1)) (cG3 w)) := by
  have tl7 := h.ok.len
  refine placesLoop hK h hd (itI3 x n w p1 p2 p3 dl) (gcI3 x n w p1 p2 p3 dl) fun i hi => ?_
  cases hq : pW x w i with
  | true => exact turnHit hK h hb hd hi hq (tu3_t x n w p1 p2 p3 dl _ i) (all_append (all_cons (decide_eq_false (by (first | decide | lia | omega))) all_nil) (all_append (cH_ok hK h hq) (all_append (cH_ok hK h hq) (all_cons (by (first | decide | lia | omega)) all_nil))))
  | false => exact turnNo hK h hd hi hq (tu3_f x n w p1 p2 p3 dl _ i) (all_append (cH_ok hK h hq) (all_cons (by (first | decide | lia | omega)) all_nil))
theorem outer {x : Ctx} {n : Int} {w p1 p2 p3 : Str} {dl F : List V} {G : List O} {p : Str} {pl : Nat} {cs : List Prop} (h : DueOk x) (hd : ∀ v ∈ dl, isSint v)
    (hcm : cmpR x n w p1 p2 p3 dl p pl = some ((HM x n w p1 p2 p3 dl [] G, lM x.t pl), nrL x dl ++ cs)) (hcs : ∀ p ∈ cs, p) (lp : StB D 340 27 (neZ (lM x.t pl)) (tT 1) (HM x n w p1 p2 p3 dl [] G) (lM x.t pl) (HM x n w p1 p2 p3 dl F G))
    (hif : TrT D 300 (neZ (lM x.t pl)) (ifT (tT 2)) (HM x n w p1 p2 p3 dl F G) false (HM x n w p1 p2 p3 dl F G)) (hge : gc 27 (HM x n w p1 p2 p3 dl F G) (keepL keepT (lM x.t pl)) = some (HL x n w p1 p2 p3 dl, lL x.t, nrL x dl)) :
    Blk D 340 27 (neZ (lP x.t p pl)) (forB (lawSt 14)) (HL x n w p1 p2 p3 dl) (lL x.t) (HL x n w p1 p2 p3 dl) := by
  have hc : CfgOk D 270 cfgG := cfgG_ok hK
  have a : Stp D 340 27 (neZ (lP x.t p pl)) (tT 0) (HL x n w p1 p2 p3 dl) (lM x.t pl) (HM x n w p1 p2 p3 dl [] G) := Stp.up (by (first | decide | lia | omega)) (stepG_ok hc hcm (all_append (nrL_ok h.ok hd) hcs))
  have e2 : tT 2 = .If (ifT (tT 2)) (ifB (tT 2)) [] (ifP (tT 2)) := by kernel_rfl
  have b : StT D 340 (neZ (lM x.t pl)) (tT 2) (HM x n w p1 p2 p3 dl F G) .next (lM x.t pl) (HM x n w p1 p2 p3 dl F G) := by
    rw [e2]
    exact StT.up (by (first | decide | lia | omega)) (StT.ifF (pos := ifP (tT 2)) hif)
  have eb : forB (lawSt 14) = [tT 0, tT 1, tT 2] := by kernel_rfl
  have ex : ExB D 340 (neZ (lP x.t p pl)) 27 [tT 0, tT 1, tT 2] (HL x n w p1 p2 p3 dl) .next (lM x.t pl) (HM x n w p1 p2 p3 dl F G) := ExB.step a (ExB.consB lp (ExB.cons b PickOk.refl ExB.nil))
  rw [eb]
  exact ⟨lM x.t pl, _, ExB.toT (H := HL x n w p1 p2 p3 dl) ex, (PickOk.locsW keepL_w).trans (gc_ok hge (nrL_ok h.ok hd))⟩
end
end Mine
end
section
open PySem PySem.W PyProof.Rows PySem.Calls PySem.Spec
namespace Mine
section
variable (x : Ctx) (n : Int) (w p1 p2 p3 : Str) (dl : List V)
theorem as9 : asgE (runR cfgG 30) ((neZ (lL x.t)).withL (lL x.t)) (forT (lawSt 14)) (.ref 9) ⟨HL x n w p1 p2 p3 dl, [], []⟩ = some (lP x.t p1 10, ⟨HL x n w p1 p2 p3 dl, [], []⟩) := by kernel_rfl
theorem as11' : asgE (runR cfgG 30) ((neZ (lL x.t)).withL (lL x.t)) (forT (lawSt 14)) (.ref 11) ⟨HL x n w p1 p2 p3 dl, [], []⟩ = some (lP x.t p2 12, ⟨HL x n w p1 p2 p3 dl, [], []⟩) := by kernel_rfl
theorem as13 : asgE (runR cfgG 30) ((neZ (lL x.t)).withL (lL x.t)) (forT (lawSt 14)) (.ref 13) ⟨HL x n w p1 p2 p3 dl, [], []⟩ = some (lP x.t p3 10, ⟨HL x n w p1 p2 p3 dl, [], []⟩) := by kernel_rfl
theorem ret15 : (runR cfgG 30).exs (neZ (lL x.t)) [lawSt 15] ⟨HL x n w p1 p2 p3 dl, [], []⟩ = some ((.ret (.bool true), lL x.t), ⟨HL x n w p1 p2 p3 dl, [], []⟩) := by kernel_rfl
end
noncomputable def lPi (t p1 p2 p3 : Str) : Nat → LR
  | 0 => lP t p1 10
  | 1 => lP t p2 12
  | _ => lP t p3 10
section
variable {D : Wd} (hK : KOk D.K)
include hK
theorem eorcR_ok {n : Nat} (hn : 300 ≤ n) (t s : Str) : EOrcOk D n (eorcR t s) := by
  have hc : CfgOk D 270 cfgG := cfgG_ok hK
  refine fun ne e σ v σ' h => (.onT fun _ => .pure ⟨⟨[_], rfl⟩, fun ok => ?_⟩ : Post (eorcR t s ne e σ) fun p => σ.le p.2 ∧ (p.2.ok → EvT D n ne e σ.H p.1 p.2.H)) _ h
  obtain ⟨h1, h2, h3⟩ := ok _ (.head _)
  rw [h1, h2, E14_eq]
  exact EvT.up hn (ev_listrange (T := tabs orcG) (tabs_ok hK _).gl (nm14 t s σ.H) (by kernel_rfl) (run_ev hc (rg14 t s σ.H) (okc (Nat.le_trans h3 (by decide)) okn)) ⟨by lia, by lia⟩)
theorem cfgR_ok (t s : Str) : CfgOk D 300 (cfgR t s) := cfgX_ok hK (fun k => ⟨eorcR_ok hK (by (first | decide | lia | omega)) t s, corc2_ok (by (first | decide | lia | omega)), sorc1_ok _⟩) (fun k => orcG_ok hK (by (first | decide | lia | omega))) fun k => noLo_ok
theorem it14_post {x : Ctx} {n : Int} {w s : Str} {l' : LR} {H' : List O} {kk : Nat} : Post (it14R x n w s) fun z => (∀ p ∈ z.2, p) → ForP D 400 (neZ (lU x.t s)) (forT (lawSt 14)) (forB (lawSt 14)) z.1.2.1.length kk (.list z.1.1 0) z.1.2.1 z.1.2.2 l' H' → StB D 400 8 (neZ (lU x.t s)) (lawSt 14) (HIw x n (some (.str w))) l' H' := by
  refine .ob fun p hit => .ob fun k hk => .ob fun q hg => .ob fun z hz => .ob fun k' hk' => .pure fun ok fp => ?_
  have itt := (iterX_post (n := 330) (tabs_ok hK orcG) (runR_ok (cfgR_ok hK x.t s) 30) _ hit).2 fun c hp => ok c (List.mem_append_right _ hp)
  rw [itL_ok hk] at itt
  rw [show lawSt 14 = .For (forT (lawSt 14)) (forI (lawSt 14)) (forB (lawSt 14)) [] (forP (lawSt 14)) by kernel_rfl]
  have hg : gcA 8 p.2.H ((sIt, .ref k) :: keepL keepT (lU x.t s)) (reach 8 p.2.H 900 (refsP ((sIt, .ref k) :: keepL keepT (lU x.t s)) ++ refsH 8 p.2.H) []) = some (q.1, q.2.1, q.2.2) := hg
  rw [show q.2.1 = (z.1.1, .ref k') :: z.2 from (uncons_ok hz).trans (congrArg (fun v => (z.1.1, v) :: z.2) (refOf_ok hk'))] at hg
  exact ForPB_ok (by kernel_rfl) (ItT.up (by decide) itt) keepL_w hg (fun c hp => ok c (List.mem_append_left _ hp)) fp
theorem tail {x : Ctx} {n : Int} {w s s2 s3 : Str} {d : List V} (h : DueOk x) (hb : 0 ≤ x.base) (hd : ∀ v ∈ d, isSint v) (hde : d = passed (pW x w) (x.t.length + 1))
    (r13 : st13R x n w = some ((HIw x n (some (.str w)), lU x.t s), nrC x)) (r14 : it14R x n w s = some ((8, HL x n w s s2 s3 d, lL x.t), nrL x d ++ c14 x.t s))
    (c0 : ∀ (w' p1 p2 p3 : Str) (dl : List V), cmpR x n w' p1 p2 p3 dl s 10 = some ((HM x n w' p1 p2 p3 dl [] (cG1 w), lM x.t 10), nrL x dl))
    (c1 : ∀ (w' p1 p2 p3 : Str) (dl : List V), cmpR x n w' p1 p2 p3 dl s2 12 = some ((HM x n w' p1 p2 p3 dl [] (cG2 w), lM x.t 12), nrL x dl ++ [star2]))
    (c2 : ∀ (w' p1 p2 p3 : Str) (dl : List V), cmpR x n w' p1 p2 p3 dl s3 10 = some ((HM x n w' p1 p2 p3 dl [] (cG3 w), lM x.t 10), nrL x dl ++ [plus2])) :
    ∃ l' H', ExB D 400 (neZ (lJ x.t)) 8 [lawSt 13, lawSt 14, lawSt 15] (HJ x n (some (.str w))) (.ret (.bool true)) l' H' := by
  have hc : CfgOk D 270 cfgG := cfgG_ok hK
  have tl7 := h.ok.len
  have iv : ∀ {q : Nat → Bool} {m : Nat}, ∀ v ∈ passed q m, isIntV v := fun {q m} => isInt_all (passed_sint q m)
  have a13 : Stp D 400 8 (neZ (lJ x.t)) (lawSt 13) (HJ x n (some (.str w))) (lU x.t s) (HIw x n (some (.str w))) := Stp.up (by (first | decide | lia | omega)) (stepG_ok hc r13 (nrC_ok h.ok))
  have st2 : star2 := ⟨by (first | decide | lia | omega), by (first | decide | lia | omega)⟩
  have pl2 : plus2 := ⟨by (first | decide | lia | omega), by (first | decide | lia | omega)⟩
  have t1 : Blk D 400 27 (neZ (lP x.t s 10)) (forB (lawSt 14)) (HL x n w s s2 s3 d) (lL x.t) (HL x n w s s2 s3 d) :=
    Blk.up (by (first | decide | lia | omega)) (outer hK h hd (cs := []) (F := passed (pW x w) (x.t.length + 1)) (by rw [List.append_nil]; exact c0 w s s2 s3 d) all_nil (loop1 hK h hb hd) (run_tr hc (ifI10 x n w s s2 s3 d _ _) (okc (by rw [hde, decide_eq_true rfl]; rfl) (okc iv (okc (isInt_all hd) okn)))) (gcE1 x n w s s2 s3 d _))
  have t2 : Blk D 400 27 (neZ (lP x.t s2 12)) (forB (lawSt 14)) (HL x n w s s2 s3 d) (lL x.t) (HL x n w s s2 s3 d) :=
    Blk.up (by (first | decide | lia | omega)) (outer hK h hd (cs := [star2]) (F := passed (fun _ => true) (x.t.length + 1)) (c1 w s s2 s3 d) (all_cons st2 all_nil) (loop2 hK h hb hd) (run_tr hc (ifI12 x n w s s2 s3 d _ _) (okc (by rw [upL_passed, decide_eq_true rfl]; rfl) (okc iv (okc (isInt_all (upL_sint _)) okn)))) (gcE2 x n w s s2 s3 d _))
  have t3 : Blk D 400 27 (neZ (lP x.t s3 10)) (forB (lawSt 14)) (HL x n w s s2 s3 d) (lL x.t) (HL x n w s s2 s3 d) :=
    Blk.up (by (first | decide | lia | omega)) (outer hK h hd (cs := [plus2]) (F := passed (pW x w) (x.t.length + 1)) (c2 w s s2 s3 d) (all_cons pl2 all_nil) (loop3 hK h hb hd) (run_tr hc (ifI10 x n w s s2 s3 d _ _) (okc (by rw [hde, decide_eq_true rfl]; rfl) (okc iv (okc (isInt_all hd) okn)))) (gcE3 x n w s s2 s3 d _))
  have fp := forP_list (D := D) (n := 400) (n0 := 27) (ne := neZ (lU x.t s)) (t := forT (lawSt 14)) (body := forB (lawSt 14)) (k := 8) (L := [.ref 9, .ref 11, .ref 13]) (by (first | decide | lia | omega)) (fun i => by kernel_rfl) (fun _ => HL x n w s s2 s3 d) (fun _ => HL x n w s s2 s3 d) (lL x.t) (lPi x.t s s2 s3) (fun i hi => rfl)
    (fun i v hv => by
      match i, hv with
      | 0, hv => cases hv; exact AsgT.up (by (first | decide | lia | omega)) ((asgE_ok (D := D) (n := 300) (runR_ok hc 30) (as9 x n w s s2 s3 d)).2 okn)
      | 1, hv => cases hv; exact AsgT.up (by (first | decide | lia | omega)) ((asgE_ok (D := D) (n := 300) (runR_ok hc 30) (as11' x n w s s2 s3 d)).2 okn)
      | 2, hv => cases hv; exact AsgT.up (by (first | decide | lia | omega)) ((asgE_ok (D := D) (n := 300) (runR_ok hc 30) (as13 x n w s s2 s3 d)).2 okn))
    (fun i hi => by
      match i, hi with
      | 0, _ => exact t1
      | 1, _ => exact t2
      | 2, _ => exact t3)
  have a14 : StB D 400 8 (neZ (lU x.t s)) (lawSt 14) (HIw x n (some (.str w))) (lL x.t) (HL x n w s s2 s3 d) :=
    it14_post hK _ r14 (all_append (nrL_ok h.ok hd) (all_cons ⟨rfl, rfl, tl7⟩ all_nil)) fp
  have a15 : ExB D 400 (neZ (lL x.t)) 8 [lawSt 15] (HL x n w s s2 s3 d) (.ret (.bool true)) (lL x.t) (HL x n w s s2 s3 d) := ExB.ofT (ExT.up (by (first | decide | lia | omega)) (run_ex hc (ret15 x n w s s2 s3 d) okn))
  exact ⟨_, _, ExB.step a13 (ExB.consB a14 a15)⟩
theorem s12 {x : Ctx} {n : Int} (h : DueOk x) (h0 : 0 ≤ n) (h1 : n ≤ 900) : ∃ j : Nat, j < 11 ∧ Stp D 400 8 (neZ (lJ x.t)) (lawSt 12) (HJ x n (some (.str "wordstart"))) (lJ x.t) (HJ x (n + 1) (some (.str (sortedN.getD j emptyS)))) := by
  have hc : CfgOk D 270 cfgG := cfgG_ok hK
  have r := drawV_range (l := x.c) (c := n) (many := 11) (by decide)
  refine ⟨(drawV x.c n 11).toNat, by (first | decide | lia | omega), ?_⟩
  have a := stepG_ok hc (run12 x n) (all_append (nrC_ok h.ok) (all_cons ⟨r.1, r.2, Nat.le_of_ble_eq_true rfl⟩ (all_cons (deckOk h.ok.clen h.ok.c h0 (by (first | decide | lia | omega)) (by decide)) all_nil)))
  exact Stp.up (by (first | decide | lia | omega)) (a.then (PickOk.conv (d := 0) (o := .cell (some (.sstr (sortedN.getD (drawV x.c n 11).toNat emptyS)))) (o' := .cell (some (.str (sortedN.getD (drawV x.c n 11).toNat emptyS)))) rfl fun D μ led p z => by
    obtain ⟨e, o, r, h1, h2, h3⟩ := z
    refine ⟨e, o, r, h1, h2, ?_⟩
    cases r with
    | none => exact h3.elim
    | some r => exact h3))
theorem ends {x : Ctx} {n : Int} (h : DueOk x) (hb : 0 ≤ x.base) {j : Nat} (hj : j < 11) : ∃ l' H', ExB D 400 (neZ (lJ x.t)) 8 [lawSt 13, lawSt 14, lawSt 15] (HJ x (n + 1) (some (.str (sortedN.getD j emptyS)))) (.ret (.bool true)) l' H' := by
  refine lt_11 (P := fun j => ∃ l' H', ExB D 400 (neZ (lJ x.t)) 8 [lawSt 13, lawSt 14, lawSt 15] (HJ x (n + 1) (some (.str (sortedN.getD j emptyS)))) (.ret (.bool true)) l' H') ?_ ?_ ?_ ?_ ?_ ?_ ?_ ?_ ?_ ?_ ?_ hj
  · exact tail hK h hb h.ok.d0 (h.due ("bol", x.d0) (List.mem_of_getElem? (i := 0) rfl)) (st13_0 x (n + 1)) (it14_0 x (n + 1)) (cm_0_0 x (n + 1)) (cm_0_1 x (n + 1)) (cm_0_2 x (n + 1))
  · exact tail hK h hb h.ok.d5 (h.due ("bound", x.d5) (List.mem_of_getElem? (i := 5) rfl)) (st13_5 x (n + 1)) (it14_5 x (n + 1)) (cm_5_0 x (n + 1)) (cm_5_1 x (n + 1)) (cm_5_2 x (n + 1))
  · exact tail hK h hb h.ok.d3 (h.due ("end", x.d3) (List.mem_of_getElem? (i := 3) rfl)) (st13_3 x (n + 1)) (it14_3 x (n + 1)) (cm_3_0 x (n + 1)) (cm_3_1 x (n + 1)) (cm_3_2 x (n + 1))
  · exact tail hK h hb h.ok.d1 (h.due ("eol", x.d1) (List.mem_of_getElem? (i := 1) rfl)) (st13_1 x (n + 1)) (it14_1 x (n + 1)) (cm_1_0 x (n + 1)) (cm_1_1 x (n + 1)) (cm_1_2 x (n + 1))
  · exact tail hK h hb h.ok.d6 (h.due ("inside", x.d6) (List.mem_of_getElem? (i := 6) rfl)) (st13_6 x (n + 1)) (it14_6 x (n + 1)) (cm_6_0 x (n + 1)) (cm_6_1 x (n + 1)) (cm_6_2 x (n + 1))
  · exact tail hK h hb h.ok.d4 (h.due ("point", x.d4) (List.mem_of_getElem? (i := 4) rfl)) (st13_4 x (n + 1)) (it14_4 x (n + 1)) (cm_4_0 x (n + 1)) (cm_4_1 x (n + 1)) (cm_4_2 x (n + 1))
  · exact tail hK h hb h.ok.d2 (h.due ("start", x.d2) (List.mem_of_getElem? (i := 2) rfl)) (st13_2 x (n + 1)) (it14_2 x (n + 1)) (cm_2_0 x (n + 1)) (cm_2_1 x (n + 1)) (cm_2_2 x (n + 1))
  · exact tail hK h hb h.ok.d10 (h.due ("symbolend", x.d10) (List.mem_of_getElem? (i := 10) rfl)) (st13_10 x (n + 1)) (it14_10 x (n + 1)) (cm_10_0 x (n + 1)) (cm_10_1 x (n + 1)) (cm_10_2 x (n + 1))
  · exact tail hK h hb h.ok.d9 (h.due ("symbolstart", x.d9) (List.mem_of_getElem? (i := 9) rfl)) (st13_9 x (n + 1)) (it14_9 x (n + 1)) (cm_9_0 x (n + 1)) (cm_9_1 x (n + 1)) (cm_9_2 x (n + 1))
  · exact tail hK h hb h.ok.d8 (h.due ("wordend", x.d8) (List.mem_of_getElem? (i := 8) rfl)) (st13_8 x (n + 1)) (it14_8 x (n + 1)) (cm_8_0 x (n + 1)) (cm_8_1 x (n + 1)) (cm_8_2 x (n + 1))
  · exact tail hK h hb h.ok.d7 (h.due ("wordstart", x.d7) (List.mem_of_getElem? (i := 7) rfl)) (st13_7 x (n + 1)) (it14_7 x (n + 1)) (cm_7_0 x (n + 1)) (cm_7_1 x (n + 1)) (cm_7_2 x (n + 1))
noncomputable abbrev RetT (D : Wd) (l : LR) (ss : List Stmt) (H : List O) : Prop := ∃ l' H', ExB D 400 (neZ l) 8 ss H (.ret (.bool true)) l' H'
omit hK in
theorem RetT.step {l l₂ : LR} {st : Stmt} {ss : List Stmt} {H G : List O} {n : Nat} (h : n ≤ 400) (s : Stp D n 8 (neZ l) st H l₂ G) (r : RetT D l₂ ss G) : RetT D l (st :: ss) H := by
  obtain ⟨l', H', e⟩ := r
  exact ⟨l', H', ExB.step (Stp.up h s) e⟩
theorem ret12 {x : Ctx} {n : Int} (h : DueOk x) (hb : 0 ≤ x.base) (h0 : 0 ≤ n) (h1 : n ≤ 900) : RetT D (lJ x.t) [lawSt 12, lawSt 13, lawSt 14, lawSt 15] (HJ x n (some (.str "wordstart"))) := by
  obtain ⟨j, hj, a12⟩ := s12 hK h h0 h1
  exact RetT.step (Nat.le_refl _) a12 (ends hK h hb hj)
theorem ret7 {c : List V} {kd : Kd} {ps : List Int} {base spot n : Int} (hkd : IsKd kd) (hp : ∀ j ∈ ps, 0 ≤ j ∧ j < 6) (hl : ps.length ≤ 7) (cl : c.length ≤ 30) (cs : ∀ v ∈ c, isSint v) (hb : 0 ≤ base) (h0 : 0 ≤ n) (h1 : n ≤ 900) : RetT D (lG ps) [lawSt 7, lawSt 8, lawSt 9, lawSt 10, lawSt 11, lawSt 12, lawSt 13, lawSt 14, lawSt 15] (HH c n kd ps base spot) := by
  have due := due_ok (c := c) (kd := kd) (ps := ps) (base := base) (spot := spot) hkd hp hl cl cs
  have r12 := ret12 hK (n := n) due hb h0 h1
  have r11 := RetT.step (by (first | decide | lia | omega)) (s11 hK (n := n) due) r12
  have r10 := RetT.step (by (first | decide | lia | omega)) (s10 hK (n := n) due.ok) r11
  have r9 := RetT.step (by (first | decide | lia | omega)) (s9 hK (n := n) due.ok) r10
  have r8 := RetT.step (by (first | decide | lia | omega)) (s8 hK (n := n) due.ok) r9
  exact RetT.step (by (first | decide | lia | omega)) (s7 hK (n := n) (kd := kd) (ps := ps) (base := base) (spot := spot) cl cs hl) r8
theorem ret5 {c : List V} {kd : Kd} {ps : List Int} {n : Int} (hkd : IsKd kd) (hp : ∀ j ∈ ps, 0 ≤ j ∧ j < 6) (hl : ps.length ≤ 7) (cl : c.length ≤ 30) (cs : ∀ v ∈ c, isSint v) (h0 : 0 ≤ n) (h1 : n ≤ 800) : RetT D lF [lawSt 5, lawSt 6, lawSt 7, lawSt 8, lawSt 9, lawSt 10, lawSt 11, lawSt 12, lawSt 13, lawSt 14, lawSt 15] (HF c n kd ps) := by
  have ht := text_len ps
  have hb := (drawV_range (l := c) (c := n) (many := 3) (by decide)).1
  have r7 := ret7 hK (n := n + 1 + 1) (spot := drawV c (n + 1) ((textS ps).length + 2)) hkd hp hl cl cs hb (by (first | decide | lia | omega)) (by (first | decide | lia | omega))
  have r6 := RetT.step (by (first | decide | lia | omega)) (s6 hK (kd := kd) (ps := ps) cl cs h0 (by (first | decide | lia | omega)) (by (first | decide | lia | omega))) r7
  exact RetT.step (by (first | decide | lia | omega)) (s5 hK (kd := kd) cs hp hl) r6
theorem ret3 {c : List V} {kd : Kd} (hkd : IsKd kd) (cl : c.length ≤ 30) (cs : ∀ v ∈ c, isSint v) : RetT D [] [lawSt 3, lawSt 4, lawSt 5, lawSt 6, lawSt 7, lawSt 8, lawSt 9, lawSt 10, lawSt 11, lawSt 12, lawSt 13, lawSt 14, lawSt 15] (HD c (0 + 1) kd) := by
  obtain ⟨k, hk7, a4⟩ := s4 hK (kd := kd) (n := 0 + 1) cl cs (by (first | decide | lia | omega)) (by (first | decide | lia | omega))
  have r5 := ret5 hK (c := c) (kd := kd) (ps := picks c (0 + 1 + 1) k) (n := 0 + 1 + 1 + (k : Int)) hkd picks_range (by rw [picks_len]; exact hk7) cl cs (by (first | decide | lia | omega)) (by (first | decide | lia | omega))
  exact RetT.step (by (first | decide | lia | omega)) (s3 hK hkd cs) (RetT.step (by (first | decide | lia | omega)) a4 r5)
theorem law_body {a : Addr} {o : Obj} {its : List Value} {ns : List Int} {nn : Nat} (hk : (a, o) ∈ D.ex) (hoc : o.cls = .type "list") (hod : o.data = .seq its.toArray nn) (hI : IntsAre its ns) (hl : ns.length ≤ 1000) : RetT D (lA a) F784.body HA := by
  have bd : F784.body = [lawSt 0, lawSt 1, lawSt 2, lawSt 3, lawSt 4, lawSt 5, lawSt 6, lawSt 7, lawSt 8, lawSt 9, lawSt 10, lawSt 11, lawSt 12, lawSt 13, lawSt 14, lawSt 15] := by kernel_rfl
  have cs := deckC_sint ns
  have cl := deckC_len ns
  obtain ⟨kd, hkd, a2⟩ := s2 hK (n := 0) cs (deckOk cl cs (by (first | decide | lia | omega)) (by (first | decide | lia | omega)) (by decide))
  rw [bd]
  exact RetT.step (by (first | decide | lia | omega)) (s0 hK hk hoc hod hI hl) (RetT.step (by (first | decide | lia | omega)) (s1 hK cs) (RetT.step (by (first | decide | lia | omega)) a2 (ret3 hK hkd cl cs)))
end
end Mine
end
section
open PySem PySem.W PyProof.Rows PySem.Calls PySem.Spec
namespace Mine
theorem join {prog : Program} {w : World} {s₁ : Shared} {loose : List Str} {mean : ExcName → Option Value} {mg mb m cm : Str → Option Value} {fa L a : Addr} {cd : Value} {h₁ : Heap} {tk : Nat} {cells : Ledger} {its : List Value} {ns : List Int} {Q : Flow → Shared → Prop} {E : Value → Shared → Prop}
    {K : Frag} {VW : Program} (X : KOk K) (KX : K.In s₁.heap) (T : Top VW loose mean mg mb s₁.heap) (K0 : Below callerA s₁.heap [] s₁.heap) (hL : s₁.heap.IsList a its.toArray) (hI : IntsAre its ns) (hlen : ns.length ≤ 1000)
    (F : Fr s₁.heap L h₁ m) (hm : m sScript = some (.ref a)) (N : News s₁.heap L h₁ cells) (Y : CellsAre cm (cellsFrom (L + 1) F784.scope.names []) cells) (c0 : cm (Str.ofString "deck") = none) (c1 : cm (Str.ofString "signs") = none) (c2 : cm (Str.ofString "table") = none) (c3 : cm (Str.ofString "kind_of") = none) (c4 : cm (Str.ofString "base") = none) (c5 : cm (Str.ofString "spot") = none) (c6 : cm (Str.ofString "view") = none) (c7 : cm (Str.ofString "word") = none)
    (hQ : ∀ h' tk', (∀ b o, s₁.heap.get? b = some o → h'.get? b = some o) → Q (.ret (.bool true)) { s₁ with heap := h', toks := tk' }) :
    wpAny (model prog w) (callerA.deeper (envOfC F784.qual F784.scope L fa cd)) (execs F784.body (envOfC F784.qual F784.scope L fa cd)) Q E { s₁ with heap := h₁, toks := tk } := by
  obtain ⟨o, hg, hoc, nn, hod⟩ := hL
  have hcs : cellsOf F784.scope.names [] = [Str.ofString "word", Str.ofString "view", Str.ofString "spot", Str.ofString "base", Str.ofString "kind_of", Str.ofString "table", Str.ofString "signs", Str.ofString "deck"] := by kernel_rfl
  have hcm : ∀ c ∈ cellsFrom (L + 1) F784.scope.names [], cm c.1 = none := fun c hc => by
    have hx : c.1 ∈ cellsOf F784.scope.names [] := cellsFrom_names' F784.scope.names (L + 1) [] ▸ List.mem_map_of_mem hc
    rw [hcs] at hx
    exact all_mem (P := fun x => cm x = none) (.cons c7 (.cons c6 (.cons c5 (.cons c4 (.cons c3 (.cons c2 (.cons c1 (.cons c0 .nil)))))))) hx
  let D : Wd := ⟨prog, w, K, VW, loose, mean, mg, mb, [(a, o)]⟩
  let fx : Fx := ⟨F784.qual, F784.scope, L, fa, cd, cellsFrom (L + 1) F784.scope.names [], [], callerA.guards, s₁.heap, callerA, s₁.heap⟩
  have okx : fx.Ok D := ⟨K0, KX, T, S784.kind, fun p hp => by rw [List.mem_singleton.mp hp]; exact hg⟩
  obtain ⟨l', H', e⟩ := law_body (D := D) X (a := a) (o := o) (its := its) (ns := ns) (nn := nn) (.head _) hoc hod hI hlen
  have ge := cellsFrom_ge (b := L + 1) F784.scope.names (k := L + 1) (acc := []) (Nat.le_refl _) (fun c hc => nomatch hc) List.nodup_nil
  have cg := cells_grow (prog := prog) (w := w) (rest := []) (μ := []) (H := []) (led := []) (f := fun _ => none) Y F (by rw [List.nil_append, List.append_nil]; exact N) ge.2 (fun c hc p hp => nomatch hp) List.nodup_nil .nil .nil (fun c hc => by rw [hcm c hc]; trivial)
  obtain ⟨led', N₂, nd₂, al₂, ap₂⟩ := cg
  rw [List.nil_append] at al₂ ap₂
  have hnm : (cellsFrom (L + 1) F784.scope.names []).map (·.1) = cellsOf F784.scope.names [] := cellsFrom_names' _ _ _
  have hH : ([] ++ (cellsFrom (L + 1) F784.scope.names []).map fun c => O.cell none) = HA := by
    have : (cellsFrom (L + 1) F784.scope.names []).map (fun c => O.cell none) = ((cellsFrom (L + 1) F784.scope.names []).map (·.1)).map (fun _ => O.cell none) := by rw [List.map_map]; rfl
    rw [List.nil_append, this, hnm]
    kernel_rfl
  rw [hH] at al₂
  have S : StD D fx ((cellsFrom (L + 1) F784.scope.names []).map fun c => (c.2, c.2)) HA m [] h₁ := ⟨F, ap₂, led', N₂, nd₂, al₂⟩
  have hlenμ : ((cellsFrom (L + 1) F784.scope.names []).map fun c => (c.2, c.2)).length = 8 := S.len
  have room : Room 400 (1 + claimMargin + 1) 7 := ⟨by decide +kernel, by decide +kernel⟩
  refine wpAny_mono (E := NoE) (e fx (1 + claimMargin + 1) 7 ((cellsFrom (L + 1) F784.scope.names []).map fun c => (c.2, c.2)) [] m [] { s₁ with heap := h₁, toks := tk } Q hlenμ okx room rfl ?_ ?_ (by rw [List.append_nil]; exact S) ?_) (fun _ _ z => z) fun _ _ z => z.elim
  · intro x v hv
    refine lkS_ (p := (sScript, V.val a)) (r := []) hv (fun z e => ?_) fun _ e => noneNe e
    cases (show sScript = x from codeE z)
    cases (show V.val a = v from e)
    exact ⟨_, hm, rfl⟩
  · intro x k hk
    have hk' : lkS (numCells ((cellsFrom (L + 1) F784.scope.names []).map (·.1)) 0) (code x) = some k := by rw [hnm]; exact hk
    obtain ⟨h3, c, h4, h6⟩ := numCells_lk hk'
    refine ⟨(c.2, c.2), ?_, h6⟩
    rw [List.getElem?_map, show k = k - 0 from rfl, h4]; rfl
  · intro f more h' tk' m' hf hl S'
    obtain ⟨r, rfl, hr⟩ := hf
    have hr' : r = .bool true := hr
    subst hr'
    exact hQ h' tk' S'.fr.keep
end Mine
end
section
open PySem PySem.W PyProof.Rows
set_option maxHeartbeats 8000000
namespace Mine
noncomputable def all.tw11113120797386210373 : Unit := ()
noncomputable def all.tw16232008947845578158 : Unit := ()
noncomputable def all.tw8670540905479144303 : Unit := ()
noncomputable def all.tw14853665493834295914 : Unit := ()
noncomputable def all.tw4156143147478942181 : Unit := ()
noncomputable def all.tw16918018141585867527 : Unit := ()
noncomputable def all.tw1885294564261713141 : Unit := ()
noncomputable def all.tw348646849450171363 : Unit := ()
noncomputable def all.tw6946980451890315270 : Unit := ()
noncomputable def all.tw16773635481313006432 : Unit := ()
noncomputable def all.tw4966493494406246481 : Unit := ()
noncomputable def all.tw18003279642469066050 : Unit := ()
noncomputable def all.tw13431290835526063760 : Unit := ()
noncomputable def all.tw2114198189418970486 : Unit := ()
noncomputable def all.tw16447172759540358135 : Unit := ()
noncomputable def all.tw8312510263607220780 : Unit := ()
noncomputable def all.tw18124843273605240230 : Unit := ()
noncomputable def all.tw2333626107976518443 : Unit := ()
noncomputable def all.tw4797826422191193900 : Unit := ()
noncomputable def all.tw2531900633515307401 : Unit := ()
noncomputable def all.tw4965207536615798822 : Unit := ()
noncomputable def all.tw11785345923209364544 : Unit := ()
noncomputable def all.tw10323370424266482742 : Unit := ()
noncomputable def all.tw10034031380863371641 : Unit := ()
noncomputable def all.tw13027540482245733427 : Unit := ()
noncomputable def all.tw16444899576201249432 : Unit := ()
noncomputable def all.tw17485024515217194642 : Unit := ()
noncomputable def all.tw11961059351148515626 : Unit := ()
noncomputable def all.tw6648324312943424196 : Unit := ()
noncomputable def all.tw17711473739705145481 : Unit := ()
noncomputable def all.tw12230215609453844091 : Unit := ()
noncomputable def all.tw13233751423148406618 : Unit := ()
noncomputable def all.tw5313006154424263818 : Unit := ()
noncomputable def all.tw17172520439673271139 : Unit := ()
noncomputable def all.tw6900727353157573822 : Unit := ()
noncomputable def all.tw2286941943676669977 : Unit := ()
noncomputable def all.tw8166991320080258738 : Unit := ()
noncomputable def all.tw15081044799308232511 : Unit := ()
noncomputable def all.tw11776277695535270532 : Unit := ()
noncomputable def all.tw7852760074147458260 : Unit := ()
noncomputable def all.tw583233376362171505 : Unit := ()
noncomputable def all.tw17084071853196174921 : Unit := ()
noncomputable def all.tw11639333894188339638 : Unit := ()
noncomputable def all.tw15145278206449419223 : Unit := ()
noncomputable def all.tw9107108562952019494 : Unit := ()
noncomputable def all.tw15471726915170369524 : Unit := ()
noncomputable def all.tw4452577129215390026 : Unit := ()
noncomputable def all.tw16589642234179565116 : Unit := ()
noncomputable def all.tw13752750167953387420 : Unit := ()
noncomputable def all.tw5208475258020913449 : Unit := ()
noncomputable def all.tw11686026206685797588 : Unit := ()
noncomputable def all.tw13270532327374429287 : Unit := ()
noncomputable def all.tw13100642850353945058 : Unit := ()
noncomputable def all.tw3832104259330054055 : Unit := ()
noncomputable def all.tw3737605839529819480 : Unit := ()
noncomputable def all.tw11990357761064164650 : Unit := ()
noncomputable def all.tw4128963183011607505 : Unit := ()
noncomputable def all.tw17606682298306965290 : Unit := ()
noncomputable def all.tw10393596885623623503 : Unit := ()
noncomputable def all.tw8630030210275731936 : Unit := ()
noncomputable def all.tw17590515576409907731 : Unit := ()
noncomputable def all.tw8968355716326206664 : Unit := ()
noncomputable def all.tw16785538882571980543 : Unit := ()
noncomputable def all.tw11448872678469705673 : Unit := ()
noncomputable def all.tw15612066896164977022 : Unit := ()
noncomputable def all.tw16985871876413990642 : Unit := ()
noncomputable def all.tw6794366774042380578 : Unit := ()
noncomputable def all.tw80721349811472939 : Unit := ()
noncomputable def all.tw4831860214510110302 : Unit := ()
noncomputable def all.tw15393178847056368160 : Unit := ()
noncomputable def all.tw13928513891281363954 : Unit := ()
noncomputable def all.tw14929683446248860828 : Unit := ()
noncomputable def all.tw9764797518255496921 : Unit := ()
noncomputable def all.tw8219367837509555709 : Unit := ()
noncomputable def all.tw17740187900682377756 : Unit := ()
noncomputable def all.tw10732082874576297989 : Unit := ()
noncomputable def all.tw6873541528101158377 : Unit := ()
noncomputable def all.tw3448833343719912132 : Unit := ()
noncomputable def all.tw16339503202031470875 : Unit := ()
noncomputable def all.tw6611227686217864527 : Unit := ()
noncomputable def all.tw5061037604254504937 : Unit := ()
noncomputable def all.tw16720883766928916882 : Unit := ()
noncomputable def all.tw9351243305548057156 : Unit := ()
noncomputable def all.tw12267468486907949403 : Unit := ()
noncomputable def all.tw13358604424828501309 : Unit := ()
noncomputable def all.tw9648519034531077515 : Unit := ()
noncomputable def all.tw10312239555926195531 : Unit := ()
noncomputable def all.tw928717787569047865 : Unit := ()
noncomputable def all.tw6575127235232548739 : Unit := ()
noncomputable def all.tw2144533961223786307 : Unit := ()
noncomputable def all.tw388659698854152015 : Unit := ()
noncomputable def all.tw11489409643829403841 : Unit := ()
noncomputable def all.tw8901488873923373992 : Unit := ()
noncomputable def all.tw9327985806830046984 : Unit := ()
noncomputable def all.tw11378520881680533043 : Unit := ()
noncomputable def all.tw16188822405700688499 : Unit := ()
noncomputable def all.tw4801688742562958406 : Unit := ()
noncomputable def all.tw2640984773516398845 : Unit := ()
noncomputable def all.tw397829171339713761 : Unit := ()
noncomputable def all.tw4515135292898193881 : Unit := ()
noncomputable def all.tw7654578318931278690 : Unit := ()
noncomputable def all.tw4241227540667249002 : Unit := ()
noncomputable def all.tw10156424416328317940 : Unit := ()
noncomputable def all.tw12139988101201813748 : Unit := ()
noncomputable def all.tw17983917188297756147 : Unit := ()
noncomputable def all.tw4154878040674242839 : Unit := ()
noncomputable def all.tw7879675257394976597 : Unit := ()
noncomputable def all.tw12885334096101347146 : Unit := ()
noncomputable def all.tw281770217567036725 : Unit := ()
noncomputable def all.tw200952908838891698 : Unit := ()
noncomputable def all.tw16636436465759865564 : Unit := ()
noncomputable def all.tw4881293885237924411 : Unit := ()
noncomputable def all.tw5750698986362780913 : Unit := ()
noncomputable def all.tw6393532188824929214 : Unit := ()
noncomputable def all.tw2442836877315861853 : Unit := ()
noncomputable def all.tw7867681300357518899 : Unit := ()
noncomputable def all.tw7000523462626781010 : Unit := ()
noncomputable def all.tw8121427672614705931 : Unit := ()
noncomputable def all.tw8543756510809834644 : Unit := ()
noncomputable def all.tw8433301184055030320 : Unit := ()
noncomputable def all.tw9305783451064888827 : Unit := ()
noncomputable def all.tw13657395267715391174 : Unit := ()
noncomputable def all.tw8734355875116408662 : Unit := ()
noncomputable def all.tw10316705163991428254 : Unit := ()
noncomputable def all.tw1848905817553068399 : Unit := ()
noncomputable def all.tw15105651507014581045 : Unit := ()
noncomputable def all.tw9099960808112739735 : Unit := ()
noncomputable def all.tw9833964599435250050 : Unit := ()
noncomputable def all.tw1963270939698246839 : Unit := ()
noncomputable def all.tw5418180891519050015 : Unit := ()
noncomputable def all.tw13033708050593749705 : Unit := ()
noncomputable def all.tw10905599463122924065 : Unit := ()
noncomputable def all.tw9131408386013701786 : Unit := ()
noncomputable def all.tw6635096433462372448 : Unit := ()
noncomputable def all.tw17848959056065924907 : Unit := ()
noncomputable def all.tw12588910511511068231 : Unit := ()
noncomputable def all.tw11112267310362752236 : Unit := ()
noncomputable def all.tw6674347012523051200 : Unit := ()
noncomputable def all.tw7205895575636617080 : Unit := ()
noncomputable def all.tw4544264296663088324 : Unit := ()
noncomputable def all.tw13135058765949404771 : Unit := ()
noncomputable def all.tw4498182102138418894 : Unit := ()
noncomputable def all.tw13830746773910301732 : Unit := ()
noncomputable def all.tw13215351417096909983 : Unit := ()
noncomputable def all.tw7130465076275759521 : Unit := ()
noncomputable def all.tw11925040711228000680 : Unit := ()
noncomputable def all.tw8689057759390064058 : Unit := ()
noncomputable def all.tw10636018739910865072 : Unit := ()
noncomputable def all.tw10923070005692675132 : Unit := ()
noncomputable def all.tw4765306392115962693 : Unit := ()
noncomputable def all.tw14331890051309236264 : Unit := ()
noncomputable def all.tw8865166961438382494 : Unit := ()
noncomputable def all.tw8007103614756019116 : Unit := ()
noncomputable def all.tw7779009951696393383 : Unit := ()
noncomputable def all.tw18109914907201487196 : Unit := ()
noncomputable def all.tw8600759836979252552 : Unit := ()
noncomputable def all.tw12254430714555821875 : Unit := ()
noncomputable def all.tw3783704252341326843 : Unit := ()
noncomputable def all.tw16573077582942348641 : Unit := ()
noncomputable def all.tw6147308635103535561 : Unit := ()
noncomputable def all.tw11223482586740685078 : Unit := ()
noncomputable def all.tw6686757251022233349 : Unit := ()
noncomputable def all.tw4716985721665009587 : Unit := ()
noncomputable def all.tw9700507354520375304 : Unit := ()
noncomputable def all.tw8322597137079436277 : Unit := ()
noncomputable def all.tw2627396739876165418 : Unit := ()
noncomputable def all.tw9397017562490477109 : Unit := ()
noncomputable def all.tw1216898108829112853 : Unit := ()
noncomputable def all.tw888978351763286717 : Unit := ()
noncomputable def all.tw14420213329864412023 : Unit := ()
noncomputable def all.tw15888951733556516598 : Unit := ()
noncomputable def all.tw7500927594516628699 : Unit := ()
noncomputable def all.tw7347661181068853997 : Unit := ()
noncomputable def all.tw5689438673786977140 : Unit := ()
noncomputable def all.tw17899929404969355535 : Unit := ()
noncomputable def all.tw2789530282997487095 : Unit := ()
noncomputable def all.tw16176830815697697194 : Unit := ()
noncomputable def all.tw5467823448642483752 : Unit := ()
noncomputable def all.tw885046472334632136 : Unit := ()
noncomputable def all.tw4337979737013644494 : Unit := ()
noncomputable def all.tw3303383408093726480 : Unit := ()
noncomputable def all.tw16857469709051444266 : Unit := ()
noncomputable def all.tw4302931102428780990 : Unit := ()
noncomputable def all.tw2366535826993118143 : Unit := ()
noncomputable def all.tw11563076530477234726 : Unit := ()
noncomputable def all.tw15670805634923389295 : Unit := ()
noncomputable def all.tw3780143478300131934 : Unit := ()
noncomputable def all.tw5213130599944360801 : Unit := ()
noncomputable def all.tw44263415142174766 : Unit := ()
noncomputable def all.tw10697019674602590866 : Unit := ()
noncomputable def all.tw13172097402568735304 : Unit := ()
noncomputable def all.tw9360291227372296245 : Unit := ()
noncomputable def all.tw13338274903956020161 : Unit := ()
noncomputable def all.tw4030748809424043240 : Unit := ()
noncomputable def all.tw5113878289174177000 : Unit := ()
noncomputable def all.tw11242623580682996947 : Unit := ()
noncomputable def all.tw10227051316576381974 : Unit := ()
noncomputable def all.tw11116879363250112325 : Unit := ()
noncomputable def all.tw17447734377096445370 : Unit := ()
noncomputable def all.tw8096221689764760052 : Unit := ()
noncomputable def all.tw15059917014629022394 : Unit := ()
noncomputable def all.tw15331906349341453337 : Unit := ()
noncomputable def all.tw15391004526167926365 : Unit := ()
noncomputable def all.tw2479237469882504799 : Unit := ()
noncomputable def all.tw15906484144062456574 : Unit := ()
noncomputable def all.tw12724949091593755947 : Unit := ()
noncomputable def all.tw6405578165278201989 : Unit := ()
noncomputable def all.tw10017678596475843418 : Unit := ()
noncomputable def all.tw8948736912299370593 : Unit := ()
noncomputable def all.tw9386671084012761886 : Unit := ()
noncomputable def all.tw1323426155142419162 : Unit := ()
noncomputable def all.tw5558808128744370633 : Unit := ()
noncomputable def all.tw3204017013573700639 : Unit := ()
noncomputable def all.tw10773934983489079739 : Unit := ()
noncomputable def all.tw13492775673106092688 : Unit := ()
noncomputable def all.tw6495733333828780514 : Unit := ()
noncomputable def all.tw927500100414286832 : Unit := ()
noncomputable def all.tw12267322187703008927 : Unit := ()
noncomputable def all.tw561872325786274548 : Unit := ()
noncomputable def all.tw4634341240264483431 : Unit := ()
noncomputable def all.tw12364857061501726476 : Unit := ()
noncomputable def all.tw1604050991321148793 : Unit := ()
noncomputable def all.tw1832691508475867565 : Unit := ()
noncomputable def all.tw12461584238705310493 : Unit := ()
noncomputable def all.tw12819504698909858696 : Unit := ()
noncomputable def all.tw4847766330237268548 : Unit := ()
noncomputable def all.tw8401958774316805891 : Unit := ()
noncomputable def all.tw14106571916235994328 : Unit := ()
noncomputable def all.tw9609096358927944886 : Unit := ()
noncomputable def all.tw15437854835666668586 : Unit := ()
noncomputable def all.tw8316665608867782698 : Unit := ()
noncomputable def all.tw9179554920180893090 : Unit := ()
noncomputable def all.tw2557191316624668217 : Unit := ()
noncomputable def all.tw4414687121592682518 : Unit := ()
noncomputable def all.tw17411639873488161413 : Unit := ()
noncomputable def all.tw11102767992079720913 : Unit := ()
noncomputable def all.tw2226997731462787175 : Unit := ()
noncomputable def all.tw11139934685464864865 : Unit := ()
noncomputable def all.tw9570754706468278650 : Unit := ()
noncomputable def all.tw12670715608682713705 : Unit := ()
noncomputable def all.tw17103938086974590038 : Unit := ()
noncomputable def all.tw5657931515703916248 : Unit := ()
noncomputable def all.tw13467292715098799918 : Unit := ()
noncomputable def all.tw1750280776747563624 : Unit := ()
noncomputable def all.tw13434531468450553753 : Unit := ()
noncomputable def all.tw3108443244893856389 : Unit := ()
noncomputable def all.tw9976896545867408452 : Unit := ()
noncomputable def all.tw1585303152785439333 : Unit := ()
noncomputable def all.tw16171933092410999983 : Unit := ()
noncomputable def all.tw15778654729900951400 : Unit := ()
noncomputable def all.tw1126307000538870075 : Unit := ()
noncomputable def all.tw13185015893256467352 : Unit := ()
noncomputable def all.tw8373720323635723369 : Unit := ()
noncomputable def all.tw11483514542923596125 : Unit := ()
noncomputable def all.tw9843424985483213050 : Unit := ()
noncomputable def all.tw14044709251442629906 : Unit := ()
noncomputable def all.tw11158953913317867288 : Unit := ()
noncomputable def all.tw4240545211757986076 : Unit := ()
noncomputable def all.tw18369841484834026144 : Unit := ()
noncomputable def all.tw14242173848286271349 : Unit := ()
noncomputable def all.tw15305453227285626446 : Unit := ()
noncomputable def all.tw18168848097628341329 : Unit := ()
noncomputable def all.tw16084742875079473383 : Unit := ()
noncomputable def all.tw1834627630568429925 : Unit := ()
noncomputable def all.tw16727532447511142511 : Unit := ()
noncomputable def all.tw7272270352196073673 : Unit := ()
noncomputable def all.tw10331167273965929257 : Unit := ()
noncomputable def all.tw16694476904998839863 : Unit := ()
noncomputable def all.tw7899379758991183832 : Unit := ()
noncomputable def all.tw14074921412963316263 : Unit := ()
noncomputable def all.tw14444207656584330654 : Unit := ()
noncomputable def all.tw17371863055441782679 : Unit := ()
noncomputable def all.tw15097909243742831393 : Unit := ()
noncomputable def all.tw13596499734656872166 : Unit := ()
noncomputable def all.tw5103420120806187630 : Unit := ()
noncomputable def all.tw3153289441736887298 : Unit := ()
noncomputable def all.tw9448091282758670523 : Unit := ()
noncomputable def all.tw16088354708999966866 : Unit := ()
noncomputable def all.tw16567661231398824811 : Unit := ()
noncomputable def all.tw2750322548573693319 : Unit := ()
noncomputable def all.tw76700771618905059 : Unit := ()
noncomputable def all.tw3855190133869164905 : Unit := ()
noncomputable def all.tw17026743227940831712 : Unit := ()
noncomputable def all.tw6651456455751515877 : Unit := ()
noncomputable def all.tw15151187641303801864 : Unit := ()
noncomputable def all.tw9864162776701422008 : Unit := ()
noncomputable def all.tw6721464258858852875 : Unit := ()
noncomputable def all.tw16700318575013349798 : Unit := ()
noncomputable def all.tw3245683008731127689 : Unit := ()
noncomputable def all.tw14539000326390715668 : Unit := ()
noncomputable def all.tw9111709882147129655 : Unit := ()
noncomputable def all.tw1352723322627576488 : Unit := ()
noncomputable def all.tw15359849362664289188 : Unit := ()
noncomputable def all.tw4927947371108770993 : Unit := ()
noncomputable def all.tw5675193095830314289 : Unit := ()
noncomputable def all.tw8076105961534405009 : Unit := ()
noncomputable def all.tw4014216774688872946 : Unit := ()
noncomputable def all.tw17259241986408110582 : Unit := ()
noncomputable def all.tw3082626142003458053 : Unit := ()
noncomputable def all.tw11536899603342547138 : Unit := ()
noncomputable def all.tw7785168158365692624 : Unit := ()
noncomputable def all.tw898707613593260451 : Unit := ()
noncomputable def all.tw8857914048673524507 : Unit := ()
noncomputable def all.tw17933553581876595578 : Unit := ()
noncomputable def all.tw13283931332471535325 : Unit := ()
noncomputable def all.tw10130366669087276332 : Unit := ()
noncomputable def all.tw11473507486328240615 : Unit := ()
noncomputable def all.tw12071712058454129317 : Unit := ()
noncomputable def all.tw10073190252686323273 : Unit := ()
noncomputable def all.tw16926426053830025025 : Unit := ()
noncomputable def all.tw2412950195513398651 : Unit := ()
noncomputable def all.tw10277526245819850656 : Unit := ()
noncomputable def all.tw3849640880644552707 : Unit := ()
noncomputable def all.tw14523845485542788104 : Unit := ()
noncomputable def all.tw7317653850160689691 : Unit := ()
noncomputable def all.tw11488495728068971930 : Unit := ()
noncomputable def all.tw2901220350088373138 : Unit := ()
noncomputable def all.tw200202858802481044 : Unit := ()
noncomputable def all.tw7159026401054745538 : Unit := ()
noncomputable def all.tw14151137839513740329 : Unit := ()
noncomputable def all.tw17591669423913269842 : Unit := ()
noncomputable def all.tw8247663516303736865 : Unit := ()
noncomputable def all.tw17914837950057056417 : Unit := ()
noncomputable def all.tw12512054102949984058 : Unit := ()
noncomputable def all.tw4722931859811370693 : Unit := ()
noncomputable def all.tw16949009020806574942 : Unit := ()
noncomputable def all.tw13508003155388970551 : Unit := ()
noncomputable def all.tw2613816272192447989 : Unit := ()
noncomputable def all.tw7855422573467142813 : Unit := ()
noncomputable def all.tw10011055193491271300 : Unit := ()
noncomputable def all.tw3138800457800853586 : Unit := ()
noncomputable def all.tw8397605616207071183 : Unit := ()
noncomputable def all.tw14832659646925512398 : Unit := ()
noncomputable def all.tw4874642235004048027 : Unit := ()
noncomputable def all.tw2690882624139800689 : Unit := ()
noncomputable def all.tw17360653242477243975 : Unit := ()
noncomputable def all.tw9952970006915852218 : Unit := ()
noncomputable def all.tw8728704332973717658 : Unit := ()
noncomputable def all.tw17772726858579744284 : Unit := ()
noncomputable def all.tw5646013916729498261 : Unit := ()
noncomputable def all.tw9069304868558884969 : Unit := ()
noncomputable def all.tw4025807792261511995 : Unit := ()
noncomputable def all.tw11330118131623060689 : Unit := ()
noncomputable def all.tw4822506900650540561 : Unit := ()
noncomputable def all.tw14421808642430287336 : Unit := ()
noncomputable def all.tw11738243901336025406 : Unit := ()
noncomputable def all.tw16433278489552267077 : Unit := ()
noncomputable def all.tw3140247085548477035 : Unit := ()
noncomputable def all.tw16838893715234930207 : Unit := ()
noncomputable def all.tw16223638597430114740 : Unit := ()
noncomputable def all.tw5463181917568680212 : Unit := ()
noncomputable def all.tw17717444079117462278 : Unit := ()
noncomputable def all.tw4350801690150286559 : Unit := ()
noncomputable def all.tw9022205114861038860 : Unit := ()
noncomputable def all.tw8045866029985295436 : Unit := ()
noncomputable def all.tw17469454598705902373 : Unit := ()
noncomputable def all.tw8749193726656077916 : Unit := ()
noncomputable def all.tw7525655301032184626 : Unit := ()
noncomputable def all.tw13282074430368766303 : Unit := ()
noncomputable def all.tw335442867052375821 : Unit := ()
noncomputable def all.tw4786962568827011835 : Unit := ()
noncomputable def all.tw15585509438621463966 : Unit := ()
noncomputable def all.tw1550712947053634219 : Unit := ()
noncomputable def all.tw18094267598192979275 : Unit := ()
noncomputable def all.tw16057471521750792484 : Unit := ()
noncomputable def all.tw11573567738276184859 : Unit := ()
noncomputable def all.tw1291087626157917732 : Unit := ()
noncomputable def all.tw14066901625076523032 : Unit := ()
noncomputable def all.tw8486076525276431931 : Unit := ()
noncomputable def all.tw9900696922168193843 : Unit := ()
noncomputable def all.tw17492785332073455090 : Unit := ()
noncomputable def all.tw3702781205502781313 : Unit := ()
noncomputable def all.tw7234240908195146063 : Unit := ()
noncomputable def all.tw3586251380002802234 : Unit := ()
noncomputable def all.tw17292822351017121783 : Unit := ()
noncomputable def all.tw15389465554420088467 : Unit := ()
noncomputable def all.tw1298631472846954095 : Unit := ()
noncomputable def all.tw2020152571437148077 : Unit := ()
noncomputable def all.tw16424727738075169484 : Unit := ()
noncomputable def all.tw11375281295658956675 : Unit := ()
noncomputable def all.tw14647661154017913664 : Unit := ()
noncomputable def all.tw11931918283646908614 : Unit := ()
noncomputable def all.tw5715779271170130959 : Unit := ()
noncomputable def all.tw9526568234960664165 : Unit := ()
noncomputable def all.tw4937054150386731785 : Unit := ()
noncomputable def all.tw5931688323066260514 : Unit := ()
noncomputable def all.tw5601264028959731896 : Unit := ()
noncomputable def all.tw2816474811461910954 : Unit := ()
noncomputable def all.tw15519761934197397234 : Unit := ()
noncomputable def all.tw11798761498685784450 : Unit := ()
noncomputable def all.tw5007245332940595331 : Unit := ()
noncomputable def all.tw14648097213134440425 : Unit := ()
noncomputable def all.tw10215604902903598199 : Unit := ()
noncomputable def all.tw1758426702102747128 : Unit := ()
noncomputable def all.tw945595864737313391 : Unit := ()
noncomputable def all.tw6176105912117767087 : Unit := ()
noncomputable def all.tw11777086365064915542 : Unit := ()
noncomputable def all.tw13132907815185506690 : Unit := ()
noncomputable def all.tw11904431243951574334 : Unit := ()
noncomputable def all.tw12847938454781286588 : Unit := ()
noncomputable def all.tw12248520049373816357 : Unit := ()
noncomputable def all.tw6271033356711949733 : Unit := ()
noncomputable def all.tw12394350090093965224 : Unit := ()
noncomputable def all.tw5555718599999811639 : Unit := ()
noncomputable def all.tw282076826160197541 : Unit := ()
noncomputable def all.tw7473514446972121862 : Unit := ()
noncomputable def all.tw18058516629519361111 : Unit := ()
noncomputable def all.tw2305613221535706149 : Unit := ()
noncomputable def all.tw9196661522157602471 : Unit := ()
noncomputable def all.tw13057232943065969744 : Unit := ()
noncomputable def all.tw247909236438806434 : Unit := ()
noncomputable def all.tw15549030377841494851 : Unit := ()
noncomputable def all.tw1957997846565066766 : Unit := ()
noncomputable def all.tw225468126006155290 : Unit := ()
noncomputable def all.tw14848961488311411958 : Unit := ()
noncomputable def all.tw1142058581544160548 : Unit := ()
noncomputable def all.tw1290094970999489009 : Unit := ()
noncomputable def all.tw5362506446432344171 : Unit := ()
noncomputable def all.tw6849123771955923804 : Unit := ()
noncomputable def all.tw4198835854440487071 : Unit := ()
noncomputable def all.tw11441816438227186863 : Unit := ()
noncomputable def all.tw15284455985751111415 : Unit := ()
noncomputable def all.tw5440085390276978291 : Unit := ()
noncomputable def all.tw14057782590025463129 : Unit := ()
noncomputable def all.tw2494268533263957097 : Unit := ()
noncomputable def all.tw3142481877796873088 : Unit := ()
noncomputable def all.tw10921597071642053482 : Unit := ()
noncomputable def all.tw5727973534668710794 : Unit := ()
noncomputable def all.tw18343157571677020557 : Unit := ()
noncomputable def all.tw15921814526102390315 : Unit := ()
noncomputable def all.tw17558465517493045558 : Unit := ()
noncomputable def all.tw12540455083557110006 : Unit := ()
noncomputable def all.tw16942522186650535968 : Unit := ()
noncomputable def all.tw12580110897883145167 : Unit := ()
noncomputable def all.tw766856551031688912 : Unit := ()
noncomputable def all.tw8706731066875689191 : Unit := ()
noncomputable def all.tw2129135792641148848 : Unit := ()
noncomputable def all.tw18422150028754028023 : Unit := ()
noncomputable def all.tw8593244855664925795 : Unit := ()
noncomputable def all.tw16747629065405408630 : Unit := ()
noncomputable def all.tw3949192924188805160 : Unit := ()
noncomputable def all.tw18372220700587324537 : Unit := ()
noncomputable def all.tw4232916895473627763 : Unit := ()
noncomputable def all.tw10658958392246782621 : Unit := ()
noncomputable def all.tw3905375630023619888 : Unit := ()
noncomputable def all.tw13370487131934946175 : Unit := ()
noncomputable def all.tw7755422918602135030 : Unit := ()
noncomputable def all.tw5747321363474778693 : Unit := ()
noncomputable def all.tw10640303290150162726 : Unit := ()
noncomputable def all.tw10971250334911043752 : Unit := ()
noncomputable def all.tw476020514792540505 : Unit := ()
noncomputable def all.tw17523770736405063376 : Unit := ()
noncomputable def all.tw12899656968702213925 : Unit := ()
noncomputable def all.tw15866815640656860141 : Unit := ()
noncomputable def all.tw2013830700403712203 : Unit := ()
noncomputable def all.tw11888049472147760879 : Unit := ()
noncomputable def all.tw10289937546816008636 : Unit := ()
noncomputable def all.tw1717485560449817402 : Unit := ()
noncomputable def all.tw6656463916972431421 : Unit := ()
noncomputable def all.tw6717767316833874322 : Unit := ()
noncomputable def all.tw13220695134330190930 : Unit := ()
noncomputable def all.tw7263415099574290149 : Unit := ()
noncomputable def all.tw7660858615051961871 : Unit := ()
noncomputable def all.tw2235618017368140517 : Unit := ()
noncomputable def all.tw7916663265354606609 : Unit := ()
noncomputable def all.tw5217560924200664910 : Unit := ()
noncomputable def all.tw18052197330547352278 : Unit := ()
noncomputable def all.tw68815829978753266 : Unit := ()
noncomputable def all.tw1985402699469526011 : Unit := ()
noncomputable def all.tw14661163797125724070 : Unit := ()
noncomputable def all.tw5718967094426423161 : Unit := ()
noncomputable def all.tw11038128598146805730 : Unit := ()
noncomputable def all.tw15076152544538823220 : Unit := ()
noncomputable def all.tw5646740079091317433 : Unit := ()
noncomputable def all.tw14549113301119539810 : Unit := ()
noncomputable def all.tw433751870149770472 : Unit := ()
noncomputable def all.tw5553432485147669529 : Unit := ()
noncomputable def all.tw890751993682150155 : Unit := ()
noncomputable def all.tw779998902302455647 : Unit := ()
noncomputable def all.tw6950096446663180783 : Unit := ()
noncomputable def all.tw13455461431897201640 : Unit := ()
noncomputable def all.tw5103548895888603802 : Unit := ()
noncomputable def all.tw5191467471856622273 : Unit := ()
noncomputable def all.tw11533779600810293282 : Unit := ()
noncomputable def all.tw16592893570014863828 : Unit := ()
noncomputable def all.tw10600613889749566790 : Unit := ()
noncomputable def all.tw7778630667622746703 : Unit := ()
noncomputable def all.tw10131221437080536637 : Unit := ()
noncomputable def all.tw16740921855470316824 : Unit := ()
noncomputable def all.tw4773625603535503361 : Unit := ()
noncomputable def all.tw13423135486485445016 : Unit := ()
noncomputable def all.tw15618092478124507917 : Unit := ()
noncomputable def all.tw14863171615509713983 : Unit := ()
noncomputable def all.tw17408919567675379883 : Unit := ()
noncomputable def all.tw306535358961565008 : Unit := ()
noncomputable def all.tw1768962640154500726 : Unit := ()
noncomputable def all.tw12304872625307995750 : Unit := ()
noncomputable def all.tw2810427484928169959 : Unit := ()
noncomputable def all.tw10705108097460422218 : Unit := ()
noncomputable def all.tw4547723090059260100 : Unit := ()
noncomputable def all.tw4631590275013254457 : Unit := ()
noncomputable def all.tw9133701021851612117 : Unit := ()
noncomputable def all.tw13476624294007221044 : Unit := ()
noncomputable def all.tw15242674970999812785 : Unit := ()
noncomputable def all.tw3006146034401029692 : Unit := ()
noncomputable def all.tw14211586455995466092 : Unit := ()
noncomputable def all.tw11658462952560688381 : Unit := ()
noncomputable def all.tw14511287757244466272 : Unit := ()
noncomputable def all.tw5781126440621211168 : Unit := ()
noncomputable def all.tw6635522753158126860 : Unit := ()
noncomputable def all.tw596421839371371174 : Unit := ()
noncomputable def all.tw6125028925249125104 : Unit := ()
noncomputable def all.tw9743695723290020096 : Unit := ()
noncomputable def all.tw7686242042924871683 : Unit := ()
noncomputable def all.tw6169999212503205497 : Unit := ()
noncomputable def all.tw6846761488900895589 : Unit := ()
noncomputable def all.tw2842816785644039571 : Unit := ()
noncomputable def all.tw17368901067910498557 : Unit := ()
noncomputable def all.tw5870148494974776200 : Unit := ()
noncomputable def all.tw17800948086707717751 : Unit := ()
noncomputable def all.tw16705860606270256717 : Unit := ()
noncomputable def all.tw14832718209330476552 : Unit := ()
noncomputable def all.tw9600454056292803967 : Unit := ()
noncomputable def all.tw16192806516816559703 : Unit := ()
noncomputable def all.tw14130914514491923361 : Unit := ()
noncomputable def all.tw15054863418237798948 : Unit := ()
noncomputable def all.tw3426563556032164376 : Unit := ()
noncomputable def all.tw8108845850537571710 : Unit := ()
noncomputable def all.tw5187159431361770467 : Unit := ()
noncomputable def all.tw17840812128005083152 : Unit := ()
noncomputable def all.tw9186790425516483314 : Unit := ()
noncomputable def all.tw8013882960148741844 : Unit := ()
noncomputable def all.tw14478419276589960357 : Unit := ()
noncomputable def all.tw15158558636265767147 : Unit := ()
noncomputable def all.tw14615947125993099273 : Unit := ()
noncomputable def all.tw2792250951161479536 : Unit := ()
noncomputable def all.tw13186973799741327244 : Unit := ()
noncomputable def all.tw10856765595117590405 : Unit := ()
noncomputable def all.tw18120535436291149196 : Unit := ()
noncomputable def all.tw1172340538976468734 : Unit := ()
noncomputable def all.tw8909644736058714228 : Unit := ()
noncomputable def all.tw6516363680345034613 : Unit := ()
noncomputable def all.tw18111398738982083773 : Unit := ()
noncomputable def all.tw17408048037380319038 : Unit := ()
noncomputable def all.tw7824222052329908659 : Unit := ()
noncomputable def all.tw16149317719023688252 : Unit := ()
noncomputable def all.tw18068929663759586442 : Unit := ()
noncomputable def all.tw1079708855280229330 : Unit := ()
noncomputable def all.tw3601427614577313751 : Unit := ()
noncomputable def all.tw3282140407130366615 : Unit := ()
noncomputable def all.tw4463848349969469772 : Unit := ()
noncomputable def all.tw7385006340035058783 : Unit := ()
noncomputable def all.tw18107075240765231021 : Unit := ()
noncomputable def all.tw5162543521180666497 : Unit := ()
noncomputable def all.tw201708328148552895 : Unit := ()
noncomputable def all.tw10793401674749092046 : Unit := ()
noncomputable def all.tw4338314545742005754 : Unit := ()
noncomputable def all.tw2496985677507960046 : Unit := ()
noncomputable def all.tw14099800850047386279 : Unit := ()
noncomputable def all.tw13172091369480311280 : Unit := ()
noncomputable def all.tw4215066571649420964 : Unit := ()
noncomputable def all.tw3788544764152331944 : Unit := ()
noncomputable def all.tw1752733083305661762 : Unit := ()
noncomputable def all.tw8310455619858573760 : Unit := ()
noncomputable def all.tw16665526110328478529 : Unit := ()
noncomputable def all.tw3443626597506986169 : Unit := ()
noncomputable def all.tw7546461858588002845 : Unit := ()
noncomputable def all.tw12412031795608718596 : Unit := ()
noncomputable def all.tw8474492796817999161 : Unit := ()
noncomputable def all.tw6279384641404196061 : Unit := ()
noncomputable def all.tw10912467617979834864 : Unit := ()
noncomputable def all.tw4188425034280262744 : Unit := ()
noncomputable def all.tw13492395982464255480 : Unit := ()
noncomputable def all.tw13429984922391205789 : Unit := ()
noncomputable def all.tw10175558820241607032 : Unit := ()
noncomputable def all.tw13509908655624090359 : Unit := ()
noncomputable def all.tw18216745520431054769 : Unit := ()
noncomputable def all.tw11928815663860865973 : Unit := ()
noncomputable def all.tw15651733941924773997 : Unit := ()
noncomputable def all.tw15575253945988166476 : Unit := ()
noncomputable def all.tw1274826149173847060 : Unit := ()
noncomputable def all.tw7918374967389245632 : Unit := ()
noncomputable def all.tw13607757164722159089 : Unit := ()
noncomputable def all.tw15849158762323818722 : Unit := ()
noncomputable def all.tw15541118713287057729 : Unit := ()
noncomputable def all.tw1356099576862622092 : Unit := ()
noncomputable def all.tw17260577670642009320 : Unit := ()
noncomputable def all.tw2891402810631288588 : Unit := ()
noncomputable def all.tw4983024317834737482 : Unit := ()
noncomputable def all.tw10681620039792923934 : Unit := ()
noncomputable def all.tw12320724196928087214 : Unit := ()
noncomputable def all.tw16400751074865733910 : Unit := ()
noncomputable def all.tw5919330448614353153 : Unit := ()
noncomputable def all.tw5761313309558253367 : Unit := ()
noncomputable def all.tw1075291646940621582 : Unit := ()
noncomputable def all.tw3482175957882590323 : Unit := ()
noncomputable def all.tw6223034424235540279 : Unit := ()
noncomputable def all.tw5036882428077977431 : Unit := ()
noncomputable def all.tw2863937026978368667 : Unit := ()
noncomputable def all.tw12221947951091446842 : Unit := ()
noncomputable def all.tw4430775014708722610 : Unit := ()
noncomputable def all.tw741329169588805604 : Unit := ()
noncomputable def all.tw1946476448123356450 : Unit := ()
noncomputable def all.tw18433079168191953831 : Unit := ()
noncomputable def all.tw9385597778382524922 : Unit := ()
noncomputable def all.tw9301309066579124778 : Unit := ()
noncomputable def all.tw10042690540180379618 : Unit := ()
noncomputable def all.tw16576222957257545530 : Unit := ()
noncomputable def all.tw17818293817903590521 : Unit := ()
noncomputable def all.tw7238125184777875665 : Unit := ()
noncomputable def all.tw525001674005675781 : Unit := ()
noncomputable def all.tw12784588452913835247 : Unit := ()
noncomputable def all.tw1644255569911684797 : Unit := ()
noncomputable def all.tw3165661143165402847 : Unit := ()
noncomputable def all.tw1238725946784135233 : Unit := ()
noncomputable def all.tw8608077670442852389 : Unit := ()
noncomputable def all.tw14984247238865676675 : Unit := ()
noncomputable def all.tw10942295900298899174 : Unit := ()
noncomputable def all.tw16097505516487973002 : Unit := ()
noncomputable def all.tw11273133048781285286 : Unit := ()
noncomputable def all.tw8711421783369662179 : Unit := ()
noncomputable def all.tw18429704661519256598 : Unit := ()
noncomputable def all.tw1904651353081489755 : Unit := ()
noncomputable def all.tw6169047396881144633 : Unit := ()
noncomputable def all.tw18433669859833586122 : Unit := ()
noncomputable def all.tw4942582282674782268 : Unit := ()
noncomputable def all.tw9217909395155117419 : Unit := ()
noncomputable def all.tw2972125363121769464 : Unit := ()
noncomputable def all.tw8621771247159374411 : Unit := ()
noncomputable def all.tw10127320685908719325 : Unit := ()
noncomputable def all.tw10696458614491829572 : Unit := ()
noncomputable def all.tw3225869345168946285 : Unit := ()
noncomputable def all.tw14081932915414352519 : Unit := ()
noncomputable def all.tw7848317997028865603 : Unit := ()
noncomputable def all.tw1973140245219671491 : Unit := ()
noncomputable def all.tw8183209053709734173 : Unit := ()
noncomputable def all.tw7347299435816893626 : Unit := ()
noncomputable def all.tw5248012151768918434 : Unit := ()
noncomputable def all.tw3835962111665225711 : Unit := ()
noncomputable def all.tw12381699962588209086 : Unit := ()
noncomputable def all.tw11051373392699811023 : Unit := ()
noncomputable def all.tw14365998534574843411 : Unit := ()
noncomputable def all.tw5936211784296988740 : Unit := ()
noncomputable def all.tw282994513109133150 : Unit := ()
noncomputable def all.tw10787622589932112302 : Unit := ()
noncomputable def all.tw12803817524326497440 : Unit := ()
noncomputable def all.tw11931136993785318394 : Unit := ()
noncomputable def all.tw4950485280699123642 : Unit := ()
noncomputable def all.tw6055196601331254383 : Unit := ()
noncomputable def all.tw16788233547135642414 : Unit := ()
noncomputable def all.tw5815207240830897808 : Unit := ()
noncomputable def all.tw13874455239767017017 : Unit := ()
noncomputable def all.tw16877496141331604692 : Unit := ()
noncomputable def all.tw3516009707026607567 : Unit := ()
noncomputable def all.tw9163178095015654352 : Unit := ()
noncomputable def all.tw7442053078452299063 : Unit := ()
noncomputable def all.tw13280447903547772812 : Unit := ()
noncomputable def all.tw15526263569004567679 : Unit := ()
noncomputable def all.tw15300001336698509272 : Unit := ()
noncomputable def all.tw13376464931078446103 : Unit := ()
noncomputable def all.tw6836359950869179439 : Unit := ()
noncomputable def all.tw10640348836240559591 : Unit := ()
noncomputable def all.tw1639981616727947583 : Unit := ()
noncomputable def all.tw5177793798137784044 : Unit := ()
noncomputable def all.tw17393663094203119047 : Unit := ()
noncomputable def all.tw12180536567876656950 : Unit := ()
noncomputable def all.tw11884583355970431823 : Unit := ()
noncomputable def all.tw11059894655552103594 : Unit := ()
noncomputable def all.tw9379264858417805688 : Unit := ()
noncomputable def all.tw2798396993581604531 : Unit := ()
noncomputable def all.tw1524229039251183588 : Unit := ()
noncomputable def all.tw12926644002878227130 : Unit := ()
noncomputable def all.tw4244794441018138637 : Unit := ()
noncomputable def all.tw5377772837010204750 : Unit := ()
noncomputable def all.tw29985565223642888 : Unit := ()
noncomputable def all.tw8080594004737468248 : Unit := ()
noncomputable def all.tw17314943208353570444 : Unit := ()
noncomputable def all.tw15176617289070330970 : Unit := ()
noncomputable def all.tw9351078540693612215 : Unit := ()
noncomputable def all.tw1215526528800860966 : Unit := ()
noncomputable def all.tw1326175403826912198 : Unit := ()
noncomputable def all.tw3105161912409373472 : Unit := ()
noncomputable def all.tw5927061715728957476 : Unit := ()
noncomputable def all.tw15775133740396041162 : Unit := ()
noncomputable def all.tw3527972740633252992 : Unit := ()
noncomputable def all.tw1149733072300507863 : Unit := ()
noncomputable def all.tw10407399669362838719 : Unit := ()
noncomputable def all.tw9486138936568494536 : Unit := ()
noncomputable def all.tw8146785798897364014 : Unit := ()
noncomputable def all.tw4613487602407358717 : Unit := ()
noncomputable def all.tw8848042172178993908 : Unit := ()
noncomputable def all.tw3347175955162335329 : Unit := ()
noncomputable def all.tw7255959162708018199 : Unit := ()
noncomputable def all.tw7091565871241343341 : Unit := ()
noncomputable def all.tw8678582069086723682 : Unit := ()
noncomputable def all.tw9960083256741680508 : Unit := ()
noncomputable def all.tw15429038253546691098 : Unit := ()
noncomputable def all.tw7750132644511371642 : Unit := ()
noncomputable def all.tw4814944892674192296 : Unit := ()
noncomputable def all.tw8486705261324164726 : Unit := ()
noncomputable def all.tw8838840417862019655 : Unit := ()
noncomputable def all.tw17394647144938102915 : Unit := ()
noncomputable def all.tw11784725038316003381 : Unit := ()
noncomputable def all.tw10649901628825759099 : Unit := ()
noncomputable def all.tw3578222212851893600 : Unit := ()
noncomputable def all.tw8026366407565007962 : Unit := ()
noncomputable def all.tw8353643495637310175 : Unit := ()
noncomputable def all.tw14288127532215574351 : Unit := ()
noncomputable def all.tw11084693905056812178 : Unit := ()
noncomputable def all.tw6178583632892115015 : Unit := ()
noncomputable def all.tw328508388705569248 : Unit := ()
noncomputable def all.tw12428716410969305734 : Unit := ()
noncomputable def all.tw15014361466247048854 : Unit := ()
noncomputable def all.tw2995925781233325151 : Unit := ()
noncomputable def all.tw6041367110252723933 : Unit := ()
noncomputable def all.tw4438364104728389296 : Unit := ()
noncomputable def all.tw14229981574245695772 : Unit := ()
noncomputable def all.tw13113687655016186724 : Unit := ()
noncomputable def all.tw10045075416114340931 : Unit := ()
noncomputable def all.tw4195489330254351329 : Unit := ()
noncomputable def all.tw9241353231930656577 : Unit := ()
noncomputable def all.tw8616835277999145119 : Unit := ()
noncomputable def all.tw4818641064637329869 : Unit := ()
noncomputable def all.tw13717024376598296668 : Unit := ()
noncomputable def all.tw2406872565856053176 : Unit := ()
noncomputable def all.tw16136937179128050694 : Unit := ()
noncomputable def all.tw407466490171300439 : Unit := ()
noncomputable def all.tw2362829445674453831 : Unit := ()
noncomputable def all.tw11701158076408460315 : Unit := ()
noncomputable def all.tw125183967897747985 : Unit := ()
noncomputable def all.tw10081088541268293599 : Unit := ()
noncomputable def all.tw18074533905802821072 : Unit := ()
noncomputable def all.tw2711446468545577505 : Unit := ()
noncomputable def all.tw5854907428364158380 : Unit := ()
noncomputable def all.tw9807931448117422837 : Unit := ()
noncomputable def all.tw11045270430615452010 : Unit := ()
noncomputable def all.tw13887551421349579326 : Unit := ()
noncomputable def all.tw14310873030558110092 : Unit := ()
noncomputable def all.tw8820459466428253018 : Unit := ()
noncomputable def all.tw10634939071730365363 : Unit := ()
noncomputable def all.tw5148049120761530293 : Unit := ()
noncomputable def all.tw7514489123796633772 : Unit := ()
noncomputable def all.tw1859658367360657537 : Unit := ()
noncomputable def all.tw14971269681375995079 : Unit := ()
noncomputable def all.tw16987476370533704557 : Unit := ()
noncomputable def all.tw16296590348105434372 : Unit := ()
noncomputable def all.tw5884965284304258897 : Unit := ()
noncomputable def all.tw4382491568596388571 : Unit := ()
noncomputable def all.tw755134328155928439 : Unit := ()
noncomputable def all.tw18440353960458814819 : Unit := ()
noncomputable def all.tw7916160540357663616 : Unit := ()
noncomputable def all.tw649721667195061312 : Unit := ()
noncomputable def all.tw15451204947285891726 : Unit := ()
noncomputable def all.tw14068239771850734003 : Unit := ()
noncomputable def all.tw4907521953547317329 : Unit := ()
noncomputable def all.tw6189357195160471388 : Unit := ()
noncomputable def all.tw4258606087713283508 : Unit := ()
noncomputable def all.tw9090173269774583996 : Unit := ()
noncomputable def all.tw13897503799994109090 : Unit := ()
noncomputable def all.tw15460995928004159328 : Unit := ()
noncomputable def all.tw14201790961670687459 : Unit := ()
noncomputable def all.tw7723783022558009007 : Unit := ()
noncomputable def all.tw7779866328928976063 : Unit := ()
noncomputable def all.tw4899250830898163692 : Unit := ()
noncomputable def all.tw2054712967208431000 : Unit := ()
noncomputable def all.tw13900070722340429276 : Unit := ()
noncomputable def all.tw17468886310826310451 : Unit := ()
noncomputable def all.tw497388943360791162 : Unit := ()
noncomputable def all.tw10252965763247687682 : Unit := ()
noncomputable def all.tw4005113011885737416 : Unit := ()
noncomputable def all.tw16711731339798493391 : Unit := ()
noncomputable def all.tw3239841934065285509 : Unit := ()
noncomputable def all.tw7062720368445256129 : Unit := ()
noncomputable def all.tw8111057081096800836 : Unit := ()
noncomputable def all.tw1327343985113690801 : Unit := ()
noncomputable def all.tw16457593375850944212 : Unit := ()
noncomputable def all.tw3477183460249832127 : Unit := ()
noncomputable def all.tw4214497047443048748 : Unit := ()
noncomputable def all.tw549974085012918235 : Unit := ()
noncomputable def all.tw17064833945692052252 : Unit := ()
noncomputable def all.tw12588980310967471357 : Unit := ()
noncomputable def all.tw14076077854437140390 : Unit := ()
noncomputable def all.tw14970210157437980911 : Unit := ()
noncomputable def all.tw3339628229899013760 : Unit := ()
noncomputable def all.tw12317132656592258788 : Unit := ()
noncomputable def all.tw3390864358609898268 : Unit := ()
noncomputable def all.tw16053908350159596564 : Unit := ()
noncomputable def all.tw4561188658046838414 : Unit := ()
noncomputable def all.tw3440317332850252569 : Unit := ()
noncomputable def all.tw884644925536651315 : Unit := ()
noncomputable def all.tw1485379303772713457 : Unit := ()
noncomputable def all.tw10389294372677164839 : Unit := ()
noncomputable def all.tw13505173894226300209 : Unit := ()
noncomputable def all.tw9455471141526271117 : Unit := ()
noncomputable def all.tw14849280956162755979 : Unit := ()
noncomputable def all.tw4726450323565452186 : Unit := ()
noncomputable def all.tw1694654335647164047 : Unit := ()
noncomputable def all.tw13960862262899742394 : Unit := ()
noncomputable def all.tw5221675337516389627 : Unit := ()
end Mine
set_option Elab.async true in
theorem Mine.all : PySem.Challenge.rw_np0104_01.Holds := by
  w_on
  o_law
  k_head
  (case hw => w_witness2)
  k_go0
  all_goals (rename_i h1 tk1 F o7 o6 o5 o4 o3 o2 o1 o0 l6 l5 l4 l3 l2 l1 l0 r0 N X0)
  all_goals refine Mine.join ?zkk (by assumption) (by assumption) (by assumption) (by assumption) (by assumption) (by omega) F ?zm N X0 ?zc0 ?zc1 ?zc2 ?zc3 ?zc4 ?zc5 ?zc6 ?zc7 ?zq
  case zkk => exact ⟨by kernel_rfl, by kernel_rfl, by kernel_rfl, by kernel_rfl, by kernel_rfl, by kernel_rfl, by kernel_rfl, by kernel_rfl, by kernel_rfl, by kernel_rfl⟩
  case zm => rfl
  case zc0 => rfl
  case zc1 => rfl
  case zc2 => rfl
  case zc3 => rfl
  case zc4 => rfl
  case zc5 => rfl
  case zc6 => rfl
  case zc7 => rfl
  case zq =>
    intro h' tk' keep
    refine ⟨.inl ⟨_, .bool true, [], rfl, fun _ => rfl, .bool true, ?pp9, fun _ => ⟨List.nodup_nil, fun a h => nomatch h⟩⟩, keep, rfl, by assumption⟩
    refine' postW_of ?ps9 ?pv9 ?pe9
    case ps9 => o_shape
    case pv9 => wtm_val
    case pe9 => w_fin
end
theorem PySem.Challenge.cw_np0104_01_holds : PySem.Challenge.rw_np0104_01.Holds := by
  exact Mine.all
