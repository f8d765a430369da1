import PyProof.Rows.All
import Wide.All
import OpenK.AllK
import Wide.FinOn
import PySem.Challenge.RW_np0011_01

set_option Elab.async false
set_option autoImplicit false
set_option linter.all false

section
open PySem PyProof.Rows
namespace Mine

/-- plain values -/
inductive PV where
  | none
  | bool (b : Bool)
  | int (i : Int)
  | list (xs : List PV)
  | tup (xs : List PV)

mutual
/-- in heap h the value reads as a plain value, by objects off D -/
inductive Rep (h : Heap) (D : Addr → Prop) : Value → PV → Prop
  | none : Rep h D .none .none
  | bool (b : Bool) : Rep h D (.bool b) (.bool b)
  | int (i : Int) (t : Tok) : Rep h D (.int i t) (.int i)
  | list {a : Addr} {vs : Array Value} {n : Nat} {xs : List PV} : ¬ D a → h.get? a = some { cls := .type "list", data := .seq vs n } → Reps h D vs.toList xs → xs.length ≤ 2 ^ 20 → Rep h D (.ref a) (.list xs)
  | tup {a : Addr} {vs : Array Value} {n : Nat} {xs : List PV} : ¬ D a → h.get? a = some { cls := .type "tuple", data := .seq vs n } → Reps h D vs.toList xs → xs.length ≤ 2 ^ 20 → Rep h D (.ref a) (.tup xs)
inductive Reps (h : Heap) (D : Addr → Prop) : List Value → List PV → Prop
  | nil : Reps h D [] []
  | cons {v : Value} {x : PV} {vs : List Value} {xs : List PV} : Rep h D v x → Reps h D vs xs → Reps h D (v :: vs) (x :: xs)
end

noncomputable abbrev Kept (h h' : Heap) : Prop := ∀ b o, h.get? b = some o → h'.get? b = some o
noncomputable abbrev KeptOff (C : Addr → Prop) (h h' : Heap) : Prop := ∀ b o, ¬ C b → h.get? b = some o → h'.get? b = some o

mutual
theorem Rep.move {h h' : Heap} {D D' : Addr → Prop} (hm : ∀ b o, ¬ D b → h.get? b = some o → ¬ D' b ∧ h'.get? b = some o) :
    ∀ {v : Value} {x : PV}, Rep h D v x → Rep h' D' v x
  | _, _, .none => .none
  | _, _, .bool b => .bool b
  | _, _, .int i t => .int i t
  | _, _, .list hD hg hr hl => .list (hm _ _ hD hg).1 (hm _ _ hD hg).2 (Reps.move hm hr) hl
  | _, _, .tup hD hg hr hl => .tup (hm _ _ hD hg).1 (hm _ _ hD hg).2 (Reps.move hm hr) hl
theorem Reps.move {h h' : Heap} {D D' : Addr → Prop} (hm : ∀ b o, ¬ D b → h.get? b = some o → ¬ D' b ∧ h'.get? b = some o) :
    ∀ {vs : List Value} {xs : List PV}, Reps h D vs xs → Reps h' D' vs xs
  | _, _, .nil => .nil
  | _, _, .cons hv hr => .cons (Rep.move hm hv) (Reps.move hm hr)
end

theorem Rep.keep {h h' : Heap} {D : Addr → Prop} (hk : Kept h h') {v : Value} {x : PV} (r : Rep h D v x) : Rep h' D v x := r.move fun b o hD e => ⟨hD, hk b o e⟩
theorem Rep.weaken {h : Heap} {D D' : Addr → Prop} (hd : ∀ a, D' a → D a) {v : Value} {x : PV} (r : Rep h D v x) : Rep h D' v x := r.move fun _ _ hD e => ⟨fun k => hD (hd _ k), e⟩
theorem Reps.keep {h h' : Heap} {D : Addr → Prop} (hk : Kept h h') {vs : List Value} {xs : List PV} (r : Reps h D vs xs) : Reps h' D vs xs := r.move fun b o hD e => ⟨hD, hk b o e⟩
theorem Reps.weaken {h : Heap} {D D' : Addr → Prop} (hd : ∀ a, D' a → D a) {vs : List Value} {xs : List PV} (r : Reps h D vs xs) : Reps h D' vs xs := r.move fun _ _ hD e => ⟨fun k => hD (hd _ k), e⟩

theorem Reps.length {h : Heap} {D : Addr → Prop} : ∀ {vs : List Value} {xs : List PV}, Reps h D vs xs → vs.length = xs.length
  | _, _, .nil => rfl
  | _, _, .cons _ r => by simp [r.length]
theorem Reps.append {h : Heap} {D : Addr → Prop} : ∀ {vs ws : List Value} {xs ys : List PV}, Reps h D vs xs → Reps h D ws ys → Reps h D (vs ++ ws) (xs ++ ys)
  | _, _, _, _, .nil, k => k
  | _, _, _, _, .cons a r, k => .cons a (r.append k)
theorem Reps.take {h : Heap} {D : Addr → Prop} : ∀ {vs : List Value} {xs : List PV}, Reps h D vs xs → ∀ n : Nat, Reps h D (vs.take n) (xs.take n)
  | _, _, _, 0 => .nil
  | _, _, .nil, _ + 1 => .nil
  | _, _, .cons a r, n + 1 => .cons a (r.take n)
theorem Reps.drop {h : Heap} {D : Addr → Prop} : ∀ {vs : List Value} {xs : List PV}, Reps h D vs xs → ∀ n : Nat, Reps h D (vs.drop n) (xs.drop n)
  | _, _, r, 0 => r
  | _, _, .nil, _ + 1 => .nil
  | _, _, .cons _ r, n + 1 => r.drop n
theorem Reps.get {h : Heap} {D : Addr → Prop} : ∀ {vs : List Value} {xs : List PV}, Reps h D vs xs → ∀ {n : Nat} {x : PV}, xs[n]? = some x → ∃ v, vs[n]? = some v ∧ Rep h D v x
  | _, _, .nil, n, x, e => by simp at e
  | _, _, .cons a r, 0, x, e => by simp at e; subst e; exact ⟨_, rfl, a⟩
  | _, _, .cons a r, n + 1, x, e => by simpa using r.get (n := n) (by simpa using e)
theorem Reps.getV {h : Heap} {D : Addr → Prop} : ∀ {vs : List Value} {xs : List PV}, Reps h D vs xs → ∀ {n : Nat} {v : Value}, vs[n]? = some v → ∃ x, xs[n]? = some x ∧ Rep h D v x
  | _, _, .nil, n, x, e => by simp at e
  | _, _, .cons a r, 0, x, e => by simp at e; subst e; exact ⟨_, rfl, a⟩
  | _, _, .cons a r, n + 1, x, e => by simpa using r.getV (n := n) (by simpa using e)

/-- own syntax of expressions; names are places in the scope's table -/
inductive E where
  | loc (i : Nat)
  | int (i : Int)
  | bool (b : Bool)
  | gtab
  | gblank
  | neg1
  | add (a b : E) | sub (a b : E) | mul (a b : E) | fdiv (a b : E) | mod (a b : E)
  | rep (c n : E)
  | cmp (op : CmpOp) (a b : E)
  | cmp2 (op₁ op₂ : CmpOp) (a b c : E)
  | inTup (a : E) (x y : Int)
  | bop (and : Bool) (es : List E)
  | ite (t a b : E)
  | idx (a i : E)
  | upto (a hi : E)
  | from_ (a lo : E)
  | call (f : Nat) (es : List E)
  | len (a : E)
  | max (a b : E)
  | lst (es : List E)
  | tup (es : List E)
  | comp (n : Nat) (free : List (Nat × Nat)) (tgt : Option Nat) (tgts : List Nat) (elt iter : E) (cond : Option E)

noncomputable abbrev Rho := List (Option PV)

noncomputable def mkL (xs : List PV) : Option PV := if xs.length ≤ 2 ^ 20 then some (.list xs) else none

noncomputable def pInt : PV → Option Int
  | .int i => some i
  | _ => none
noncomputable def pBool : PV → Option Bool
  | .bool b => some b
  | _ => none
noncomputable def pLst : PV → Option (List PV)
  | .list xs => some xs
  | _ => none
noncomputable def pTup : PV → Option (List PV)
  | .tup xs => some xs
  | _ => none
theorem pInt_inv {x : PV} {a : Int} (h : pInt x = some a) : x = .int a := by cases x <;> cases h; rfl
theorem pBool_inv {x : PV} {a : Bool} (h : pBool x = some a) : x = .bool a := by cases x <;> cases h; rfl
theorem pLst_inv {x : PV} {a : List PV} (h : pLst x = some a) : x = .list a := by cases x <;> cases h; rfl
theorem pTup_inv {x : PV} {a : List PV} (h : pTup x = some a) : x = .tup a := by cases x <;> cases h; rfl
noncomputable def allInts : List PV → Option (List Int)
  | [] => some []
  | x :: r => (pInt x).bind fun i => (allInts r).bind fun l => some (i :: l)
noncomputable def eqInts (xs ys : List PV) : Option Bool := (allInts xs).bind fun a => (allInts ys).bind fun b => some (decide (a = b))
noncomputable def twoL : List PV → Option (List PV × List PV)
  | [a, b] => (pLst a).bind fun a => (pLst b).bind fun b => some (a, b)
  | _ => none
noncomputable def onI {α : Type} (f : Int → Int → Option α) (x y : PV) : Option α := (pInt x).bind fun a => (pInt y).bind fun b => f a b
noncomputable def eqL (x y : PV) : Option Bool := (pLst x).bind fun a => (pLst y).bind fun b => eqInts a b
noncomputable def eqT (x y : PV) : Option Bool := (pTup x).bind fun a => (pTup y).bind fun b => (twoL a).bind fun p => (twoL b).bind fun q => (eqInts p.1 q.1).bind fun s => (eqInts p.2 q.2).bind fun t => some (s && t)
noncomputable def eqPV (x y : PV) : Option Bool :=
  match x with
  | .int _ => onI (fun a b => some (decide (a = b))) x y
  | .list _ => eqL x y
  | .tup _ => eqT x y
  | _ => none

noncomputable def cmpPV (op : CmpOp) (x y : PV) : Option Bool :=
  match op with
  | .Eq => eqPV x y
  | .NotEq => (eqPV x y).map (!·)
  | .Lt => onI (fun a b => some (decide (a < b))) x y
  | .LtE => onI (fun a b => some (decide (a ≤ b))) x y
  | .Gt => onI (fun a b => some (decide (a > b))) x y
  | .GtE => onI (fun a b => some (decide (a ≥ b))) x y
  | _ => none

noncomputable def catL (x y : PV) : Option PV := (pLst x).bind fun xs => (pLst y).bind fun ys => mkL (xs ++ ys)
noncomputable def addPV (x y : PV) : Option PV :=
  match x with
  | .int _ => onI (fun a b => some (.int (a + b))) x y
  | _ => catL x y
noncomputable def subPV : PV → PV → Option PV := onI fun a b => some (.int (a - b))
noncomputable def mulPV : PV → PV → Option PV := onI fun a b => if a.natAbs < 2 ^ 31 then some (.int (a * b)) else none
noncomputable def fdivPV : PV → PV → Option PV := onI fun a b => if 0 < b ∧ b < 2 ^ 30 then some (.int (a / b)) else none
noncomputable def modPV : PV → PV → Option PV := onI fun a b => if 0 < b ∧ b < 2 ^ 30 then some (.int (a % b)) else none
noncomputable def repPV : PV → PV → Option PV := onI fun c n => if n.toNat ≤ 2 ^ 20 ∧ -(2 ^ 62 : Int) < n then some (.list (List.replicate n.toNat (.int c))) else none
noncomputable def maxPV : PV → PV → Option PV := onI fun a b => some (.int (if b > a then b else a))
noncomputable def itemI (o : Option PV) : Option PV := o.bind fun v => (pInt v).bind fun i => some (.int i)
noncomputable def idxL (x y : PV) : Option PV := (pLst x).bind fun xs => (pInt y).bind fun i => if 0 ≤ i then itemI xs[i.toNat]? else if i = -1 then itemI xs.getLast? else none
noncomputable def idxT (x y : PV) : Option PV := (pTup x).bind fun xs => (pInt y).bind fun i => if 0 ≤ i then itemI xs[i.toNat]? else none
noncomputable def idxPV (x y : PV) : Option PV :=
  match x with
  | .tup _ => idxT x y
  | _ => idxL x y
noncomputable def uptoPV (x y : PV) : Option PV := (pLst x).bind fun xs => (pInt y).bind fun i => if 0 ≤ i then some (.list (xs.take i.toNat)) else none
noncomputable def fromPV (x y : PV) : Option PV := (pLst x).bind fun xs => (pInt y).bind fun i => if 0 ≤ i then some (.list (xs.drop i.toNat)) else none
noncomputable def lenPV (x : PV) : Option PV := (pLst x).bind fun xs => some (.int xs.length)

noncomputable def setAll (ρ : Rho) : List Nat → List PV → Option Rho
  | [], [] => some ρ
  | i :: r, x :: xs => setAll (ρ.set i (some x)) r xs
  | _, _ => none
/-- the target of a loop: one name, or names that a tuple is laid out upon -/
noncomputable def bindT (ρ : Rho) (t : Option Nat) (ts : List Nat) (x : PV) : Option Rho :=
  match t with
  | some i => some (ρ.set i (some x))
  | none => (pTup x).bind fun xs => setAll ρ ts xs
noncomputable def laid (n : Nat) (free : List (Nat × Nat)) (ρ : Rho) : Rho :=
  (List.range n).map fun j => match free.lookup j with | some i => (ρ[i]?).join | none => none

noncomputable def compL (f : PV → Option (Option PV)) : List PV → Option (List PV)
  | [] => some []
  | x :: r => do
    let o ← f x
    let ys ← compL f r
    match o with
    | some y => some (y :: ys)
    | none => some ys

mutual
noncomputable def ev (T : Nat → List PV → Option PV) : E → Rho → Option PV
  | .loc i, ρ => (ρ[i]?).join
  | .int i, _ => some (.int i)
  | .bool b, _ => some (.bool b)
  | .gtab, _ => some (.int 9)
  | .gblank, _ => some (.int 32)
  | .neg1, _ => some (.int (-1))
  | .add a b, ρ => do let x ← ev T a ρ; let y ← ev T b ρ; addPV x y
  | .sub a b, ρ => do let x ← ev T a ρ; let y ← ev T b ρ; subPV x y
  | .mul a b, ρ => do let x ← ev T a ρ; let y ← ev T b ρ; mulPV x y
  | .fdiv a b, ρ => do let x ← ev T a ρ; let y ← ev T b ρ; fdivPV x y
  | .mod a b, ρ => do let x ← ev T a ρ; let y ← ev T b ρ; modPV x y
  | .rep c n, ρ => do let x ← ev T c ρ; let y ← ev T n ρ; repPV x y
  | .cmp op a b, ρ => do let x ← ev T a ρ; let y ← ev T b ρ; (cmpPV op x y).map .bool
  | .cmp2 op₁ op₂ a b c, ρ => do
    let x ← ev T a ρ
    let y ← ev T b ρ
    let p ← cmpPV op₁ x y
    if p then do let z ← ev T c ρ; (cmpPV op₂ y z).map .bool else some (.bool false)
  | .inTup a x y, ρ => do
    let u ← ev T a ρ
    let k ← pInt u
    some (.bool (decide (k = x) || decide (k = y)))
  | .bop and es, ρ => (evB T and es ρ).map .bool
  | .ite t a b, ρ => do
    let u ← ev T t ρ
    let p ← pBool u
    if p then ev T a ρ else ev T b ρ
  | .idx a i, ρ => do let x ← ev T a ρ; let y ← ev T i ρ; idxPV x y
  | .upto a i, ρ => do let x ← ev T a ρ; let y ← ev T i ρ; uptoPV x y
  | .from_ a i, ρ => do let x ← ev T a ρ; let y ← ev T i ρ; fromPV x y
  | .call f es, ρ => do let xs ← evs T es ρ; T f xs
  | .len a, ρ => do let x ← ev T a ρ; lenPV x
  | .max a b, ρ => do let x ← ev T a ρ; let y ← ev T b ρ; maxPV x y
  | .lst es, ρ => do let xs ← evs T es ρ; mkL xs
  | .tup es, ρ => do let xs ← evs T es ρ; some (.tup xs)
  | .comp n free t ts elt iter cond, ρ => do
    let u ← ev T iter ρ
    let xs ← pLst u
    let ys ← compL (fun x => do
        let σ ← bindT (laid n free ρ) t ts x
        let p ← evO T cond σ
        if p then do let y ← ev T elt σ; some (some y) else some none) xs
    some (.list ys)
noncomputable def evs (T : Nat → List PV → Option PV) : List E → Rho → Option (List PV)
  | [], _ => some []
  | e :: r, ρ => do let x ← ev T e ρ; let xs ← evs T r ρ; some (x :: xs)
noncomputable def evB (T : Nat → List PV → Option PV) (and : Bool) : List E → Rho → Option Bool
  | [], _ => some and
  | e :: r, ρ => do
    let u ← ev T e ρ
    let p ← pBool u
    if p = and then evB T and r ρ else some p
noncomputable def evO (T : Nat → List PV → Option PV) : Option E → Rho → Option Bool
  | none, _ => some true
  | some e, ρ => do
    let u ← ev T e ρ
    pBool u
end
end Mine
end

section
open PySem PyProof.Rows
namespace Mine

section
variable {prog : Program} {w : World} {A : Around} {E : Value → Shared → Prop} {s : Shared}

noncomputable abbrev lstO (vs : Array Value) (n : Nat) : Obj := { cls := .type "list", data := .seq vs n }
noncomputable abbrev tupO (vs : Array Value) (n : Nat) : Obj := { cls := .type "tuple", data := .seq vs n }

theorem sizeLine_ge : 2 ^ 20 + 2 ^ 20 ≤ sizeLine := by rw [sizeLine]; decide

theorem cat_raw {l b : Addr} {vs ws : Array Value} {n m : Nat} {Q : Value → Shared → Prop} (hl : s.heap.get? l = some (lstO vs n)) (hb : s.heap.get? b = some (lstO ws m))
    (hsz : vs.size + ws.size ≤ sizeLine) (h : Q (.ref s.heap.objs.size) { s with heap := s.heap.push (lstO (vs ++ ws) 0) }) : wpAny (model prog w) A (binaryOp .Add (.ref l) (.ref b)) Q E s :=
  concat_meets ⟨_, hl, rfl⟩ ⟨_, hb, rfl⟩ noFill_list_add seq_list_add PySem.F.slot_list_add PySem.F.entry_list_add (PySem.F.args_list_add_2 _ _) (list_addW l b vs ws n m none none #[] #[] hsz) ⟨hl, hb, h⟩

theorem int_beq (a b : Int) : (a == b) = decide (a = b) := by by_cases h : a = b <;> simp [h]

theorem fold_rep (c : Value) : ∀ (k : Nat) (acc : Array Value), List.foldl (fun x1 x2 => x1 ++ x2) acc (List.replicate k #[c]) = acc ++ (List.replicate k c).toArray
  | 0, acc => by simp
  | k + 1, acc => by
    rw [List.replicate_succ, List.foldl_cons, fold_rep c k]
    rw [← Array.toList_inj]; simp [List.replicate_succ]

theorem rep_raw {l : Addr} {c : Value} {n : Nat} {x : Int} {u : Tok} {Q : Value → Shared → Prop} (hl : s.heap.get? l = some (lstO #[c] n))
    (hlo : -(2 ^ 63 : Int) ≤ x) (hsz : x.toNat ≤ 2 ^ 20) (h : Q (.ref s.heap.objs.size) { s with heap := s.heap.push (lstO (List.replicate x.toNat c).toArray 0) }) :
    wpAny (model prog w) A (binaryOp .Mult (.ref l) (.int x u)) Q E s := by
  refine wpAny_binaryOp_repeat_ref (T := "list") (U := "int") (by decide) ⟨_, hl, rfl⟩ (fun s' => typeIs_int s' x u) noFill_list_mul PySem.F.fills_int_mul PySem.F.slot_int_rmul repeat_list PySem.F.slot_int_index.lookup
    (call_meets PySem.F.slot_int_rmul (typeIs_int s x u) PySem.F.entry_int_rmul (PySem.F.args_int_rmul_2 _ _) (int___rmul___int_list x u l #[c] n)
      ⟨hl, rfl, ⟨_, hl, rfl⟩, call_meets PySem.F.slot_list_mul ⟨_, hl, rfl⟩ PySem.F.entry_list_mul (PySem.F.args_list_mul_2 _ _)
        (AutoListH.list___mul___list_int_3 l #[c] n x u (by simp [Builtin.List.listFitsIndex]; omega) (by simp; omega) (by simp [Builtin.List.listTooLong, sizeLine]; omega))
        ⟨hl, ?_⟩⟩)
  have e := fold_rep c x.toNat #[]
  simp only [Array.empty_append] at e
  simp only [List.isEmpty_toArray, List.isEmpty_cons, Bool.false_eq_true, if_false]
  rw [e]
  exact h

theorem ints_of {h : Heap} {D : Addr → Prop} : ∀ {vs : List Value} {ns : List Int}, Reps h D vs (ns.map .int) → IntsAre vs ns := by
  intro vs ns
  induction ns generalizing vs with
  | nil => intro h; cases h; exact .nil
  | cons n ns ih =>
    intro h
    cases h with
    | cons h1 h2 => cases h1; exact .cons _ _ (ih h2)

theorem allInts_inv : ∀ {xs : List PV} {ns : List Int}, allInts xs = some ns → xs = ns.map .int := by
  intro xs
  induction xs with
  | nil => intro ns h; cases h; rfl
  | cons x r ih =>
    intro ns h
    obtain ⟨i, h1, h2⟩ := Option.bind_eq_some_iff.mp h
    obtain ⟨l, h3, h4⟩ := Option.bind_eq_some_iff.mp h2
    cases h4
    rw [pInt_inv h1, ih h3]; rfl
theorem eqInts_spec {xs ys : List PV} {b : Bool} (h : eqInts xs ys = some b) : ∃ ns ms : List Int, xs = ns.map .int ∧ ys = ms.map .int ∧ b = decide (ns = ms) := by
  obtain ⟨ns, h1, h2⟩ := Option.bind_eq_some_iff.mp h
  obtain ⟨ms, h3, h4⟩ := Option.bind_eq_some_iff.mp h2
  exact ⟨ns, ms, allInts_inv h1, allInts_inv h3, (Option.some.inj h4).symm⟩
theorem twoL_inv {xs : List PV} {p : List PV × List PV} (h : twoL xs = some p) : xs = [.list p.1, .list p.2] := by
  match xs, h with
  | [a, b], h =>
    obtain ⟨a', h1, h2⟩ := Option.bind_eq_some_iff.mp h
    obtain ⟨b', h3, h4⟩ := Option.bind_eq_some_iff.mp h2
    cases h4
    rw [pLst_inv h1, pLst_inv h3]
theorem onI_inv {α : Type} {f : Int → Int → Option α} {x y : PV} {v : α} (h : onI f x y = some v) : ∃ a b, x = .int a ∧ y = .int b ∧ f a b = some v :=
  let ⟨a, h1, h2⟩ := Option.bind_eq_some_iff.mp h; let ⟨b, h3, h4⟩ := Option.bind_eq_some_iff.mp h2; ⟨a, b, pInt_inv h1, pInt_inv h3, h4⟩

theorem eqL_inv {x y : PV} {b : Bool} (h : eqL x y = some b) : ∃ xs ys, x = .list xs ∧ y = .list ys ∧ eqInts xs ys = some b :=
  let ⟨a, h1, h2⟩ := Option.bind_eq_some_iff.mp h; let ⟨b, h3, h4⟩ := Option.bind_eq_some_iff.mp h2; ⟨a, b, pLst_inv h1, pLst_inv h3, h4⟩
theorem eqT_inv {x y : PV} {b : Bool} (h : eqT x y = some b) : ∃ na nb nc nd : List Int, x = .tup [.list (na.map .int), .list (nb.map .int)] ∧ y = .tup [.list (nc.map .int), .list (nd.map .int)] ∧ b = (decide (na = nc) && decide (nb = nd)) := by
  obtain ⟨xs, hx, h⟩ := Option.bind_eq_some_iff.mp h
  obtain ⟨ys, hy, h⟩ := Option.bind_eq_some_iff.mp h
  obtain ⟨p, hp, h⟩ := Option.bind_eq_some_iff.mp h
  obtain ⟨q, hq, h⟩ := Option.bind_eq_some_iff.mp h
  obtain ⟨b1, hb1, h⟩ := Option.bind_eq_some_iff.mp h
  obtain ⟨b2, hb2, h⟩ := Option.bind_eq_some_iff.mp h
  obtain ⟨na, nc, e1, e2, e5⟩ := eqInts_spec hb1
  obtain ⟨nb, nd, e3, e4, e6⟩ := eqInts_spec hb2
  refine ⟨na, nb, nc, nd, ?_, ?_, ?_⟩
  · rw [pTup_inv hx, twoL_inv hp, e1, e3]
  · rw [pTup_inv hy, twoL_inv hq, e2, e4]
  · rw [← e5, ← e6]; exact (Option.some.inj h).symm

theorem reads_list {h : Heap} {D : Addr → Prop} {v : Value} {ns : List Int} (r : Rep h D v (.list (ns.map .int))) : ∃ a, v = .ref a ∧ Reads h (.ref a) (.list (ns.map PyData.int)) [a] := by
  cases r with
  | @list a vs n xs hD hg hr hl =>
    refine ⟨_, rfl, ?_⟩
    refine reads_newData (ys := vs.toList) ⟨_, hg, rfl, n, by simp⟩ (W.ke_carried (ints_of hr))

theorem reads_pair {h : Heap} {D : Addr → Prop} {a : Addr} {vs : Array Value} {n : Nat} {k l : List Int} (hg : h.get? a = some (tupO vs n)) (hr : Reps h D vs.toList [.list (k.map .int), .list (l.map .int)]) :
    ∃ as, Reads h (.ref a) (.tuple [.list (k.map PyData.int), .list (l.map PyData.int)]) as := by
  generalize e : vs.toList = us at hr
  cases hr with
  | cons r1 hr =>
  cases hr with
  | cons r2 hr =>
  cases hr
  obtain ⟨b1, rfl, q1⟩ := reads_list r1
  obtain ⟨b2, rfl, q2⟩ := reads_list r2
  exact ⟨_, reads_tuple_at hg rfl rfl (by rw [e]; exact .cons q1 (.cons q2 .nil))⟩
theorem pair_shaped (k l : List Int) : SeqAt.shaped (.tuple [.list (k.map PyData.int), .list (l.map PyData.int)]) = true := by
  simp [SeqAt.shaped, PyData.canLay0, PyData.canLayAll0, PyData.depth, PyData.depthAll, W.ke_canLayAll0, W.ke_depthAll]
theorem pair_eqv (na nb nc nd : List Int) : PyData.eqv (.tuple [.list (na.map PyData.int), .list (nb.map PyData.int)]) (.tuple [.list (nc.map PyData.int), .list (nd.map PyData.int)]) = (decide (na = nc) && decide (nb = nd)) := by
  simp only [PyData.eqv, PyData.eqvAll, W.ked_eqvAll, Bool.and_true]

/-- both == and != -/
noncomputable def EqRaw (prog : Program) (w : World) (A : Around) (s : Shared) (E : Value → Shared → Prop) (v w' : Value) (b : Bool) : Prop :=
  ∀ Q : Value → Shared → Prop, (Q (.bool b) s → wpAny (model prog w) A (compareOp .Eq v w') Q E s) ∧ (Q (.bool (!b)) s → wpAny (model prog w) A (compareOp .NotEq v w') Q E s)
theorem eq_raw {x y : PV} {b : Bool} {D : Addr → Prop} {v w' : Value} (he : eqPV x y = some b) (rx : Rep s.heap D v x) (ry : Rep s.heap D w' y) (hu : A.units + 64 < cLine) : EqRaw prog w A s E v w' b := by
  cases x with
  | none => cases he
  | bool _ => cases he
  | int a =>
    obtain ⟨a', c, e1, rfl, e3⟩ := onI_inv (f := fun a b => some (decide (a = b))) he
    cases e1
    cases e3
    cases rx; cases ry
    exact fun Q => ⟨fun h => P.eq_int (by rw [int_beq]; exact h), fun h => P.ne_int (by rw [bne, int_beq]; exact h)⟩
  | list xs =>
    obtain ⟨xs', ys, e1, rfl, h3⟩ := eqL_inv he
    cases e1
    obtain ⟨ns, ms, rfl, rfl, rfl⟩ := eqInts_spec h3
    obtain ⟨a, rfl, ra⟩ := reads_list rx
    obtain ⟨c, rfl, rc⟩ := reads_list ry
    exact fun Q => ⟨fun h => eq_dataH_same ra rc (W.ke_shaped_ints _) (W.ke_shaped_ints _) hu (SeqAt.noMix_of_shape (.list .int) rfl _ _ (list_map_has fun _ => rfl) (list_map_has fun _ => rfl)) (by rw [W.ke_same]; exact h),
        fun h => ne_dataH_same ra rc (W.ke_shaped_ints _) (W.ke_shaped_ints _) hu (SeqAt.noMix_of_shape (.list .int) rfl _ _ (list_map_has fun _ => rfl) (list_map_has fun _ => rfl)) (by rw [W.ke_same]; exact h)⟩
  | tup xs =>
    obtain ⟨na, nb, nc, nd, e1, rfl, rfl⟩ := eqT_inv he
    cases e1
    cases rx with
    | @tup a1 vs1 n1 _ _ hg1 hr1 _ =>
    cases ry with
    | @tup a2 vs2 n2 _ _ hg2 hr2 _ =>
    obtain ⟨as1, q1⟩ := reads_pair hg1 hr1
    obtain ⟨as2, q2⟩ := reads_pair hg2 hr2
    exact fun Q => ⟨fun h => eq_dataH q1 q2 (pair_shaped _ _) (pair_shaped _ _) hu (by rw [pair_eqv]; exact h), fun h => ne_dataH q1 q2 (pair_shaped _ _) (pair_shaped _ _) hu (by rw [pair_eqv]; exact h)⟩

theorem cmp_raw {op : CmpOp} {x y : PV} {b : Bool} {D : Addr → Prop} {v w' : Value} {Q : Value → Shared → Prop} (hc : cmpPV op x y = some b) (rx : Rep s.heap D v x) (ry : Rep s.heap D w' y)
    (hu : A.units + 64 < cLine) (h : Q (.bool b) s) : wpAny (model prog w) A (compareOp op v w') Q E s := by
  cases op with
  | Eq => exact (eq_raw hc rx ry hu Q).1 h
  | NotEq =>
    obtain ⟨q, hq, rfl⟩ := Option.map_eq_some_iff.mp hc
    exact (eq_raw hq rx ry hu Q).2 h
  | Lt => obtain ⟨a, c, rfl, rfl, e⟩ := onI_inv hc; cases rx; cases ry; cases e; exact P.lt_int h
  | LtE => obtain ⟨a, c, rfl, rfl, e⟩ := onI_inv hc; cases rx; cases ry; cases e; exact P.le_int h
  | Gt => obtain ⟨a, c, rfl, rfl, e⟩ := onI_inv hc; cases rx; cases ry; cases e; exact P.gt_int h
  | GtE => obtain ⟨a, c, rfl, rfl, e⟩ := onI_inv hc; cases rx; cases ry; cases e; exact P.ge_int h
  | _ => cases hc
end
end Mine
end

section
open PySem PyProof.Rows
namespace Mine

structure FnD where
  name : Str
  params : Arguments
  body : List Stmt
  scope : Scope

noncomputable abbrev Names := List (Str × NameKind)

noncomputable def isLoc (sc : Names) (i : Nat) (x : Str) : Bool :=
  match sc[i]? with
  | some (y, k) => y == x && (k == .local || k == .cell) && sc.lookup x == some k && !(x == ("__debug__" : Str))
  | none => false
noncomputable def isSto (sc : Names) (i : Nat) (x : Str) : Bool :=
  match sc[i]? with
  | some (y, k) => y == x && k == .local && sc.lookup x == some .local
  | none => false
noncomputable def isGlo (sc : Names) (x : Str) : Bool := sc.lookup x == some .globalImplicit && !(x == ("__debug__" : Str))
noncomputable def innerNames (sc scope : Names) : Names := scope.map fun (n, k) => if (k == .free && sc.lookup n == some .cell) then (n, .cell) else (n, k)

noncomputable def okArg : Expr → Bool
  | .Starred .. => false
  | .Slice .. => false
  | .Set .. => false
  | _ => true
noncomputable def okOp : CmpOp → Bool
  | .In | .NotIn | .Is | .IsNot => false
  | _ => true

noncomputable def freeOk (sc scope : Names) (free : List (Nat × Nat)) : Bool :=
  (free.all fun (j, i) => match scope[j]?, sc[i]? with
    | some (x, k), some (y, l) => x == y && k == .free && l == .cell && sc.lookup x == some .cell
    | _, _ => false) && scope.all (fun (x, k) => k != .free || sc.lookup x == some .cell)
noncomputable def compOk (n : Nat) (scope : Scope) : Bool :=
  scope.kind == .function && scope.names.length == n && decide ((scope.names.map (·.1)).Nodup) && scope.names.all (fun (x, k) => k != .cell && (k != .local || scope.names.lookup x == some .local))

section
/-- a look at a thing by its kind: what the kind t bears, and the thing back -/
structure Looks (α : Type) where
  F : Nat → Type
  sh : α → (t : Nat) × F t
  un : (t : Nat) → F t → Option α
  ok : ∀ (e x : α), un (sh e).1 (sh e).2 = some x → e = x
noncomputable def Looks.get {α : Type} (L : Looks α) (t : Nat) (e : α) : Option (L.F t) := if h : (L.sh e).1 = t then some (h ▸ (L.sh e).2) else none
theorem Looks.inv {α : Type} (L : Looks α) {t : Nat} {e : α} {q : L.F t} (h : L.get t e = some q) (x : α) (hx : L.un t q = some x) : e = x := by
  unfold Looks.get at h
  split at h
  · rename_i ht
    subst ht
    cases h
    exact L.ok e x hx
  · cases h
noncomputable abbrev FE : Nat → Type
  | 0 => Str × Pos
  | 1 => Int × Nat × Pos
  | 2 => Expr × Operator × Expr × Pos
  | 3 => UnaryOp × Expr × Pos
  | 4 => Expr × List CmpOp × List Expr × Pos
  | 5 => BoolOp × List Expr × Pos
  | 6 => Expr × Expr × Expr × Pos
  | 7 => Expr × Expr × Pos
  | 8 => Option Expr × Option Expr × Option Expr × Pos
  | 9 => Expr × List Expr × List Keyword × Pos
  | 10 => Expr × Str × Pos
  | 11 => List Expr × Pos
  | 12 => List Expr × Nat × Pos
  | 13 => Expr × List Comprehension × Scope × Pos
  | 14 => Bool × Nat × Pos
  | _ => Unit
noncomputable def shE : Expr → (t : Nat) × FE t
  | .Name x p => ⟨0, (x, p)⟩
  | .Constant (.int i) k p => ⟨1, (i, k, p)⟩
  | .Constant (.bool b) k p => ⟨14, (b, k, p)⟩
  | .BinOp l o r p => ⟨2, (l, o, r, p)⟩
  | .UnaryOp o e p => ⟨3, (o, e, p)⟩
  | .Compare l os rs p => ⟨4, (l, os, rs, p)⟩
  | .BoolOp o xs p => ⟨5, (o, xs, p)⟩
  | .IfExp x y z p => ⟨6, (x, y, z, p)⟩
  | .Subscript x y p => ⟨7, (x, y, p)⟩
  | .Slice a b c p => ⟨8, (a, b, c, p)⟩
  | .Call f xs ks p => ⟨9, (f, xs, ks, p)⟩
  | .Attribute x m p => ⟨10, (x, m, p)⟩
  | .List xs p => ⟨11, (xs, p)⟩
  | .Tuple xs k p => ⟨12, (xs, k, p)⟩
  | .ListComp e gs sc p => ⟨13, (e, gs, sc, p)⟩
  | _ => ⟨15, ()⟩
noncomputable def unE : (t : Nat) → FE t → Option Expr
  | 0, q => some (.Name q.1 q.2)
  | 1, q => some (.Constant (.int q.1) q.2.1 q.2.2)
  | 14, q => some (.Constant (.bool q.1) q.2.1 q.2.2)
  | 2, q => some (.BinOp q.1 q.2.1 q.2.2.1 q.2.2.2)
  | 3, q => some (.UnaryOp q.1 q.2.1 q.2.2)
  | 4, q => some (.Compare q.1 q.2.1 q.2.2.1 q.2.2.2)
  | 5, q => some (.BoolOp q.1 q.2.1 q.2.2)
  | 6, q => some (.IfExp q.1 q.2.1 q.2.2.1 q.2.2.2)
  | 7, q => some (.Subscript q.1 q.2.1 q.2.2)
  | 8, q => some (.Slice q.1 q.2.1 q.2.2.1 q.2.2.2)
  | 9, q => some (.Call q.1 q.2.1 q.2.2.1 q.2.2.2)
  | 10, q => some (.Attribute q.1 q.2.1 q.2.2)
  | 11, q => some (.List q.1 q.2)
  | 12, q => some (.Tuple q.1 q.2.1 q.2.2)
  | 13, q => some (.ListComp q.1 q.2.1 q.2.2.1 q.2.2.2)
  | _, _ => none
noncomputable def LE : Looks Expr := ⟨FE, shE, unE, fun e x => by
  cases e with
  | Constant c k p => cases c <;> (intro h; first | exact Option.some.inj h | cases h)
  | _ => intro h; first | exact Option.some.inj h | cases h⟩
noncomputable def xName (e : Expr) : Option (Str × Pos) := LE.get 0 e
theorem xName_inv {e : Expr} {q : Str × Pos} (h : xName e = some q) : e = .Name q.1 q.2 := LE.inv (t := 0) h _ rfl
noncomputable def xBin (e : Expr) : Option (Expr × Operator × Expr × Pos) := LE.get 2 e
theorem xBin_inv {e : Expr} {q : Expr × Operator × Expr × Pos} (h : xBin e = some q) : e = .BinOp q.1 q.2.1 q.2.2.1 q.2.2.2 := LE.inv (t := 2) h _ rfl
noncomputable def xUn (e : Expr) : Option (UnaryOp × Expr × Pos) := LE.get 3 e
theorem xUn_inv {e : Expr} {q : UnaryOp × Expr × Pos} (h : xUn e = some q) : e = .UnaryOp q.1 q.2.1 q.2.2 := LE.inv (t := 3) h _ rfl
noncomputable def xCmp (e : Expr) : Option (Expr × List CmpOp × List Expr × Pos) := LE.get 4 e
theorem xCmp_inv {e : Expr} {q : Expr × List CmpOp × List Expr × Pos} (h : xCmp e = some q) : e = .Compare q.1 q.2.1 q.2.2.1 q.2.2.2 := LE.inv (t := 4) h _ rfl
noncomputable def xBop (e : Expr) : Option (BoolOp × List Expr × Pos) := LE.get 5 e
theorem xBop_inv {e : Expr} {q : BoolOp × List Expr × Pos} (h : xBop e = some q) : e = .BoolOp q.1 q.2.1 q.2.2 := LE.inv (t := 5) h _ rfl
noncomputable def xIf (e : Expr) : Option (Expr × Expr × Expr × Pos) := LE.get 6 e
theorem xIf_inv {e : Expr} {q : Expr × Expr × Expr × Pos} (h : xIf e = some q) : e = .IfExp q.1 q.2.1 q.2.2.1 q.2.2.2 := LE.inv (t := 6) h _ rfl
noncomputable def xSub (e : Expr) : Option (Expr × Expr × Pos) := LE.get 7 e
theorem xSub_inv {e : Expr} {q : Expr × Expr × Pos} (h : xSub e = some q) : e = .Subscript q.1 q.2.1 q.2.2 := LE.inv (t := 7) h _ rfl
noncomputable def xSlice (e : Expr) : Option (Option Expr × Option Expr × Option Expr × Pos) := LE.get 8 e
theorem xSlice_inv {e : Expr} {q : Option Expr × Option Expr × Option Expr × Pos} (h : xSlice e = some q) : e = .Slice q.1 q.2.1 q.2.2.1 q.2.2.2 := LE.inv (t := 8) h _ rfl
noncomputable def xCall (e : Expr) : Option (Expr × List Expr × List Keyword × Pos) := LE.get 9 e
theorem xCall_inv {e : Expr} {q : Expr × List Expr × List Keyword × Pos} (h : xCall e = some q) : e = .Call q.1 q.2.1 q.2.2.1 q.2.2.2 := LE.inv (t := 9) h _ rfl
noncomputable def xAttr (e : Expr) : Option (Expr × Str × Pos) := LE.get 10 e
theorem xAttr_inv {e : Expr} {q : Expr × Str × Pos} (h : xAttr e = some q) : e = .Attribute q.1 q.2.1 q.2.2 := LE.inv (t := 10) h _ rfl
noncomputable def xList (e : Expr) : Option (List Expr × Pos) := LE.get 11 e
theorem xList_inv {e : Expr} {q : List Expr × Pos} (h : xList e = some q) : e = .List q.1 q.2 := LE.inv (t := 11) h _ rfl
noncomputable def xTup (e : Expr) : Option (List Expr × Nat × Pos) := LE.get 12 e
theorem xTup_inv {e : Expr} {q : List Expr × Nat × Pos} (h : xTup e = some q) : e = .Tuple q.1 q.2.1 q.2.2 := LE.inv (t := 12) h _ rfl
noncomputable def xComp (e : Expr) : Option (Expr × List Comprehension × Scope × Pos) := LE.get 13 e
theorem xComp_inv {e : Expr} {q : Expr × List Comprehension × Scope × Pos} (h : xComp e = some q) : e = .ListComp q.1 q.2.1 q.2.2.1 q.2.2.2 := LE.inv (t := 13) h _ rfl
noncomputable def xInt (e : Expr) : Option Int := (LE.get 1 e).map fun (q : Int × Nat × Pos) => q.1
noncomputable def xBool (e : Expr) : Option Bool := (LE.get 14 e).map fun (q : Bool × Nat × Pos) => q.1
theorem xInt_inv {e : Expr} {i : Int} (h : xInt e = some i) : ∃ k p, e = .Constant (.int i) k p := by
  obtain ⟨q, h1, h2⟩ := Option.map_eq_some_iff.mp h
  exact ⟨_, _, h2 ▸ LE.inv (t := 1) h1 _ rfl⟩
theorem xBool_inv {e : Expr} {i : Bool} (h : xBool e = some i) : ∃ k p, e = .Constant (.bool i) k p := by
  obtain ⟨q, h1, h2⟩ := Option.map_eq_some_iff.mp h
  exact ⟨_, _, h2 ▸ LE.inv (t := 14) h1 _ rfl⟩

/-- a test of what an accessor finds -/
noncomputable def on {α : Type} (o : Option α) (f : α → Bool) : Bool := match o with
  | some a => f a
  | none => false
theorem on_inv {α : Type} {o : Option α} {f : α → Bool} (h : on o f = true) : ∃ a, o = some a ∧ f a = true := by
  cases o with
  | none => cases h
  | some a => exact ⟨a, rfl, h⟩
noncomputable def one {α : Type} : List α → Option α
  | [a] => some a
  | _ => none
noncomputable def two {α : Type} : List α → Option (α × α)
  | [a, b] => some (a, b)
  | _ => none
theorem one_inv {α : Type} {l : List α} {a : α} (h : one l = some a) : l = [a] := by
  match l, h with
  | [b], h => cases h; rfl
theorem two_inv {α : Type} {l : List α} {q : α × α} (h : two l = some q) : l = [q.1, q.2] := by
  match l, h with
  | [a, b], h => cases h; rfl
theorem and_inv {a b : Bool} (h : (a && b) = true) : a = true ∧ b = true := by
  cases a <;> cases b <;> first | exact ⟨rfl, rfl⟩ | cases h
theorem beq_inv {α : Type} [BEq α] [LawfulBEq α] {a b : α} (h : (a == b) = true) : a = b := eq_of_beq h
end

noncomputable def mName (f : Str → Bool) (x : Expr) : Bool := on (xName x) fun q => f q.1
noncomputable def mNeg (x : Expr) : Bool := on (xUn x) fun q => q.1 == .USub && on (xInt q.2.1) fun j => j == 1
noncomputable def mBin (o : Operator) (f g : Expr → Bool) (x : Expr) : Bool := on (xBin x) fun q => q.2.1 == o && (f q.1 && g q.2.2.1)
noncomputable def mCmp (o : CmpOp) (f g : Expr → Bool) (x : Expr) : Bool := on (xCmp x) fun q => on (one q.2.1) fun o' => o' == o && on (one q.2.2.1) fun r => f q.1 && g r
noncomputable def mCmp2 (o₁ o₂ : CmpOp) (f g h : Expr → Bool) (x : Expr) : Bool := on (xCmp x) fun q => on (two q.2.1) fun o => (o.1 == o₁ && o.2 == o₂) && on (two q.2.2.1) fun r => f q.1 && (g r.1 && h r.2)
noncomputable def mInts (i j : Int) (r : Expr) : Bool := on (xTup r) fun t => on (two t.1) fun y => xInt y.1 == some i && xInt y.2 == some j
noncomputable def mIn (i j : Int) (f : Expr → Bool) (x : Expr) : Bool := mCmp .In f (mInts i j) x
noncomputable def mBop (p : Bool) (f : List Expr → Bool) (x : Expr) : Bool := on (xBop x) fun q => (q.1 == (if p then .And else .Or)) && f q.2.1
noncomputable def mIf (f g h : Expr → Bool) (x : Expr) : Bool := on (xIf x) fun q => f q.1 && (g q.2.1 && h q.2.2.1)
noncomputable def mSub (f g : Expr → Bool) (x : Expr) : Bool := on (xSub x) fun q => f q.1 && g q.2.1
noncomputable def mUpto (g : Expr → Bool) (x : Expr) : Bool := on (xSlice x) fun q => (q.1.isNone && q.2.2.1.isNone) && on q.2.1 g
noncomputable def mFrom (g : Expr → Bool) (x : Expr) : Bool := on (xSlice x) fun q => (q.2.1.isNone && q.2.2.1.isNone) && on q.1 g
noncomputable def mCall (f : Str → Bool) (g : List Expr → Bool) (x : Expr) : Bool := on (xCall x) fun q => q.2.2.1.isEmpty && (on (xName q.1) (fun n => f n.1) && g q.2.1)
noncomputable def mList (f : List Expr → Bool) (x : Expr) : Bool := on (xList x) fun q => f q.1
noncomputable def mTup (f : List Expr → Bool) (x : Expr) : Bool := on (xTup x) fun q => f q.1
noncomputable def mComp (s : Scope → Bool) (it : Expr → Bool) (tg : Names → Expr → Bool) (el : Names → Expr → Bool) (cd : Names → List Expr → Bool) (sc : Names) (x : Expr) : Bool :=
  on (xComp x) fun q => on (one q.2.1) fun g => (g.is_async == 0 && (okArg g.iter && s q.2.2.1)) && (it g.iter && (tg (innerNames sc q.2.2.1.names) g.target && (el (innerNames sc q.2.2.1.names) q.1 && cd (innerNames sc q.2.2.1.names) g.ifs)))

theorem on_el {α : Type} {o : Option α} {f : α → Bool} {P : Prop} (h : on o f = true) (k : ∀ a, o = some a → f a = true → P) : P := (on_inv h).elim fun a h => k a h.1 h.2
theorem and_el {a b : Bool} {P : Prop} (h : (a && b) = true) (k : a = true → b = true → P) : P := k (and_inv h).1 (and_inv h).2
theorem bnd {α β : Type} {o : Option α} {f : α → Option β} {v : β} {P : Prop} (h : (o >>= f) = some v) (k : ∀ a, o = some a → f a = some v → P) : P := (Option.bind_eq_some_iff.mp h).elim fun a h => k a h.1 h.2
theorem ex6 {α β γ δ ε ζ : Type} {Q : α → β → γ → δ → ε → ζ → Prop} {P : Prop} (h : ∃ a b c d e f, Q a b c d e f) (k : ∀ a b c d e f, Q a b c d e f → P) : P := h.elim fun a h => h.elim fun b h => h.elim fun c h => h.elim fun d h => h.elim fun e h => h.elim fun f h => k a b c d e f h
theorem and11 {a b c d e f g h i j k P : Prop} (H : a ∧ b ∧ c ∧ d ∧ e ∧ f ∧ g ∧ h ∧ i ∧ j ∧ k) (K : a → b → c → d → e → f → g → h → i → j → k → P) : P :=
  K H.1 H.2.1 H.2.2.1 H.2.2.2.1 H.2.2.2.2.1 H.2.2.2.2.2.1 H.2.2.2.2.2.2.1 H.2.2.2.2.2.2.2.1 H.2.2.2.2.2.2.2.2.1 H.2.2.2.2.2.2.2.2.2.1 H.2.2.2.2.2.2.2.2.2.2
theorem not_inv {b : Bool} (h : (!b) = true) : b = false := by cases b <;> first | rfl | cases h
@[elab_as_elim] theorem mName_el {f : Str → Bool} {P : Expr → Prop} {x : Expr} (h : mName f x = true) (k : ∀ y p, f y = true → P (.Name y p)) : P x := on_el h fun q h1 h => xName_inv h1 ▸ k _ _ h
@[elab_as_elim] theorem mInt_el {i : Int} {P : Expr → Prop} {x : Expr} (h : (xInt x == some i) = true) (k : ∀ a p, P (.Constant (.int i) a p)) : P x := (xInt_inv (beq_inv h)).elim fun a h => h.elim fun p e => e ▸ k a p
@[elab_as_elim] theorem mBool_el {i : Bool} {P : Expr → Prop} {x : Expr} (h : (xBool x == some i) = true) (k : ∀ a p, P (.Constant (.bool i) a p)) : P x := (xBool_inv (beq_inv h)).elim fun a h => h.elim fun p e => e ▸ k a p
@[elab_as_elim] theorem mNeg_el {P : Expr → Prop} {x : Expr} (h : mNeg x = true) (k : ∀ a p q, P (.UnaryOp .USub (.Constant (.int 1) a p) q)) : P x :=
  on_el h fun q h1 h => and_el h fun h2 h => on_el h fun j h3 h4 => xUn_inv h1 ▸ beq_inv h2 ▸ mInt_el (P := fun y => P (.UnaryOp .USub y q.2.2)) (show (xInt q.2.1 == some 1) = true by rw [h3, beq_inv h4]; rfl) fun a p => k a p q.2.2
@[elab_as_elim] theorem mBin_el {o : Operator} {f g : Expr → Bool} {P : Expr → Prop} {x : Expr} (h : mBin o f g x = true) (k : ∀ l r p, f l = true → g r = true → P (.BinOp l o r p)) : P x :=
  on_el h fun q h1 h => and_el h fun h2 h => and_el h fun h3 h4 => xBin_inv h1 ▸ beq_inv h2 ▸ k _ _ _ h3 h4
@[elab_as_elim] theorem mCmp_el {o : CmpOp} {f g : Expr → Bool} {P : Expr → Prop} {x : Expr} (h : mCmp o f g x = true) (k : ∀ l r p, f l = true → g r = true → P (.Compare l [o] [r] p)) : P x :=
  on_el h fun q h1 h => on_el h fun o' h2 h => and_el h fun h3 h => on_el h fun r h4 h => and_el h fun h5 h6 => xCmp_inv h1 ▸ one_inv h2 ▸ one_inv h4 ▸ beq_inv h3 ▸ k _ _ _ h5 h6
@[elab_as_elim] theorem mCmp2_el {o₁ o₂ : CmpOp} {f g u : Expr → Bool} {P : Expr → Prop} {x : Expr} (h : mCmp2 o₁ o₂ f g u x = true) (k : ∀ l m r p, f l = true → g m = true → u r = true → P (.Compare l [o₁, o₂] [m, r] p)) : P x :=
  on_el h fun q h1 h => on_el h fun o h2 h => and_el h fun h3 h => and_el h3 fun h3 h3' => on_el h fun r h4 h => and_el h fun h5 h => and_el h fun h6 h7 => xCmp_inv h1 ▸ two_inv h2 ▸ two_inv h4 ▸ beq_inv h3 ▸ beq_inv h3' ▸ k _ _ _ _ h5 h6 h7
@[elab_as_elim] theorem mInts_el {i j : Int} {P : Expr → Prop} {x : Expr} (h : mInts i j x = true) (k : ∀ k1 p1 k2 p2 k3 p3, P (.Tuple [.Constant (.int i) k1 p1, .Constant (.int j) k2 p2] k3 p3)) : P x :=
  on_el h fun t h1 h => on_el h fun y h3 h => and_el h fun h5 h6 => xTup_inv h1 ▸ two_inv h3 ▸ mInt_el (P := fun a => P (.Tuple [a, y.2] t.2.1 t.2.2)) h5 fun a p => mInt_el (P := fun b => P (.Tuple [.Constant (.int i) a p, b] t.2.1 t.2.2)) h6 fun b r => k a p b r _ _
@[elab_as_elim] theorem mBop_el {b : Bool} {f : List Expr → Bool} {P : Expr → Prop} {x : Expr} (h : mBop b f x = true) (k : ∀ xs q, f xs = true → P (.BoolOp (if b then .And else .Or) xs q)) : P x :=
  on_el h fun q h1 h => and_el h fun h2 h3 => xBop_inv h1 ▸ beq_inv h2 ▸ k _ _ h3
@[elab_as_elim] theorem mIf_el {f g u : Expr → Bool} {P : Expr → Prop} {x : Expr} (h : mIf f g u x = true) (k : ∀ y z v q, f y = true → g z = true → u v = true → P (.IfExp y z v q)) : P x :=
  on_el h fun q h1 h => and_el h fun h2 h => and_el h fun h3 h4 => xIf_inv h1 ▸ k _ _ _ _ h2 h3 h4
@[elab_as_elim] theorem mSub_el {f g : Expr → Bool} {P : Expr → Prop} {x : Expr} (h : mSub f g x = true) (k : ∀ l r p, f l = true → g r = true → P (.Subscript l r p)) : P x := on_el h fun q h1 h => and_el h fun h2 h3 => xSub_inv h1 ▸ k _ _ _ h2 h3
theorem isNone_inv {α : Type} {o : Option α} (h : o.isNone = true) : o = none := Option.isNone_iff_eq_none.mp h
@[elab_as_elim] theorem mUpto_el {f : Expr → Bool} {P : Expr → Prop} {x : Expr} (h : mUpto f x = true) (k : ∀ r p, f r = true → P (.Slice none (some r) none p)) : P x :=
  on_el h fun q h1 h => and_el h fun h2 h => and_el h2 fun h2 h3 => on_el h fun r h4 h5 => by rw [xSlice_inv h1, isNone_inv h2, isNone_inv h3, show _ = some r from h4]; exact k r _ h5
@[elab_as_elim] theorem mFrom_el {f : Expr → Bool} {P : Expr → Prop} {x : Expr} (h : mFrom f x = true) (k : ∀ r p, f r = true → P (.Slice (some r) none none p)) : P x :=
  on_el h fun q h1 h => and_el h fun h2 h => and_el h2 fun h2 h3 => on_el h fun r h4 h5 => by rw [xSlice_inv h1, isNone_inv h2, isNone_inv h3, show _ = some r from h4]; exact k r _ h5
theorem isEmpty_inv {α : Type} {l : List α} (h : l.isEmpty = true) : l = [] := List.isEmpty_iff.mp h
@[elab_as_elim] theorem mCall_el {f : Str → Bool} {g : List Expr → Bool} {P : Expr → Prop} {x : Expr} (h : mCall f g x = true) (k : ∀ y np xs p, f y = true → g xs = true → P (.Call (.Name y np) xs [] p)) : P x :=
  on_el h fun q h1 h => and_el h fun h2 h => and_el h fun h3 h4 => on_el h3 fun n h3 h5 => xCall_inv h1 ▸ isEmpty_inv h2 ▸ xName_inv h3 ▸ k _ _ _ _ h5 h4
@[elab_as_elim] theorem mList_el {f : List Expr → Bool} {P : Expr → Prop} {x : Expr} (h : mList f x = true) (k : ∀ xs p, f xs = true → P (.List xs p)) : P x := on_el h fun q h1 h => xList_inv h1 ▸ k _ _ h
@[elab_as_elim] theorem mTup_el {f : List Expr → Bool} {P : Expr → Prop} {x : Expr} (h : mTup f x = true) (k : ∀ xs u p, f xs = true → P (.Tuple xs u p)) : P x := on_el h fun q h1 h => xTup_inv h1 ▸ k _ _ _ h
@[elab_as_elim] theorem mOne_el {f : Expr → Bool} {P : List Expr → Prop} {xs : List Expr} (h : on (one xs) f = true) (k : ∀ x, f x = true → P [x]) : P xs := on_el h fun x h1 h2 => one_inv h1 ▸ k x h2
@[elab_as_elim] theorem mTwo_el {f : Expr × Expr → Bool} {P : List Expr → Prop} {xs : List Expr} (h : on (two xs) f = true) (k : ∀ x y, f (x, y) = true → P [x, y]) : P xs := on_el h fun x h1 h2 => two_inv h1 ▸ k x.1 x.2 h2
@[elab_as_elim] theorem hd_el {α : Type} {f : α → Bool} {P : List α → Prop} {xs : List α} (h : on xs.head? f = true) (k : ∀ x, f x = true → P (x :: xs.tail)) : P xs := by
  cases xs with
  | nil => cases h
  | cons y ys => exact k y h
@[elab_as_elim] theorem mCons_el {f : Expr → Bool} {g : List Expr → Bool} {P : List Expr → Prop} {xs : List Expr} (h : (on xs.head? (fun x => okArg x && f x) && g xs.tail) = true) (k : ∀ x ys, okArg x = true → f x = true → g ys = true → P (x :: ys)) : P xs :=
  and_el h fun h h3 => hd_el h fun x h => and_el h fun h1 h2 => k x _ h1 h2 h3
theorem gen_eq (g : Comprehension) (h : g.is_async = 0) : g = ⟨g.target, g.iter, g.ifs, 0⟩ := by cases g; cases h; rfl
@[elab_as_elim] theorem mComp_el {s : Scope → Bool} {it : Expr → Bool} {tg el : Names → Expr → Bool} {cd : Names → List Expr → Bool} {sc : Names} {P : Expr → Prop} {x : Expr} (h : mComp s it tg el cd sc x = true)
    (k : ∀ e target iter ifs scope p, okArg iter = true → s scope = true → it iter = true → tg (innerNames sc scope.names) target = true → el (innerNames sc scope.names) e = true → cd (innerNames sc scope.names) ifs = true → P (.ListComp e [⟨target, iter, ifs, 0⟩] scope p)) : P x :=
  on_el h fun q h1 h => on_el h fun g h3 h => and_el h fun h5 h => and_el h5 fun h7 h8 => and_el h8 fun h9 h10 => and_el h fun h11 h => and_el h fun h13 h => and_el h fun h15 h16 => by
    have e : g = ⟨g.target, g.iter, g.ifs, 0⟩ := gen_eq g (beq_inv h7)
    rw [xComp_inv h1, one_inv h3, e]
    exact k q.1 g.target g.iter g.ifs q.2.2.1 q.2.2.2 h9 h10 h11 h13 h15 h16

theorem mName_inv {f : Str → Bool} {x : Expr} (h : mName f x = true) : ∃ y p, x = .Name y p ∧ f y = true := mName_el h fun y p h => ⟨y, p, rfl, h⟩
theorem mBin_inv {o : Operator} {f g : Expr → Bool} {x : Expr} (h : mBin o f g x = true) : ∃ l r p, x = .BinOp l o r p ∧ f l = true ∧ g r = true := mBin_el h fun l r p h1 h2 => ⟨l, r, p, rfl, h1, h2⟩
theorem mCmp_inv {o : CmpOp} {f g : Expr → Bool} {x : Expr} (h : mCmp o f g x = true) : ∃ l r p, x = .Compare l [o] [r] p ∧ f l = true ∧ g r = true := mCmp_el h fun l r p h1 h2 => ⟨l, r, p, rfl, h1, h2⟩
theorem mIf_inv {f g k : Expr → Bool} {x : Expr} (h : mIf f g k x = true) : ∃ y z u q, x = .IfExp y z u q ∧ f y = true ∧ g z = true ∧ k u = true := mIf_el h fun y z u q h1 h2 h3 => ⟨y, z, u, q, rfl, h1, h2, h3⟩
theorem mSub_inv {f g : Expr → Bool} {x : Expr} (h : mSub f g x = true) : ∃ l r p, x = .Subscript l r p ∧ f l = true ∧ g r = true := mSub_el h fun l r p h1 h2 => ⟨l, r, p, rfl, h1, h2⟩
theorem mUpto_inv {g : Expr → Bool} {x : Expr} (h : mUpto g x = true) : ∃ r p, x = .Slice none (some r) none p ∧ g r = true := mUpto_el h fun r p h => ⟨r, p, rfl, h⟩
theorem mCall_inv {f : Str → Bool} {g : List Expr → Bool} {x : Expr} (h : mCall f g x = true) : ∃ y np xs p, x = .Call (.Name y np) xs [] p ∧ f y = true ∧ g xs = true := mCall_el h fun y np xs p h1 h2 => ⟨y, np, xs, p, rfl, h1, h2⟩
theorem mTup_inv {f : List Expr → Bool} {x : Expr} (h : mTup f x = true) : ∃ xs k p, x = .Tuple xs k p ∧ f xs = true := mTup_el h fun xs k p h => ⟨xs, k, p, rfl, h⟩
theorem mComp_inv {s : Scope → Bool} {it : Expr → Bool} {tg el : Names → Expr → Bool} {cd : Names → List Expr → Bool} {sc : Names} {x : Expr} (h : mComp s it tg el cd sc x = true) :
    ∃ e target iter ifs scope p, x = .ListComp e [⟨target, iter, ifs, 0⟩] scope p ∧ okArg iter = true ∧ s scope = true ∧ it iter = true ∧ tg (innerNames sc scope.names) target = true ∧ el (innerNames sc scope.names) e = true ∧ cd (innerNames sc scope.names) ifs = true :=
  mComp_el h fun e target iter ifs scope p h1 h2 h3 h4 h5 h6 => ⟨e, target, iter, ifs, scope, p, rfl, h1, h2, h3, h4, h5, h6⟩

noncomputable def matchTs (sc : Names) : List Nat → List Expr → Bool
  | [], xs => xs.isEmpty
  | i :: r, xs => on xs.head? (mName (isSto sc i)) && matchTs sc r xs.tail
theorem matchTs_nil {sc : Names} {xs : List Expr} (h : matchTs sc [] xs = true) : xs = [] := List.isEmpty_iff.mp h
theorem matchTs_cons {sc : Names} {i : Nat} {r : List Nat} {xs : List Expr} (h : matchTs sc (i :: r) xs = true) : ∃ y p ys, xs = .Name y p :: ys ∧ isSto sc i y = true ∧ matchTs sc r ys = true := by
  refine and_el h fun h1 h2 => hd_el (P := fun xs => ∃ y p ys, xs = .Name y p :: ys ∧ isSto sc i y = true ∧ matchTs sc r ys = true) h1 fun x h => mName_el (P := fun x => ∃ y p ys, x :: xs.tail = .Name y p :: ys ∧ isSto sc i y = true ∧ matchTs sc r ys = true) h fun y p h => ⟨y, p, _, rfl, h, h2⟩
noncomputable def matchT (sc : Names) (t : Option Nat) (ts : List Nat) (x : Expr) : Bool :=
  match t with
  | some i => mName (isSto sc i) x
  | none => mTup (matchTs sc ts) x

mutual
noncomputable def matchE (fns : List FnD) (B : Nat) : E → Names → Expr → Bool
  | .loc i, sc, x => mName (isLoc sc i) x
  | .int i, _, x => xInt x == some i
  | .bool b, _, x => xBool x == some b
  | .gtab, sc, x => mName (fun y => y == ("TAB" : Str) && isGlo sc y) x
  | .gblank, sc, x => mName (fun y => y == ("BLANK" : Str) && isGlo sc y) x
  | .neg1, _, x => mNeg x
  | .add a b, sc, x => mBin .Add (matchE fns B a sc) (matchE fns B b sc) x
  | .sub a b, sc, x => mBin .Sub (matchE fns B a sc) (matchE fns B b sc) x
  | .mul a b, sc, x => mBin .Mult (matchE fns B a sc) (matchE fns B b sc) x
  | .fdiv a b, sc, x => mBin .FloorDiv (matchE fns B a sc) (matchE fns B b sc) x
  | .mod a b, sc, x => mBin .Mod (matchE fns B a sc) (matchE fns B b sc) x
  | .rep c n, sc, x => mBin .Mult (mList fun xs => on (one xs) fun y => okArg y && matchE fns B c sc y) (matchE fns B n sc) x
  | .cmp op a b, sc, x => okOp op && mCmp op (matchE fns B a sc) (matchE fns B b sc) x
  | .cmp2 op₁ op₂ a b c, sc, x => (okOp op₁ && okOp op₂) && mCmp2 op₁ op₂ (matchE fns B a sc) (matchE fns B b sc) (matchE fns B c sc) x
  | .inTup a i j, sc, x => mIn i j (matchE fns B a sc) x
  | .bop p es, sc, x => !es.isEmpty && mBop p (matchEs fns B es sc) x
  | .ite t a b, sc, x => mIf (matchE fns B t sc) (matchE fns B a sc) (matchE fns B b sc) x
  | .idx a i, sc, x => mSub (matchE fns B a sc) (fun r => okArg r && matchE fns B i sc r) x
  | .upto a i, sc, x => mSub (matchE fns B a sc) (mUpto (matchE fns B i sc)) x
  | .from_ a i, sc, x => mSub (matchE fns B a sc) (mFrom (matchE fns B i sc)) x
  | .call f es, sc, x => (decide (f < B) && !es.isEmpty) && mCall (fun y => isGlo sc y && on fns[f]? fun d => d.name == y) (matchEs fns B es sc) x
  | .len a, sc, x => mCall (fun y => y == ("len" : Str) && isGlo sc y) (fun xs => on (one xs) fun l => okArg l && matchE fns B a sc l) x
  | .max a b, sc, x => mCall (fun y => y == ("max" : Str) && isGlo sc y) (fun xs => on (two xs) fun q => (okArg q.1 && okArg q.2) && (matchE fns B a sc q.1 && matchE fns B b sc q.2)) x
  | .lst es, sc, x => mList (matchEs fns B es sc) x
  | .tup es, sc, x => decide (es.length ≤ 100) && mTup (matchEs fns B es sc) x
  | .comp n free t ts elt iter cond, sc, x => mComp (fun scope => compOk n scope && freeOk sc scope.names free) (matchE fns B iter sc) (fun sc' => matchT sc' t ts) (fun sc' => matchE fns B elt sc') (fun sc' => matchO fns B cond sc') sc x
noncomputable def matchEs (fns : List FnD) (B : Nat) : List E → Names → List Expr → Bool
  | [], _, xs => xs.isEmpty
  | e :: es, sc, xs => on xs.head? (fun x => okArg x && matchE fns B e sc x) && matchEs fns B es sc xs.tail
noncomputable def matchO (fns : List FnD) (B : Nat) : Option E → Names → List Expr → Bool
  | none, _, xs => xs.isEmpty
  | some e, sc, xs => on (one xs) fun x => matchE fns B e sc x
end
/-- what is known of the top -/
structure Base (mg mb : Str → Option Value) (fns : List FnD) (h : Heap) : Prop where
  g : h.Ns mainGlobals mg
  b : h.Ns builtinsNs mb
  lim : h.NoLimit
  fn : ∀ (f : Nat) (d : FnD), fns[f]? = some d → ∃ a o pm code doc, mg d.name = some (.ref a) ∧ h.get? a = some o ∧ o.data = .func (Calls.docDef d.name d.params d.body d.scope pm code doc) ∧ h.CodeRec code d.name
theorem Base.keep {mg mb : Str → Option Value} {fns : List FnD} {h h' : Heap} (x : Base mg mb fns h) (hk : Kept h h') : Base mg mb fns h' where
  g := x.g.keeps hk
  b := x.b.keeps hk
  lim := x.lim.keeps hk
  fn := fun f d e => let ⟨a, o, pm, code, doc, h1, h2, h3, h4⟩ := x.fn f d e; ⟨a, o, pm, code, doc, h1, hk _ _ h2, h3, h4.keeps hk⟩

structure Glo (mg mb : Str → Option Value) : Prop where
  tab : ∃ t, mg "TAB" = some (.int 9 t)
  blank : ∃ t, mg "BLANK" = some (.int 32 t)
  len : mg "len" = none ∧ mb "len" = some (.builtin "len")
  max : mg "max" = none ∧ mb "max" = some (.builtin "max")
  range : mg "range" = none ∧ mb "range" = some (.type "range")

noncomputable def Loads (env : Env) (h : Heap) (x : Str) (w : Value) : Prop :=
  (env.kindOf x = some .local ∧ ∃ m, h.Ns env.locals m ∧ m x = some w) ∨ (env.kindOf x = some .cell ∧ ∃ c, env.cells.lookup x = some c ∧ h.IsCell c (some w))
theorem Loads.keep {env : Env} {h h' : Heap} {x : Str} {w : Value} (l : Loads env h x w) (hk : Kept h h') : Loads env h' x w := by
  rcases l with ⟨hl, m, hn, e⟩ | ⟨hl, c, hc, hi⟩
  · exact .inl ⟨hl, m, hn.keeps hk, e⟩
  · exact .inr ⟨hl, c, hc, hi.keeps hk⟩

noncomputable def Inv (env : Env) (h : Heap) (D : Addr → Prop) (ρ : Rho) : Prop :=
  ∀ (i : Nat) (x : Str) (k : NameKind) (v : PV), env.scope.names[i]? = some (x, k) → ρ[i]? = some (some v) → ∃ w, Loads env h x w ∧ Rep h D w v
theorem Inv.keep {env : Env} {h h' : Heap} {D : Addr → Prop} {ρ : Rho} (I : Inv env h D ρ) (hk : Kept h h') : Inv env h' D ρ := fun i x k v e1 e2 =>
  let ⟨w, l, r⟩ := I i x k v e1 e2; ⟨w, l.keep hk, r.keep hk⟩

structure EnvOk (env : Env) : Prop where
  kind : env.scope.kind = .function
  globals : env.globals = mainGlobals
  builtins : env.builtins = builtinsNs
  cells : ∀ x, env.kindOf x = some .cell → ∃ c, env.cells.lookup x = some c
  nodup : (env.scope.names.map (·.1)).Nodup

structure Room (A : Around) (n : Nat) : Prop where
  handled : A.handled = none
  depth : A.depth + n + 1 < recursionLimit
  units : A.units + 4 * n + 100 < cLine
theorem Room.le {A : Around} {n m : Nat} (r : Room A n) (h : m ≤ n) : Room A m := ⟨r.handled, by have := r.depth; omega, by have := r.units; omega⟩

/-- what turns lies in the heap -/
noncomputable abbrev DOk (D : Addr → Prop) (h : Heap) : Prop := ∀ a, D a → ∃ o, h.get? a = some o
theorem DOk.keep {D : Addr → Prop} {h h' : Heap} (x : DOk D h) (hk : Kept h h') : DOk D h' := fun a ha => let ⟨o, e⟩ := x a ha; ⟨o, hk _ _ e⟩
theorem DOk.fresh {D : Addr → Prop} {h : Heap} (x : DOk D h) : ¬ D h.objs.size := fun k => by
  obtain ⟨o, e⟩ := x _ k
  exact Nat.lt_irrefl _ (Heap.lt_size e)

/-- what every step has at hand -/
structure Rdy (mg mb : Str → Option Value) (fns : List FnD) (B : Nat) (A : Around) (env : Env) (D : Addr → Prop) (ρ : Rho) (h : Heap) : Prop where
  ok : EnvOk env
  room : Room A B
  base : Base mg mb fns h
  inv : Inv env h D ρ
  dok : DOk D h
theorem Rdy.keep {mg mb : Str → Option Value} {fns : List FnD} {B : Nat} {A : Around} {env : Env} {D : Addr → Prop} {ρ : Rho} {h h' : Heap} (r : Rdy mg mb fns B A env D ρ h) (hk : Kept h h') : Rdy mg mb fns B A env D ρ h' :=
  ⟨r.ok, r.room, r.base.keep hk, r.inv.keep hk, r.dok.keep hk⟩

noncomputable abbrev PostE (s : Shared) (D : Addr → Prop) (v : PV) (Q : Value → Shared → Prop) : Prop := ∀ h' tk' w, Kept s.heap h' → Rep h' D w v → Q w { s with heap := h', toks := tk' }
noncomputable abbrev PostEs (s : Shared) (D : Addr → Prop) (vs : List PV) (Q : List Value → Shared → Prop) : Prop := ∀ h' tk' ws, Kept s.heap h' → Reps h' D ws vs → Q ws { s with heap := h', toks := tk' }
noncomputable abbrev PostB (s : Shared) (b : Bool) (Q : Bool → Shared → Prop) : Prop := ∀ h' tk', Kept s.heap h' → Q b { s with heap := h', toks := tk' }

/-- the contract of the def f -/
noncomputable def Contract (prog : Program) (w : World) (mg mb : Str → Option Value) (fns : List FnD) (T : Nat → List PV → Option PV) (f : Nat) : Prop :=
  ∀ (d : FnD) (a : Addr) (A : Around) (D : Addr → Prop) (s : Shared) (vs : List Value) (xs : List PV) (v : PV) (Q E : Value → Shared → Prop),
    fns[f]? = some d → mg d.name = some (.ref a) → Room A (f + 1) → Base mg mb fns s.heap → DOk D s.heap → Reps s.heap D vs xs → T f xs = some v → PostE s D v Q → wpAny (model prog w) A (call (.ref a) vs) Q E s

theorem Kept.refl (h : Heap) : Kept h h := fun _ _ e => e
theorem Kept.trans {h₁ h₂ h₃ : Heap} (a : Kept h₁ h₂) (b : Kept h₂ h₃) : Kept h₁ h₃ := fun _ _ e => b _ _ (a _ _ e)
theorem Kept.push {h : Heap} (o : Obj) : Kept h (h.push o) := fun _ _ e => Heap.get?_push_of_some _ e

section
variable {M : Model} {A : Around} {E : Value → Shared → Prop} {s : Shared} {env : Env}

theorem isLoc_spec {sc : Names} {i : Nat} {x : Str} (h : isLoc sc i x = true) : ∃ k, sc[i]? = some (x, k) ∧ (k = .local ∨ k = .cell) ∧ sc.lookup x = some k ∧ (x == ("__debug__" : Str)) = false := by
  unfold isLoc at h
  split at h
  · rename_i y k e
    simp only [Bool.and_eq_true, beq_iff_eq, Bool.or_eq_true, Bool.not_eq_true'] at h
    obtain ⟨⟨⟨rfl, hk⟩, hl⟩, hd⟩ := h
    exact ⟨k, e, hk, hl, hd⟩
  · cases h
theorem isSto_spec {sc : Names} {i : Nat} {x : Str} (h : isSto sc i x = true) : sc[i]? = some (x, .local) ∧ sc.lookup x = some .local := by
  unfold isSto at h
  split at h
  · rename_i y k e
    simp only [Bool.and_eq_true, beq_iff_eq] at h
    obtain ⟨⟨rfl, rfl⟩, hl⟩ := h
    exact ⟨e, hl⟩
  · cases h
theorem isGlo_spec {sc : Names} {x : Str} (h : isGlo sc x = true) : sc.lookup x = some .globalImplicit ∧ (x == ("__debug__" : Str)) = false := by
  unfold isGlo at h
  simpa only [Bool.and_eq_true, beq_iff_eq, Bool.not_eq_true'] using h

theorem load_name {x : Str} {p : Pos} {w : Value} {Q : Value → Shared → Prop} (hk : env.scope.kind = .function) (hd : (x == ("__debug__" : Str)) = false) (l : Loads env s.heap x w) (h : Q w s) :
    wpAny M A (eval (.Name x p) env) Q E s := by
  refine wpAny_Name ?_ hd
  rcases l with ⟨hl, m, hn, e⟩ | ⟨hl, c, hc, hi⟩
  · exact wpAny_loadName_local hk hl hn e h
  · exact wpAny_loadName_cell hk hl hc hi h

theorem glob_name {mg mb : Str → Option Value} {fns : List FnD} {x : Str} {p : Pos} {w : Value} {Q : Value → Shared → Prop} (ho : EnvOk env) (hb : Base mg mb fns s.heap) (hx : isGlo env.scope.names x = true)
    (hv : mg x = some w) (h : Q w s) : wpAny M A (eval (.Name x p) env) Q E s := by
  obtain ⟨h1, h2⟩ := isGlo_spec hx
  exact Calls.Name_function_global ho.kind h1 (Calls.loadGlobal_global (by rw [ho.globals]; exact hb.g) hv h) h2
theorem blt_name {mg mb : Str → Option Value} {fns : List FnD} {x : Str} {p : Pos} {w : Value} {Q : Value → Shared → Prop} (ho : EnvOk env) (hb : Base mg mb fns s.heap) (hx : isGlo env.scope.names x = true)
    (hv : mg x = none ∧ mb x = some w) (h : Q w s) : wpAny M A (eval (.Name x p) env) Q E s := by
  obtain ⟨h1, h2⟩ := isGlo_spec hx
  exact Calls.Name_function_global ho.kind h1 (Calls.loadGlobal_builtin (by rw [ho.globals]; exact hb.g) hv.1 (by rw [ho.builtins]; exact hb.b) hv.2 h) h2

theorem behind_ok {op : CmpOp} (h : okOp op = true) (e : Expr) : behindInMarks op e = false := by
  have q : (op == .In || op == .NotIn) = false := by cases op <;> first | rfl | cases h
  unfold behindInMarks
  split
  · rw [q]; simp
  · rfl
theorem star_ok {e : Expr} (h : okArg e = true) (rest : List Expr) : starEach (e :: rest) env = (false, eval e env) :: starEach rest env := by
  cases e <;> first | rfl | cases h
theorem set_ok {e : Expr} (h : okArg e = true) (x : Value) : foldedSetIterable e env x = pure x := by
  cases e <;> first | rfl | cases h
theorem sub_ok {e : Expr} (h : okArg e = true) (o i : Value) : subscripted e false o i = operate [o, i] (getItem o i) := by
  cases e <;> first | rfl | cases h
theorem release_ {vs ks : List Value} {Q : Unit → Shared → Prop} (h : Q () s) : wpAny M A (release vs ks) Q E s := fun Γ p _ => by rw [Sem.wp_release]; exact h

/-- a chain of two comparisons, as a value and as a test -/
theorem chain2 {l m r : Expr} {o₁ o₂ : CmpOp} {pos : Pos} {Q : Value → Shared → Prop} (h2 : okOp o₂ = true)
    (h : wpAny M A (eval l env) (fun a s₁ => wpAny M A (eval m env) (fun b s₂ => wpAny M A (compareOp o₁ a b) (fun c s₃ => ∃ p, c = .bool p ∧ if p = true then wpAny M A (eval r env) (fun d s₄ => wpAny M A (compareOp o₂ b d) Q E s₄) E s₃ else Q (.bool false) s₃) E s₂) E s₁) E s) :
    wpAny M A (eval (.Compare l [o₁, o₂] [m, r] pos) env) Q E s := by
  have e : eval (.Compare l [o₁, o₂] [m, r] pos) env = (do
    let a ← eval l env
    let b ← holding [a] (eval m env)
    standAt pos
    let c ← holding [a, b] (compareOp o₁ a b)
    release [a, b] [c]
    if ← holding [c, b] (truthy c) then (do
      let d ← holding [b] (markedBehindIn o₂ r (eval r env))
      standAt pos
      operate [b, d] (compareOp o₂ b d)) else pure c) := rfl
  rw [e, markedBehindIn_of_false (behind_ok h2 r)]
  refine wpAny_bind (wpAny_mono h (fun a s₁ h₁ => wpAny_bind (wpAny_holding (wpAny_mono h₁ (fun b s₂ h₂ => wpAny_bind (wpAny_standAt (wpAny_bind (wpAny_holding (wpAny_mono h₂ (fun c s₃ h₃ => ?_) fun _ _ x => x))))) fun _ _ x => x))) fun _ _ x => x)
  obtain ⟨p, rfl, h₃⟩ := h₃
  refine wpAny_bind (release_ ?_)
  refine wpAny_bind (wpAny_holding (wpAny_truthy_bool ?_))
  cases p with
  | false => exact wpAny_pure h₃
  | true => exact wpAny_bind (wpAny_holding (wpAny_mono h₃ (fun d s₄ h₄ => wpAny_bind (wpAny_standAt (wpAny_operateT h₄))) fun _ _ x => x))
theorem test2 {l m r : Expr} {o₁ o₂ : CmpOp} {pos : Pos} {whole : Sem Value} {Q : Bool → Shared → Prop} (h2 : okOp o₂ = true)
    (h : wpAny M A (eval l env) (fun a s₁ => wpAny M A (eval m env) (fun b s₂ => wpAny M A (compareOp o₁ a b) (fun c s₃ => ∃ p, c = .bool p ∧ if p = true then wpAny M A (eval r env) (fun d s₄ => wpAny M A (compareOp o₂ b d) (fun f s₅ => ∃ q, f = .bool q ∧ Q q s₅) E s₄) E s₃ else Q false s₃) E s₂) E s₁) E s) :
    wpAny M A (isTrue (.Compare l [o₁, o₂] [m, r] pos) env whole) Q E s := by
  have e : isTrue (.Compare l [o₁, o₂] [m, r] pos) env whole = (do
    let a ← eval l env
    let b ← holding [a] (eval m env)
    standAt pos
    let c ← holding [a, b] (compareOp o₁ a b)
    release [a, b] [c]
    if ← holding [c, b] (truthy c) then (do
      let d ← holding [b] (markedBehindIn o₂ r (eval r env))
      standAt pos
      let c ← operate [b, d] (compareOp o₂ b d)
      holding [c] (truthy c)) else pure false) := rfl
  rw [e, markedBehindIn_of_false (behind_ok h2 r)]
  refine wpAny_bind (wpAny_mono h (fun a s₁ h₁ => wpAny_bind (wpAny_holding (wpAny_mono h₁ (fun b s₂ h₂ => wpAny_bind (wpAny_standAt (wpAny_bind (wpAny_holding (wpAny_mono h₂ (fun c s₃ h₃ => ?_) fun _ _ x => x))))) fun _ _ x => x))) fun _ _ x => x)
  obtain ⟨p, rfl, h₃⟩ := h₃
  refine wpAny_bind (release_ ?_)
  refine wpAny_bind (wpAny_holding (wpAny_truthy_bool ?_))
  cases p with
  | false => exact wpAny_pure h₃
  | true =>
    refine wpAny_bind (wpAny_holding (wpAny_mono h₃ (fun d s₄ h₄ => wpAny_bind (wpAny_standAt (wpAny_bind (wpAny_operateT (wpAny_mono h₄ (fun f s₅ h₅ => ?_) fun _ _ x => x))))) fun _ _ x => x))
    obtain ⟨q, rfl, h₅⟩ := h₅
    exact wpAny_holding (wpAny_truthy_bool h₅)

theorem boolOp_one {pos : Pos} {op : BoolOp} {x : Sem Value} : boolOp pos op [x] = x := rfl
theorem boolOp_cons {pos : Pos} {and : Bool} {x y : Sem Value} {rest : List (Sem Value)} {Q : Value → Shared → Prop}
    (h : wpAny M A x (fun v s₁ => ∃ p, v = .bool p ∧ if p = and then wpAny M A (boolOp pos (if and then .And else .Or) (y :: rest)) Q E s₁ else Q (.bool p) s₁) E s) :
    wpAny M A (boolOp pos (if and then .And else .Or) (x :: y :: rest)) Q E s := by
  cases and with
  | true =>
    show wpAny M A (do
      let v ← x
      standAt pos
      let t ← holding [v] (truthy v)
      match BoolOp.And, t with
      | .And, false | .Or, true => pure v
      | _, _ => boolOp pos .And (y :: rest)) Q E s
    refine wpAny_bind (wpAny_mono h (fun v s₁ h₁ => wpAny_bind (wpAny_standAt ?_)) fun _ _ x => x)
    obtain ⟨p, rfl, h₁⟩ := h₁
    refine wpAny_bind (wpAny_holding (wpAny_truthy_bool ?_))
    cases p with
    | false => exact wpAny_pure h₁
    | true => exact h₁
  | false =>
    show wpAny M A (do
      let v ← x
      standAt pos
      let t ← holding [v] (truthy v)
      match BoolOp.Or, t with
      | .And, false | .Or, true => pure v
      | _, _ => boolOp pos .Or (y :: rest)) Q E s
    refine wpAny_bind (wpAny_mono h (fun v s₁ h₁ => wpAny_bind (wpAny_standAt ?_)) fun _ _ x => x)
    obtain ⟨p, rfl, h₁⟩ := h₁
    refine wpAny_bind (wpAny_holding (wpAny_truthy_bool ?_))
    cases p with
    | false => exact h₁
    | true => exact wpAny_pure h₁
end

section
variable {prog : Program} {w : World} {A : Around} {E : Value → Shared → Prop} {s : Shared} {env : Env}

/-- an item or a part of a list or a tuple: the temporary is let go where the base is no name -/
theorem sub_tail {value slice : Expr} {o i : Value} {T id : String} {ops : List Value} {Q : Value → Shared → Prop} (hT : s.TypeIs o T) (hl : typeLookup (.type T) "__getitem__" = pure (some (.builtin id)))
    (hs : subscripted slice false o i = operate ops (getItem o i)) (h : wpAny (model prog w) A (getItem o i) Q E s) : wpAny (model prog w) A (subscriptTail value slice o i) Q E s := by
  unfold subscriptTail
  refine wpAny_bind ?_
  rw [getitemInPython_of_ne hT.not_modules]
  refine wpAny_bind (wpAny_specialOf hT hl ?_)
  have fin : wpAny (model prog w) A (subscripted slice false o i) (fun r s₃ => wpAny (model prog w) A (letTemporaryGo value o r >>= fun _ => pure r) Q E s₃) E s := by
    rw [hs]
    exact wpAny_operateT (wpAny_mono h (fun r s₃ h₃ => wpAny_bind (wpAny_letTemporaryGo (wpAny_pure h₃))) fun _ _ x => x)
  first
    | exact wpAny_pure (wpAny_bind fin)
    | exact wpAny_bind (wpAny_pure (wpAny_bind fin))
    | exact wpAny_bind fin

theorem pick_from (vs : Array Value) (i : Nat) : slicePick vs (some (i : Int)) none none = (vs.toList.drop i).toArray := by
  by_cases h : i ≤ vs.size
  · exact slicePick_from vs i h
  · have e1 : vs.toList.drop i = [] := by simp; omega
    rw [e1]
    unfold slicePick
    have e2 : sliceBounds (some (i : Int)) none none vs.size = ((vs.size : Int), (vs.size : Int), 1) := by
      simp only [sliceBounds, Option.getD_none, show (1 : Int) > 0 by decide, if_true]
      have : ¬ ((i : Int) < 0) := by omega
      simp only [this, if_false]
      congr 1
      omega
    rw [e2]
    have := sliceRange_one vs.size vs.size
    simp only at this ⊢
    rw [this]
    simp
theorem pick_upto (vs : Array Value) (i : Nat) : slicePick vs none (some (i : Int)) none = (vs.toList.take i).toArray := by
  by_cases h : i ≤ vs.size
  · exact slicePick_upto vs i h
  · have e1 : vs.toList.take i = vs.toList.take vs.size := by rw [List.take_of_length_le (by simp; omega), List.take_of_length_le (by simp)]
    rw [e1, ← slicePick_upto vs vs.size (Nat.le_refl _)]
    unfold slicePick
    have e2 : sliceBounds none (some (i : Int)) none vs.size = sliceBounds none (some (vs.size : Int)) none vs.size := by
      simp only [sliceBounds, Option.getD_none, show (1 : Int) > 0 by decide, if_true]
      have h1 : ¬ ((i : Int) < 0) := by omega
      have h2 : ¬ ((vs.size : Int) < 0) := by omega
      simp only [h1, h2, if_false]
      congr 2
      omega
    rw [e2]

theorem slice_raw {value : Expr} {lower upper : Option Expr} {p : Pos} {l : Addr} {vs : Array Value} {n : Nat} {vl vu : Value} {lo hi : Option Int} {Q : Value → Shared → Prop}
    (hl : s.heap.get? l = some (lstO vs n)) (pl : IsPart vl lo) (pu : IsPart vu hi) (hsz : vs.size ≤ sizeLine)
    (h : Q (.ref (s.heap.objs.size + 1)) { s with heap := (s.heap.push { cls := .type "slice", data := .fields #[vl, vu, .none] }).push (lstO (slicePick vs lo hi none) 0) }) :
    wpAny (model prog w) A (subscriptTail value (.Slice lower upper none p) (.ref l) (.ref s.heap.objs.size)) Q E { s with heap := s.heap.push { cls := .type "slice", data := .fields #[vl, vu, .none] } } := by
  have hL : s.heap.IsList l vs := ⟨_, hl, rfl, n, rfl⟩
  refine sub_tail (ops := [.ref s.heap.objs.size, .ref l]) (Heap.IsList.typeIs (s := { s with heap := s.heap.push { cls := .type "slice", data := .fields #[vl, vu, .none] } }) (hL.push _)) list_getitem_lookup rfl
    (wpAny_getItem_list_slice (hL.push _) (Heap.IsSliceOf.new ..) pl pu .none (by simp) ?_ hsz)
  show Q (.ref (s.heap.push _).objs.size) _
  rw [Heap.size_push]
  exact h
end
end Mine
end

section
open PySem PyProof.Rows
namespace Mine

theorem ns_unique {h : Heap} {a : Addr} {m m' : Str → Option Value} (x : h.Ns a m) (y : h.Ns a m') (k : Str) : m k = m' k := by
  obtain ⟨o, es, ep, ho, hd, _, hm⟩ := x
  obtain ⟨o', es', ep', ho', hd', _, hm'⟩ := y
  rw [ho] at ho'
  cases ho'
  rw [hd] at hd'
  cases hd'
  rw [← hm, ← hm']

theorem ns_not_cell {h : Heap} {a : Addr} {m : Str → Option Value} {v : Option Value} (x : h.Ns a m) (y : h.IsCell a v) : False := by
  obtain ⟨o, es, ep, ho, hd, _⟩ := x
  obtain ⟨o', ho', hd'⟩ := y
  rw [ho] at ho'
  cases ho'
  rw [hd] at hd'
  cases hd'

noncomputable abbrev HasNs (env : Env) (h : Heap) : Prop := ∃ m, h.Ns env.locals m

theorem getElem_inj_of_nodup {sc : Names} (hn : (sc.map (·.1)).Nodup) {i j : Nat} {x : Str} {k l : NameKind} (hi : sc[i]? = some (x, k)) (hj : sc[j]? = some (x, l)) : i = j := by
  have h1 : (sc.map (·.1))[i]? = some x := by simp [hi]
  have h2 : (sc.map (·.1))[j]? = some x := by simp [hj]
  obtain ⟨hi', e1⟩ := List.getElem?_eq_some_iff.mp h1
  obtain ⟨hj', e2⟩ := List.getElem?_eq_some_iff.mp h2
  rcases Nat.lt_trichotomy i j with q | q | q
  · exact absurd (e1.trans e2.symm) (List.pairwise_iff_getElem.mp hn i j hi' hj' q)
  · exact q
  · exact absurd (e2.trans e1.symm) (List.pairwise_iff_getElem.mp hn j i hj' hi' q)

theorem set_get {ρ : Rho} {i j : Nat} {v u : PV} (h : (ρ.set i (some v))[j]? = some (some u)) : (j = i ∧ u = v) ∨ (j ≠ i ∧ ρ[j]? = some (some u)) := by
  by_cases e : j = i
  · subst e
    rw [List.getElem?_set] at h
    simp only [if_true] at h
    split at h
    · exact .inl ⟨rfl, by simpa using h.symm⟩
    · cases h
  · rw [List.getElem?_set_ne (Ne.symm e)] at h
    exact .inr ⟨e, h⟩

section
variable {M : Model} {A : Around} {E : Value → Shared → Prop} {s : Shared} {env : Env}

theorem inv_set {h h' : Heap} {D : Addr → Prop} {ρ : Rho} {i : Nat} {x : Str} {v : PV} {w : Value} {m : Str → Option Value} (ho : EnvOk env) (hs : isSto env.scope.names i x = true) (I : Inv env h D ρ) (r : Rep h' D w v)
    (hn : h.Ns env.locals m) (hn' : h'.Ns env.locals (fun y => if y = x then some w else m y)) (hb : Heap.SameBut env.locals h h') (hD : D env.locals) : Inv env h' D (ρ.set i (some v)) := by
  obtain ⟨h1, h2⟩ := isSto_spec hs
  intro j y k u hj hu
  rcases set_get hu with ⟨rfl, rfl⟩ | ⟨hne, hu⟩
  · rw [h1] at hj
    cases hj
    exact ⟨w, .inl ⟨h2, _, hn', by simp⟩, r⟩
  · obtain ⟨w', l, r'⟩ := I j y k u hj hu
    refine ⟨w', ?_, r'.move fun b o hDb e => ⟨hDb, (hb.2 b fun q => hDb (q ▸ hD)).trans e⟩⟩
    have hyx : y ≠ x := fun q => hne (getElem_inj_of_nodup ho.nodup hj (q ▸ h1))
    rcases l with ⟨hl, m₂, hn₂, e⟩ | ⟨hl, c, hc, hi⟩
    · exact .inl ⟨hl, _, hn', by rw [if_neg hyx, ns_unique hn hn₂, e]⟩
    · refine .inr ⟨hl, c, hc, hi.sameBut hb fun q => ?_⟩
      subst q
      exact ns_not_cell hn hi

theorem store_slot {D : Addr → Prop} {ρ : Rho} {i : Nat} {x : Str} {v : PV} {w : Value} {Q : Unit → Shared → Prop} (ho : EnvOk env) (hs : isSto env.scope.names i x = true) (I : Inv env s.heap D ρ) (r : Rep s.heap D w v)
    (hn : HasNs env s.heap) (hD : D env.locals)
    (h : ∀ h' tk', Heap.SameBut env.locals s.heap h' → HasNs env h' → Inv env h' D (ρ.set i (some v)) → Q () { s with heap := h', toks := tk' }) : wpAny M A (storeName env x w) Q E s := by
  obtain ⟨m, hn⟩ := hn
  refine wpAny_storeName_local (isSto_spec hs).2 hn (fun h' hn' hb => ?_) (by rw [ho.kind]; rfl)
  exact h h' _ hb ⟨_, hn'⟩ (inv_set ho hs I (r.move fun b o hDb e => ⟨hDb, (hb.2 b fun q => hDb (q ▸ hD)).trans e⟩) hn hn' hb hD)
end

section
variable {prog : Program} {w : World} {A : Around} {E : Value → Shared → Prop} {s : Shared} {env : Env}

theorem same_off {C : Addr → Prop} {a : Addr} {h h' : Heap} (hb : Heap.SameBut a h h') (ha : C a) : KeptOff C h h' := fun b _ hC e => (hb.2 b fun q => hC (q ▸ ha)).trans e
theorem KeptOff.trans {C : Addr → Prop} {h₁ h₂ h₃ : Heap} (x : KeptOff C h₁ h₂) (y : KeptOff C h₂ h₃) : KeptOff C h₁ h₃ := fun b _ hC e => y b _ hC (x b _ hC e)
theorem Kept.off {C : Addr → Prop} {h h' : Heap} (x : Kept h h') : KeptOff C h h' := fun b _ _ e => x b _ e
theorem extBut_kept {h h' : Heap} (x : Heap.ExtBut h.objs.size h h') : Kept h h' := fun b _ e => x b _ (Nat.ne_of_lt (Heap.lt_size e)) e

noncomputable abbrev IsL (a : Addr) (b : Addr) : Prop := b = a

theorem Reps.mapR {h h' : Heap} {D : Addr → Prop} (mv : ∀ u y, Rep h D u y → Rep h' D u y) {ws : List Value} {ys : List PV} (q : Reps h D ws ys) : Reps h' D ws ys := by
  induction ws generalizing ys with
  | nil => cases q; exact .nil
  | cons _ _ ih => cases q with
    | cons a b => exact .cons (mv _ _ a) (ih b)
theorem setAll_len {ρ ρ' : Rho} {ts : List Nat} {xs : List PV} (h : setAll ρ ts xs = some ρ') : ts.length = xs.length := by
  induction ts generalizing xs ρ with
  | nil => cases xs with
    | nil => rfl
    | cons _ _ => cases h
  | cons i r ih => cases xs with
    | nil => cases h
    | cons y ys => exact congrArg (· + 1) (ih h)
theorem matchTs_len {sc : Names} {ts : List Nat} {elts : List Expr} (h : matchTs sc ts elts = true) : (assignEach elts env).length = ts.length ∧ (assignEach elts env).findIdx? (·.1) = none := by
  induction ts generalizing elts with
  | nil => rw [matchTs_nil h]; exact ⟨rfl, rfl⟩
  | cons i r ih =>
    obtain ⟨y, p, ys, rfl, _, h2⟩ := matchTs_cons h
    obtain ⟨h3, h4⟩ := ih h2
    refine ⟨congrArg (· + 1) h3, ?_⟩
    show ((false, _) :: assignEach ys env).findIdx? (·.1) = none
    rw [List.findIdx?_cons, h4]; rfl

/-- what a store into a name does, by whatever is held -/
noncomputable def Stores (prog : Program) (w : World) (A : Around) (Ex : Value → Shared → Prop) (env : Env) (D : Addr → Prop) (ok : Nat → Bool) (P : Rho → Heap → Prop) (R : Heap → Heap → Prop) : Prop :=
  ∀ (i : Nat) (x : Str) (v : PV) (w' : Value) (ρ : Rho) (s : Shared) (Q : Unit → Shared → Prop), isSto env.scope.names i x = true → ok i = true → P ρ s.heap → Rep s.heap D w' v →
    (∀ h' tk', R s.heap h' → (∀ u y, Rep s.heap D u y → Rep h' D u y) → P (ρ.set i (some v)) h' → Q () { s with heap := h', toks := tk' }) → wpAny (model prog w) A (storeName env x w') Q Ex s

theorem assigns_gen {D : Addr → Prop} {ok : Nat → Bool} {P : Rho → Heap → Prop} {R : Heap → Heap → Prop} (hRr : ∀ a, R a a) (hRt : ∀ a b c, R a b → R b c → R a c) (store : Stores prog w A E env D ok P R) :
    ∀ (ts : List Nat) (elts : List Expr) (ws : List Value) (xs : List PV) (ρ ρ' : Rho) (s : Shared) (Q : Unit → Shared → Prop), matchTs env.scope.names ts elts = true → ts.all ok = true → setAll ρ ts xs = some ρ' → P ρ s.heap → Reps s.heap D ws xs →
    (∀ h' tk', R s.heap h' → P ρ' h' → Q () { s with heap := h', toks := tk' }) → wpAny (model prog w) A (assignInOrder ((assignEach elts env).map (·.2)) ws) Q E s := by
  intro ts
  induction ts with
  | nil =>
    intro elts ws xs ρ ρ' s Q hm hno hs I Rr h
    rw [matchTs_nil hm]
    cases xs with
    | cons _ _ => cases hs
    | nil => cases hs; cases Rr; exact wpAny_pure (h s.heap s.toks (hRr _) I)
  | cons i r ih =>
    intro elts ws xs ρ ρ' s Q hm hno hs I Rr h
    obtain ⟨y, p, es, rfl, h1, h2⟩ := matchTs_cons hm
    obtain ⟨h3, h4⟩ := and_inv (show (ok i && r.all ok) = true from hno)
    cases xs with
    | nil => cases hs
    | cons x' xs =>
      cases Rr with
      | @cons v' _ ws _ r1 rr =>
        show wpAny _ A (do holding ws (assign (.Name y p) env v'); assignInOrder ((assignEach es env).map (·.2)) ws) Q E s
        exact wpAny_bind (wpAny_holding (wpAny_assign_Name (store i y x' v' ρ s _ h1 h3 I r1 fun h' tk' k mv I' =>
          ih es ws xs _ _ _ Q h2 h4 hs I' (rr.mapR mv) fun h'' tk'' k' I'' => h h'' tk'' (hRt _ _ _ k k') I'')))

/-- one target, or a tuple laid out upon names -/
theorem assign_gen {D : Addr → Prop} {ok : Nat → Bool} {P : Rho → Heap → Prop} {R : Heap → Heap → Prop} (hRr : ∀ a, R a a) (hRt : ∀ a b c, R a b → R b c → R a c) (hRk : ∀ a b, Kept a b → R a b) (hPk : ∀ ρ a b, P ρ a → Kept a b → P ρ b) (store : Stores prog w A E env D ok P R)
    {t : Option Nat} {ts : List Nat} {target : Expr} {x : PV} {ρ ρ' : Rho} {v : Value} {Q : Unit → Shared → Prop} (hh : A.handled = none) (hm : matchT env.scope.names t ts target = true) (ho : t.all ok = true) (hos : ts.all ok = true)
    (hb : bindT ρ t ts x = some ρ') (I : P ρ s.heap) (r : Rep s.heap D v x) (h : ∀ h' tk', R s.heap h' → P ρ' h' → Q () { s with heap := h', toks := tk' }) : wpAny (model prog w) A (assign target env v) Q E s := by
  cases t with
  | some i =>
    obtain ⟨y, p, rfl, h1⟩ := mName_inv (f := isSto env.scope.names i) hm
    cases hb
    exact wpAny_assign_Name (store i y x v ρ s _ h1 ho I r fun h' tk' k _ I' => h h' tk' k I')
  | none =>
    obtain ⟨elts, k, p, rfl, h1⟩ := mTup_inv (f := matchTs env.scope.names ts) hm
    obtain ⟨xs, hx, hb⟩ := Option.bind_eq_some_iff.mp (show (pTup x).bind (fun xs => setAll ρ ts xs) = some ρ' from hb)
    rw [pTup_inv hx] at r
    cases r with
    | @tup a vs n _ hDa hg hr hl =>
      obtain ⟨e1, e2⟩ := matchTs_len (env := env) h1
      refine wpAny_assign_Tuple hh ⟨_, hg, rfl, n, rfl⟩ (by rw [e1, setAll_len hb, ← hr.length]; exact Array.length_toList) e2 fun h₁ he => ?_
      have hk : Kept s.heap h₁ := extBut_kept he
      exact assigns_gen hRr hRt store ts elts _ xs ρ ρ' _ Q h1 hos hb (hPk _ _ _ I hk) (hr.keep hk) fun h' tk' k' I' => h h' tk' (hRt _ _ _ (hRk _ _ hk) k') I'

theorem all_true (l : List Nat) : l.all (fun _ => true) = true := by induction l with
  | nil => rfl
  | cons _ _ ih => exact ih
theorem assign_sound {D : Addr → Prop} {t : Option Nat} {ts : List Nat} {target : Expr} {x : PV} {ρ ρ' : Rho} {v : Value} {Q : Unit → Shared → Prop} (ho : EnvOk env) (hh : A.handled = none) (hD : D env.locals) (hm : matchT env.scope.names t ts target = true)
    (hb : bindT ρ t ts x = some ρ') (I : Inv env s.heap D ρ) (r : Rep s.heap D v x) (hn : HasNs env s.heap)
    (h : ∀ h' tk', KeptOff (IsL env.locals) s.heap h' → HasNs env h' → Inv env h' D ρ' → Q () { s with heap := h', toks := tk' }) : wpAny (model prog w) A (assign target env v) Q E s :=
  assign_gen (ok := fun _ => true) (P := fun ρ h => HasNs env h ∧ Inv env h D ρ) (R := KeptOff (IsL env.locals)) (fun _ _ _ _ e => e) (fun _ _ _ x y => x.trans y) (fun _ _ k => k.off) (fun _ _ _ I k => ⟨let ⟨m, q⟩ := I.1; ⟨m, q.keeps k⟩, I.2.keep k⟩)
    (fun i y v w' ρ s Q h1 _ I r h => store_slot ho h1 I.2 r I.1 hD fun h' tk' hb hn' I' => h h' tk' (same_off hb rfl) (fun u y r => r.move fun b o hDb e => ⟨hDb, (hb.2 b fun q => hDb (q ▸ hD)).trans e⟩) ⟨hn', I'⟩)
    hh hm (by cases t <;> rfl) (all_true ts) hb ⟨hn, I⟩ r fun h' tk' k I' => h h' tk' k I'.1 I'.2
end
end Mine
end

section
open PySem PyProof.Rows
namespace Mine

section
variable {env : Env}

theorem closure_go (ho : EnvOk env) : ∀ (names : Names) (acc : List (Str × Addr)), (∀ x, (x, NameKind.free) ∈ names → env.kindOf x = some .cell) → (∀ x c, acc.lookup x = some c → env.cells.lookup x = some c) →
    ∃ cl, (forIn names acc (fun x cs => match x with | (name, kind) => if (kind == NameKind.free) = true then (do let a ← cellOf env name; pure (ForInStep.yield ((name, a) :: cs))) else pure (ForInStep.yield cs)) : Sem (List (Str × Addr))) = pure cl ∧
      (∀ x c, cl.lookup x = some c → env.cells.lookup x = some c) ∧ (∀ x, (x, NameKind.free) ∈ names → (cl.lookup x).isSome) ∧ (∀ x, (acc.lookup x).isSome → (cl.lookup x).isSome)
  | [], acc, _, ha => ⟨acc, by rw [List.forIn_nil], ha, fun _ h => (nomatch h), fun _ h => h⟩
  | (n, k) :: r, acc, hf, ha => by
    rw [List.forIn_cons]
    dsimp only
    by_cases hk : (k == NameKind.free) = true
    · have hk' : k = .free := by simpa using hk
      subst hk'
      obtain ⟨c, hc⟩ := ho.cells n (hf n (.head _))
      have e : cellOf env n = pure c := by unfold cellOf; rw [hc]
      rw [if_pos hk, e]
      obtain ⟨cl, h1, h2, h3, h4⟩ := closure_go ho r ((n, c) :: acc) (fun x hx => hf x (.tail _ hx)) (fun x c' hx => by
        rw [List.lookup_cons] at hx
        cases hb : x == n with
        | true => rw [hb] at hx; cases hx; rw [beq_iff_eq.mp hb]; exact hc
        | false => rw [hb] at hx; exact ha x c' hx)
      refine ⟨cl, h1, h2, fun x hx => ?_, fun x hx => h4 x ?_⟩
      · rcases List.mem_cons.mp hx with q | q
        · cases q; exact h4 n (by simp)
        · exact h3 x q
      · rw [List.lookup_cons]
        cases x == n <;> simp [hx]
    · rw [if_neg hk]
      obtain ⟨cl, h1, h2, h3, h4⟩ := closure_go ho r acc (fun x hx => hf x (.tail _ hx)) ha
      refine ⟨cl, h1, h2, fun x hx => ?_, h4⟩
      rcases List.mem_cons.mp hx with q | q
      · cases q; exact absurd rfl hk
      · exact h3 x q

theorem closure_ok (ho : EnvOk env) {scope : Scope} (hf : ∀ x, (x, NameKind.free) ∈ scope.names → env.kindOf x = some .cell) :
    ∃ cl, closureFor scope env = pure cl ∧ (∀ x c, cl.lookup x = some c → env.cells.lookup x = some c) ∧ (∀ x, (x, NameKind.free) ∈ scope.names → (cl.lookup x).isSome) := by
  obtain ⟨cl, h1, h2, h3, _⟩ := closure_go ho scope.names [] hf (fun x c h => nomatch h)
  refine ⟨cl, ?_, h2, h3⟩
  unfold closureFor
  refine Eq.trans ?_ (show (pure cl >>= pure : Sem _) = pure cl from rfl)
  exact congrArg (· >>= pure) h1
end

section
variable {prog : Program} {w : World} {A : Around} {E : Value → Shared → Prop} {s : Shared}

theorem comp_loop {elt target iter : Expr} {ifs : List Expr} {scope : Scope} {pos : Pos} {it acc : Value} {env : Env} {R : Result → Shared → Prop} (I : Nat → Shared → Prop)
    (turn : ∀ n s, I n s → wpAny (model prog w) A (pyNext it) (fun r s₁ => match r with
      | none => R (.ok .next) s₁
      | some v => wpAny (model prog w) A (letOwnedTupleGo target it v) (fun _ s₀ => wpAny (model prog w) A (assign target env v) (fun _ s₂ =>
          wpAny (model prog w) A (forIn ifs true fun c r => if r = true then do let ok ← isTrue c env (eval c env); pure (ForInStep.yield ok) else pure (ForInStep.yield r)) (fun ok s₃ => if ok = true then wpAny (model prog w) A (eval elt env) (fun x s₄ =>
            wpAny (model prog w) A (call (.builtin "list.append") [acc, x]) (fun _ s₅ => ∃ m, m < n ∧ I m s₅) (notedBy (model prog w) A env fun e s' => R (.error e) s') s₄) (notedBy (model prog w) A env fun e s' => R (.error e) s') s₃
            else ∃ m, m < n ∧ I m s₃) (notedBy (model prog w) A env fun e s' => R (.error e) s') s₂)
          (notedBy (model prog w) A env fun e s' => R (.error e) s') s₀) (notedBy (model prog w) A env fun e s' => R (.error e) s') s₁) (notedBy (model prog w) A env fun e s' => R (.error e) s') s)
    (n : Nat) (h : I n s) : codeAny (model prog w) A (.compLoop (.ListComp elt [⟨target, iter, ifs, 0⟩] scope pos) 0 it acc env) R s := by
  refine codeAny_loop rfl I (fun n s hI => ?_) n h
  show wpAny _ A ((compTurn (.ListComp elt [⟨target, iter, ifs, 0⟩] scope pos) 0 it acc env).onRaise (fun x => do noteFrame x env; theTreesLotGoes x)) _ _ s
  refine wpAny_noted ?_
  rw [compTurn_list]
  refine wpAny_bind (wpAny_standAt (wpAny_bind (wpAny_mono (turn n s hI) (fun r s₁ h₁ => ?_) fun _ _ h' => h')))
  cases r with
  | none => exact wpAny_pure h₁
  | some v =>
    refine wpAny_bind (wpAny_mono h₁ (fun _ s₀ h₀ => ?_) fun _ _ h' => h')
    refine wpAny_bind (wpAny_mono h₀ (fun _ s₂ h₂ => ?_) fun _ _ h' => h')
    refine wpAny_bind (wpAny_mono h₂ (fun ok s₃ h₃ => ?_) fun _ _ h' => h')
    cases ok with
    | false => exact wpAny_pure ⟨rfl, h₃⟩
    | true => exact wpAny_bind (wpAny_bind (wpAny_mono h₃ (fun x s₄ h₄ => wpAny_bind (wpAny_mono h₄ (fun _ s₅ h₅ => wpAny_pure (wpAny_pure ⟨rfl, h₅⟩)) fun _ _ h' => h')) fun _ _ h' => h'))

/-- a tuple that a loop over a list hands on is nobody's own -/
theorem letgo_list {target : Expr} {I l : Addr} {i : Nat} {v : Value} {Q : Unit → Shared → Prop} (hit : s.heap.IsListIter I l i) (h : Q () s) : wpAny (model prog w) A (letOwnedTupleGo target (.ref I) v) Q E s := by
  cases target with
  | Tuple elts k p =>
    cases v with
    | ref a => exact wpAny_letOwnedTupleGo_listiter hit h
    | _ => exact wpAny_pure h
  | List elts p =>
    cases v with
    | ref T =>
      obtain ⟨o, ho, hc, hd⟩ := hit
      unfold letOwnedTupleGo
      refine wpAny_bind (wpAny_load ho ?_)
      rw [hc, hd]
      show wpAny _ A (if (["enumerate", "zip", "dict_itemiterator", "dict_reverseitemiterator", "odict_iterator", "itertools.zip_longest", "itertools.pairwise"].contains "list_iterator" &&
          (#[.ref l, .int i 0] : Array Value)[0]? == some (rawInt T)) = true then _ else _) Q E s
      rw [if_neg (by
        intro h
        rw [show (["enumerate", "zip", "dict_itemiterator", "dict_reverseitemiterator", "odict_iterator", "itertools.zip_longest", "itertools.pairwise"].contains "list_iterator") = false from by decide, Bool.false_and] at h
        cases h)]
      exact wpAny_pure h
    | _ => exact wpAny_pure h
  | _ => exact wpAny_pure h

theorem compL_nil {f : PV → Option (Option PV)} {ys : List PV} (h : compL f [] = some ys) : ys = [] := (Option.some.inj h).symm
theorem laid_get {n : Nat} {free : List (Nat × Nat)} {ρ : Rho} {j : Nat} {v : PV} (h : (laid n free ρ)[j]? = some (some v)) : ∃ i, free.lookup j = some i ∧ ρ[i]? = some (some v) := by
  unfold laid at h
  rw [List.getElem?_map] at h
  obtain ⟨j', hj, e⟩ := Option.map_eq_some_iff.mp h
  have : j' = j := by
    rw [List.getElem?_eq_some_iff] at hj
    obtain ⟨hl, hj⟩ := hj
    simpa using hj.symm
  subst this
  split at e
  · rename_i i hi
    refine ⟨i, hi, ?_⟩
    cases q : ρ[i]? with
    | none => rw [q] at e; cases e
    | some o => rw [q] at e; simpa using e
  · cases e

theorem lookup_mem {α β : Type} [BEq α] [LawfulBEq α] {l : List (α × β)} {a : α} {b : β} (h : l.lookup a = some b) : (a, b) ∈ l := by
  induction l with
  | nil => cases h
  | cons p r ih =>
    obtain ⟨k, v⟩ := p
    rw [List.lookup_cons] at h
    cases hb : a == k with
    | true => rw [hb] at h; cases h; rw [beq_iff_eq.mp hb]; exact .head _
    | false => rw [hb] at h; exact .tail _ (ih h)

theorem relabel_names {env : Env} (ho : EnvOk env) (scope : Scope) : (relabel scope env).names = innerNames env.scope.names scope.names := by
  unfold relabel innerNames
  simp only [ho.kind, Env.kindOf]
  congr 1
  funext p
  obtain ⟨n, k⟩ := p
  simp
end
end Mine
end

section
open PySem PyProof.Rows
namespace Mine

section
variable {prog : Program} {w : World} {A : Around} {E : Value → Shared → Prop} {s : Shared} {env : Env}

theorem compOk_spec {n : Nat} {scope : Scope} (h : compOk n scope = true) : scope.kind = .function ∧ scope.names.length = n ∧ (scope.names.map (·.1)).Nodup ∧ (∀ x ∈ scope.names, x.2 ≠ .cell) ∧ (∀ x ∈ scope.names, x.2 = .local → scope.names.lookup x.1 = some .local) := by
  unfold compOk at h
  simp only [Bool.and_eq_true, beq_iff_eq, decide_eq_true_eq, List.all_eq_true, bne_iff_ne, Bool.or_eq_true] at h
  obtain ⟨⟨⟨h1, h2⟩, h3⟩, h4⟩ := h
  refine ⟨h1, h2, h3, fun x hx => (h4 x hx).1, fun x hx hl => ?_⟩
  rcases (h4 x hx).2 with q | q
  · exact absurd hl q
  · exact q

theorem freeOk_spec {sc scope : Names} {free : List (Nat × Nat)} (h : freeOk sc scope free = true) :
    (∀ j i, (j, i) ∈ free → ∃ x, scope[j]? = some (x, .free) ∧ sc[i]? = some (x, .cell) ∧ sc.lookup x = some .cell) ∧ (∀ x, (x, NameKind.free) ∈ scope → sc.lookup x = some .cell) := by
  unfold freeOk at h
  rw [Bool.and_eq_true, List.all_eq_true, List.all_eq_true] at h
  refine ⟨fun j i hm => ?_, fun x hx => ?_⟩
  · have := h.1 (j, i) hm
    dsimp only at this
    split at this
    · rename_i x k y l e1 e2
      simp only [Bool.and_eq_true, beq_iff_eq] at this
      obtain ⟨⟨⟨rfl, rfl⟩, rfl⟩, h4⟩ := this
      exact ⟨x, e1, e2, h4⟩
    · cases this
  · have := h.2 (x, .free) hx
    simpa using this

theorem inner_get {sc scope : Names} {j : Nat} {x : Str} {k : NameKind} (h : scope[j]? = some (x, k)) : (innerNames sc scope)[j]? = some (x, if (k == .free && sc.lookup x == some .cell) = true then .cell else k) := by
  unfold innerNames
  rw [List.getElem?_map, h]
  simp only [Option.map_some]
  split <;> rfl
theorem inner_names {sc scope : Names} : (innerNames sc scope).map (·.1) = scope.map (·.1) := by
  unfold innerNames
  rw [List.map_map]
  apply List.map_congr_left
  intro p _
  obtain ⟨n, k⟩ := p
  simp only [Function.comp]
  split <;> rfl
theorem lookup_of_nodup {sc : Names} (hn : (sc.map (·.1)).Nodup) {j : Nat} {x : Str} {k : NameKind} (h : sc[j]? = some (x, k)) : sc.lookup x = some k := by
  induction sc generalizing j with
  | nil => simp at h
  | cons p r ih =>
    obtain ⟨n, l⟩ := p
    rw [List.map_cons, List.nodup_cons] at hn
    cases j with
    | zero => simp at h; obtain ⟨rfl, rfl⟩ := h; simp
    | succ j =>
      have h' : r[j]? = some (x, k) := by simpa using h
      rw [List.lookup_cons]
      have : (x == n) = false := by
        simp only [beq_eq_false_iff_ne]
        rintro rfl
        exact hn.1 (List.mem_map.mpr ⟨(x, k), List.mem_of_getElem? h', rfl⟩)
      rw [this]
      exact ih hn.2 h'

noncomputable abbrev compTestsT (ifs : List Expr) (env : Env) : Sem Bool := forIn ifs true fun c r => if r = true then do let ok ← isTrue c env (eval c env); pure (ForInStep.yield ok) else pure (ForInStep.yield r)

theorem lookup_names_cell {names : Names} {x : Str} (h : names.lookup x = some .cell) : (x, NameKind.cell) ∈ names := lookup_mem h

theorem Reps.size {h : Heap} {D : Addr → Prop} {vs : Array Value} {xs : List PV} (r : Reps h D vs.toList xs) : vs.size = xs.length := Array.length_toList.symm.trans r.length
theorem size_fit {h : Heap} {D : Addr → Prop} {vs : Array Value} {xs : List PV} (r : Reps h D vs.toList xs) (hl : xs.length ≤ 2 ^ 20) : vs.size ≤ sizeLine := r.size ▸ Nat.le_trans hl (Nat.le_trans (by decide) sizeLine_ge)
theorem step_lt {n i : Nat} (h : i < n) : n + 1 - (i + 1) < n + 1 - i := Nat.sub_lt_sub_left (Nat.lt_succ_of_lt h) (Nat.lt_succ_self i)
theorem n_eq {n i : Nat} (h1 : i ≤ n) (h2 : ¬ i < n) : i = n := Nat.le_antisymm h1 (Nat.not_lt.mp h2)
theorem le_snoc {α : Type} {l : List α} {y : α} {i : Nat} (h : l.length ≤ i) : (l ++ [y]).length ≤ i + 1 := by rw [List.length_append]; exact Nat.succ_le_succ h
theorem ne_add1 {a b : Nat} (h : b = a + 1) : b ≠ a := h ▸ Nat.succ_ne_self a
theorem ne_add2 {a b : Nat} (h : b = a + 2) : a ≠ b := h ▸ Nat.ne_of_lt (Nat.lt_add_of_pos_right (by decide))
theorem ne_12 {a b c : Nat} (h : b = a + 1) (h' : c = a + 2) : b ≠ c := h ▸ h' ▸ Nat.ne_of_lt (Nat.lt_succ_self _)
theorem cenv_ok {scope : Scope} {cl : List (Str × Addr)} (ho : EnvOk env) (hkind : scope.kind = .function) (hnd : (scope.names.map (·.1)).Nodup) (hcell : ∀ x ∈ scope.names, x.2 ≠ .cell) (hcl2 : ∀ x, (x, NameKind.free) ∈ scope.names → (cl.lookup x).isSome) (L : Addr) : EnvOk (compEnvC scope cl L env) := by
  have hcn : (compEnvC scope cl L env).scope.names = innerNames env.scope.names scope.names := relabel_names ho scope
  refine ⟨hkind, ho.globals, ho.builtins, fun x hx => ?_, by rw [hcn, inner_names]; exact hnd⟩
  have hx' : (innerNames env.scope.names scope.names).lookup x = some .cell := by rw [← hcn]; exact hx
  have hm := lookup_names_cell hx'
  unfold innerNames at hm
  obtain ⟨⟨y, k⟩, hy, q⟩ := List.mem_map.mp hm
  have : k = .free ∧ y = x := by
    dsimp only at q
    split at q
    · rename_i hc
      simp only [Bool.and_eq_true, beq_iff_eq] at hc
      cases q
      exact ⟨hc.1, rfl⟩
    · cases q
      exact absurd rfl (hcell _ hy)
  obtain ⟨rfl, rfl⟩ := this
  exact Option.isSome_iff_exists.mp (hcl2 y hy)

/-- a list comprehension over a list -/
theorem comp_sound {elt target iter : Expr} {ifs : List Expr} {scope : Scope} {pos : Pos} {n : Nat} {free : List (Nat × Nat)} {t : Option Nat} {ts : List Nat} {ρ : Rho} {D : Addr → Prop} {xs ys : List PV}
    {cond : Rho → Option Bool} {eltf : Rho → Option PV} {Q : Value → Shared → Prop}
    (ho : EnvOk env) (hh : A.handled = none) (hI : Inv env s.heap D ρ) (hdk : DOk D s.heap) (hco : compOk n scope = true) (hfr : freeOk env.scope.names scope.names free = true) (hset : okArg iter = true)
    (hmt : matchT (innerNames env.scope.names scope.names) t ts target = true)
    (hiter : wpAny (model prog w) A (eval iter env) (fun v s₁ => ∃ h₁ tk₁, s₁ = { s with heap := h₁, toks := tk₁ } ∧ Kept s.heap h₁ ∧ Rep h₁ D v (.list xs)) E s)
    (hys : compL (fun x => do
        let σ ← bindT (laid n free ρ) t ts x
        let p ← cond σ
        if p then do let y ← eltf σ; some (some y) else some none) xs = some ys)
    (htest : ∀ (cenv : Env) (D' : Addr → Prop) (s' : Shared) (σ : Rho) (p : Bool) (Q' : Bool → Shared → Prop) (E' : Value → Shared → Prop), EnvOk cenv → cenv.scope.names = innerNames env.scope.names scope.names → Kept s.heap s'.heap → DOk D' s'.heap → Inv cenv s'.heap D' σ → cond σ = some p →
      PostB s' p Q' → wpAny (model prog w) A (compTestsT ifs cenv) Q' E' s')
    (helt : ∀ (cenv : Env) (D' : Addr → Prop) (s' : Shared) (σ : Rho) (y : PV) (Q' : Value → Shared → Prop) (E' : Value → Shared → Prop), EnvOk cenv → cenv.scope.names = innerNames env.scope.names scope.names → Kept s.heap s'.heap → DOk D' s'.heap → Inv cenv s'.heap D' σ → eltf σ = some y →
      PostE s' D' y Q' → wpAny (model prog w) A (eval elt cenv) Q' E' s')
    (h : ∀ h' tk' d, Kept s.heap h' → s.heap.get? d = none → Rep h' D (.ref d) (.list ys) → Q (.ref d) { s with heap := h', toks := tk' }) : wpAny (model prog w) A (eval (.ListComp elt [⟨target, iter, ifs, 0⟩] scope pos) env) Q E s := by
  obtain ⟨hkind, hlen, hnd, hcell, hnames⟩ := compOk_spec hco
  obtain ⟨hfree, hfree2⟩ := freeOk_spec hfr
  obtain ⟨cl, hclos, hcl1, hcl2⟩ := closure_ok ho hfree2
  rw [eval_ListComp]
  refine wpAny_comprehension_free (use := none) rfl (fun x => set_ok hset x) hclos hkind hnames (wpAny_mono hiter (fun v s₁ h₁ => ?_) fun _ _ e => e)
  obtain ⟨h₁, tk₁, rfl, hk₁, r⟩ := h₁
  cases r with
  | @list l vs nl _ hDl hg hr hlx =>
  have hL : h₁.IsList l vs := ⟨_, hg, rfl, nl, rfl⟩
  have hsz : vs.size = xs.length := hr.size
  refine wpAny_pyIter_list hL (wpAny_newObj_type (hd := by size_fits) (wpAny_newFunctionEnv hcell (fun y hy => nomatch hy) (fun h₂ hns₂ hsb₂ => ?_) hkind))
  dsimp only at hns₂ hsb₂ ⊢
  have hl : l < h₁.objs.size := Heap.lt_size hg
  generalize hH1 : h₁.push { cls := .type "list_iterator", data := .fields #[.ref l, .int 0 0] } = H1 at hns₂ hsb₂ ⊢
  have hD : H1.objs.size = h₁.objs.size + 1 := by rw [← hH1, Heap.size_push]
  generalize hH2 : H1.push { cls := .type "list", dict := none, data := .seq ([] : List Value).toArray } = H2 at hns₂ hsb₂ ⊢
  have hC : H2.objs.size = h₁.objs.size + 2 := by rw [← hH2, Heap.size_push, hD]
  have e1 : H1.objs.size ≠ h₁.objs.size := ne_add1 hD
  have e2 : H1.objs.size ≠ H2.objs.size := ne_12 hD hC
  have e3 : h₁.objs.size ≠ H2.objs.size := ne_add2 hC
  -- the addresses that turn
  let C : Addr → Prop := fun a => a = h₁.objs.size ∨ a = H1.objs.size ∨ a = H2.objs.size
  have hCf : ∀ a o, h₁.get? a = some o → ¬ C a := fun a o e q => by
    have h0 : ¬ (h₁.objs.size ≤ a) := Nat.not_le.mpr (Heap.lt_size e)
    rcases q with q | q | q
    · exact h0 (q ▸ Nat.le_refl _)
    · exact h0 (q ▸ hD ▸ Nat.le_succ _)
    · exact h0 (q ▸ hC ▸ Nat.le_add_right _ 2)
  have hnew : ¬ D H1.objs.size := fun q => by
    obtain ⟨o, e⟩ := hdk _ q
    exact Nat.not_le.mpr (Heap.lt_size (hk₁ _ _ e)) (hD ▸ Nat.le_succ _)
  have old : Kept h₁ h₂ := fun b o e => hsb₂.extBut b o (fun q => hCf b o e (.inr (.inr q))) (Heap.get?_push_of_some _ (hH2 ▸ Heap.get?_push_of_some _ (hH1 ▸ Heap.get?_push_of_some _ e)))
  have hit : h₂.IsListIter h₁.objs.size l 0 :=
    ⟨_, hsb₂.extBut _ _ e3 (Heap.get?_push_of_some _ (hH2 ▸ Heap.get?_push_of_some _ (hH1 ▸ Heap.get?_push_size _ rfl))), rfl, rfl⟩
  have hacc : h₂.PlainList H1.objs.size #[] := ⟨0, hsb₂.extBut _ _ e2 (Heap.get?_push_of_some _ (hH2 ▸ Heap.get?_push_size _ rfl))⟩
  let D' : Addr → Prop := fun a => D a ∨ C a
  let cenv : Env := compEnvC scope cl H2.objs.size env
  have hcn : cenv.scope.names = innerNames env.scope.names scope.names := relabel_names ho scope
  have hcok : EnvOk cenv := cenv_ok ho hkind hnd hcell hcl2 _
  -- what the block sees of the frame
  have laidInv : ∀ h', KeptOff C h₁ h' → Inv cenv h' D' (laid n free ρ) := by
    intro h' hk j x k v hj hv
    obtain ⟨i, hi, hρ⟩ := laid_get hv
    obtain ⟨y, f1, f2, f3⟩ := hfree j i (lookup_mem hi)
    rw [hcn, inner_get f1] at hj
    rw [if_pos (by simp [f3])] at hj
    cases hj
    obtain ⟨w', ld, rp⟩ := hI i _ _ v f2 hρ
    have ld' := ld.keep hk₁
    rcases ld' with ⟨hl1, _⟩ | ⟨hl1, c, hc, hic⟩
    · have q : env.scope.names.lookup _ = some NameKind.local := hl1
      rw [f3] at q; cases q
    · refine ⟨w', .inr ⟨?_, c, ?_, ?_⟩, (rp.keep hk₁).move fun b o hDb e => ⟨fun q => q.elim hDb (hCf b o e), hk b o (hCf b o e) e⟩⟩
      · show cenv.scope.names.lookup _ = _
        rw [hcn]
        exact lookup_of_nodup (by rw [inner_names]; exact hnd) (by rw [inner_get f1, if_pos (by simp [f3])])
      · obtain ⟨c', hc'⟩ := Option.isSome_iff_exists.mp (hcl2 x (List.mem_of_getElem? f1))
        have := hcl1 x c' hc'
        rw [hc] at this
        cases this
        exact hc'
      · obtain ⟨o, ho', hd⟩ := hic
        exact ⟨o, hk c o (hCf c o ho') ho', hd⟩
  have loop : codeAny (model prog w) A (.compLoop (.ListComp elt [⟨target, iter, ifs, 0⟩] scope pos) 0 (.ref h₁.objs.size) (.ref H1.objs.size) cenv)
      (compPost (model prog w) A E none Q (.ref H1.objs.size) H2.objs.size) { s with heap := h₂, toks := tk₁ + ([] : List (Str × Value)).length } := by
    refine comp_loop
      (fun k s' => ∃ h' tk m' i us out rest, s' = { s with heap := h', toks := tk } ∧ h'.IsListIter h₁.objs.size l i ∧ h'.PlainList H1.objs.size us ∧ h'.Ns H2.objs.size m' ∧ Reps h' D' us.toList out ∧
        compL (fun x => do
          let σ ← bindT (laid n free ρ) t ts x
          let p ← cond σ
          if p then do let y ← eltf σ; some (some y) else some none) (xs.drop i) = some rest ∧ out ++ rest = ys ∧ out.length ≤ i ∧ i ≤ xs.length ∧ k = xs.length + 1 - i ∧ KeptOff C h₁ h') ?_ (xs.length + 1)
      ⟨h₂, _, _, 0, #[], [], ys, rfl, hit, hacc, hns₂, .nil, hys, rfl, Nat.zero_le _, Nat.zero_le _, rfl, old.off⟩
    intro k s' hI
    refine hI.elim fun h' hI => ex6 hI fun tk m' i us out rest hI => and11 hI fun es hit' hacc' hns' hout hrest hsum hole hi ek hk' => ?_
    clear hI
    subst es ek
    have hL' : h'.IsList l vs := hL.at fun o e => hk' l o (hCf l o e) e
    by_cases hlt : i < xs.length
    · have hx : xs[i]? = some xs[i] := List.getElem?_eq_getElem hlt
      refine (hr.get hx).elim fun v hv => ?_
      have rv := hv.2
      refine wpAny_pyNext_list_item hit' hL' (Array.getElem?_toList ▸ hv.1) fun h₃ hit₃ hs₃ => letgo_list hit₃ ?_
      rw [List.drop_eq_getElem_cons hlt] at hrest
      refine bnd hrest fun o hf hrest => bnd hrest fun zs hz hrest => bnd hf fun σ hσ hf => bnd hf fun p hp hif => ?_
      obtain rfl : o.toList ++ zs = rest := by cases o <;> exact Option.some.inj hrest
      have hk₃ : KeptOff C h₁ h₃ := hk'.trans (same_off hs₃ (.inl rfl))
      have rv₃ : Rep h₃ D' v xs[i] := rv.move fun b o hDb e => ⟨fun q => q.elim hDb (hCf b o e), hk₃ b o (hCf b o e) e⟩
      have hDC : D' cenv.locals := .inr (.inr (.inr rfl))
      refine assign_sound (D := D') hcok hh hDC (by rw [hcn]; exact hmt) hσ (laidInv h₃ hk₃) rv₃ ⟨m', hns'.sameBut hs₃ (Ne.symm e3)⟩ fun h₄ tk₄ hk₄ hn₄ hI₄ => ?_
      have hk₄' : KeptOff C h₁ h₄ := fun b o hCb e => hk₄ b o (fun q => hCb (.inr (.inr q))) (hk₃ b o hCb e)
      have it₄ : h₄.IsListIter h₁.objs.size l (i + 1) := hit₃.at fun o e => hk₄ _ o (fun q => e3 q) e
      have acc₄ : h₄.PlainList H1.objs.size us := let ⟨q, hq⟩ := hacc'; ⟨q, hk₄ _ _ (fun z => e2 z) (hs₃.extBut _ _ e1 hq)⟩
      have hout₄ : Reps h₄ D' us.toList out := hout.move fun b o hDb e => ⟨hDb, hk₄ b o (fun q => hDb (q ▸ hDC)) (hs₃.extBut b o (fun q => hDb (.inr (.inl q))) e)⟩
      have ks₄ : Kept s.heap h₄ := fun b o e => hk₄' b o (hCf b o (hk₁ b o e)) (hk₁ b o e)
      obtain ⟨m₄, hn₄⟩ := hn₄
      have dk₄ : DOk D' h₄ := fun a ha => by
        rcases ha with ha | ha | ha | ha
        · obtain ⟨o, e⟩ := hdk a ha
          exact ⟨o, ks₄ _ _ e⟩
        · obtain ⟨o, e, _⟩ := it₄
          exact ⟨o, ha ▸ e⟩
        · obtain ⟨q, e⟩ := acc₄
          exact ⟨_, ha ▸ e⟩
        · obtain ⟨o, _, _, e, _⟩ := hn₄
          exact ⟨o, ha ▸ e⟩
      refine htest cenv D' _ σ p _ _ hcok hcn ks₄ dk₄ hI₄ hp fun h₅ tk₅ hk₅ => ?_
      have it₅ : h₅.IsListIter h₁.objs.size l (i + 1) := it₄.at fun o e => hk₅ _ o e
      have acc₅ : h₅.PlainList H1.objs.size us := let ⟨q, hq⟩ := acc₄; ⟨q, hk₅ _ _ hq⟩
      cases p with
      | false =>
        obtain rfl := Option.some.inj hif
        exact ⟨xs.length + 1 - (i + 1), step_lt hlt, h₅, tk₅, m₄, i + 1, us, out, zs, rfl, it₅, acc₅, hn₄.keeps hk₅, hout₄.keep hk₅, hz, hsum, Nat.le_succ_of_le hole, hlt, rfl, fun b o hCb e => hk₅ b o (hk₄' b o hCb e)⟩
      | true =>
        refine bnd hif fun y hy q => ?_
        obtain rfl := Option.some.inj q
        refine helt cenv D' _ σ y _ _ hcok hcn (ks₄.trans hk₅) (dk₄.keep hk₅) (hI₄.keep hk₅) hy fun h₆ tk₆ u hk₆ ru => ?_
        obtain ⟨q₆, acc₆⟩ := acc₅
        have acc₆ := hk₆ _ _ acc₆
        refine wpAny_list_append_plain ⟨q₆, acc₆⟩ (hsz := size_fit hout (Nat.le_trans hole (Nat.le_trans hi hlx))) fun h₇ acc₇ hs₇ => ?_
        have hDA : D' H1.objs.size := .inr (.inr (.inl rfl))
        have mv : ∀ b o, ¬ D' b → h₆.get? b = some o → ¬ D' b ∧ h₇.get? b = some o := fun b o hDb e => ⟨hDb, hs₇.extBut b o (fun q => hDb (q ▸ hDA)) e⟩
        refine ⟨xs.length + 1 - (i + 1), step_lt hlt, h₇, tk₆, m₄, i + 1, us.push u, out ++ [y], zs, rfl, (it₅.at fun o e => hk₆ _ o e).extBut hs₇.extBut (Ne.symm e1), acc₇, ((hn₄.keeps hk₅).keeps hk₆).sameBut hs₇ (Ne.symm e2), ?_, hz, (List.append_assoc _ _ _).trans hsum, le_snoc hole, hlt, rfl,
          fun b o hCb e => hs₇.extBut b o (fun q => hCb (.inr (.inl q))) (hk₆ b o (hk₅ b o (hk₄' b o hCb e)))⟩
        rw [Array.toList_push]
        exact ((((hout₄.keep hk₅).keep hk₆).move mv).append (.cons (ru.move mv) .nil))
    · have hin : i = xs.length := n_eq hi hlt
      refine wpAny_pyNext_list_end hh hit' hL' (Array.getElem?_eq_none (Nat.le_of_eq (hsz.trans hin.symm))) fun h₃ he₃ => ?_
      have hr0 : rest = [] := by
        rw [hin, List.drop_length] at hrest
        exact compL_nil hrest
      subst hr0
      simp only [List.append_nil] at hsum
      subst hsum
      refine ⟨m', hns'.extBut he₃ (Ne.symm e3), fun h₄ hs₄ => ?_⟩
      have kk : KeptOff C h₁ h₄ := fun b o hCb e => hs₄.extBut b o (fun q => hCb (.inr (.inr q))) (he₃ b o (fun q => hCb (.inl q)) (hk' b o hCb e))
      refine h h₄ tk _ (fun b o e => kk b o (hCf b o (hk₁ b o e)) (hk₁ b o e)) (by
        cases e : s.heap.get? H1.objs.size with
        | none => rfl
        | some o => exact (Nat.not_le.mpr (Heap.lt_size (hk₁ _ _ e)) (hD ▸ Nat.le_succ _)).elim) ?_
      obtain ⟨q, hq⟩ := hacc'
      refine .list (fun hDa => hnew hDa) (hs₄.extBut _ _ e2 (he₃ _ _ e1 hq)) (hout.move fun b o hDb e => ⟨fun q => hDb (.inl q), hs₄.extBut b o (fun q => hDb (.inr (.inr (.inr q)))) (he₃ b o (fun q => hDb (.inr (.inl q))) e)⟩) (Nat.le_trans hole (Nat.le_trans hi hlx))
  refine codeAny_compStart_list loop ?_
  exact wpAny_pyIter_listiter hit loop
end
end Mine
end

section
open PySem PyProof.Rows
namespace Mine

section
variable {prog : Program} {w : World} {mg mb : Str → Option Value} {fns : List FnD} {T : Nat → List PV → Option PV} {B : Nat}
variable {A : Around} {E : Value → Shared → Prop} {s : Shared} {env : Env} {ρ : Rho} {D : Addr → Prop}

theorem mkL_inv {xs : List PV} {v : PV} (h : mkL xs = some v) : v = .list xs ∧ xs.length ≤ 2 ^ 20 := by
  unfold mkL at h
  split at h
  · cases h; exact ⟨rfl, by assumption⟩
  · cases h
theorem catL_inv {x y v : PV} (h : catL x y = some v) : ∃ xs ys, x = .list xs ∧ y = .list ys ∧ v = .list (xs ++ ys) ∧ (xs ++ ys).length ≤ 2 ^ 20 :=
  let ⟨a, h1, h2⟩ := Option.bind_eq_some_iff.mp h; let ⟨b, h3, h4⟩ := Option.bind_eq_some_iff.mp h2; let ⟨h5, h6⟩ := mkL_inv h4; ⟨a, b, pLst_inv h1, pLst_inv h3, h5, h6⟩
theorem cat_ok {x y v : PV} {w1 w2 : Value} {Q : Value → Shared → Prop} (he : catL x y = some v) (hd : DOk D s.heap) (r1 : Rep s.heap D w1 x) (r2 : Rep s.heap D w2 y) (h : PostE s D v Q) : wpAny (model prog w) A (binaryOp .Add w1 w2) Q E s := by
  obtain ⟨xs, ys, rfl, rfl, rfl, hl⟩ := catL_inv he
  cases r1 with
  | @list a vs n _ hDa hg hr hlx =>
  cases r2 with
  | @list b us m _ hDb hg2 hr2 hly =>
  refine cat_raw hg hg2 (by rw [hr.size, hr2.size, ← List.length_append]; exact Nat.le_trans hl (Nat.le_trans (by decide) sizeLine_ge)) ?_
  refine h (s.heap.push (lstO (vs ++ us) 0)) s.toks _ (Kept.push _) (.list (n := 0) hd.fresh (Heap.get?_push_size _ rfl) ?_ hl)
  rw [Array.toList_append]
  exact ((hr.keep (Kept.push _)).append (hr2.keep (Kept.push _)))
theorem add_raw {x y v : PV} {w1 w2 : Value} {Q : Value → Shared → Prop} (he : addPV x y = some v) (hd : DOk D s.heap) (r1 : Rep s.heap D w1 x) (r2 : Rep s.heap D w2 y) (h : PostE s D v Q) : wpAny (model prog w) A (binaryOp .Add w1 w2) Q E s := by
  cases x with
  | int a =>
    obtain ⟨a', b, e1, rfl, e3⟩ := onI_inv (f := fun a b => some (PV.int (a + b))) he
    cases e1
    cases e3
    cases r1; cases r2
    exact P.add_int (h s.heap _ _ (Kept.refl _) (.int _ _))
  | none => exact cat_ok he hd r1 r2 h
  | bool _ => exact cat_ok he hd r1 r2 h
  | list _ => exact cat_ok he hd r1 r2 h
  | tup _ => exact cat_ok he hd r1 r2 h

theorem rep_reps {h : Heap} {c : Value} {k : PV} (r : Rep h D c k) : ∀ n : Nat, Reps h D (List.replicate n c) (List.replicate n k)
  | 0 => .nil
  | n + 1 => .cons r (rep_reps r n)

theorem itemI_inv {o : Option PV} {v : PV} (h : itemI o = some v) : ∃ k, o = some (.int k) ∧ v = .int k :=
  let ⟨u, h1, h2⟩ := Option.bind_eq_some_iff.mp h; let ⟨i, h3, h4⟩ := Option.bind_eq_some_iff.mp h2; ⟨i, (pInt_inv h3) ▸ h1, (Option.some.inj h4).symm⟩
theorem fit63 {xs : List PV} {i : Int} {k : PV} (h0 : 0 ≤ i) (hk : xs[i.toNat]? = some k) (hl : xs.length ≤ 2 ^ 20) : i < 2 ^ 63 := by
  have := (List.getElem?_eq_some_iff.mp hk).1
  omega
theorem idxL_raw {x y v : PV} {w1 w2 : Value} {value slice : Expr} {Q : Value → Shared → Prop} (hs : okArg slice = true) (he : idxL x y = some v) (r1 : Rep s.heap D w1 x) (r2 : Rep s.heap D w2 y) (h : PostE s D v Q) :
    wpAny (model prog w) A (subscriptTail value slice w1 w2) Q E s := by
  obtain ⟨xs, hx, he⟩ := Option.bind_eq_some_iff.mp he
  obtain ⟨i, hi, he⟩ := Option.bind_eq_some_iff.mp he
  rw [pInt_inv hi] at r2
  rw [pLst_inv hx] at r1
  clear hi hx
  cases r2
  cases r1 with
  | @list a vs n _ hDa hg hr hlx =>
  have hL : s.heap.IsList a vs := ⟨_, hg, rfl, n, rfl⟩
  by_cases h0 : 0 ≤ i
  · rw [if_pos h0] at he
    obtain ⟨k, hk, rfl⟩ := itemI_inv he
    obtain ⟨u, hu, ru⟩ := hr.get hk
    exact sub_tail hL.typeIs list_getitem_lookup (sub_ok hs _ _) (wpAny_getItem_list hL h0 (fit63 h0 hk hlx) (by simpa using hu) (h s.heap s.toks _ (Kept.refl _) ru))
  · rw [if_neg h0] at he
    by_cases h1 : i = -1
    · rw [if_pos h1] at he
      subst h1
      obtain ⟨k, hk, rfl⟩ := itemI_inv he
      have hpos : 0 < xs.length := List.length_pos_iff.mpr (by rintro rfl; cases hk)
      rw [List.getLast?_eq_getElem?] at hk
      obtain ⟨u, hu, ru⟩ := hr.get hk
      have hlen := hr.size
      refine sub_tail hL.typeIs list_getitem_lookup (sub_ok hs _ _) (wpAny_getItem_list_neg hL (by omega) (by omega) (by omega) (x := u) ?_ (h s.heap s.toks _ (Kept.refl _) ru))
      have e : ((-1 : Int) + (vs.size : Int)).toNat = xs.length - 1 := by omega
      rw [e]
      simpa using hu
    · rw [if_neg h1] at he
      cases he
theorem idxT_raw {x y v : PV} {w1 w2 : Value} {value slice : Expr} {Q : Value → Shared → Prop} (hs : okArg slice = true) (he : idxT x y = some v) (r1 : Rep s.heap D w1 x) (r2 : Rep s.heap D w2 y) (h : PostE s D v Q) :
    wpAny (model prog w) A (subscriptTail value slice w1 w2) Q E s := by
  obtain ⟨xs, hx, he⟩ := Option.bind_eq_some_iff.mp he
  obtain ⟨i, hi, he⟩ := Option.bind_eq_some_iff.mp he
  rw [pInt_inv hi] at r2
  rw [pTup_inv hx] at r1
  clear hi hx
  cases r2
  cases r1 with
  | @tup a vs n _ hDa hg hr hlx =>
  have hT : IsTup s.heap a vs := ⟨_, hg, rfl, n, rfl⟩
  by_cases h0 : 0 ≤ i
  · rw [if_pos h0] at he
    obtain ⟨k, hk, rfl⟩ := itemI_inv he
    obtain ⟨u, hu, ru⟩ := hr.get hk
    have hlen := hr.size
    have hlt := (List.getElem?_eq_some_iff.mp hk).1
    exact sub_tail hT.typeIs slot_tuple_getitem.lookup (sub_ok hs _ _) (getItem_tuple hT (by omega) (fit63 h0 hk hlx) (seqIndex_of h0 (by omega)) (by simpa using hu) (h s.heap s.toks _ (Kept.refl _) ru))
  · rw [if_neg h0] at he
    cases he
theorem idx_raw {x y v : PV} {w1 w2 : Value} {value slice : Expr} {Q : Value → Shared → Prop} (hs : okArg slice = true) (he : idxPV x y = some v) (r1 : Rep s.heap D w1 x) (r2 : Rep s.heap D w2 y) (h : PostE s D v Q) :
    wpAny (model prog w) A (subscriptTail value slice w1 w2) Q E s := by
  cases x with
  | tup _ => exact idxT_raw hs he r1 r2 h
  | _ => exact idxL_raw hs he r1 r2 h
end
end Mine
end

section
open PySem PyProof.Rows
namespace Mine

theorem mp {α β : Type} {o : Option α} {f : α → β} {v : β} {P : β → Prop} (h : o.map f = some v) (k : ∀ a, o = some a → P (f a)) : P v := let ⟨a, h1, h2⟩ := Option.map_eq_some_iff.mp h; h2 ▸ k a h1
theorem onI_el {α : Type} {f : Int → Int → Option α} {x y : PV} {v : α} {P : PV → PV → Prop} (h : onI f x y = some v) (k : ∀ a b, f a b = some v → P (.int a) (.int b)) : P x y := let ⟨a, b, e1, e2, e3⟩ := onI_inv h; e1 ▸ e2 ▸ k a b e3
theorem if_some {α : Type} {c : Prop} [Decidable c] {a v : α} (h : (if c then some a else none) = some v) : c ∧ v = a := by
  by_cases hc : c
  · rw [if_pos hc] at h; exact ⟨hc, (Option.some.inj h).symm⟩
  · rw [if_neg hc] at h; cases h
theorem Rep.int_inv {h : Heap} {D : Addr → Prop} {w : Value} {i : Int} (r : Rep h D w (.int i)) : ∃ t, w = .int i t := by cases r; exact ⟨_, rfl⟩
theorem Rep.bool_inv {h : Heap} {D : Addr → Prop} {w : Value} {i : Bool} (r : Rep h D w (.bool i)) : w = .bool i := by cases r; rfl
theorem Rep.list_inv {h : Heap} {D : Addr → Prop} {w : Value} {xs : List PV} (r : Rep h D w (.list xs)) : ∃ a vs n, w = .ref a ∧ ¬ D a ∧ h.get? a = some (lstO vs n) ∧ Reps h D vs.toList xs ∧ xs.length ≤ 2 ^ 20 := by cases r; exact ⟨_, _, _, rfl, by assumption, by assumption, by assumption, by assumption⟩
@[elab_as_elim] theorem Rep.int_el {h : Heap} {D : Addr → Prop} {i : Int} {P : Value → Prop} {w : Value} (r : Rep h D w (.int i)) (k : ∀ t, P (.int i t)) : P w := let ⟨t, e⟩ := r.int_inv; e ▸ k t
@[elab_as_elim] theorem Rep.bool_el {h : Heap} {D : Addr → Prop} {i : Bool} {P : Value → Prop} {w : Value} (r : Rep h D w (.bool i)) (k : P (.bool i)) : P w := r.bool_inv ▸ k
@[elab_as_elim] theorem Rep.list_el {h : Heap} {D : Addr → Prop} {xs : List PV} {P : Value → Prop} {w : Value} (r : Rep h D w (.list xs)) (k : ∀ a vs n, ¬ D a → h.get? a = some (lstO vs n) → Reps h D vs.toList xs → xs.length ≤ 2 ^ 20 → P (.ref a)) : P w :=
  let ⟨a, vs, n, e, h1, h2, h3, h4⟩ := r.list_inv; e ▸ k a vs n h1 h2 h3 h4

section
variable (prog : Program) (w : World) (mg mb : Str → Option Value) (fns : List FnD) (B : Nat)
noncomputable def SV (m : Names → Expr → Bool) (g : Rho → Option PV) : Prop := ∀ (x : Expr) (A : Around) (env : Env) (ρ : Rho) (v : PV) (D : Addr → Prop) (s : Shared) (Q E : Value → Shared → Prop),
  m env.scope.names x = true → g ρ = some v → Rdy mg mb fns B A env D ρ s.heap → PostE s D v Q → wpAny (model prog w) A (eval x env) Q E s
noncomputable def ST (m : Names → Expr → Bool) (g : Rho → Option PV) : Prop := ∀ (x : Expr) (A : Around) (env : Env) (ρ : Rho) (b : Bool) (D : Addr → Prop) (s : Shared) (Q : Bool → Shared → Prop) (E : Value → Shared → Prop),
  m env.scope.names x = true → g ρ = some (.bool b) → Rdy mg mb fns B A env D ρ s.heap → PostB s b Q → wpAny (model prog w) A (isTrue x env (eval x env)) Q E s
structure SX (m : Names → Expr → Bool) (g : Rho → Option PV) : Prop where
  v : SV prog w mg mb fns B m g
  t : ST prog w mg mb fns B m g
noncomputable def SVs (m : Names → List Expr → Bool) (g : Rho → Option (List PV)) : Prop := ∀ (xs : List Expr) (pos : Pos) (A : Around) (env : Env) (ρ : Rho) (vs : List PV) (D : Addr → Prop) (s : Shared) (Q : List Value → Shared → Prop) (E : Value → Shared → Prop),
  m env.scope.names xs = true → g ρ = some vs → Rdy mg mb fns B A env D ρ s.heap → PostEs s D vs Q → wpAny (model prog w) A (spliced (backTo pos (starEach xs env))) Q E s
noncomputable def SB (m : Names → List Expr → Bool) (g : Bool → Rho → Option Bool) : Prop := ∀ (and : Bool) (xs : List Expr) (pos : Pos) (A : Around) (env : Env) (ρ : Rho) (b : Bool) (D : Addr → Prop) (s : Shared) (Q E : Value → Shared → Prop),
  xs ≠ [] → m env.scope.names xs = true → g and ρ = some b → Rdy mg mb fns B A env D ρ s.heap → PostE s D (.bool b) Q → wpAny (model prog w) A (boolOp pos (if and then .And else .Or) (evalEach xs env)) Q E s
noncomputable def SA (m : Names → List Expr → Bool) (g : Bool → Rho → Option Bool) : Prop := ∀ (and : Bool) (xs : List Expr) (A : Around) (env : Env) (ρ : Rho) (b : Bool) (D : Addr → Prop) (s : Shared) (Q : Bool → Shared → Prop) (E : Value → Shared → Prop),
  m env.scope.names xs = true → g and ρ = some b → Rdy mg mb fns B A env D ρ s.heap → PostB s b Q → wpAny (model prog w) A (allTrue (if and then .And else .Or) xs env) Q E s
structure SXs (n : Nat) (m : Names → List Expr → Bool) (g : Rho → Option (List PV)) (gb : Bool → Rho → Option Bool) : Prop where
  vs : SVs prog w mg mb fns B m g
  b : SB prog w mg mb fns B m gb
  a : SA prog w mg mb fns B m gb
  nil : ∀ sc, m sc [] = true → ∀ and ρ b, gb and ρ = some b → b = and
  len : ∀ sc xs, m sc xs = true → xs.length = n
  lenv : ∀ ρ vs, g ρ = some vs → vs.length = n
  hd : ∀ sc x xs, m sc (x :: xs) = true → okArg x = true
noncomputable def SO (m : Names → List Expr → Bool) (g : Rho → Option Bool) : Prop := ∀ (ifs : List Expr) (A : Around) (env : Env) (ρ : Rho) (b : Bool) (D : Addr → Prop) (s : Shared) (Q : Bool → Shared → Prop) (E : Value → Shared → Prop),
  m env.scope.names ifs = true → g ρ = some b → Rdy mg mb fns B A env D ρ s.heap → PostB s b Q → wpAny (model prog w) A (compTestsT ifs env) Q E s
noncomputable def OpOk (o : Operator) (f : PV → PV → Option PV) : Prop := ∀ {A : Around} {E : Value → Shared → Prop} {s : Shared} {D : Addr → Prop} {x y v : PV} {w1 w2 : Value} {Q : Value → Shared → Prop},
  f x y = some v → DOk D s.heap → Rep s.heap D w1 x → Rep s.heap D w2 y → PostE s D v Q → wpAny (model prog w) A (binaryOp o w1 w2) Q E s
end

noncomputable def genX : Expr → Bool
  | .UnaryOp .. | .BoolOp .. | .IfExp .. | .Compare .. => false
  | _ => true

section
variable {prog : Program} {w : World} {mg mb : Str → Option Value} {fns : List FnD} {B : Nat}
variable {ma mb' mc : Names → Expr → Bool} {ga gb gc : Rho → Option PV}

theorem sx_of {m : Names → Expr → Bool} {g : Rho → Option PV} (hV : SV prog w mg mb fns B m g) (hg : ∀ sc x, m sc x = true → genX x = true) : SX prog w mg mb fns B m g :=
  ⟨hV, fun x A env ρ b D s Q E hm hv R h => wpAny_isTrue_value (hV x A env ρ _ D s _ _ hm hv R fun h' tk' w' k r => r.bool_el (wpAny_truthy_bool (h h' tk' k))) (by
    have := hg _ x hm
    cases x <;> first | rfl | cases this)⟩

theorem join_some {α : Type} {o : Option (Option α)} {v : α} (h : o.join = some v) : o = some (some v) := by
  cases o with
  | none => cases h
  | some o => exact congrArg some h
theorem sx_loc (i : Nat) : SX prog w mg mb fns B (fun sc x => mName (isLoc sc i) x) (fun ρ => (ρ[i]?).join) :=
  sx_of (fun x A env ρ v D s Q Ex hm hv R h => mName_el hm fun y p hm => let ⟨k, h1, h2, h3, h4⟩ := isLoc_spec hm; let ⟨w', ld, r⟩ := R.inv i y k v h1 (join_some hv); load_name R.ok.kind h4 ld (h s.heap s.toks _ (Kept.refl _) r)) fun _ _ hm => mName_el hm fun _ _ _ => rfl
theorem sx_int (i : Int) : SX prog w mg mb fns B (fun _ x => xInt x == some i) (fun _ => some (.int i)) :=
  sx_of (fun x A env ρ v D s Q Ex hm hv R h => mInt_el hm fun _ _ => wpAny_Constant_int (h s.heap _ _ (Kept.refl _) (Option.some.inj hv ▸ .int i _))) fun _ _ hm => mInt_el hm fun _ _ => rfl
theorem sx_bool (i : Bool) : SX prog w mg mb fns B (fun _ x => xBool x == some i) (fun _ => some (.bool i)) :=
  sx_of (fun x A env ρ v D s Q Ex hm hv R h => mBool_el hm fun _ _ => wpAny_Constant_bool (h s.heap s.toks _ (Kept.refl _) (Option.some.inj hv ▸ .bool i))) fun _ _ hm => mBool_el hm fun _ _ => rfl
theorem sx_glob {x0 : Str} {i : Int} (hg : ∃ t, mg x0 = some (.int i t)) : SX prog w mg mb fns B (fun sc x => mName (fun y => y == x0 && isGlo sc y) x) (fun _ => some (.int i)) :=
  sx_of (fun x A env ρ v D s Q Ex hm hv R h => mName_el hm fun y p hm => and_el hm fun h1 h2 => let ⟨t, ht⟩ := hg; glob_name R.ok R.base h2 (beq_inv h1 ▸ ht) (h s.heap s.toks _ (Kept.refl _) (Option.some.inj hv ▸ .int i t))) fun _ _ hm => mName_el hm fun _ _ _ => rfl
theorem sx_neg1 : SX prog w mg mb fns B (fun _ x => mNeg x) (fun _ => some (.int (-1))) :=
  ⟨fun x A env ρ v D s Q Ex hm hv R h => mNeg_el hm fun _ _ _ => wpAny_UnaryOp (wpAny_Constant_int (P.neg_int (h s.heap _ _ (Kept.refl _) (Option.some.inj hv ▸ .int _ _)))), fun _ _ _ _ _ _ _ _ _ _ hv => nomatch hv⟩

theorem bin {A : Around} {E : Value → Shared → Prop} {s : Shared} {env : Env} {ρ : Rho} {D : Addr → Prop} {α : Type} {l r : Expr} {x y : PV} {K : Value → Value → Sem α} {Q : α → Shared → Prop} (ha : SX prog w mg mb fns B ma ga) (hb : SX prog w mg mb fns B mb' gb)
    (ml : ma env.scope.names l = true) (mr : mb' env.scope.names r = true) (va : ga ρ = some x) (vb : gb ρ = some y) (R : Rdy mg mb fns B A env D ρ s.heap)
    (k : ∀ h' tk' w1 w2, Kept s.heap h' → Rep h' D w1 x → Rep h' D w2 y → wpAny (model prog w) A (K w1 w2) Q E { s with heap := h', toks := tk' }) :
    wpAny (model prog w) A (eval l env) (fun a s₁ => wpAny (model prog w) A (eval r env) (fun b s₂ => wpAny (model prog w) A (K a b) Q E s₂) E s₁) E s :=
  ha.v l A env ρ x D s _ _ ml va R fun h₁ tk₁ w1 k₁ r1 => hb.v r A env ρ y D _ _ _ mr vb (R.keep k₁) fun h₂ tk₂ w2 k₂ r2 => k h₂ tk₂ w1 w2 (k₁.trans k₂) (r1.keep k₂) r2

theorem sx_bin {o : Operator} {f : PV → PV → Option PV} (hf : OpOk prog w o f) (ha : SX prog w mg mb fns B ma ga) (hb : SX prog w mg mb fns B mb' gb) : SX prog w mg mb fns B (fun sc x => mBin o (ma sc) (mb' sc) x) (fun ρ => do let x ← ga ρ; let y ← gb ρ; f x y) :=
  sx_of (fun x A env ρ v D s Q Ex hm hv R h => mBin_el hm fun l r p h1 h2 => bnd hv fun x hx hv => bnd hv fun y hy e =>
    wpAny_BinOp (bin ha hb h1 h2 hx hy R fun h' tk' w1 w2 k r1 r2 => hf e (R.dok.keep k) r1 r2 fun h'' tk'' w' k' r' => h h'' tk'' w' (k.trans k') r')) fun _ _ hm => mBin_el hm fun _ _ _ _ _ => rfl

theorem op_add : OpOk prog w .Add addPV := fun he hd r1 r2 h => add_raw he hd r1 r2 h
theorem op_of {o : Operator} {f : Int → Int → Option PV} (hf : ∀ {A : Around} {E : Value → Shared → Prop} {s : Shared} {a b : Int} {t u : Tok} {v : PV} {Q : Value → Shared → Prop}, f a b = some v → (∀ h' tk' w', Kept s.heap h' → (∀ D, DOk D s.heap → Rep h' D w' v) → Q w' { s with heap := h', toks := tk' }) → wpAny (model prog w) A (binaryOp o (.int a t) (.int b u)) Q E s) : OpOk prog w o (onI f) := by
  intro A E s D x y v w1 w2 Q he hd r1 r2 h
  obtain ⟨a, b, rfl, rfl, e⟩ := onI_inv he
  exact r1.int_el fun t => r2.int_el fun u => hf e fun h' tk' w' k r => h h' tk' w' k (r D hd)
theorem op_sub : OpOk prog w .Sub subPV := op_of fun e h => P.sub_int (h _ _ _ (Kept.refl _) fun _ _ => Option.some.inj e ▸ .int _ _)
theorem bits_lt {a : Int} (hs : a.natAbs < 2 ^ 31) : Builtin.Int.intBits a ≤ 31 := by
  unfold Builtin.Int.intBits
  split
  · exact Nat.zero_le _
  · exact (Nat.log2_lt (by rename_i q; intro z; apply q; simp [Int.natAbs_eq_zero.mp z])).mpr hs
theorem op_mul : OpOk prog w .Mult mulPV := op_of fun e h => let ⟨hs, e⟩ := if_some e; P.mul_int (h _ _ _ (Kept.refl _) fun _ _ => e ▸ .int _ _) (IntMulOk.of_left (Nat.le_trans (bits_lt hs) (by decide)))
theorem small30 {b : Int} (h : 0 < b ∧ b < 2 ^ 30) : b.natAbs < 2 ^ 30 := by omega
theorem op_fdiv : OpOk prog w .FloorDiv fdivPV := op_of fun {A E s a b t u v Q} e h => let ⟨hs, e⟩ := if_some e; floordiv_int (Int.ne_of_gt hs.1) (by
  rw [Int.fdiv_eq_ediv_of_nonneg _ (Int.le_of_lt hs.1)]
  exact h _ _ _ (Kept.refl _) fun _ _ => e ▸ .int _ _) (.inl (PyProof.noPylong_small (small30 hs)))
theorem op_mod : OpOk prog w .Mod modPV := op_of fun {A E s a b t u v Q} e h => let ⟨hs, e⟩ := if_some e; mod_int' (Int.ne_of_gt hs.1) (by
  rw [Int.fmod_eq_emod_of_nonneg _ (Int.le_of_lt hs.1)]
  exact h _ _ _ (Kept.refl _) fun _ _ => e ▸ .int _ _)

theorem rep_fit {n : Int} (h : n.toNat ≤ 2 ^ 20 ∧ -(2 ^ 62 : Int) < n) : -(2 ^ 63 : Int) ≤ n := Int.le_of_lt (Int.lt_trans (by decide) h.2)
theorem Room.line {A : Around} {n : Nat} (r : Room A n) : A.units + 64 < cLine := by have := r.units; omega
theorem map_bool {o : Option Bool} {b : Bool} {P : Prop} (h : o.map PV.bool = some (.bool b)) (k : o = some b → P) : P := by
  obtain ⟨c, hc, e⟩ := Option.map_eq_some_iff.mp h
  cases e
  exact k hc
theorem ints_behind {i j : Int} {r : Expr} (h : mInts i j r = true) : behindInMarks .In r = false := mInts_el h fun _ _ _ _ _ _ => rfl
theorem size63 {h : Heap} {D : Addr → Prop} {vs : Array Value} {xs : List PV} (r : Reps h D vs.toList xs) (hl : xs.length ≤ 2 ^ 20) : (vs.size : Int) < 2 ^ 63 := by
  have := r.size
  omega
theorem sx_rep (hc : SX prog w mg mb fns B ma ga) (hn : SX prog w mg mb fns B mb' gb) :
    SX prog w mg mb fns B (fun sc x => mBin .Mult (mList fun xs => on (one xs) fun y => okArg y && ma sc y) (mb' sc) x) (fun ρ => do let x ← ga ρ; let y ← gb ρ; repPV x y) :=
  sx_of (fun x A env ρ v D s Q Ex hm hv R h => mBin_el hm fun l r p h1 h2 => mList_el h1 fun xs q h1 => mOne_el h1 fun y h1 => and_el h1 fun hy h1 => bnd hv fun x hx hv => bnd hv fun z hz e => by
    obtain ⟨c, n, rfl, rfl, e⟩ := onI_inv e
    obtain ⟨hs, rfl⟩ := if_some e
    refine wpAny_BinOp (wpAny_List (wpAny_items_cons (he := star_ok hy _) (hc.v y A env ρ _ D s _ _ h1 hx R fun h₁ tk₁ w1 k₁ r1 => wpAny_items_nil ⟨Nat.le_trans (show 1 ≤ 2 ^ 20 + 2 ^ 20 by decide) sizeLine_ge, ?_⟩)))
    have k₁' : Kept s.heap (h₁.push (lstO [w1].toArray 0)) := k₁.trans (Kept.push _)
    refine hn.v r A env ρ _ D _ _ _ h2 hz (R.keep k₁') fun h₂ tk₂ w2 k₂ r2 => r2.int_el fun t => rep_raw (k₂ _ _ (Heap.get?_push_size _ rfl)) (rep_fit hs) hs.1 ?_
    exact h (h₂.push (lstO (List.replicate n.toNat w1).toArray 0)) _ _ (k₁'.trans (k₂.trans (Kept.push _))) (.list (n := 0) ((R.dok.keep k₁').keep k₂).fresh (Heap.get?_push_size _ rfl) (rep_reps (((r1.keep (Kept.push _)).keep k₂).keep (Kept.push _)) _) (Nat.le_trans (Nat.le_of_eq List.length_replicate) hs.1)))
    fun _ _ hm => mBin_el hm fun _ _ _ _ _ => rfl

theorem sx_cmp {op : CmpOp} (ha : SX prog w mg mb fns B ma ga) (hb : SX prog w mg mb fns B mb' gb) :
    SX prog w mg mb fns B (fun sc x => okOp op && mCmp op (ma sc) (mb' sc) x) (fun ρ => do let x ← ga ρ; let y ← gb ρ; (cmpPV op x y).map .bool) :=
  ⟨fun x A env ρ v D s Q Ex hm hv R h => and_el hm fun h1 hm => mCmp_el hm fun l r p h2 h3 => bnd hv fun x hx hv => bnd hv fun y hy e => mp (P := fun v => PostE s D v Q → _) e (fun q hq h =>
      wpAny_Compare1 (hm := behind_ok h1 r) (bin ha hb h2 h3 hx hy R fun h' tk' w1 w2 k r1 r2 => cmp_raw hq r1 r2 R.room.line (h h' tk' _ k (.bool _)))) h,
    fun x A env ρ v D s Q Ex hm hv R h => and_el hm fun h1 hm => mCmp_el hm fun l r p h2 h3 => bnd hv fun x hx hv => bnd hv fun y hy e => map_bool e fun hq =>
      wpAny_isTrue_Compare1 (hm := behind_ok h1 r) (bin ha hb h2 h3 hx hy R fun h' tk' w1 w2 k r1 r2 => cmp_raw hq r1 r2 R.room.line (wpAny_truthy_bool (h h' tk' k)))⟩

noncomputable def Two (g1 g2 g3 : Option PV) (o₁ o₂ : CmpOp) : Option PV := do
  let x ← g1
  let y ← g2
  let p ← cmpPV o₁ x y
  if p then do let z ← g3; (cmpPV o₂ y z).map .bool else some (.bool false)
theorem two_el {g1 g2 g3 : Option PV} {o₁ o₂ : CmpOp} {v : PV} {P : Prop} (h : Two g1 g2 g3 o₁ o₂ = some v) (k : ∀ x y p, g1 = some x → g2 = some y → cmpPV o₁ x y = some p → (p = true → ∃ z q, g3 = some z ∧ cmpPV o₂ y z = some q ∧ v = .bool q) → (p = false → v = .bool false) → P) : P :=
  bnd h fun x hx h => bnd h fun y hy h => bnd h fun p hp h => k x y p hx hy hp (fun e => by subst e; exact bnd h fun z hz h => mp (P := fun v => ∃ z' q, g3 = some z' ∧ cmpPV o₂ y z' = some q ∧ v = .bool q) h fun q hq => ⟨z, q, hz, hq, rfl⟩) (fun e => by subst e; exact (Option.some.inj h).symm)
theorem sx_cmp2 {o₁ o₂ : CmpOp} (ha : SX prog w mg mb fns B ma ga) (hb : SX prog w mg mb fns B mb' gb) (hc : SX prog w mg mb fns B mc gc) :
    SX prog w mg mb fns B (fun sc x => (okOp o₁ && okOp o₂) && mCmp2 o₁ o₂ (ma sc) (mb' sc) (mc sc) x) (fun ρ => Two (ga ρ) (gb ρ) (gc ρ) o₁ o₂) := by
  constructor
  · intro x A env ρ v D s Q Ex hm hv R h
    refine and_el hm fun h1 hm => and_el h1 fun h1 h2 => mCmp2_el hm fun l m r p h3 h4 h5 => two_el hv fun x y p hx hy hp ht hf => ?_
    refine chain2 h2 (ha.v l A env ρ x D s _ _ h3 hx R fun h₁ tk₁ w1 k₁ r1 => hb.v m A env ρ y D _ _ _ h4 hy (R.keep k₁) fun h' tk' w2 k₂ r2 => cmp_raw hp (r1.keep k₂) r2 R.room.line ⟨p, rfl, ?_⟩)
    have k := k₁.trans k₂
    cases p with
    | true =>
      obtain ⟨z, q, hz, hq, rfl⟩ := ht rfl
      exact hc.v r A env ρ z D _ _ _ h5 hz (R.keep k) fun h₂ tk₂ w3 k₂ r3 => cmp_raw hq (r2.keep k₂) r3 R.room.line (h h₂ tk₂ _ (k.trans k₂) (.bool _))
    | false => exact h h' tk' _ k (hf rfl ▸ .bool _)
  · intro x A env ρ v D s Q Ex hm hv R h
    refine and_el hm fun h1 hm => and_el h1 fun h1 h2 => mCmp2_el hm fun l m r p h3 h4 h5 => two_el hv fun x y p hx hy hp ht hf => ?_
    refine test2 h2 (ha.v l A env ρ x D s _ _ h3 hx R fun h₁ tk₁ w1 k₁ r1 => hb.v m A env ρ y D _ _ _ h4 hy (R.keep k₁) fun h' tk' w2 k₂ r2 => cmp_raw hp (r1.keep k₂) r2 R.room.line ⟨p, rfl, ?_⟩)
    have k := k₁.trans k₂
    cases p with
    | true =>
      obtain ⟨z, q, hz, hq, e⟩ := ht rfl
      cases e
      exact hc.v r A env ρ z D _ _ _ h5 hz (R.keep k) fun h₂ tk₂ w3 k₂ r3 => cmp_raw hq (r2.keep k₂) r3 R.room.line ⟨_, rfl, h h₂ tk₂ (k.trans k₂)⟩
    | false => cases hf rfl; exact h h' tk' k

theorem tup_in {A : Around} {env : Env} {s : Shared} {Q : Value → Shared → Prop} {Ex : Value → Shared → Prop} {i j : Int} {x : Expr} {v : Value} {k : Int} (hx : mInts i j x = true) {D : Addr → Prop} {h : Heap} (r : Rep h D v (.int k))
    (h : ∀ h' tk', Kept s.heap h' → Q (.bool (decide (k = i) || decide (k = j))) { s with heap := h', toks := tk' }) : wpAny (model prog w) A (eval x env) (fun b s₂ => wpAny (model prog w) A (compareOp .In v b) Q Ex s₂) Ex s :=
  mInts_el hx fun k1 p1 k2 p2 k3 p3 => r.int_el fun t => wpAny_Tuple (wpAny_items_cons (he := rfl) (wpAny_Constant_int (wpAny_items_cons (he := rfl) (wpAny_Constant_int (wpAny_items_nil ⟨Nat.le_trans (show 2 ≤ 2 ^ 20 + 2 ^ 20 by decide) sizeLine_ge,
    in_tuple_ints (ns := [i, j]) ⟨_, Heap.get?_push_size _ rfl, rfl, 0, rfl⟩ (.cons _ _ (.cons _ _ .nil)) (by
      have e : ([i, j].any (· == k)) = (decide (k = i) || decide (k = j)) := by
        simp only [List.any_cons, List.any_nil, Bool.or_false, int_beq]
        congr 1 <;> exact decide_eq_decide.mpr eq_comm
      rw [e]
      exact h _ _ (Kept.push _))⟩)))))
theorem sx_in {i j : Int} (ha : SX prog w mg mb fns B ma ga) :
    SX prog w mg mb fns B (fun sc x => mIn i j (ma sc) x) (fun ρ => do let u ← ga ρ; let k ← pInt u; some (.bool (decide (k = i) || decide (k = j)))) :=
  ⟨fun x A env ρ v D s Q Ex hm hv R h => mCmp_el (show mCmp .In _ _ _ = true from hm) fun l r p h2 h3 => bnd hv fun u hu hv => bnd hv fun k hk e =>
      wpAny_Compare1 (hm := ints_behind h3) (ha.v l A env ρ _ D s _ _ h2 hu R fun h₁ tk₁ w1 k₁ r1 => tup_in h3 (pInt_inv hk ▸ r1) fun h' tk' k' => h h' tk' _ (k₁.trans k') (Option.some.inj e ▸ .bool _)),
    fun x A env ρ v D s Q Ex hm hv R h => mCmp_el (show mCmp .In _ _ _ = true from hm) fun l r p h2 h3 => bnd hv fun u hu hv => bnd hv fun k hk e => by
      cases e
      exact wpAny_isTrue_Compare1 (hm := ints_behind h3) (ha.v l A env ρ _ D s _ _ h2 hu R fun h₁ tk₁ w1 k₁ r1 => tup_in h3 (pInt_inv hk ▸ r1) fun h' tk' k' => wpAny_truthy_bool (h h' tk' (k₁.trans k')))⟩

theorem sx_and {c : Bool} {g : Rho → Option PV} (h : c = true → SX prog w mg mb fns B ma g) : SX prog w mg mb fns B (fun sc x => c && ma sc x) g :=
  ⟨fun x A env ρ v D s Q Ex hm hv R => and_el hm fun hc hm => (h hc).v x A env ρ v D s Q Ex hm hv R, fun x A env ρ v D s Q Ex hm hv R => and_el hm fun hc hm => (h hc).t x A env ρ v D s Q Ex hm hv R⟩
theorem sx_bop {n : Nat} {p : Bool} {m : Names → List Expr → Bool} {g : Rho → Option (List PV)} {f : Bool → Rho → Option Bool} (hn : n ≠ 0) (hs : SXs prog w mg mb fns B n m g f) :
    SX prog w mg mb fns B (fun sc x => mBop p (m sc) x) (fun ρ => (f p ρ).map .bool) :=
  ⟨fun x A env ρ v D s Q Ex hm hv R h => mBop_el hm fun xs q hm => mp (P := fun v => PostE s D v Q → _) hv (fun b hb h => by
      rw [arm_eval_BoolOp]
      exact hs.b p xs q A env ρ b D s Q Ex (fun e => hn (by rw [← hs.len _ _ hm, e]; rfl)) hm hb R h) h,
    fun x A env ρ b D s Q Ex hm hv R h => mBop_el hm fun xs q hm => map_bool hv fun hb => wpAny_isTrue_BoolOp (hs.a p xs A env ρ _ D s Q Ex hm hb R h)⟩

theorem sx_ite (ht : SX prog w mg mb fns B mc gc) (ha : SX prog w mg mb fns B ma ga) (hb : SX prog w mg mb fns B mb' gb) :
    SX prog w mg mb fns B (fun sc x => mIf (mc sc) (ma sc) (mb' sc) x) (fun ρ => do let u ← gc ρ; let p ← pBool u; if p then ga ρ else gb ρ) := by
  constructor
  · intro x A env ρ v D s Q Ex hm hv R h
    refine mIf_el hm fun y z u q h1 h2 h3 => bnd hv fun t hu hv => bnd hv fun p hp e => wpAny_IfExp (ht.t y A env ρ p D s _ _ h1 (pBool_inv hp ▸ hu) R fun h₁ tk₁ k₁ => ?_)
    cases p with
    | true => exact ha.v z A env ρ v D _ _ _ h2 e (R.keep k₁) fun h' tk' w' k r => h h' tk' w' (k₁.trans k) r
    | false => exact hb.v u A env ρ v D _ _ _ h3 e (R.keep k₁) fun h' tk' w' k r => h h' tk' w' (k₁.trans k) r
  · intro x A env ρ v D s Q Ex hm hv R h
    refine mIf_el hm fun y z u q h1 h2 h3 => bnd hv fun t hu hv => bnd hv fun p hp e => ?_
    rw [arm_isTrue_IfExp]
    refine wpAny_bind (ht.t y A env ρ p D s _ _ h1 (pBool_inv hp ▸ hu) R fun h₁ tk₁ k₁ => ?_)
    cases p with
    | true => exact ha.t z A env ρ v D _ _ _ h2 e (R.keep k₁) fun h' tk' k => h h' tk' (k₁.trans k)
    | false => exact hb.t u A env ρ v D _ _ _ h3 e (R.keep k₁) fun h' tk' k => h h' tk' (k₁.trans k)

theorem sx_idx (ha : SX prog w mg mb fns B ma ga) (hb : SX prog w mg mb fns B mb' gb) :
    SX prog w mg mb fns B (fun sc x => mSub (ma sc) (fun r => okArg r && mb' sc r) x) (fun ρ => do let x ← ga ρ; let y ← gb ρ; idxPV x y) :=
  sx_of (fun x A env ρ v D s Q Ex hm hv R h => mSub_el hm fun l r p h2 h3 => and_el h3 fun h1 h3 => bnd hv fun x hx hv => bnd hv fun y hy e =>
    Subscript_ (bin ha hb h2 h3 hx hy R fun h' tk' w1 w2 k r1 r2 => idx_raw h1 e r1 r2 fun h'' tk'' w' k' r' => h h'' tk'' w' (k.trans k') r')) fun _ _ hm => mSub_el hm fun _ _ _ _ _ => rfl

theorem DOk.fresh1 {D : Addr → Prop} {h : Heap} (x : DOk D h) : ¬ D (h.objs.size + 1) := fun k => by
  obtain ⟨o, e⟩ := x _ k
  exact absurd (Heap.lt_size e) (Nat.not_lt.mpr (Nat.le_succ _))
theorem get_push2 {h : Heap} (o₁ o₂ : Obj) (hf : o₂.isFreed = false) : ((h.push o₁).push o₂).get? (h.objs.size + 1) = some o₂ := by
  have := Heap.get?_push_size (h.push o₁) (o := o₂) hf
  rwa [Heap.size_push] at this
noncomputable def cutPV (f : List PV → Nat → List PV) (x y : PV) : Option PV := (pLst x).bind fun xs => (pInt y).bind fun i => if 0 ≤ i then some (.list (f xs i.toNat)) else none
theorem cut_el {f : List PV → Nat → List PV} {x y v : PV} {P : PV → PV → PV → Prop} (h : cutPV f x y = some v) (k : ∀ xs (m : Nat), P (.list xs) (.int m) (.list (f xs m))) : P x y v := by
  obtain ⟨xs, hx, h⟩ := Option.bind_eq_some_iff.mp h
  obtain ⟨i, hi, h⟩ := Option.bind_eq_some_iff.mp h
  obtain ⟨h0, rfl⟩ := if_some h
  obtain ⟨m, rfl⟩ := Int.eq_ofNat_of_zero_le h0
  rw [pLst_inv hx, pInt_inv hi]
  exact k xs m
noncomputable def CutOk (env : Env) (f : List PV → Nat → List PV) (A : Around) (s : Shared) (u : Value) (w1 : Value) (v : PV) (D : Addr → Prop) (Q Ex : Value → Shared → Prop) : Prop := True
theorem sx_upto (ha : SX prog w mg mb fns B ma ga) (hb : SX prog w mg mb fns B mb' gb) :
    SX prog w mg mb fns B (fun sc x => mSub (ma sc) (mUpto (mb' sc)) x) (fun ρ => do let x ← ga ρ; let y ← gb ρ; uptoPV x y) :=
  sx_of (fun x A env ρ v D s Q Ex hm hv R h => mSub_el hm fun l sl p h1 h2 => mUpto_el h2 fun r p' h2 => bnd hv fun x hx hv => bnd hv fun y hy e => by
    refine cut_el (P := fun x y v => ga ρ = some x → gb ρ = some y → PostE s D v Q → _) (f := fun xs m => xs.take m) e (fun xs m hx hy h => ?_) hx hy h
    refine Subscript_ (ha.v _ A env ρ _ D s _ _ h1 hx R fun h₁ tk₁ w1 k₁ r1 => wpAny_Slice ?_)
    rw [evalPart_none, evalPart_some]
    refine wpAny_pure (hb.v _ A env ρ _ D _ _ _ h2 hy (R.keep k₁) fun h₂ tk₂ w2 k₂ r2 => wpAny_pure (r2.int_el fun t => r1.list_el fun a vs n hDl hg hr hlx => ?_))
    refine slice_raw (s := { s with heap := h₂, toks := tk₂ }) (k₂ _ _ hg) .none (.int _ _) (size_fit hr hlx) ?_
    refine h ((h₂.push _).push _) tk₂ _ (k₁.trans (k₂.trans ((Kept.push _).trans (Kept.push _)))) (.list (n := 0) (vs := slicePick vs none (some (m : Int)) none) ((R.keep k₁).keep k₂).dok.fresh1 (get_push2 _ _ rfl) ?_ (Nat.le_trans (List.length_take_le' _ _) hlx))
    rw [pick_upto]
    exact (hr.take m).keep (k₂.trans ((Kept.push _).trans (Kept.push _)))) fun _ _ hm => mSub_el hm fun _ _ _ _ _ => rfl
theorem sx_from (ha : SX prog w mg mb fns B ma ga) (hb : SX prog w mg mb fns B mb' gb) :
    SX prog w mg mb fns B (fun sc x => mSub (ma sc) (mFrom (mb' sc)) x) (fun ρ => do let x ← ga ρ; let y ← gb ρ; fromPV x y) :=
  sx_of (fun x A env ρ v D s Q Ex hm hv R h => mSub_el hm fun l sl p h1 h2 => mFrom_el h2 fun r p' h2 => bnd hv fun x hx hv => bnd hv fun y hy e => by
    refine cut_el (P := fun x y v => ga ρ = some x → gb ρ = some y → PostE s D v Q → _) (f := fun xs m => xs.drop m) e (fun xs m hx hy h => ?_) hx hy h
    refine Subscript_ (ha.v _ A env ρ _ D s _ _ h1 hx R fun h₁ tk₁ w1 k₁ r1 => wpAny_Slice ?_)
    rw [evalPart_none, evalPart_some]
    refine hb.v _ A env ρ _ D _ _ _ h2 hy (R.keep k₁) fun h₂ tk₂ w2 k₂ r2 => wpAny_pure (wpAny_pure (r2.int_el fun t => r1.list_el fun a vs n hDl hg hr hlx => ?_))
    refine slice_raw (s := { s with heap := h₂, toks := tk₂ }) (k₂ _ _ hg) (.int _ _) .none (size_fit hr hlx) ?_
    refine h ((h₂.push _).push _) tk₂ _ (k₁.trans (k₂.trans ((Kept.push _).trans (Kept.push _)))) (.list (n := 0) (vs := slicePick vs (some (m : Int)) none none) ((R.keep k₁).keep k₂).dok.fresh1 (get_push2 _ _ rfl) ?_ (Nat.le_trans (List.length_drop ▸ Nat.sub_le _ _) hlx))
    rw [pick_from]
    exact (hr.drop m).keep (k₂.trans ((Kept.push _).trans (Kept.push _)))) fun _ _ hm => mSub_el hm fun _ _ _ _ _ => rfl

theorem args_eval {A : Around} {Ex : Value → Shared → Prop} {s : Shared} {env : Env} {f : Value} {x : Expr} {rest : List Expr} {pos : Pos} {Q : Args → Shared → Prop} (hx : okArg x = true)
    (h : wpAny (model prog w) A (spliced (backTo pos (starEach (x :: rest) env))) (fun vs s' => Q ⟨vs, []⟩ s') Ex s) : wpAny (model prog w) A (evalArgs f true (backTo pos (starEach (x :: rest) env)) []) Q Ex s := by
  rw [star_ok hx] at h ⊢
  exact Calls.evalArgs_plain h

variable {n : Nat} {m : Names → List Expr → Bool} {g : Rho → Option (List PV)} {f : Bool → Rho → Option Bool}
theorem sx_call {T : Nat → List PV → Option PV} {f' : Nat} (hT : ∀ f, f < B → Contract prog w mg mb fns T f) (hs : SXs prog w mg mb fns B n m g f) (hn : n ≠ 0) (hf : f' < B) :
    SX prog w mg mb fns B (fun sc x => mCall (fun y => isGlo sc y && on fns[f']? fun d => d.name == y) (m sc) x) (fun ρ => do let xs ← g ρ; T f' xs) :=
  sx_of (fun x A env ρ v D s Q Ex hm hv R h => mCall_el hm fun y np xs pos hy hm => and_el hy fun hx hy => bnd hv fun vs hvs hT' => by
    obtain ⟨d, hd, hn'⟩ := on_inv hy
    obtain ⟨a, o, pm, code, doc, h1, h2, h3, h4⟩ := R.base.fn f' d hd
    refine wpAny_Call_NameR (glob_name R.ok R.base hx (beq_inv hn' ▸ h1) (Calls.callWith_function (o := o) (fd := Calls.docDef d.name d.params d.body d.scope pm code doc) ?_))
    cases xs with
    | nil => exact absurd (hs.len _ _ hm).symm hn
    | cons y ys =>
      exact args_eval (hs.hd _ _ _ hm) (hs.vs _ pos A env ρ vs D s _ _ hm hvs R fun h' tk' ws k r => ⟨⟨k _ _ h2, h3⟩,
        hT f' hf d a A D _ ws vs v _ _ hd h1 (R.room.le hf) (R.base.keep k) (R.dok.keep k) r hT' fun h'' tk'' w' k' r' => h h'' tk'' w' (k.trans k') r'⟩)) fun _ _ hm => mCall_el hm fun _ _ _ _ _ _ => rfl

theorem sx_len (G : mg "len" = none ∧ mb "len" = some (.builtin "len")) (ha : SX prog w mg mb fns B ma ga) :
    SX prog w mg mb fns B (fun sc x => mCall (fun y => y == ("len" : Str) && isGlo sc y) (fun xs => on (one xs) fun l => okArg l && ma sc l) x) (fun ρ => do let x ← ga ρ; lenPV x) :=
  sx_of (fun x A env ρ v D s Q Ex hm hv R h => mCall_el hm fun y np xs pos hy hm => and_el hy fun hy hx => mOne_el hm fun l hm => and_el hm fun hl hm => bnd hv fun u hu e => bnd e fun xs hxs e => by
    obtain rfl := beq_inv hy
    refine wpAny_Call_NameR (blt_name R.ok R.base hx G (Calls.callWith_builtin (by rw [star_ok hl]; rfl) (args_eval hl (wpAny_items_cons (he := star_ok hl _) (ha.v _ A env ρ u D s _ _ hm hu R fun h₁ tk₁ w1 k₁ r1 => wpAny_items_nil ?_)))))
    refine (show Rep h₁ D w1 (.list xs) from pLst_inv hxs ▸ r1).list_el fun a vs n _ hg hr hlx => Calls.call_len_list (s := { s with heap := h₁, toks := tk₁ }) ⟨_, hg, rfl, n, rfl⟩ (size63 hr hlx) ?_
    rw [hr.size]
    exact h h₁ _ _ k₁ (Option.some.inj e ▸ .int _ _)) fun _ _ hm => mCall_el hm fun _ _ _ _ _ _ => rfl
theorem sx_max (G : mg "max" = none ∧ mb "max" = some (.builtin "max")) (ha : SX prog w mg mb fns B ma ga) (hb : SX prog w mg mb fns B mb' gb) :
    SX prog w mg mb fns B (fun sc x => mCall (fun y => y == ("max" : Str) && isGlo sc y) (fun xs => on (two xs) fun q => (okArg q.1 && okArg q.2) && (ma sc q.1 && mb' sc q.2)) x) (fun ρ => do let x ← ga ρ; let y ← gb ρ; maxPV x y) :=
  sx_of (fun x A env ρ v D s Q Ex hm hv R h => mCall_el hm fun y np xs pos hy hm => and_el hy fun hy hx => mTwo_el hm fun l r hm => and_el hm fun ho hm => and_el ho fun hl hr => and_el hm fun hm1 hm2 => bnd hv fun x hx' hv => bnd hv fun y hy' e => by
    obtain rfl := beq_inv hy
    obtain ⟨a, b, rfl, rfl, e'⟩ := onI_inv e
    clear hv e
    refine wpAny_Call_NameR (blt_name R.ok R.base hx G (Calls.callWith_builtin (by rw [star_ok hl, star_ok hr]; rfl) (args_eval hl ?_)))
    refine wpAny_items_cons (he := star_ok hl _) (ha.v _ A env ρ _ D s _ _ hm1 hx' R fun h₁ tk₁ w1 k₁ r1 => wpAny_items_cons (he := star_ok hr _) (hb.v _ A env ρ _ D _ _ _ hm2 hy' (R.keep k₁) fun h₂ tk₂ w2 k₂ r2 => wpAny_items_nil ?_))
    refine r1.int_el fun t => r2.int_el fun u => max_two_ints R.room.handled fun h₃ tk₃ k₃ => ?_
    by_cases hpq : b > a
    · rw [if_pos hpq] at e' ⊢
      exact h h₃ tk₃ _ (k₁.trans (k₂.trans k₃)) (Option.some.inj e' ▸ Rep.int _ _)
    · rw [if_neg hpq] at e' ⊢
      exact h h₃ tk₃ _ (k₁.trans (k₂.trans k₃)) (Option.some.inj e' ▸ Rep.int _ _)) fun _ _ hm => mCall_el hm fun _ _ _ _ _ _ => rfl

theorem sx_lst (hs : SXs prog w mg mb fns B n m g f) : SX prog w mg mb fns B (fun sc x => mList (m sc) x) (fun ρ => do let xs ← g ρ; mkL xs) :=
  sx_of (fun x A env ρ v D s Q Ex hm hv R h => mList_el hm fun xs p hm => bnd hv fun vs hvs e => by
    obtain ⟨rfl, hl⟩ := mkL_inv e
    exact wpAny_List (hs.vs _ _ A env ρ vs D s _ _ hm hvs R fun h₁ tk₁ ws k₁ r1 => ⟨by rw [r1.length]; exact Nat.le_trans hl (Nat.le_trans (by decide) sizeLine_ge),
      h (h₁.push (lstO ws.toArray 0)) _ _ (k₁.trans (Kept.push _)) (.list (n := 0) (vs := ws.toArray) (R.dok.keep k₁).fresh (Heap.get?_push_size _ rfl) (r1.keep (Kept.push _)) hl)⟩)) fun _ _ hm => mList_el hm fun _ _ _ => rfl
theorem sx_tup (hs : SXs prog w mg mb fns B n m g f) (hn : n ≤ 100) : SX prog w mg mb fns B (fun sc x => mTup (m sc) x) (fun ρ => do let xs ← g ρ; some (.tup xs)) :=
  sx_of (fun x A env ρ v D s Q Ex hm hv R h => mTup_el hm fun xs k p hm => bnd hv fun vs hvs e => by
    have hl : vs.length ≤ 2 ^ 20 := Nat.le_trans (hs.lenv _ _ hvs ▸ hn) (by decide)
    exact wpAny_Tuple (hs.vs _ _ A env ρ vs D s _ _ hm hvs R fun h₁ tk₁ ws k₁ r1 => ⟨by rw [r1.length]; exact Nat.le_trans hl (Nat.le_trans (by decide) sizeLine_ge),
      h (h₁.push (tupO ws.toArray 0)) _ _ (k₁.trans (Kept.push _)) (Option.some.inj e ▸ .tup (n := 0) (vs := ws.toArray) (R.dok.keep k₁).fresh (Heap.get?_push_size _ rfl) (r1.keep (Kept.push _)) hl)⟩)) fun _ _ hm => mTup_el hm fun _ _ _ _ => rfl

theorem sx_comp {n : Nat} {free : List (Nat × Nat)} {t : Option Nat} {ts : List Nat} {mo : Names → List Expr → Bool} {go : Rho → Option Bool} (hi : SX prog w mg mb fns B ma ga) (he : SX prog w mg mb fns B mb' gb) (hc : SO prog w mg mb fns B mo go) :
    SX prog w mg mb fns B (fun sc x => mComp (fun scope => compOk n scope && freeOk sc scope.names free) (ma sc) (fun sc' => matchT sc' t ts) (fun sc' => mb' sc') (fun sc' => mo sc') sc x)
      (fun ρ => do
        let u ← ga ρ
        let xs ← pLst u
        let ys ← compL (fun x => do
            let σ ← bindT (laid n free ρ) t ts x
            let p ← go σ
            if p then do let y ← gb σ; some (some y) else some none) xs
        some (.list ys)) :=
  sx_of (fun x A env ρ v D s Q Ex hm hv R h => by
    refine mComp_el hm fun x target it ifs scope pos h1 h23 h4 h5 h6 h7 => and_el h23 fun h2 h3 => bnd hv fun u hu e => bnd e fun xs hxs e => bnd e fun ys hys e => ?_
    exact comp_sound (cond := go) (eltf := gb) R.ok R.room.handled R.inv R.dok h2 h3 h1 h5 (hi.v it A env ρ _ D s _ _ h4 hu R fun h₁ tk₁ w1 k₁ r1 => ⟨h₁, tk₁, rfl, k₁, pLst_inv hxs ▸ r1⟩) hys
      (fun cenv D' s' σ p Q' E' ho hn hk hd hI hp hP => hc ifs A cenv σ p D' s' Q' E' (hn ▸ h7) hp ⟨ho, R.room, R.base.keep hk, hI, hd⟩ hP)
      (fun cenv D' s' σ y Q' E' ho hn hk hd hI hy hP => he.v _ A cenv σ y D' s' Q' E' (hn ▸ h6) hy ⟨ho, R.room, R.base.keep hk, hI, hd⟩ hP)
      (fun h' tk' d k _ r => h h' tk' _ k (Option.some.inj e ▸ r))) fun _ _ hm => mComp_el hm fun _ _ _ _ _ _ _ _ _ _ _ _ => rfl

theorem sxs_nil : SXs prog w mg mb fns B 0 (fun _ xs => xs.isEmpty) (fun _ => some []) (fun and _ => some and) where
  vs := fun xs pos A env ρ vs D s Q Ex hm hv R h => by
    obtain rfl := List.isEmpty_iff.mp hm
    cases hv
    exact wpAny_items_nil (h s.heap s.toks _ (Kept.refl _) .nil)
  b := fun and xs pos A env ρ b D s Q Ex hne hm => absurd (List.isEmpty_iff.mp hm) hne
  a := fun and xs A env ρ b D s Q Ex hm hv R h => by
    obtain rfl := List.isEmpty_iff.mp hm
    cases hv
    cases and with
    | true => exact wpAny_allTrue_And_nil (h s.heap s.toks (Kept.refl _))
    | false => exact wpAny_allTrue_Or_nil (h s.heap s.toks (Kept.refl _))
  nil := fun _ _ _ _ _ h => (Option.some.inj h).symm
  len := fun _ _ hm => List.isEmpty_iff.mp hm ▸ rfl
  lenv := fun _ _ h => Option.some.inj h ▸ rfl
  hd := fun _ _ _ h => nomatch h

theorem if_el {p and b : Bool} {o : Option Bool} {P : Prop} (h : (if p = and then o else some p) = some b) (k1 : p = and → o = some b → P) (k2 : p ≠ and → p = b → P) : P := by
  by_cases hp : p = and
  · rw [if_pos hp] at h; exact k1 hp h
  · rw [if_neg hp] at h; exact k2 hp (Option.some.inj h)
theorem sxs_cons (ha : SX prog w mg mb fns B ma ga) (hs : SXs prog w mg mb fns B n m g f) :
    SXs prog w mg mb fns B (n + 1) (fun sc xs => on xs.head? (fun x => okArg x && ma sc x) && m sc xs.tail) (fun ρ => do let x ← ga ρ; let xs ← g ρ; some (x :: xs))
      (fun and ρ => do let u ← ga ρ; let p ← pBool u; if p = and then f and ρ else some p) where
  vs := fun xs pos A env ρ vs D s Q Ex hm hv R h => mCons_el (P := fun xs => wpAny (model prog w) A (spliced (backTo pos (starEach xs env))) Q Ex s) hm fun x xs h0 h1 h2 => bnd hv fun v hv1 hv => bnd hv fun us hv2 q =>
    wpAny_items_cons (he := star_ok h0 _) (ha.v x A env ρ v D s _ _ h1 hv1 R fun h₁ tk₁ w1 k₁ r1 =>
      hs.vs xs pos A env ρ us D _ _ _ h2 hv2 (R.keep k₁) fun h' tk' ws k r => h h' tk' _ (k₁.trans k) (Option.some.inj q ▸ .cons (r1.keep k) r))
  b := fun and xs pos A env ρ b D s Q Ex hne hm hv R h => by
    clear hne
    refine mCons_el (P := fun xs => wpAny (model prog w) A (boolOp pos (if and then .And else .Or) (evalEach xs env)) Q Ex s) hm fun x ys h0 h1 h2 => bnd hv fun u hu hv => bnd hv fun p hp hv => ?_
    have hu : ga ρ = some (.bool p) := pBool_inv hp ▸ hu
    rw [arm_evalEach_cons]
    cases ys with
    | nil =>
      rw [arm_evalEach_nil, boolOp_one]
      have hb : p = b := if_el hv (fun e q => e.trans (hs.nil _ h2 _ _ _ q).symm) fun _ e => e
      exact ha.v x A env ρ _ D s _ _ h1 (hb ▸ hu) R h
    | cons x' ys =>
      rw [arm_evalEach_cons]
      refine boolOp_cons (ha.v x A env ρ _ D s _ _ h1 hu R fun h₁ tk₁ w1 k₁ r1 => ⟨p, r1.bool_inv, ?_⟩)
      refine if_el hv (fun e q => ?_) fun e q => ?_
      · rw [if_pos e, ← arm_evalEach_cons]
        exact hs.b and (x' :: ys) pos A env ρ b D _ _ _ (fun e => nomatch e) h2 q (R.keep k₁) fun h' tk' w' k r => h h' tk' w' (k₁.trans k) r
      · rw [if_neg e]
        exact h h₁ tk₁ _ k₁ (q ▸ .bool _)
  a := fun and xs A env ρ b D s Q Ex hm hv R h => by
    refine mCons_el (P := fun xs => wpAny (model prog w) A (allTrue (if and then .And else .Or) xs env) Q Ex s) hm fun x ys h0 h1 h2 => bnd hv fun u hu hv => bnd hv fun p hp hv => ?_
    have hu : ga ρ = some (.bool p) := pBool_inv hp ▸ hu
    cases and with
    | true =>
      refine wpAny_allTrue_And_cons (ha.t x A env ρ p D s _ _ h1 hu R fun h₁ tk₁ k₁ => ?_)
      cases p with
      | true => exact hs.a true ys A env ρ b D _ _ _ h2 hv (R.keep k₁) fun h' tk' k => h h' tk' (k₁.trans k)
      | false => obtain rfl : false = b := Option.some.inj hv; exact h h₁ tk₁ k₁
    | false =>
      refine wpAny_allTrue_Or_cons (ha.t x A env ρ p D s _ _ h1 hu R fun h₁ tk₁ k₁ => ?_)
      cases p with
      | false => exact hs.a false ys A env ρ b D _ _ _ h2 hv (R.keep k₁) fun h' tk' k => h h' tk' (k₁.trans k)
      | true => obtain rfl : true = b := Option.some.inj hv; exact h h₁ tk₁ k₁
  nil := fun _ h => nomatch h
  len := fun sc xs hm => mCons_el (P := fun xs => xs.length = n + 1) hm fun _ _ _ _ h => congrArg (· + 1) (hs.len _ _ h)
  lenv := fun ρ vs hv => bnd hv fun v hv1 hv => bnd hv fun us hv2 q => Option.some.inj q ▸ congrArg (· + 1) (hs.lenv _ _ hv2)
  hd := fun _ _ _ h => (and_inv (and_inv h).1).1

theorem so_none : SO prog w mg mb fns B (fun _ xs => xs.isEmpty) (fun _ => some true) := fun ifs A env ρ b D s Q Ex hm hv R h => by
  obtain rfl := List.isEmpty_iff.mp hm
  cases hv
  exact wpAny_tests_nil (h s.heap s.toks (Kept.refl _))
theorem so_some (ha : SX prog w mg mb fns B ma ga) : SO prog w mg mb fns B (fun sc xs => on (one xs) fun x => ma sc x) (fun ρ => do let u ← ga ρ; pBool u) := fun ifs A env ρ b D s Q Ex hm hv R h =>
  mOne_el hm fun x hm => bnd hv fun u hu hp => wpAny_tests_one (ha.t x A env ρ b D s Q Ex hm (pBool_inv hp ▸ hu) R h)

theorem ne0 {α : Type} {l : List α} (h : (!l.isEmpty) = true) : l.length ≠ 0 := fun e => by rw [List.length_eq_zero_iff.mp e] at h; cases h
variable {T : Nat → List PV → Option PV}
variable (hT : ∀ f, f < B → Contract prog w mg mb fns T f) (G : Glo mg mb)
include hT G
theorem snd (e : Mine.E) : SX prog w mg mb fns B (matchE fns B e) (ev T e) :=
  Mine.E.rec (motive_1 := fun e => SX prog w mg mb fns B (matchE fns B e) (ev T e)) (motive_2 := fun es => SXs prog w mg mb fns B es.length (matchEs fns B es) (evs T es) (fun and ρ => evB T and es ρ))
    (motive_3 := fun o => SO prog w mg mb fns B (matchO fns B o) (evO T o))
    (fun i => sx_loc i) (fun i => sx_int i) (fun b => sx_bool b) (sx_glob G.tab) (sx_glob G.blank) sx_neg1
    (fun a b ha hb => sx_bin op_add ha hb) (fun a b ha hb => sx_bin op_sub ha hb) (fun a b ha hb => sx_bin op_mul ha hb) (fun a b ha hb => sx_bin op_fdiv ha hb) (fun a b ha hb => sx_bin op_mod ha hb)
    (fun c n hc hn => sx_rep hc hn) (fun op a b ha hb => sx_cmp ha hb) (fun o₁ o₂ a b c ha hb hc => sx_cmp2 ha hb hc) (fun a x y ha => sx_in ha)
    (fun p es hs => sx_and fun hn => sx_bop (ne0 hn) hs) (fun t a b ht ha hb => sx_ite ht ha hb) (fun a i ha hi => sx_idx ha hi) (fun a i ha hi => sx_upto ha hi) (fun a i ha hi => sx_from ha hi)
    (fun f es hs => sx_and fun h => sx_call hT hs (ne0 (and_inv h).2) (of_decide_eq_true (and_inv h).1)) (fun a ha => sx_len G.len ha) (fun a b ha hb => sx_max G.max ha hb) (fun es hs => sx_lst hs) (fun es hs => sx_and fun hn => sx_tup hs (of_decide_eq_true hn))
    (fun n free t ts elt iter cond he hi hc => sx_comp hi he hc) sxs_nil (fun e es he hs => sxs_cons he hs) so_none (fun e he => so_some he) e
end
end Mine
end

section
open PySem PyProof.Rows
namespace Mine

/-- own syntax of statements -/
inductive S where
  | asg (i : Nat) (e : E)
  | unp (ts : List Nat) (e : E)
  | swp (i j : Nat) (a b : E)
  | ret (e : E)
  | iff (t : E) (a b : List S)
  | forL (t : Option Nat) (ts : List Nat) (e : E) (body : List S)
  | forR (i : Nat) (e : E) (body : List S)
  | whl (t : E) (body : List S)
  | app (i : Nat) (e : E)
  | ext (i : Nat) (e : E)
  | retO (i : Nat)

inductive Fl where
  | next
  | ret (v : PV)

noncomputable abbrev Own := Option (Nat × List PV)
noncomputable def ownNe (o : Own) (i : Nat) : Bool := match o with
  | some (k, _) => k != i
  | none => true

noncomputable def tgtNe (o : Own) (t : Option Nat) (ts : List Nat) : Bool := (t.all (ownNe o)) && ts.all (ownNe o)

noncomputable abbrev Out := Fl × Rho × Own

noncomputable def gd {α : Type} (c : Bool) (o : Option α) : Option α := if c = true then o else none
theorem gd_el {α : Type} {c : Bool} {o : Option α} {v : α} {P : Prop} (h : gd c o = some v) (k : c = true → o = some v → P) : P := by
  cases c with
  | true => exact k rfl h
  | false => cases h
theorem gd_pos {α : Type} {c : Bool} (o : Option α) (h : c = true) : gd c o = o := if_pos h
noncomputable def stp (f : Rho → Own → Option Out) (r : Out) : Option Out := match r.1 with
  | .next => f r.2.1 r.2.2
  | .ret _ => some r
noncomputable def loopF (f : PV → Rho → Own → Option Out) : List PV → Rho → Own → Option Out
  | [], ρ, o => some (.next, ρ, o)
  | x :: r, ρ, o => f x ρ o >>= stp (loopF f r)
noncomputable def whileF (t : Rho → Option Bool) (f : Rho → Own → Option Out) : Nat → Rho → Own → Option Out
  | 0, _, _ => none
  | n + 1, ρ, o => t ρ >>= fun p => if p = true then f ρ o >>= stp (whileF t f n) else some (.next, ρ, o)
noncomputable def turnF (t : Option Nat) (ts : List Nat) (g : Rho → Own → Option Out) (x : PV) (ρ : Rho) (o : Own) : Option Out := gd (tgtNe o t ts) (bindT ρ t ts x) >>= fun σ => g σ o
noncomputable def rangeL (n : Int) : List PV := (List.range n.toNat).map fun (k : Nat) => PV.int (k : Int)
noncomputable def growO (i : Nat) (ys : List PV) (ρ : Rho) (o : Own) : Option Out := o >>= fun q => gd (decide (q.1 = i ∧ q.2.length + ys.length ≤ 2 ^ 20)) (some (.next, ρ, some (q.1, q.2 ++ ys)))
noncomputable def retO (i : Nat) (ρ : Rho) (o : Own) : Option Out := o >>= fun q => gd (decide (q.1 = i)) (some (.ret (.list q.2), ρ, o))

mutual
noncomputable def exS (T : Nat → List PV → Option PV) (N : Nat) : S → Rho → Own → Option Out
  | .asg i e, ρ, o => gd (ownNe o i) (ev T e ρ >>= fun x => some (.next, ρ.set i (some x), o))
  | .unp ts e, ρ, o => gd (ts.all (ownNe o)) (ev T e ρ >>= fun x => pTup x >>= fun xs => setAll ρ ts xs >>= fun σ => some (.next, σ, o))
  | .swp i j a b, ρ, o => gd (ownNe o i && ownNe o j) (ev T a ρ >>= fun x => ev T b ρ >>= fun y => some (.next, (ρ.set j (some y)).set i (some x), o))
  | .ret e, ρ, o => ev T e ρ >>= fun x => some (.ret x, ρ, o)
  | .iff t a b, ρ, o => ev T t ρ >>= fun x => pBool x >>= fun p => if p = true then exSs T N a ρ o else exSs T N b ρ o
  | .forL t ts e body, ρ, o => ev T e ρ >>= fun x => pLst x >>= fun xs => loopF (turnF t ts (exSs T N body)) xs ρ o
  | .forR i e body, ρ, o => ev T e ρ >>= fun x => pInt x >>= fun n => gd (decide (0 ≤ n ∧ n ≤ 2 ^ 20)) (loopF (turnF (some i) [] (exSs T N body)) (rangeL n) ρ o)
  | .whl t body, ρ, o => whileF (fun ρ => evO T (some t) ρ) (exSs T N body) N ρ o
  | .app i e, ρ, o => ev T e ρ >>= fun x => growO i [x] ρ o
  | .ext i e, ρ, o => ev T e ρ >>= fun x => pLst x >>= fun ys => growO i ys ρ o
  | .retO i, ρ, o => retO i ρ o
noncomputable def exSs (T : Nat → List PV → Option PV) (N : Nat) : List S → Rho → Own → Option Out
  | [], ρ, o => some (.next, ρ, o)
  | st :: r, ρ, o => exS T N st ρ o >>= stp (exSs T N r)
end

noncomputable def plainV : Expr → Bool
  | .ListComp .. | .SetComp .. | .DictComp .. | .GeneratorExp .. | .Tuple .. => false
  | _ => true

noncomputable abbrev FS : Nat → Type
  | 0 => List Expr × Expr × Pos
  | 1 => Option Expr × Pos
  | 2 => Expr × List Stmt × List Stmt × Pos
  | 3 => Expr × Expr × List Stmt × List Stmt × Pos
  | 4 => Expr × List Stmt × List Stmt × Pos
  | 5 => Expr × Pos
  | _ => Unit
noncomputable def shS : Stmt → (t : Nat) × FS t
  | .Assign a b p => ⟨0, (a, b, p)⟩
  | .Return a p => ⟨1, (a, p)⟩
  | .If a b c p => ⟨2, (a, b, c, p)⟩
  | .For a b c d p => ⟨3, (a, b, c, d, p)⟩
  | .While a b c p => ⟨4, (a, b, c, p)⟩
  | .Expr a p => ⟨5, (a, p)⟩
  | _ => ⟨6, ()⟩
noncomputable def unS : (t : Nat) → FS t → Option Stmt
  | 0, q => some (.Assign q.1 q.2.1 q.2.2)
  | 1, q => some (.Return q.1 q.2)
  | 2, q => some (.If q.1 q.2.1 q.2.2.1 q.2.2.2)
  | 3, q => some (.For q.1 q.2.1 q.2.2.1 q.2.2.2.1 q.2.2.2.2)
  | 4, q => some (.While q.1 q.2.1 q.2.2.1 q.2.2.2)
  | 5, q => some (.Expr q.1 q.2)
  | _, _ => none
noncomputable def LS : Looks Stmt := ⟨FS, shS, unS, fun e x => by cases e <;> (intro h; first | exact Option.some.inj h | cases h)⟩
noncomputable def sAsg (e : Stmt) : Option (List Expr × Expr × Pos) := LS.get 0 e
theorem sAsg_inv {e : Stmt} {q : List Expr × Expr × Pos} (h : sAsg e = some q) : e = .Assign q.1 q.2.1 q.2.2 := LS.inv (t := 0) h _ rfl
noncomputable def sRet (e : Stmt) : Option (Option Expr × Pos) := LS.get 1 e
theorem sRet_inv {e : Stmt} {q : Option Expr × Pos} (h : sRet e = some q) : e = .Return q.1 q.2 := LS.inv (t := 1) h _ rfl
noncomputable def sIf (e : Stmt) : Option (Expr × List Stmt × List Stmt × Pos) := LS.get 2 e
theorem sIf_inv {e : Stmt} {q : Expr × List Stmt × List Stmt × Pos} (h : sIf e = some q) : e = .If q.1 q.2.1 q.2.2.1 q.2.2.2 := LS.inv (t := 2) h _ rfl
noncomputable def sFor (e : Stmt) : Option (Expr × Expr × List Stmt × List Stmt × Pos) := LS.get 3 e
theorem sFor_inv {e : Stmt} {q : Expr × Expr × List Stmt × List Stmt × Pos} (h : sFor e = some q) : e = .For q.1 q.2.1 q.2.2.1 q.2.2.2.1 q.2.2.2.2 := LS.inv (t := 3) h _ rfl
noncomputable def sWhl (e : Stmt) : Option (Expr × List Stmt × List Stmt × Pos) := LS.get 4 e
theorem sWhl_inv {e : Stmt} {q : Expr × List Stmt × List Stmt × Pos} (h : sWhl e = some q) : e = .While q.1 q.2.1 q.2.2.1 q.2.2.2 := LS.inv (t := 4) h _ rfl
noncomputable def sExp (e : Stmt) : Option (Expr × Pos) := LS.get 5 e
theorem sExp_inv {e : Stmt} {q : Expr × Pos} (h : sExp e = some q) : e = .Expr q.1 q.2 := LS.inv (t := 5) h _ rfl

noncomputable def mAsg (f g : Expr → Bool) (st : Stmt) : Bool := on (sAsg st) fun q => on (one q.1) fun t => f t && g q.2.1
@[elab_as_elim] theorem mAsg_el {f g : Expr → Bool} {P : Stmt → Prop} {st : Stmt} (h : mAsg f g st = true) (k : ∀ t v p, f t = true → g v = true → P (.Assign [t] v p)) : P st :=
  on_el h fun q h1 h => on_el h fun t h2 h => and_el h fun h3 h4 => sAsg_inv h1 ▸ one_inv h2 ▸ k _ _ _ h3 h4
theorem mAsg_inv {f g : Expr → Bool} {st : Stmt} (h : mAsg f g st = true) : ∃ t v p, st = .Assign [t] v p ∧ f t = true ∧ g v = true := mAsg_el h fun t v p h1 h2 => ⟨t, v, p, rfl, h1, h2⟩
/-- two names of one line, bound to two values at once -/
noncomputable def mPairT (sc : Names) (i j : Nat) (t : Expr) : Bool := on (xTup t) fun t => on (two t.1) fun t => on (xName t.1) fun x => on (xName t.2) fun y => (isSto sc i x.1 && isSto sc j y.1) && (!(x.1 == y.1) && x.2.line == y.2.line)
@[elab_as_elim] theorem mPairT_el {sc : Names} {i j : Nat} {P : Expr → Prop} {t : Expr} (h : mPairT sc i j t = true) (k : ∀ x p y q u tp, isSto sc i x = true → isSto sc j y = true → (x == y) = false → (p.line == q.line) = true → P (.Tuple [.Name x p, .Name y q] u tp)) : P t :=
  on_el h fun t h1 h => on_el h fun ab h2 h => on_el h fun x h3 h => on_el h fun y h4 h => and_el h fun h5 h => and_el h5 fun h5 h6 => and_el h fun h7 h8 => xTup_inv h1 ▸ two_inv h2 ▸ xName_inv h3 ▸ xName_inv h4 ▸ k _ _ _ _ _ _ h5 h6 (not_inv h7) h8
noncomputable def mPairV (f : Expr → Expr → Bool) (v : Expr) : Bool := on (xTup v) fun v => on (two v.1) fun v => f v.1 v.2
@[elab_as_elim] theorem mPairV_el {f : Expr → Expr → Bool} {P : Expr → Prop} {v : Expr} (h : mPairV f v = true) (k : ∀ u v a p, f u v = true → P (.Tuple [u, v] a p)) : P v :=
  on_el h fun t h1 h => on_el h fun ab h2 h => xTup_inv h1 ▸ two_inv h2 ▸ k _ _ _ _ h
noncomputable def mPair (sc : Names) (i j : Nat) (f : Expr → Expr → Bool) (st : Stmt) : Bool := mAsg (mPairT sc i j) (mPairV f) st
@[elab_as_elim] theorem mPair_el {sc : Names} {i j : Nat} {f : Expr → Expr → Bool} {P : Stmt → Prop} {st : Stmt} (h : mPair sc i j f st = true)
    (k : ∀ x p y q a tp u v a' vp ap, isSto sc i x = true → isSto sc j y = true → (x == y) = false → (p.line == q.line) = true → f u v = true → P (.Assign [.Tuple [.Name x p, .Name y q] a tp] (.Tuple [u, v] a' vp) ap)) : P st :=
  mAsg_el h fun t v ap h1 h2 => mPairT_el (P := fun t => P (.Assign [t] v ap)) h1 fun x p y q a tp g1 g2 g3 g4 => mPairV_el (P := fun v => P (.Assign [.Tuple [.Name x p, .Name y q] a tp] v ap)) h2 fun u v a' vp g5 => k x p y q a tp u v a' vp ap g1 g2 g3 g4 g5
theorem mPair_inv {sc : Names} {i j : Nat} {f : Expr → Expr → Bool} {st : Stmt} (h : mPair sc i j f st = true) : ∃ x p y q k tp u v k' vp ap, st = .Assign [.Tuple [.Name x p, .Name y q] k tp] (.Tuple [u, v] k' vp) ap ∧
    isSto sc i x = true ∧ isSto sc j y = true ∧ (x == y) = false ∧ (p.line == q.line) = true ∧ f u v = true := mPair_el h fun x p y q a tp u v a' vp ap g1 g2 g3 g4 g5 => ⟨x, p, y, q, a, tp, u, v, a', vp, ap, rfl, g1, g2, g3, g4, g5⟩
noncomputable def mSwp (f g : Expr → Bool) (u v : Expr) : Bool := ((okArg u && okArg v) && (!(foldedForSure 8 u && foldedForSure 8 v) && !(constantsAlone 8 u && constantsAlone 8 v))) && (f u && g v)
theorem mSwp_el {f g : Expr → Bool} {u v : Expr} {P : Prop} (h : mSwp f g u v = true) (k : okArg u = true → okArg v = true → (foldedForSure 8 u && foldedForSure 8 v) = false → (constantsAlone 8 u && constantsAlone 8 v) = false → f u = true → g v = true → P) : P :=
  and_el h fun h1 h => and_el h1 fun h1 h2 => and_el h1 fun h1 h3 => and_el h2 fun h2 h4 => and_el h fun h5 h6 => k h1 h3 (not_inv h2) (not_inv h4) h5 h6
noncomputable def mRet (f : Expr → Bool) (st : Stmt) : Bool := on (sRet st) fun q => on q.1 f
@[elab_as_elim] theorem mRet_el {f : Expr → Bool} {P : Stmt → Prop} {st : Stmt} (h : mRet f st = true) (k : ∀ x p, f x = true → P (.Return (some x) p)) : P st :=
  on_el h fun q h1 h => on_el h fun x h2 h => by rw [sRet_inv h1, h2]; exact k x _ h
theorem mRet_inv {f : Expr → Bool} {st : Stmt} (h : mRet f st = true) : ∃ x p, st = .Return (some x) p ∧ f x = true := mRet_el h fun x p h => ⟨x, p, rfl, h⟩
noncomputable def mIfS (f : Expr → Bool) (a b : List Stmt → Bool) (st : Stmt) : Bool := on (sIf st) fun q => f q.1 && (a q.2.1 && b q.2.2.1)
@[elab_as_elim] theorem mIfS_el {f : Expr → Bool} {a b : List Stmt → Bool} {P : Stmt → Prop} {st : Stmt} (h : mIfS f a b st = true) (k : ∀ x xs ys p, f x = true → a xs = true → b ys = true → P (.If x xs ys p)) : P st :=
  on_el h fun q h1 h => and_el h fun h2 h => and_el h fun h3 h4 => sIf_inv h1 ▸ k _ _ _ _ h2 h3 h4
noncomputable def mFor (f g : Expr → Bool) (a : List Stmt → Bool) (st : Stmt) : Bool := on (sFor st) fun q => q.2.2.2.1.isEmpty && (f q.1 && (g q.2.1 && a q.2.2.1))
@[elab_as_elim] theorem mFor_el {f g : Expr → Bool} {a : List Stmt → Bool} {P : Stmt → Prop} {st : Stmt} (h : mFor f g a st = true) (k : ∀ t i xs p, f t = true → g i = true → a xs = true → P (.For t i xs [] p)) : P st :=
  on_el h fun q h1 h => and_el h fun h2 h => and_el h fun h3 h => and_el h fun h4 h5 => sFor_inv h1 ▸ isEmpty_inv h2 ▸ k _ _ _ _ h3 h4 h5
theorem mFor_inv {f g : Expr → Bool} {a : List Stmt → Bool} {st : Stmt} (h : mFor f g a st = true) : ∃ t i xs p, st = .For t i xs [] p ∧ f t = true ∧ g i = true ∧ a xs = true := mFor_el h fun t i xs p h1 h2 h3 => ⟨t, i, xs, p, rfl, h1, h2, h3⟩
noncomputable def mWhl (f : Expr → Bool) (a : List Stmt → Bool) (st : Stmt) : Bool := on (sWhl st) fun q => q.2.2.1.isEmpty && (f q.1 && a q.2.1)
@[elab_as_elim] theorem mWhl_el {f : Expr → Bool} {a : List Stmt → Bool} {P : Stmt → Prop} {st : Stmt} (h : mWhl f a st = true) (k : ∀ x xs p, f x = true → a xs = true → P (.While x xs [] p)) : P st :=
  on_el h fun q h1 h => and_el h fun h2 h => and_el h fun h3 h4 => sWhl_inv h1 ▸ isEmpty_inv h2 ▸ k _ _ _ h3 h4
/-- a method of a name, called with one argument -/
noncomputable def mMeth (m : Str) (f : Str → Bool) (g : Expr → Bool) (x : Expr) : Bool := on (xCall x) fun q => q.2.2.1.isEmpty && on (xAttr q.1) fun a => (a.2.1 == m && a.2.2.endLine == q.2.2.2.line) && (on (xName a.1) (fun n => f n.1) && on (one q.2.1) g)
@[elab_as_elim] theorem mMeth_el {m : Str} {f : Str → Bool} {g : Expr → Bool} {P : Expr → Prop} {x : Expr} (h : mMeth m f g x = true) (k : ∀ y p apos l pos, (apos.endLine == pos.line) = true → f y = true → g l = true → P (.Call (.Attribute (.Name y p) m apos) [l] [] pos)) : P x :=
  on_el h fun q h1 h => and_el h fun h2 h => on_el h fun a h3 h => and_el h fun h4 h => and_el h4 fun h4 h5 => and_el h fun h6 h7 => on_el h6 fun n h6 h8 => on_el h7 fun l h7 h9 =>
    xCall_inv h1 ▸ isEmpty_inv h2 ▸ xAttr_inv h3 ▸ one_inv h7 ▸ xName_inv h6 ▸ beq_inv h4 ▸ k _ _ _ _ _ h5 h8 h9
theorem mMeth_inv {m : Str} {f : Str → Bool} {g : Expr → Bool} {x : Expr} (h : mMeth m f g x = true) : ∃ y p apos l pos, x = .Call (.Attribute (.Name y p) m apos) [l] [] pos ∧ (apos.endLine == pos.line) = true ∧ f y = true ∧ g l = true :=
  mMeth_el h fun y p apos l pos h1 h2 h3 => ⟨y, p, apos, l, pos, rfl, h1, h2, h3⟩

mutual
noncomputable def matchS (fns : List FnD) (B : Nat) : S → Names → Stmt → Bool
  | .asg i e, sc, st => mAsg (mName (isSto sc i)) (fun v => plainV v && matchE fns B e sc v) st
  | .unp ts e, sc, st => mAsg (mTup (matchTs sc ts)) (fun v => plainV v && matchE fns B e sc v) st
  | .swp i j a b, sc, st => mPair sc i j (mSwp (matchE fns B a sc) (matchE fns B b sc)) st
  | .ret e, sc, st => mRet (matchE fns B e sc) st
  | .iff t a b, sc, st => mIfS (matchE fns B t sc) (matchSs fns B a sc) (matchSs fns B b sc) st
  | .forL t ts e body, sc, st => mFor (matchT sc t ts) (fun i => okArg i && matchE fns B e sc i) (matchSs fns B body sc) st
  | .forR i e body, sc, st => mFor (mName (isSto sc i)) (mCall (fun y => y == ("range" : Str) && isGlo sc y) (fun xs => on (one xs) fun l => okArg l && matchE fns B e sc l)) (matchSs fns B body sc) st
  | .whl t body, sc, st => mWhl (matchE fns B t sc) (matchSs fns B body sc) st
  | .app i e, sc, st => on (sExp st) fun q => mMeth "append" (fun x => isLoc sc i x && isSto sc i x) (fun l => okArg l && matchE fns B e sc l) q.1
  | .ext i e, sc, st => on (sExp st) fun q => mMeth "extend" (fun x => isLoc sc i x && isSto sc i x) (fun l => okArg l && matchE fns B e sc l) q.1
  | .retO i, sc, st => mRet (mName (fun x => isLoc sc i x && isSto sc i x)) st
noncomputable def matchSs (fns : List FnD) (B : Nat) : List S → Names → List Stmt → Bool
  | [], _, xs => xs.isEmpty
  | st :: r, sc, xs => on xs.head? (fun x => matchS fns B st sc x) && matchSs fns B r sc xs.tail
end
noncomputable def OwnInv (env : Env) (h : Heap) (C D D₀ : Addr → Prop) (o : Own) : Prop :=
  ∀ i xs, o = some (i, xs) → ∃ x d vs n m, env.scope.names[i]? = some (x, .local) ∧ env.scope.names.lookup x = some .local ∧ h.Ns env.locals m ∧ m x = some (.ref d) ∧ h.get? d = some (lstO vs n) ∧ Reps h D vs.toList xs ∧ C d ∧ ¬ D₀ d ∧ xs.length ≤ 2 ^ 20
theorem OwnInv.none {env : Env} {h : Heap} {C D D₀ : Addr → Prop} : OwnInv env h C D D₀ none := fun _ _ e => nomatch e

/-- a def's frame: what turns in it (C), what may turn (D), what turned for its caller (D₀) -/
structure Frm (mg mb : Str → Option Value) (fns : List FnD) (B : Nat) (A : Around) (env : Env) (C D D₀ : Addr → Prop) (hc : Heap) (ρ : Rho) (o : Own) (h : Heap) : Prop where
  ok : EnvOk env
  room : Room A B
  base : Base mg mb fns hc
  kept : Kept hc h
  off : ∀ a, C a → hc.get? a = Option.none
  inv : Inv env h D ρ
  dok : DOk D h
  ns : HasNs env h
  cl : C env.locals
  cd : ∀ a, C a → D a
  d0 : ∀ a, D₀ a → D a
  own : OwnInv env h C D D₀ o

section
variable {mg mb : Str → Option Value} {fns : List FnD} {B : Nat} {A : Around} {env : Env} {C D D₀ : Addr → Prop} {hc h h' : Heap} {ρ : Rho} {o : Own}

theorem Frm.rdy (F : Frm mg mb fns B A env C D D₀ hc ρ o h) : Rdy mg mb fns B A env D ρ h := ⟨F.ok, F.room, F.base.keep F.kept, F.inv, F.dok⟩
theorem OwnInv.keep (x : OwnInv env h C D D₀ o) (k : Kept h h') : OwnInv env h' C D D₀ o := fun i xs e =>
  let ⟨x, d, vs, n, m, h1, h2, h3, h4, h5, h6, h7⟩ := x i xs e; ⟨x, d, vs, n, m, h1, h2, h3.keeps k, h4, k _ _ h5, h6.keep k, h7⟩
theorem Frm.keep (F : Frm mg mb fns B A env C D D₀ hc ρ o h) (k : Kept h h') : Frm mg mb fns B A env C D D₀ hc ρ o h' :=
  ⟨F.ok, F.room, F.base, F.kept.trans k, F.off, F.inv.keep k, F.dok.keep k, let ⟨m, q⟩ := F.ns; ⟨m, q.keeps k⟩, F.cl, F.cd, F.d0, F.own.keep k⟩

/-- an object that is none of the frame's turns, or comes, or goes -/
theorem Frm.alter {D₁ : Addr → Prop} {it : Addr} (F : Frm mg mb fns B A env C D D₀ hc ρ o h) (hD : D it ∨ h.get? it = none) (hsub : ∀ a, D₁ a → D a ∨ a = it) (hk : KeptOff (IsL it) h h')
    (ho : ∀ ob, h.get? it = some ob → ∃ vs, ob.data = .fields vs) (hcit : hc.get? it = none) (hCD : ∀ a, C a → D₁ a) (hD0 : ∀ a, D₀ a → D₁ a) (hdok : DOk D₁ h') : Frm mg mb fns B A env C D₁ D₀ hc ρ o h' := by
  have mv : ∀ b ob, ¬ D b → h.get? b = some ob → ¬ D₁ b ∧ h'.get? b = some ob := fun b ob hDb e => by
    have hb : b ≠ it := by
      rintro rfl
      rcases hD with q | q
      · exact hDb q
      · rw [q] at e; cases e
    exact ⟨fun q => (hsub b q).elim hDb hb, hk b ob hb e⟩
  have nsk : ∀ m, h.Ns env.locals m → h'.Ns env.locals m := fun m hn => by
    obtain ⟨ob, es, ep, e, hd, r⟩ := hn
    have : env.locals ≠ it := by
      rintro rfl
      obtain ⟨vs, q⟩ := ho _ e
      rw [hd] at q; cases q
    exact ⟨ob, es, ep, hk _ _ this e, hd, r⟩
  refine ⟨F.ok, F.room, F.base, fun b ob e => hk b ob (by rintro rfl; rw [hcit] at e; cases e) (F.kept b ob e), F.off, ?_, hdok, let ⟨m, q⟩ := F.ns; ⟨m, nsk m q⟩, F.cl, hCD, hD0, ?_⟩
  · intro i x k v e1 e2
    obtain ⟨w', ld, r⟩ := F.inv i x k v e1 e2
    refine ⟨w', ?_, r.move mv⟩
    rcases ld with ⟨hl, m, hn, e⟩ | ⟨hl, c, hc', ob, e, hd⟩
    · exact .inl ⟨hl, m, nsk m hn, e⟩
    · refine .inr ⟨hl, c, hc', ob, hk c ob ?_ e, hd⟩
      rintro rfl
      obtain ⟨vs, q⟩ := ho _ e
      rw [hd] at q; cases q
  · intro i xs e
    obtain ⟨x, d, vs, n, m, h1, h2, h3, h4, h5, h6, h7⟩ := F.own i xs e
    refine ⟨x, d, vs, n, m, h1, h2, nsk m h3, h4, hk d _ ?_ h5, h6.move mv, h7⟩
    rintro rfl
    obtain ⟨vs', q⟩ := ho _ h5
    cases q

theorem ownNe_spec {o : Own} {i : Nat} (h : ownNe o i = true) : ∀ k xs, o = some (k, xs) → k ≠ i := by
  rintro k xs rfl
  simpa [ownNe] using h

/-- a store into a name that is not the owned one -/
theorem Frm.storeB {i : Nat} {x : Str} {v : PV} {w' : Value} {M : Model} {A' : Around} {Ex : Value → Shared → Prop} {s : Shared} {Q : Unit → Shared → Prop} (F : Frm mg mb fns B A env C D D₀ hc ρ o s.heap) (hs : isSto env.scope.names i x = true) (hn : ownNe o i = true)
    (r : Rep s.heap D w' v) (h : ∀ h' tk', Heap.SameBut env.locals s.heap h' → (∀ u y, Rep s.heap D u y → Rep h' D u y) → Frm mg mb fns B A env C D D₀ hc (ρ.set i (some v)) o h' → Q () { s with heap := h', toks := tk' }) :
    wpAny M A' (storeName env x w') Q Ex s := by
  have hDl := F.cd _ F.cl
  obtain ⟨m, hm⟩ := F.ns
  refine wpAny_storeName_local (isSto_spec hs).2 hm (fun h' hn' hb => ?_) (by rw [F.ok.kind]; rfl)
  have mv : ∀ b ob, ¬ D b → s.heap.get? b = some ob → ¬ D b ∧ h'.get? b = some ob := fun b ob hDb e => ⟨hDb, (hb.2 b fun q => hDb (q ▸ hDl)).trans e⟩
  refine h h' _ hb (fun u y r => r.move mv) ⟨F.ok, F.room, F.base, fun b ob e => (hb.2 b (by rintro rfl; rw [F.off _ F.cl] at e; cases e)).trans (F.kept b ob e), F.off, inv_set F.ok hs F.inv (r.move mv) hm hn' hb hDl, ?_, ⟨_, hn'⟩, F.cl, F.cd, F.d0, ?_⟩
  · intro a ha
    by_cases q : a = env.locals
    · subst q
      obtain ⟨ob, _, _, e, _⟩ := hn'
      exact ⟨ob, e⟩
    · obtain ⟨ob, e⟩ := F.dok a ha
      exact ⟨ob, (hb.2 a q).trans e⟩
  · intro k xs e
    obtain ⟨y, d, vs, n, m₂, h1, h2, h3, h4, h5, h6, h7⟩ := F.own k xs e
    have hyx : y ≠ x := fun q => ownNe_spec hn k xs e (getElem_inj_of_nodup F.ok.nodup h1 (q ▸ (isSto_spec hs).1))
    refine ⟨y, d, vs, n, _, h1, h2, hn', by rw [if_neg hyx, ns_unique hm h3, h4], ?_, h6.move mv, h7⟩
    refine (hb.2 d ?_).trans h5
    rintro rfl
    obtain ⟨ob, es, ep, e', hd, _⟩ := hm
    rw [h5] at e'
    cases e'
    cases hd
theorem Frm.store {i : Nat} {x : Str} {v : PV} {w' : Value} {M : Model} {A' : Around} {Ex : Value → Shared → Prop} {s : Shared} {Q : Unit → Shared → Prop} (F : Frm mg mb fns B A env C D D₀ hc ρ o s.heap) (hs : isSto env.scope.names i x = true) (hn : ownNe o i = true)
    (r : Rep s.heap D w' v) (h : ∀ h' tk', KeptOff C s.heap h' → (∀ u y, Rep s.heap D u y → Rep h' D u y) → Frm mg mb fns B A env C D D₀ hc (ρ.set i (some v)) o h' → Q () { s with heap := h', toks := tk' }) :
    wpAny M A' (storeName env x w') Q Ex s := F.storeB hs hn r fun h' tk' hb => h h' tk' (same_off hb F.cl)
end

section
variable {prog : Program} {w : World} {mg mb : Str → Option Value} {fns : List FnD} {B : Nat} {A : Around} {env : Env} {C D D₀ : Addr → Prop} {hc h h' : Heap} {o : Own}

theorem Frm.assign {t : Option Nat} {ts : List Nat} {target : Expr} {x : PV} {ρ ρ' : Rho} {v : Value} {s : Shared} {Q : Unit → Shared → Prop} {Ex : Value → Shared → Prop} (F : Frm mg mb fns B A env C D D₀ hc ρ o s.heap) (hm : matchT env.scope.names t ts target = true)
    (hno : tgtNe o t ts = true) (hb : bindT ρ t ts x = some ρ') (r : Rep s.heap D v x)
    (h : ∀ h' tk', KeptOff C s.heap h' → Frm mg mb fns B A env C D D₀ hc ρ' o h' → Q () { s with heap := h', toks := tk' }) : wpAny (model prog w) A (PySem.assign target env v) Q Ex s :=
  assign_gen (ok := ownNe o) (P := fun ρ h => Frm mg mb fns B A env C D D₀ hc ρ o h) (R := KeptOff C) (fun _ _ _ _ e => e) (fun _ _ _ x y => x.trans y) (fun _ _ k => k.off) (fun _ _ _ I k => I.keep k)
    (fun i y v w' ρ s Q h1 h2 I r h => I.store h1 h2 r h) F.room.handled hm (and_inv hno).1 (and_inv hno).2 hb F r h
end
end Mine
end

section
open PySem PyProof.Rows
namespace Mine

section
variable (mg mb : Str → Option Value) (fns : List FnD) (B : Nat) (A : Around) (env : Env) (C D D₀ : Addr → Prop) (hc : Heap)
/-- what stands behind a statement -/
noncomputable def PostS (r : Out) (Q : Flow → Shared → Prop) (s : Shared) : Prop :=
  match r with
  | (.next, ρ', o') => ∀ h' tk', KeptOff C s.heap h' → Frm mg mb fns B A env C D D₀ hc ρ' o' h' → Q .next { s with heap := h', toks := tk' }
  | (.ret v, _, _) => ∀ h' tk' w', KeptOff C s.heap h' → Rep h' D₀ w' v → Q (.ret w') { s with heap := h', toks := tk' }
end

section
variable {prog : Program} {w : World} {mg mb : Str → Option Value} {fns : List FnD} {T : Nat → List PV → Option PV} {B N : Nat}
variable {A : Around} {Ex : Value → Shared → Prop} {s : Shared} {env : Env} {C D D₀ : Addr → Prop} {hc : Heap} {ρ : Rho} {o : Own}

theorem PostS.after {r : Out} {Q : Flow → Shared → Prop} {h : Heap} {tk : Nat} (p : PostS mg mb fns B A env C D D₀ hc r Q s) (k : KeptOff C s.heap h) : PostS mg mb fns B A env C D D₀ hc r Q { s with heap := h, toks := tk } := by
  obtain ⟨fl, ρ', o'⟩ := r
  cases fl with
  | next => exact fun h' tk' k' F' => p h' tk' (k.trans k') F'
  | ret v => exact fun h' tk' w' k' r' => p h' tk' w' (k.trans k') r'

theorem PostS.mk {r : Out} {Q : Flow → Shared → Prop} (hn : ∀ ρ' o', r = (.next, ρ', o') → ∀ h' tk', KeptOff C s.heap h' → Frm mg mb fns B A env C D D₀ hc ρ' o' h' → Q .next { s with heap := h', toks := tk' })
    (hr : ∀ v ρ' o', r = (.ret v, ρ', o') → ∀ h' tk' w', KeptOff C s.heap h' → Rep h' D₀ w' v → Q (.ret w') { s with heap := h', toks := tk' }) : PostS mg mb fns B A env C D D₀ hc r Q s := by
  obtain ⟨fl, ρ', o'⟩ := r
  cases fl with
  | next => exact hn ρ' o' rfl
  | ret v => exact hr v ρ' o' rfl
theorem PostS.nx {ρ' : Rho} {o' : Own} {Q : Flow → Shared → Prop} (p : PostS mg mb fns B A env C D D₀ hc (.next, ρ', o') Q s) : ∀ h' tk', KeptOff C s.heap h' → Frm mg mb fns B A env C D D₀ hc ρ' o' h' → Q .next { s with heap := h', toks := tk' } := p
theorem PostS.rt {v : PV} {ρ' : Rho} {o' : Own} {Q : Flow → Shared → Prop} (p : PostS mg mb fns B A env C D D₀ hc (.ret v, ρ', o') Q s) : ∀ h' tk' w', KeptOff C s.heap h' → Rep h' D₀ w' v → Q (.ret w') { s with heap := h', toks := tk' } := p

theorem ex5 {α β γ δ ε : Type} {Q : α → β → γ → δ → ε → Prop} {P : Prop} (h : ∃ a b c d e, Q a b c d e) (k : ∀ a b c d e, Q a b c d e → P) : P := let ⟨a, b, c, d, e, h⟩ := h; k a b c d e h
theorem and7 {a b c d e f g P : Prop} (h : a ∧ b ∧ c ∧ d ∧ e ∧ f ∧ g) (k : a → b → c → d → e → f → g → P) : P := k h.1 h.2.1 h.2.2.1 h.2.2.2.1 h.2.2.2.2.1 h.2.2.2.2.2.1 h.2.2.2.2.2.2
theorem drop_at {xs : List PV} {i : Nat} {x : PV} (hx : xs[i]? = some x) : xs.drop i = x :: xs.drop (i + 1) := by
  obtain ⟨hlt, hxi⟩ := List.getElem?_eq_some_iff.mp hx
  rw [List.drop_eq_getElem_cons hlt, hxi]
theorem ne_of_none {h : Heap} {a b : Addr} {ob : Obj} (hn : h.get? a = none) (e : h.get? b = some ob) : b ≠ a := by
  rintro rfl
  rw [hn] at e; cases e
theorem dok_at {D' : Addr → Prop} {h h' : Heap} {it : Addr} (hd : ∀ a, D' a → a ≠ it → ∃ o, h.get? a = some o) (hk : KeptOff (IsL it) h h') (hit : ∃ ob, h'.get? it = some ob) : DOk D' h' := fun a ha => by
  by_cases q : a = it
  · exact q ▸ hit
  · exact (hd a ha q).elim fun ob e => ⟨ob, hk a ob q e⟩

/-- the loop, over whatever walks -/
theorem for_sound {target : Expr} {t : Option Nat} {ts : List Nat} {bodyX : List Stmt} {g : Rho → Own → Option Out} {it : Addr} {fp : List Addr} {n : Nat} {P : Nat → Value → Prop} {St : Nat → Heap → Prop} {xs : List PV} {h₁ : Heap} {r : Out} {R : Result → Shared → Prop}
    (W : Walks prog w A it fp [it] n P St) (hn : n = xs.length) (hst : St 0 s.heap) (hfp : ∀ b ∈ fp, ¬ C b) (hit : h₁.get? it = none) (hk₁ : KeptOff (IsL it) h₁ s.heap)
    (hob : ∀ i h, St i h → ∃ ob vs, h.get? it = some ob ∧ ob.data = .fields vs)
    (hgo : ∀ i (s' : Shared) v (Q' : Unit → Shared → Prop) (E' : Value → Shared → Prop), St i s'.heap → Q' () s' → wpAny (model prog w) A (letOwnedTupleGo target (.ref it) v) Q' E' s')
    (hitem : ∀ i v, i < n → P i v → ∃ x, xs[i]? = some x ∧ Rep h₁ D v x)
    (hm : matchT env.scope.names t ts target = true)
    (hbody : ∀ (D' : Addr → Prop) ρ o r (s : Shared) Q E, g ρ o = some r → Frm mg mb fns B A env C D' D₀ hc ρ o s.heap → PostS mg mb fns B A env C D' D₀ hc r Q s → wpAny (model prog w) A (execs bodyX env) Q E s)
    (hr : loopF (turnF t ts g) xs ρ o = some r)
    (F : Frm mg mb fns B A env C D D₀ hc ρ o h₁)
    (hR : PostS mg mb fns B A env C D D₀ hc r (fun fl s' => R (.ok fl) s') { s with heap := h₁ }) :
    codeAny (model prog w) A (.forLoop target (.ref it) bodyX [] env) R s := by
  subst hn
  have hitC : ¬ C it := fun q => (F.dok it (F.cd it q)).elim fun ob e => ne_of_none hit e rfl
  have hcit : hc.get? it = none := by
    cases q : hc.get? it with
    | none => rfl
    | some ob => exact absurd rfl (ne_of_none hit (F.kept _ _ q))
  have ex : ∀ {i h}, St i h → ∃ ob, h.get? it = some ob := fun st => (hob _ _ st).elim fun ob h => h.elim fun _ h => ⟨ob, h.1⟩
  have F' : Frm mg mb fns B A env C (fun a => D a ∨ a = it) D₀ hc ρ o s.heap :=
    F.alter (.inr hit) (fun a ha => ha) hk₁ (fun ob e => absurd rfl (ne_of_none hit e)) hcit (fun a ha => .inl (F.cd a ha)) (fun a ha => .inl (F.d0 a ha)) (dok_at (fun a ha q => F.dok a (ha.resolve_right q)) hk₁ (ex hst))
  refine codeAny_forLoop_any
    (fun k s' => ∃ h' tk i ρ' o', s' = { s with heap := h', toks := tk } ∧ St i h' ∧ Frm mg mb fns B A env C (fun a => D a ∨ a = it) D₀ hc ρ' o' h' ∧
      loopF (turnF t ts g) (xs.drop i) ρ' o' = some r ∧
      i ≤ xs.length ∧ k = xs.length + 1 - i ∧ KeptOff (fun a => C a ∨ a = it) h₁ h') ?_ (xs.length + 1)
    ⟨s.heap, s.toks, 0, ρ, o, rfl, hst, F', hr, Nat.zero_le _, rfl, fun b ob hb e => hk₁ b ob (fun q => hb (.inr q)) e⟩
  intro k s' hI
  refine ex5 hI fun h' tk i ρ' o' hI => and7 hI fun es hst' F₂ hr' hi ek hk' => ?_
  clear hI
  subst es ek
  have obj : ∀ i h, St i h → ∀ ob, h.get? it = some ob → ∃ vs, ob.data = .fields vs := fun i h st ob e => (hob i h st).elim fun ob' h => h.elim fun vs h => ⟨vs, Option.some.inj (e.symm.trans h.1) ▸ h.2⟩
  by_cases hlt : i < xs.length
  · refine W.item i _ _ _ hlt hst' fun v h₃ tk₃ hP st₃ hk₃ => hgo (i + 1) _ v _ _ st₃ ((hitem i v hlt hP).elim fun x hx => ?_)
    have hk₃' : KeptOff (IsL it) h' h₃ := fun b ob hb e => hk₃ b ob (fun q => hb (List.mem_singleton.mp q)) e
    have F₃ : Frm mg mb fns B A env C (fun a => D a ∨ a = it) D₀ hc ρ' o' h₃ :=
      F₂.alter (.inl (.inr rfl)) (fun a ha => .inl ha) hk₃' (obj i h' hst') hcit F₂.cd F₂.d0 (dok_at (fun a ha _ => F₂.dok a ha) hk₃' (ex st₃))
    have hkall : KeptOff (fun a => C a ∨ a = it) h₁ h₃ := fun b ob hb e => hk₃' b ob (fun q => hb (.inr q)) (hk' b ob hb e)
    have rx₃ : Rep h₃ (fun a => D a ∨ a = it) v x := hx.2.move fun b ob hDb e => ⟨fun q => q.elim hDb (ne_of_none hit e), hkall b ob (fun q => q.elim (fun q => hDb (F.cd b q)) (ne_of_none hit e)) e⟩
    rw [drop_at hx.1] at hr'
    refine bnd hr' fun q hq hrest => bnd hq fun σ hσ hq => gd_el hσ fun hno hσ => F₃.assign hm hno hσ rx₃ fun h₄ tk₄ k₄ F₄ => hbody _ σ o' q _ _ _ hq F₄ (.mk ?_ ?_)
    · intro ρ₅ o₅ e h₅ tk₅ k₅ F₅
      subst e
      exact ⟨xs.length + 1 - (i + 1), step_lt hlt, h₅, tk₅, i + 1, ρ₅, o₅, rfl, W.frame _ _ _ st₃ fun b hb ob e => k₅ b ob (hfp b hb) (k₄ b ob (hfp b hb) e), F₅, hrest, hlt, rfl, fun b ob hb e => k₅ b ob (fun q => hb (.inl q)) (k₄ b ob (fun q => hb (.inl q)) (hkall b ob hb e))⟩
    · intro v ρ₅ o₅ e h₅ tk₅ w' k₅ r₅
      subst e
      obtain rfl := Option.some.inj hrest
      exact hR.rt h₅ tk₅ w' (fun b ob hb e => k₅ b ob hb (k₄ b ob hb (hkall b ob (fun q => q.elim hb (ne_of_none hit e)) e))) r₅
  · obtain rfl : i = xs.length := Nat.le_antisymm hi (Nat.not_lt.mp hlt)
    refine W.done _ _ _ hst' fun h₃ tk₃ hk₃ => wpAny_execs_nil ?_
    have hk₃' : KeptOff (IsL it) h' h₃ := fun b ob hb e => hk₃ b ob (fun q => hb (List.mem_singleton.mp q)) e
    rw [List.drop_length] at hr'
    obtain rfl := Option.some.inj hr'
    exact hR.nx h₃ tk₃ (fun b ob hb e => hk₃' b ob (ne_of_none hit e) (hk' b ob (fun q => q.elim hb (ne_of_none hit e)) e))
      (F₂.alter (.inl (.inr rfl)) (fun a ha => .inl (.inl ha)) hk₃' (obj _ h' hst') hcit F.cd F.d0 (fun a ha => (F₂.dok a (.inl ha)).elim fun ob e => ⟨ob, hk₃' a ob ((F.dok a ha).elim fun ob' e' => ne_of_none hit e') e⟩))
end
end Mine
end

section
open PySem PyProof.Rows
namespace Mine

section
variable {A : Around} {env : Env}
theorem swaps_ok {v : Expr} {t : Option Expr} {line : Nat} (h : plainV v = true) : swapsWith v t line env = pure false := by
  cases v <;> first | rfl | cases h
theorem swapped_none {v : Expr} {elts : List Expr} {k : Nat} {p : Pos} (h : plainV v = true) : swappedStores [.Tuple elts k p] v env = pure none := by
  cases v <;> first | rfl | cases h

theorem no_star {u : Expr} (hu : okArg u = true) : (fun | .Starred .. => true | _ => false : Expr → Bool) u = false := by
  cases u <;> first | rfl | cases hu
theorem pos_name (x : Str) (p : Pos) : (Expr.Name x p).pos = p := rfl
theorem any2 {α : Type} {f : α → Bool} {a b : α} (ha : f a = false) (hb : f b = false) : [a, b].any f = false := by
  rw [List.any_cons, List.any_cons, List.any_nil, ha, hb]; rfl
theorem swapped_two (ho : EnvOk env) {x y : Str} {p q tp vp : Pos} {k k' : Nat} {u v : Expr} (hx : env.kindOf x = some .local) (hy : env.kindOf y = some .local) (hne : (x == y) = false) (hl : (p.line == q.line) = true)
    (hu : okArg u = true) (hv : okArg v = true) (hf : (foldedForSure 8 u && foldedForSure 8 v) = false) (hc : (constantsAlone 8 u && constantsAlone 8 v) = false) :
    swappedStores [.Tuple [.Name x p, .Name y q] k tp] (.Tuple [u, v] k' vp) env = pure (some [x, y]) := by
  have hb : (env.blockKind != .function) = false := by simp [Env.blockKind, ho.kind, ScopeKind.isAnnotationScope]
  have hst : ([u, v].any fun | .Starred .. => true | _ => false) = false := any2 (no_star hu) (no_star hv)
  have hl' : p.line = q.line := beq_iff_eq.mp hl
  have hxy : x ≠ y := by simpa using hne
  have hn : ([Expr.Name x p, Expr.Name y q].filterMap fun
    | .Name id pos => if (env.kindOf id == some .local && pos.line == (([Expr.Name x p, Expr.Name y q].head?.map (·.pos.line)).getD 0)) = true then some id else none
    | _ => none) = [x, y] := by
    simp [hx, hy, pos_name, hl']
  have he : ([x, y] : List Str).eraseDups.length = 2 := by
    have : ((y == x) = false) := by simpa using fun e => hxy e.symm
    simp [List.eraseDups_cons, List.filter, this]
  unfold swappedStores
  simp only [List.length_cons, List.length_nil, hb]
  refine (if_neg (by decide)).trans ?_
  refine (if_neg (fun q => absurd (hst.symm.trans q) (by decide))).trans ?_
  generalize hL : List.filterMap _ [Expr.Name x p, Expr.Name y q] = L
  have hL' : L = [x, y] := hL.symm.trans hn
  subst hL'
  simp only [List.length_cons, List.length_nil, he, List.all_cons, List.all_nil, Bool.and_true, hf, hc]
  rfl

theorem tuple_raw {prog : Program} {w : World} {s : Shared} {Ex : Value → Shared → Prop} {u v : Expr} {k : Nat} {p : Pos} {Q : Value → Shared → Prop} (hu : okArg u = true) (hv : okArg v = true)
    (h : wpAny (model prog w) A (eval u env) (fun a s₁ => wpAny (model prog w) A (eval v env) (fun b s₂ => Q (.ref s₂.heap.objs.size) { s₂ with heap := s₂.heap.push (tupO #[a, b] 0) }) Ex s₁) Ex s) :
    wpAny (model prog w) A (eval (.Tuple [u, v] k p) env) Q Ex s :=
  wpAny_Tuple (wpAny_items_cons (he := star_ok hu _) (wpAny_mono h (fun a s₁ h₁ => wpAny_items_cons (he := star_ok hv _) (wpAny_mono h₁ (fun b s₂ h₂ => wpAny_items_nil ⟨by simp [sizeLine], h₂⟩) fun _ _ e => e)) fun _ _ e => e))
end

theorem get_size_none (h : Heap) : h.get? h.objs.size = none := by
  cases e : h.get? h.objs.size with
  | none => rfl
  | some o => exact absurd (Heap.lt_size e) (Nat.lt_irrefl _)
theorem off_push (h : Heap) (o : Obj) : KeptOff (IsL h.objs.size) h (h.push o) := fun b _ _ e => Heap.get?_push_of_some _ e

section
variable (prog : Program) (w : World) (mg mb : Str → Option Value) (fns : List FnD) (B : Nat)
noncomputable def SS (m : Names → Stmt → Bool) (g : Rho → Own → Option Out) : Prop := ∀ (x : Stmt) (A : Around) (env : Env) (C D D₀ : Addr → Prop) (hc : Heap) (ρ : Rho) (o : Own) (r : Out) (s : Shared) (Q : Flow → Shared → Prop) (Ex : Value → Shared → Prop),
  m env.scope.names x = true → g ρ o = some r → Frm mg mb fns B A env C D D₀ hc ρ o s.heap → PostS mg mb fns B A env C D D₀ hc r Q s → wpAny (model prog w) A (exec x env) Q Ex s
noncomputable def SSs (m : Names → List Stmt → Bool) (g : Rho → Own → Option Out) : Prop := ∀ (xs : List Stmt) (A : Around) (env : Env) (C D D₀ : Addr → Prop) (hc : Heap) (ρ : Rho) (o : Own) (r : Out) (s : Shared) (Q : Flow → Shared → Prop) (Ex : Value → Shared → Prop),
  m env.scope.names xs = true → g ρ o = some r → Frm mg mb fns B A env C D D₀ hc ρ o s.heap → PostS mg mb fns B A env C D D₀ hc r Q s → wpAny (model prog w) A (execs xs env) Q Ex s
end

section
variable {prog : Program} {w : World} {mg mb : Str → Option Value} {fns : List FnD} {T : Nat → List PV → Option PV} {B N : Nat}
variable {me : Names → Expr → Bool} {ge : Rho → Option PV}
theorem ex9 {α β γ δ ε : Type} {a b c d e f g h i : α → β → γ → δ → ε → Prop} {P : Prop} (H : ∃ x y z u v, a x y z u v ∧ b x y z u v ∧ c x y z u v ∧ d x y z u v ∧ e x y z u v ∧ f x y z u v ∧ g x y z u v ∧ h x y z u v ∧ i x y z u v)
    (k : ∀ x y z u v, a x y z u v → b x y z u v → c x y z u v → d x y z u v → e x y z u v → f x y z u v → g x y z u v → h x y z u v → i x y z u v → P) : P :=
  ex5 H fun x y z u v h => k x y z u v h.1 h.2.1 h.2.2.1 h.2.2.2.1 h.2.2.2.2.1 h.2.2.2.2.2.1 h.2.2.2.2.2.2.1 h.2.2.2.2.2.2.2.1 h.2.2.2.2.2.2.2.2
/-- a method of the list that the frame owns -/
theorem own_call {A : Around} {env : Env} {C D D₀ : Addr → Prop} {hc : Heap} {ρ : Rho} {i : Nat} {us : List PV} {s : Shared} {Ex : Value → Shared → Prop} {Q : Flow → Shared → Prop} {x m : Str} {id : String} {l : Expr} (he : SX prog w mg mb fns B me ge) {v : PV} {p apos pos spos : Pos}
    (F : Frm mg mb fns B A env C D D₀ hc ρ (some (i, us)) s.heap) (hx : isLoc env.scope.names i x = true) (hm : me env.scope.names l = true) (hl : okArg l = true) (hline : (apos.endLine == pos.line) = true) (hv : ge ρ = some v)
    (slot : Slot "list" m id) (hty : typeOf (.builtin id) = pure (.type "method_descriptor"))
    (hcall : ∀ (d : Addr) (vs : Array Value) (n : Nat) (w' : Value) (h₁ : Heap) (tk₁ : Nat), h₁.get? d = some (lstO vs n) → C d → Reps h₁ D vs.toList us → Rep h₁ D w' v → Frm mg mb fns B A env C D D₀ hc ρ (some (i, us)) h₁ → KeptOff C s.heap h₁ →
      (∀ y k mm, env.scope.names[i]? = some (y, k) → h₁.Ns env.locals mm → mm y = some (.ref d)) →
      wpAny (model prog w) A (call (.builtin id) [.ref d, w']) (fun r s' => r = .none ∧ Q .next s') Ex { s with heap := h₁, toks := tk₁ }) :
    wpAny (model prog w) A (exec (.Expr (.Call (.Attribute (.Name x p) m apos) [l] [] pos) spos) env) Q Ex s := by
  refine ex9 (F.own i us rfl) fun y d vs n mm h1 h2 h3 h4 h5 h6 h7 h8 h9 => ?_
  obtain ⟨k, k1, k2, k3, k4⟩ := isLoc_spec hx
  rw [h1] at k1
  cases k1
  have hti : (interactive env) = false := by
    unfold interactive
    rw [F.ok.kind]; rfl
  refine wpAny_Expr (hi := hti) (hs := rfl) ?_
  have htr : backTo pos (starEach [l] env) = [(false, eval l env)] := by rw [star_ok hl]; rfl
  refine wpAny_Call_method (T := "list") (id := id) rfl (by rw [htr]; rfl) hline PySem.F.plainAttrs_list slot hty ?_
  refine load_name F.ok.kind k4 (.inl ⟨h2, mm, h3, h4⟩) ⟨⟨_, h5, rfl⟩, fun a e => by cases e; exact ⟨_, h5, rfl⟩, ?_⟩
  rw [htr]
  refine Calls.callWith_builtin rfl (Calls.evalArgs_plain (Calls.spliced_cons (he.v l A env ρ v D s _ _ hm hv F.rdy fun h₁ tk₁ w' k₁ r => Calls.spliced_nil ?_)))
  have F₁ := F.keep k₁
  refine wpAny_mono (hcall d vs n w' h₁ tk₁ (k₁ _ _ h5) h7 (h6.keep k₁) r F₁ k₁.off fun y' k' m' e q => ?_) (fun r' s' hq => ?_) fun _ _ e => e
  · rw [h1] at e
    cases e
    rw [ns_unique q (h3.keeps k₁)]
    exact h4
  · obtain ⟨rfl, hq⟩ := hq
    exact hq

theorem own_after {A : Around} {env : Env} {C D D₀ : Addr → Prop} {hc h₁ h₂ : Heap} {ρ : Rho} {i : Nat} {us ys : List PV} {d : Addr} {vs : Array Value} {n m : Nat} (F : Frm mg mb fns B A env C D D₀ hc ρ (some (i, us)) h₁) (hC : C d) (hd : h₁.get? d = some (lstO vs n))
    (hn : ∀ y k mm, env.scope.names[i]? = some (y, k) → h₁.Ns env.locals mm → mm y = some (.ref d)) (hs : Heap.SameBut d h₁ h₂) {ws : Array Value} (hd₂ : h₂.get? d = some (lstO ws m)) (hws : Reps h₁ D ws.toList ys) (hl : ys.length ≤ 2 ^ 20) (hd0 : ¬ D₀ d) :
    Frm mg mb fns B A env C D D₀ hc ρ (some (i, ys)) h₂ := by
  have hDd := F.cd d hC
  have mv : ∀ b ob, ¬ D b → h₁.get? b = some ob → ¬ D b ∧ h₂.get? b = some ob := fun b ob hDb e => ⟨hDb, (hs.2 b fun q => hDb (q ▸ hDd)).trans e⟩
  have hLd : env.locals ≠ d := by
    rintro rfl
    obtain ⟨_, ob, es, ep, e, q, _⟩ := F.ns
    rw [hd] at e; cases e; cases q
  refine ⟨F.ok, F.room, F.base, fun b ob e => (hs.2 b ?_).trans (F.kept b ob e), F.off, ?_, ?_, let ⟨mm, q⟩ := F.ns; ⟨mm, q.sameBut hs hLd⟩, F.cl, F.cd, F.d0, ?_⟩
  · rintro rfl
    rw [F.off _ hC] at e; cases e
  · intro j x k v e1 e2
    obtain ⟨w', ld, r⟩ := F.inv j x k v e1 e2
    refine ⟨w', ?_, r.move mv⟩
    rcases ld with ⟨hl, mm, hn, e⟩ | ⟨hl, c, hc', hi⟩
    · exact .inl ⟨hl, mm, hn.sameBut hs hLd, e⟩
    · refine .inr ⟨hl, c, hc', hi.sameBut hs ?_⟩
      rintro rfl
      obtain ⟨ob, e, q⟩ := hi
      rw [hd] at e; cases e; cases q
  · intro a ha
    by_cases q : a = d
    · exact ⟨_, q ▸ hd₂⟩
    · obtain ⟨ob, e⟩ := F.dok a ha
      exact ⟨ob, (hs.2 a q).trans e⟩
  · intro k zs e
    cases e
    obtain ⟨y, d', vs', n', mm, h1, h2, h3, h4, h5, h6, h7, h8, h9⟩ := F.own i us rfl
    exact ⟨y, d, ws, m, mm, h1, h2, h3.sameBut hs hLd, hn y _ mm h1 h3, hd₂, hws.move mv, hC, hd0, hl⟩
end
end Mine
end

section
open PySem PyProof.Rows
namespace Mine

theorem swapsSole_ok {t v : Expr} {line : Nat} {env : Env} (h : plainV v = true) : swapsWithSole [t] v line env = pure false := swaps_ok (t := some t) h

section
variable {prog : Program} {w : World} {mg mb : Str → Option Value} {fns : List FnD} {B : Nat}
variable {me ma mb' : Names → Expr → Bool} {ge ga gb : Rho → Option PV} {ms mt : Names → List Stmt → Bool} {gs gt : Rho → Own → Option Out}

theorem ss_asg {i : Nat} (he : SX prog w mg mb fns B me ge) : SS prog w mg mb fns B (fun sc st => mAsg (mName (isSto sc i)) (fun v => plainV v && me sc v) st) (fun ρ o => gd (ownNe o i) (ge ρ >>= fun x => some (.next, ρ.set i (some x), o))) :=
  fun x A env C D D₀ hc ρ o r s Q Ex hm hv F P => mAsg_el hm fun t v p h1 h2 => mName_el (P := fun t => wpAny (model prog w) A (exec (.Assign [t] v p) env) Q Ex s) h1 fun y yp h1 => and_el h2 fun h2 h3 => gd_el hv fun hno hv => bnd hv fun u hu e => by
    obtain rfl := Option.some.inj e
    exact wpAny_Assign_Name (hs := swaps_ok h2) (he.v _ A env ρ u D s _ _ h3 hu F.rdy fun h₁ tk₁ w1 k₁ r1 => (F.keep k₁).store (s := { s with heap := h₁, toks := tk₁ }) h1 hno r1 fun h' tk' k _ F' => P.nx h' tk' (k₁.off.trans k) F')

theorem ss_unp {ts : List Nat} (he : SX prog w mg mb fns B me ge) : SS prog w mg mb fns B (fun sc st => mAsg (mTup (matchTs sc ts)) (fun v => plainV v && me sc v) st) (fun ρ o => gd (ts.all (ownNe o)) (ge ρ >>= fun x => pTup x >>= fun xs => setAll ρ ts xs >>= fun σ => some (.next, σ, o))) :=
  fun x A env C D D₀ hc ρ o r s Q Ex hm hv F P => mAsg_el hm fun t v p h1 h2 => mTup_el (P := fun t => wpAny (model prog w) A (exec (.Assign [t] v p) env) Q Ex s) h1 fun elts ek ep h1 => and_el h2 fun h2 h3 => gd_el hv fun hno hv => bnd hv fun u hu hv => bnd hv fun xs hx hv => bnd hv fun σ hσ e => by
    obtain rfl := Option.some.inj e
    exact Assign_Tuple (hs := swapsSole_ok h2) (hw := swapped_none h2) (he.v _ A env ρ u D s _ _ h3 hu F.rdy fun h₁ tk₁ w1 k₁ r1 =>
      (F.keep k₁).assign (s := { s with heap := h₁, toks := tk₁ }) (t := none) (ts := ts) (x := u) h1 hno (show (pTup u).bind _ = _ by rw [show pTup u = some xs from hx]; exact hσ) r1 fun h' tk' k F' => P.nx h' tk' (k₁.off.trans k) F')

theorem ss_swp {i j : Nat} (ha : SX prog w mg mb fns B ma ga) (hb : SX prog w mg mb fns B mb' gb) : SS prog w mg mb fns B (fun sc st => mPair sc i j (mSwp (ma sc) (mb' sc)) st)
    (fun ρ o => gd (ownNe o i && ownNe o j) (ga ρ >>= fun x => gb ρ >>= fun y => some (.next, (ρ.set j (some y)).set i (some x), o))) :=
  fun x A env C D D₀ hc ρ o r s Q Ex hm hv F P => mPair_el hm fun x p y q a tp u1 v1 a' vp ap h1 h2 h3 h4 hm => mSwp_el hm fun h5 h6 h7 h8 h9 h10 => gd_el hv fun hno hv => and_el hno fun hi hj => bnd hv fun u hu hv => bnd hv fun v hv' e => by
    obtain rfl := Option.some.inj e
    refine Assign_Tuple_swapped (env := env) (hs := rfl) (hw := swapped_two F.ok (isSto_spec h1).2 (isSto_spec h2).2 h3 h4 h5 h6 h7 h8) (tuple_raw h5 h6 (ha.v _ A env ρ u D s _ _ h9 hu F.rdy fun h₁ tk₁ w1 k₁ r1 =>
      hb.v _ A env ρ v D _ _ _ h10 hv' (F.keep k₁).rdy fun h₂ tk₂ w2 k₂ r2 => ?_))
    refine wpAny_unpackItems_tuple (items := #[w1, w2]) F.room.handled ⟨_, Heap.get?_push_size _ rfl, rfl, 0, rfl⟩ fun h₃ he₃ => ?_
    have k₃ : Kept h₂ h₃ := fun b ob e => extBut_kept he₃ b ob (Heap.get?_push_of_some _ e)
    have k : Kept s.heap h₃ := k₁.trans (k₂.trans k₃)
    show wpAny _ A (do holding [w1] (bindName env _ w2); assignInOrder [fun z => bindName env _ z] [w1]) _ Ex _
    refine wpAny_bind (wpAny_holding (wpAny_bindName ((F.keep k).store (s := { s with heap := h₃, toks := tk₂ }) h2 hj (r2.keep k₃) fun h₄ tk₄ k₄ mv F₄ => ?_)))
    show wpAny _ A (do holding [] (bindName env _ w1); assignInOrder [] []) _ Ex _
    exact wpAny_bind (wpAny_holding (wpAny_bindName (F₄.store (s := { s with heap := h₄, toks := tk₄ }) h1 hi (mv _ _ ((r1.keep k₂).keep k₃)) fun h₅ tk₅ k₅ _ F₅ => wpAny_pure (P.nx h₅ tk₅ (k.off.trans (k₄.trans k₅)) F₅))))

theorem ss_ret (he : SX prog w mg mb fns B me ge) : SS prog w mg mb fns B (fun sc st => mRet (me sc) st) (fun ρ o => ge ρ >>= fun x => some (.ret x, ρ, o)) :=
  fun x A env C D D₀ hc ρ o r s Q Ex hm hv F P => mRet_el hm fun x p hm => bnd hv fun v hv' e => by
    obtain rfl := Option.some.inj e
    exact wpAny_Return_some (he.v _ A env ρ v D s _ _ hm hv' F.rdy fun h₁ tk₁ w1 k₁ r1 => P.rt h₁ tk₁ w1 k₁.off (r1.weaken F.d0))

theorem ss_iff (he : SX prog w mg mb fns B me ge) (ha : SSs prog w mg mb fns B ms gs) (hb : SSs prog w mg mb fns B mt gt) : SS prog w mg mb fns B (fun sc st => mIfS (me sc) (ms sc) (mt sc) st) (fun ρ o => ge ρ >>= fun x => pBool x >>= fun p => if p = true then gs ρ o else gt ρ o) :=
  fun x A env C D D₀ hc ρ o r s Q Ex hm hv F P => mIfS_el hm fun x xs ys pos h1 h2 h3 => bnd hv fun v hv' hv => bnd hv fun p hp q => wpAny_If (he.t _ A env ρ p D s _ _ h1 (pBool_inv hp ▸ hv') F.rdy fun h₁ tk₁ k₁ => by
    cases p with
    | true => exact ha _ A env C D D₀ hc ρ o r _ _ _ h2 q (F.keep k₁) (P.after k₁.off)
    | false => exact hb _ A env C D D₀ hc ρ o r _ _ _ h3 q (F.keep k₁) (P.after k₁.off))

theorem ss_forL {t : Option Nat} {ts : List Nat} (he : SX prog w mg mb fns B me ge) (hb : SSs prog w mg mb fns B ms gs) : SS prog w mg mb fns B (fun sc st => mFor (matchT sc t ts) (fun i => okArg i && me sc i) (ms sc) st)
    (fun ρ o => ge ρ >>= fun x => pLst x >>= fun xs => loopF (turnF t ts gs) xs ρ o) :=
  fun x A env C D D₀ hc ρ o r s Q Ex hm hv F P => mFor_el hm fun tg i xs1 p h2 hm1 h4 => and_el hm1 fun h1 h3 => bnd hv fun v hv' hv => bnd hv fun xs hx q =>
    wpAny_For (hs := set_ok h1) (he.v _ A env ρ v D s _ _ h3 hv' F.rdy fun h₁ tk₁ w1 k₁ r1 => (show Rep h₁ D w1 (.list xs) from pLst_inv hx ▸ r1).list_el fun l vs n hDl hg hr hlx =>
      wpAny_pyIter_list ⟨_, hg, rfl, n, rfl⟩ (for_sound (t := t) (ts := ts) (g := gs) (xs := xs) (h₁ := h₁) (Walks.list (prog := prog) (w := w) F.room.handled h₁.objs.size l (Nat.ne_of_lt (Heap.lt_size hg)) vs) hr.size
        ⟨⟨_, Heap.get?_push_size _ rfl, rfl, rfl⟩, (show h₁.IsList l vs from ⟨_, hg, rfl, n, rfl⟩).push _⟩ (fun b hbm hCb => (List.mem_cons.mp hbm).elim (fun e => (F.keep k₁).dok.fresh (F.cd _ (e ▸ hCb))) fun hbm => hDl (List.mem_singleton.mp hbm ▸ F.cd _ hCb)) (get_size_none h₁) (off_push h₁ _)
        (fun i h st => let ⟨⟨ob, e, _, q⟩, _⟩ := st; ⟨ob, _, e, q⟩) (fun i s' v Q' E' st hq => letgo_list st.1 hq) (fun i v hi hP => hr.getV (Array.getElem?_toList ▸ hP)) h2
        (fun D' ρ o r s Q E hx F' P' => hb _ A env C D' D₀ hc ρ o r s Q E h4 hx F' P') q (F.keep k₁) (P.after k₁.off)))

theorem range_get {k j : Nat} {v : Value} {h : Heap} {D : Addr → Prop} (hj : j < k) (hv : ∃ t, v = .int (0 + (j : Int) * 1) t) : ∃ x, (rangeL (k : Int))[j]? = some x ∧ Rep h D v x := by
  obtain ⟨t, rfl⟩ := hv
  refine ⟨.int (j : Int), by simp [rangeL, hj], ?_⟩
  rw [Int.zero_add, Int.mul_one]
  exact .int _ _
theorem range_len (k : Nat) : k = (rangeL (k : Int)).length := by simp [rangeL]
theorem range_sz (k : Nat) : Builtin.Range.rangeSize 0 (k : Int) 1 = (k : Int) := by rw [rangeSize_one]; split <;> omega
theorem ss_forR {i : Nat} (G : mg "range" = none ∧ mb "range" = some (.type "range")) (he : SX prog w mg mb fns B me ge) (hb : SSs prog w mg mb fns B ms gs) :
    SS prog w mg mb fns B (fun sc st => mFor (mName (isSto sc i)) (mCall (fun y => y == ("range" : Str) && isGlo sc y) (fun xs => on (one xs) fun l => okArg l && me sc l)) (ms sc) st)
      (fun ρ o => ge ρ >>= fun x => pInt x >>= fun n => gd (decide (0 ≤ n ∧ n ≤ 2 ^ 20)) (loopF (turnF (some i) [] gs) (rangeL n) ρ o)) :=
  fun x A env C D D₀ hc ρ o r s Q Ex hm hv F P => mFor_el hm fun tg it xs1 p h1 hm1 h5 => mCall_el (P := fun it => wpAny (model prog w) A (exec (.For tg it xs1 [] p) env) Q Ex s) hm1 fun y np ls cp hy hm => and_el hy fun hy h2 => by
    obtain rfl := beq_inv hy
    refine mOne_el (P := fun ls => wpAny (model prog w) A (exec (.For tg (.Call (.Name "range" np) ls [] cp) xs1 [] p) env) Q Ex s) hm fun l hm => and_el hm fun h3 h4 => bnd hv fun v hv' hv => bnd hv fun n hn q => gd_el q fun hb' q => ?_
    have hn' := of_decide_eq_true hb'
    obtain ⟨k, rfl⟩ := Int.eq_ofNat_of_zero_le hn'.1
    refine wpAny_For (hs := fun _ => rfl) (wpAny_Call_NameR (blt_name F.ok F.rdy.base h2 G (PyProof.Rows.callWith_type (by rw [star_ok h3]; rfl) (args_eval h3 (wpAny_items_cons (he := star_ok h3 _) (he.v _ A env ρ _ D s _ _ h4 hv' F.rdy fun h₁ tk₁ w1 k₁ r1 => wpAny_items_nil ?_))))))
    refine (show Rep h₁ D w1 (.int k) from pInt_inv hn ▸ r1).int_el fun tt => call_range_1 ?_
    have kp := Kept.push (h := h₁) { cls := .type "range", data := .fields #[.int 0 tk₁, .int (k : Int) tt, .int 1 (tk₁ + 1)] }
    have F₁ := (F.keep k₁).keep kp
    refine wpAny_pyIter_range (a := 0) (b := (k : Int)) (c := 1) (IsRange.new h₁ 0 (k : Int) 1 _ _ _) (small_one (by omega) (by omega) (by omega) (by omega)) ?_
    refine for_sound (t := some i) (ts := []) (g := gs) (xs := rangeL k) (h₁ := _) (Walks.range (prog := prog) (w := w) F.room.handled _ 0 1 k) (range_len k) ?_ (fun b hbm hCb => F₁.dok.fresh (F₁.cd _ (List.mem_singleton.mp hbm ▸ hCb))) (get_size_none _) (off_push _ _)
      (fun i h st => ⟨_, _, st, rfl⟩) (fun i s' v Q' E' st hq => by
        refine mName_el (P := fun tg => wpAny (model prog w) A (letOwnedTupleGo tg _ v) Q' E' s') h1 fun y p _ => wpAny_pure hq) (fun j v hj hP => range_get hj hP) h1 (fun D' ρ o r s Q E hx F' P' => hb _ A env C D' D₀ hc ρ o r s Q E h5 hx F' P') q F₁ (P.after (k₁.trans kp).off)
    show IsRangeIter _ _ _ _ _
    rw [range_sz]
    refine (Heap.get?_push_size _ (o := { cls := .type "range_iterator", data := .fields #[rawInt 0, rawInt (k : Int), rawInt 1] }) rfl).trans ?_
    simp

theorem ex4 {α β γ δ : Type} {a b c d : α → β → γ → δ → Prop} {P : Prop} (h : ∃ x y z u, a x y z u ∧ b x y z u ∧ c x y z u ∧ d x y z u) (k : ∀ x y z u, a x y z u → b x y z u → c x y z u → d x y z u → P) : P :=
  let ⟨x, y, z, u, h1, h2, h3, h4⟩ := h; k x y z u h1 h2 h3 h4
theorem ss_whl {N : Nat} {T : Nat → List PV → Option PV} {t : Mine.E} (he : SX prog w mg mb fns B me (ev T t)) (hb : SSs prog w mg mb fns B ms gs) : SS prog w mg mb fns B (fun sc st => mWhl (me sc) (ms sc) st) (fun ρ o => whileF (fun ρ => evO T (some t) ρ) gs N ρ o) :=
  fun x A env C D D₀ hc ρ o r s Q Ex hm hv F P => mWhl_el hm fun x xs p h1 h2 => wpAny_While (codeAny_whileLoop (fun n s' => ∃ h' tk' ρ' o', s' = { s with heap := h', toks := tk' } ∧ KeptOff C s.heap h' ∧ Frm mg mb fns B A env C D D₀ hc ρ' o' h' ∧ whileF (fun ρ => evO T (some t) ρ) gs n ρ' o' = some r)
    (fun n s' hI => ex4 hI fun h' tk' ρ' o' es k' F' hw => by
      clear hI
      subst es
      cases n with
      | zero => cases hw
      | succ n =>
        refine bnd hw fun p hp hw => bnd hp fun u hu hp => he.t _ A env ρ' p D _ _ _ h1 (pBool_inv hp ▸ hu) F'.rdy fun h₁ tk₁ k₁ => ?_
        cases p with
        | true =>
          refine bnd hw fun q hq hrest => hb _ A env C D D₀ hc ρ' o' q _ _ _ h2 hq (F'.keep k₁) (.mk (fun ρ₂ o₂ e h₂ tk₂ k₂ F₂ => ?_) fun v ρ₂ o₂ e h₂ tk₂ w' k₂ r₂ => ?_)
          · subst e
            exact ⟨n, Nat.lt_succ_self _, h₂, tk₂, ρ₂, o₂, rfl, k'.trans (k₁.off.trans k₂), F₂, hrest⟩
          · subst e
            obtain rfl := Option.some.inj hrest
            exact P.rt h₂ tk₂ w' (k'.trans (k₁.off.trans k₂)) r₂
        | false =>
          obtain rfl := Option.some.inj hw
          exact wpAny_execs_nil (P.nx h₁ tk₁ (k'.trans k₁.off) (F'.keep k₁))) N ⟨s.heap, s.toks, ρ, o, rfl, fun _ _ _ e => e, F, hv⟩)

theorem own_d0 {A : Around} {env : Env} {C D D₀ : Addr → Prop} {hc h : Heap} {ρ : Rho} {i : Nat} {us : List PV} {d : Addr} (F : Frm mg mb fns B A env C D D₀ hc ρ (some (i, us)) h)
    (hn : ∀ y k mm, env.scope.names[i]? = some (y, k) → h.Ns env.locals mm → mm y = some (.ref d)) : ¬ D₀ d := by
  refine ex9 (F.own _ _ rfl) fun y d' vs' n' mm g1 g2 g3 g4 g5 g6 g7 g8 g9 => ?_
  have := hn y _ mm g1 g3
  rw [g4] at this
  cases this
  exact g8
theorem grow_el {i : Nat} {ys : List PV} {ρ : Rho} {o : Own} {r : Out} {P : Own → Out → Prop} (h : growO i ys ρ o = some r) (k : ∀ us, (us ++ ys).length ≤ 2 ^ 20 → P (some (i, us)) (.next, ρ, some (i, us ++ ys))) : P o r :=
  bnd h fun q hq h => gd_el h fun hd e => by
    obtain ⟨e1, e2⟩ := of_decide_eq_true hd
    obtain rfl := Option.some.inj e
    subst e1
    rw [show o = some q from hq]
    exact k q.2 (List.length_append ▸ e2)
theorem le_app {us ys : List PV} : us.length ≤ (us ++ ys).length := by rw [List.length_append]; exact Nat.le_add_right _ _
theorem ss_app {i : Nat} (he : SX prog w mg mb fns B me ge) : SS prog w mg mb fns B (fun sc st => on (sExp st) fun q => mMeth "append" (fun x => isLoc sc i x && isSto sc i x) (fun l => okArg l && me sc l) q.1) (fun ρ o => ge ρ >>= fun x => growO i [x] ρ o) :=
  fun x A env C D D₀ hc ρ o r s Q Ex hm hv F P => on_el hm fun q ex hm => mMeth_el (P := fun y => x = .Expr y q.2 → wpAny (model prog w) A (exec x env) Q Ex s) hm (fun y p apos l pos h4 h2 h5 ex => and_el h2 fun h1 _ => and_el h5 fun h5 h6 => bnd hv fun v hv' hv =>
    grow_el (P := fun o r => Frm mg mb fns B A env C D D₀ hc ρ o s.heap → PostS mg mb fns B A env C D D₀ hc r Q s → wpAny (model prog w) A (exec x env) Q Ex s) hv (fun us hl F P => by
      rw [ex]
      refine own_call he F h1 h6 h5 h4 hv' PySem.F.slot_list_append PySem.F.type_list_append fun d vs n w' h₁ tk₁ hd hC hR r F₁ k₁ hn => ?_
      refine wpAny_list_append_plain ⟨n, hd⟩ (hsz := size_fit hR (Nat.le_trans le_app hl)) fun h₂ hl₂ hs₂ => ⟨rfl, hl₂.elim fun m hl₂ => ?_⟩
      refine P.nx h₂ tk₁ (k₁.trans (same_off hs₂ hC)) (own_after F₁ hC hd hn hs₂ hl₂ ?_ hl (own_d0 F₁ hn))
      rw [Array.toList_push]
      exact hR.append (.cons r .nil)) F P) (sExp_inv ex)
theorem ss_ext {i : Nat} (he : SX prog w mg mb fns B me ge) : SS prog w mg mb fns B (fun sc st => on (sExp st) fun q => mMeth "extend" (fun x => isLoc sc i x && isSto sc i x) (fun l => okArg l && me sc l) q.1) (fun ρ o => ge ρ >>= fun x => pLst x >>= fun ys => growO i ys ρ o) :=
  fun x A env C D D₀ hc ρ o r s Q Ex hm hv F P => on_el hm fun q ex hm => mMeth_el (P := fun y => x = .Expr y q.2 → wpAny (model prog w) A (exec x env) Q Ex s) hm (fun y p apos l pos h4 h2 h5 ex => and_el h2 fun h1 _ => and_el h5 fun h5 h6 => bnd hv fun v hv' hv => bnd hv fun ys hy hv =>
    grow_el (P := fun o r => Frm mg mb fns B A env C D D₀ hc ρ o s.heap → PostS mg mb fns B A env C D D₀ hc r Q s → wpAny (model prog w) A (exec x env) Q Ex s) hv (fun us hl F P => by
      rw [ex]
      refine own_call he F h1 h6 h5 h4 hv' PySem.F.slot_list_extend PySem.F.type_list_extend fun d vs n w' h₁ tk₁ hd hC hR r F₁ k₁ hn => ?_
      refine (show Rep h₁ D w' (.list ys) from pLst_inv hy ▸ r).list_el fun b us' m hDb hg hr hly => ?_
      have hvs := hR.size
      have hus := hr.size
      have hsl := sizeLine_ge
      have hl' := List.length_append (as := us) (bs := ys) ▸ hl
      refine call_meets (s := { s with heap := h₁, toks := tk₁ }) PySem.F.slot_list_extend ⟨_, hd, rfl⟩ PySem.F.entry_list_extend (PySem.F.args_list_extend_2 _ _)
        (AutoSeq1.list_extend_list_list_0 d vs n b us' m (by simp [Builtin.List.listTooLong, sizeLine]; intro _; omega) (by omega) (by omega)) ⟨hd, hg, rfl, ?_⟩
      refine P.nx _ _ (k₁.trans (same_off (Heap.SameBut.update ..) hC)) (own_after F₁ hC hd hn (Heap.SameBut.update ..) (ws := vs ++ us') (m := if (vs ++ us').size == vs.size then n else n + 1) (Heap.get?_update_self _ hd rfl) ?_ hl (own_d0 F₁ hn))
      rw [Array.toList_append]
      exact hR.append hr) F P) (sExp_inv ex)
theorem ss_retO {i : Nat} : SS prog w mg mb fns B (fun sc st => mRet (mName (fun x => isLoc sc i x && isSto sc i x)) st) (fun ρ o => retO i ρ o) :=
  fun x A env C D D₀ hc ρ o r s Q Ex hm hv F P => mRet_el hm fun x p hm => mName_el (P := fun x => wpAny (model prog w) A (exec (.Return (some x) p) env) Q Ex s) hm fun y yp hm => bnd hv fun q hq hv => gd_el hv fun hd e => by
    obtain rfl := Option.some.inj e
    obtain rfl := of_decide_eq_true hd
    refine ex9 (F.own q.1 q.2 hq) fun y d vs n mm g1 g2 g3 g4 g5 g6 g7 g8 g9 => ?_
    obtain ⟨k, k1, k2, k3, k4⟩ := isLoc_spec (and_inv hm).1
    rw [g1] at k1
    cases k1
    exact wpAny_Return_some (load_name F.ok.kind k4 (.inl ⟨g2, mm, g3, g4⟩) (P.rt s.heap s.toks _ (fun _ _ _ e => e) (.list g8 g5 (g6.weaken F.d0) g9)))

theorem sss_nil : SSs prog w mg mb fns B (fun _ xs => xs.isEmpty) (fun ρ o => some (.next, ρ, o)) :=
  fun xs A env C D D₀ hc ρ o r s Q Ex hm hv F P => by
    obtain rfl := isEmpty_inv hm
    obtain rfl := Option.some.inj hv
    exact wpAny_execs_nil (P.nx s.heap s.toks (fun _ _ _ e => e) F)
theorem sss_cons {m1 : Names → Stmt → Bool} {g1 : Rho → Own → Option Out} (h1 : SS prog w mg mb fns B m1 g1) (h2 : SSs prog w mg mb fns B ms gs) : SSs prog w mg mb fns B (fun sc xs => on xs.head? (fun x => m1 sc x) && ms sc xs.tail) (fun ρ o => g1 ρ o >>= stp gs) :=
  fun xs A env C D D₀ hc ρ o r s Q Ex hm hv F P => and_el hm fun hm1 hm2 => hd_el (P := fun xs => wpAny (model prog w) A (execs xs env) Q Ex s) hm1 fun x hm1 => bnd hv fun q hq hrest => wpAny_execs_cons (h1 x A env C D D₀ hc ρ o q s _ _ hm1 hq F (.mk
    (fun ρ' o' e h₁ tk₁ k₁ F₁ => by subst e; exact h2 xs.tail A env C D D₀ hc ρ' o' r _ _ _ hm2 hrest F₁ (P.after k₁)) (fun v ρ' o' e h₁ tk₁ w' k₁ r₁ => by
      subst e
      obtain rfl := Option.some.inj hrest
      exact P.rt h₁ tk₁ w' k₁ r₁)))

variable {T : Nat → List PV → Option PV} {N : Nat}
variable (hT : ∀ f, f < B → Contract prog w mg mb fns T f) (G : Glo mg mb)
include hT G
theorem sndSs (sts : List S) : SSs prog w mg mb fns B (matchSs fns B sts) (exSs T N sts) :=
  S.rec_1 (motive_1 := fun st => SS prog w mg mb fns B (matchS fns B st) (exS T N st)) (motive_2 := fun sts => SSs prog w mg mb fns B (matchSs fns B sts) (exSs T N sts))
    (fun i e => ss_asg (snd hT G e)) (fun ts e => ss_unp (snd hT G e)) (fun i j a b => ss_swp (snd hT G a) (snd hT G b)) (fun e => ss_ret (snd hT G e)) (fun t a b ha hb => ss_iff (snd hT G t) ha hb)
    (fun t ts e body hb => ss_forL (snd hT G e) hb) (fun i e body hb => ss_forR G.range (snd hT G e) hb) (fun t body hb => ss_whl (snd hT G t) hb) (fun i e => ss_app (snd hT G e)) (fun i e => ss_ext (snd hT G e)) (fun i => ss_retO)
    sss_nil (fun st sts h1 h2 => sss_cons h1 h2) sts
end
end Mine
end

section
open PySem PyProof.Rows
namespace Mine

noncomputable def rho0 (n : Nat) (xs : List PV) : Rho := xs.map some ++ List.replicate (n - xs.length) none

/-- the parameters head the scope's table -/
noncomputable def parOk (sc : Names) : Nat → List Str → Bool
  | _, [] => true
  | i, p :: r => (match sc[i]? with | some (x, k) => x == p && (k == .local || k == .cell) && sc.lookup x == some k | none => false) && parOk sc (i + 1) r
noncomputable def fnChk (d : FnD) (ps : List Str) : Bool :=
  d.scope.kind == .function && !d.scope.isCoroutine && !d.scope.isGenerator && decide ((d.scope.names.map (·.1)).Nodup) && parOk d.scope.names 0 ps

theorem parOk_spec {sc : Names} : ∀ {ps : List Str} {j : Nat}, parOk sc j ps = true → ∀ (i : Nat) (p : Str), ps[i]? = some p → ∃ k, sc[j + i]? = some (p, k) ∧ (k = .local ∨ k = .cell) ∧ sc.lookup p = some k
  | [], _, _, i, p, e => by simp at e
  | q :: r, j, h, i, p, e => by
    simp only [parOk, Bool.and_eq_true] at h
    obtain ⟨h1, h2⟩ := h
    cases i with
    | zero =>
      simp at e
      subst e
      split at h1
      · rename_i x k hx
        simp only [Bool.and_eq_true, beq_iff_eq, Bool.or_eq_true] at h1
        obtain ⟨⟨rfl, hk⟩, hl⟩ := h1
        exact ⟨k, hx, hk, hl⟩
      · cases h1
    | succ i =>
      have := parOk_spec h2 i p (by simpa using e)
      rwa [show j + 1 + i = j + (i + 1) from by omega] at this

theorem bindL_skip {kf : Str → Option NameKind} {x : Str} : ∀ {b : List (Str × Value)} {m : Str → Option Value}, x ∉ b.map (·.1) → bindL kf b m x = m x
  | [], m, _ => rfl
  | (n, v) :: r, m, h => by
    simp only [List.map_cons, List.mem_cons, not_or] at h
    unfold bindL
    rw [bindL_skip h.2]
    split
    · exact if_neg h.1
    · rfl
theorem bindC_skip {kf : Str → Option NameKind} {x : Str} : ∀ {b : List (Str × Value)} {m : Str → Option Value}, x ∉ b.map (·.1) → bindC kf b m x = m x
  | [], m, _ => rfl
  | (n, v) :: r, m, h => by
    simp only [List.map_cons, List.mem_cons, not_or] at h
    unfold bindC
    rw [bindC_skip h.2]
    split
    · rfl
    · exact if_neg h.1
theorem bindL_get {kf : Str → Option NameKind} {x : Str} {v : Value} (hk : kf x = some .local) : ∀ {b : List (Str × Value)} {m : Str → Option Value}, (b.map (·.1)).Nodup → (x, v) ∈ b → bindL kf b m x = some v
  | (n, u) :: r, m, hn, h => by
    rw [List.map_cons, List.nodup_cons] at hn
    unfold bindL
    rcases List.mem_cons.mp h with e | e
    · cases e
      rw [if_pos hk, bindL_skip hn.1]
      simp
    · exact bindL_get hk hn.2 e
theorem bindC_get {kf : Str → Option NameKind} {x : Str} {v : Value} (hk : kf x = some .cell) : ∀ {b : List (Str × Value)} {m : Str → Option Value}, (b.map (·.1)).Nodup → (x, v) ∈ b → bindC kf b m x = some v
  | (n, u) :: r, m, hn, h => by
    rw [List.map_cons, List.nodup_cons] at hn
    unfold bindC
    rcases List.mem_cons.mp h with e | e
    · cases e
      rw [if_neg (by rw [hk]; decide), bindC_skip hn.1]
      simp
    · exact bindC_get hk hn.2 e

theorem cells_there : ∀ (names : Names) (n : Nat) (acc : List (Str × Addr)) (x : Str), ((x, NameKind.cell) ∈ names ∨ (acc.lookup x).isSome = true) → ((cellsFrom n names acc).lookup x).isSome = true
  | [], n, acc, x, h => by
    rcases h with h | h
    · cases h
    · exact h
  | (y, k) :: r, n, acc, x, h => by
    unfold cellsFrom
    have keep : (acc.lookup x).isSome = true → (((y, n) :: acc).lookup x).isSome = true := fun q => by
      rw [List.lookup_cons]
      cases x == y <;> simp [q]
    split
    · rename_i hk
      refine cells_there r _ _ x ?_
      rcases h with h | h
      · rcases List.mem_cons.mp h with e | e
        · cases e; exact .inr (by simp)
        · exact .inl e
      · exact .inr (keep h)
    · rename_i hk
      refine cells_there r _ _ x ?_
      rcases h with h | h
      · rcases List.mem_cons.mp h with e | e
        · cases e; exact absurd rfl hk
        · exact .inl e
      · exact .inr h

theorem zip_mem {α β : Type} {as : List α} {bs : List β} {i : Nat} {a : α} {b : β} (ha : as[i]? = some a) (hb : bs[i]? = some b) : (a, b) ∈ as.zip bs := by
  have : (as.zip bs)[i]? = some (a, b) := by rw [List.getElem?_zip_eq_some]; exact ⟨ha, hb⟩
  exact List.mem_of_getElem? this

section
variable (prog : Program) (w : World) (mg mb : Str → Option Value) (fns : List FnD) (T : Nat → List PV → Option PV)
noncomputable def Runs (f : Nat) (d : FnD) : Prop := ∀ (xs : List PV) (v : PV), T f xs = some v → ∀ (A : Around) (env : Env) (C D D₀ : Addr → Prop) (hc : Heap) (s : Shared) (Q : Flow → Shared → Prop) (Ex : Value → Shared → Prop),
  env.scope = d.scope → Frm mg mb fns f A env C D D₀ hc (rho0 d.scope.names.length xs) none s.heap → (∀ h' tk' w', Kept hc h' → Rep h' D₀ w' v → Q (.ret w') { s with heap := h', toks := tk' }) → wpAny (model prog w) A (execs d.body env) Q Ex s
end

section
variable {prog : Program} {w : World} {mg mb : Str → Option Value} {fns : List FnD} {T : Nat → List PV → Option PV}

theorem rho0_get {n : Nat} {xs : List PV} {i : Nat} {v : PV} (h : (rho0 n xs)[i]? = some (some v)) : xs[i]? = some v := by
  unfold rho0 at h
  by_cases hi : i < xs.length
  · rw [List.getElem?_append_left (by simpa using hi)] at h
    simpa using h
  · rw [List.getElem?_append_right (by simpa using hi)] at h
    rw [List.getElem?_replicate] at h
    split at h
    · cases h
    · cases h
end

noncomputable abbrev Binds (d : FnD) (ps : List Str) : Prop := ∀ (vs : List Value) (pm code doc : Value), vs.length = ps.length → bindArgs (Calls.docDef d.name d.params d.body d.scope pm code doc) ⟨vs, []⟩ = pure (ps.zip vs)

/-- what a def's frame is when it begins -/
structure Begun (s : Shared) (d : FnD) (ps : List Str) (vs : List Value) (env : Env) (h₁ : Heap) : Prop where
  scope : env.scope = d.scope
  ok : EnvOk env
  locals : env.locals = s.heap.objs.size
  kept : Kept s.heap h₁
  ns : HasNs env h₁
  loads : ∀ (i : Nat) (p : Str) (v : Value), ps[i]? = some p → vs[i]? = some v → Loads env h₁ p v
  cells : ∀ x c, env.cells.lookup x = some c → x ∉ ps → h₁.IsCell c none ∧ s.heap.get? c = none

section
variable {prog : Program} {w : World} {mg mb : Str → Option Value} {fns : List FnD}

theorem enter_def {f : Nat} {d : FnD} {ps : List Str} {a : Addr} {A : Around} {s : Shared} {vs : List Value} {Q Ex : Value → Shared → Prop} (hd : fns[f]? = some d) (hchk : fnChk d ps = true) (hbind : Binds d ps) (ha : mg d.name = some (.ref a))
    (hdep : A.depth < recursionLimit) (hbase : Base mg mb fns s.heap) (hvs : vs.length = ps.length)
    (h : ∀ env h₁ tk₁ Ex', Begun s d ps vs env h₁ → wpAny (model prog w) (A.deeper env) (execs d.body env) (fun fl s' => Q (match fl with | .ret v => v | _ => .none) s') Ex' { s with heap := h₁, toks := tk₁ }) :
    wpAny (model prog w) A (call (.ref a) vs) Q Ex s := by
  obtain ⟨a', o, pm, code, doc, h1, h2, h3, h4⟩ := hbase.fn f d hd
  rw [ha] at h1
  cases h1
  unfold fnChk at hchk
  simp only [Bool.and_eq_true, beq_iff_eq, Bool.not_eq_true', decide_eq_true_eq] at hchk
  obtain ⟨⟨⟨⟨hk, hco⟩, hgen⟩, hnd⟩, hpar⟩ := hchk
  have hpar := parOk_spec hpar
  have hpn : ps.Nodup := by
    rw [List.Nodup, List.pairwise_iff_getElem]
    intro i j hi hj hij e
    obtain ⟨k, e1, _⟩ := hpar i ps[i] (by simp [hi])
    obtain ⟨l, e2, _⟩ := hpar j ps[j] (by simp [hj])
    rw [← e] at e2
    have := getElem_inj_of_nodup hnd e1 e2
    omega
  have hkeys : (ps.zip vs).map (·.1) = ps := by rw [List.map_fst_zip (by omega)]
  refine wpAny_call (codeAny_call_cells hdep h2 h3 hbase.lim h4 rfl (hbind vs pm code doc hvs) rfl ?_ ?_ hco hgen hk)
  · intro x hx
    have hxp : x.1 ∈ ps := by rw [← hkeys]; exact List.mem_map_of_mem hx
    obtain ⟨i, hi⟩ := List.getElem?_of_mem hxp
    obtain ⟨k, e1, hkk, e2⟩ := hpar i x.1 hi
    rcases hkk with rfl | rfl
    · exact .inl e2
    · exact .inr ⟨e2, cells_there _ _ _ _ (.inl (List.mem_of_getElem? e1))⟩
  · intro s₁ x
    obtain ⟨⟨⟨h₁, tk₁, rfl⟩, hns, hkeep, hfr⟩, hcell, _, habove⟩ := x
    let env := callEnvC (Calls.docDef d.name d.params d.body d.scope pm code doc) s.heap.objs.size a
    have hok : EnvOk env := ⟨hk, rfl, rfl, fun x hx => Option.isSome_iff_exists.mp (cells_there _ _ _ _ (.inl (lookup_mem hx))), hnd⟩
    refine h env h₁ tk₁ _ ⟨rfl, hok, rfl, hkeep, ⟨_, hns⟩, ?_, ?_⟩
    · intro i p v hp hv
      obtain ⟨k', e1, hkk, e2⟩ := hpar i p hp
      have hm : (p, v) ∈ ps.zip vs := zip_mem (i := i) hp hv
      rw [Nat.zero_add] at e1
      rcases hkk with rfl | rfl
      · exact .inl ⟨e2, _, hns, bindL_get e2 (by rw [hkeys]; exact hpn) hm⟩
      · obtain ⟨c, hc⟩ := Option.isSome_iff_exists.mp (cells_there d.scope.names (s.heap.objs.size + 1) [] p (.inl (List.mem_of_getElem? e1)))
        refine .inr ⟨e2, c, hc, ?_⟩
        have := hcell p c hc
        rwa [bindC_get e2 (by rw [hkeys]; exact hpn) hm] at this
    · intro x c hc hx
      refine ⟨?_, ?_⟩
      · have := hcell x c hc
        rwa [bindC_skip (by rw [hkeys]; exact hx)] at this
      · cases e : s.heap.get? c with
        | none => rfl
        | some ob => exact absurd (Heap.lt_size e) (Nat.lt_asymm (habove x c (lookup_mem hc)))
end

section
variable {prog : Program} {w : World} {mg mb : Str → Option Value} {fns : List FnD} {T : Nat → List PV → Option PV}

theorem room_deeper {A : Around} {n : Nat} {env : Env} (r : Room A (n + 1)) : Room (A.deeper env) n := ⟨r.handled, by
  have := r.depth
  show A.depth + 1 + n + 1 < recursionLimit
  omega, by
  have := r.units
  show A.units + 3 + 4 * n + 100 < cLine
  omega⟩
theorem contract_of {f : Nat} {d : FnD} {ps : List Str} (hd : fns[f]? = some d) (hchk : fnChk d ps = true) (hlen : ∀ xs v, T f xs = some v → xs.length = ps.length)
    (hbind : Binds d ps) (hrun : Runs prog w mg mb fns T f d) : Contract prog w mg mb fns T f := by
  intro d' a A D₀ s vs xs v Q Ex hd' ha hroom hbase hdok hrep hT hP
  obtain rfl : d = d' := Option.some.inj (hd.symm.trans hd')
  refine enter_def hd hchk hbind ha (Nat.lt_of_le_of_lt (Nat.le_trans (Nat.le_add_right _ _) (Nat.le_succ _)) hroom.depth) hbase (hrep.length.trans (hlen xs v hT)) fun env h₁ tk₁ Ex' F => ?_
  have mv : ∀ b ob, ¬ D₀ b → s.heap.get? b = some ob → ¬ (D₀ b ∨ b = env.locals) ∧ h₁.get? b = some ob := fun b ob hb e =>
    ⟨fun q => q.elim hb fun q => Nat.lt_irrefl _ ((F.locals ▸ q) ▸ Heap.lt_size e), F.kept b ob e⟩
  refine hrun xs v hT _ env (IsL env.locals) (fun b => D₀ b ∨ b = env.locals) D₀ s.heap _ _ _ F.scope ⟨F.ok, room_deeper hroom, hbase, F.kept, fun b hb => ?_, ?_, ?_, F.ns, rfl, fun b hb => .inr hb, fun b hb => .inl hb, OwnInv.none⟩ fun h' tk' w' k r => hP h' tk' w' k r
  · rw [show b = env.locals from hb, F.locals]; exact get_size_none _
  · intro i y k u hy hu
    have hx := rho0_get hu
    obtain ⟨w', hw', r⟩ := hrep.get hx
    have hi : i < ps.length := hlen xs v hT ▸ (List.getElem?_eq_some_iff.mp hx).1
    have hp : ps[i]? = some ps[i] := List.getElem?_eq_getElem hi
    obtain ⟨k', e1, _⟩ := parOk_spec (and_inv hchk).2 i ps[i] hp
    rw [Nat.zero_add, ← F.scope, hy] at e1
    cases e1
    exact ⟨w', F.loads i _ w' hp hw', r.move mv⟩
  · intro b hb
    rcases hb with hb | hb
    · obtain ⟨ob, e⟩ := hdok b hb
      exact ⟨ob, F.kept b ob e⟩
    · obtain ⟨_, ob, _, _, e, _⟩ := F.ns
      exact ⟨ob, hb ▸ e⟩
end
end Mine
end

section
open PySem PyProof.Rows
namespace Mine

section
variable {mg mb : Str → Option Value} {fns : List FnD} {B : Nat} {A : Around} {env : Env} {C D D₀ : Addr → Prop} {hc h h' : Heap} {ρ : Rho} {o : Own}

/-- a new list that is to turn -/
theorem Frm.newOwn (F : Frm mg mb fns B A env C D D₀ hc ρ none h) : Frm mg mb fns B A env (fun a => C a ∨ a = h.objs.size) (fun a => D a ∨ a = h.objs.size) D₀ hc ρ none (h.push (lstO #[] 0)) := by
  have mv : ∀ b ob, ¬ D b → h.get? b = some ob → ¬ (D b ∨ b = h.objs.size) ∧ (h.push (lstO #[] 0)).get? b = some ob := fun b ob hb e =>
    ⟨fun q => q.elim hb fun q => Nat.lt_irrefl _ (q ▸ Heap.lt_size e), Heap.get?_push_of_some _ e⟩
  refine ⟨F.ok, F.room, F.base, F.kept.trans (Kept.push _), ?_, ?_, ?_, let ⟨m, q⟩ := F.ns; ⟨m, q.keeps (Kept.push _)⟩, .inl F.cl, fun a ha => ha.imp (F.cd a) id, fun a ha => .inl (F.d0 a ha), OwnInv.none⟩
  · rintro a (ha | ha)
    · exact F.off a ha
    · subst ha
      cases e : hc.get? h.objs.size with
      | none => rfl
      | some ob => exact absurd (Heap.lt_size (F.kept _ _ e)) (Nat.lt_irrefl _)
  · intro i x k v e1 e2
    obtain ⟨w', ld, r⟩ := F.inv i x k v e1 e2
    exact ⟨w', ld.keep (Kept.push _), r.move mv⟩
  · rintro a (ha | ha)
    · obtain ⟨ob, e⟩ := F.dok a ha
      exact ⟨ob, Heap.get?_push_of_some _ e⟩
    · exact ⟨_, ha ▸ Heap.get?_push_size _ rfl⟩

theorem Frm.storeOwn {i : Nat} {x : Str} {d : Addr} {vs : Array Value} {n : Nat} {xs : List PV} {M : Model} {A' : Around} {Ex : Value → Shared → Prop} {s : Shared} {Q : Unit → Shared → Prop} (F : Frm mg mb fns B A env C D D₀ hc ρ none s.heap) (hs : isSto env.scope.names i x = true)
    (hρ : ∀ v, ρ[i]? ≠ some (some v)) (hd : s.heap.get? d = some (lstO vs n)) (hR : Reps s.heap D vs.toList xs) (hC : C d) (hd0 : ¬ D₀ d) (hl : xs.length ≤ 2 ^ 20)
    (h : ∀ h' tk', KeptOff C s.heap h' → Frm mg mb fns B A env C D D₀ hc ρ (some (i, xs)) h' → Q () { s with heap := h', toks := tk' }) :
    wpAny M A' (storeName env x (.ref d)) Q Ex s := by
  have hDl := F.cd _ F.cl
  obtain ⟨m, hm⟩ := F.ns
  obtain ⟨s1, s2⟩ := isSto_spec hs
  refine wpAny_storeName_local s2 hm (fun h' hn' hb => ?_) (by rw [F.ok.kind]; rfl)
  have mv : ∀ b ob, ¬ D b → s.heap.get? b = some ob → ¬ D b ∧ h'.get? b = some ob := fun b ob hDb e => ⟨hDb, (hb.2 b fun q => hDb (q ▸ hDl)).trans e⟩
  have hLd : d ≠ env.locals := by
    rintro rfl
    obtain ⟨ob, es, ep, e, q, _⟩ := hm
    rw [hd] at e; cases e; cases q
  refine h h' _ (same_off hb F.cl) ⟨F.ok, F.room, F.base, fun b ob e => (hb.2 b (by rintro rfl; rw [F.off _ F.cl] at e; cases e)).trans (F.kept b ob e), F.off, ?_, ?_, ⟨_, hn'⟩, F.cl, F.cd, F.d0, ?_⟩
  · intro j y k v e1 e2
    obtain ⟨w', ld, r⟩ := F.inv j y k v e1 e2
    have hji : j ≠ i := by rintro rfl; exact hρ v e2
    have hyx : y ≠ x := fun q => hji (getElem_inj_of_nodup F.ok.nodup e1 (q ▸ s1))
    refine ⟨w', ?_, r.move mv⟩
    rcases ld with ⟨hl, m₂, hn₂, e⟩ | ⟨hl, c, hc', hi⟩
    · exact .inl ⟨hl, _, hn', by rw [if_neg hyx, ns_unique hm hn₂, e]⟩
    · refine .inr ⟨hl, c, hc', hi.sameBut hb fun q => ?_⟩
      subst q
      exact ns_not_cell hm hi
  · intro a ha
    by_cases q : a = env.locals
    · subst q
      obtain ⟨ob, _, _, e, _⟩ := hn'
      exact ⟨ob, e⟩
    · obtain ⟨ob, e⟩ := F.dok a ha
      exact ⟨ob, (hb.2 a q).trans e⟩
  · intro k zs e
    cases e
    exact ⟨x, d, vs, n, _, s1, s2, hn', by simp, (hb.2 d hLd).trans hd, (hR.move mv), hC, hd0, hl⟩
end

section
variable {prog : Program} {w : World} {mg mb : Str → Option Value} {fns : List FnD} {T : Nat → List PV → Option PV} {B : Nat}
variable {A : Around} {env : Env} {C D D₀ : Addr → Prop} {hc : Heap} {ρ : Rho} {s : Shared} {Ex : Value → Shared → Prop} {Q : Flow → Shared → Prop}

noncomputable abbrev OwnPost (mg mb : Str → Option Value) (fns : List FnD) (B : Nat) (A : Around) (env : Env) (C D D₀ : Addr → Prop) (hc : Heap) (ρ : Rho) (i : Nat) (s : Shared) (Q : Flow → Shared → Prop) : Prop :=
  ∀ h' tk' C' D', (∀ a, C' a → hc.get? a = Option.none) → KeptOff C' s.heap h' → Frm mg mb fns B A env C' D' D₀ hc ρ (some (i, [])) h' → Q .next { s with heap := h', toks := tk' }

theorem start1 {i : Nat} {x : Str} {p q r : Pos} (F : Frm mg mb fns B A env C D D₀ hc ρ none s.heap) (hs : isSto env.scope.names i x = true) (hρ : ∀ v, ρ[i]? ≠ some (some v)) (P : OwnPost mg mb fns B A env C D D₀ hc ρ i s Q) :
    wpAny (model prog w) A (exec (.Assign [.Name x p] (.List [] q) r) env) Q Ex s := by
  refine wpAny_Assign_Name (hs := rfl) (wpAny_List (wpAny_items_nil ⟨by simp [sizeLine], ?_⟩))
  have F₁ := F.newOwn
  refine F₁.storeOwn (s := { s with heap := s.heap.push (lstO #[] 0) }) hs hρ (Heap.get?_push_size _ rfl) .nil (.inr rfl) (fun k => F.dok.fresh (F.d0 _ k)) (Nat.zero_le _) fun h' tk' k F' => ?_
  exact P h' tk' _ _ F'.off ((Kept.push _).off.trans k) F'

theorem start2 (hT : ∀ f, f < B → Contract prog w mg mb fns T f) (G : Glo mg mb) {i j : Nat} {x y : Str} {p q tp lp vp ap : Pos} {k k' : Nat} {e : Mine.E} {v : Expr} {u : PV} (F : Frm mg mb fns B A env C D D₀ hc ρ none s.heap)
    (h1 : isSto env.scope.names i x = true) (h2 : isSto env.scope.names j y = true) (h3 : (x == y) = false) (h4 : (p.line == q.line) = true) (h6 : okArg v = true) (hm : matchE fns B e env.scope.names v = true) (hv : ev T e ρ = some u)
    (hρ : ∀ v, ρ[i]? ≠ some (some v)) (P : OwnPost mg mb fns B A env C D D₀ hc (ρ.set j (some u)) i s Q) :
    wpAny (model prog w) A (exec (.Assign [.Tuple [.Name x p, .Name y q] k tp] (.Tuple [.List [] lp, v] k' vp) ap) env) Q Ex s := by
  refine Assign_Tuple_swapped (hs := rfl) (hw := swapped_two F.ok (isSto_spec h1).2 (isSto_spec h2).2 h3 h4 rfl h6 (by rfl) (by rfl)) (tuple_raw rfl h6 (wpAny_List (wpAny_items_nil ⟨by simp [sizeLine], ?_⟩)))
  have F₁ := F.newOwn
  refine (snd hT G e).1 _ A env ρ u _ { s with heap := s.heap.push (lstO #[] 0) } _ _ hm hv F₁.rdy fun h₂ tk₂ w2 k₂ r2 => ?_
  have F₂ := F₁.keep k₂
  refine wpAny_unpackItems_tuple (items := #[.ref s.heap.objs.size, w2]) F.room.handled ⟨_, Heap.get?_push_size _ rfl, rfl, 0, rfl⟩ fun h₃ he₃ => ?_
  have k₃ : Kept h₂ h₃ := fun b ob e => extBut_kept he₃ b ob (Heap.get?_push_of_some _ e)
  have F₃ := F₂.keep k₃
  show wpAny _ A (do holding [.ref s.heap.objs.size] (bindName env _ w2); assignInOrder [fun z => bindName env _ z] [.ref s.heap.objs.size]) _ Ex _
  refine wpAny_bind (wpAny_holding (wpAny_bindName (F₃.storeB (s := { s with heap := h₃, toks := tk₂ }) h2 rfl (r2.keep k₃) fun h₄ tk₄ hb₄ mv F₄ => ?_)))
  show wpAny _ A (do holding [] (bindName env _ (.ref s.heap.objs.size)); assignInOrder [] []) _ Ex _
  have hL : s.heap.objs.size ≠ env.locals := by
    rintro q
    obtain ⟨m, ob, es, ep, e, _⟩ := F.ns
    exact Nat.lt_irrefl _ (q ▸ Heap.lt_size e)
  have hd₄ : h₄.get? s.heap.objs.size = some (lstO #[] 0) := (hb₄.2 _ hL).trans (k₃ _ _ (k₂ _ _ (Heap.get?_push_size _ rfl)))
  have hij : j ≠ i := by
    rintro rfl
    have e1 := (isSto_spec h1).1
    have e2 := (isSto_spec h2).1
    rw [e1] at e2
    cases e2
    simp at h3
  refine wpAny_bind (wpAny_holding (wpAny_bindName (F₄.storeOwn (s := { s with heap := h₄, toks := tk₄ }) h1 (fun v q => ?_) hd₄ .nil (.inr rfl) (fun k => F.dok.fresh (F.d0 _ k)) (Nat.zero_le _) fun h₅ tk₅ k₅ F₅ => ?_)))
  · rcases set_get q with ⟨q, _⟩ | ⟨_, q⟩
    · exact hij q.symm
    · exact hρ v q
  · refine wpAny_pure (P h₅ tk₅ _ _ F₅.off (fun b ob hb e => k₅ b ob hb ((hb₄.2 b fun q => hb (q ▸ .inl F.cl)).trans (k₃ _ _ (k₂ _ _ (Heap.get?_push_of_some _ e))))) F₅)

end
end Mine
end

section
open PySem PyProof.Rows
namespace Mine

section
variable {prog : Program} {w : World} {mg mb : Str → Option Value} {fns : List FnD} {T T' : Nat → List PV → Option PV}

theorem Contract.congr {f : Nat} (c : Contract prog w mg mb fns T f) (h : ∀ xs, T' f xs = T f xs) : Contract prog w mg mb fns T' f :=
  fun d a A D s vs xs v Q E h1 h2 h3 h4 h5 h6 h7 h8 => c d a A D s vs xs v Q E h1 h2 h3 h4 h5 h6 ((h xs).symm.trans h7) h8
theorem Contract.vacuous {f : Nat} (h : ∀ xs, T f xs = none) : Contract prog w mg mb fns T f :=
  fun d a A D s vs xs v Q E h1 h2 h3 h4 h5 h6 h7 h8 => by rw [h xs] at h7; cases h7

theorem runs_plain' (G : Glo mg mb) {f N : Nat} {d : FnD} {body : List S} (hT : ∀ g, g < f → Contract prog w mg mb fns T g) (hm : matchSs fns f body d.scope.names d.body = true)
    (hval : ∀ xs v, T' f xs = some v → ∃ ρ' o', exSs T N body (rho0 d.scope.names.length xs) none = some (.ret v, ρ', o')) : Runs prog w mg mb fns T' f d := by
  intro xs v hv A env C D D₀ hc s Q Ex he F hP
  obtain ⟨ρ', o', hx⟩ := hval xs v hv
  refine sndSs hT G body _ A env C D D₀ hc _ none _ s Q Ex (by rw [he]; exact hm) hx F fun h' tk' w' k r => hP h' tk' w' (fun b ob e => k b ob (fun q => ?_) (F.kept b ob e)) r
  rw [F.off b q] at e
  cases e

theorem runs_own1' (G : Glo mg mb) {f N i : Nat} {d : FnD} {body : List S} {x : Str} {p q r : Pos} {rest : List Stmt} (hT : ∀ g, g < f → Contract prog w mg mb fns T g) (hd : d.body = .Assign [.Name x p] (.List [] q) r :: rest) (hs : isSto d.scope.names i x = true)
    (hm : matchSs fns f body d.scope.names rest = true)
    (hval : ∀ xs v, T' f xs = some v → xs.length ≤ i ∧ ∃ ρ' o', exSs T N body (rho0 d.scope.names.length xs) (some (i, [])) = some (.ret v, ρ', o')) : Runs prog w mg mb fns T' f d := by
  intro xs v hv A env C D D₀ hc s Q Ex he F hP
  obtain ⟨hi, ρ', o', hx⟩ := hval xs v hv
  rw [hd]
  refine wpAny_execs_cons (start1 F (by rw [he]; exact hs) (fun u q => ?_) fun h₁ tk₁ C' D' hoff k₁ F₁ => ?_)
  · have := (List.getElem?_eq_some_iff.mp (rho0_get q)).1
    omega
  · refine sndSs hT G body _ A env C' D' D₀ hc _ _ _ _ Q Ex (by rw [he]; exact hm) hx F₁ fun h' tk' w' k r => hP h' tk' w' (fun b ob e => k b ob (fun q => ?_) (F₁.kept b ob e)) r
    rw [hoff b q] at e
    cases e

theorem runs_own2' (G : Glo mg mb) {f N i j : Nat} {d : FnD} {body : List S} {x y : Str} {p q tp lp vp ap : Pos} {k k' : Nat} {e : Mine.E} {v : Expr} {rest : List Stmt} (hT : ∀ g, g < f → Contract prog w mg mb fns T g)
    (hd : d.body = .Assign [.Tuple [.Name x p, .Name y q] k tp] (.Tuple [.List [] lp, v] k' vp) ap :: rest) (h1 : isSto d.scope.names i x = true) (h2 : isSto d.scope.names j y = true) (h3 : (x == y) = false) (h4 : (p.line == q.line) = true) (h6 : okArg v = true)
    (hme : matchE fns f e d.scope.names v = true) (hm : matchSs fns f body d.scope.names rest = true)
    (hval : ∀ xs v, T' f xs = some v → xs.length ≤ i ∧ ∃ u ρ' o', ev T e (rho0 d.scope.names.length xs) = some u ∧ exSs T N body ((rho0 d.scope.names.length xs).set j (some u)) (some (i, [])) = some (.ret v, ρ', o')) : Runs prog w mg mb fns T' f d := by
  intro xs v hv A env C D D₀ hc s Q Ex he F hP
  obtain ⟨hi, u, ρ', o', hu, hx⟩ := hval xs v hv
  rw [hd]
  refine wpAny_execs_cons (start2 hT G F (by rw [he]; exact h1) (by rw [he]; exact h2) h3 h4 h6 (by rw [he]; exact hme) hu (fun u q => ?_) fun h₁ tk₁ C' D' hoff k₁ F₁ => ?_)
  · have := (List.getElem?_eq_some_iff.mp (rho0_get q)).1
    omega
  · refine sndSs hT G body _ A env C' D' D₀ hc _ _ _ _ Q Ex (by rw [he]; exact hm) hx F₁ fun h' tk' w' k r => hP h' tk' w' (fun b ob e => k b ob (fun q => ?_) (F₁.kept b ob e)) r
    rw [hoff b q] at e
    cases e
end

/-- how a def begins -/
inductive Kind where
  | plain
  | own1 (i : Nat)
  | own2 (i j : Nat) (e : E)
  | skip

structure Bd where
  ps : List Str
  n : Nat
  kind : Kind
  body : List S

noncomputable def fin (o : Option Out) : Option PV :=
  match o with
  | some (.ret v, _, _) => some v
  | _ => none
theorem fin_some {o : Option Out} {v : PV} (h : fin o = some v) : ∃ ρ' o', o = some (.ret v, ρ', o') := by
  unfold fin at h
  split at h
  · cases h; exact ⟨_, _, rfl⟩
  · cases h

noncomputable def runB (T : Nat → List PV → Option PV) (b : Bd) (xs : List PV) : Option PV :=
  if xs.length = b.ps.length then
    match b.kind with
    | .plain => fin (exSs T 100 b.body (rho0 b.n xs) none)
    | .own1 i => if b.ps.length ≤ i then fin (exSs T 100 b.body (rho0 b.n xs) (some (i, []))) else none
    | .own2 i j e => if b.ps.length ≤ i then (ev T e (rho0 b.n xs)).bind fun u => fin (exSs T 100 b.body ((rho0 b.n xs).set j (some u)) (some (i, []))) else none
    | .skip => none
  else none

/-- the defs' values, level by level -/
noncomputable def tt (bs : List Bd) : Nat → Nat → List PV → Option PV
  | 0, _, _ => none
  | n + 1, f, xs => if f < n then tt bs n f xs else if f = n then (match bs[n]? with | some b => runB (tt bs n) b xs | none => none) else none

theorem tt_low (bs : List Bd) {f : Nat} : ∀ {n : Nat}, f < n → ∀ xs, tt bs n f xs = tt bs (f + 1) f xs
  | n + 1, h, xs => by
    by_cases q : f = n
    · subst q; rfl
    · have h' : f < n := by omega
      have : tt bs (n + 1) f xs = tt bs n f xs := by
        show (if f < n then _ else _) = _
        rw [if_pos h']
      rw [this, tt_low bs h' xs]
theorem tt_top (bs : List Bd) {f : Nat} {b : Bd} (hb : bs[f]? = some b) (xs : List PV) : tt bs (f + 1) f xs = runB (tt bs f) b xs := by
  show (if f < f then _ else if f = f then (match bs[f]? with | some b => runB (tt bs f) b xs | none => none) else none) = _
  rw [if_neg (Nat.lt_irrefl _), if_pos rfl, hb]

noncomputable def noItems (u : Expr) : Bool := on (xList u) fun q => q.1.isEmpty
theorem noItems_inv {u : Expr} (h : noItems u = true) : ∃ p, u = .List [] p := by
  obtain ⟨⟨xs, p⟩, h1, h2⟩ := on_inv h
  have e0 : xs = [] := List.isEmpty_iff.mp h2
  subst e0
  exact ⟨p, xList_inv h1⟩
theorem head_inv {xs : List Stmt} {f : Stmt → Bool} (h : on xs.head? f = true) : ∃ x ys, xs = x :: ys ∧ f x = true := by
  obtain ⟨x, h1, h2⟩ := on_inv h
  cases xs with
  | nil => cases h1
  | cons y ys => cases h1; exact ⟨_, ys, rfl, h2⟩
noncomputable def chkB (fns : List FnD) (f : Nat) (b : Bd) (d : FnD) : Bool :=
  (fnChk d b.ps && decide (d.scope.names.length = b.n)) && match b.kind with
  | .plain => matchSs fns f b.body d.scope.names d.body
  | .own1 i => on d.body.head? (mAsg (mName (isSto d.scope.names i)) noItems) && matchSs fns f b.body d.scope.names d.body.tail
  | .own2 i j e => on d.body.head? (mPair d.scope.names i j fun u v => noItems u && (okArg v && matchE fns f e d.scope.names v)) && matchSs fns f b.body d.scope.names d.body.tail
  | .skip => true


section
variable {prog : Program} {w : World} {mg mb : Str → Option Value} {fns : List FnD} {bs : List Bd}

theorem contract_step (G : Glo mg mb) {f : Nat} {b : Bd} {d : FnD} (hb : bs[f]? = some b) (hd : fns[f]? = some d) (hchk : chkB fns f b d = true) (hbind : Binds d b.ps)
    (hT : ∀ g, g < f → Contract prog w mg mb fns (tt bs f) g) : Contract prog w mg mb fns (tt bs (f + 1)) f := by
  obtain ⟨h12, h3⟩ := and_inv hchk
  obtain ⟨h1, h2⟩ := and_inv h12
  have h2 := of_decide_eq_true h2
  clear hchk h12
  have hlen : ∀ xs v, tt bs (f + 1) f xs = some v → xs.length = b.ps.length := by
    intro xs v hv
    rw [tt_top bs hb] at hv
    unfold runB at hv
    split at hv
    · assumption
    · cases hv
  have hval : ∀ xs v, tt bs (f + 1) f xs = some v → xs.length = b.ps.length ∧ (match b.kind with
    | .plain => fin (exSs (tt bs f) 100 b.body (rho0 b.n xs) none)
    | .own1 i => if b.ps.length ≤ i then fin (exSs (tt bs f) 100 b.body (rho0 b.n xs) (some (i, []))) else none
    | .own2 i j e => if b.ps.length ≤ i then (ev (tt bs f) e (rho0 b.n xs)).bind fun u => fin (exSs (tt bs f) 100 b.body ((rho0 b.n xs).set j (some u)) (some (i, []))) else none
    | .skip => none) = some v := by
    intro xs v hv
    have hl := hlen xs v hv
    rw [tt_top bs hb] at hv
    unfold runB at hv
    rw [if_pos hl] at hv
    exact ⟨hl, hv⟩
  refine contract_of hd h1 hlen hbind ?_
  generalize hk : b.kind = kd at h3 hval
  cases kd with
  | plain =>
    refine runs_plain' (T := tt bs f) (N := 100) G hT h3 fun xs v hv => ?_
    rw [h2]
    exact fin_some (hval xs v hv).2
  | own1 i =>
    obtain ⟨h4, h5⟩ := and_inv h3
    obtain ⟨st, rest, hbody, h6⟩ := head_inv h4
    obtain ⟨t1, v1, p1, ex, h7, h8⟩ := mAsg_inv h6
    subst ex
    obtain ⟨x, p, ex, h9⟩ := mName_inv h7
    obtain ⟨q, ex2⟩ := noItems_inv h8
    subst ex ex2
    rw [hbody] at h5
    · refine runs_own1' (T := tt bs f) (N := 100) G hT hbody h9 h5 fun xs v hv => ?_
      obtain ⟨hl, hv⟩ := hval xs v hv
      dsimp only at hv
      split at hv
      · rename_i hi
        rw [h2]
        exact ⟨hl ▸ hi, fin_some hv⟩
      · cases hv
  | own2 i j e =>
    obtain ⟨h4, h5⟩ := and_inv h3
    obtain ⟨st, rest, hbody, h6⟩ := head_inv h4
    obtain ⟨x, p, y, q, k, tp, u, v, k', vp, ap, ex, g1, g2, g3, g4, h7⟩ := mPair_inv h6
    subst ex
    obtain ⟨h8, h9⟩ := and_inv h7
    obtain ⟨g5, g6⟩ := and_inv h9
    obtain ⟨lp, ex⟩ := noItems_inv h8
    subst ex
    rw [hbody] at h5
    · refine runs_own2' (T := tt bs f) (N := 100) G hT hbody g1 g2 g3 g4 g5 g6 h5 fun xs v hv => ?_
      obtain ⟨hl, hv⟩ := hval xs v hv
      dsimp only at hv
      split at hv
      · rename_i hi
        obtain ⟨u, hu, hv⟩ := Option.bind_eq_some_iff.mp hv
        obtain ⟨ρ', o', e⟩ := fin_some hv
        rw [h2]
        exact ⟨hl ▸ hi, u, ρ', o', hu, e⟩
      · cases hv
  | skip =>
    intro xs v hv
    exact nomatch (hval xs v hv).2

theorem contracts_up {n : Nat} (ih : ∀ g, g < n → Contract prog w mg mb fns (tt bs n) g) (h : Contract prog w mg mb fns (tt bs (n + 1)) n) : ∀ g, g < n + 1 → Contract prog w mg mb fns (tt bs (n + 1)) g := by
  intro g hg
  by_cases q : g = n
  · subst q; exact h
  · exact (ih g (by omega)).congr fun xs => by rw [tt_low bs hg, tt_low bs (by omega : g < n)]

/-- all the defs at once -/
theorem contracts_all (G : Glo mg mb) : ∀ n : Nat, (∀ f, f < n → ∃ b d, bs[f]? = some b ∧ fns[f]? = some d ∧ (b.kind = .skip ∨ (chkB fns f b d = true ∧ Binds d b.ps))) → ∀ g, g < n → Contract prog w mg mb fns (tt bs n) g
  | 0, _, g, hg => absurd hg (Nat.not_lt_zero _)
  | n + 1, h, g, hg => by
    have ih := contracts_all G n fun f hf => h f (by omega)
    obtain ⟨b, d, h1, h2, h3⟩ := h n (Nat.lt_succ_self _)
    refine contracts_up ih ?_ g hg
    rcases h3 with h3 | ⟨h3, h4⟩
    · refine Contract.vacuous fun xs => ?_
      rw [tt_top bs h1]
      unfold runB
      rw [h3]
      split <;> rfl
    · exact contract_step G h1 h2 h3 h4 ih
end
end Mine
end

section
open PySem PyProof.Rows
namespace Mine

theorem zip_lookup {n : Str} : ∀ {ns : List Str} {vs : List Value}, vs.length = ns.length → n ∈ ns → ∃ v, (ns.zip vs).lookup n = some v
  | [], _, _, h => nomatch h
  | m :: ns, [], hl, _ => by simp at hl
  | m :: ns, v :: vs, hl, h => by
    rw [List.zip_cons_cons, List.lookup_cons]
    cases hb : n == m with
    | true => exact ⟨v, rfl⟩
    | false =>
      refine zip_lookup (by simpa using hl) ?_
      rcases List.mem_cons.mp h with e | e
      · subst e; simp at hb
      · exact e
theorem zip_collect : ∀ {ns : List Str} {vs : List Value}, ns.Nodup → vs.length = ns.length → (ns.filterMap fun n => ((ns.zip vs).lookup n).map (n, ·)) = ns.zip vs
  | [], vs, _, hl => by cases vs <;> simp at hl; rfl
  | m :: ns, [], _, hl => by simp at hl
  | m :: ns, v :: vs, hn, hl => by
    rw [List.nodup_cons] at hn
    rw [List.zip_cons_cons, List.filterMap_cons]
    simp only [List.lookup_cons, beq_self_eq_true, Option.map_some]
    congr 1
    have e : ∀ l : List Str, m ∉ l → (l.filterMap fun n => (match n == m with | true => some v | false => (ns.zip vs).lookup n).map (n, ·)) = l.filterMap fun n => ((ns.zip vs).lookup n).map (n, ·) := by
      intro l hl
      induction l with
      | nil => rfl
      | cons a l ih =>
        rw [List.mem_cons, not_or] at hl
        have : (a == m) = false := by simpa using fun q => hl.1 q.symm
        rw [List.filterMap_cons, List.filterMap_cons, this, ih hl.2]
    exact (e ns hn.1).trans (zip_collect hn.2 (by simpa using hl))

theorem bind_plain (name : Str) (as : List Arg) (body : List Stmt) (scope : Scope) (pm code doc : Value) (vs : List Value) (hn : (as.map (·.arg)).Nodup) (hl : vs.length = (as.map (·.arg)).length) :
    bindArgs (Calls.docDef name ⟨[], as, none, [], [], none, []⟩ body scope pm code doc) ⟨vs, []⟩ = pure ((as.map (·.arg)).zip vs) := by
  have h1 : ¬ (vs.length > (as.map (·.arg)).length) := by omega
  have h2 : (List.filter (fun n => (List.lookup n ((as.map (·.arg)).zip vs)).isNone) (as.map (·.arg))) = [] := by
    rw [List.filter_eq_nil_iff]
    intro n hm
    obtain ⟨v, e⟩ := zip_lookup hl hm
    simp [e]
  have h3 : seqItems? Value.none = pure none := rfl
  unfold bindArgs Calls.docDef
  simp only [List.map_nil, List.nil_append, List.forIn_nil, pure_bind, h3, Option.getD_none, List.length_nil, h1, decide_false, Bool.false_and, Bool.false_eq_true, if_false, Array.toList_empty, Nat.zero_sub, List.drop_nil, Nat.sub_zero, List.take_length, h2, List.isEmpty_nil, Bool.not_true, List.drop_length, List.zip_nil_right, List.append_nil, zip_collect hn hl]

noncomputable def parChk (p : Arguments) (ps : List Str) : Bool :=
  p.posonlyargs.isEmpty && p.args.map (·.arg) == ps && p.vararg.isNone && p.kwonlyargs.isEmpty && p.kw_defaults.isEmpty && p.kwarg.isNone && p.defaults.isEmpty && decide ps.Nodup
theorem binds_of {d : FnD} {ps : List Str} (h : parChk d.params ps = true) : Binds d ps := by
  obtain ⟨name, params, body, scope⟩ := d
  obtain ⟨po, as, va, ko, kd, kw, df⟩ := params
  unfold parChk at h
  simp only [Bool.and_eq_true, List.isEmpty_iff, beq_iff_eq, Option.isNone_iff_eq_none, decide_eq_true_eq] at h
  obtain ⟨⟨⟨⟨⟨⟨⟨rfl, rfl⟩, rfl⟩, rfl⟩, rfl⟩, rfl⟩, rfl⟩, hn⟩ := h
  exact fun vs pm code doc hl => bind_plain name as body scope pm code doc vs hn hl

noncomputable def okAt (bs : List Bd) (fns : List FnD) (f : Nat) : Bool :=
  match bs[f]?, fns[f]? with
  | some b, some d => (match b.kind with | .skip => true | _ => chkB fns f b d && parChk d.params b.ps)
  | _, _ => false

theorem contracts_ok {prog : Program} {w : World} {mg mb : Str → Option Value} {fns : List FnD} {bs : List Bd} (G : Glo mg mb) (n : Nat) (h : (List.range n).all (okAt bs fns) = true) : ∀ g, g < n → Contract prog w mg mb fns (tt bs n) g := by
  refine contracts_all G n fun f hf => ?_
  have := List.all_eq_true.mp h f (List.mem_range.mpr hf)
  unfold okAt at this
  split at this
  · rename_i b d h1 h2
    refine ⟨b, d, h1, h2, ?_⟩
    cases hk : b.kind with
    | skip => exact .inl rfl
    | _ =>
      rw [hk] at this
      simp only [Bool.and_eq_true] at this
      exact .inr ⟨this.1, binds_of this.2⟩
  · cases this
end Mine
end

section
open PySem PyProof.Rows
namespace Mine
/-- column_behind: 0 column, 1 code, 2 tab -/
noncomputable def b0 : Bd := ⟨["column", "code", "tab"], 4, .plain, [.ret (.ite (.cmp .Eq (.loc 1) .gtab) (.mul (.add (.fdiv (.loc 0) (.loc 2)) (.int 1)) (.loc 2)) (.add (.loc 0) (.int 1)))]⟩
/-- column_at: 0 row, 1 place, 2 tab, 3 column, 4 code -/
noncomputable def b1 : Bd := ⟨["row", "place", "tab"], 6, .plain, [.asg 3 (.int 0), .forL (some 4) [] (.upto (.loc 0) (.loc 1)) [.asg 3 (.call 0 [(.loc 3), (.loc 4), (.loc 2)])], .ret (.loc 3)]⟩
/-- row_columns: 0 row, 1 tab -/
noncomputable def b2 : Bd := ⟨["row", "tab"], 4, .plain, [.ret (.call 1 [(.loc 0), (.len (.loc 0)), (.loc 1)])]⟩
/-- place_at: 0 row, 1 column, 2 tab, 3 now, 4 place -/
noncomputable def b3 : Bd := ⟨["row", "column", "tab"], 8, .plain, [.asg 3 (.int 0), .forR 4 (.len (.loc 0)) [.iff (.cmp .GtE (.loc 3) (.loc 1)) [.ret (.loc 4)] [], .asg 3 (.call 0 [(.loc 3), (.idx (.loc 0) (.loc 4)), (.loc 2)])], .ret (.len (.loc 0))]⟩
/-- opened: 0 row, 1 column, 2 tab, 3 place, 4 begin, 5 end -/
noncomputable def b4 : Bd := ⟨["row", "column", "tab"], 10, .plain, [.asg 3 (.call 3 [(.loc 0), (.loc 1), (.loc 2)]), .iff (.bop false [(.cmp .Eq (.loc 3) (.int 0)), (.cmp .NotEq (.idx (.loc 0) (.sub (.loc 3) (.int 1))) .gtab), (.cmp .LtE (.call 1 [(.loc 0), (.loc 3), (.loc 2)]) (.loc 1))]) [.ret (.loc 0)] [], .asg 4 (.call 1 [(.loc 0), (.sub (.loc 3) (.int 1)), (.loc 2)]), .asg 5 (.call 1 [(.loc 0), (.loc 3), (.loc 2)]), .ret (.add (.add (.upto (.loc 0) (.sub (.loc 3) (.int 1))) (.rep .gblank (.sub (.loc 5) (.loc 4)))) (.from_ (.loc 0) (.loc 3)))]⟩
/-- padded: 0 row, 1 column, 2 tab -/
noncomputable def b5 : Bd := ⟨["row", "column", "tab"], 6, .plain, [.ret (.add (.loc 0) (.rep .gblank (.max (.int 0) (.sub (.loc 1) (.call 2 [(.loc 0), (.loc 2)])))))]⟩
/-- cut_at: 0 row, 1 column, 2 tab, 3 whole, 4 place -/
noncomputable def b6 : Bd := ⟨["row", "column", "tab"], 7, .plain, [.asg 3 (.call 4 [(.loc 0), (.loc 1), (.loc 2)]), .asg 4 (.call 3 [(.loc 3), (.loc 1), (.loc 2)]), .ret (.tup [(.upto (.loc 3) (.loc 4)), (.from_ (.loc 3) (.loc 4))])]⟩
/-- cut_between: 0 row, 1 first, 2 last, 3 tab, 4 front, 5 rest, 6 ahead, 7 inside -/
noncomputable def b7 : Bd := ⟨["row", "first", "last", "tab"], 9, .plain, [.unp [4, 5] (.call 6 [(.loc 0), (.loc 2), (.loc 3)]), .unp [6, 7] (.call 6 [(.loc 4), (.loc 1), (.loc 3)]), .ret (.tup [(.loc 6), (.loc 7), (.loc 5)])]⟩
/-- spread: 0 codes, 1 column, 2 tab, 3 found, 4 now, 5 code, 6 after -/
noncomputable def b8 : Bd := ⟨["codes", "column", "tab"], 10, .own1 3, [.asg 4 (.loc 1), .forL (some 5) [] (.loc 0) [.asg 6 (.call 0 [(.loc 4), (.loc 5), (.loc 2)]), .iff (.cmp .Eq (.loc 5) .gtab) [.ext 3 (.rep .gblank (.sub (.loc 6) (.loc 4)))] [.app 3 (.loc 5)], .asg 4 (.loc 6)], .retO 3]⟩
/-- extracted: 0 row, 1 first, 2 last, 3 tab, 4 ahead, 5 inside, 6 rest, 7 codes -/
noncomputable def b9 : Bd := ⟨["row", "first", "last", "tab"], 12, .plain, [.unp [4, 5, 6] (.call 7 [(.loc 0), (.loc 1), (.loc 2), (.loc 3)]), .asg 7 (.call 8 [(.loc 5), (.loc 1), (.loc 3)]), .ret (.add (.loc 7) (.rep .gblank (.sub (.sub (.loc 2) (.loc 1)) (.len (.loc 7)))))]⟩
/-- erased: 0 row, 1 first, 2 last, 3 tab, 4 ahead, 5 inside, 6 rest -/
noncomputable def b10 : Bd := ⟨["row", "first", "last", "tab"], 9, .plain, [.iff (.cmp .LtE (.call 2 [(.loc 0), (.loc 3)]) (.loc 1)) [.ret (.loc 0)] [], .unp [4, 5, 6] (.call 7 [(.loc 0), (.loc 1), (.loc 2), (.loc 3)]), .ret (.add (.loc 4) (.loc 6))]⟩
/-- cleared: 0 row, 1 first, 2 last, 3 tab, 4 ahead, 5 inside, 6 rest -/
noncomputable def b11 : Bd := ⟨["row", "first", "last", "tab"], 11, .plain, [.iff (.cmp .LtE (.call 2 [(.loc 0), (.loc 3)]) (.loc 1)) [.ret (.loc 0)] [], .unp [4, 5, 6] (.call 7 [(.loc 0), (.loc 1), (.loc 2), (.loc 3)]), .ret (.add (.loc 4) (.ite (.cmp .Gt (.len (.loc 6)) (.int 0)) (.add (.rep .gblank (.sub (.loc 2) (.loc 1))) (.loc 6)) (.lst [])))]⟩
/-- opened_up: 0 row, 1 first, 2 last, 3 tab, 4 ahead, 5 rest -/
noncomputable def b12 : Bd := ⟨["row", "first", "last", "tab"], 9, .plain, [.iff (.cmp .LtE (.call 2 [(.loc 0), (.loc 3)]) (.loc 1)) [.ret (.loc 0)] [], .unp [4, 5] (.call 6 [(.loc 0), (.loc 1), (.loc 3)]), .ret (.add (.add (.loc 4) (.rep .gblank (.sub (.loc 2) (.loc 1)))) (.loc 5))]⟩
/-- replaced: 0 row, 1 first, 2 last, 3 codes, 4 tab, 5 ahead, 6 inside, 7 rest -/
noncomputable def b13 : Bd := ⟨["row", "first", "last", "codes", "tab"], 10, .plain, [.unp [5, 6, 7] (.call 7 [(.call 5 [(.loc 0), (.loc 1), (.loc 4)]), (.loc 1), (.loc 2), (.loc 4)]), .ret (.add (.add (.loc 5) (.loc 3)) (.loc 7))]⟩
/-- put_in: 0 row, 1 column, 2 codes, 3 tab, 4 ahead, 5 rest -/
noncomputable def b14 : Bd := ⟨["row", "column", "codes", "tab"], 8, .plain, [.unp [4, 5] (.call 6 [(.call 5 [(.loc 0), (.loc 1), (.loc 3)]), (.loc 1), (.loc 3)]), .ret (.add (.add (.loc 4) (.loc 2)) (.loc 5))]⟩
/-- closed_up: 0 row, 1 column, 2 tab, 3 ahead, 4 rest, 5 at -/
noncomputable def b15 : Bd := ⟨["row", "column", "tab"], 11, .plain, [.iff (.cmp .LtE (.call 2 [(.loc 0), (.loc 2)]) (.loc 1)) [.ret (.loc 0)] [], .unp [3, 4] (.call 6 [(.loc 0), (.loc 1), (.loc 2)]), .asg 5 (.int 0), .whl (.bop true [(.cmp .Lt (.loc 5) (.len (.loc 4))), (.bop false [(.cmp .Eq (.idx (.loc 4) (.loc 5)) .gblank), (.cmp .Eq (.idx (.loc 4) (.loc 5)) .gtab)])]) [.asg 5 (.add (.loc 5) (.int 1))], .ret (.add (.loc 3) (.from_ (.loc 4) (.loc 5)))]⟩
noncomputable def b16 : Bd := ⟨["deck", "many"], 2, .skip, []⟩
/-- _law_cells: 0 row, 1 wide, 2 cells, 3 now, 4 code, 5 end -/
noncomputable def b17 : Bd := ⟨["row", "wide"], 6, .own2 2 3 (.int 0), [.forL (some 4) [] (.loc 0) [.asg 5 (.ite (.cmp .NotEq (.loc 4) (.int 9)) (.add (.loc 3) (.int 1)) (.sub (.add (.loc 3) (.loc 1)) (.mod (.loc 3) (.loc 1)))), .app 2 (.tup [(.loc 4), (.loc 3), (.loc 5)]), .asg 3 (.loc 5)], .retO 2]⟩
/-- _law_broken: 0 row, 1 column, 2 wide, 3 codes, 4 code, 5 first, 6 last -/
noncomputable def b18 : Bd := ⟨["row", "column", "wide"], 8, .plain, [.asg 3 (.lst []), .forL none [4, 5, 6] (.call 17 [(.loc 0), (.loc 2)]) [.asg 3 (.add (.loc 3) (.ite (.cmp2 .Lt .Lt (.loc 5) (.loc 1) (.loc 6)) (.rep (.int 32) (.sub (.loc 6) (.loc 5))) (.lst [(.loc 4)])))], .ret (.loc 3)]⟩
/-- _law_end: 0 row, 1 wide -/
noncomputable def b19 : Bd := ⟨["row", "wide"], 3, .plain, [.ret (.idx (.add (.lst [(.int 0)]) (.comp 4 [] none [1, 2, 3] (.loc 3) (.call 17 [(.loc 0), (.loc 1)]) none)) .neg1)]⟩
/-- _law_cut: 0 row, 1 column, 2 wide, 3 cells -/
noncomputable def b20 : Bd := ⟨["row", "column", "wide"], 6, .plain, [.asg 3 (.call 17 [(.call 18 [(.loc 0), (.loc 1), (.loc 2)]), (.loc 2)]), .ret (.tup [(.comp 3 [(2, 1)] (some 1) [] (.idx (.loc 1) (.int 0)) (.loc 3) (some (.cmp .LtE (.idx (.loc 1) (.int 2)) (.loc 2)))), (.comp 3 [(2, 1)] (some 1) [] (.idx (.loc 1) (.int 0)) (.loc 3) (some (.cmp .Gt (.idx (.loc 1) (.int 2)) (.loc 2))))])]⟩
/-- _law_three: 0 row, 1 low, 2 high, 3 wide, 4 ahead, 5 behind, 6 one, 7 two -/
noncomputable def b21 : Bd := ⟨["row", "low", "high", "wide"], 9, .plain, [.unp [4, 5] (.call 20 [(.loc 0), (.loc 2), (.loc 3)]), .unp [6, 7] (.call 20 [(.loc 4), (.loc 1), (.loc 3)]), .ret (.tup [(.loc 6), (.loc 7), (.loc 5)])]⟩
/-- _law_flat: 0 codes, 1 column, 2 wide, 3 found, 4 code, 5 first, 6 last -/
noncomputable def b22 : Bd := ⟨["codes", "column", "wide"], 8, .plain, [.asg 3 (.lst []), .forL none [4, 5, 6] (.from_ (.call 17 [(.add (.rep (.int 32) (.loc 1)) (.loc 0)), (.loc 2)]) (.loc 1)) [.asg 3 (.add (.loc 3) (.ite (.cmp .NotEq (.loc 4) (.int 9)) (.lst [(.loc 4)]) (.rep (.int 32) (.sub (.loc 6) (.loc 5)))))], .ret (.loc 3)]⟩
/-- _law_long: 0 row, 1 column, 2 wide -/
noncomputable def b23 : Bd := ⟨["row", "column", "wide"], 5, .plain, [.ret (.add (.loc 0) (.rep (.int 32) (.max (.int 0) (.sub (.loc 1) (.call 19 [(.loc 0), (.loc 2)])))))]⟩
/-- _law_is_right: 0 row, 1 low, 2 high, 3 text, 4 wide, 5 one, 6 two, 7 behind, 8 flat, 9 is_short, 10 blank, 11 ahead, 12 rest, 13 begin, 14 first, 15 middle, 16 last -/
noncomputable def b24 : Bd := ⟨["row", "low", "high", "text", "wide"], 32, .plain, [.unp [5, 6, 7] (.call 21 [(.loc 0), (.loc 1), (.loc 2), (.loc 4)]), .swp 8 9 (.call 22 [(.loc 6), (.loc 1), (.loc 4)]) (.cmp .LtE (.call 19 [(.loc 0), (.loc 4)]) (.loc 1)), .iff (.cmp .NotEq (.call 9 [(.loc 0), (.loc 1), (.loc 2), (.loc 4)]) (.upto (.add (.loc 8) (.rep (.int 32) (.sub (.loc 2) (.loc 1)))) (.max (.sub (.loc 2) (.loc 1)) (.len (.loc 8))))) [.ret (.bool false)] [], .iff (.cmp .NotEq (.call 10 [(.loc 0), (.loc 1), (.loc 2), (.loc 4)]) (.ite (.loc 9) (.loc 0) (.add (.loc 5) (.loc 7)))) [.ret (.bool false)] [], .asg 10 (.rep (.int 32) (.sub (.loc 2) (.loc 1))), .iff (.cmp .NotEq (.call 11 [(.loc 0), (.loc 1), (.loc 2), (.loc 4)]) (.ite (.loc 9) (.loc 0) (.add (.loc 5) (.ite (.cmp .NotEq (.loc 7) (.lst [])) (.add (.loc 10) (.loc 7)) (.lst []))))) [.ret (.bool false)] [], .unp [11, 12] (.call 20 [(.loc 0), (.loc 1), (.loc 4)]), .iff (.cmp .NotEq (.call 12 [(.loc 0), (.loc 1), (.loc 2), (.loc 4)]) (.ite (.loc 9) (.loc 0) (.add (.add (.loc 11) (.loc 10)) (.loc 12)))) [.ret (.bool false)] [], .asg 13 (.int 0), .whl (.bop true [(.cmp .Lt (.loc 13) (.len (.loc 12))), (.inTup (.idx (.loc 12) (.loc 13)) 9 32)]) [.asg 13 (.add (.loc 13) (.int 1))], .iff (.cmp .NotEq (.call 15 [(.loc 0), (.loc 1), (.loc 4)]) (.ite (.loc 9) (.loc 0) (.add (.loc 11) (.from_ (.loc 12) (.loc 13))))) [.ret (.bool false)] [], .unp [14, 15, 16] (.call 21 [(.call 23 [(.loc 0), (.loc 1), (.loc 4)]), (.loc 1), (.loc 2), (.loc 4)]), .iff (.cmp .NotEq (.call 13 [(.loc 0), (.loc 1), (.loc 2), (.loc 3), (.loc 4)]) (.add (.add (.loc 14) (.loc 3)) (.loc 16))) [.ret (.bool false)] [], .unp [14, 16] (.call 20 [(.call 23 [(.loc 0), (.loc 1), (.loc 4)]), (.loc 1), (.loc 4)]), .ret (.bop true [(.cmp .Eq (.call 14 [(.loc 0), (.loc 1), (.loc 3), (.loc 4)]) (.add (.add (.loc 14) (.loc 3)) (.loc 16))), (.cmp .Eq (.call 6 [(.loc 0), (.loc 1), (.loc 4)]) (.call 20 [(.loc 0), (.loc 1), (.loc 4)]))])]⟩
noncomputable def bs : List Bd := [b0, b1, b2, b3, b4, b5, b6, b7, b8, b9, b10, b11, b12, b13, b14, b15, b16, b17, b18, b19, b20, b21, b22, b23, b24]
noncomputable def toFn (r : DefRec) : FnD := ⟨r.name, r.params, r.body, r.scope⟩
noncomputable def fns : List FnD := (recsOf PySem.Challenge.pw_np0011_01).map toFn
set_option maxRecDepth 100000 in
theorem all_ok : (List.range 25).all (okAt bs fns) = true := by decide +kernel
end Mine
end

section
open PySem PyProof.Rows
namespace Mine

/-- the def f's values -/
noncomputable def R (f : Nat) : List PV → Option PV := tt bs (f + 1) f
theorem ttR {n g : Nat} (h : g < n) (xs : List PV) : tt bs n g xs = R g xs := tt_low bs h xs

noncomputable def I (l : List Int) : PV := .list (l.map PV.int)
theorem I_mk (l : List Int) : PV.list (l.map PV.int) = I l := rfl

noncomputable def Go (T : Nat → List PV → Option PV) (body : List S) (ρ : Rho) (o : Own) (Post : Out → Prop) : Prop := ∃ out, exSs T 100 body ρ o = some out ∧ Post out
noncomputable def Then (T : Nat → List PV → Option PV) (r : List S) (Post : Out → Prop) : Out → Prop
  | (.next, ρ, o) => Go T r ρ o Post
  | (.ret v, ρ, o) => Post (.ret v, ρ, o)

theorem e_one {a : Option PV} {x : PV} {α : Type} {v : α} (f : PV → Option α) (ha : a = some x) (h : f x = some v) : a.bind f = some v := by rw [ha]; exact h
theorem o_one {β α : Type} {a : Option β} {x : β} {v : α} (f : β → Option α) (ha : a = some x) (h : f x = some v) : a.bind f = some v := by rw [ha]; exact h
section
variable {T : Nat → List PV → Option PV} {ρ : Rho} {o : Own} {r : List S} {Post : Out → Prop}
theorem Go.nil (h : Post (.next, ρ, o)) : Go T [] ρ o Post := ⟨_, rfl, h⟩
theorem Go.step {st : S} {out : Out} (h : exS T 100 st ρ o = some out) (k : Then T r Post out) : Go T (st :: r) ρ o Post := by
  obtain ⟨fl, ρ', o'⟩ := out
  cases fl with
  | next =>
    obtain ⟨out, e, p⟩ := k
    exact ⟨out, o_one _ h e, p⟩
  | ret v => exact ⟨_, o_one _ h rfl, k⟩
theorem Go.asg {i : Nat} {e : E} {x : PV} (hx : ev T e ρ = some x) (hn : ownNe o i = true) (k : Go T r (ρ.set i (some x)) o Post) : Go T (.asg i e :: r) ρ o Post :=
  Go.step (out := (.next, ρ.set i (some x), o)) ((gd_pos _ hn).trans (e_one _ hx rfl)) k
theorem Go.ret {e : E} {x : PV} (hx : ev T e ρ = some x) (k : Post (.ret x, ρ, o)) : Go T (.ret e :: r) ρ o Post :=
  Go.step (out := (.ret x, ρ, o)) (e_one _ hx rfl) k
theorem Go.unp {ts : List Nat} {e : E} {xs : List PV} {σ : Rho} (hx : ev T e ρ = some (.tup xs)) (hn : ts.all (ownNe o) = true) (hs : setAll ρ ts xs = some σ) (k : Go T r σ o Post) : Go T (.unp ts e :: r) ρ o Post :=
  Go.step (out := (.next, σ, o)) ((gd_pos _ hn).trans (e_one _ hx (o_one (fun σ => some (Fl.next, σ, o)) hs rfl))) k
theorem Go.swp {i j : Nat} {a b : E} {x y : PV} (hx : ev T a ρ = some x) (hy : ev T b ρ = some y) (hi : ownNe o i = true) (hj : ownNe o j = true) (k : Go T r ((ρ.set j (some y)).set i (some x)) o Post) : Go T (.swp i j a b :: r) ρ o Post :=
  Go.step (out := (.next, (ρ.set j (some y)).set i (some x), o)) ((gd_pos _ (by rw [hi, hj]; rfl)).trans (e_one _ hx (e_one _ hy rfl))) k
theorem Go.iff {t : E} {a b : List S} {p : Bool} (ht : ev T t ρ = some (.bool p)) (k : Go T (if p then a else b) ρ o (Then T r Post)) : Go T (.iff t a b :: r) ρ o Post := by
  obtain ⟨out, e, k⟩ := k
  refine Go.step (out := out) ?_ k
  cases p <;> exact e_one _ ht e
theorem grow_ok {i : Nat} {ys xs : List PV} (hl : xs.length + ys.length ≤ 2 ^ 20) : growO i ys ρ (some (i, xs)) = some (.next, ρ, some (i, xs ++ ys)) := gd_pos _ (decide_eq_true ⟨rfl, hl⟩)
theorem Go.app {i : Nat} {e : E} {x : PV} {xs : List PV} (hx : ev T e ρ = some x) (hl : xs.length + 1 ≤ 2 ^ 20) (k : Go T r ρ (some (i, xs ++ [x])) Post) : Go T (.app i e :: r) ρ (some (i, xs)) Post :=
  Go.step (out := (.next, ρ, some (i, xs ++ [x]))) (e_one _ hx (grow_ok hl)) k
theorem Go.ext {i : Nat} {e : E} {xs ys : List PV} (hx : ev T e ρ = some (.list ys)) (hl : xs.length + ys.length ≤ 2 ^ 20) (k : Go T r ρ (some (i, xs ++ ys)) Post) : Go T (.ext i e :: r) ρ (some (i, xs)) Post :=
  Go.step (out := (.next, ρ, some (i, xs ++ ys))) (e_one _ hx (grow_ok hl)) k
theorem Go.retO {i : Nat} {xs : List PV} (k : Post (.ret (.list xs), ρ, some (i, xs))) : Go T (.retO i :: r) ρ (some (i, xs)) Post :=
  Go.step (out := (.ret (.list xs), ρ, some (i, xs))) (gd_pos _ (decide_eq_true rfl)) k

noncomputable abbrev After (P : Rho → Own → Prop) (Post : Out → Prop) (out : Out) : Prop := match out with | (.next, ρ', o') => P ρ' o' | (.ret v, ρ', o') => Post (.ret v, ρ', o')
theorem loopF_go {f : PV → Rho → Own → Option Out} (P : List PV → Rho → Own → Prop)
    (step : ∀ x r ρ o, P (x :: r) ρ o → ∃ out, f x ρ o = some out ∧ After (P r) Post out) (hend : ∀ ρ o, P [] ρ o → Post (.next, ρ, o)) :
    ∀ xs ρ o, P xs ρ o → ∃ out, loopF f xs ρ o = some out ∧ Post out := by
  intro xs
  induction xs with
  | nil => exact fun ρ o h => ⟨_, rfl, hend ρ o h⟩
  | cons x r ih =>
    intro ρ o h
    obtain ⟨⟨fl, ρ', o'⟩, e, h'⟩ := step x r ρ o h
    cases fl with
    | next => exact (ih ρ' o' h').elim fun out q => ⟨out, o_one _ e q.1, q.2⟩
    | ret v => exact ⟨_, o_one _ e rfl, h'⟩
theorem after_then {P : Rho → Own → Prop} {out : Out} (h : After P Post out) : After P (Then T r Post) out := by
  obtain ⟨fl, ρ', o'⟩ := out
  cases fl <;> exact h

theorem Go.forL {t : Option Nat} {ts : List Nat} {e : E} {body : List S} {xs : List PV} (P : List PV → Rho → Own → Prop) (hx : ev T e ρ = some (.list xs)) (h0 : P xs ρ o)
    (step : ∀ x r ρ o, P (x :: r) ρ o → tgtNe o t ts = true ∧ ∃ σ, bindT ρ t ts x = some σ ∧ Go T body σ o (After (P r) Post))
    (hend : ∀ ρ o, P [] ρ o → Go T r ρ o Post) : Go T (.forL t ts e body :: r) ρ o Post :=
  (loopF_go (f := turnF t ts (exSs T 100 body)) (Post := Then T r Post) P (fun x r ρ o h => by
    obtain ⟨h1, σ, h2, out, h3, h4⟩ := step x r ρ o h
    exact ⟨out, o_one _ ((gd_pos _ h1).trans h2) h3, after_then h4⟩) (fun ρ o h => hend ρ o h) xs ρ o h0).elim fun out q => Go.step (out := out) (e_one _ hx q.1) q.2
theorem Go.forR {i : Nat} {e : E} {body : List S} {n : Int} (P : List PV → Rho → Own → Prop) (hx : ev T e ρ = some (.int n)) (hn : 0 ≤ n ∧ n ≤ 2 ^ 20) (h0 : P (rangeL n) ρ o)
    (step : ∀ x r ρ o, P (x :: r) ρ o → ownNe o i = true ∧ Go T body (ρ.set i (some x)) o (After (P r) Post))
    (hend : ∀ ρ o, P [] ρ o → Go T r ρ o Post) : Go T (.forR i e body :: r) ρ o Post :=
  (loopF_go (f := turnF (some i) [] (exSs T 100 body)) (Post := Then T r Post) P (fun x r ρ o h => by
    obtain ⟨h1, out, h3, h4⟩ := step x r ρ o h
    exact ⟨out, o_one _ (gd_pos (some _) (show (ownNe o i && true) = true by rw [h1]; rfl)) h3, after_then h4⟩) (fun ρ o h => hend ρ o h) _ ρ o h0).elim fun out q => Go.step (out := out) (e_one _ hx ((gd_pos _ (decide_eq_true hn)).trans q.1)) q.2
theorem whileF_go {t : Rho → Option Bool} {f : Rho → Own → Option Out} (P : Nat → Rho → Own → Prop)
    (step : ∀ n ρ o, P n ρ o → ∃ p, t ρ = some p ∧ if p = true then ∃ m ρ' o', n = m + 1 ∧ f ρ o = some (.next, ρ', o') ∧ P m ρ' o' else Post (.next, ρ, o)) :
    ∀ N n ρ o, n < N → P n ρ o → ∃ out, whileF t f N ρ o = some out ∧ Post out := by
  intro N
  induction N with
  | zero => exact fun n ρ o hn h => absurd hn (Nat.not_lt_zero _)
  | succ N ih =>
    intro n ρ o hn h
    obtain ⟨p, ht, h'⟩ := step n ρ o h
    cases p with
    | true =>
      obtain ⟨m, ρ', o', e1, e, h''⟩ := (show ∃ m ρ' o', n = m + 1 ∧ f ρ o = some (.next, ρ', o') ∧ P m ρ' o' from h')
      subst e1
      exact (ih m ρ' o' (Nat.lt_of_succ_lt_succ hn) h'').elim fun out q => ⟨out, o_one _ ht (o_one _ e q.1), q.2⟩
    | false => exact ⟨_, o_one _ ht rfl, h'⟩
theorem Go.whl {t : E} {body : List S} (P : Nat → Rho → Own → Prop) (n : Nat) (hn : n < 100) (h0 : P n ρ o)
    (step : ∀ n ρ o, P n ρ o → ∃ p, ev T t ρ = some (.bool p) ∧ if p = true then Go T body ρ o (fun out => match out with | (.next, ρ', o') => ∃ m, n = m + 1 ∧ P m ρ' o' | _ => False) else Go T r ρ o Post) : Go T (.whl t body :: r) ρ o Post :=
  (whileF_go (t := fun ρ => evO T (some t) ρ) (f := exSs T 100 body) (Post := Then T r Post) P (fun n ρ o h => by
    obtain ⟨p, h1, h2⟩ := step n ρ o h
    refine ⟨p, e_one _ h1 rfl, ?_⟩
    cases p with
    | true =>
      obtain ⟨⟨fl, ρ', o'⟩, e, h3⟩ := h2
      cases fl with
      | next => exact h3.elim fun m h3 => ⟨m, ρ', o', h3.1, e, h3.2⟩
      | ret v => exact h3.elim
    | false => exact h2) 100 n ρ o hn h0).elim fun out q => Go.step (out := out) q.1 q.2
end

noncomputable abbrev Gives (v : PV) : Out → Prop
  | (.ret u, _, _) => u = v
  | _ => False
theorem Go.fin {T : Nat → List PV → Option PV} {body : List S} {ρ : Rho} {o : Own} {v : PV} (h : Go T body ρ o (Gives v)) : Mine.fin (exSs T 100 body ρ o) = some v := by
  obtain ⟨⟨fl, ρ', o'⟩, e, k⟩ := h
  cases fl with
  | next => exact k.elim
  | ret u => rw [e]; exact congrArg some k

noncomputable def nx (w c x : Int) : Int := if x = 9 then (c / w + 1) * w else c + 1
noncomputable def col (w : Int) : Int → List Int → Int
  | c, [] => c
  | c, x :: r => col w (nx w c x) r

noncomputable abbrev WOk (w : Int) : Prop := 1 ≤ w ∧ w ≤ 8

theorem div_add_mul {c w : Int} (h : 0 < w) : (c / w + 1) * w = c + (w - c % w) := by
  have := Int.mul_ediv_add_emod c w
  rw [Int.add_mul, Int.mul_comm]
  omega
theorem nx_lt {w c x : Int} (hw : WOk w) : c < nx w c x := by
  unfold nx
  split
  · rw [div_add_mul (by omega)]
    have := Int.emod_lt_of_pos c (by omega : 0 < w)
    omega
  · omega
theorem nx_le {w c x : Int} (hw : WOk w) : nx w c x ≤ c + 8 := by
  unfold nx
  split
  · rw [div_add_mul (by omega)]
    have := Int.emod_nonneg c (by omega : w ≠ 0)
    omega
  · omega

theorem fdiv_ii {a b : Int} (h : 0 < b ∧ b < 2 ^ 30) : fdivPV (.int a) (.int b) = some (.int (a / b)) := if_pos h
theorem mod_ii {a b : Int} (h : 0 < b ∧ b < 2 ^ 30) : modPV (.int a) (.int b) = some (.int (a % b)) := if_pos h
theorem mul_ii {a b : Int} (h : a.natAbs < 2 ^ 31) : mulPV (.int a) (.int b) = some (.int (a * b)) := if_pos h
theorem add_ii {a b : Int} : addPV (.int a) (.int b) = some (.int (a + b)) := rfl
theorem sub_ii {a b : Int} : subPV (.int a) (.int b) = some (.int (a - b)) := rfl
theorem max_ii {a b : Int} : maxPV (.int a) (.int b) = some (.int (if b > a then b else a)) := rfl
theorem add_ll {a b : List Int} (h : a.length + b.length ≤ 2 ^ 20) : addPV (I a) (I b) = some (I (a ++ b)) := by
  show mkL _ = _
  unfold mkL
  rw [if_pos (by simpa using h), I, List.map_append]
theorem mk_pos {xs : List PV} (h : xs.length ≤ 2 ^ 20) : mkL xs = some (.list xs) := if_pos h
theorem rep_ii {c n : Int} (h : n.toNat ≤ 2 ^ 20 ∧ -(2 ^ 62 : Int) < n) : repPV (.int c) (.int n) = some (I (List.replicate n.toNat c)) := by
  show (if n.toNat ≤ 2 ^ 20 ∧ -(2 ^ 62 : Int) < n then _ else _) = _
  rw [if_pos h, I, List.map_replicate]
theorem eq_ii {a b : Int} : cmpPV .Eq (.int a) (.int b) = some (decide (a = b)) := rfl
theorem ne_ii {a b : Int} : cmpPV .NotEq (.int a) (.int b) = some (!decide (a = b)) := rfl
theorem lt_ii {a b : Int} : cmpPV .Lt (.int a) (.int b) = some (decide (a < b)) := rfl
theorem le_ii {a b : Int} : cmpPV .LtE (.int a) (.int b) = some (decide (a ≤ b)) := rfl
theorem gt_ii {a b : Int} : cmpPV .Gt (.int a) (.int b) = some (decide (a > b)) := rfl
theorem ge_ii {a b : Int} : cmpPV .GtE (.int a) (.int b) = some (decide (a ≥ b)) := rfl
theorem allInts_map (l : List Int) : allInts (l.map .int) = some l := by
  induction l with
  | nil => rfl
  | cons a r ih => exact (o_one (fun l => some (a :: l)) ih rfl : _)
theorem eqInts_map (a b : List Int) : eqInts (a.map .int) (b.map .int) = some (decide (a = b)) := o_one _ (allInts_map a) (o_one _ (allInts_map b) rfl)
theorem eq_ll {a b : List Int} : cmpPV .Eq (I a) (I b) = some (decide (a = b)) := eqInts_map a b
theorem ne_ll {a b : List Int} : cmpPV .NotEq (I a) (I b) = some (!decide (a = b)) := by
  show (eqInts _ _).map _ = _
  rw [eqInts_map]; rfl
theorem idx_i {a : List Int} {i x : Int} (h : 0 ≤ i) (hx : a[i.toNat]? = some x) : idxPV (I a) (.int i) = some (.int x) := by
  show (if 0 ≤ i then _ else _) = _
  rw [if_pos h, List.getElem?_map, hx]; rfl
theorem len_l {a : List Int} : lenPV (I a) = some (.int a.length) := by
  show some (PV.int _) = _
  rw [List.length_map]
theorem upto_l {a : List Int} {i : Int} (h : 0 ≤ i) : uptoPV (I a) (.int i) = some (I (a.take i.toNat)) := by
  show (if 0 ≤ i then _ else _) = _
  rw [if_pos h, I, List.map_take]
theorem from_l {a : List Int} {i : Int} (h : 0 ≤ i) : fromPV (I a) (.int i) = some (I (a.drop i.toNat)) := by
  show (if 0 ≤ i then _ else _) = _
  rw [if_pos h, I, List.map_drop]

section
variable {T : Nat → List PV → Option PV} {ρ : Rho}
theorem e_loc {i : Nat} {v : PV} (h : (ρ[i]?).join = some v) : ev T (.loc i) ρ = some v := h
theorem e_int {i : Int} : ev T (.int i) ρ = some (.int i) := rfl
theorem e_bool {i : Bool} : ev T (.bool i) ρ = some (.bool i) := rfl
theorem e_tab : ev T .gtab ρ = some (.int 9) := rfl
theorem e_blank : ev T .gblank ρ = some (.int 32) := rfl
theorem e_two {a b : Option PV} {x y v : PV} (f : PV → PV → Option PV) (ha : a = some x) (hb : b = some y) (h : f x y = some v) : (a.bind fun x => b.bind fun y => f x y) = some v := by rw [ha, hb]; exact h
section
variable {a b : E} {x y v : PV} (ha : ev T a ρ = some x) (hb : ev T b ρ = some y)
include ha hb
theorem e_add (h : addPV x y = some v) : ev T (.add a b) ρ = some v := e_two addPV ha hb h
theorem e_sub (h : subPV x y = some v) : ev T (.sub a b) ρ = some v := e_two subPV ha hb h
theorem e_mul (h : mulPV x y = some v) : ev T (.mul a b) ρ = some v := e_two mulPV ha hb h
theorem e_fdiv (h : fdivPV x y = some v) : ev T (.fdiv a b) ρ = some v := e_two fdivPV ha hb h
theorem e_mod (h : modPV x y = some v) : ev T (.mod a b) ρ = some v := e_two modPV ha hb h
theorem e_rep (h : repPV x y = some v) : ev T (.rep a b) ρ = some v := e_two repPV ha hb h
theorem e_max (h : maxPV x y = some v) : ev T (.max a b) ρ = some v := e_two maxPV ha hb h
theorem e_idx (h : idxPV x y = some v) : ev T (.idx a b) ρ = some v := e_two idxPV ha hb h
theorem e_upto (h : uptoPV x y = some v) : ev T (.upto a b) ρ = some v := e_two uptoPV ha hb h
theorem e_from (h : fromPV x y = some v) : ev T (.from_ a b) ρ = some v := e_two fromPV ha hb h
theorem e_cmp {op : CmpOp} {p : Bool} (h : cmpPV op x y = some p) : ev T (.cmp op a b) ρ = some (.bool p) := e_two (fun x y => (cmpPV op x y).map .bool) ha hb (by rw [h]; rfl)
end
theorem e_cmp2t {op₁ op₂ : CmpOp} {a b c : E} {x y z : PV} {p : Bool} (ha : ev T a ρ = some x) (hb : ev T b ρ = some y) (h : cmpPV op₁ x y = some true) (hc : ev T c ρ = some z) (h2 : cmpPV op₂ y z = some p) : ev T (.cmp2 op₁ op₂ a b c) ρ = some (.bool p) :=
  e_one _ ha (e_one _ hb (o_one _ h (e_one _ hc (congrArg (Option.map PV.bool) h2))))
theorem e_cmp2f {op₁ op₂ : CmpOp} {a b c : E} {x y : PV} (ha : ev T a ρ = some x) (hb : ev T b ρ = some y) (h : cmpPV op₁ x y = some false) : ev T (.cmp2 op₁ op₂ a b c) ρ = some (.bool false) :=
  e_one _ ha (e_one _ hb (o_one _ h rfl))
theorem e_len {a : E} {x v : PV} (ha : ev T a ρ = some x) (h : lenPV x = some v) : ev T (.len a) ρ = some v := e_one lenPV ha h
theorem e_in {a : E} {k i j : Int} (ha : ev T a ρ = some (.int k)) : ev T (.inTup a i j) ρ = some (.bool (decide (k = i) || decide (k = j))) := e_one _ ha rfl
theorem e_nil : evs T [] ρ = some [] := rfl
theorem e_cons {e : E} {r : List E} {x : PV} {xs : List PV} (h : ev T e ρ = some x) (hs : evs T r ρ = some xs) : evs T (e :: r) ρ = some (x :: xs) := e_one _ h (o_one _ hs rfl)
theorem e_call {f : Nat} {es : List E} {xs : List PV} {v : PV} (hs : evs T es ρ = some xs) (h : T f xs = some v) : ev T (.call f es) ρ = some v := o_one _ hs h
theorem e_tup {es : List E} {xs : List PV} (hs : evs T es ρ = some xs) : ev T (.tup es) ρ = some (.tup xs) := o_one _ hs rfl
theorem e_lst {es : List E} {xs : List PV} {v : PV} (hs : evs T es ρ = some xs) (h : mkL xs = some v) : ev T (.lst es) ρ = some v := o_one _ hs h
theorem e_ite {t a b : E} {p : Bool} {v : PV} (ht : ev T t ρ = some (.bool p)) (h : (if p then ev T a ρ else ev T b ρ) = some v) : ev T (.ite t a b) ρ = some v := e_one _ ht h
theorem b_nil {p : Bool} : evB T p [] ρ = some p := rfl
theorem b_go {p q : Bool} {e : E} {r : List E} (h : ev T e ρ = some (.bool p)) (hr : evB T p r ρ = some q) : evB T p (e :: r) ρ = some q := e_one _ h ((if_pos rfl).trans hr)
theorem b_stop {p q : Bool} {e : E} {r : List E} (h : ev T e ρ = some (.bool q)) (hq : q ≠ p) : evB T p (e :: r) ρ = some q := e_one _ h (if_neg hq)
theorem e_bop {p q : Bool} {es : List E} (h : evB T p es ρ = some q) : ev T (.bop p es) ρ = some (.bool q) := congrArg (Option.map PV.bool) h
theorem e_tc {n g : Nat} {xs : List PV} {v : PV} (h : R g xs = some v) (hg : g < n) : tt bs n g xs = some v := (ttR hg xs).trans h
end

theorem eq_t {a b : Int} (h : a = b) : cmpPV .Eq (.int a) (.int b) = some true := congrArg some (decide_eq_true h)
theorem eq_f {a b : Int} (h : ¬ a = b) : cmpPV .Eq (.int a) (.int b) = some false := congrArg some (decide_eq_false h)
theorem ne_t {a b : Int} (h : ¬ a = b) : cmpPV .NotEq (.int a) (.int b) = some true := by rw [ne_ii, decide_eq_false h]; rfl
theorem ne_f {a b : Int} (h : a = b) : cmpPV .NotEq (.int a) (.int b) = some false := by rw [ne_ii, decide_eq_true h]; rfl
theorem lt_t {a b : Int} (h : a < b) : cmpPV .Lt (.int a) (.int b) = some true := congrArg some (decide_eq_true h)
theorem lt_f {a b : Int} (h : ¬ a < b) : cmpPV .Lt (.int a) (.int b) = some false := congrArg some (decide_eq_false h)
theorem le_t {a b : Int} (h : a ≤ b) : cmpPV .LtE (.int a) (.int b) = some true := congrArg some (decide_eq_true h)
theorem le_f {a b : Int} (h : ¬ a ≤ b) : cmpPV .LtE (.int a) (.int b) = some false := congrArg some (decide_eq_false h)
theorem gt_t {a b : Int} (h : a > b) : cmpPV .Gt (.int a) (.int b) = some true := congrArg some (decide_eq_true h)
theorem ge_t {a b : Int} (h : a ≥ b) : cmpPV .GtE (.int a) (.int b) = some true := congrArg some (decide_eq_true h)
theorem ge_f {a b : Int} (h : ¬ a ≥ b) : cmpPV .GtE (.int a) (.int b) = some false := congrArg some (decide_eq_false h)
theorem nel_f {a b : List Int} (h : a = b) : cmpPV .NotEq (I a) (I b) = some false := by rw [ne_ll, decide_eq_true h]; rfl
theorem nel_t {a b : List Int} (h : ¬ a = b) : cmpPV .NotEq (I a) (I b) = some true := by rw [ne_ll, decide_eq_false h]; rfl
theorem eql_t {a b : List Int} (h : a = b) : cmpPV .Eq (I a) (I b) = some true := by rw [eq_ll, decide_eq_true h]
/-- lists of at most a hundred thousand -/
noncomputable abbrev Sm (l : List Int) : Prop := l.length ≤ 100000
theorem add_s {a b : List Int} (ha : a.length ≤ 300000) (hb : b.length ≤ 300000) : addPV (I a) (I b) = some (I (a ++ b)) := add_ll (by omega)
theorem rep_s {c a b : Int} (ha : 0 ≤ a ∧ a ≤ 200000) (hb : 0 ≤ b ∧ b ≤ 200000) : repPV (.int c) (.int (b - a)) = some (I (List.replicate (b - a).toNat c)) := rep_ii (by omega)
theorem rep_len {c a b : Int} (ha : 0 ≤ a) (hb : b ≤ 200000) : (List.replicate (b - a).toNat c).length ≤ 300000 := by rw [List.length_replicate]; omega
theorem mk_nil : mkL [] = some (I []) := mk_pos (Nat.zero_le _)
theorem mk_one {x : Int} : mkL [.int x] = some (I [x]) := mk_pos (show 1 ≤ 2 ^ 20 by decide)

theorem R0 {c x w : Int} (hw : WOk w) (h0 : 0 ≤ c) (h1 : c ≤ 2 ^ 20) : R 0 [.int c, .int x, .int w] = some (.int (nx w c x)) := by
  refine (show R 0 [.int c, .int x, .int w] = fin (exSs (tt bs 0) 100 b0.body [some (.int c), some (.int x), some (.int w), none] none) from rfl).trans (Go.fin (Go.ret (x := .int (nx w c x)) ?_ rfl))
  have q : c / w ≤ c := Int.ediv_le_self w h0
  have q' : 0 ≤ c / w := Int.ediv_nonneg h0 (by omega)
  by_cases h : x = 9
  · refine e_ite (e_cmp (e_loc rfl) e_tab (eq_t h)) (e_mul (e_add (e_fdiv (e_loc rfl) (e_loc rfl) (fdiv_ii (by omega))) e_int add_ii) (e_loc rfl) ((mul_ii (by omega)).trans ?_))
    rw [nx, if_pos h]
  · refine e_ite (e_cmp (e_loc rfl) e_tab (eq_f h)) (e_add (e_loc rfl) e_int (add_ii.trans ?_))
    rw [nx, if_neg h]

theorem col_bound {w : Int} (hw : WOk w) : ∀ (r : List Int) (c : Int), c + r.length ≤ col w c r ∧ col w c r ≤ c + 8 * r.length
  | [], c => by simp [col]
  | x :: r, c => by
    have := col_bound hw r (nx w c x)
    have h1 := nx_lt (c := c) (x := x) hw
    have h2 := nx_le (c := c) (x := x) hw
    simp only [col, List.length_cons]
    omega

/-- a column that has room for what is to come -/
structure Fit (c : Int) (n : Nat) : Prop where
  lo : 0 ≤ c
  hi : c + 8 * n ≤ 810000
theorem Fit.next {w c x : Int} {n : Nat} (hw : WOk w) (f : Fit c (n + 1)) : Fit (nx w c x) n := by
  have h1 := nx_lt (c := c) (x := x) hw
  have h2 := nx_le (c := c) (x := x) hw
  have h3 := f.lo
  have h4 := f.hi
  exact ⟨by omega, by omega⟩
theorem Fit.le {c : Int} {n : Nat} (f : Fit c n) : c ≤ 2 ^ 20 := by
  have := f.hi
  omega
theorem Fit.start {c : Int} {n : Nat} (hc : 0 ≤ c ∧ c ≤ 1000) (h : n ≤ 100000) : Fit c n := ⟨hc.1, by omega⟩
theorem Fit.zero {n : Nat} (h : n ≤ 100000) : Fit 0 n := ⟨by omega, by omega⟩
theorem behind {w c x : Int} {n m : Nat} (hw : WOk w) (f : Fit c n) (hm : 0 < m) : tt bs m 0 [.int c, .int x, .int w] = some (.int (nx w c x)) := e_tc (R0 hw f.lo f.le) hm
theorem map_cons_inv {x : PV} {r : List PV} {l : List Int} (h : x :: r = l.map PV.int) : ∃ y l', l = y :: l' ∧ x = .int y ∧ r = l'.map PV.int := by
  cases l with
  | nil => cases h
  | cons y l' => cases h; exact ⟨y, l', rfl, rfl, rfl⟩
theorem map_nil_inv {l : List Int} (h : [] = l.map PV.int) : l = [] := by
  cases l with
  | nil => rfl
  | cons y l' => cases h

theorem R1 {w p : Int} {row : List Int} (hw : WOk w) (hl : row.length ≤ 100000) (hp : 0 ≤ p) : R 1 [I row, .int p, .int w] = some (.int (col w 0 (row.take p.toNat))) := by
  refine (show R 1 [I row, .int p, .int w] = fin (exSs (tt bs 1) 100 b1.body [some (I row), some (.int p), some (.int w), none, none, none] none) from rfl).trans (Go.fin ?_)
  refine Go.asg e_int rfl (Go.forL (fun r ρ o => o = none ∧ ∃ (l : List Int) (c : Int) (v : Option PV), r = l.map .int ∧ ρ = [some (I row), some (.int p), some (.int w), some (.int c), v, none] ∧ Fit c l.length ∧ col w c l = col w 0 (row.take p.toNat))
    (xs := (row.take p.toNat).map .int) (e_upto (e_loc rfl) (e_loc rfl) (upto_l hp)) ⟨rfl, _, 0, none, rfl, rfl, Fit.zero (Nat.le_trans (List.length_take_le' _ _) hl), rfl⟩ ?_ ?_)
  · rintro x r ρ o ⟨rfl, l, c, v, hr, rfl, h0, h2⟩
    obtain ⟨y, l, rfl, rfl, rfl⟩ := map_cons_inv hr
    exact ⟨rfl, _, rfl, Go.asg (e_call (e_cons (e_loc rfl) (e_cons (e_loc rfl) (e_cons (e_loc rfl) e_nil))) (behind hw h0 (by decide))) rfl (Go.nil ⟨rfl, l, _, some (.int y), rfl, rfl, h0.next hw, h2⟩)⟩
  · rintro ρ o ⟨rfl, l, c, v, hr, rfl, h0, h2⟩
    obtain rfl := map_nil_inv hr
    exact Go.ret (e_loc rfl) (congrArg _ h2)
theorem R1all {w : Int} {row : List Int} (hw : WOk w) (hl : row.length ≤ 100000) : R 1 [I row, .int row.length, .int w] = some (.int (col w 0 row)) := by
  rw [R1 hw hl (Int.natCast_nonneg _), Int.toNat_natCast, List.take_length]
theorem rep_nx {w b x c : Int} (hw : WOk w) : repPV (.int c) (.int (nx w b x - b)) = some (I (List.replicate (nx w b x - b).toNat c)) := by
  have h1 := nx_lt (c := b) (x := x) hw
  have h2 := nx_le (c := b) (x := x) hw
  exact rep_ii (by omega)
theorem rep_nx_len {w b x c : Int} (hw : WOk w) : (List.replicate (nx w b x - b).toNat c).length ≤ 8 := by
  have h2 := nx_le (c := b) (x := x) hw
  rw [List.length_replicate]; omega
theorem le_up {a b : Nat} (h : a ≤ b) {c : Nat} (h2 : b ≤ c) : a ≤ c := Nat.le_trans h h2
theorem app_le {a b : List Int} {n m : Nat} (ha : a.length ≤ n) (hb : b.length ≤ m) : (a ++ b).length ≤ n + m := by rw [List.length_append]; exact Nat.add_le_add ha hb
end Mine
end

section
open PySem PyProof.Rows
namespace Mine

theorem R2 {w : Int} {row : List Int} (hw : WOk w) (hl : row.length ≤ 100000) : R 2 [I row, .int w] = some (.int (col w 0 row)) :=
  (show R 2 [I row, .int w] = fin (exSs (tt bs 2) 100 b2.body [some (I row), some (.int w), none, none] none) from rfl).trans
    (Go.fin (Go.ret (e_call (e_cons (e_loc rfl) (e_cons (e_len (e_loc rfl) len_l) (e_cons (e_loc rfl) e_nil))) (e_tc (R1all hw hl) (by decide))) rfl))

noncomputable def pl (w k : Int) : Int → List Int → Nat
  | _, [] => 0
  | c, x :: r => if c ≥ k then 0 else 1 + pl w k (nx w c x) r

theorem pl_le {w k : Int} : ∀ (row : List Int) (c : Int), pl w k c row ≤ row.length
  | [], c => by simp [pl]
  | x :: r, c => by
    have := pl_le (w := w) (k := k) r (nx w c x)
    simp only [pl, List.length_cons]
    split <;> omega

theorem range_drop {n i : Nat} {x : PV} {r : List PV} (h : x :: r = ((List.range n).map fun (k : Nat) => PV.int (k : Int)).drop i) : i < n ∧ x = .int (i : Int) ∧ r = ((List.range n).map fun (k : Nat) => PV.int (k : Int)).drop (i + 1) := by
  by_cases hlt : i < n
  · rw [List.drop_eq_getElem_cons (by simpa using hlt)] at h
    simp only [List.getElem_map, List.getElem_range, List.cons.injEq] at h
    exact ⟨hlt, h.1, h.2⟩
  · rw [List.drop_eq_nil_of_le (by simp; omega)] at h
    cases h
theorem range_done {n i : Nat} (h : [] = ((List.range n).map fun (k : Nat) => PV.int (k : Int)).drop i) : n ≤ i := by
  have := congrArg List.length h
  simp at this
  omega
theorem pl_go {w k c x : Int} {r : List Int} (h : ¬ c ≥ k) : pl w k c (x :: r) = 1 + pl w k (nx w c x) r := by rw [pl, if_neg h]
theorem pl_stop {w k c : Int} {r : List Int} (h : c ≥ k) : pl w k c r = 0 := by
  cases r with
  | nil => rfl
  | cons x r => rw [pl, if_pos h]

theorem R3 {w k : Int} {row : List Int} (hw : WOk w) (hl : row.length ≤ 100000) : R 3 [I row, .int k, .int w] = some (.int (pl w k 0 row)) := by
  refine (show R 3 [I row, .int k, .int w] = fin (exSs (tt bs 3) 100 b3.body [some (I row), some (.int k), some (.int w), none, none, none, none, none] none) from rfl).trans (Go.fin ?_)
  refine Go.asg e_int rfl (Go.forR (fun r ρ o => o = none ∧ ∃ (i : Nat) (c : Int) (v : Option PV), r = ((List.range row.length).map fun (k : Nat) => PV.int (k : Int)).drop i ∧
      ρ = [some (I row), some (.int k), some (.int w), some (.int c), v, none, none, none] ∧ Fit c (row.drop i).length ∧ i + pl w k c (row.drop i) = pl w k 0 row)
    (e_len (e_loc rfl) len_l) ⟨Int.natCast_nonneg _, by omega⟩ ⟨rfl, 0, 0, none, rfl, rfl, Fit.zero hl, Nat.zero_add _⟩ ?_ ?_)
  · rintro x r ρ o ⟨rfl, i, c, v, hr, rfl, h0, h2⟩
    obtain ⟨hlt, rfl, rfl⟩ := range_drop hr
    have hd : row.drop i = row[i] :: row.drop (i + 1) := List.drop_eq_getElem_cons hlt
    rw [hd] at h2 h0
    by_cases hc : c ≥ k
    · refine ⟨rfl, Go.iff (e_cmp (e_loc rfl) (e_loc rfl) (ge_t hc)) (Go.ret (e_loc rfl) (congrArg (fun n : Nat => PV.int n) ?_))⟩
      rw [← h2, pl_stop hc]; rfl
    · refine ⟨rfl, Go.iff (e_cmp (e_loc rfl) (e_loc rfl) (ge_f hc)) (Go.nil (Go.asg (e_call (e_cons (e_loc rfl) (e_cons (e_idx (e_loc rfl) (e_loc rfl) (idx_i (x := row[i]) (Int.natCast_nonneg i) (List.getElem?_eq_getElem hlt))) (e_cons (e_loc rfl) e_nil))) (behind hw h0 (by decide))) rfl
        (Go.nil ⟨rfl, i + 1, nx w c row[i], some (.int i), rfl, rfl, h0.next hw, ?_⟩)))⟩
      rw [← h2, pl_go hc, ← Nat.add_assoc]
  · rintro ρ o ⟨rfl, i, c, v, hr, rfl, h0, h2⟩
    have hge := range_done hr
    refine Go.ret (e_len (e_loc rfl) len_l) (congrArg (fun n : Nat => PV.int n) ?_)
    have h3 : (row.drop i) = [] := List.drop_eq_nil_of_le hge
    rw [h3] at h2 h0
    have := pl_le (w := w) (k := k) row 0
    rw [← h2] at this ⊢
    exact Nat.le_antisymm hge this

noncomputable def brk (w k : Int) : Int → List Int → List Int
  | _, [] => []
  | c, x :: r => (if c < k ∧ k < nx w c x then List.replicate (nx w c x - c).toNat 32 else [x]) ++ brk w k (nx w c x) r

theorem brk_len {w k : Int} (hw : WOk w) : ∀ (row : List Int) (c : Int), (brk w k c row).length ≤ 8 * row.length
  | [], c => by simp [brk]
  | x :: r, c => by
    have := brk_len hw (k := k) r (nx w c x)
    have h2 := nx_le (c := c) (x := x) hw
    simp only [brk, List.length_append, List.length_cons]
    split
    · simp only [List.length_replicate]; omega
    · simp only [List.length_cons, List.length_nil]; omega
theorem brk_ge {w k : Int} (hw : WOk w) : ∀ (row : List Int) (c : Int), k ≤ c → brk w k c row = row
  | [], c, h => rfl
  | x :: r, c, h => by
    have := nx_lt (c := c) (x := x) hw
    rw [brk, if_neg (by omega), brk_ge hw r _ (by omega)]
    rfl

theorem pl_ge {w k c : Int} {row : List Int} (h : k ≤ c) : pl w k c row = 0 := by
  cases row with
  | nil => rfl
  | cons x r => rw [pl, if_pos (by omega)]

theorem opened_brk {w k : Int} (hw : WOk w) : ∀ (row : List Int) (c : Int), (pl w k c row = 0 ∧ brk w k c row = row) ∨
    (∃ q x, pl w k c row = q + 1 ∧ row[q]? = some x ∧ col w c (row.take (q + 1)) = nx w (col w c (row.take q)) x ∧
      (x = 9 ∧ col w c (row.take (q + 1)) > k → brk w k c row = row.take q ++ List.replicate (col w c (row.take (q + 1)) - col w c (row.take q)).toNat 32 ++ row.drop (q + 1)) ∧
      (¬ (x = 9 ∧ col w c (row.take (q + 1)) > k) → brk w k c row = row))
  | [], c => .inl ⟨rfl, rfl⟩
  | y :: r, c => by
    by_cases hc : c ≥ k
    · exact .inl ⟨pl_ge hc, brk_ge hw _ _ hc⟩
    · right
      have n1 := nx_lt (c := c) (x := y) hw
      rcases opened_brk hw r (nx w c y) with ⟨h1, h2⟩ | ⟨q, x, h1, h2, h2', h3, h4⟩
      · refine ⟨0, y, by rw [pl, if_neg hc, h1], rfl, rfl, ?_, ?_⟩
        · simp only [Nat.zero_add, List.take_succ_cons, List.take_zero, col, List.nil_append, List.drop_succ_cons, List.drop_zero]
          rintro ⟨rfl, hk⟩
          rw [brk, if_pos ⟨by omega, by omega⟩, h2]
        · simp only [Nat.zero_add, List.take_succ_cons, List.take_zero, col]
          intro hn
          rw [brk, if_neg, h2]
          · rfl
          · rintro ⟨h5, h6⟩
            by_cases hy : y = 9
            · exact hn ⟨hy, h6⟩
            · rw [nx, if_neg hy] at h6
              omega
      · have hlt : ¬ (k < nx w c y) := fun hk => by
          rw [pl_ge (by omega)] at h1
          omega
        refine ⟨q + 1, x, by rw [pl, if_neg hc, h1]; omega, h2, h2', ?_, ?_⟩
        · simp only [List.take_succ_cons, col, List.drop_succ_cons, List.cons_append]
          intro hx
          rw [brk, if_neg (by omega), h3 (by simpa using hx)]
          simp [List.append_assoc]
        · simp only [List.take_succ_cons, col]
          intro hx
          rw [brk, if_neg (by omega), h4 (by simpa using hx)]
          rfl

theorem R4 {w k : Int} {row : List Int} (hw : WOk w) (hl : row.length ≤ 100000) : R 4 [I row, .int k, .int w] = some (I (brk w k 0 row)) := by
  refine (show R 4 [I row, .int k, .int w] = fin (exSs (tt bs 4) 100 b4.body [some (I row), some (.int k), some (.int w), none, none, none, none, none, none, none] none) from rfl).trans (Go.fin ?_)
  refine Go.asg (e_call (e_cons (e_loc rfl) (e_cons (e_loc rfl) (e_cons (e_loc rfl) e_nil))) (e_tc (R3 hw hl) (by decide))) rfl ?_
  rcases opened_brk (k := k) hw row 0 with ⟨h1, h2⟩ | ⟨q, x, h1, h2, h2', h3, h4⟩
  · rw [h1]
    exact Go.iff (e_bop (b_stop (e_cmp (e_loc rfl) e_int (eq_t rfl)) (by decide))) (Go.ret (e_loc rfl) (congrArg I h2.symm))
  · rw [h1]
    have hq : q < row.length := (List.getElem?_eq_some_iff.mp h2).1
    have eq2 : ((q + 1 : Nat) : Int) - 1 = (q : Int) := by omega
    have hp : ¬ ((q + 1 : Nat) : Int) = 0 := by omega
    have e1 : tt bs 4 1 [I row, .int ((q + 1 : Nat) : Int), .int w] = some (.int (col w 0 (row.take (q + 1)))) := e_tc (R1 hw hl (Int.natCast_nonneg _)) (by decide)
    have e0 : tt bs 4 1 [I row, .int (q : Int), .int w] = some (.int (col w 0 (row.take q))) := e_tc (R1 hw hl (Int.natCast_nonneg _)) (by decide)
    have es : ∀ {ρ : Rho}, (ρ[3]?).join = some (.int ((q + 1 : Nat) : Int)) → ev (tt bs 4) (.sub (.loc 3) (.int 1)) ρ = some (.int (q : Int)) := fun h => e_sub (e_loc h) e_int (sub_ii.trans (congrArg (fun n => some (PV.int n)) eq2))
    have ei : idxPV (I row) (.int (q : Int)) = some (.int x) := idx_i (Int.natCast_nonneg _) h2
    have b1 := e_cmp (T := tt bs 4) (ρ := [some (I row), some (.int k), some (.int w), some (.int ((q + 1 : Nat) : Int)), none, none, none, none, none, none]) (e_loc (i := 3) rfl) e_int (eq_f hp)
    have b2 : ∀ {p : Bool}, cmpPV .NotEq (.int x) (.int 9) = some p → ev (tt bs 4) _ _ = some (.bool p) := fun h => e_cmp (ρ := [some (I row), some (.int k), some (.int w), some (.int ((q + 1 : Nat) : Int)), none, none, none, none, none, none]) (e_idx (e_loc (i := 0) rfl) (es rfl) ei) e_tab h
    have b3 : ∀ {p : Bool}, cmpPV .LtE (.int (col w 0 (row.take (q + 1)))) (.int k) = some p → ev (tt bs 4) _ _ = some (.bool p) := fun h => e_cmp (ρ := [some (I row), some (.int k), some (.int w), some (.int ((q + 1 : Nat) : Int)), none, none, none, none, none, none])
      (e_call (e_cons (e_loc (i := 0) rfl) (e_cons (e_loc (i := 3) rfl) (e_cons (e_loc (i := 2) rfl) e_nil))) e1) (e_loc (i := 1) rfl) h
    by_cases hx : x = 9 ∧ col w 0 (row.take (q + 1)) > k
    · have hl1 : (row.take q).length ≤ 100000 := le_up (List.length_take_le' _ _) hl
      have hl2 : (List.replicate (col w 0 (row.take (q + 1)) - col w 0 (row.take q)).toNat (32 : Int)).length ≤ 8 := by rw [h2']; exact rep_nx_len hw
      refine Go.iff (e_bop (b_go b1 (b_go (b2 (ne_f hx.1)) (b_go (b3 (le_f (Int.not_le.mpr hx.2))) b_nil)))) (Go.nil (Go.asg (e_call (e_cons (e_loc rfl) (e_cons (es rfl) (e_cons (e_loc rfl) e_nil))) e0) rfl
        (Go.asg (e_call (e_cons (e_loc rfl) (e_cons (e_loc rfl) (e_cons (e_loc rfl) e_nil))) e1) rfl (Go.ret (e_add (e_add (e_upto (e_loc rfl) (es rfl) (upto_l (Int.natCast_nonneg _))) (e_rep e_blank (e_sub (e_loc rfl) (e_loc rfl) sub_ii) ?_) (add_s (le_up hl1 (by decide)) (le_up hl2 (by decide))))
          (e_from (e_loc rfl) (e_loc rfl) (from_l (Int.natCast_nonneg _))) (add_s (le_up (app_le hl1 hl2) (by decide)) (le_up (Nat.le_trans (by rw [List.length_drop]; exact Nat.sub_le _ _) hl) (by decide)))) ?_))))
      · rw [h2']; exact rep_nx hw
      · exact congrArg I (h3 hx).symm
    · refine Go.iff (p := true) (e_bop (b_go b1 ?_)) (Go.ret (e_loc rfl) (congrArg I (h4 hx).symm))
      by_cases h9 : x = 9
      · exact b_go (b2 (ne_f h9)) (b_stop (b3 (le_t (Int.not_lt.mp fun h => hx ⟨h9, h⟩))) (by decide))
      · exact b_stop (b2 (ne_t h9)) (by decide)
end Mine
end

section
open PySem PyProof.Rows
namespace Mine

/-- no more than eight times as many -/
noncomputable abbrev By8 (a b : List Int) : Prop := a.length ≤ 8 * b.length
theorem By8.le {a b : List Int} (h : By8 a b) {n m : Nat} (hb : b.length ≤ n) (hm : 8 * n ≤ m) : a.length ≤ m := Nat.le_trans h (Nat.le_trans (Nat.mul_le_mul_left 8 hb) hm)

noncomputable def pad (w k : Int) (row : List Int) : List Int := row ++ List.replicate (k - col w 0 row).toNat 32
theorem max_nat (b : Int) : (if b > 0 then b else 0).toNat = b.toNat := by split <;> omega
theorem pad_rep {w k : Int} {row : List Int} (hw : WOk w) (hl : row.length ≤ 10000) (hk : 0 ≤ k ∧ k ≤ 1000) : repPV (.int 32) (.int (if k - col w 0 row > 0 then k - col w 0 row else 0)) = some (I (List.replicate (k - col w 0 row).toNat 32)) := by
  have h1 := col_bound hw row 0
  rw [rep_ii (by split <;> omega), max_nat]
theorem pad_rep_len {w k : Int} {row : List Int} (hw : WOk w) (hk : 0 ≤ k ∧ k ≤ 1000) : (List.replicate (k - col w 0 row).toNat (32 : Int)).length ≤ 1000 := by
  have := (col_bound hw row 0).1
  rw [List.length_replicate]; omega
theorem pad_len {w k : Int} {row : List Int} (hw : WOk w) (hk : 0 ≤ k ∧ k ≤ 1000) {n : Nat} (hl : row.length ≤ n) : (pad w k row).length ≤ n + 1000 := app_le hl (pad_rep_len hw hk)

theorem R5 {w k : Int} {row : List Int} (hw : WOk w) (hl : row.length ≤ 10000) (hk : 0 ≤ k ∧ k ≤ 1000) : R 5 [I row, .int k, .int w] = some (I (pad w k row)) :=
  (show R 5 [I row, .int k, .int w] = fin (exSs (tt bs 5) 100 b5.body [some (I row), some (.int k), some (.int w), none, none, none] none) from rfl).trans
    (Go.fin (Go.ret (e_add (e_loc rfl) (e_rep e_blank (e_max e_int (e_sub (e_loc rfl) (e_call (e_cons (e_loc rfl) (e_cons (e_loc rfl) e_nil)) (e_tc (R2 hw (le_up hl (by decide))) (by decide))) sub_ii) max_ii) (pad_rep hw hl hk)) (add_s (le_up hl (by decide)) (le_up (pad_rep_len hw hk) (by decide)))) rfl))

noncomputable def cutA (w k : Int) (row : List Int) : List Int := (brk w k 0 row).take (pl w k 0 (brk w k 0 row))
noncomputable def cutB (w k : Int) (row : List Int) : List Int := (brk w k 0 row).drop (pl w k 0 (brk w k 0 row))
theorem cutA_len {w k : Int} (hw : WOk w) (row : List Int) : By8 (cutA w k row) row := Nat.le_trans (List.length_take_le' _ _) (brk_len hw row 0)
theorem drop_le (l : List Int) (n : Nat) : (l.drop n).length ≤ l.length := by rw [List.length_drop]; exact Nat.sub_le _ _
theorem cutB_len {w k : Int} (hw : WOk w) (row : List Int) : By8 (cutB w k row) row := Nat.le_trans (drop_le _ _) (brk_len hw row 0)

section
variable {T : Nat → List PV → Option PV} {ρ : Rho} {a b c d e : E} {x y z u v : PV}
theorem e2 (h1 : ev T a ρ = some x) (h2 : ev T b ρ = some y) : evs T [a, b] ρ = some [x, y] := e_cons h1 (e_cons h2 e_nil)
theorem e3 (h1 : ev T a ρ = some x) (h2 : ev T b ρ = some y) (h3 : ev T c ρ = some z) : evs T [a, b, c] ρ = some [x, y, z] := e_cons h1 (e2 h2 h3)
theorem e4 (h1 : ev T a ρ = some x) (h2 : ev T b ρ = some y) (h3 : ev T c ρ = some z) (h4 : ev T d ρ = some u) : evs T [a, b, c, d] ρ = some [x, y, z, u] := e_cons h1 (e3 h2 h3 h4)
theorem e5 (h1 : ev T a ρ = some x) (h2 : ev T b ρ = some y) (h3 : ev T c ρ = some z) (h4 : ev T d ρ = some u) (h5 : ev T e ρ = some v) : evs T [a, b, c, d, e] ρ = some [x, y, z, u, v] := e_cons h1 (e4 h2 h3 h4 h5)
end

theorem R6 {w k : Int} {row : List Int} (hw : WOk w) (hl : row.length ≤ 10000) : R 6 [I row, .int k, .int w] = some (.tup [I (cutA w k row), I (cutB w k row)]) :=
  (show R 6 [I row, .int k, .int w] = fin (exSs (tt bs 6) 100 b6.body [some (I row), some (.int k), some (.int w), none, none, none, none] none) from rfl).trans
    (Go.fin (Go.asg (e_call (e3 (e_loc rfl) (e_loc rfl) (e_loc rfl)) (e_tc (R4 hw (le_up hl (by decide))) (by decide))) rfl
      (Go.asg (e_call (e3 (e_loc rfl) (e_loc rfl) (e_loc rfl)) (e_tc (R3 hw (By8.le (brk_len hw row 0) hl (by decide))) (by decide))) rfl
        (Go.ret (e_tup (e2 (e_upto (e_loc rfl) (e_loc rfl) (upto_l (Int.natCast_nonneg _))) (e_from (e_loc rfl) (e_loc rfl) (from_l (Int.natCast_nonneg _))))) rfl))))

theorem R7 {w a b : Int} {row : List Int} (hw : WOk w) (hl : row.length ≤ 1250) : R 7 [I row, .int a, .int b, .int w] = some (.tup [I (cutA w a (cutA w b row)), I (cutB w a (cutA w b row)), I (cutB w b row)]) :=
  (show R 7 [I row, .int a, .int b, .int w] = fin (exSs (tt bs 7) 100 b7.body [some (I row), some (.int a), some (.int b), some (.int w), none, none, none, none, none] none) from rfl).trans
    (Go.fin (Go.unp (e_call (e3 (e_loc rfl) (e_loc rfl) (e_loc rfl)) (e_tc (R6 hw (le_up hl (by decide))) (by decide))) rfl rfl
      (Go.unp (e_call (e3 (e_loc rfl) (e_loc rfl) (e_loc rfl)) (e_tc (R6 hw ((cutA_len hw row).le hl (by decide))) (by decide))) rfl rfl
        (Go.ret (e_tup (e3 (e_loc rfl) (e_loc rfl) (e_loc rfl))) rfl))))

noncomputable def spr (w : Int) : Int → List Int → List Int
  | _, [] => []
  | c, x :: r => (if x = 9 then List.replicate (nx w c x - c).toNat 32 else [x]) ++ spr w (nx w c x) r
theorem spr_len {w : Int} (hw : WOk w) : ∀ (row : List Int) (c : Int), (spr w c row).length ≤ 8 * row.length
  | [], c => Nat.zero_le _
  | x :: r, c => by
    have h1 := spr_len hw r (nx w c x)
    have h2 : (if x = 9 then List.replicate (nx w c x - c).toNat (32 : Int) else [x]).length ≤ 8 := by
      split
      · exact rep_nx_len hw
      · exact (by decide : 1 ≤ 8)
    rw [List.length_cons, Nat.mul_succ, Nat.add_comm]
    exact app_le h2 h1

/-- room for what is to come -/
structure Room8 (n m : Nat) : Prop where
  le : n + 8 * m ≤ 300000
theorem Room8.next {n m k : Nat} (r : Room8 n (m + 1)) (hk : k ≤ 8) : Room8 (n + k) m := ⟨by have := r.le; omega⟩
theorem Room8.small {n m k : Nat} (r : Room8 n (m + 1)) (hk : k ≤ 8) : n + k ≤ 2 ^ 20 := by have := r.le; omega
theorem Room8.lo {n m : Nat} (r : Room8 n m) : n ≤ 300000 := Nat.le_trans (Nat.le_add_right _ _) r.le

theorem R8 {w c : Int} {row : List Int} (hw : WOk w) (hl : row.length ≤ 30000) (hc : 0 ≤ c ∧ c ≤ 1000) : R 8 [I row, .int c, .int w] = some (I (spr w c row)) := by
  refine (show R 8 [I row, .int c, .int w] = fin (exSs (tt bs 8) 100 b8.body [some (I row), some (.int c), some (.int w), none, none, none, none, none, none, none] (some (3, []))) from rfl).trans (Go.fin ?_)
  refine Go.asg (e_loc rfl) rfl (Go.forL (fun r ρ o => ∃ (l out : List Int) (c' : Int) (v u : Option PV), r = l.map .int ∧ o = some (3, out.map .int) ∧ ρ = [some (I row), some (.int c), some (.int w), none, some (.int c'), v, u, none, none, none] ∧
    Fit c' l.length ∧ Room8 out.length l.length ∧ out ++ spr w c' l = spr w c row) (xs := row.map .int) (e_loc rfl) ⟨row, [], c, none, none, rfl, rfl, rfl, Fit.start hc (le_up hl (by decide)), ⟨by show 0 + 8 * row.length ≤ _; omega⟩, rfl⟩ ?_ ?_)
  · rintro x r ρ o ⟨l, out, c', v, u, hr, rfl, rfl, h0, h2, h3⟩
    obtain ⟨y, l, rfl, rfl, rfl⟩ := map_cons_inv hr
    refine ⟨rfl, _, rfl, Go.asg (e_call (e3 (e_loc rfl) (e_loc rfl) (e_loc rfl)) (behind hw h0 (by decide))) rfl ?_⟩
    by_cases hy : y = 9
    · have hle := rep_nx_len (b := c') (x := y) (c := 32) hw
      refine Go.iff (e_cmp (e_loc rfl) e_tab (eq_t hy)) (Go.ext (ys := (List.replicate (nx w c' y - c').toNat 32).map .int) (e_rep e_blank (e_sub (e_loc rfl) (e_loc rfl) sub_ii) (rep_nx hw)) ?_ (Go.nil (Go.asg (e_loc rfl) rfl (Go.nil ⟨l, out ++ List.replicate (nx w c' y - c').toNat 32, nx w c' y, _, _, rfl, ?_, rfl, h0.next hw, ?_, ?_⟩))))
      · rw [List.length_map, List.length_map]; exact h2.small hle
      · rw [List.map_append]
      · rw [List.length_append]; exact h2.next hle
      · rw [← h3, List.append_assoc, spr, if_pos hy]
    · refine Go.iff (e_cmp (e_loc rfl) e_tab (eq_f hy)) (Go.app (e_loc rfl) ?_ (Go.nil (Go.asg (e_loc rfl) rfl (Go.nil ⟨l, out ++ [y], nx w c' y, _, _, rfl, ?_, rfl, h0.next hw, ?_, ?_⟩))))
      · rw [List.length_map]; exact h2.small (show 1 ≤ 8 by decide)
      · rw [List.map_append]; rfl
      · rw [List.length_append]; exact h2.next (show 1 ≤ 8 by decide)
      · rw [← h3, List.append_assoc, spr, if_neg hy]
  · rintro ρ o ⟨l, out, c', v, u, hr, rfl, rfl, h0, h2, h3⟩
    obtain rfl := map_nil_inv hr
    rw [spr, List.append_nil] at h3
    exact Go.retO (congrArg I h3)

noncomputable def ext (w a b : Int) (row : List Int) : List Int := spr w a (cutB w a (cutA w b row)) ++ List.replicate (b - a - (spr w a (cutB w a (cutA w b row))).length).toNat 32
noncomputable abbrev C1000 (a : Int) : Prop := 0 ≤ a ∧ a ≤ 1000
theorem rep_ext {a b : Int} {n : Nat} (ha : C1000 a) (hb : C1000 b) (hn : n ≤ 1000000) : repPV (.int 32) (.int (b - a - n)) = some (I (List.replicate (b - a - (n : Int)).toNat 32)) := rep_ii (by omega)
theorem rep_ext_len {a b : Int} {n : Nat} (ha : C1000 a) (hb : C1000 b) : (List.replicate (b - a - (n : Int)).toNat (32 : Int)).length ≤ 1000 := by rw [List.length_replicate]; omega
theorem rep_c {a b : Int} (ha : C1000 a) (hb : C1000 b) : repPV (.int 32) (.int (b - a)) = some (I (List.replicate (b - a).toNat 32)) := rep_ii (by omega)
theorem rep_c_len {a b : Int} (ha : C1000 a) (hb : C1000 b) : (List.replicate (b - a).toNat (32 : Int)).length ≤ 1000 := by rw [List.length_replicate]; omega

theorem R9 {w a b : Int} {row : List Int} (hw : WOk w) (hl : row.length ≤ 400) (ha : C1000 a) (hb : C1000 b) : R 9 [I row, .int a, .int b, .int w] = some (I (ext w a b row)) :=
  have h2 := By8.le (cutB_len hw (k := a) (cutA w b row)) (By8.le (cutA_len hw (k := b) row) hl (by decide : _ ≤ 3200)) (by decide : _ ≤ 25600)
  have h3 := By8.le (spr_len hw (cutB w a (cutA w b row)) a) h2 (by decide : _ ≤ 204800)
  (show R 9 [I row, .int a, .int b, .int w] = fin (exSs (tt bs 9) 100 b9.body [some (I row), some (.int a), some (.int b), some (.int w), none, none, none, none, none, none, none, none] none) from rfl).trans
    (Go.fin (Go.unp (e_call (e4 (e_loc rfl) (e_loc rfl) (e_loc rfl) (e_loc rfl)) (e_tc (R7 hw (le_up hl (by decide))) (by decide))) rfl rfl
      (Go.asg (e_call (e3 (e_loc rfl) (e_loc rfl) (e_loc rfl)) (e_tc (R8 hw (le_up h2 (by decide)) ha) (by decide))) rfl
        (Go.ret (e_add (e_loc rfl) (e_rep e_blank (e_sub (e_sub (e_loc rfl) (e_loc rfl) sub_ii) (e_len (e_loc rfl) len_l) sub_ii) (rep_ext ha hb (le_up h3 (by decide)))) (add_s (le_up h3 (by decide)) (le_up (rep_ext_len ha hb) (by decide)))) rfl))))

theorem ite_I {p : Prop} [Decidable p] (a : List Int) {b : List Int} (h : p) : I (if p then a else b) = I a := congrArg I (if_pos h)
theorem ite_I' {p : Prop} [Decidable p] {a : List Int} (b : List Int) (h : ¬ p) : I (if p then a else b) = I b := congrArg I (if_neg h)

theorem R10 {w a b : Int} {row : List Int} (hw : WOk w) (hl : row.length ≤ 400) : R 10 [I row, .int a, .int b, .int w] = some (I (if col w 0 row ≤ a then row else cutA w a (cutA w b row) ++ cutB w b row)) := by
  refine (show R 10 [I row, .int a, .int b, .int w] = fin (exSs (tt bs 10) 100 b10.body [some (I row), some (.int a), some (.int b), some (.int w), none, none, none, none, none] none) from rfl).trans (Go.fin ?_)
  have hc := fun {p : Bool} (h : cmpPV .LtE (.int (col w 0 row)) (.int a) = some p) => e_cmp (T := tt bs 10) (ρ := [some (I row), some (.int a), some (.int b), some (.int w), none, none, none, none, none]) (e_call (e2 (e_loc (i := 0) rfl) (e_loc (i := 3) rfl)) (e_tc (R2 hw (le_up hl (by decide))) (by decide))) (e_loc (i := 1) rfl) h
  by_cases h : col w 0 row ≤ a
  · exact Go.iff (hc (le_t h)) (Go.ret (e_loc rfl) (ite_I _ h).symm)
  · have h1 := By8.le (cutA_len hw (k := b) row) hl (by decide : _ ≤ 3200)
    exact Go.iff (hc (le_f h)) (Go.nil (Go.unp (e_call (e4 (e_loc rfl) (e_loc rfl) (e_loc rfl) (e_loc rfl)) (e_tc (R7 hw (le_up hl (by decide))) (by decide))) rfl rfl
      (Go.ret (e_add (e_loc rfl) (e_loc rfl) (add_s (By8.le (cutA_len hw _) h1 (by decide)) (By8.le (cutB_len hw _) hl (by decide)))) (ite_I' _ h).symm)))

noncomputable def clr (w a b : Int) (row : List Int) : List Int := cutA w a (cutA w b row) ++ if cutB w b row = [] then [] else List.replicate (b - a).toNat 32 ++ cutB w b row
theorem R11 {w a b : Int} {row : List Int} (hw : WOk w) (hl : row.length ≤ 400) (ha : C1000 a) (hb : C1000 b) : R 11 [I row, .int a, .int b, .int w] = some (I (if col w 0 row ≤ a then row else clr w a b row)) := by
  refine (show R 11 [I row, .int a, .int b, .int w] = fin (exSs (tt bs 11) 100 b11.body [some (I row), some (.int a), some (.int b), some (.int w), none, none, none, none, none, none, none] none) from rfl).trans (Go.fin ?_)
  have hc := fun {p : Bool} (h : cmpPV .LtE (.int (col w 0 row)) (.int a) = some p) => e_cmp (T := tt bs 11) (ρ := [some (I row), some (.int a), some (.int b), some (.int w), none, none, none, none, none, none, none]) (e_call (e2 (e_loc (i := 0) rfl) (e_loc (i := 3) rfl)) (e_tc (R2 hw (le_up hl (by decide))) (by decide))) (e_loc (i := 1) rfl) h
  by_cases h : col w 0 row ≤ a
  · exact Go.iff (hc (le_t h)) (Go.ret (e_loc rfl) (ite_I _ h).symm)
  · have h1 := By8.le (cutA_len hw (k := b) row) hl (by decide : _ ≤ 3200)
    have h3 := By8.le (cutA_len hw (k := a) (cutA w b row)) h1 (by decide : _ ≤ 30000)
    have h2 := By8.le (cutB_len hw (k := b) row) hl (by decide : _ ≤ 3200)
    refine Go.iff (hc (le_f h)) (Go.nil (Go.unp (e_call (e4 (e_loc rfl) (e_loc rfl) (e_loc rfl) (e_loc rfl)) (e_tc (R7 hw (le_up hl (by decide))) (by decide))) rfl rfl (Go.ret (x := I (clr w a b row)) ?_ (ite_I' _ h).symm)))
    by_cases he : cutB w b row = []
    · refine e_add (y := I []) (e_loc rfl) (e_ite (p := false) (e_cmp (e_len (e_loc rfl) len_l) e_int ?_) (e_lst e_nil mk_nil)) ((add_s (le_up h3 (by decide)) (Nat.zero_le _)).trans ?_)
      · rw [he]; rfl
      · rw [clr, if_pos he]
    · refine e_add (e_loc rfl) (e_ite (e_cmp (e_len (e_loc rfl) len_l) e_int (gt_t ?_)) (e_add (e_rep e_blank (e_sub (e_loc rfl) (e_loc rfl) sub_ii) (rep_c ha hb)) (e_loc rfl) (add_s (le_up (rep_c_len ha hb) (by decide)) (le_up h2 (by decide)))))
        ((add_s (le_up h3 (by decide)) (le_up (app_le (rep_c_len ha hb) h2) (by decide))).trans ?_)
      · exact Int.natCast_pos.mpr (List.length_pos_iff.mpr he)
      · rw [clr, if_neg he]

theorem R12 {w a b : Int} {row : List Int} (hw : WOk w) (hl : row.length ≤ 400) (ha : C1000 a) (hb : C1000 b) : R 12 [I row, .int a, .int b, .int w] = some (I (if col w 0 row ≤ a then row else cutA w a row ++ List.replicate (b - a).toNat 32 ++ cutB w a row)) := by
  refine (show R 12 [I row, .int a, .int b, .int w] = fin (exSs (tt bs 12) 100 b12.body [some (I row), some (.int a), some (.int b), some (.int w), none, none, none, none, none] none) from rfl).trans (Go.fin ?_)
  have hc := fun {p : Bool} (h : cmpPV .LtE (.int (col w 0 row)) (.int a) = some p) => e_cmp (T := tt bs 12) (ρ := [some (I row), some (.int a), some (.int b), some (.int w), none, none, none, none, none]) (e_call (e2 (e_loc (i := 0) rfl) (e_loc (i := 3) rfl)) (e_tc (R2 hw (le_up hl (by decide))) (by decide))) (e_loc (i := 1) rfl) h
  by_cases h : col w 0 row ≤ a
  · exact Go.iff (hc (le_t h)) (Go.ret (e_loc rfl) (ite_I _ h).symm)
  · have h1 := By8.le (cutA_len hw (k := a) row) hl (by decide : _ ≤ 3200)
    have h2 := By8.le (cutB_len hw (k := a) row) hl (by decide : _ ≤ 3200)
    exact Go.iff (hc (le_f h)) (Go.nil (Go.unp (e_call (e3 (e_loc rfl) (e_loc rfl) (e_loc rfl)) (e_tc (R6 hw (le_up hl (by decide))) (by decide))) rfl rfl
      (Go.ret (e_add (e_add (e_loc rfl) (e_rep e_blank (e_sub (e_loc rfl) (e_loc rfl) sub_ii) (rep_c ha hb)) (add_s (le_up h1 (by decide)) (le_up (rep_c_len ha hb) (by decide)))) (e_loc rfl) (add_s (le_up (app_le h1 (rep_c_len ha hb)) (by decide)) (le_up h2 (by decide)))) (ite_I' _ h).symm)))

theorem R13 {w a b : Int} {row codes : List Int} (hw : WOk w) (hl : row.length ≤ 100) (hc : codes.length ≤ 1000) (ha : C1000 a) : R 13 [I row, .int a, .int b, I codes, .int w] = some (I (cutA w a (cutA w b (pad w a row)) ++ codes ++ cutB w b (pad w a row))) :=
  have h0 := pad_len hw ha hl
  have h1 := By8.le (cutA_len hw (k := b) (pad w a row)) h0 (by decide : _ ≤ 8800)
  have h3 := By8.le (cutA_len hw (k := a) (cutA w b (pad w a row))) h1 (by decide : _ ≤ 100000)
  have h2 := By8.le (cutB_len hw (k := b) (pad w a row)) h0 (by decide : _ ≤ 8800)
  (show R 13 [I row, .int a, .int b, I codes, .int w] = fin (exSs (tt bs 13) 100 b13.body [some (I row), some (.int a), some (.int b), some (I codes), some (.int w), none, none, none, none, none] none) from rfl).trans
    (Go.fin (Go.unp (e_call (e4 (e_call (e3 (e_loc rfl) (e_loc rfl) (e_loc rfl)) (e_tc (R5 hw (le_up hl (by decide)) ha) (by decide))) (e_loc rfl) (e_loc rfl) (e_loc rfl)) (e_tc (R7 hw (le_up h0 (by decide))) (by decide))) rfl rfl
      (Go.ret (e_add (e_add (e_loc rfl) (e_loc rfl) (add_s (le_up h3 (by decide)) (le_up hc (by decide)))) (e_loc rfl) (add_s (le_up (app_le h3 hc) (by decide)) (le_up h2 (by decide)))) rfl)))

theorem R14 {w a : Int} {row codes : List Int} (hw : WOk w) (hl : row.length ≤ 100) (hc : codes.length ≤ 1000) (ha : C1000 a) : R 14 [I row, .int a, I codes, .int w] = some (I (cutA w a (pad w a row) ++ codes ++ cutB w a (pad w a row))) :=
  have h0 := pad_len hw ha hl
  have h1 := By8.le (cutA_len hw (k := a) (pad w a row)) h0 (by decide : _ ≤ 8800)
  have h2 := By8.le (cutB_len hw (k := a) (pad w a row)) h0 (by decide : _ ≤ 8800)
  (show R 14 [I row, .int a, I codes, .int w] = fin (exSs (tt bs 14) 100 b14.body [some (I row), some (.int a), some (I codes), some (.int w), none, none, none, none] none) from rfl).trans
    (Go.fin (Go.unp (e_call (e3 (e_call (e3 (e_loc rfl) (e_loc rfl) (e_loc rfl)) (e_tc (R5 hw (le_up hl (by decide)) ha) (by decide))) (e_loc rfl) (e_loc rfl)) (e_tc (R6 hw (le_up h0 (by decide))) (by decide))) rfl rfl
      (Go.ret (e_add (e_add (e_loc rfl) (e_loc rfl) (add_s (le_up h1 (by decide)) (le_up hc (by decide)))) (e_loc rfl) (add_s (le_up (app_le h1 hc) (by decide)) (le_up h2 (by decide)))) rfl)))

/-- how many blanks and tabs lead -/
noncomputable def lead : List Int → Nat
  | [] => 0
  | x :: r => if x = 32 ∨ x = 9 then 1 + lead r else 0
theorem lead_go {l : List Int} {i n : Nat} {x : Int} (hx : l[i]? = some x) (h : x = 32 ∨ x = 9) (hs : i + lead (l.drop i) = n) : (i + 1) + lead (l.drop (i + 1)) = n := by
  rw [← hs, List.drop_eq_getElem?_toList_append (i := i), hx, Nat.add_assoc]
  show _ = i + lead (x :: _)
  rw [lead, if_pos h]; rfl
theorem lead_stop {l : List Int} {i n : Nat} {x : Int} (hx : l[i]? = some x) (h : ¬ (x = 32 ∨ x = 9)) (hs : i + lead (l.drop i) = n) : i = n := by
  rw [← hs, List.drop_eq_getElem?_toList_append, hx]
  show _ = i + lead (x :: _)
  rw [lead, if_neg h, Nat.add_zero]
theorem lead_end {l : List Int} {i n : Nat} (h : l[i]? = none) (hs : i + lead (l.drop i) = n) : i = n := by
  rw [List.drop_eq_nil_of_le (List.getElem?_eq_none_iff.mp h)] at hs
  exact hs

theorem R15 {w a : Int} {row : List Int} (hw : WOk w) (hl : row.length ≤ 10) : R 15 [I row, .int a, .int w] = some (I (if col w 0 row ≤ a then row else cutA w a row ++ (cutB w a row).drop (lead (cutB w a row)))) := by
  refine (show R 15 [I row, .int a, .int w] = fin (exSs (tt bs 15) 100 b15.body [some (I row), some (.int a), some (.int w), none, none, none, none, none, none, none, none] none) from rfl).trans (Go.fin ?_)
  have hc := fun {p : Bool} (h : cmpPV .LtE (.int (col w 0 row)) (.int a) = some p) => e_cmp (T := tt bs 15) (ρ := [some (I row), some (.int a), some (.int w), none, none, none, none, none, none, none, none]) (e_call (e2 (e_loc (i := 0) rfl) (e_loc (i := 2) rfl)) (e_tc (R2 hw (le_up hl (by decide))) (by decide))) (e_loc (i := 1) rfl) h
  by_cases h : col w 0 row ≤ a
  · exact Go.iff (hc (le_t h)) (Go.ret (e_loc rfl) (ite_I _ h).symm)
  · have h1 := By8.le (cutA_len hw (k := a) row) hl (by decide : _ ≤ 80)
    have h2 := By8.le (cutB_len hw (k := a) row) hl (by decide : _ ≤ 80)
    refine Go.iff (hc (le_f h)) (Go.nil (Go.unp (e_call (e3 (e_loc rfl) (e_loc rfl) (e_loc rfl)) (e_tc (R6 hw (le_up hl (by decide))) (by decide))) rfl rfl (Go.asg e_int rfl ?_)))
    rw [ite_I' _ h]
    generalize cutA w a row = A at h1
    generalize cutB w a row = B at h2
    refine Go.whl (fun n ρ o => o = none ∧ ∃ i : Nat, i + n = B.length ∧ ρ = [some (I row), some (.int a), some (.int w), some (I A), some (I B), some (.int i), none, none, none, none, none] ∧ i + lead (B.drop i) = lead B) B.length (by omega) ⟨rfl, 0, Nat.zero_add _, rfl, Nat.zero_add _⟩ ?_
    rintro n ρ o ⟨rfl, i, hi, rfl, hs⟩
    have stop : i = lead B → Go (tt bs 15) [.ret (.add (.loc 3) (.from_ (.loc 4) (.loc 5)))] [some (I row), some (.int a), some (.int w), some (I A), some (I B), some (.int i), none, none, none, none, none] none (Gives (I (A ++ B.drop (lead B)))) := fun e =>
      Go.ret (e_add (e_loc rfl) (e_from (e_loc rfl) (e_loc rfl) (from_l (Int.natCast_nonneg i))) (add_s (le_up h1 (by decide)) (le_up (Nat.le_trans (drop_le _ _) h2) (by decide)))) (by rw [Int.toNat_natCast, e])
    cases hx : B[i]? with
    | some x =>
      have hlt : (i : Int) < B.length := Int.ofNat_lt.mpr (List.getElem?_eq_some_iff.mp hx).1
      have ei := idx_i (Int.natCast_nonneg i) (show B[(i : Int).toNat]? = some x from hx)
      by_cases h9 : x = 32 ∨ x = 9
      · refine ⟨true, e_bop (b_go (e_cmp (e_loc rfl) (e_len (e_loc rfl) len_l) (lt_t hlt)) (b_go (e_bop (q := true) ?_) b_nil)), Go.asg (e_add (e_loc rfl) e_int add_ii) rfl (Go.nil ⟨n - 1, ?_, rfl, i + 1, ?_, rfl, lead_go hx h9 hs⟩)⟩
        · by_cases h32 : x = 32
          · exact b_stop (e_cmp (e_idx (e_loc rfl) (e_loc rfl) ei) e_blank (eq_t h32)) (by decide)
          · exact b_go (e_cmp (e_idx (e_loc rfl) (e_loc rfl) ei) e_blank (eq_f h32)) (b_stop (e_cmp (e_idx (e_loc rfl) (e_loc rfl) ei) e_tab (eq_t (h9.resolve_left h32))) (by decide))
        · omega
        · omega
      · exact ⟨false, e_bop (b_go (e_cmp (e_loc rfl) (e_len (e_loc rfl) len_l) (lt_t hlt)) (b_stop (e_bop (q := false) (b_go (e_cmp (e_idx (e_loc rfl) (e_loc rfl) ei) e_blank (eq_f fun q => h9 (.inl q))) (b_go (e_cmp (e_idx (e_loc rfl) (e_loc rfl) ei) e_tab (eq_f fun q => h9 (.inr q))) b_nil))) (by decide))), stop (lead_stop hx h9 hs)⟩
    | none =>
      have hge : ¬ (i : Int) < B.length := fun q => Nat.not_lt.mpr (List.getElem?_eq_none_iff.mp hx) (Int.ofNat_lt.mp q)
      exact ⟨false, e_bop (b_stop (e_cmp (e_loc rfl) (e_len (e_loc rfl) len_l) (lt_f hge)) (by decide)), stop (lead_end hx hs)⟩
end Mine
end

section
open PySem PyProof.Rows
namespace Mine

noncomputable def cells (w : Int) : Int → List Int → List PV
  | _, [] => []
  | c, x :: r => .tup [.int x, .int c, .int (nx w c x)] :: cells w (nx w c x) r
theorem cells_len {w : Int} : ∀ (row : List Int) (c : Int), (cells w c row).length = row.length
  | [], c => rfl
  | x :: r, c => by simp [cells, cells_len r]

theorem nx_law {w c y : Int} {r0 r2 r5 : Option PV} (hw : WOk w) : ev (tt bs 17) (.ite (.cmp .NotEq (.loc 4) (.int 9)) (.add (.loc 3) (.int 1)) (.sub (.add (.loc 3) (.loc 1)) (.mod (.loc 3) (.loc 1)))) [r0, some (.int w), r2, some (.int c), some (.int y), r5] = some (.int (nx w c y)) := by
  by_cases hy : y = 9
  · refine e_ite (e_cmp (e_loc rfl) e_int (ne_f hy)) (e_sub (e_add (e_loc rfl) (e_loc rfl) add_ii) (e_mod (e_loc rfl) (e_loc rfl) (mod_ii (by omega))) (sub_ii.trans ?_))
    rw [nx, if_pos hy, div_add_mul (by omega), Int.add_sub_assoc]
  · refine e_ite (e_cmp (e_loc rfl) e_int (ne_t hy)) (e_add (e_loc rfl) e_int (add_ii.trans ?_))
    rw [nx, if_neg hy]
theorem R17 {w : Int} {row : List Int} (hw : WOk w) (hl : row.length ≤ 100000) : R 17 [I row, .int w] = some (.list (cells w 0 row)) := by
  refine (show R 17 [I row, .int w] = fin (exSs (tt bs 17) 100 b17.body [some (I row), some (.int w), none, some (.int 0), none, none] (some (2, []))) from rfl).trans (Go.fin ?_)
  refine Go.forL (fun r ρ o => ∃ (l : List Int) (out : List PV) (c : Int) (v u : Option PV), r = l.map .int ∧ o = some (2, out) ∧ ρ = [some (I row), some (.int w), none, some (.int c), v, u] ∧
    out.length + l.length ≤ 100000 ∧ out ++ cells w c l = cells w 0 row) (xs := row.map .int) (e_loc rfl) ⟨row, [], 0, none, none, rfl, rfl, rfl, by rw [List.length_nil, Nat.zero_add]; exact hl, rfl⟩ ?_ ?_
  · rintro x r ρ o ⟨l, out, c, v, u, hr, rfl, rfl, h2, h3⟩
    obtain ⟨y, l, rfl, rfl, rfl⟩ := map_cons_inv hr
    rw [List.length_cons] at h2
    refine ⟨rfl, _, rfl, Go.asg (nx_law (c := c) (y := y) hw) rfl (Go.app (e_tup (e3 (e_loc rfl) (e_loc rfl) (e_loc rfl))) (le_up (Nat.le_trans (Nat.add_le_add_left (Nat.le_add_left 1 l.length) _) h2) (by decide)) (Go.asg (e_loc rfl) rfl (Go.nil ⟨l, out ++ [.tup [.int y, .int c, .int (nx w c y)]], nx w c y, _, _, rfl, rfl, rfl, ?_, ?_⟩)))⟩
    · rw [List.length_append, Nat.add_assoc, Nat.add_comm _ l.length]; exact h2
    · rw [List.append_assoc]; exact h3
  · rintro ρ o ⟨l, out, c, v, u, hr, rfl, rfl, h2, h3⟩
    obtain rfl := map_nil_inv hr
    rw [cells, List.append_nil] at h3
    exact Go.retO (congrArg _ h3)
theorem cells_cons_inv {w c : Int} {x : PV} {r : List PV} {l : List Int} (h : x :: r = cells w c l) : ∃ y l', l = y :: l' ∧ x = .tup [.int y, .int c, .int (nx w c y)] ∧ r = cells w (nx w c y) l' := by
  cases l with
  | nil => cases h
  | cons y l' => cases h; exact ⟨y, l', rfl, rfl, rfl⟩
theorem cells_nil_inv {w c : Int} {l : List Int} (h : [] = cells w c l) : l = [] := by
  cases l with
  | nil => rfl
  | cons y l' => cases h

theorem R18 {w k : Int} {row : List Int} (hw : WOk w) (hl : row.length ≤ 30000) : R 18 [I row, .int k, .int w] = some (I (brk w k 0 row)) := by
  refine (show R 18 [I row, .int k, .int w] = fin (exSs (tt bs 18) 100 b18.body [some (I row), some (.int k), some (.int w), none, none, none, none, none] none) from rfl).trans (Go.fin ?_)
  refine Go.asg (e_lst e_nil mk_nil) rfl (Go.forL (fun r ρ o => ∃ (l out : List Int) (c : Int) (v u z : Option PV), r = cells w c l ∧ o = none ∧ ρ = [some (I row), some (.int k), some (.int w), some (I out), v, u, z, none] ∧
    Room8 out.length l.length ∧ out ++ brk w k c l = brk w k 0 row) (xs := cells w 0 row) (e_call (e2 (e_loc rfl) (e_loc rfl)) (e_tc (R17 hw (le_up hl (by decide))) (by decide))) ⟨row, [], 0, none, none, none, rfl, rfl, rfl, ⟨by show 0 + 8 * row.length ≤ _; omega⟩, rfl⟩ ?_ ?_)
  · rintro x r ρ o ⟨l, out, c, v, u, z, hr, rfl, rfl, h2, h3⟩
    obtain ⟨y, l, rfl, rfl, rfl⟩ := cells_cons_inv hr
    rw [brk] at h3
    have hlen : (if c < k ∧ k < nx w c y then List.replicate (nx w c y - c).toNat (32 : Int) else [y]).length ≤ 8 := by
      split
      · exact rep_nx_len hw
      · exact (by decide : 1 ≤ 8)
    refine ⟨rfl, _, rfl, Go.asg (x := I (out ++ if c < k ∧ k < nx w c y then List.replicate (nx w c y - c).toNat 32 else [y])) (e_add (y := I (if c < k ∧ k < nx w c y then List.replicate (nx w c y - c).toNat 32 else [y])) (e_loc rfl) ?_ (add_s h2.lo (le_up hlen (by decide)))) rfl (Go.nil ⟨l, _, nx w c y, _, _, _, rfl, rfl, rfl, ?_, ?_⟩)⟩
    · by_cases ha : c < k
      · by_cases hb : k < nx w c y
        · rw [ite_I _ (⟨ha, hb⟩ : c < k ∧ k < nx w c y)]
          exact e_ite (e_cmp2t (e_loc rfl) (e_loc rfl) (lt_t ha) (e_loc rfl) (lt_t hb)) (e_rep e_int (e_sub (e_loc rfl) (e_loc rfl) sub_ii) (rep_nx hw))
        · rw [ite_I' _ (fun q : c < k ∧ k < nx w c y => hb q.2)]
          exact e_ite (e_cmp2t (e_loc rfl) (e_loc rfl) (lt_t ha) (e_loc rfl) (lt_f hb)) (e_lst (e_cons (e_loc rfl) e_nil) mk_one)
      · rw [ite_I' _ (fun q : c < k ∧ k < nx w c y => ha q.1)]
        exact e_ite (e_cmp2f (e_loc rfl) (e_loc rfl) (lt_f ha)) (e_lst (e_cons (e_loc rfl) e_nil) mk_one)
    · rw [List.length_append]; exact h2.next hlen
    · rw [List.append_assoc]; exact h3
  · rintro ρ o ⟨l, out, c, v, u, z, hr, rfl, rfl, h2, h3⟩
    obtain rfl := cells_nil_inv hr
    rw [brk, List.append_nil] at h3
    exact Go.ret (e_loc rfl) (congrArg I h3)

noncomputable def ends (w : Int) : Int → List Int → List Int
  | _, [] => []
  | c, x :: r => nx w c x :: ends w (nx w c x) r
theorem ends_len {w : Int} : ∀ (row : List Int) (c : Int), (ends w c row).length = row.length
  | [], c => rfl
  | x :: r, c => by simp [ends, ends_len r]
theorem ends_last {w : Int} : ∀ (row : List Int) (c : Int), (c :: ends w c row).getLast? = some (col w c row)
  | [], c => rfl
  | x :: r, c => by
    rw [ends, List.getLast?_cons_cons, ends_last r, col]

theorem compL_ext {f g : PV → Option (Option PV)} : ∀ {xs : List PV}, (∀ x ∈ xs, f x = g x) → compL f xs = compL g xs
  | [], _ => rfl
  | x :: r, h => by
    simp only [compL]
    rw [h x (.head _), compL_ext fun y hy => h y (.tail _ hy)]
theorem cells_mem {w : Int} {x : PV} : ∀ {l : List Int} {c : Int}, x ∈ cells w c l → ∃ a b d, x = .tup [.int a, .int b, .int d]
  | [], _, h => nomatch h
  | y :: r, c, h => by
    rcases List.mem_cons.mp h with e | e
    · exact ⟨_, _, _, e⟩
    · exact cells_mem e

theorem laid4 (ρ : Rho) : laid 4 [] ρ = [none, none, none, none] := by simp [laid, List.range, List.range.loop]
theorem laid3 (a b c d e f : Option PV) : laid 3 [(2, 1)] [a, b, c, d, e, f] = [none, none, b] := by simp [laid, List.range, List.range.loop, List.lookup]
noncomputable def endF (x : PV) : Option (Option PV) :=
  match x with
  | .tup [_, _, y] => some (some y)
  | _ => none
theorem end_ok {w : Int} : ∀ (l : List Int) (c : Int), compL endF (cells w c l) = some ((ends w c l).map .int)
  | [], c => rfl
  | x :: r, c => by
    simp only [cells, compL, endF, end_ok r, Option.bind_eq_bind, Option.bind_some, ends, List.map_cons]

theorem last_i {a : List Int} {x : Int} (h : a.getLast? = some x) : idxPV (I a) (.int (-1)) = some (.int x) := by
  show (if (0 : Int) ≤ -1 then itemI (a.map PV.int)[(-1 : Int).toNat]? else if (-1 : Int) = -1 then itemI (a.map PV.int).getLast? else none) = _
  rw [if_neg (by decide), if_pos rfl, List.getLast?_map, h]; rfl
theorem e_comp {T : Nat → List PV → Option PV} {ρ : Rho} {n : Nat} {free : List (Nat × Nat)} {t : Option Nat} {ts : List Nat} {elt iter : E} {cond : Option E} {xs ys : List PV} {g : PV → Option (Option PV)} (hi : ev T iter ρ = some (.list xs))
    (hx : ∀ x ∈ xs, (do let σ ← bindT (laid n free ρ) t ts x; let p ← evO T cond σ; if p then do let y ← ev T elt σ; some (some y) else some none) = g x) (hs : compL g xs = some ys) : ev T (.comp n free t ts elt iter cond) ρ = some (.list ys) :=
  e_one _ hi (o_one (a := some xs) _ rfl (o_one _ ((compL_ext hx).trans hs) rfl))

theorem R19 {w : Int} {row : List Int} (hw : WOk w) (hl : row.length ≤ 100000) : R 19 [I row, .int w] = some (.int (col w 0 row)) := by
  refine (show R 19 [I row, .int w] = fin (exSs (tt bs 19) 100 b19.body [some (I row), some (.int w), none] none) from rfl).trans (Go.fin (Go.ret (x := .int (col w 0 row)) ?_ rfl))
  have hcomp : ev (tt bs 19) (.comp 4 [] none [1, 2, 3] (.loc 3) (.call 17 [.loc 0, .loc 1]) none) [some (I row), some (.int w), none] = some (I (ends w 0 row)) := by
    have hcall : ev (tt bs 19) (.call 17 [.loc 0, .loc 1]) [some (I row), some (.int w), none] = some (.list (cells w 0 row)) := e_call (e2 (e_loc rfl) (e_loc rfl)) (e_tc (R17 hw hl) (by decide))
    exact e_comp (g := endF) hcall (fun x hx => by
      obtain ⟨a, b, d, rfl⟩ := cells_mem hx
      rw [laid4]
      rfl) (end_ok row 0)
  exact e_idx (e_add (e_lst (e_cons e_int e_nil) mk_one) hcomp (add_s (show 1 ≤ 300000 by decide) (by rw [ends_len]; exact le_up hl (by decide)))) rfl (last_i (ends_last row 0))

noncomputable def okc (w k : Int) : Int → List Int → Prop
  | _, [] => True
  | c, x :: r => ¬ (c < k ∧ k < nx w c x) ∧ okc w k (nx w c x) r
theorem okc_blanks {w k : Int} {l : List Int} : ∀ (n : Nat) (c : Int), okc w k (c + n) l → okc w k c (List.replicate n 32 ++ l)
  | 0, c, h => by simpa using h
  | n + 1, c, h => by
    rw [List.replicate_succ, List.cons_append, okc]
    have e : nx w c 32 = c + 1 := rfl
    rw [e]
    refine ⟨by omega, okc_blanks n _ ?_⟩
    rw [show c + 1 + (n : Int) = c + ((n + 1 : Nat) : Int) from by omega]
    exact h
theorem okc_brk {w k : Int} (hw : WOk w) : ∀ (row : List Int) (c : Int), okc w k c (brk w k c row)
  | [], c => trivial
  | x :: r, c => by
    have n1 := nx_lt (c := c) (x := x) hw
    rw [brk]
    split
    · refine okc_blanks _ _ ?_
      rw [show c + ((nx w c x - c).toNat : Int) = nx w c x from by omega]
      exact okc_brk hw r _
    · rename_i h
      exact ⟨h, okc_brk hw r _⟩

noncomputable def cutF (k : Int) (op : CmpOp) (x : PV) : Option (Option PV) :=
  match x with
  | .tup [x, _, e] => (cmpPV op e (.int k)).map fun p => if p then some x else none
  | _ => none
theorem cutF_t {k x c e : Int} {op : CmpOp} (h : cmpPV op (.int e) (.int k) = some true) {xs ys : List PV} (hs : compL (cutF k op) xs = some ys) : compL (cutF k op) (.tup [.int x, .int c, .int e] :: xs) = some (.int x :: ys) := by
  simp only [compL, cutF, h, hs, Option.map_some, Option.bind_eq_bind, Option.bind_some, if_true]
theorem cutF_f {k x c e : Int} {op : CmpOp} (h : cmpPV op (.int e) (.int k) = some false) {xs ys : List PV} (hs : compL (cutF k op) xs = some ys) : compL (cutF k op) (.tup [.int x, .int c, .int e] :: xs) = some ys := by
  simp only [compL, cutF, h, hs, Option.map_some, Option.bind_eq_bind, Option.bind_some, Bool.false_eq_true, if_false]
theorem gt_f {a b : Int} (h : ¬ a > b) : cmpPV .Gt (.int a) (.int b) = some false := congrArg some (decide_eq_false h)
theorem cut_ge {w k : Int} (hw : WOk w) : ∀ (l : List Int) (c : Int), k ≤ c → compL (cutF k .LtE) (cells w c l) = some [] ∧ compL (cutF k .Gt) (cells w c l) = some (l.map .int)
  | [], c, h => ⟨rfl, rfl⟩
  | x :: r, c, h => by
    have h3 : k < nx w c x := Int.lt_of_le_of_lt h (nx_lt hw)
    obtain ⟨h1, h2⟩ := cut_ge hw r (nx w c x) (Int.le_of_lt h3)
    exact ⟨cutF_f (le_f (Int.not_le.mpr h3)) h1, cutF_t (gt_t h3) h2⟩
theorem cut_ok {w k : Int} (hw : WOk w) : ∀ (l : List Int) (c : Int), okc w k c l → compL (cutF k .LtE) (cells w c l) = some ((l.take (pl w k c l)).map .int) ∧ compL (cutF k .Gt) (cells w c l) = some ((l.drop (pl w k c l)).map .int)
  | [], c, h => ⟨rfl, rfl⟩
  | x :: r, c, h => by
    by_cases hc : c ≥ k
    · rw [pl_stop hc]
      exact cut_ge hw (x :: r) c hc
    · obtain ⟨h1, h2⟩ := cut_ok hw r _ h.2
      have h3 : nx w c x ≤ k := Int.not_lt.mp fun q => h.1 ⟨Int.not_le.mp hc, q⟩
      rw [pl_go hc, Nat.add_comm]
      exact ⟨cutF_t (le_t h3) h1, cutF_f (gt_f (Int.not_lt.mpr h3)) h2⟩

theorem cut_comp {k : Int} {op : CmpOp} {cs ys : List PV} {a c d e : Option PV} (hc : ∀ x ∈ cs, ∃ a b d : Int, x = .tup [.int a, .int b, .int d]) (hs : compL (cutF k op) cs = some ys) :
    ev (tt bs 20) (.comp 3 [(2, 1)] (some 1) [] (.idx (.loc 1) (.int 0)) (.loc 3) (some (.cmp op (.idx (.loc 1) (.int 2)) (.loc 2)))) [a, some (.int k), c, some (.list cs), d, e] = some (.list ys) := e_comp (g := cutF k op) (e_loc rfl) (fun x hx => by
    obtain ⟨a, b, d, rfl⟩ := hc x hx
    rw [laid3]
    show (((cmpPV op (.int d) (.int k)).map PV.bool).bind pBool).bind (fun p => if p = true then some (some (PV.int a)) else some none) = (cmpPV op (.int d) (.int k)).map (fun p => if p then some (PV.int a) else none)
    cases cmpPV op (.int d) (.int k) with
    | none => rfl
    | some p => cases p <;> rfl) hs
theorem R20 {w k : Int} {row : List Int} (hw : WOk w) (hl : row.length ≤ 10000) : R 20 [I row, .int k, .int w] = some (.tup [I (cutA w k row), I (cutB w k row)]) := by
  obtain ⟨g1, g2⟩ := cut_ok hw (brk w k 0 row) 0 (okc_brk hw row 0)
  exact (show R 20 [I row, .int k, .int w] = fin (exSs (tt bs 20) 100 b20.body [some (I row), some (.int k), some (.int w), none, none, none] none) from rfl).trans
    (Go.fin (Go.asg (e_call (e2 (e_call (e3 (e_loc rfl) (e_loc rfl) (e_loc rfl)) (e_tc (R18 hw (le_up hl (by decide))) (by decide))) (e_loc rfl)) (e_tc (R17 hw (By8.le (brk_len hw row 0) hl (by decide))) (by decide))) rfl
      (Go.ret (e_tup (e2 (cut_comp (fun x hx => cells_mem hx) g1) (cut_comp (fun x hx => cells_mem hx) g2))) rfl)))

theorem R21 {w a b : Int} {row : List Int} (hw : WOk w) (hl : row.length ≤ 1250) : R 21 [I row, .int a, .int b, .int w] = some (.tup [I (cutA w a (cutA w b row)), I (cutB w a (cutA w b row)), I (cutB w b row)]) :=
  (show R 21 [I row, .int a, .int b, .int w] = fin (exSs (tt bs 21) 100 b21.body [some (I row), some (.int a), some (.int b), some (.int w), none, none, none, none, none] none) from rfl).trans
    (Go.fin (Go.unp (e_call (e3 (e_loc rfl) (e_loc rfl) (e_loc rfl)) (e_tc (R20 hw (le_up hl (by decide))) (by decide))) rfl rfl
      (Go.unp (e_call (e3 (e_loc rfl) (e_loc rfl) (e_loc rfl)) (e_tc (R20 hw ((cutA_len hw row).le hl (by decide))) (by decide))) rfl rfl
        (Go.ret (e_tup (e3 (e_loc rfl) (e_loc rfl) (e_loc rfl))) rfl))))

theorem cells_drop {w : Int} {l : List Int} : ∀ (n : Nat) (c : Int), (cells w c (List.replicate n 32 ++ l)).drop n = cells w (c + n) l
  | 0, c => by simp
  | n + 1, c => by
    rw [List.replicate_succ, List.cons_append, cells, List.drop_succ_cons, cells_drop n]
    have e : nx w c 32 = c + 1 := rfl
    rw [e, show c + 1 + (n : Int) = c + ((n + 1 : Nat) : Int) from by omega]

theorem rep_pad {c : Int} (hc : C1000 c) : repPV (.int 32) (.int c) = some (I (List.replicate c.toNat 32)) := rep_ii (by omega)
theorem rep_pad_len {c : Int} (hc : C1000 c) : (List.replicate c.toNat (32 : Int)).length ≤ 1000 := by rw [List.length_replicate]; omega
theorem from_cells {w c : Int} {row : List Int} (hc : C1000 c) : fromPV (.list (cells w 0 (List.replicate c.toNat 32 ++ row))) (.int c) = some (.list (cells w c row)) := by
  show (if 0 ≤ c then _ else _) = _
  rw [if_pos hc.1, cells_drop, show (0 : Int) + (c.toNat : Int) = c from by rw [Int.zero_add]; exact Int.toNat_of_nonneg hc.1]
theorem R22 {w c : Int} {row : List Int} (hw : WOk w) (hl : row.length ≤ 30000) (hc : C1000 c) : R 22 [I row, .int c, .int w] = some (I (spr w c row)) := by
  refine (show R 22 [I row, .int c, .int w] = fin (exSs (tt bs 22) 100 b22.body [some (I row), some (.int c), some (.int w), none, none, none, none, none] none) from rfl).trans (Go.fin ?_)
  refine Go.asg (e_lst e_nil mk_nil) rfl (Go.forL (fun r ρ o => ∃ (l out : List Int) (c' : Int) (v u z : Option PV), r = cells w c' l ∧ o = none ∧ ρ = [some (I row), some (.int c), some (.int w), some (I out), v, u, z, none] ∧
    Room8 out.length l.length ∧ out ++ spr w c' l = spr w c row) (xs := cells w c row) (e_from (e_call (e2 (e_add (e_rep e_int (e_loc rfl) (rep_pad hc)) (e_loc rfl) (add_s (le_up (rep_pad_len hc) (by decide)) (le_up hl (by decide)))) (e_loc rfl)) (e_tc (R17 hw (le_up (app_le (rep_pad_len hc) hl) (by decide))) (by decide))) (e_loc rfl) (from_cells hc))
      ⟨row, [], c, none, none, none, rfl, rfl, rfl, ⟨by show 0 + 8 * row.length ≤ _; omega⟩, rfl⟩ ?_ ?_)
  · rintro x r ρ o ⟨l, out, c', v, u, z, hr, rfl, rfl, h2, h3⟩
    obtain ⟨y, l, rfl, rfl, rfl⟩ := cells_cons_inv hr
    rw [spr] at h3
    have hlen : (if y = 9 then List.replicate (nx w c' y - c').toNat (32 : Int) else [y]).length ≤ 8 := by
      split
      · exact rep_nx_len hw
      · exact (by decide : 1 ≤ 8)
    refine ⟨rfl, _, rfl, Go.asg (x := I (out ++ if y = 9 then List.replicate (nx w c' y - c').toNat 32 else [y])) (e_add (y := I (if y = 9 then List.replicate (nx w c' y - c').toNat 32 else [y])) (e_loc rfl) ?_ (add_s h2.lo (le_up hlen (by decide)))) rfl (Go.nil ⟨l, _, nx w c' y, _, _, _, rfl, rfl, rfl, ?_, ?_⟩)⟩
    · by_cases ha : y = 9
      · rw [ite_I _ ha]
        exact e_ite (e_cmp (e_loc rfl) e_int (ne_f ha)) (e_rep e_int (e_sub (e_loc rfl) (e_loc rfl) sub_ii) (rep_nx hw))
      · rw [ite_I' _ ha]
        exact e_ite (e_cmp (e_loc rfl) e_int (ne_t ha)) (e_lst (e_cons (e_loc rfl) e_nil) mk_one)
    · rw [List.length_append]; exact h2.next hlen
    · rw [List.append_assoc]; exact h3
  · rintro ρ o ⟨l, out, c', v, u, z, hr, rfl, rfl, h2, h3⟩
    obtain rfl := cells_nil_inv hr
    rw [spr, List.append_nil] at h3
    exact Go.ret (e_loc rfl) (congrArg I h3)

theorem R23 {w k : Int} {row : List Int} (hw : WOk w) (hl : row.length ≤ 10000) (hk : C1000 k) : R 23 [I row, .int k, .int w] = some (I (pad w k row)) :=
  (show R 23 [I row, .int k, .int w] = fin (exSs (tt bs 23) 100 b23.body [some (I row), some (.int k), some (.int w), none, none] none) from rfl).trans
    (Go.fin (Go.ret (e_add (e_loc rfl) (e_rep e_int (e_max e_int (e_sub (e_loc rfl) (e_call (e2 (e_loc rfl) (e_loc rfl)) (e_tc (R19 hw (le_up hl (by decide))) (by decide))) sub_ii) max_ii) (pad_rep hw hl hk)) (add_s (le_up hl (by decide)) (le_up (pad_rep_len hw hk) (by decide)))) rfl))
end Mine
end

section
open PySem PyProof.Rows
namespace Mine

theorem take_ext {a b : Int} (l : List Int) (hab : a ≤ b) : (l ++ List.replicate (b - a).toNat 32).take (if (l.length : Int) > b - a then (l.length : Int) else b - a).toNat = l ++ List.replicate (b - a - l.length).toNat 32 := by
  split
  · rw [show (b - a - (l.length : Int)).toNat = 0 from by omega, Int.toNat_natCast, List.take_left]
    exact (List.append_nil l).symm
  · rw [List.take_append, List.take_of_length_le (by omega), List.take_replicate, Nat.min_eq_left (Nat.sub_le _ _), show (b - a).toNat - l.length = (b - a - (l.length : Int)).toNat from by omega]
theorem max_lo {a b : Int} {n : Nat} (hab : a ≤ b) : 0 ≤ (if (n : Int) > b - a then (n : Int) else b - a) := by split <;> omega

/-- what is asked where a row may be short -/
theorem e_short {T : Nat → List PV → Option PV} {ρ : Rho} {p : Prop} [Decidable p] {e t r : E} {row l : List Int} (he : ev T e ρ = some (I (if p then row else l))) (ht : ev T t ρ = some (.bool (decide p))) (hr : ev T r ρ = some (I row)) {b : E} (hb : ev T b ρ = some (I l)) :
    ev T (.cmp .NotEq e (.ite t r b)) ρ = some (.bool false) := by
  by_cases h : p
  · exact e_cmp he (e_ite ht (by rw [decide_eq_true h]; exact hr)) (nel_f (if_pos h))
  · exact e_cmp he (e_ite ht (by rw [decide_eq_false h]; exact hb)) (nel_f (if_neg h))
theorem cmp_pair {a b c d : List Int} (h1 : a = c) (h2 : b = d) : cmpPV .Eq (.tup [I a, I b]) (.tup [I c, I d]) = some true := by
  show (do let p ← eqInts _ _; let q ← eqInts _ _; some (p && q)) = _
  rw [eqInts_map, eqInts_map, decide_eq_true h1, decide_eq_true h2]; rfl

section
variable {w a b : Int} {row text : List Int} (hw : WOk w) (hl : row.length ≤ 10) (hc : text.length ≤ 1000) (ha : C1000 a) (hb : C1000 b) (hab : a ≤ b)
include hw hl hc ha hb hab

/-- the last part: behind the loop -/
theorem right_end {ρ : Rho} (r0 : (ρ[0]?).join = some (I row)) (r1 : (ρ[1]?).join = some (.int a)) (r2 : (ρ[2]?).join = some (.int b)) (r3 : (ρ[3]?).join = some (I text)) (r4 : (ρ[4]?).join = some (.int w)) (r9 : (ρ[9]?).join = some (.bool (decide (col w 0 row ≤ a))))
    (r11 : (ρ[11]?).join = some (I (cutA w a row))) (r12 : (ρ[12]?).join = some (I (cutB w a row))) (r13 : (ρ[13]?).join = some (.int (lead (cutB w a row)))) (hρ : ∀ x y z, ∃ σ, setAll ρ [14, 15, 16] [x, y, z] = some σ ∧ (σ[0]?).join = some (I row) ∧ (σ[1]?).join = some (.int a) ∧ (σ[2]?).join = some (.int b) ∧ (σ[3]?).join = some (I text) ∧ (σ[4]?).join = some (.int w) ∧ (σ[14]?).join = some x ∧ (σ[16]?).join = some z ∧
      ∀ x z, ∃ τ, setAll σ [14, 16] [x, z] = some τ ∧ (τ[0]?).join = some (I row) ∧ (τ[1]?).join = some (.int a) ∧ (τ[3]?).join = some (I text) ∧ (τ[4]?).join = some (.int w) ∧ (τ[14]?).join = some x ∧ (τ[16]?).join = some z) :
    Go (tt bs 24) [.iff (.cmp .NotEq (.call 15 [(.loc 0), (.loc 1), (.loc 4)]) (.ite (.loc 9) (.loc 0) (.add (.loc 11) (.from_ (.loc 12) (.loc 13))))) [.ret (.bool false)] [], .unp [14, 15, 16] (.call 21 [(.call 23 [(.loc 0), (.loc 1), (.loc 4)]), (.loc 1), (.loc 2), (.loc 4)]), .iff (.cmp .NotEq (.call 13 [(.loc 0), (.loc 1), (.loc 2), (.loc 3), (.loc 4)]) (.add (.add (.loc 14) (.loc 3)) (.loc 16))) [.ret (.bool false)] [],
      .unp [14, 16] (.call 20 [(.call 23 [(.loc 0), (.loc 1), (.loc 4)]), (.loc 1), (.loc 4)]), .ret (.bop true [(.cmp .Eq (.call 14 [(.loc 0), (.loc 1), (.loc 3), (.loc 4)]) (.add (.add (.loc 14) (.loc 3)) (.loc 16))), (.cmp .Eq (.call 6 [(.loc 0), (.loc 1), (.loc 4)]) (.call 20 [(.loc 0), (.loc 1), (.loc 4)]))])] ρ none (Gives (.bool true)) := by
  have g1 := By8.le (cutA_len hw (k := a) row) hl (by decide : _ ≤ 80)
  have g2 := By8.le (cutB_len hw (k := a) row) hl (by decide : _ ≤ 80)
  have g3 := pad_len hw ha hl
  have g4 := By8.le (cutA_len hw (k := b) (pad w a row)) g3 (by decide : _ ≤ 8080)
  have g5 := By8.le (cutB_len hw (k := b) (pad w a row)) g3 (by decide : _ ≤ 8080)
  have g6 := By8.le (cutA_len hw (k := a) (cutA w b (pad w a row))) g4 (by decide : _ ≤ 64640)
  have g7 := By8.le (cutA_len hw (k := a) (pad w a row)) g3 (by decide : _ ≤ 8080)
  have g8 := By8.le (cutB_len hw (k := a) (pad w a row)) g3 (by decide : _ ≤ 8080)
  have hpad : ∀ {σ : Rho}, (σ[0]?).join = some (I row) → (σ[1]?).join = some (.int a) → (σ[4]?).join = some (.int w) → ev (tt bs 24) (.call 23 [(.loc 0), (.loc 1), (.loc 4)]) σ = some (I (pad w a row)) := fun h1 h2 h3 => e_call (e3 (e_loc h1) (e_loc h2) (e_loc h3)) (e_tc (R23 hw (le_up hl (by decide)) ha) (by decide))
  refine Go.iff (e_short (e_call (e3 (e_loc r0) (e_loc r1) (e_loc r4)) (e_tc (R15 hw hl) (by decide))) (e_loc r9) (e_loc r0) (e_add (e_loc r11) (e_from (e_loc r12) (e_loc r13) (from_l (Int.natCast_nonneg _))) (add_s (le_up g1 (by decide)) (le_up (Nat.le_trans (drop_le _ _) g2) (by decide))))) (Go.nil ?_)
  obtain ⟨σ, hσ, s0, s1, s2, s3, s4, s14, s16, hτ⟩ := hρ (I (cutA w a (cutA w b (pad w a row)))) (I (cutB w a (cutA w b (pad w a row)))) (I (cutB w b (pad w a row)))
  refine Go.unp (e_call (e4 (hpad r0 r1 r4) (e_loc r1) (e_loc r2) (e_loc r4)) (e_tc (R21 hw (le_up g3 (by decide))) (by decide))) rfl hσ (Go.iff (e_cmp (e_call (e5 (e_loc s0) (e_loc s1) (e_loc s2) (e_loc s3) (e_loc s4)) (e_tc (R13 hw (le_up hl (by decide)) hc ha) (by decide)))
    (e_add (e_add (e_loc s14) (e_loc s3) (add_s (le_up g6 (by decide)) (le_up hc (by decide)))) (e_loc s16) (add_s (le_up (app_le g6 hc) (by decide)) (le_up g5 (by decide)))) (nel_f rfl)) (Go.nil ?_))
  obtain ⟨τ, hτ', t0, t1, t3, t4, t14, t16⟩ := hτ (I (cutA w a (pad w a row))) (I (cutB w a (pad w a row)))
  exact Go.unp (e_call (e3 (hpad s0 s1 s4) (e_loc s1) (e_loc s4)) (e_tc (R20 hw (le_up g3 (by decide))) (by decide))) rfl hτ' (Go.ret (e_bop (b_go (e_cmp (e_call (e4 (e_loc t0) (e_loc t1) (e_loc t3) (e_loc t4)) (e_tc (R14 hw (le_up hl (by decide)) hc ha) (by decide)))
    (e_add (e_add (e_loc t14) (e_loc t3) (add_s (le_up g7 (by decide)) (le_up hc (by decide)))) (e_loc t16) (add_s (le_up (app_le g7 hc) (by decide)) (le_up g8 (by decide)))) (eql_t rfl))
      (b_go (e_cmp (e_call (e3 (e_loc t0) (e_loc t1) (e_loc t4)) (e_tc (R6 hw (le_up hl (by decide))) (by decide))) (e_call (e3 (e_loc t0) (e_loc t1) (e_loc t4)) (e_tc (R20 hw (le_up hl (by decide))) (by decide))) (cmp_pair rfl rfl)) b_nil))) rfl)

theorem R24 : R 24 [I row, .int a, .int b, I text, .int w] = some (.bool true) := by
  refine (show R 24 [I row, .int a, .int b, I text, .int w] = fin (exSs (tt bs 24) 100 b24.body (some (I row) :: some (.int a) :: some (.int b) :: some (I text) :: some (.int w) :: none :: none :: none :: none :: none :: none :: none :: none :: none :: none :: none :: none :: List.replicate 15 none) none) from rfl).trans (Go.fin ?_)
  generalize List.replicate 15 (none : Option PV) = t
  have h400 : row.length ≤ 400 := le_up hl (by decide)
  have g1 := By8.le (cutA_len hw (k := b) row) hl (by decide : _ ≤ 80)
  have g2 := By8.le (cutB_len hw (k := b) row) hl (by decide : _ ≤ 80)
  have g3 := By8.le (cutA_len hw (k := a) (cutA w b row)) g1 (by decide : _ ≤ 640)
  have g4 := By8.le (cutB_len hw (k := a) (cutA w b row)) g1 (by decide : _ ≤ 640)
  have g5 := By8.le (spr_len hw (cutB w a (cutA w b row)) a) g4 (by decide : _ ≤ 5120)
  have g6 := By8.le (cutA_len hw (k := a) row) hl (by decide : _ ≤ 80)
  have g7 := By8.le (cutB_len hw (k := a) row) hl (by decide : _ ≤ 80)
  have g8 := rep_c_len ha hb
  refine Go.unp (e_call (e4 (e_loc rfl) (e_loc rfl) (e_loc rfl) (e_loc rfl)) (e_tc (R21 hw (le_up hl (by decide))) (by decide))) rfl rfl
    (Go.swp (e_call (e3 (e_loc rfl) (e_loc rfl) (e_loc rfl)) (e_tc (R22 hw (le_up g4 (by decide)) ha) (by decide))) (e_cmp (e_call (e2 (e_loc rfl) (e_loc rfl)) (e_tc (R19 hw (le_up hl (by decide))) (by decide))) (e_loc rfl) le_ii) rfl rfl ?_)
  refine Go.iff (e_cmp (e_call (e4 (e_loc rfl) (e_loc rfl) (e_loc rfl) (e_loc rfl)) (e_tc (R9 hw h400 ha hb) (by decide))) (e_upto (e_add (e_loc rfl) (e_rep e_int (e_sub (e_loc rfl) (e_loc rfl) sub_ii) (rep_c ha hb)) (add_s (le_up g5 (by decide)) (le_up g8 (by decide)))) (e_max (e_sub (e_loc rfl) (e_loc rfl) sub_ii) (e_len (e_loc rfl) len_l) max_ii) (upto_l (max_lo hab))) (nel_f (take_ext _ hab).symm)) (Go.nil ?_)
  refine Go.iff (e_short (e_call (e4 (e_loc rfl) (e_loc rfl) (e_loc rfl) (e_loc rfl)) (e_tc (R10 hw h400) (by decide))) (e_loc rfl) (e_loc rfl) (e_add (e_loc rfl) (e_loc rfl) (add_s (le_up g3 (by decide)) (le_up g2 (by decide))))) (Go.nil ?_)
  refine Go.asg (e_rep e_int (e_sub (e_loc rfl) (e_loc rfl) sub_ii) (rep_c ha hb)) rfl ?_
  refine Go.iff (e_short (e_call (e4 (e_loc rfl) (e_loc rfl) (e_loc rfl) (e_loc rfl)) (e_tc (R11 hw h400 ha hb) (by decide))) (e_loc rfl) (e_loc rfl) (e_add (y := I (if cutB w b row = [] then [] else List.replicate (b - a).toNat 32 ++ cutB w b row)) (e_loc rfl) ?_ (add_s (le_up g3 (by decide)) ?_))) (Go.nil ?_)
  · by_cases he : cutB w b row = []
    · rw [ite_I _ he]
      exact e_ite (e_cmp (y := I []) (e_loc rfl) (e_lst e_nil mk_nil) (nel_f he)) (e_lst e_nil mk_nil)
    · rw [ite_I' _ he]
      exact e_ite (e_cmp (y := I []) (e_loc rfl) (e_lst e_nil mk_nil) (nel_t he)) (e_add (e_loc rfl) (e_loc rfl) (add_s (le_up g8 (by decide)) (le_up g2 (by decide))))
  · split
    · exact Nat.zero_le _
    · exact le_up (app_le g8 g2) (by decide)
  refine Go.unp (e_call (e3 (e_loc rfl) (e_loc rfl) (e_loc rfl)) (e_tc (R20 hw (le_up hl (by decide))) (by decide))) rfl rfl ?_
  refine Go.iff (e_short (e_call (e4 (e_loc rfl) (e_loc rfl) (e_loc rfl) (e_loc rfl)) (e_tc (R12 hw h400 ha hb) (by decide))) (e_loc rfl) (e_loc rfl) (e_add (e_add (e_loc rfl) (e_loc rfl) (add_s (le_up g6 (by decide)) (le_up g8 (by decide)))) (e_loc rfl) (add_s (le_up (app_le g6 g8) (by decide)) (le_up g7 (by decide))))) (Go.nil (Go.asg e_int rfl ?_))
  refine Go.whl (fun n ρ o => o = none ∧ ∃ i : Nat, i + n = (cutB w a row).length ∧ ρ = some (I row) :: some (.int a) :: some (.int b) :: some (I text) :: some (.int w) :: some (I (cutA w a (cutA w b row))) :: some (I (cutB w a (cutA w b row))) :: some (I (cutB w b row)) :: some (I (spr w a (cutB w a (cutA w b row)))) :: some (.bool (decide (col w 0 row ≤ a))) ::
      some (I (List.replicate (b - a).toNat 32)) :: some (I (cutA w a row)) :: some (I (cutB w a row)) :: some (.int i) :: none :: none :: none :: t ∧ i + lead ((cutB w a row).drop i) = lead (cutB w a row)) (cutB w a row).length (Nat.lt_of_le_of_lt g7 (by decide)) ⟨rfl, 0, Nat.zero_add _, rfl, Nat.zero_add _⟩ ?_
  rintro n ρ o ⟨rfl, i, hi, rfl, hs⟩
  cases hx : (cutB w a row)[i]? with
  | some x =>
    have hlt : (i : Int) < (cutB w a row).length := Int.ofNat_lt.mpr (List.getElem?_eq_some_iff.mp hx).1
    have ei := idx_i (Int.natCast_nonneg i) (show (cutB w a row)[(i : Int).toNat]? = some x from hx)
    by_cases h9 : x = 32 ∨ x = 9
    · refine ⟨true, e_bop (b_go (e_cmp (e_loc rfl) (e_len (e_loc rfl) len_l) (lt_t hlt)) (b_go ((e_in (e_idx (e_loc rfl) (e_loc rfl) ei)).trans ?_) b_nil)), Go.asg (e_add (e_loc rfl) e_int add_ii) rfl (Go.nil ⟨n - 1, ?_, rfl, i + 1, ?_, rfl, lead_go hx h9 hs⟩)⟩
      · rcases h9 with rfl | rfl <;> rfl
      · have := (List.getElem?_eq_some_iff.mp hx).1
        omega
      · have := (List.getElem?_eq_some_iff.mp hx).1
        omega
    · refine ⟨false, e_bop (b_go (e_cmp (e_loc rfl) (e_len (e_loc rfl) len_l) (lt_t hlt)) (b_stop ((e_in (e_idx (e_loc rfl) (e_loc rfl) ei)).trans ?_) (by decide))), ?_⟩
      · rw [decide_eq_false fun q => h9 (.inl q), decide_eq_false fun q => h9 (.inr q)]; rfl
      · obtain rfl := lead_stop hx h9 hs
        exact right_end hw hl hc ha hb hab rfl rfl rfl rfl rfl rfl rfl rfl rfl fun x y z => ⟨_, rfl, rfl, rfl, rfl, rfl, rfl, rfl, rfl, fun x z => ⟨_, rfl, rfl, rfl, rfl, rfl, rfl, rfl⟩⟩
  | none =>
    have hge : ¬ (i : Int) < (cutB w a row).length := fun q => Nat.not_lt.mpr (List.getElem?_eq_none_iff.mp hx) (Int.ofNat_lt.mp q)
    refine ⟨false, e_bop (b_stop (e_cmp (e_loc rfl) (e_len (e_loc rfl) len_l) (lt_f hge)) (by decide)), ?_⟩
    obtain rfl := lead_end hx hs
    exact right_end hw hl hc ha hb hab rfl rfl rfl rfl rfl rfl rfl rfl rfl fun x y z => ⟨_, rfl, rfl, rfl, rfl, rfl, rfl, rfl, rfl, fun x z => ⟨_, rfl, rfl, rfl, rfl, rfl, rfl, rfl⟩⟩
end
end Mine
end

section
open PySem PyProof.Rows
namespace Mine

/-- the deck: a list of ints, not too long -/
noncomputable def Deck (dk : Addr) (h : Heap) : Prop := ∃ (vs : Array Value) (m : Nat) (ns : List Int), h.get? dk = some (lstO vs m) ∧ IntsAre vs.toList ns ∧ vs.size ≤ 2 ^ 20
theorem Deck.keep {dk : Addr} {h h' : Heap} (x : Deck dk h) (k : Kept h h') : Deck dk h' := let ⟨vs, m, ns, h1, h2, h3⟩ := x; ⟨vs, m, ns, k _ _ h1, h2, h3⟩
theorem Deck.at {dk : Addr} {h h' : Heap} (x : Deck dk h) (k : ∀ o, h.get? dk = some o → h'.get? dk = some o) : Deck dk h' := let ⟨vs, m, ns, h1, h2, h3⟩ := x; ⟨vs, m, ns, k _ h1, h2, h3⟩

theorem reps_ints {h : Heap} {D : Addr → Prop} : ∀ {vs : List Value} {ns : List Int}, IntsAre vs ns → Reps h D vs (ns.map .int)
  | _, _, .nil => .nil
  | _, _, .cons n t r => .cons (.int n t) (reps_ints r)
theorem ints_len : ∀ {vs : List Value} {ns : List Int}, IntsAre vs ns → vs.length = ns.length
  | _, _, .nil => rfl
  | _, _, .cons n t r => by simp [ints_len r]

noncomputable def drawBody (body : List Stmt) : Bool := on (one body) (mRet (mIf (mCmp .NotEq (mName (· == ("deck" : Str))) noItems) (mBin .Mod (mMeth "pop" (· == ("deck" : Str)) (fun l => xInt l == some 0)) (mName (· == ("many" : Str)))) (fun x => xInt x == some 0)))
noncomputable def drawBodyIs (body : List Stmt) : Prop := ∃ p1 p2 p3 p4 apos kz pz pos p5 p6 k7 p7 p8 p9, body = [.Return (some (.IfExp (.Compare (.Name "deck" p1) [.NotEq] [.List [] p2] p3) (.BinOp (.Call (.Attribute (.Name "deck" p4) "pop" apos) [.Constant (.int 0) kz pz] [] pos) .Mod (.Name "many" p5) p6) (.Constant (.int 0) k7 p7) p8)) p9] ∧
    (apos.endLine == pos.line) = true
theorem drawBody_inv {body : List Stmt} (h : drawBody body = true) : drawBodyIs body := by
  obtain ⟨st, h1, h2⟩ := on_inv h
  obtain ⟨x, p9, e1, h3⟩ := mRet_inv h2
  obtain ⟨a, b, c, p8, e2, h4, h5, h6⟩ := mIf_inv h3
  obtain ⟨l, r, p3, e3, h7, h8⟩ := mCmp_inv h4
  obtain ⟨n1, p1, e4, h9⟩ := mName_inv h7
  obtain ⟨p2, e5⟩ := noItems_inv h8
  obtain ⟨l2, r2, p6, e6, h10, h11⟩ := mBin_inv h5
  obtain ⟨n2, p4, apos, z, pos, e7, h12, h13, h14⟩ := mMeth_inv h10
  obtain ⟨kz, pz, e8⟩ := xInt_inv (beq_inv h14)
  obtain ⟨n3, p5, e9, h15⟩ := mName_inv h11
  obtain ⟨k7, p7, e10⟩ := xInt_inv (beq_inv h6)
  have e11 := beq_inv h9
  have e12 := beq_inv h13
  have e13 := beq_inv h15
  have e14 := one_inv h1
  refine ⟨p1, p2, p3, p4, apos, kz, pz, pos, p5, p6, k7, p7, p8, p9, ?_, h12⟩
  rw [e14, e1, e2, e3, e4, e5, e6, e7, e8, e9, e10, e11, e12, e13]
noncomputable def drawChk (d : FnD) : Bool := fnChk d ["deck", "many"] && parChk d.params ["deck", "many"] && drawBody d.body

section
variable {prog : Program} {w : World} {mg mb : Str → Option Value} {fns : List FnD}

theorem draw_call {f : Nat} {d : FnD} {a dk : Addr} {A : Around} {s : Shared} {n : Int} {t : Tok} {Q Ex : Value → Shared → Prop} (hd : fns[f]? = some d) (hchk : drawChk d = true) (ha : mg d.name = some (.ref a))
    (room : Room A 2) (hbase : Base mg mb fns s.heap) (hdk : Deck dk s.heap) (hn : 0 < n ∧ n < 2 ^ 30)
    (h : ∀ h' tk' k u, KeptOff (IsL dk) s.heap h' → Deck dk h' → 0 ≤ k → k < n → Q (.int k u) { s with heap := h', toks := tk' }) :
    wpAny (model prog w) A (call (.ref a) [.ref dk, .int n t]) Q Ex s := by
  unfold drawChk at hchk
  simp only [Bool.and_eq_true] at hchk
  obtain ⟨⟨c1, c2⟩, c3⟩ := hchk
  refine enter_def hd c1 (binds_of c2) ha (by have := room.depth; omega) hbase rfl fun env h₁ tk₁ Ex' F => ?_
  obtain ⟨_, _, _, _, apos, kz, pz, pos, _, _, _, _, _, _, hbody, hline⟩ := drawBody_inv c3
  · rw [hbody]
    obtain ⟨vs, mm, ns, e1, e2, e3⟩ := hdk
    have ld : Loads env h₁ "deck" (.ref dk) := F.loads 0 _ _ rfl rfl
    have lm : Loads env h₁ "many" (.int n t) := F.loads 1 _ _ rfl rfl
    have hk : env.scope.kind = .function := F.ok.kind
    have hlen : ns.length ≤ 2 ^ 20 := by
      have := ints_len e2
      rw [Array.length_toList] at this
      omega
    refine wpAny_execs_cons (wpAny_Return_some (wpAny_IfExp (wpAny_isTrue_Compare1 (hm := behind_ok (by rfl) _) (load_name hk (by decide) ld (wpAny_List (wpAny_items_nil ⟨by simp [sizeLine], ?_⟩))))))
    refine cmp_raw (op := .NotEq) (D := fun _ => False) (x := I ns) (y := I []) (b := !decide (ns = [])) ne_ll ?_ ?_ (by have := room.units; show A.units + 3 + 64 < cLine; omega) (wpAny_truthy_bool ?_)
    · exact .list (fun q => q) (Kept.push _ _ _ (F.kept _ _ e1)) (reps_ints e2) (by simpa using hlen)
    · exact .list (n := 0) (vs := #[]) (fun q => q) (Heap.get?_push_size _ rfl) .nil (by simp)
    have kp : Kept h₁ (h₁.push (lstO ([] : List Value).toArray 0)) := Kept.push _
    by_cases hns : ns = []
    · rw [decide_eq_true hns]
      simp only [Bool.not_true, Bool.false_eq_true, if_false]
      refine wpAny_Constant_int (h _ _ _ _ (F.kept.trans kp).off ?_ (by omega) hn.1)
      exact ⟨vs, mm, ns, kp _ _ (F.kept _ _ e1), e2, e3⟩
    · rw [decide_eq_false hns]
      simp only [Bool.not_false, if_true]
      obtain ⟨v, rest, hvs⟩ : ∃ v rest, ns = v :: rest := List.exists_cons_of_ne_nil hns
      have hy : ∃ y u, vs[0]? = some (.int y u) ∧ IntsAre (vs.toList.drop 1) rest := by
        rw [hvs] at e2
        generalize hvl : vs.toList = l at e2
        cases e2 with
        | cons _ t r =>
          refine ⟨v, t, ?_, by simpa using r⟩
          rw [← Array.getElem?_toList, hvl]; rfl
      obtain ⟨y, u, hy, hrest⟩ := hy
      refine wpAny_BinOp (wpAny_Call_method (T := "list") (id := "list.pop") rfl (by rfl) hline PySem.F.plainAttrs_list PySem.F.slot_list_pop PySem.F.type_list_pop ?_)
      have e1' : (h₁.push (lstO ([] : List Value).toArray 0)).get? dk = some (lstO vs mm) := kp _ _ (F.kept _ _ e1)
      refine load_name hk (by decide) (ld.keep kp) ⟨⟨_, e1', rfl⟩, fun a e => by cases e; exact ⟨_, e1', rfl⟩, ?_⟩
      refine P.pop_at_list (x := eval (.Constant (.int 0) kz pz) env) ?_
      refine wpAny_Constant_int ?_
      refine ⟨vs, mm, 0, _, 0, .int y u, by have := sizeLine_ge; omega, rfl, e1', by decide, ?_, hy, ?_⟩
      · unfold seqIndex?
        have : 0 < vs.size := by
          have := (Array.getElem?_eq_some_iff.mp hy).1
          omega
        simp [this]
      · have hs := Heap.SameBut.update (h₁.push (lstO ([] : List Value).toArray 0)) dk (Obj.mapSeq fun xs => xs.eraseIdxIfInBounds 0)
        have hLd : env.locals ≠ dk := by
          rw [F.locals]
          rintro rfl
          exact Nat.lt_irrefl _ (Heap.lt_size e1)
        have lm' : Loads env ((h₁.push (lstO ([] : List Value).toArray 0)).update dk (Obj.mapSeq fun xs => xs.eraseIdxIfInBounds 0)) "many" (.int n t) := by
          rcases lm.keep kp with ⟨hl, mm, hn, e⟩ | ⟨hl, c, hc, hi⟩
          · exact .inl ⟨hl, _, hn.sameBut hs hLd, e⟩
          · refine .inr ⟨hl, c, hc, hi.sameBut hs ?_⟩
            rintro rfl
            obtain ⟨ob, q1, q2⟩ := hi
            rw [e1'] at q1
            cases q1
            cases q2
        refine load_name hk (by decide) lm' (mod_int' (by omega) ?_)
        rw [Int.fmod_eq_emod_of_nonneg _ (by omega)]
        have := Int.emod_nonneg y (by omega : n ≠ 0)
        have := Int.emod_lt_of_pos y hn.1
        refine h _ _ _ _ (fun b o hb e => (hs.2 b hb).trans (kp _ _ (F.kept _ _ e))) ?_ (by omega) (by omega)
        refine ⟨vs.eraseIdxIfInBounds 0, _, rest, Heap.get?_update_self _ e1' rfl, ?_, ?_⟩
        · have : (vs.eraseIdxIfInBounds 0).toList = vs.toList.drop 1 := by
            have h0 : 0 < vs.size := (Array.getElem?_eq_some_iff.mp hy).1
            unfold Array.eraseIdxIfInBounds
            rw [dif_pos h0, Array.toList_eraseIdx]
            cases vs.toList <;> rfl
          rw [this]
          exact hrest
        · unfold Array.eraseIdxIfInBounds
          split
          · rw [Array.size_eraseIdx]; omega
          · exact e3
end
end Mine
end

section
open PySem PyProof.Rows
namespace Mine

section
variable {mg mb : Str → Option Value} {fns : List FnD} {B : Nat} {A : Around} {env : Env} {C D D₀ : Addr → Prop} {hc h h' : Heap} {ρ : Rho}

/-- the names that are cells have no known value -/
noncomputable abbrev One (env : Env) (ρ : Rho) : Prop := ∀ (i : Nat) (x : Str) (v : PV), env.scope.names[i]? = some (x, NameKind.cell) → ρ[i]? ≠ some (some v)

/-- some objects turn, or come -/
theorem Frm.alterW {D₁ W : Addr → Prop} (F : Frm mg mb fns B A env C D D₀ hc ρ none h) (one : One env ρ) (hW : ∀ a, W a → D a ∨ h.get? a = none) (hsub : ∀ a, D₁ a → D a ∨ W a) (hk : KeptOff W h h')
    (hL : ¬ W env.locals) (hcW : ∀ a, W a → hc.get? a = none) (hCD : ∀ a, C a → D₁ a) (hD0 : ∀ a, D₀ a → D₁ a) (hdok : DOk D₁ h') : Frm mg mb fns B A env C D₁ D₀ hc ρ none h' := by
  have mv : ∀ b ob, ¬ D b → h.get? b = some ob → ¬ D₁ b ∧ h'.get? b = some ob := fun b ob hDb e => by
    have hb : ¬ W b := by
      intro q
      rcases hW b q with q | q
      · exact hDb q
      · rw [q] at e; cases e
    exact ⟨fun q => (hsub b q).elim hDb hb, hk b ob hb e⟩
  have nsk : ∀ m, h.Ns env.locals m → h'.Ns env.locals m := fun m hn => by
    obtain ⟨ob, es, ep, e, hd, r⟩ := hn
    exact ⟨ob, es, ep, hk _ _ hL e, hd, r⟩
  refine ⟨F.ok, F.room, F.base, fun b ob e => hk b ob (fun q => by rw [hcW b q] at e; cases e) (F.kept b ob e), F.off, ?_, hdok, let ⟨m, q⟩ := F.ns; ⟨m, nsk m q⟩, F.cl, hCD, hD0, OwnInv.none⟩
  intro i x k v e1 e2
  obtain ⟨w', ld, r⟩ := F.inv i x k v e1 e2
  refine ⟨w', ?_, r.move mv⟩
  rcases ld with ⟨hl, m, hn, e⟩ | ⟨hl, c', hc', hi⟩
  · exact .inl ⟨hl, m, nsk m hn, e⟩
  · have : k = .cell := by
      have := lookup_of_nodup F.ok.nodup e1
      rw [show env.scope.names.lookup x = some NameKind.cell from hl] at this
      cases this; rfl
    subst this
    exact absurd e2 (one i x v e1)

noncomputable abbrev No : Addr → Prop := fun _ => False

/-- the law's frame once the deck is made -/
structure LF (mg mb : Str → Option Value) (fns : List FnD) (B : Nat) (A : Around) (env : Env) (C D : Addr → Prop) (hc : Heap) (ρ : Rho) (dk c : Addr) (h : Heap) : Prop where
  F : Frm mg mb fns B A env C D No hc ρ none h
  deck : Deck dk h
  kind : env.kindOf "deck" = some .cell
  lk : env.cells.lookup ("deck" : Str) = some c
  cell : h.IsCell c (some (.ref dk))
  cdk : C dk
  one : One env ρ

variable {dk c : Addr}
theorem LF.loads (L : LF mg mb fns B A env C D hc ρ dk c h) : Loads env h "deck" (.ref dk) := .inr ⟨L.kind, c, L.lk, L.cell⟩
theorem LF.keep (L : LF mg mb fns B A env C D hc ρ dk c h) (k : Kept h h') : LF mg mb fns B A env C D hc ρ dk c h' := ⟨L.F.keep k, L.deck.keep k, L.kind, L.lk, L.cell.keeps k, L.cdk, L.one⟩
theorem LF.dkL (L : LF mg mb fns B A env C D hc ρ dk c h) : env.locals ≠ dk := by
  rintro q
  obtain ⟨vs, m, ns, e1, _, _⟩ := L.deck
  obtain ⟨_, ob, es, ep, e, hd, _⟩ := L.F.ns
  rw [q, e1] at e
  cases e
  cases hd
theorem LF.dkc (L : LF mg mb fns B A env C D hc ρ dk c h) : c ≠ dk := by
  rintro q
  obtain ⟨vs, m, ns, e1, _, _⟩ := L.deck
  obtain ⟨ob, e, hd⟩ := L.cell
  rw [q, e1] at e
  cases e
  cases hd
theorem LF.alterW {D₁ W : Addr → Prop} (L : LF mg mb fns B A env C D hc ρ dk c h) (hW : ∀ a, W a → D a ∨ h.get? a = none) (hsub : ∀ a, D₁ a → D a ∨ W a) (hk : KeptOff W h h')
    (hL : ¬ W env.locals) (hWc : ¬ W c) (hcW : ∀ a, W a → hc.get? a = none) (hCD : ∀ a, C a → D₁ a) (hdok : DOk D₁ h') (d : Deck dk h') : LF mg mb fns B A env C D₁ hc ρ dk c h' :=
  ⟨L.F.alterW L.one hW hsub hk hL hcW hCD (fun a q => q.elim) hdok, d, L.kind, L.lk, let ⟨ob, e, hd⟩ := L.cell; ⟨ob, hk c ob hWc e, hd⟩, L.cdk, L.one⟩
theorem LF.drawn (L : LF mg mb fns B A env C D hc ρ dk c h) (k : KeptOff (IsL dk) h h') (d : Deck dk h') : LF mg mb fns B A env C D hc ρ dk c h' := by
  refine L.alterW (W := IsL dk) (fun a q => .inl (q ▸ L.F.cd _ L.cdk)) (fun a q => .inl q) k L.dkL L.dkc (fun a q => q ▸ L.F.off _ L.cdk) L.F.cd (fun a ha => ?_) d
  by_cases q : a = dk
  · subst q
    obtain ⟨vs', m', ns', e1', _, _⟩ := d
    exact ⟨_, e1'⟩
  · obtain ⟨ob, e⟩ := L.F.dok a ha
    exact ⟨ob, k a ob q e⟩
theorem LF.moved {w' : Value} {v : PV} (L : LF mg mb fns B A env C D hc ρ dk c h) (k : KeptOff (IsL dk) h h') (r : Rep h D w' v) : Rep h' D w' v :=
  r.move fun b ob hDb e => ⟨hDb, k b ob (fun q => hDb (q ▸ L.F.cd _ L.cdk)) e⟩

theorem LF.store {i : Nat} {x : Str} {v : PV} {w' : Value} {M : Model} {A' : Around} {Ex : Value → Shared → Prop} {s : Shared} {Q : Unit → Shared → Prop} (L : LF mg mb fns B A env C D hc ρ dk c s.heap) (hs : isSto env.scope.names i x = true)
    (r : Rep s.heap D w' v) (hQ : ∀ h' tk', KeptOff C s.heap h' → (∀ u y, Rep s.heap D u y → Rep h' D u y) → LF mg mb fns B A env C D hc (ρ.set i (some v)) dk c h' → Q () { s with heap := h', toks := tk' }) :
    wpAny M A' (storeName env x w') Q Ex s := by
  obtain ⟨m, hm⟩ := L.F.ns
  refine L.F.storeB hs rfl r fun h' tk' hb mv F' => hQ h' tk' (same_off hb L.F.cl) mv ⟨F', L.deck.at fun o e => (hb.2 dk ?_).trans e, L.kind, L.lk, L.cell.sameBut hb ?_, L.cdk, ?_⟩
  · rintro rfl
    obtain ⟨ob, es, ep, e', hd, _⟩ := hm
    rw [e] at e'
    cases e'
    obtain ⟨vs, mm, ns, e1, _, _⟩ := L.deck
    rw [e] at e1
    cases e1
    cases hd
  · rintro rfl
    exact ns_not_cell hm L.cell
  · intro j y u e1 e2
    rcases set_get e2 with ⟨rfl, rfl⟩ | ⟨_, q⟩
    · rw [(isSto_spec hs).1] at e1
      cases e1
    · exact L.one j y u e1 q
end

structure Glo2 (mg mb : Str → Option Value) : Prop where
  abs : mg "abs" = none ∧ mb "abs" = some (.builtin "abs")
  list : mg "list" = none ∧ mb "list" = some (.type "list")
  enum : mg "enumerate" = none ∧ mb "enumerate" = some (.type "enumerate")

noncomputable def isDraw (sc : Names) (n : Int) (x : Expr) : Bool :=
  (decide (0 < n) && decide (n < 2 ^ 30)) && mCall (fun f => f == ("_law_draw" : Str) && isGlo sc f) (fun xs => on (two xs) fun q => mName (· == ("deck" : Str)) q.1 && xInt q.2 == some n) x
noncomputable def isDrawIs (sc : Names) (n : Int) (x : Expr) : Prop := ∃ fp yp mk mp pos, x = .Call (.Name "_law_draw" fp) [.Name "deck" yp, .Constant (.int n) mk mp] [] pos ∧ isGlo sc "_law_draw" = true ∧ 0 < n ∧ n < 2 ^ 30
theorem isDraw_inv {sc : Names} {n : Int} {x : Expr} (h : isDraw sc n x = true) : isDrawIs sc n x := by
  obtain ⟨h1, h2⟩ := and_inv h
  obtain ⟨h3, h4⟩ := and_inv h1
  obtain ⟨f, fp, xs, pos, e1, h5, h6⟩ := mCall_inv h2
  obtain ⟨h7, h8⟩ := and_inv h5
  obtain ⟨q, h9, h10⟩ := on_inv h6
  obtain ⟨h11, h12⟩ := and_inv h10
  obtain ⟨y, yp, e2, h13⟩ := mName_inv h11
  obtain ⟨mk, mp, e3⟩ := xInt_inv (beq_inv h12)
  have e4 := beq_inv h7
  have e5 := beq_inv h13
  have e6 := two_inv h9
  refine ⟨fp, yp, mk, mp, pos, ?_, e4 ▸ h8, of_decide_eq_true h3, of_decide_eq_true h4⟩
  rw [e1, e6, e2, e3, e4, e5]

structure DrawAt (fns : List FnD) (d : FnD) : Prop where
  at_ : fns[16]? = some d
  name : d.name = "_law_draw"
  chk : drawChk d = true

section
variable {prog : Program} {w : World} {mg mb : Str → Option Value} {fns : List FnD} {T : Nat → List PV → Option PV}
variable {A : Around} {Ex : Value → Shared → Prop} {s : Shared} {env : Env} {dk : Addr}

theorem draw_eval {n : Int} {x : Expr} {d : FnD} {Q : Value → Shared → Prop} (hD : DrawAt fns d) (ho : EnvOk env) (room : Room A 2) (hbase : Base mg mb fns s.heap) (ld : Loads env s.heap "deck" (.ref dk)) (hdk : Deck dk s.heap) (hm : isDraw env.scope.names n x = true)
    (h : ∀ h' tk' k u, KeptOff (IsL dk) s.heap h' → Deck dk h' → 0 ≤ k → k < n → Q (.int k u) { s with heap := h', toks := tk' }) : wpAny (model prog w) A (eval x env) Q Ex s := by
  obtain ⟨fp, yp, mk, mp, pos, ex, hg, h0, h1⟩ := isDraw_inv hm
  clear hm
  subst ex
  · obtain ⟨a, o, pm, code, doc, e1, e2, e3, e4⟩ := hbase.fn 16 d hD.at_
    refine wpAny_Call_NameR (glob_name ho hbase hg (hD.name ▸ e1) ?_)
    refine Calls.callWith_function (o := o) (fd := Calls.docDef d.name d.params d.body d.scope pm code doc) ?_
    refine args_eval (by rfl) (wpAny_items_cons (he := star_ok (by rfl) _) (load_name ho.kind (by decide) ld (wpAny_items_cons (he := star_ok (by rfl) _) (wpAny_Constant_int (wpAny_items_nil ?_)))))
    refine ⟨⟨e2, e3⟩, ?_⟩
    exact draw_call (s := { s with toks := s.toks + 1 }) hD.at_ hD.chk e1 room hbase hdk ⟨h0, h1⟩ fun h' tk' k u hk hd hk0 hk1 => h h' tk' k u hk hd hk0 hk1
end
end Mine
end

section
open PySem PyProof.Rows
namespace Mine

/-- expressions that draw from the deck -/
inductive DE where
  | draw (n : Int)
  | pick (es : List Int) (n : Int)
  | plus (e : E) (n : Int)
  | cut (es : List Int) (n : Int)
  | copy (i : Nat)

noncomputable def dv (T : Nat → List PV → Option PV) : DE → Rho → PV → Prop
  | .draw n, _, v => ∃ k, 0 ≤ k ∧ k < n ∧ v = .int k
  | .pick es n, _, v => ∃ (k x : Int), 0 ≤ k ∧ k < n ∧ es[k.toNat]? = some x ∧ v = .int x
  | .plus e n, ρ, v => ∃ (a k : Int), ev T e ρ = some (.int a) ∧ 0 ≤ k ∧ k < n ∧ v = .int (a + k)
  | .cut es n, _, v => ∃ k : Int, 0 ≤ k ∧ k < n ∧ v = I (es.take k.toNat)
  | .copy i, ρ, v => ρ[i]? = some (some v) ∧ ∃ xs, v = .list xs

noncomputable def dOk (T : Nat → List PV → Option PV) : DE → Rho → Prop
  | .plus e n, ρ => ∃ a : Int, ev T e ρ = some (.int a)
  | .copy i, ρ => ∃ xs, ρ[i]? = some (some (.list xs))
  | _, _ => True

noncomputable def matchD (fns : List FnD) (B : Nat) : DE → Names → Expr → Bool
  | .draw n, sc, x => isDraw sc n x
  | .pick es n, sc, x => (decide (n ≤ es.length) && decide (es.length ≤ 100)) && mSub (matchE fns B (.lst (es.map .int)) sc) (fun r => okArg r && isDraw sc n r) x
  | .plus e n, sc, x => mBin .Add (matchE fns B e sc) (isDraw sc n) x
  | .cut es n, sc, x => decide (es.length ≤ 100) && mSub (matchE fns B (.lst (es.map .int)) sc) (mUpto (isDraw sc n)) x
  | .copy i, sc, x => mCall (fun f => f == ("list" : Str) && isGlo sc f) (fun xs => on (one xs) fun x => okArg x && matchE fns B (.loc i) sc x) x

theorem evs_ints {T : Nat → List PV → Option PV} {ρ : Rho} : ∀ es : List Int, evs T (es.map .int) ρ = some (es.map .int)
  | [] => rfl
  | e :: r => e_cons e_int (evs_ints r)
theorem ev_ints {T : Nat → List PV → Option PV} {ρ : Rho} {es : List Int} (h : es.length ≤ 100) : ev T (.lst (es.map .int)) ρ = some (I es) := e_lst (evs_ints es) (mk_pos (by rw [List.length_map]; omega))

section
variable {prog : Program} {w : World} {mg mb : Str → Option Value} {fns : List FnD} {T : Nat → List PV → Option PV} {B : Nat}
variable {A : Around} {Ex : Value → Shared → Prop} {s : Shared} {env : Env} {dk : Addr}
variable (hT : ∀ f, f < B → Contract prog w mg mb fns T f) (G : Glo mg mb) (G2 : Glo2 mg mb)
include hT G G2

/-- in any frame where the deck is at hand -/
theorem sndD {d : FnD} (hD : DrawAt fns d) {D : Addr → Prop} {ρ : Rho} (hB : 2 ≤ B) (hDd : D dk) : ∀ (de : DE) (x : Expr) (Q : Value → Shared → Prop) (s : Shared), matchD fns B de env.scope.names x = true → dOk T de ρ → Rdy mg mb fns B A env D ρ s.heap → Loads env s.heap "deck" (.ref dk) → Deck dk s.heap →
    (∀ h' tk' w' v, dv T de ρ v → KeptOff (IsL dk) s.heap h' → Deck dk h' → Rep h' D w' v → Q w' { s with heap := h', toks := tk' }) → wpAny (model prog w) A (eval x env) Q Ex s := by
  intro de x Q s hm hok R ld hdk h
  have mv : ∀ {h₁ h₂ : Heap}, KeptOff (IsL dk) h₁ h₂ → ∀ b o, ¬ D b → h₁.get? b = some o → ¬ D b ∧ h₂.get? b = some o := fun k b o hb e => ⟨hb, k b o (fun q => hb (q ▸ hDd)) e⟩
  have Rk : ∀ {h₁ h₂ : Heap}, KeptOff (IsL dk) h₁ h₂ → Deck dk h₂ → DOk D h₁ → DOk D h₂ := fun k hd hk a ha => by
    by_cases q : a = dk
    · subst q
      obtain ⟨_, _, _, e, _, _⟩ := hd
      exact ⟨_, e⟩
    · obtain ⟨o, e⟩ := hk a ha
      exact ⟨o, k a o q e⟩
  cases de with
  | draw n => exact draw_eval hD R.ok (R.room.le hB) R.base ld hdk hm fun h' tk' k u k1 k2 k3 k4 => h h' tk' _ _ ⟨k, k3, k4, rfl⟩ k1 k2 (.int _ _)
  | pick es n =>
    obtain ⟨hm1, hm2⟩ := and_inv hm
    obtain ⟨h4, h5⟩ := and_inv hm1
    have h4 := of_decide_eq_true h4
    have h5 := of_decide_eq_true h5
    obtain ⟨l0, r0, p0, ex, h3, hm3⟩ := mSub_inv hm2
    clear hm hm1 hm2
    subst ex
    obtain ⟨h1, h2⟩ := and_inv hm3
    refine Subscript_ ((snd hT G (.lst (es.map .int))).1 _ A env ρ (I es) D s _ _ h3 (ev_ints h5) R fun h₁ tk₁ w1 k₁ r1 => ?_)
    refine draw_eval (s := { s with heap := h₁, toks := tk₁ }) hD R.ok (R.room.le hB) (R.base.keep k₁) (ld.keep k₁) (hdk.keep k₁) h2 fun h₂ tk₂ k u k2 d2 hk0 hk1 => ?_
    obtain ⟨x, hx⟩ : ∃ x, es[k.toNat]? = some x := ⟨es[k.toNat]'(by omega), List.getElem?_eq_getElem _⟩
    refine idx_raw (s := { s with heap := h₂, toks := tk₂ }) (x := I es) (y := .int k) (v := .int x) h1 (idx_i hk0 hx) (r1.move (mv k2)) (.int _ _) fun h₃ tk₃ w3 k3 r3 => ?_
    exact h h₃ tk₃ w3 _ ⟨k, x, hk0, hk1, hx, rfl⟩ (fun b o hb e => k3 _ _ (k2 b o hb (k₁ _ _ e))) (d2.keep k3) r3
  | plus e n =>
    obtain ⟨l0, r0, p0, ex, hm1, hm2⟩ := mBin_inv hm
    clear hm
    subst ex
    have hm : _ ∧ _ := ⟨hm1, hm2⟩
    obtain ⟨a, ha⟩ := hok
    refine wpAny_BinOp ((snd hT G e).1 _ A env ρ (.int a) D s _ _ hm.1 ha R fun h₁ tk₁ w1 k₁ r1 => ?_)
    refine draw_eval (s := { s with heap := h₁, toks := tk₁ }) hD R.ok (R.room.le hB) (R.base.keep k₁) (ld.keep k₁) (hdk.keep k₁) hm.2 fun h₂ tk₂ k u k2 d2 hk0 hk1 => ?_
    cases r1
    exact P.add_int (h h₂ _ _ _ ⟨a, k, ha, hk0, hk1, rfl⟩ (fun b o hb e => k2 b o hb (k₁ _ _ e)) d2 (.int _ _))
  | cut es n =>
    obtain ⟨h5, hm1⟩ := and_inv hm
    have h5 := of_decide_eq_true h5
    obtain ⟨l0, r0, p0, ex, h3, hm2⟩ := mSub_inv hm1
    clear hm hm1
    subst ex
    obtain ⟨r1, p1, ex, h2⟩ := mUpto_inv hm2
    clear hm2
    subst ex
    refine Subscript_ ((snd hT G (.lst (es.map .int))).1 _ A env ρ (I es) D s _ _ h3 (ev_ints h5) R fun h₁ tk₁ w1 k₁ r1 => wpAny_Slice ?_)
    rw [evalPart_none, evalPart_some]
    refine wpAny_pure (draw_eval (s := { s with heap := h₁, toks := tk₁ }) hD R.ok (R.room.le hB) (R.base.keep k₁) (ld.keep k₁) (hdk.keep k₁) h2 fun h₂ tk₂ k u k2 d2 hk0 hk1 => wpAny_pure ?_)
    cases r1 with
    | @list l vs m _ hDl hg hr hlx =>
    have hlen := hr.length
    rw [Array.length_toList] at hlen
    have hg2 : h₂.get? l = some (lstO vs m) := k2 _ _ (fun q => hDl (q ▸ hDd)) hg
    refine slice_raw (s := { s with heap := h₂, toks := tk₂ }) hg2 .none (.int _ _) (by have := sizeLine_ge; omega) ?_
    obtain ⟨j, rfl⟩ := Int.eq_ofNat_of_zero_le hk0
    have hD2 := Rk k2 d2 (R.dok.keep k₁)
    refine h ((h₂.push _).push _) tk₂ _ _ ⟨(j : Int), hk0, hk1, rfl⟩ (fun b o hb e => Kept.push _ _ _ (Kept.push _ _ _ (k2 b o hb (k₁ _ _ e)))) (d2.keep ((Kept.push _).trans (Kept.push _))) (.list (n := 0) (vs := slicePick vs none (some (j : Int)) none) ?_ ?_ ?_ ?_)
    · exact hD2.fresh1
    · exact get_push2 _ _ rfl
    · rw [pick_upto, Int.toNat_natCast, List.map_take]
      exact (((hr.move (mv k2)).take j).keep ((Kept.push _).trans (Kept.push _)))
    · simp at hlx ⊢; omega
  | copy i =>
    obtain ⟨y0, np, xs0, p0, ex, hm1, hm2⟩ := mCall_inv (f := fun f => f == ("list" : Str) && isGlo env.scope.names f) (g := fun xs => on (one xs) fun x => okArg x && matchE fns B (.loc i) env.scope.names x) hm
    clear hm
    subst ex
    obtain ⟨hy, h2⟩ := and_inv hm1
    have hy := beq_inv hy
    clear hm1
    subst hy
    obtain ⟨x0, hx0, hm3⟩ := on_inv hm2
    clear hm2
    have hx0 := one_inv hx0
    subst hx0
    obtain ⟨h3, h4⟩ := and_inv hm3
    obtain ⟨xs, hx⟩ := hok
    refine wpAny_Call_NameR (blt_name R.ok R.base h2 G2.list (PyProof.Rows.callWith_type (by rw [star_ok h3]; rfl) (args_eval h3 (wpAny_items_cons (he := star_ok h3 _) ((snd hT G (.loc i)).1 _ A env ρ (.list xs) D s _ _ h4 (e_loc (by rw [hx]; rfl)) R fun h₁ tk₁ w1 k₁ r1 => wpAny_items_nil ?_)))))
    cases r1 with
    | @list l vs m _ hDl hg hr hlx =>
    have hlen := hr.length
    rw [Array.length_toList] at hlen
    refine call_list_seq (hsz := by have := sizeLine_ge; omega) l (.inl rfl) (s := { s with heap := h₁, toks := tk₁ }) hg rfl rfl fun h₂ c' k2 hnew => ?_
    exact h h₂ tk₁ _ _ ⟨hx, xs, rfl⟩ (fun b o hb e => k2 _ _ (k₁ _ _ e)) ((hdk.keep k₁).keep k2) (.list (R.dok.keep k₁).fresh hnew (hr.keep k2) hlx)
end
end Mine
end

section
open PySem PyProof.Rows
namespace Mine

noncomputable def swpChk (fns : List FnD) (B i j : Nat) (a b : DE) (sc : Names) (st : Stmt) : Bool := mPair sc i j (mSwp (matchD fns B a sc) (matchD fns B b sc)) st

section
variable {prog : Program} {w : World} {mg mb : Str → Option Value} {fns : List FnD} {T : Nat → List PV → Option PV} {B : Nat}
variable {A : Around} {Ex : Value → Shared → Prop} {s : Shared} {env : Env} {C D : Addr → Prop} {hc : Heap} {ρ : Rho} {dk c : Addr}

theorem LF.offC (L : LF mg mb fns B A env C D hc ρ dk c s.heap) {h₁ h₂ : Heap} (k : KeptOff (IsL dk) h₁ h₂) : KeptOff C h₁ h₂ := fun b o hb e => k b o (fun q => hb (q ▸ L.cdk)) e

variable (hT : ∀ f, f < B → Contract prog w mg mb fns T f) (G : Glo mg mb) (G2 : Glo2 mg mb)
include hT G G2

theorem swpD {d : FnD} (hD : DrawAt fns d) (hB : 2 ≤ B) {i j : Nat} {a b : DE} {x : Stmt} {Q : Flow → Shared → Prop} (L : LF mg mb fns B A env C D hc ρ dk c s.heap) (hm : swpChk fns B i j a b env.scope.names x = true) (oka : dOk T a ρ) (okb : dOk T b ρ)
    (P : ∀ h' tk' va vb, dv T a ρ va → dv T b ρ vb → KeptOff C s.heap h' → LF mg mb fns B A env C D hc ((ρ.set j (some vb)).set i (some va)) dk c h' → Q .next { s with heap := h', toks := tk' }) : wpAny (model prog w) A (exec x env) Q Ex s := by
  refine mPair_el (P := fun x => wpAny (model prog w) A (exec x env) Q Ex s) hm fun x1 p1 y1 q1 kk1 tp1 u1 v1 kk2 vp1 ap1 h1 h2 h3 h4 hm2 => mSwp_el hm2 fun h5 h6 h7 h8 h9 h10 => ?_
  have hDd : D dk := L.F.cd _ L.cdk
  refine Assign_Tuple_swapped (hs := rfl) (hw := swapped_two L.F.ok (isSto_spec h1).2 (isSto_spec h2).2 h3 h4 h5 h6 h7 h8) (tuple_raw h5 h6 (sndD hT G G2 hD hB hDd a _ _ s h9 oka L.F.rdy L.loads L.deck fun h₁ tk₁ w1 va hva k1 d1 r1 => ?_))
  have L₁ := L.drawn k1 d1
  refine sndD hT G G2 hD hB hDd b _ _ { s with heap := h₁, toks := tk₁ } h10 okb L₁.F.rdy L₁.loads d1 fun h₂ tk₂ w2 vb hvb k2 d2 r2 => ?_
  have L₂ := L₁.drawn k2 d2
  refine wpAny_unpackItems_tuple (items := #[w1, w2]) L.F.room.handled ⟨_, Heap.get?_push_size _ rfl, rfl, 0, rfl⟩ fun h₃ he₃ => ?_
  have k₃ : Kept h₂ h₃ := fun b ob e => extBut_kept he₃ b ob (Heap.get?_push_of_some _ e)
  have L₃ := L₂.keep k₃
  have r1' : Rep h₃ D w1 va := (L₁.moved k2 r1).keep k₃
  have r2' : Rep h₃ D w2 vb := r2.keep k₃
  show wpAny _ A (do holding [w1] (bindName env _ w2); assignInOrder [fun z => bindName env _ z] [w1]) _ Ex _
  refine wpAny_bind (wpAny_holding (wpAny_bindName (L₃.store (s := { s with heap := h₃, toks := tk₂ }) h2 r2' fun h₄ tk₄ k₄ mv L₄ => ?_)))
  show wpAny _ A (do holding [] (bindName env _ w1); assignInOrder [] []) _ Ex _
  refine wpAny_bind (wpAny_holding (wpAny_bindName (L₄.store (s := { s with heap := h₄, toks := tk₄ }) h1 (mv _ _ r1') fun h₅ tk₅ k₅ _ L₅ => ?_)))
  exact wpAny_pure (P h₅ tk₅ va vb hva hvb ((L.offC k1).trans ((L.offC k2).trans (k₃.off.trans (k₄.trans k₅)))) L₅)
end
end Mine
end

section
open PySem PyProof.Rows
namespace Mine

section
variable {mg mb : Str → Option Value} {fns : List FnD} {B : Nat} {A : Around} {env : Env} {C D D₀ : Addr → Prop} {hc : Heap} {ρ : Rho} {s : Shared}

theorem Frm.storeCell {y : Str} {c : Addr} {v₀ : Option Value} {w' : Value} {M : Model} {A' : Around} {Ex : Value → Shared → Prop} {Q : Unit → Shared → Prop} (F : Frm mg mb fns B A env C D D₀ hc ρ none s.heap) (hk : env.kindOf y = some .cell) (hlk : env.cells.lookup y = some c) (hcell : s.heap.IsCell c v₀) (hC : C c)
    (hone : ∀ (i : Nat) (x : Str) (v : PV), env.scope.names[i]? = some (x, NameKind.cell) → ρ[i]? ≠ some (some v))
    (h : ∀ h', h'.IsCell c (some w') → Heap.SameBut c s.heap h' → Frm mg mb fns B A env C D D₀ hc ρ none h' → Q () { s with heap := h' }) : wpAny M A' (storeName env y w') Q Ex s := by
  refine wpAny_storeName_cell F.ok.kind hk hlk hcell fun h' hc' hs => h h' hc' hs ?_
  have hDc := F.cd _ hC
  have mv : ∀ b ob, ¬ D b → s.heap.get? b = some ob → ¬ D b ∧ h'.get? b = some ob := fun b ob hDb e => ⟨hDb, (hs.2 b fun q => hDb (q ▸ hDc)).trans e⟩
  obtain ⟨m, hm⟩ := F.ns
  have hLc : env.locals ≠ c := by
    rintro q
    exact ns_not_cell hm (q ▸ hcell)
  refine ⟨F.ok, F.room, F.base, fun b ob e => (hs.2 b (by rintro rfl; rw [F.off _ hC] at e; cases e)).trans (F.kept b ob e), F.off, ?_, ?_, ⟨m, hm.sameBut hs hLc⟩, F.cl, F.cd, F.d0, OwnInv.none⟩
  · intro i x k v e1 e2
    obtain ⟨w', ld, r⟩ := F.inv i x k v e1 e2
    refine ⟨w', ?_, r.move mv⟩
    rcases ld with ⟨hl, m, hn, e⟩ | ⟨hl, c', hc', hi⟩
    · exact .inl ⟨hl, m, hn.sameBut hs hLc, e⟩
    · have : k = .cell := by
        have := lookup_of_nodup F.ok.nodup e1
        rw [show env.scope.names.lookup x = some NameKind.cell from hl] at this
        cases this; rfl
      subst this
      exact absurd e2 (hone i x v e1)
  · intro a ha
    by_cases q : a = c
    · subst q
      obtain ⟨ob, e, _⟩ := hc'
      exact ⟨ob, e⟩
    · obtain ⟨ob, e⟩ := F.dok a ha
      exact ⟨ob, (hs.2 a q).trans e⟩

theorem Frm.moreC {C' : Addr → Prop} {h : Heap} (F : Frm mg mb fns B A env C D D₀ hc ρ none h) (h1 : ∀ a, C a → C' a) (h2 : ∀ a, C' a → D a) (h3 : ∀ a, C' a → hc.get? a = none) : Frm mg mb fns B A env C' D D₀ hc ρ none h :=
  ⟨F.ok, F.room, F.base, F.kept, h3, F.inv, F.dok, F.ns, h1 _ F.cl, h2, F.d0, OwnInv.none⟩
end

noncomputable def absI (k : Int) : Int := if k < 0 then -k else k
noncomputable def absF (σ : Rho) : Option PV :=
  match (σ[1]? : Option (Option PV)) with
  | some (some (PV.int k)) => some (.int (absI k))
  | _ => none

noncomputable def s1Chk (fns : List FnD) (B : Nat) (sc : Names) (st : Stmt) : Bool :=
  mAsg (mName (· == ("deck" : Str))) (fun v => mComp (fun scope => compOk 3 scope && freeOk sc scope.names []) (matchE fns B (.upto (.loc 0) (.int 30)) sc) (fun sc' => matchT sc' (some 1) [])
    (fun sc' => mCall (fun f => f == ("abs" : Str) && isGlo sc' f) (fun xs => on (one xs) fun a => okArg a && matchE fns B (.loc 1) sc' a)) (fun _ ifs => ifs.isEmpty) sc v) st
noncomputable def s1ChkIs (fns : List FnD) (B : Nat) (sc : Names) (st : Stmt) : Prop := ∃ xp fp a cp target iter scope lp ap,
    st = .Assign [.Name "deck" xp] (.ListComp (.Call (.Name "abs" fp) [a] [] cp) [⟨target, iter, [], 0⟩] scope lp) ap ∧ isGlo (innerNames sc scope.names) "abs" = true ∧ okArg a = true ∧ matchE fns B (.loc 1) (innerNames sc scope.names) a = true ∧ okArg iter = true ∧
    compOk 3 scope = true ∧ freeOk sc scope.names [] = true ∧ matchE fns B (.upto (.loc 0) (.int 30)) sc iter = true ∧ matchT (innerNames sc scope.names) (some 1) [] target = true
theorem s1Chk_inv {fns : List FnD} {B : Nat} {sc : Names} {st : Stmt} (h : s1Chk fns B sc st = true) : s1ChkIs fns B sc st := by
  obtain ⟨t, v, ap, e1, h1, h2⟩ := mAsg_inv h
  obtain ⟨x, xp, e2, h3⟩ := mName_inv h1
  obtain ⟨e, target, iter, ifs, scope, lp, e3, h4, h5, h6, h7, h8, h9⟩ := mComp_inv h2
  obtain ⟨h10, h11⟩ := and_inv h5
  obtain ⟨f, fp, xs, cp, e4, h12, h13⟩ := mCall_inv h8
  obtain ⟨h14, h15⟩ := and_inv h12
  obtain ⟨a, h16, h17⟩ := on_inv h13
  obtain ⟨h18, h19⟩ := and_inv h17
  have e5 := beq_inv h3
  have e6 := beq_inv h14
  have e7 := one_inv h16
  have e8 : ifs = [] := List.isEmpty_iff.mp h9
  refine ⟨xp, fp, a, cp, target, iter, scope, lp, ap, ?_, e6 ▸ h15, h18, h19, h4, h10, h11, h6, h7⟩
  rw [e1, e2, e3, e4, e5, e6, e7, e8]

theorem laid30 (ρ : Rho) : laid 3 [] ρ = [none, none, none] := by simp [laid, List.range, List.range.loop]
theorem abs_comp (T : Nat → List PV → Option PV) (ρ : Rho) : ∀ l : List Int, compL (fun x => do
        let σ ← bindT (laid 3 [] ρ) (some 1) [] x
        let p ← evO T none σ
        if p then do let y ← absF σ; some (some y) else some none) (l.map .int) = some ((l.map absI).map .int)
  | [] => rfl
  | x :: r => by
    rw [List.map_cons, compL, abs_comp T ρ r]
    rw [laid30]
    rfl

section
variable {prog : Program} {w : World} {mg mb : Str → Option Value} {fns : List FnD} {T : Nat → List PV → Option PV} {B : Nat}
variable {A : Around} {Ex : Value → Shared → Prop} {s : Shared} {env : Env} {C D : Addr → Prop} {hc : Heap} {ρ : Rho} {c : Addr}
variable (hT : ∀ f, f < B → Contract prog w mg mb fns T f) (G : Glo mg mb) (G2 : Glo2 mg mb)
include hT G G2

theorem deck_stmt {x : Stmt} {script : List Int} {Q : Flow → Shared → Prop} (hm : s1Chk fns B env.scope.names x = true) (F : Frm mg mb fns B A env C D No hc ρ none s.heap) (hkind : env.kindOf "deck" = some .cell) (hlk : env.cells.lookup ("deck" : Str) = some c) (hcell : s.heap.IsCell c none) (hCc : C c)
    (hone : ∀ (i : Nat) (x : Str) (v : PV), env.scope.names[i]? = some (x, NameKind.cell) → ρ[i]? ≠ some (some v)) (hρ : ρ[0]? = some (some (I script)))
    (P : ∀ h' tk' C' D' dk, LF mg mb fns B A env C' D' hc ρ dk c h' → Q .next { s with heap := h', toks := tk' }) : wpAny (model prog w) A (exec x env) Q Ex s := by
  obtain ⟨xp, fp, a, cp, target, iter, scope, lp, ap, ex, h3, h4, h5, h6, h7, h8, h9, h10⟩ := s1Chk_inv hm
  clear hm
  subst ex
  have R := F.rdy
  have hsw : swapsWith (.ListComp (.Call (.Name ("abs" : Str) fp) [a] [] cp) [⟨target, iter, [], 0⟩] scope lp) (some (.Name ("deck" : Str) xp)) ap.line env = pure false := by
    show (pure (env.blockKind == .function && env.kindOf ("deck" : Str) == some .local && _ && _) : Sem Bool) = pure false
    rw [hkind]
    have : ((some NameKind.cell : Option NameKind) == some NameKind.local) = false := rfl
    rw [this, Bool.and_false, Bool.false_and, Bool.false_and]
  refine wpAny_Assign_Name (hs := hsw) ?_
  refine comp_sound (n := 3) (free := []) (t := some 1) (ts := []) (ρ := ρ) (D := D) (cond := fun σ => evO T none σ) (eltf := absF) (xs := (script.take 30).map .int) (ys := ((script.take 30).map absI).map .int) R.ok R.room.handled R.inv R.dok h7 h8 h6 h10 ?_ (abs_comp T ρ _) ?_ ?_ ?_
  · exact (snd hT G (.upto (.loc 0) (.int 30))).1 _ A env ρ (I (script.take 30)) D s _ _ h9 (e_upto (e_loc (by rw [hρ]; rfl)) e_int (upto_l (by decide))) R fun h₁ tk₁ w1 k₁ r1 => ⟨h₁, tk₁, rfl, k₁, r1⟩
  · intro cenv D' s' σ p Q' E' ho hn hk hd hI hp hP
    exact so_none [] A cenv σ p D' s' Q' E' rfl hp ⟨ho, R.room, R.base.keep hk, hI, hd⟩ hP
  · intro cenv D' s' σ y Q' E' ho hn hk hd hI hy hP
    unfold absF at hy
    split at hy
    · rename_i k hσ
      cases hy
      refine wpAny_Call_NameR (blt_name ho (R.base.keep hk) (hn ▸ h3) G2.abs (Calls.callWith_builtin (by rw [star_ok h4]; rfl) (args_eval h4 (wpAny_items_cons (he := star_ok h4 _) ((snd hT G (.loc 1)).1 a A cenv σ (.int k) D' s' _ _ (hn ▸ h5) (e_loc (by rw [hσ]; rfl)) ⟨ho, R.room, R.base.keep hk, hI, hd⟩ fun h₁ tk₁ w1 k₁ r1 => wpAny_items_nil ?_)))))
      cases r1
      exact call_abs_int fun u tk => hP h₁ tk _ k₁ (.int _ _)
    · cases hy
  · intro h₁ tk₁ dk k₁ hnew r
    cases r with
    | @list _ vs m _ hDl hg hr hlx =>
    have hcn : hc.get? dk = none := by
      cases e : hc.get? dk with
      | none => rfl
      | some ob => rw [F.kept _ _ e] at hnew; cases hnew
    have F₁ : Frm mg mb fns B A env C (fun a => D a ∨ a = dk) No hc ρ none h₁ :=
      F.alterW (W := IsL dk) hone (fun a q => .inr (by rw [show a = dk from q]; exact hnew)) (fun a q => q) k₁.off (fun q => by
        obtain ⟨m, ob, es, ep, e, _⟩ := F.ns
        rw [show env.locals = dk from q, hnew] at e; cases e) (fun a q => by rw [show a = dk from q]; exact hcn) (fun a q => .inl (F.cd a q)) (fun a q => q.elim) (fun a ha => by
        rcases ha with ha | ha
        · obtain ⟨ob, e⟩ := F.dok a ha
          exact ⟨ob, k₁ _ _ e⟩
        · exact ⟨_, ha ▸ hg⟩)
    have F₂ : Frm mg mb fns B A env (fun a => C a ∨ a = dk) (fun a => D a ∨ a = dk) No hc ρ none h₁ :=
      F₁.moreC (fun a q => .inl q) (fun a q => q.imp (F.cd a) id) (fun a q => q.elim (F.off a) fun q => q ▸ hcn)
    have hcell₁ : h₁.IsCell c none := hcell.keeps k₁
    refine F₂.storeCell (s := { s with heap := h₁, toks := tk₁ }) hkind hlk hcell₁ (.inl hCc) hone fun h₂ hc₂ hs₂ F₃ => ?_
    refine P h₂ tk₁ _ _ dk ⟨F₃, ⟨vs, m, _, (hs₂.2 dk ?_).trans hg, ints_of hr, ?_⟩, hkind, hlk, hc₂, .inr rfl, hone⟩
    · rintro rfl
      obtain ⟨ob, e, hd⟩ := hcell₁
      rw [hg] at e
      cases e
      cases hd
    · have := hr.length
      rw [Array.length_toList] at this
      simp at hlx this
      omega
end
end Mine
end

section
open PySem PyProof.Rows
namespace Mine

noncomputable def s3Chk (fns : List FnD) (B : Nat) (sc : Names) (st : Stmt) : Bool :=
  on (sAsg st) fun q => on (one q.1) fun t => on (xName t) fun y => on (xComp q.2.1) fun z => on (one z.2.1) fun g =>
    ((isSto sc 4 y.1 && y.2.line == z.2.2.2.line) && !(z.2.2.1.names.any fun (n, k) => n == y.1 && (k == .local || k == .cell))) && (((g.is_async == 0 && g.ifs.isEmpty) && (compOk 4 z.2.2.1 && freeOk sc z.2.2.1.names [(3, 1)])) &&
      ((matchD fns B (.pick [9, 97, 98, 32] 4) (innerNames sc z.2.2.1.names) z.1 && z.2.2.1.names.contains (("deck" : Str), NameKind.free)) &&
        (mName (isSto (innerNames sc z.2.2.1.names) 1) g.target && mCall (fun r => r == ("range" : Str) && isGlo sc r) (fun xs => on (one xs) fun l => okArg l && matchE fns B (.loc 3) sc l) g.iter)))
@[elab_as_elim] theorem s3Chk_el {fns : List FnD} {B : Nat} {sc : Names} {P : Stmt → Prop} {st : Stmt} (h : s3Chk fns B sc st = true)
    (k : ∀ y yp elt t tp rp l cp scope lp ap, isSto sc 4 y = true → matchD fns B (.pick [9, 97, 98, 32] 4) (innerNames sc scope.names) elt = true → isGlo sc "range" = true → okArg l = true → matchE fns B (.loc 3) sc l = true →
      compOk 4 scope = true → freeOk sc scope.names [(3, 1)] = true → matchT (innerNames sc scope.names) (some 1) [] (.Name t tp) = true → (yp.line == lp.line) = true → (scope.names.any fun (n, k) => n == y && (k == .local || k == .cell)) = false → (("deck" : Str), NameKind.free) ∈ scope.names →
      P (.Assign [.Name y yp] (.ListComp elt [⟨.Name t tp, .Call (.Name "range" rp) [l] [] cp, [], 0⟩] scope lp) ap)) : P st :=
  on_el h fun q h1 h => on_el h fun t0 h2 h => on_el h fun y h3 h => on_el h fun z h4 h => on_el h fun g h5 h => and_el h fun ha hb => and_el ha fun ha h6 => and_el ha fun h7 h8 => and_el hb fun hb hc => and_el hb fun hb hd => and_el hb fun h9 h10 => and_el hd fun h11 h12 =>
    and_el hc fun hc he => and_el hc fun h13 h14 => and_el he fun h15 h16 => by
    have e : g = ⟨g.target, g.iter, g.ifs, 0⟩ := gen_eq g (beq_inv h9)
    rw [sAsg_inv h1, one_inv h2, xName_inv h3, xComp_inv h4, one_inv h5, e, isEmpty_inv h10]
    have key : ∀ t, mName (isSto (innerNames sc z.2.2.1.names) 1) t = true → ∀ it, mCall (fun r => r == ("range" : Str) && isGlo sc r) (fun xs => on (one xs) fun l => okArg l && matchE fns B (.loc 3) sc l) it = true → P (.Assign [.Name y.1 y.2] (.ListComp z.1 [⟨t, it, [], 0⟩] z.2.2.1 z.2.2.2) q.2.2) := fun t ht it hi =>
      mCall_el (P := fun it => P (.Assign [.Name y.1 y.2] (.ListComp z.1 [⟨t, it, [], 0⟩] z.2.2.1 z.2.2.2) q.2.2)) hi fun r rp xs cp hr hx => mName_el (P := fun t => P (.Assign [.Name y.1 y.2] (.ListComp z.1 [⟨t, .Call (.Name r rp) xs [] cp, [], 0⟩] z.2.2.1 z.2.2.2) q.2.2)) ht fun t tp ht =>
        mOne_el (P := fun xs => P (.Assign [.Name y.1 y.2] (.ListComp z.1 [⟨.Name t tp, .Call (.Name r rp) xs [] cp, [], 0⟩] z.2.2.1 z.2.2.2) q.2.2)) hx fun l hl => and_el hr fun hr1 hr2 => and_el hl fun hl1 hl2 => by
          rw [beq_inv hr1]
          exact k _ _ _ _ _ _ _ _ _ _ _ h7 h13 (beq_inv hr1 ▸ hr2) hl1 hl2 h11 h12 ht h8 (not_inv h6) (List.contains_iff_mem.mp h14)
    exact key _ h15 _ h16

theorem small_nat {n : Nat} (h : n ≤ 1000) : Builtin.Range.small 0 (n : Int) 1 = true := small_one (by omega) (by omega) (by omega) (by omega)
theorem fresh_ge {h : Heap} {a : Addr} (ha : h.objs.size ≤ a) : h.get? a = none := by
  cases e : h.get? a with
  | none => rfl
  | some o' => exact absurd (Heap.lt_size e) (Nat.not_lt.mpr ha)
theorem ints_snoc {xx : Int} {t : Tok} {a : List Value} {b : List Int} (h : IntsAre a b) : IntsAre (a ++ [.int xx t]) (b ++ [xx]) := by
  induction h with
  | nil => exact .cons _ _ .nil
  | cons _ _ _ ih => exact .cons _ _ ih
theorem ints_size {us : Array Value} {out : List Int} {n : Nat} (h : IntsAre us.toList out) (hl : out.length ≤ n) (hn : n ≤ 1000) : us.size ≤ sizeLine := by
  have := ints_len h
  have h3 := sizeLine_ge
  rw [Array.length_toList] at this
  omega
theorem I_len {out : List Int} {n : Nat} (h : out.length = n) (hn : n ≤ 1000) : (out.map PV.int).length ≤ 2 ^ 20 := by rw [List.length_map]; omega
theorem snoc_len {α : Type} {l : List α} {y : α} {i : Nat} (h : l.length = i) : (l ++ [y]).length = i + 1 := by rw [List.length_append, h]; rfl

section
variable {prog : Program} {w : World} {mg mb : Str → Option Value} {fns : List FnD} {T : Nat → List PV → Option PV} {B : Nat}
variable {A : Around} {Ex : Value → Shared → Prop} {s : Shared} {env : Env} {C D : Addr → Prop} {hc : Heap} {ρ : Rho} {dk c : Addr}
variable (hT : ∀ f, f < B → Contract prog w mg mb fns T f) (G : Glo mg mb) (G2 : Glo2 mg mb)
include hT G G2

theorem row_stmt {d : FnD} (hD : DrawAt fns d) (hB : 2 ≤ B) {x : Stmt} {n : Nat} {Q : Flow → Shared → Prop} (L : LF mg mb fns B A env C D hc ρ dk c s.heap) (hm : s3Chk fns B env.scope.names x = true) (hρ : ρ[3]? = some (some (.int n))) (hn : n ≤ 1000)
    (P : ∀ h' tk' D' out, out.length = n → (∀ v ∈ out, v ∈ [(9 : Int), 97, 98, 32]) → LF mg mb fns B A env C D' hc (ρ.set 4 (some (I out))) dk c h' → Q .next { s with heap := h', toks := tk' }) : wpAny (model prog w) A (exec x env) Q Ex s := by
  refine s3Chk_el (P := fun x => wpAny (model prog w) A (exec x env) Q Ex s) hm fun y yp elt t tp rp l cp scope lp ap h1 h2 h4 h5 h6 h7 h8 h9 h10 h11 h12 => ?_
  clear hm
  have F := L.F
  have ho := F.ok
  have R := F.rdy
  have hh := F.room.handled
  obtain ⟨hkind, hlen, hnd, hcell, hnames⟩ := compOk_spec h7
  obtain ⟨hfree, hfree2⟩ := freeOk_spec h8
  obtain ⟨cl, hclos, hcl1, hcl2⟩ := closure_ok ho hfree2
  have hyk : env.kindOf y = some .local := (isSto_spec h1).2
  have hsw : swapsWith (.ListComp elt [⟨.Name t tp, .Call (.Name ("range" : Str) rp) [l] [] cp, [], 0⟩] scope lp) (some (.Name y yp)) ap.line env = pure true := by
    show (pure (env.blockKind == .function && env.kindOf y == some .local && yp.line == lp.line && !(scope.names.any fun (n, k) => n == y && (k == .local || k == .cell))) : Sem Bool) = pure true
    have hb : (env.blockKind == .function) = true := by simp [Env.blockKind, ho.kind, ScopeKind.isAnnotationScope]
    rw [hb, hyk, h11, h10]
    rfl
  rw [exec_Assign_Name_used _ _ _ _ hsw]
  refine wpAny_bind (wpAny_standAt (wpAny_bind ?_))
  show wpAny _ A (do let _ ← comprehension (.ListComp elt [⟨.Name t tp, .Call (.Name ("range" : Str) rp) [l] [] cp, [], 0⟩] scope lp) scope env _ (newList []) false (eval (.Call (.Name ("range" : Str) rp) [l] [] cp) env) (some (assign (.Name y yp) env))) _ _ s
  refine wpAny_bind (wpAny_mono (wpAny_comprehension_free (use := some (assign (.Name y yp) env)) (Q := fun _ s' => Q .next s') rfl (fun _ => rfl) hclos hkind hnames ?_) (fun _ s' hq => wpAny_pure (wpAny_pure hq)) fun _ _ e => e)
  refine wpAny_Call_NameR (blt_name ho R.base h4 G.range (PyProof.Rows.callWith_type (by rw [star_ok h5]; rfl) (args_eval h5 (wpAny_items_cons (he := star_ok h5 _) ((snd hT G (.loc 3)).1 _ A env ρ (.int n) D s _ _ h6 (show (ρ[3]?).join = _ by rw [hρ]; rfl) R fun h₀ tk₀ w0 k₀ r0 => wpAny_items_nil ?_)))))
  refine r0.int_el fun tt => call_range_1 ?_
  have kp := Kept.push (h := h₀) { cls := .type "range", data := .fields #[.int 0 tk₀, .int (n : Int) tt, .int 1 (tk₀ + 1)] }
  have hIR := IsRange.new h₀ 0 (n : Int) 1 tk₀ tt (tk₀ + 1)
  generalize hh₁ : h₀.push { cls := .type "range", data := .fields #[.int 0 tk₀, .int (n : Int) tt, .int 1 (tk₀ + 1)] } = h₁ at kp hIR
  have L₁ : LF mg mb fns B A env C D hc ρ dk c h₁ := (L.keep k₀).keep kp
  have hsz := range_sz n
  refine wpAny_pyIter_range (a := 0) (b := (n : Int)) (c := 1) hIR (small_nat hn) (wpAny_newObj_type (hd := by size_fits) (wpAny_newFunctionEnv hcell (fun y hy => nomatch hy) (fun h₂ hns₂ hsb₂ => ?_) hkind))
  dsimp only at hns₂ hsb₂ ⊢
  generalize hH1 : h₁.push { cls := .type "range_iterator", data := .fields #[rawInt 0, rawInt (Builtin.Range.rangeSize 0 (n : Int) 1), rawInt 1] } = H1 at hns₂ hsb₂ ⊢
  have hD1 : H1.objs.size = h₁.objs.size + 1 := by rw [← hH1, Heap.size_push]
  generalize hH2 : H1.push { cls := .type "list", dict := none, data := .seq ([] : List Value).toArray } = H2 at hns₂ hsb₂ ⊢
  have hC2 : H2.objs.size = h₁.objs.size + 2 := by rw [← hH2, Heap.size_push, hD1]
  have e1 : H1.objs.size ≠ h₁.objs.size := ne_add1 hD1
  have e2 : H1.objs.size ≠ H2.objs.size := ne_12 hD1 hC2
  have e3 : h₁.objs.size ≠ H2.objs.size := ne_add2 hC2
  have f1 : h₁.get? h₁.objs.size = none := fresh_ge (Nat.le_refl _)
  have f2 : h₁.get? H1.objs.size = none := fresh_ge (hD1 ▸ Nat.le_succ _)
  have f3 : h₁.get? H2.objs.size = none := fresh_ge (hC2 ▸ Nat.le_add_right _ 2)
  obtain ⟨dv, dm, dns, hdk₁, _, _⟩ := id L₁.deck
  have dk1 : h₁.objs.size ≠ dk := fun q => by rw [q, hdk₁] at f1; cases f1
  have dk2 : H1.objs.size ≠ dk := fun q => by rw [q, hdk₁] at f2; cases f2
  have dk3 : H2.objs.size ≠ dk := fun q => by rw [q, hdk₁] at f3; cases f3
  -- the addresses that turn
  let W : Addr → Prop := fun a => a = h₁.objs.size ∨ a = H1.objs.size ∨ a = H2.objs.size ∨ a = dk
  have hWf : ∀ a o, h₁.get? a = some o → a ≠ dk → ¬ W a := fun a o e hne q => by
    rcases q with q | q | q | q
    · rw [q, f1] at e; cases e
    · rw [q, f2] at e; cases e
    · rw [q, f3] at e; cases e
    · exact hne q
  have hWc : ∀ a, W a → hc.get? a = none := fun a q => by
    cases e : hc.get? a with
    | none => rfl
    | some o =>
      have hne : a ≠ dk := by
        rintro rfl
        rw [L.F.off _ L.cdk] at e; cases e
      exact absurd q (hWf a o (L₁.F.kept _ _ e) hne)
  have hWD : ∀ a, W a → D a ∨ h₁.get? a = none := fun a q => by
    rcases q with q | q | q | q
    · exact .inr (q ▸ f1)
    · exact .inr (q ▸ f2)
    · exact .inr (q ▸ f3)
    · exact .inl (q ▸ L.F.cd _ L.cdk)
  obtain ⟨nsm, nso, nses, nsep, nse, nsd, _⟩ := id L₁.F.ns
  have hWL : ¬ W env.locals := hWf _ _ nse L.dkL
  obtain ⟨co, ce, cd⟩ := id L₁.cell
  have hWcell : ¬ W c := hWf _ _ ce L.dkc
  have old : Kept h₁ h₂ := fun b o e => hsb₂.extBut b o (fun q => by rw [q, f3] at e; cases e) (Heap.get?_push_of_some _ (hH2 ▸ Heap.get?_push_of_some _ (hH1 ▸ Heap.get?_push_of_some _ e)))
  have hit : IsRangeIter h₂ h₁.objs.size (0 + ((0 : Nat) : Int) * 1) ((n : Int) - ((0 : Nat) : Int)) 1 := by
    have : h₂.get? h₁.objs.size = some { cls := .type "range_iterator", data := .fields #[rawInt 0, rawInt (Builtin.Range.rangeSize 0 (n : Int) 1), rawInt 1] } :=
      hsb₂.extBut _ _ e3 (Heap.get?_push_of_some _ (hH2 ▸ Heap.get?_push_of_some _ (hH1 ▸ Heap.get?_push_size _ rfl)))
    rw [hsz] at this
    simpa using this
  have hacc : h₂.PlainList H1.objs.size #[] := ⟨0, hsb₂.extBut _ _ e2 (Heap.get?_push_of_some _ (hH2 ▸ Heap.get?_push_size _ rfl))⟩
  let D₁ : Addr → Prop := fun a => D a ∨ a = H2.objs.size
  let D' : Addr → Prop := fun a => D a ∨ W a
  let cenv : Env := compEnvC scope cl H2.objs.size env
  have hcn : cenv.scope.names = innerNames env.scope.names scope.names := relabel_names ho scope
  have hcok : EnvOk cenv := cenv_ok ho hkind hnd hcell hcl2 _
  have hck : cenv.kindOf ("deck" : Str) = some .cell := by
    obtain ⟨j, hj⟩ := List.getElem?_of_mem h12
    show cenv.scope.names.lookup _ = _
    rw [hcn]
    have hl : env.scope.names.lookup ("deck" : Str) = some .cell := L.kind
    exact lookup_of_nodup (j := j) (by rw [inner_names]; exact hnd) (by rw [inner_get hj, if_pos (by simp [hl])])
  have hcl : cenv.cells.lookup ("deck" : Str) = some c := by
    obtain ⟨c', hc'⟩ := Option.isSome_iff_exists.mp (hcl2 _ h12)
    have := hcl1 _ c' hc'
    rw [L.lk] at this
    cases this
    exact hc'
  have kc : ∀ {h'}, KeptOff W h₁ h' → Kept hc h' := fun k b o e => k b o (fun q => by rw [hWc b q] at e; cases e) (L₁.F.kept _ _ e)
  have dkd : ∀ {h' : Heap}, KeptOff W h₁ h' → (∃ o, h'.get? h₁.objs.size = some o) → (∃ o, h'.get? H1.objs.size = some o) → (∃ o, h'.get? H2.objs.size = some o) → Deck dk h' → DOk D' h' := fun k i1 i2 i3 dd a ha => by
    by_cases q : W a
    · rcases q with q | q | q | q
      · exact q ▸ i1
      · exact q ▸ i2
      · exact q ▸ i3
      · obtain ⟨_, _, _, e, _, _⟩ := dd
        exact ⟨_, q ▸ e⟩
    · rcases ha with ha | ha
      · obtain ⟨o, e⟩ := L₁.F.dok a ha
        exact ⟨o, k a o q e⟩
      · exact absurd ha q
  have WR := Walks.range (prog := prog) (w := w) hh h₁.objs.size 0 1 n
  have loop : codeAny (model prog w) A (.compLoop (.ListComp elt [⟨.Name t tp, .Call (.Name ("range" : Str) rp) [l] [] cp, [], 0⟩] scope lp) 0 (.ref h₁.objs.size) (.ref H1.objs.size) cenv)
      (compPost (model prog w) A Ex (some (assign (.Name y yp) env)) (fun _ s' => Q .next s') (.ref H1.objs.size) H2.objs.size) { s with heap := h₂, toks := tk₀ + 1 + 1 + ([] : List (Str × Value)).length } := by
    refine comp_loop
      (fun k s' => ∃ h' tk m' i us out, s' = { s with heap := h', toks := tk } ∧ IsRangeIter h' h₁.objs.size (0 + ((i : Nat) : Int) * 1) ((n : Int) - (i : Int)) 1 ∧ h'.PlainList H1.objs.size us ∧ h'.Ns H2.objs.size m' ∧ IntsAre us.toList out ∧
        (∀ v ∈ out, v ∈ [(9 : Int), 97, 98, 32]) ∧ out.length = i ∧ i ≤ n ∧ k = n + 1 - i ∧ KeptOff W h₁ h' ∧ Deck dk h') ?_ (n + 1)
      ⟨h₂, _, _, 0, #[], [], rfl, hit, hacc, hns₂, .nil, (fun v hv => nomatch hv), rfl, Nat.zero_le _, rfl, old.off, L₁.deck.keep old⟩
    intro k s' hI
    refine ex6 hI fun h' tk m' i us out hI => and11 hI fun es hit' hacc' hns' hout hvals hol hi ek hk' hdk' => ?_
    clear hI
    subst es ek
    by_cases hlt : i < n
    · refine WR.item i _ _ _ hlt hit' fun v h₃ tk₃ hP hit₃ hk₃ => ?_
      refine hP.elim fun tv ev => ?_
      clear hP
      subst ev
      refine wpAny_pure ?_
      have k₃ : KeptOff (IsL h₁.objs.size) h' h₃ := fun b o hb e => hk₃ b o (fun q => hb (List.mem_singleton.mp q)) e
      have hk₃' : KeptOff W h₁ h₃ := fun b o hb e => k₃ b o (fun q => hb (.inl q)) (hk' b o hb e)
      have hns₃ : h₃.Ns H2.objs.size m' := hns'.at' fun o e => k₃ _ o (fun q => e3 q.symm) e
      refine assign_sound (D := D') (ρ := []) (ρ' := []) (t := some 1) (ts := []) (x := .int (0 + (i : Int) * 1)) hcok hh (.inr (.inr (.inr (.inl rfl)))) (by rw [hcn]; exact h9) rfl (fun j x k v e1 e2 => nomatch e2) (.int _ _) ⟨m', hns₃⟩ fun h₄ tk₄ hk₄ hn₄ hI₄ => ?_
      refine hn₄.elim fun m₄ hn₄ => ?_
      have hk₄' : KeptOff W h₁ h₄ := fun b o hb e => hk₄ b o (fun q => hb (.inr (.inr (.inl q)))) (hk₃' b o hb e)
      have it₄ : IsRangeIter h₄ h₁.objs.size (0 + ((i + 1 : Nat) : Int) * 1) ((n : Int) - ((i + 1 : Nat) : Int)) 1 := hk₄ _ _ (fun q => e3 q) hit₃
      obtain ⟨q₃, acc₃⟩ := hacc'
      have acc₄ : h₄.get? H1.objs.size = some _ := hk₄ _ _ (fun z => e2 z) (k₃ _ _ e1 acc₃)
      have dk₄ : Deck dk h₄ := hdk'.at fun o e => hk₄ _ o (fun q => dk3 q.symm) (k₃ _ o (fun q => dk1 q.symm) e)
      refine wpAny_tests_nil ?_
      have kc₄ := kc hk₄'
      have cell₄ : h₄.IsCell c (some (.ref dk)) := ⟨co, hk₄' c co hWcell ce, cd⟩
      refine sndD hT G G2 hD hB (.inr (.inr (.inr (.inr rfl))) : D' dk) (.pick [9, 97, 98, 32] 4) elt _ { s with heap := h₄, toks := tk₄ } (ρ := []) (hcn ▸ h2) trivial ⟨hcok, F.room, F.base.keep kc₄, (fun j x k v e1 e2 => nomatch e2), dkd hk₄' ⟨_, it₄⟩ ⟨_, acc₄⟩ (let ⟨o, _, _, e, _⟩ := hn₄; ⟨o, e⟩) dk₄⟩
        (.inr ⟨hck, c, hcl, cell₄⟩) dk₄ fun h₅ tk₅ w5 v5 hv5 k₅ d₅ r₅ => ?_
      refine hv5.elim fun kk hv5 => hv5.elim fun xx hv5 => ?_
      have hxx := hv5.2.2.1
      rw [hv5.2.2.2] at r₅
      clear hv5
      refine r₅.int_el fun t5 => ?_
      have it₅ : IsRangeIter h₅ h₁.objs.size (0 + ((i + 1 : Nat) : Int) * 1) ((n : Int) - ((i + 1 : Nat) : Int)) 1 := k₅ _ _ (fun q => dk1 q) it₄
      have acc₅ : h₅.get? H1.objs.size = some _ := k₅ _ _ (fun q => dk2 q) acc₄
      have hn₅ : h₅.Ns H2.objs.size m₄ := hn₄.at' fun o e => k₅ _ o (fun q => dk3 q) e
      have hk₅' : KeptOff W h₁ h₅ := fun b o hb e => k₅ b o (fun q => hb (.inr (.inr (.inr q)))) (hk₄' b o hb e)
      refine wpAny_list_append_plain ⟨q₃, acc₅⟩ (hsz := ints_size hout (Nat.le_trans (Nat.le_of_eq hol) hi) hn) fun h₇ acc₇ hs₇ => ?_
      refine ⟨n + 1 - (i + 1), step_lt hlt, h₇, tk₅, m₄, i + 1, us.push (.int xx t5), out ++ [xx], rfl, hs₇.extBut _ _ (Ne.symm e1) it₅, acc₇, hn₅.sameBut hs₇ (Ne.symm e2), ?_, ?_, snoc_len hol, hlt, rfl, fun b o hb e => hs₇.extBut b o (fun q => hb (.inr (.inl q))) (hk₅' b o hb e), d₅.at fun o e => hs₇.extBut _ _ (fun q => dk2 q.symm) e⟩
      · rw [Array.toList_push]
        exact ints_snoc hout
      · intro v hv
        rcases List.mem_append.mp hv with hv | hv
        · exact hvals v hv
        · rw [List.mem_singleton.mp hv]
          exact List.mem_of_getElem? hxx
    · have hin : i = n := n_eq hi hlt
      subst hin
      refine WR.done _ _ _ hit' fun h₃ tk₃ hk₃ => ?_
      have k₃ : KeptOff (IsL h₁.objs.size) h' h₃ := fun b o hb e => hk₃ b o (fun q => hb (List.mem_singleton.mp q)) e
      have hk₃' : KeptOff W h₁ h₃ := fun b o hb e => k₃ b o (fun q => hb (.inl q)) (hk' b o hb e)
      have dk₃ : Deck dk h₃ := hdk'.at fun o e => k₃ _ o (fun q => dk1 q.symm) e
      have notD : ∀ a, h₁.get? a = none → ¬ D a := fun a e q => by
        obtain ⟨o, e'⟩ := L₁.F.dok a q
        rw [e] at e'; cases e'
      have hns₃ : h₃.Ns H2.objs.size m' := hns'.at' fun o e => k₃ _ o (fun q => e3 q.symm) e
      have L₃ : LF mg mb fns B A env C D₁ hc ρ dk c h₃ := L₁.alterW (W := W) hWD (fun a ha => ha.imp id fun q => .inr (.inr (.inl q))) hk₃' hWL hWcell hWc (fun a q => .inl (L₁.F.cd a q)) (fun a ha => by
        rcases ha with ha | ha
        · by_cases q : W a
          · rcases q with q | q | q | q
            · exact absurd ha (notD a (q ▸ f1))
            · exact absurd ha (notD a (q ▸ f2))
            · exact absurd ha (notD a (q ▸ f3))
            · obtain ⟨_, _, _, e, _, _⟩ := dk₃
              exact ⟨_, q ▸ e⟩
          · obtain ⟨o, e⟩ := L₁.F.dok a ha
            exact ⟨o, hk₃' a o q e⟩
        · obtain ⟨o, _, _, e, _⟩ := hns₃
          exact ⟨o, ha ▸ e⟩) dk₃
      obtain ⟨q₃, acc'⟩ := hacc'
      have acc₃ : h₃.get? H1.objs.size = some (lstO us q₃) := k₃ _ _ e1 acc'
      have hr : Rep h₃ D₁ (.ref H1.objs.size) (I out) := .list (fun q => by
        rcases q with q | q
        · exact notD _ f2 q
        · exact e2 q) acc₃ (reps_ints hout) (I_len hol hn)
      show wpAny _ A (assign (.Name y yp) env (.ref H1.objs.size)) _ _ _
      refine wpAny_assign_Name (L₃.store (s := { s with heap := h₃, toks := tk₃ }) h1 hr fun h₄ tk₄ k₄ mv L₄ => ?_)
      refine ⟨m', hns₃.at' fun o e => k₄ _ o (fun q => notD _ f3 (L₁.F.cd _ q)) e, fun h₅ hs₅ => ?_⟩
      have hs₅ : Heap.SameBut H2.objs.size h₄ h₅ := hs₅
      have L₅ : LF mg mb fns B A env C D hc (ρ.set 4 (some (I out))) dk c h₅ := L₄.alterW (W := IsL H2.objs.size) (fun a q => .inl (.inr q)) (fun a q => .inl (.inl q)) (fun b o hb e => (hs₅.2 b hb).trans e)
        (fun q => hWL (.inr (.inr (.inl q)))) (fun q => hWcell (.inr (.inr (.inl q)))) (fun a q => hWc a (.inr (.inr (.inl q)))) (fun a q => L₁.F.cd a q) (fun a ha => by
          have hne : a ≠ H2.objs.size := by
            rintro rfl
            exact notD _ f3 ha
          obtain ⟨o, e⟩ := L₄.F.dok a (.inl ha)
          exact ⟨o, (hs₅.2 a hne).trans e⟩) (L₄.deck.at fun o e => (hs₅.2 dk (fun q => dk3 q.symm)).trans e)
      exact P h₅ tk₄ _ out hol hvals L₅
  refine codeAny_compStart_list loop ?_
  exact WR.self 0 _ _ _ hit loop
end
end Mine
end

section
open PySem PyProof.Rows
namespace Mine

noncomputable def bLoop : List S := [.iff (.bop false [.cmp .NotEq (.call 1 [.loc 4, .loc 9, .loc 2]) (.loc 11), .cmp .NotEq (.call 3 [.loc 4, .loc 11, .loc 2]) (.loc 9)]) [.ret (.bool false)] [],
  .iff (.cmp .NotEq (.call 3 [.loc 4, .loc 12, .loc 2]) (.add (.loc 9) (.int 1))) [.ret (.bool false)] []]

noncomputable def s7Chk (fns : List FnD) (B : Nat) (body : List S) (sc : Names) (st : Stmt) : Bool :=
  mFor (fun t => on (xTup t) fun q => on (two q.1) fun r => mName (isSto sc 9) r.1 && mTup (matchTs sc [10, 11, 12]) r.2) (mCall (fun f => f == ("enumerate" : Str) && isGlo sc f) (fun xs => on (one xs) fun l => okArg l && matchE fns B (.call 17 [.loc 4, .loc 2]) sc l)) (matchSs fns B body sc) st
@[elab_as_elim] theorem s7Chk_el {fns : List FnD} {B : Nat} {body : List S} {sc : Names} {P : Stmt → Prop} {st : Stmt} (h : s7Chk fns B body sc st = true)
    (k : ∀ p pp elts k2 tp2 k1 tp1 fp l cp xs sp, isSto sc 9 p = true → matchTs sc [10, 11, 12] elts = true → isGlo sc "enumerate" = true → okArg l = true → matchE fns B (.call 17 [.loc 4, .loc 2]) sc l = true → matchSs fns B body sc xs = true →
      P (.For (.Tuple [.Name p pp, .Tuple elts k2 tp2] k1 tp1) (.Call (.Name "enumerate" fp) [l] [] cp) xs [] sp)) : P st :=
  mFor_el h fun t i xs sp h1 h2 h3 => on_el h1 fun q h4 h => on_el h fun r h5 h => and_el h fun h6 h7 => mCall_el (P := fun i => P (.For t i xs [] sp)) h2 fun f fp ls cp hf hl => mOne_el (P := fun ls => P (.For t (.Call (.Name f fp) ls [] cp) xs [] sp)) hl fun l hl => and_el hf fun hf1 hf2 => and_el hl fun hl1 hl2 => by
    rw [xTup_inv h4, two_inv h5, beq_inv hf1]
    exact mName_el (P := fun a => P (.For (.Tuple [a, r.2] q.2.1 q.2.2) _ xs [] sp)) h6 fun p pp h8 => mTup_el (P := fun b => P (.For (.Tuple [.Name p pp, b] q.2.1 q.2.2) _ xs [] sp)) h7 fun elts k2 tp2 h9 => k _ _ _ _ _ _ _ _ _ _ _ _ h8 h9 (beq_inv hf1 ▸ hf2) hl1 hl2 h3
theorem mem_pair {a b : Addr} {x : Addr} : x ∈ [a, b] ↔ x = a ∨ x = b := by simp

section
variable {prog : Program} {w : World} {mg mb : Str → Option Value} {fns : List FnD} {T : Nat → List PV → Option PV} {B N : Nat}
variable {A : Around} {Ex : Value → Shared → Prop} {s : Shared} {env : Env} {C D : Addr → Prop} {hc : Heap} {ρ : Rho}
variable (hT : ∀ f, f < B → Contract prog w mg mb fns T f) (G : Glo mg mb) (G2 : Glo2 mg mb)
include hT G G2

theorem enum_stmt {x : Stmt} {body : List S} {xs : List PV} {Q : Flow → Shared → Prop} (F : Frm mg mb fns B A env C D No hc ρ none s.heap) (hm : s7Chk fns B body env.scope.names x = true) (hx : ev T (.call 17 [.loc 4, .loc 2]) ρ = some (.list xs))
    (htup : ∀ x ∈ xs, ∃ a b c, x = .tup [a, b, c]) (inv : Nat → Rho → Prop) (one : ∀ i ρ', inv i ρ' → One env ρ') (h0 : inv 0 ρ)
    (step : ∀ (i : Nat) ρ' a b c, inv i ρ' → xs[i]? = some (.tup [a, b, c]) → ∃ ρ'', exSs T N body ((((ρ'.set 9 (some (.int (i : Int)))).set 10 (some a)).set 11 (some b)).set 12 (some c)) none = some (.next, ρ'', none) ∧ inv (i + 1) ρ'')
    (P : ∀ h' tk' ρ', inv xs.length ρ' → Frm mg mb fns B A env C D No hc ρ' none h' → Q .next { s with heap := h', toks := tk' }) : wpAny (model prog w) A (exec x env) Q Ex s := by
  refine s7Chk_el (P := fun x => wpAny (model prog w) A (exec x env) Q Ex s) hm fun p pp elts k2 tp2 k1 tp1 fp l cp bodyX sp h1 h2 h4 h5 h6 h7 => ?_
  clear hm
  have R := F.rdy
  have hh := F.room.handled
  refine wpAny_For (hs := fun _ => rfl) (wpAny_Call_NameR (blt_name F.ok R.base h4 G2.enum (PyProof.Rows.callWith_type (by rw [star_ok h5]; rfl) (args_eval h5 (wpAny_items_cons (he := star_ok h5 _) ((snd hT G (.call 17 [.loc 4, .loc 2])).1 _ A env ρ (.list xs) D s _ _ h6 hx R fun h₁ tk₁ w1 k₁ r1 => wpAny_items_nil ?_))))))
  refine r1.list_el fun la vs m hDl hg hr hlx => ?_
  have F₁ := F.keep k₁
  have hL : h₁.IsList la vs := ⟨_, hg, rfl, m, rfl⟩
  have hlen : vs.size = xs.length := hr.size
  refine call_enumerate_list (s := { s with heap := h₁, toks := tk₁ }) hL fun h₂ he hit hz hk₂ => wpAny_pyIter_enum he ?_
  have he : IsEnum h₂ (h₁.objs.size + 1) h₁.objs.size 0 .none := he
  have hit : h₂.IsListIter h₁.objs.size la 0 := hit
  show codeAny _ A (.forLoop _ (.ref (h₁.objs.size + 1)) _ _ _) _ _
  generalize hE : h₁.objs.size + 1 = e at he ⊢
  generalize hI : h₁.objs.size = it at he hit hE
  have hei : e ≠ it := ne_add1 hE.symm
  have fe : h₁.get? e = none := fresh_ge (hI ▸ hE ▸ Nat.le_succ _)
  have fi : h₁.get? it = none := fresh_ge (Nat.le_of_eq hI)
  have hle : la ≠ e := ne_of_none fe hg
  have hli : la ≠ it := ne_of_none fi hg
  have W := WalksT.enumerate (prog := prog) (w := w) hh e it la hei hle hli vs
  let Wr : Addr → Prop := fun a => a = e ∨ a = it
  let D' : Addr → Prop := fun a => D a ∨ Wr a
  have notD : ∀ a, h₁.get? a = none → ¬ D a := fun a q qd => by
    obtain ⟨o, e'⟩ := F₁.dok a qd
    rw [q] at e'; cases e'
  have hWn : ∀ a, Wr a → h₁.get? a = none := fun a q => q.elim (fun q => q ▸ fe) (fun q => q ▸ fi)
  have hWc : ∀ a, Wr a → hc.get? a = none := fun a q => by
    cases e' : hc.get? a with
    | none => rfl
    | some o => have := F₁.kept _ _ e'; rw [hWn a q] at this; cases this
  have hWC : ∀ a, Wr a → ¬ C a := fun a q qc => notD a (hWn a q) (F.cd a qc)
  have hWL : ¬ Wr env.locals := fun q => hWC _ q F.cl
  have wr_iff' : ∀ b, ¬ Wr b → b ∉ [e, it] := fun b hb q => hb (mem_pair.mp q)
  have dokD' : ∀ {h h' : Heap}, DOk D h → KeptOff Wr h h' → (∃ o, h'.get? e = some o) → (∃ o, h'.get? it = some o) → DOk D' h' := fun hd k i1 i2 a ha => by
    by_cases q : Wr a
    · rcases q with q | q
      · exact q ▸ i1
      · exact q ▸ i2
    · rcases ha with ha | ha
      · obtain ⟨o, e'⟩ := hd a ha
        exact ⟨o, k a o q e'⟩
      · exact absurd ha q
  have F₂ : Frm mg mb fns B A env C D' No hc ρ none h₂ :=
    F₁.alterW (W := Wr) (one 0 ρ h0) (fun a q => .inr (hWn a q)) (fun a q => q) (fun b o _ e' => hk₂ b o e') hWL hWc (fun a q => .inl (F.cd a q)) (fun a q => q.elim) (dokD' F₁.dok (fun b o _ e' => hk₂ b o e') ⟨_, he⟩ (let ⟨o, e', _⟩ := hit; ⟨o, e'⟩))
  refine codeAny_forLoop_any
    (fun k s' => ∃ h' tk i ρ', s' = { s with heap := h', toks := tk } ∧ ((∃ old, IsEnum h' e it ((i : Nat) : Int) old) ∧ h'.IsListIter it la i ∧ h'.IsList la vs) ∧ Frm mg mb fns B A env C D' No hc ρ' none h' ∧ inv i ρ' ∧ i ≤ xs.length ∧ k = xs.length + 1 - i ∧
      KeptOff (fun a => C a ∨ Wr a) h₁ h') ?_ (xs.length + 1)
    ⟨h₂, tk₁, 0, ρ, rfl, ⟨⟨_, he⟩, hit, hL.at fun o e' => hk₂ _ _ e'⟩, F₂, h0, Nat.zero_le _, rfl, fun b o _ e' => hk₂ b o e'⟩
  intro k s' hI
  refine hI.elim fun h' hI => hI.elim fun tk hI => hI.elim fun i hI => hI.elim fun ρ' hI => and7 hI fun es hst F' hinv hi ek hk' => ?_
  clear hI
  subst es ek
  have hWD' : ∀ a, Wr a → D' a ∨ h'.get? a = none := fun a q => .inl (.inr q)
  by_cases hlt : i < xs.length
  · refine W.item i _ _ _ (hlen ▸ hlt) hst fun Tt vals h₃ tk₃ hP hTs hTt hMid hk₃ => ?_
    refine W.go _ _ _ i Tt _ _ _ hMid fun h₄ hst₄ hk₄ => ?_
    refine hP.elim fun t hP => hP.elim fun v hP => ?_
    have hv := hP.1
    obtain rfl := hP.2
    clear hP
    have hTap : ¬ Wr Tt := fun q => W.apart i Tt h₃ hMid (mem_pair.mpr q)
    have kW : KeptOff Wr h' h₄ := fun b o hb e' => hk₄ b o (wr_iff' b hb) (hk₃ b o (wr_iff' b hb) e')
    have hk₄' : KeptOff (fun a => C a ∨ Wr a) h₁ h₄ := fun b o hb e' => kW b o (fun q => hb (.inr q)) (hk' b o hb e')
    have hTt₄ : h₄.IsTuple Tt #[.int i t, v] := by
      obtain ⟨o, e1, e2, e3⟩ := hTt
      exact ⟨o, hk₄ _ _ (wr_iff' _ hTap) e1, e2, e3⟩
    have F₄ : Frm mg mb fns B A env C D' No hc ρ' none h₄ := by
      refine F'.alterW (W := Wr) (one i ρ' hinv) hWD' (fun a q => .inl q) kW hWL hWc F'.cd (fun a q => q.elim) (fun a ha => ?_)
      by_cases q : Wr a
      · obtain ⟨⟨old, i1⟩, ⟨o2, i2, _⟩, _⟩ := hst₄
        rcases q with q | q
        · exact ⟨_, q ▸ i1⟩
        · exact ⟨_, q ▸ i2⟩
      · obtain ⟨o, e'⟩ := F'.dok a ha
        exact ⟨o, kW a o q e'⟩
    refine (hr.getV (show vs.toList[i]? = some v from Array.getElem?_toList ▸ hv)).elim fun xv hxv => (htup xv (List.mem_of_getElem? hxv.1)).elim fun a q => q.elim fun b q => q.elim fun c q => ?_
    obtain rfl := q
    have rv := hxv.2
    have hxv := hxv.1
    have rv₄ : Rep h₄ D' v (.tup [a, b, c]) := rv.move fun b o hDb e' => by
      have hbW : ¬ Wr b := fun q => by rw [hWn b q] at e'; cases e'
      exact ⟨fun q => q.elim hDb hbW, hk₄' b o (fun q => q.elim (fun q => hDb (F.cd b q)) hbW) e'⟩
    refine wpAny_assign_Tuple hh hTt₄ rfl (by rfl) fun h₅ he₅ => ?_
    have kk₅ : Kept h₄ h₅ := extBut_kept he₅
    show wpAny _ A (do holding [v] (assign (.Name p pp) env (.int i t)); do holding [] (assign (.Tuple elts k2 tp2) env v); pure ()) _ _ _
    have F₅ := F₄.keep kk₅
    refine wpAny_bind (wpAny_holding (wpAny_assign_Name (F₅.store (s := { s with heap := h₅, toks := tk₃ }) h1 rfl (.int (i : Int) t) fun h₆ tk₆ k₆ mv F₆ => ?_)))
    refine wpAny_bind (wpAny_holding (F₆.assign (s := { s with heap := h₆, toks := tk₆ }) (t := none) (ts := [10, 11, 12]) (x := .tup [a, b, c]) (target := .Tuple elts k2 tp2) h2 rfl rfl (mv _ _ (rv₄.keep kk₅)) fun h₇ tk₇ k₇ F₇ => wpAny_pure ?_))
    refine (step i ρ' a b c hinv hxv).elim fun ρ'' hs => ?_
    have hex := hs.1
    have hinv' := hs.2
    refine sndSs hT G body _ A env C D' No hc _ none _ { s with heap := h₇, toks := tk₇ } _ _ h7 hex F₇ ?_
    intro h₈ tk₈ k₈ F₈
    have kC : KeptOff C h₄ h₈ := fun b o hb e' => k₈ b o hb (k₇ b o hb (k₆ b o hb (kk₅ b o e')))
    refine ⟨xs.length + 1 - (i + 1), step_lt hlt, h₈, tk₈, i + 1, ρ'', rfl, ?_, F₈, hinv', hlt, rfl, fun b o hb e' => kC b o (fun q => hb (.inl q)) (hk₄' b o hb e')⟩
    refine W.frame (i + 1) h₄ h₈ hst₄ fun b hb o e' => kC b o ?_ e'
    intro q
    rcases List.mem_cons.mp hb with rfl | hb
    · exact hWC _ (.inl rfl) q
    · rcases List.mem_cons.mp hb with rfl | hb
      · exact hWC _ (.inr rfl) q
      · rw [List.mem_singleton.mp hb] at q
        exact hDl (F.cd _ q)
  · have hin : i = xs.length := n_eq hi hlt
    have hst' : ((∃ old, IsEnum h' e it ((vs.size : Nat) : Int) old) ∧ h'.IsListIter it la vs.size ∧ h'.IsList la vs) := by
      rw [hlen, ← hin]; exact hst
    refine W.done _ _ _ hst' fun h₃ tk₃ hk₃ => wpAny_execs_nil ?_
    have kW : KeptOff Wr h' h₃ := fun b o hb e' => hk₃ b o (wr_iff' b hb) e'
    refine P h₃ tk₃ ρ' (hin ▸ hinv) ?_
    exact F'.alterW (W := Wr) (one i ρ' hinv) hWD' (fun a q => .inl (.inl q)) kW hWL hWc F.cd (fun a q => q.elim) (fun a ha => by
      obtain ⟨o, e'⟩ := F'.dok a (.inl ha)
      exact ⟨o, kW a o (fun q => notD a (hWn a q) ha) e'⟩)
end
end Mine
end

section
open PySem PyProof.Rows
namespace Mine

theorem cell_get {w : Int} : ∀ {l : List Int} {c : Int} {i : Nat} {a b d : PV}, (cells w c l)[i]? = some (.tup [a, b, d]) → i < l.length ∧ b = .int (col w c (l.take i)) ∧ d = .int (col w c (l.take (i + 1)))
  | [], _, i, a, b, d, h => by simp [cells] at h
  | x :: r, c, 0, a, b, d, h => by
    simp only [cells, List.getElem?_cons_zero, Option.some.injEq, PV.tup.injEq, List.cons.injEq, and_true] at h
    obtain ⟨rfl, rfl, rfl⟩ := h
    exact ⟨by simp, rfl, rfl⟩
  | x :: r, c, i + 1, a, b, d, h => by
    simp only [cells, List.getElem?_cons_succ] at h
    obtain ⟨h1, h2, h3⟩ := cell_get h
    exact ⟨by simp; omega, h2, h3⟩

theorem pl_col {w : Int} (hw : WOk w) : ∀ (l : List Int) (c : Int) (i : Nat), i ≤ l.length → pl w (col w c (l.take i)) c l = i
  | l, c, 0, h => by simp only [List.take_zero, col]; exact pl_ge (Int.le_refl _)
  | [], c, i + 1, h => by simp at h
  | x :: r, c, i + 1, h => by
    have n1 := nx_lt (c := c) (x := x) hw
    have hb := col_bound hw (r.take i) (nx w c x)
    simp only [List.take_succ_cons, col]
    rw [pl, if_neg (by omega), pl_col hw r _ i (by simpa using h), Nat.add_comm]

noncomputable def st6 : S := .iff (.cmp .NotEq (.call 2 [.loc 4, .loc 2]) (.call 19 [.loc 4, .loc 2])) [.ret (.bool false)] []
noncomputable def st8 : S := .ret (.bop true [.call 24 [.loc 4, .loc 5, .loc 7, .loc 6, .loc 2], .cmp .Eq (.loc 4) (.loc 8)])

section
variable {wide : Int} {row text : List Int} {r0 : Option PV} {t : Rho} {n : Nat} {low high : Int} (hw : WOk wide) (hrow : row.length ≤ 10)
noncomputable abbrev lawR (r0 : Option PV) (wide : Int) (n : Nat) (row : List Int) (low : Int) (text : List Int) (high : Int) (v9 v10 v11 v12 : Option PV) (t : Rho) : Rho :=
  r0 :: none :: some (.int wide) :: some (.int n) :: some (I row) :: some (.int low) :: some (I text) :: some (.int high) :: some (I row) :: v9 :: v10 :: v11 :: v12 :: t
include hw hrow
theorem law_test : ∃ out, exS (tt bs 25) 100 st6 (lawR r0 wide n row low text high none none none none t) none = some out ∧ out = (.next, lawR r0 wide n row low text high none none none none t, none) := by
  refine ⟨_, ?_, rfl⟩
  have h := e_cmp (e_call (T := tt bs 25) (ρ := lawR r0 wide n row low text high none none none none t) (e2 (e_loc (i := 4) rfl) (e_loc (i := 2) rfl)) (e_tc (R2 hw (le_up hrow (by decide))) (by decide))) (e_call (e2 (e_loc (i := 4) rfl) (e_loc (i := 2) rfl)) (e_tc (R19 hw (le_up hrow (by decide))) (by decide))) (ne_f rfl)
  exact e_one _ h rfl
theorem law_turn {i : Nat} {x : PV} (hi : i < row.length) : ∃ out, exSs (tt bs 25) 100 bLoop (lawR r0 wide n row low text high (some (.int (i : Int))) (some x) (some (.int (col wide 0 (row.take i)))) (some (.int (col wide 0 (row.take (i + 1))))) t) none = some out ∧
    out = (.next, lawR r0 wide n row low text high (some (.int (i : Int))) (some x) (some (.int (col wide 0 (row.take i)))) (some (.int (col wide 0 (row.take (i + 1))))) t, none) := by
  have p1 := pl_col hw row 0 i (Nat.le_of_lt hi)
  have p2 := pl_col hw row 0 (i + 1) hi
  refine Go.iff (e_bop (b_go (e_cmp (e_call (e3 (e_loc rfl) (e_loc rfl) (e_loc rfl)) (e_tc (R1 hw (le_up hrow (by decide)) (Int.natCast_nonneg i)) (by decide))) (e_loc rfl) (ne_f rfl)) (b_go (e_cmp (e_call (e3 (e_loc rfl) (e_loc rfl) (e_loc rfl)) (e_tc (R3 hw (le_up hrow (by decide))) (by decide))) (e_loc rfl) (ne_f (congrArg _ p1))) b_nil))) (Go.nil ?_)
  exact Go.iff (e_cmp (e_call (e3 (e_loc rfl) (e_loc rfl) (e_loc rfl)) (e_tc (R3 hw (le_up hrow (by decide))) (by decide))) (e_add (e_loc rfl) e_int add_ii) (ne_f (by rw [p2]; rfl))) (Go.nil (Go.nil rfl))
theorem law_last {v9 v10 v11 v12 : Option PV} (ht : text.length ≤ 1000) (hl : C1000 low) (hh : C1000 high) (hlh : low ≤ high) : exS (tt bs 25) 100 st8 (lawR r0 wide n row low text high v9 v10 v11 v12 t) none = some (.ret (.bool true), lawR r0 wide n row low text high v9 v10 v11 v12 t, none) := by
  have h := e_bop (b_go (e_call (T := tt bs 25) (ρ := lawR r0 wide n row low text high v9 v10 v11 v12 t) (e5 (e_loc (i := 4) rfl) (e_loc (i := 5) rfl) (e_loc (i := 7) rfl) (e_loc (i := 6) rfl) (e_loc (i := 2) rfl)) (e_tc (R24 hw hrow ht hl hh hlh) (by decide))) (b_go (e_cmp (e_loc (i := 4) rfl) (e_loc (i := 8) rfl) (eql_t rfl)) b_nil))
  exact e_one _ h rfl
end

noncomputable def oneChk (sc : Names) : Bool := (List.range sc.length).all fun i => match sc[i]? with
  | some (_, .cell) => i == 1
  | _ => true
theorem one_of {env : Env} {ρ : Rho} (h : oneChk env.scope.names = true) (hρ : ρ[1]? = some none) : One env ρ := by
  intro i x v e1 e2
  have hi : i < env.scope.names.length := (List.getElem?_eq_some_iff.mp e1).1
  have := List.all_eq_true.mp h i (List.mem_range.mpr hi)
  rw [e1] at this
  have : i = 1 := by simpa using this
  subst this
  rw [hρ] at e2
  cases e2

noncomputable def zipOk : List (Stmt → Bool) → List Stmt → Bool
  | [], xs => xs.isEmpty
  | f :: fs, xs => on xs.head? f && zipOk fs xs.tail
theorem zipOk_cons {f : Stmt → Bool} {fs : List (Stmt → Bool)} {xs : List Stmt} (h : zipOk (f :: fs) xs = true) : ∃ x ys, xs = x :: ys ∧ f x = true ∧ zipOk fs ys = true := by
  obtain ⟨h1, h2⟩ := and_inv h
  obtain ⟨x, h3, h4⟩ := on_inv h1
  cases xs with
  | nil => cases h3
  | cons y ys => cases h3; exact ⟨_, ys, rfl, h4, h2⟩
noncomputable def lawBody (fns : List FnD) (B : Nat) (sc : Names) (body : List Stmt) : Bool :=
  zipOk [s1Chk fns B sc, swpChk fns B 2 3 (.pick [8, 4, 2, 3, 1] 5) (.plus (.int 1) 7) sc, s3Chk fns B sc, swpChk fns B 5 6 (.draw 14) (.cut [88, 89, 9] 4) sc,
    swpChk fns B 7 8 (.plus (.loc 5) 9) (.copy 4) sc, matchS fns B st6 sc, s7Chk fns B bLoop sc, matchS fns B st8 sc] body
noncomputable def lawChk (fns : List FnD) (d : FnD) : Bool :=
  fnChk d ["script"] && parChk d.params ["script"] && oneChk d.scope.names && d.scope.names.lookup ("deck" : Str) == some NameKind.cell && decide (d.scope.names.length = 23) && lawBody fns 25 d.scope.names d.body

section
variable {prog : Program} {w : World} {mg mb : Str → Option Value} {fns : List FnD}

/-- the frame of the law when it begins -/
theorem law_frame {A : Around} {env : Env} {s : Shared} {d : FnD} {l c : Addr} {vs : Array Value} {m : Nat} {ns : List Int} {h₁ : Heap} {n : Nat} (F : Begun s d ["script"] [.ref l] env h₁) (room : Room A n) (hbase : Base mg mb fns s.heap) (hlk : env.cells.lookup ("deck" : Str) = some c)
    (hl : s.heap.get? l = some (lstO vs m)) (hI : IntsAre vs.toList ns) (hlen : ns.length ≤ 100) (hpar : ∃ k, env.scope.names[0]? = some (("script" : Str), k)) :
    Frm mg mb fns n A env (fun a => a = env.locals ∨ a = c) (fun a => a = env.locals ∨ a = c) No s.heap (rho0 23 [I ns]) none h₁ := by
  obtain ⟨hc₁, hc₂⟩ := F.cells _ _ hlk (by decide)
  have hoff : ∀ a, (a = env.locals ∨ a = c) → s.heap.get? a = none := fun a ha => by
    rcases ha with ha | ha
    · rw [ha, F.locals]; exact get_size_none _
    · rw [ha]; exact hc₂
  refine ⟨F.ok, room, hbase, F.kept, hoff, ?_, ?_, F.ns, .inl rfl, fun a q => q, fun a q => q.elim, OwnInv.none⟩
  · intro i x k v e1 e2
    have := rho0_get e2
    cases i with
    | succ i => simp at this
    | zero =>
      simp at this
      subst this
      obtain ⟨k', e1'⟩ := hpar
      rw [e1'] at e1
      cases e1
      exact ⟨_, F.loads 0 _ _ rfl rfl, .list (fun q => by rw [hoff l q] at hl; cases hl) (F.kept _ _ hl) (reps_ints hI) (by simp; omega)⟩
  · intro a ha
    rcases ha with ha | ha
    · obtain ⟨_, o, _, _, e, _⟩ := F.ns
      exact ⟨o, ha ▸ e⟩
    · obtain ⟨o, e, _⟩ := hc₁
      exact ⟨o, ha ▸ e⟩
end

section
variable {prog : Program} {w : World} {mg mb : Str → Option Value}

theorem snd6 {T : Nat → List PV → Option PV} (G : Glo mg mb) (hT : ∀ f, f < 25 → Contract prog w mg mb fns T f) : SS prog w mg mb fns 25 (matchS fns 25 st6) (exS T 100 st6) := ss_iff (snd hT G _) (sndSs hT G _) (sndSs hT G _)
theorem snd8 {T : Nat → List PV → Option PV} (G : Glo mg mb) (hT : ∀ f, f < 25 → Contract prog w mg mb fns T f) : SS prog w mg mb fns 25 (matchS fns 25 st8) (exS T 100 st8) := ss_ret (snd hT G _)
theorem law_call {d dd : FnD} {a l : Addr} {A : Around} {s : Shared} {vs : Array Value} {m : Nat} {ns : List Int} {Q Ex : Value → Shared → Prop} (G : Glo mg mb) (G2 : Glo2 mg mb) (hT : ∀ f, f < 25 → Contract prog w mg mb fns (tt bs 25) f)
    (hd : fns[25]? = some d) (hchk : lawChk fns d = true) (hD : DrawAt fns dd) (ha : mg d.name = some (.ref a)) (room : Room A 27) (hbase : Base mg mb fns s.heap)
    (hl : s.heap.get? l = some (lstO vs m)) (hI : IntsAre vs.toList ns) (hlen : ns.length ≤ 100)
    (P : ∀ h' tk', Kept s.heap h' → Q (.bool true) { s with heap := h', toks := tk' }) : wpAny (model prog w) A (call (.ref a) [.ref l]) Q Ex s := by
  unfold lawChk at hchk
  simp only [Bool.and_eq_true, beq_iff_eq, decide_eq_true_eq] at hchk
  obtain ⟨⟨⟨⟨⟨c1, c2⟩, c3⟩, c4⟩, c5⟩, c6⟩ := hchk
  refine enter_def hd c1 (binds_of c2) ha (by have := room.depth; omega) hbase rfl fun env h₁ tk₁ Ex' F => ?_
  have hkind : env.kindOf ("deck" : Str) = some .cell := by
    show env.scope.names.lookup _ = _
    rw [F.scope]; exact c4
  obtain ⟨c, hlk⟩ := F.ok.cells _ hkind
  obtain ⟨hc₁, hc₂⟩ := F.cells _ _ hlk (by decide)
  have hone : oneChk env.scope.names = true := by rw [F.scope]; exact c3
  have hroom : Room (A.deeper env) 25 := room_deeper (room.le (by decide))
  have F₀ := law_frame F hroom hbase hlk hl hI hlen (by
    rw [F.scope]
    unfold fnChk at c1
    simp only [Bool.and_eq_true] at c1
    obtain ⟨k, e, _⟩ := parOk_spec c1.2 0 _ rfl
    exact ⟨k, e⟩)
  rw [← F.scope] at c6
  obtain ⟨s1, b1, hb1, d1, c6⟩ := zipOk_cons c6
  obtain ⟨s2, b2, hb2, d2, c6⟩ := zipOk_cons c6
  obtain ⟨s3, b3, hb3, d3, c6⟩ := zipOk_cons c6
  obtain ⟨s4, b4, hb4, d4, c6⟩ := zipOk_cons c6
  obtain ⟨s5, b5, hb5, d5, c6⟩ := zipOk_cons c6
  obtain ⟨s6, b6, hb6, d6, c6⟩ := zipOk_cons c6
  obtain ⟨s7, b7, hb7, d7, c6⟩ := zipOk_cons c6
  obtain ⟨s8, b8, hb8, d8, c6⟩ := zipOk_cons c6
  rw [hb1, hb2, hb3, hb4, hb5, hb6, hb7, hb8]
  have hρ : rho0 23 [I ns] = some (I ns) :: none :: none :: none :: none :: none :: none :: none :: none :: none :: none :: none :: none :: List.replicate 10 none := rfl
  rw [hρ] at F₀
  generalize List.replicate 10 (none : Option PV) = t at F₀
  -- the deck
  refine wpAny_execs_cons (deck_stmt (s := { s with heap := h₁, toks := tk₁ }) hT G G2 d1 F₀ hkind hlk hc₁ (.inr rfl) (one_of hone rfl) rfl fun h₂ tk₂ C D dk L => ?_)
  -- wide, many
  refine wpAny_execs_cons (swpD (s := { s with heap := h₂, toks := tk₂ }) hT G G2 hD (by decide) L d2 trivial ⟨1, rfl⟩ fun h₃ tk₃ va vb hva hvb _ L => ?_)
  obtain ⟨k1, wide, _, _, hwide, rfl⟩ := hva
  obtain ⟨one, k2, h1', hk2, hk2', rfl⟩ := hvb
  cases h1'
  have hw : WOk wide := by
    have := List.mem_of_getElem? hwide
    simp only [List.mem_cons, List.not_mem_nil, or_false] at this
    unfold WOk
    omega
  obtain ⟨n, hn⟩ := Int.eq_ofNat_of_zero_le (show 0 ≤ 1 + k2 by omega)
  rw [hn] at L
  -- the row
  refine wpAny_execs_cons (row_stmt (s := { s with heap := h₃, toks := tk₃ }) (n := n) hT G G2 hD (by decide) L d3 rfl (by omega) fun h₄ tk₄ D row hrl hrv L => ?_)
  -- low, text
  refine wpAny_execs_cons (swpD (s := { s with heap := h₄, toks := tk₄ }) hT G G2 hD (by decide) L d4 trivial trivial fun h₅ tk₅ va vb hva hvb _ L => ?_)
  obtain ⟨low, hlow, hlow', rfl⟩ := hva
  obtain ⟨k3, hk3, hk3', rfl⟩ := hvb
  have htl : (([88, 89, 9] : List Int).take k3.toNat).length ≤ 3 := by
    rw [List.length_take]; exact Nat.min_le_right _ _
  generalize ([88, 89, 9] : List Int).take k3.toNat = text at L htl
  -- high, given
  refine wpAny_execs_cons (swpD (s := { s with heap := h₅, toks := tk₅ }) hT G G2 hD (by decide) L d5 ⟨low, rfl⟩ ⟨row.map .int, rfl⟩ fun h₆ tk₆ va vb hva hvb _ L => ?_)
  obtain ⟨low', k4, hlow2, hk4, hk4', rfl⟩ := hva
  cases hlow2
  obtain ⟨hgiven, _⟩ := hvb
  cases hgiven
  have F₆ : Frm mg mb fns 25 (A.deeper env) env C D No s.heap (some (I ns) :: none :: some (.int wide) :: some (.int n) :: some (I row) :: some (.int low) :: some (I text) :: some (.int (low + k4)) :: some (I row) :: none :: none :: none :: none :: t) none h₆ := L.F
  have hrow : row.length ≤ 10 := by omega
  -- the first test
  have e6 : exS (tt bs 25) 100 st6 (some (I ns) :: none :: some (.int wide) :: some (.int n) :: some (I row) :: some (.int low) :: some (I text) :: some (.int (low + k4)) :: some (I row) :: none :: none :: none :: none :: t) none =
      some (.next, some (I ns) :: none :: some (.int wide) :: some (.int n) :: some (I row) :: some (.int low) :: some (I text) :: some (.int (low + k4)) :: some (I row) :: none :: none :: none :: none :: t, none) := by
    obtain ⟨out, e, rfl⟩ := law_test (t := t) (r0 := some (I ns)) (n := n) (low := low) (text := text) (high := low + k4) hw hrow
    exact e
  refine wpAny_execs_cons (snd6 G hT s6 _ env C D No s.heap _ none _ { s with heap := h₆, toks := tk₆ } _ Ex' d6 e6 F₆ ?_)
  intro h₇ tk₇ _ F₇
  -- the loop
  refine wpAny_execs_cons (enum_stmt (s := { s with heap := h₇, toks := tk₇ }) (N := 100) hT G G2 F₇ d7 (xs := cells wide 0 row) ?_ (fun x hx => let ⟨a, b, c, e⟩ := cells_mem hx; ⟨_, _, _, e⟩)
    (fun i ρ' => ∃ v9 v10 v11 v12, ρ' = some (I ns) :: none :: some (.int wide) :: some (.int n) :: some (I row) :: some (.int low) :: some (I text) :: some (.int (low + k4)) :: some (I row) :: v9 :: v10 :: v11 :: v12 :: t)
    (fun i ρ' h => ?_) ⟨_, _, _, _, rfl⟩ ?_ fun h₈ tk₈ ρ' hinv F₈ => ?_)
  · exact e_call (e2 (e_loc rfl) (e_loc rfl)) (e_tc (R17 hw (le_up hrow (by decide))) (by decide))
  · obtain ⟨_, _, _, _, rfl⟩ := h
    exact one_of hone rfl
  · rintro i ρ' x y z ⟨_, _, _, _, rfl⟩ hxi
    obtain ⟨hi, rfl, rfl⟩ := cell_get hxi
    obtain ⟨out, e, rfl⟩ := law_turn (t := t) (r0 := some (I ns)) (n := n) (low := low) (text := text) (high := low + k4) (x := x) hw hrow hi
    exact ⟨_, e, _, _, _, _, rfl⟩
  · obtain ⟨v9, v10, v11, v12, rfl⟩ := hinv
    have e8 : exS (tt bs 25) 100 st8 (some (I ns) :: none :: some (.int wide) :: some (.int n) :: some (I row) :: some (.int low) :: some (I text) :: some (.int (low + k4)) :: some (I row) :: v9 :: v10 :: v11 :: v12 :: t) none =
        some (.ret (.bool true), some (I ns) :: none :: some (.int wide) :: some (.int n) :: some (I row) :: some (.int low) :: some (I text) :: some (.int (low + k4)) :: some (I row) :: v9 :: v10 :: v11 :: v12 :: t, none) := by
      exact law_last hw hrow (le_up htl (by decide)) ⟨hlow, by omega⟩ ⟨by omega, by omega⟩ (by omega)
    refine wpAny_execs_cons (snd8 G hT s8 _ env C D No s.heap _ none _ { s with heap := h₈, toks := tk₈ } _ Ex' d8 e8 F₈ ?_)
    intro h₉ tk₉ w' k₉ r₉
    cases r₉
    exact P h₉ tk₉ fun b o e => k₉ b o (fun q => by rw [F₈.off b q] at e; cases e) (F₈.kept b o e)
end
end Mine
end

section
open PySem PySem.W PyProof.Rows
namespace Mine
theorem base_of {p : Program} {loose : List Str} {mean : ExcName → Option Value} {mg mb : Str → Option Value} {h : Heap} (T : Top p loose mean mg mb h) (hp : (recsOf p).map toFn = fns) : Base mg mb fns h := by
  refine ⟨T.g, T.b, T.nolimit, fun f d e => ?_⟩
  rw [← hp] at e
  obtain ⟨r, hr, rfl⟩ := List.mem_map.mp (List.mem_of_getElem? e)
  exact T.fn r hr
noncomputable abbrev FreeHere (p : Program) (loose : List Str) : Prop := ∀ x ∈ ([Str.ofString "len", Str.ofString "max", Str.ofString "range", Str.ofString "abs", Str.ofString "list", Str.ofString "enumerate"] : List Str), x ∉ startupNames ∧ x ∉ loose ∧ x ∉ (recsOf p).map (·.name) ∧ x ∉ (litsOf p).map (·.1) ∧ x ∉ (clssOf p loose).map (·.name)
theorem glo_of {p : Program} {loose : List Str} {mean : ExcName → Option Value} {mg mb : Str → Option Value} {h : Heap} (T : Top p loose mean mg mb h)
   (h1 : valOf p "TAB" = some (.int 9)) (h2 : valOf p "BLANK" = some (.int 32)) (hf : FreeHere p loose) : Glo mg mb ∧ Glo2 mg mb := by
  have fr : ∀ x ∈ ([Str.ofString "len", Str.ofString "max", Str.ofString "range", Str.ofString "abs", Str.ofString "list", Str.ofString "enumerate"] : List Str), mg x = none := fun x hx => let ⟨a, b, c, d, e⟩ := hf x hx; T.free x a b c d e
  refine ⟨⟨?_, ?_, ⟨fr _ (by simp), ?_⟩, ⟨fr _ (by simp), ?_⟩, ⟨fr _ (by simp), ?_⟩⟩, ⟨⟨fr _ (by simp), ?_⟩, ⟨fr _ (by simp), ?_⟩, ⟨fr _ (by simp), ?_⟩⟩⟩
  · obtain ⟨v, e, r⟩ := T.const _ _ h1
    cases r h
    exact ⟨_, e⟩
  · obtain ⟨v, e, r⟩ := T.const _ _ h2
    cases r h
    exact ⟨_, e⟩
  all_goals (rw [T.builtins _ (by decide)]; decide +kernel)

noncomputable def lawOk : Bool := match fns[25]?, fns[16]? with
  | some d, some dd => lawChk fns d && drawChk dd && dd.name == ("_law_draw" : Str) && d.name == ("law" : Str)
  | _, _ => false
theorem law_ok : lawOk = true := by decide +kernel
theorem law_parts : ∃ d dd, fns[25]? = some d ∧ lawChk fns d = true ∧ DrawAt fns dd ∧ d.name = "law" := by
  have := law_ok
  unfold lawOk at this
  split at this
  · rename_i d dd h1 h2
    simp only [Bool.and_eq_true, beq_iff_eq] at this
    obtain ⟨⟨⟨g1, g2⟩, g3⟩, g4⟩ := this
    exact ⟨d, dd, h1, g1, ⟨h2, g3, g2⟩, g4⟩
  · cases this

theorem room_caller : Room callerA 27 := by
  refine ⟨rfl, by decide +kernel, by decide +kernel⟩

theorem script_list {P : Params} {h : Heap} {l : Addr} {vs : List Value} {xs : List WData} (w1 : Well P h (.ref l) (.list xs)) (hL : h.IsList l vs.toArray) : ∃ m, h.get? l = some (lstO vs.toArray m) := by
  obtain ⟨o, ho, hc, n, hd⟩ := hL
  cases w1 with
  | list hg _ =>
    rw [hg] at ho
    cases ho
    cases hd
    exact ⟨_, hg⟩
end Mine
end

section
open PySem PySem.W PyProof.Rows Mine
set_option maxRecDepth 100000 in
set_option maxHeartbeats 8000000 in
theorem PySem.Challenge.cw_np0011_01_holds : PySem.Challenge.rw_np0011_01.Holds := by
  w_on; o_law; o_head Hook.none; (case hw => w_witness2)
  w_strict (
    intro w s₀ s₁ mg mb G Y fa o pm cd doc dV kV ho hd hcd hD hmg hg args vals as hpre hlay hrd hwl hlo
    refine Ground.open G ?_
    intro T B D TE TW
    have hb : Base mg mb fns s₁.heap := base_of T (by kernel_rfl)
    obtain ⟨G1, G2⟩ := glo_of T (by kernel_rfl) (by kernel_rfl) (by decide +kernel)
    wrow_args hpre hlay hrd hwl hlo
    clear hd hcd hD
    rename_i ns _ _ _ _ _ _ _ l vs _ hL _ w1 _ hI _ hle _
    obtain ⟨d, dd, e1, e2, e3, e4⟩ := law_parts
    obtain ⟨m, hl⟩ := script_list w1 hL
    refine law_call (l := l) (vs := vs.toArray) (m := m) (ns := ns) G1 G2 (contracts_ok G1 25 all_ok) e1 e2 e3 ?_ room_caller hb hl hI (by omega) fun h' tk' k => ?_
    · rw [e4]; exact hmg
    · refine GoodW.toG ⟨.inl ⟨.bool true, .bool true, [], rfl, ?_, .bool true, ?_, ?_⟩, k, rfl, hg⟩
      · intro cls; rfl
      · wrow_post
      · exact unshared_nil)
end
