/-
  Engine G, part 2: operations that only look: what is to be shown ahead of them, by unfolding.
-/
import Derived.Test.YtimfnpjcedjmiaaG1
namespace Go.Proofs.Ytimfnpjcedjmiaa
open Go.RowKit

/-- To be shown. -/
inductive Vc (p : Prop) : Prop
  | mk (h : p) : Vc p
def tt (b : Bool) (p : Prop) : Prop :=
  match b with
  | true => p
  | false => False
theorem tt_out {b : Bool} {p : Prop} (h : tt b p) : b = true ∧ p := by cases b with
  | true => exact ⟨rfl, h⟩
  | false => exact h.elim
def neg (w : Bool) : Bool :=
  match w with
  | true => false
  | false => true
theorem neg_eq {w : Bool} : neg w = !w := by cases w <;> rfl
def In64 (x : Int) : Prop := -9223372036854775808 ≤ x ∧ x ≤ 9223372036854775807
theorem wrap_in {x : Int} (h : In64 x) : IntKind.i64.wrap x = x := by
  rw [IntKind.wrap_i64]; unfold In64 at h; omega

/-- A walk's continuation: at one outcome. -/
structure Nice {α : Type} (T : (α → Prop) → Prop) : Prop where
  mono : ∀ {K K' : α → Prop}, (∀ v, K v → K' v) → T K → T K'
  det : ∀ {K : α → Prop}, T K → ∃ v, T (fun u => u = v) ∧ K v
theorem Nice.at {α : Type} (v : α) : Nice (fun K => K v) := ⟨fun h k => h v k, fun h => ⟨v, rfl, h⟩⟩
theorem Nice.no {α : Type} : Nice (fun _ : α → Prop => False) := ⟨fun _ k => k, fun h => h.elim⟩
theorem Nice.and {α : Type} {p : Prop} {T : (α → Prop) → Prop} (h : Nice T) : Nice (fun K => p ∧ T K) :=
  ⟨fun k x => ⟨x.1, h.mono k x.2⟩, fun x => let ⟨v, a, b⟩ := h.det x.2; ⟨v, ⟨x.1, a⟩, b⟩⟩
theorem Nice.tt {α : Type} {b : Bool} {T : (α → Prop) → Prop} (h : Nice T) : Nice (fun K => tt b (T K)) := by
  cases b with
  | true => exact h
  | false => exact Nice.no
theorem Nice.bind {α β : Type} {T : (α → Prop) → Prop} {U : α → (β → Prop) → Prop} (h : Nice T) (k : ∀ x, Nice (U x)) : Nice (fun K => T (fun x => U x K)) :=
  ⟨fun f x => h.mono (fun v y => (k v).mono f y) x, fun x => by
    obtain ⟨v, h1, h2⟩ := h.det x
    obtain ⟨u, h3, h4⟩ := (k v).det h2
    exact ⟨u, h.mono (fun w e => by subst e; exact h3) h1, h4⟩⟩
theorem Nice.if {α : Type} {b : Bool} {T U : (α → Prop) → Prop} (h : Nice T) (k : Nice U) : Nice (fun K => (b = true → T K) ∧ (b = false → U K)) := by
  cases b with
  | true => exact ⟨fun f x => ⟨fun e => h.mono f (x.1 e), fun e => by cases e⟩, fun x => let ⟨v, a, b⟩ := h.det (x.1 rfl); ⟨v, ⟨fun _ => a, fun e => by cases e⟩, b⟩⟩
  | false => exact ⟨fun f x => ⟨(fun e => by cases e), fun e => k.mono f (x.2 e)⟩, fun x => let ⟨v, a, b⟩ := k.det (x.2 rfl); ⟨v, ⟨(fun e => by cases e), fun _ => a⟩, b⟩⟩
theorem Nice.congr {α : Type} {T U : (α → Prop) → Prop} (h : Nice T) (e : ∀ K, U K = T K) : Nice U := by
  have : U = T := funext e
  rw [this]; exact h
theorem Nice.map {α β : Type} {T : (α → Prop) → Prop} (h : Nice T) (f : α → β) : Nice (fun K : β → Prop => T (fun x => K (f x))) :=
  h.bind (U := fun x K => K (f x)) fun x => Nice.at (f x)

-- values, in full
def fzX (x : Value) (K : Value → Prop) : Prop :=
  match x with
  | .int k n => K (.int k n)
  | .bool b => K (.bool b)
  | .string s => K (.string s)
  | x => K x
theorem fzX_eq {x : Value} {K : Value → Prop} : fzX x K = K x := by cases x <;> rfl
def fzN (n : Nat) (K : Nat → Prop) : Prop :=
  match n with
  | 0 => K 0
  | 1 => K 1
  | 2 => K 2
  | 3 => K 3
  | 4 => K 4
  | 5 => K 5
  | 6 => K 6
  | 7 => K 7
  | 8 => K 8
  | 9 => K 9
  | 10 => K 10
  | 11 => K 11
  | 12 => K 12
  | 13 => K 13
  | 14 => K 14
  | 15 => K 15
  | n => K n
theorem fzN_eq {n : Nat} {K : Nat → Prop} : fzN n K = K n := by unfold fzN; split <;> rfl
def fzJ (n : Nat) (K : Nat → Prop) : Prop :=
  match n with
  | 0 => K 0
  | 1 => K 1
  | 2 => K 2
  | 3 => K 3
  | 4 => K 4
  | 5 => K 5
  | 6 => K 6
  | 7 => K 7
  | 8 => K 8
  | 9 => K 9
  | 10 => K 10
  | 11 => K 11
  | 12 => K 12
  | 13 => K 13
  | 14 => K 14
  | 15 => K 15
  | 16 => K 16
  | 17 => K 17
  | 18 => K 18
  | 19 => K 19
  | 20 => K 20
  | 21 => K 21
  | 22 => K 22
  | 23 => K 23
  | 24 => K 24
  | 25 => K 25
  | 26 => K 26
  | 27 => K 27
  | 28 => K 28
  | 29 => K 29
  | 30 => K 30
  | 31 => K 31
  | 32 => K 32
  | 33 => K 33
  | 34 => K 34
  | 35 => K 35
  | 36 => K 36
  | 37 => K 37
  | 38 => K 38
  | 39 => K 39
  | 40 => K 40
  | 41 => K 41
  | 42 => K 42
  | 43 => K 43
  | 44 => K 44
  | 45 => K 45
  | 46 => K 46
  | 47 => K 47
  | 48 => K 48
  | 49 => K 49
  | 50 => K 50
  | 51 => K 51
  | 52 => K 52
  | 53 => K 53
  | 54 => K 54
  | 55 => K 55
  | 56 => K 56
  | 57 => K 57
  | 58 => K 58
  | 59 => K 59
  | 60 => K 60
  | 61 => K 61
  | 62 => K 62
  | 63 => K 63
  | n => K n
theorem fzJ_eq {n : Nat} {K : Nat → Prop} : fzJ n K = K n := by unfold fzJ; split <;> rfl
/-- A number, counted. -/
def cntK (n : Nat) : (Nat → Prop) → Prop := Nat.rec (motive := fun _ => (Nat → Prop) → Prop) (fun K => K 0) (fun _ ih K => ih fun m => K (m + 1)) n
theorem cntK_eq {n : Nat} {K : Nat → Prop} : cntK n K = K n := by
  induction n generalizing K with
  | zero => rfl
  | succ n ih => exact ih (K := fun m => K (m + 1))
def fzW (n : Nat) (K : Nat → Prop) : Prop := cntK n fun m => fzJ m K
theorem fzW_eq {n : Nat} {K : Nat → Prop} : fzW n K = K n := by unfold fzW; rw [cntK_eq, fzJ_eq]
/-- .. one that is not known by what lies in memory. -/
def fzB (n : Nat) (K : Nat → Prop) : Prop := fzN (n / 16) fun i => fzN (n % 16) fun j => fzN (i * 16 + j) K
theorem fzB_eq {n : Nat} {K : Nat → Prop} : fzB n K = K n := by unfold fzB; rw [fzN_eq, fzN_eq, fzN_eq]; congr 1; omega
def fzO (o : Option (Nat × Nat)) (K : Option (Nat × Nat) → Prop) : Prop :=
  match o with
  | none => K none
  | some (i, g) => fzW i fun i => fzN g fun g => K (some (i, g))
theorem fzO_eq {o : Option (Nat × Nat)} {K : Option (Nat × Nat) → Prop} : fzO o K = K o := by
  cases o with
  | none => rfl
  | some p => obtain ⟨i, g⟩ := p; simp [fzO, fzN_eq, fzW_eq]
def fz0 (v : AV) (K : AV → Prop) : Prop :=
  match v with
  | .any => K .any
  | .v x => fzX x fun x => K (.v x)
  | .err k => K (.err k)
  | .sl a b c => fzN a fun a => fzO c fun c => K (.sl a b c)
  | .adr c => K (.adr c)
  | .agg l => K (.agg l)
  | .tup l => K (.tup l)
  | .box i o => fzW i fun i => fzW o fun o => K (.box i o)
  | .arr i g n => fzW i fun i => fzN g fun g => K (.arr i g n)
  | .elt i g s j o => fzW i fun i => fzN g fun g => fzN s fun s => fzN o fun o => K (.elt i g s j o)
  | .map i => fzW i fun i => K (.map i)
  | .clo f c => K (.clo f c)
theorem fz0_eq {v : AV} {K : AV → Prop} : fz0 v K = K v := by cases v <;> simp [fz0, fzX_eq, fzO_eq, fzN_eq, fzW_eq]
def fzL : List AV → (List AV → Prop) → Prop
  | [], K => K []
  | a :: l, K => fz0 a fun a => fzL l fun l => K (a :: l)
theorem fzL_eq : ∀ {l : List AV} {K : List AV → Prop}, fzL l K = K l
  | [], K => rfl
  | a :: l, K => by simp [fzL, fz0_eq, fzL_eq (l := l)]
/-- A tuple's parts may be aggregates. -/
def fz1 (v : AV) (K : AV → Prop) : Prop :=
  match v with
  | .adr c => fzL c fun c => K (.adr c)
  | .agg l => fzL l fun l => K (.agg l)
  | .clo f c => fzL c fun c => K (.clo f c)
  | v => fz0 v K
theorem fz1_eq {v : AV} {K : AV → Prop} : fz1 v K = K v := by cases v <;> simp [fz1, fzL_eq, fz0_eq]
def fzL1 : List AV → (List AV → Prop) → Prop
  | [], K => K []
  | a :: l, K => fz1 a fun a => fzL1 l fun l => K (a :: l)
theorem fzL1_eq : ∀ {l : List AV} {K : List AV → Prop}, fzL1 l K = K l
  | [], K => rfl
  | a :: l, K => by simp [fzL1, fz1_eq, fzL1_eq (l := l)]
def fz (v : AV) (K : AV → Prop) : Prop :=
  match v with
  | .tup l => fzL1 l fun l => K (.tup l)
  | v => fz1 v K
theorem fz_eq {v : AV} {K : AV → Prop} : fz v K = K v := by cases v <;> simp [fz, fzL1_eq, fz1_eq]
def fzR (r : Res) (K : Res → Prop) : Prop :=
  match r with
  | .gone => K .gone
  | .cells l => fzL l fun l => K (.cells l)
  | .grow e s g => fzN s fun s => fzN g fun g => K (.grow e s g)
  | .arr f e s g r => fzN s fun s => fzN g fun g => K (.arr f e s g r)
  | r => K r
theorem fzR_eq {r : Res} {K : Res → Prop} : fzR r K = K r := by cases r <;> simp [fzR, fzL_eq, fzN_eq]
def fzM : List Res → (List Res → Prop) → Prop
  | [], K => K []
  | a :: l, K => fzR a fun a => fzM l fun l => K (a :: l)
theorem fzM_eq : ∀ {l : List Res} {K : List Res → Prop}, fzM l K = K l
  | [], K => rfl
  | a :: l, K => by simp [fzM, fzR_eq, fzM_eq (l := l)]

-- slots
def lk (fr : List (Nat × AV)) (t : Nat) : AV := (look fr t).getD .any
def lkK : List (Nat × AV) → Nat → (AV → Prop) → Prop
  | [], _, K => K .any
  | (u, v) :: l, t, K => match Nat.beq u t with
    | true => K v
    | false => lkK l t K
theorem lkK_eq : ∀ {fr : List (Nat × AV)} {t : Nat} {K : AV → Prop}, lkK fr t K = K (lk fr t)
  | [], t, K => rfl
  | (u, v) :: l, t, K => by
    simp only [lkK, lk, look]
    cases h : Nat.beq u t with
    | true => rw [if_pos (Nat.eq_of_beq_eq_true h)]; rfl
    | false => rw [if_neg (Nat.ne_of_beq_eq_false h)]; exact lkK_eq
def evV (fr : List (Nat × AV)) (x : Operand) (K : AV → Prop) : Prop :=
  match x with
  | .tmp t => lkK fr t K
  | .const v => fz (ofV v) K
  | .global _ => K .any
  | .func f => K (.clo f [])
def evO (fr : List (Nat × AV)) (x : Operand) : AV := AS.eval ⟨fr, []⟩ x
theorem evO_eval {fr : List (Nat × AV)} {mem : List Res} {x : Operand} : (⟨fr, mem⟩ : AS).eval x = evO fr x := by cases x <;> rfl
theorem evV_eq {fr : List (Nat × AV)} {x : Operand} {K : AV → Prop} : evV fr x K = K (evO fr x) := by
  cases x with
  | tmp t => simp only [evV, lkK_eq]; rfl
  | const v => simp only [evV, fz_eq]; rfl
  | global g => rfl
  | func f => rfl
def evL (fr : List (Nat × AV)) : List Operand → (List AV → Prop) → Prop
  | [], K => K []
  | x :: l, K => evV fr x fun v => evL fr l fun vs => K (v :: vs)
theorem evL_eq {fr : List (Nat × AV)} : ∀ {l : List Operand} {K : List AV → Prop}, evL fr l K = K (l.map (evO fr))
  | [], K => rfl
  | x :: l, K => by simp only [evL, evV_eq, List.map_cons]; rw [evL_eq (l := l)]

-- lists
def nthK {α : Type} : List α → Nat → (α → Prop) → Prop
  | [], _, _ => False
  | a :: _, 0, K => K a
  | _ :: l, i + 1, K => nthK l i K
theorem nthK_out {α : Type} : ∀ {l : List α} {i : Nat} {K : α → Prop}, nthK l i K → ∃ r, l[i]? = some r ∧ K r
  | [], i, K, h => h.elim
  | a :: l, 0, K, h => ⟨a, rfl, h⟩
  | a :: l, i + 1, K, h => by obtain ⟨r, h1, h2⟩ := nthK_out (l := l) (i := i) h; exact ⟨r, by simpa using h1, h2⟩
theorem nthK_of {α : Type} : ∀ {l : List α} {i : Nat} {K : α → Prop} {r : α}, l[i]? = some r → K r → nthK l i K
  | [], i, K, r, h, k => by simp at h
  | a :: l, 0, K, r, h, k => by simp at h; subst h; exact k
  | a :: l, i + 1, K, r, h, k => nthK_of (l := l) (i := i) (by simpa using h) k
theorem nthK_nice {α : Type} {l : List α} {i : Nat} : Nice (nthK l i) := by
  cases h : l[i]? with
  | none =>
    refine Nice.congr Nice.no fun K => propext ⟨fun x => ?_, False.elim⟩
    obtain ⟨r, h1, _⟩ := nthK_out x
    rw [h] at h1; cases h1
  | some a =>
    refine Nice.congr (Nice.at a) fun K => propext ⟨fun x => ?_, fun x => nthK_of h x⟩
    obtain ⟨r, h1, h2⟩ := nthK_out x
    rw [h] at h1; obtain rfl := Option.some.inj h1; exact h2

-- types
/-- Is it a struct or an array; how many cells it takes. -/
def shapeT (P : Program) (t : TypeId) : Option (Bool × Nat) :=
  match P.underlying t, P.info? t with
  | some (.struct _), some i => some (true, i.size)
  | some (.array _ _), some i => some (true, i.size)
  | some _, some i => some (false, i.size)
  | _, _ => none
/-- A field's place and type. -/
def fieldT (P : Program) (t : TypeId) (f : Nat) : Option (Nat × TypeId) :=
  match P.underlying t with
  | some (.struct fs) => (fs[f]?).map fun x => (x.offset, x.type)
  | _ => none
def elemT (P : Program) (t : TypeId) : Option TypeId :=
  match P.underlying t with
  | some (.slice e) => some e
  | _ => none
/-- A field: its place, is it of more cells, how many. -/
def fieldP (P : Program) (t : TypeId) (f : Nat) : Option (Nat × Bool × Nat) := (fieldT P t f).bind fun p => (shapeT P p.2).map fun q => (p.1, q.1, q.2)
def zeroT (P : Program) (t : TypeId) : Option Value := (P.info? t).bind (·.zero)
/-- A slice's type: how many cells an element takes. -/
def elemN (P : Program) (t : TypeId) : Option Nat := (elemT P t).bind fun e => (shapeT P e).map (·.2)
theorem elemN_some {P : Program} {t : TypeId} {sz : Nat} (h : elemN P t = some sz) : ∃ e b, elemT P t = some e ∧ shapeT P e = some (b, sz) := by
  unfold elemN at h
  cases h1 : elemT P t with
  | none => simp [h1] at h
  | some e =>
    cases h2 : shapeT P e with
    | none => simp [h1, h2] at h
    | some q => obtain ⟨b, n⟩ := q; simp [h1, h2] at h; subst h; exact ⟨e, b, rfl, h2⟩
theorem elemT_some {P : Program} {t e : TypeId} (h : elemT P t = some e) : P.underlying t = some (.slice e) := by
  unfold elemT at h
  split at h
  · rename_i e' hu; simp only [Option.some.injEq] at h; subst h; exact hu
  · cases h
def isStr (P : Program) (t : TypeId) : Bool := match P.underlying t with | some .string => true | _ => false
theorem isStr_out {P : Program} {t : TypeId} (h : isStr P t = true) : P.underlying t = some .string := by
  unfold isStr at h
  split at h
  · assumption
  · cases h
def isBool (P : Program) (t : TypeId) : Bool := match P.underlying t with | some .bool => true | _ => false
theorem isBool_out {P : Program} {t : TypeId} (h : isBool P t = true) : P.underlying t = some .bool := by
  unfold isBool at h
  split at h
  · assumption
  · cases h
def isPtr (P : Program) (t : TypeId) : Bool := match P.underlying t with | some (.pointer _) => true | _ => false
theorem isPtr_out {P : Program} {t : TypeId} (h : isPtr P t = true) : ∃ e, P.underlying t = some (.pointer e) := by
  unfold isPtr at h
  split at h
  · exact ⟨_, by assumption⟩
  · cases h
def isIface (P : Program) (t : TypeId) : Bool := match P.underlying t with | some (.interface _) => true | _ => false
theorem isIface_out {P : Program} {t : TypeId} (h : isIface P t = true) : ∃ ms, P.underlying t = some (.interface ms) := by
  unfold isIface at h
  split at h
  · exact ⟨_, by assumption⟩
  · cases h
def isSl (P : Program) (t : TypeId) : Bool := (elemT P t).isSome
def notIface (P : Program) (t : TypeId) : Bool := match P.underlying t with | some (.interface _) => false | some _ => true | none => false
def isConst : Operand → Bool
  | .const _ => true
  | _ => false

-- operators
/-- Equality of structs: what a type's own law says. -/
def EqOk (P : Program) (op : BinOp) (t : TypeId) (xs ys : Array Value) (b : Bool) : Prop :=
  ∀ (x y : Operand) (w : World), (do eqGuard op t x y (.agg xs) (.agg ys); binOp op t (.agg xs) (.agg ys)).run P w = .ok (.bool b) w
inductive StopEq (P : Program) (op : BinOp) (t : TypeId) (l m : List AV) (K : AV → Prop) : Prop
  | mk (xs ys : List Value) (b : Bool) (h1 : l = xs.map .v) (h2 : m = ys.map .v) (h3 : EqOk P op t xs.toArray ys.toArray b) (h4 : K (.v (.bool b))) : StopEq P op t l m K
def binI (op : BinOp) (k : IntKind) (a b : Int) (K : AV → Prop) : Prop :=
  match op with
  | .add => match k with
    | .i64 => Vc (In64 (a + b)) ∧ K (.v (.int .i64 (a + b)))
    | k => K (.v (.int k (k.wrap (a + b))))
  | .sub => match k with
    | .i64 => Vc (In64 (a - b)) ∧ K (.v (.int .i64 (a - b)))
    | k => K (.v (.int k (k.wrap (a - b))))
  | .mul => match k with
    | .i64 => Vc (In64 (a * b)) ∧ K (.v (.int .i64 (a * b)))
    | k => K (.v (.int k (k.wrap (a * b))))
  | .quo => match k with
    | .i64 => Vc (b ≠ 0) ∧ Vc (In64 (a.tdiv b)) ∧ K (.v (.int .i64 (a.tdiv b)))
    | k => Vc (b ≠ 0) ∧ K (.v (.int k (k.wrap (a.tdiv b))))
  | .rem => Vc (b ≠ 0) ∧ K (.v (.int k (a.tmod b)))
  | .and => K (.v (.int k (k.wrap (BitVec.ofInt k.bits a &&& BitVec.ofInt k.bits b).toNat)))
  | .or => K (.v (.int k (k.wrap (BitVec.ofInt k.bits a ||| BitVec.ofInt k.bits b).toNat)))
  | .xor => K (.v (.int k (k.wrap (BitVec.ofInt k.bits a ^^^ BitVec.ofInt k.bits b).toNat)))
  | .eql => K (.v (.bool (a == b)))
  | .neq => K (.v (.bool (a != b)))
  | .lss => K (.v (.bool (decide (a < b))))
  | .leq => K (.v (.bool (decide (a ≤ b))))
  | .gtr => K (.v (.bool (decide (b < a))))
  | .geq => K (.v (.bool (decide (b ≤ a))))
  | _ => False
def shI (op : BinOp) (k : IntKind) (a b : Int) (K : AV → Prop) : Prop :=
  match op with
  | .shl => Vc (0 ≤ b) ∧ K (.v (.int k (k.wrap (a * 2 ^ (min b.toNat k.bits)))))
  | .shr => Vc (0 ≤ b) ∧ K (.v (.int k (a.fdiv (2 ^ (min b.toNat k.bits)))))
  | _ => False
def isSh (op : BinOp) : Bool :=
  match op with
  | .shl | .shr => true
  | _ => false
def kEq (a b : IntKind) : Bool :=
  match a, b with
  | .i8, .i8 | .i16, .i16 | .i32, .i32 | .i64, .i64 | .u8, .u8 | .u16, .u16 | .u32, .u32 | .u64, .u64 => true
  | _, _ => false
theorem kEq_out {a b : IntKind} (h : kEq a b = true) : a = b := by cases a <;> cases b <;> first | rfl | cases h
def binB (op : BinOp) (a b : Bool) (K : AV → Prop) : Prop :=
  match op with
  | .eql => K (.v (.bool (a == b)))
  | .neq => K (.v (.bool (!(a == b))))
  | _ => False
def binS (op : BinOp) (a b : ByteArray) (K : AV → Prop) : Prop :=
  match op with
  | .add => Vc (a.size + b.size ≤ 9223372036854775807) ∧ K (.v (.string (a ++ b)))
  | .eql => K (.v (.bool (a.toList == b.toList)))
  | .neq => K (.v (.bool (!(a.toList == b.toList))))
  | _ => False
/-- Compared with nil: is it. -/
def binN (op : BinOp) (b : Bool) (K : AV → Prop) : Prop :=
  match op with
  | .eql => K (.v (.bool b))
  | .neq => K (.v (.bool (neg b)))
  | _ => False
def binE (op : BinOp) (k j : Int) (K : AV → Prop) : Prop :=
  match op with
  | .eql => Vc (j = 0) ∧ K (.v (.bool (k == 0)))
  | .neq => Vc (j = 0) ∧ K (.v (.bool (k != 0)))
  | _ => False
def binV (P : Program) (op : BinOp) (t : TypeId) (c : Bool) (a b : AV) (K : AV → Prop) : Prop :=
  match a with
  | .v (.int k x) => match b with
    | .v (.int k' y) => match isSh op with
      | true => shI op k x y K
      | false => tt (kEq k k') (binI op k x y K)
    | _ => False
  | .v (.bool x) => match b with
    | .v (.bool y) => tt (isBool P t) (binB op x y K)
    | _ => False
  | .v (.string x) => match b with
    | .v (.string y) => binS op x y K
    | _ => False
  | .v (.pointer none) => match b with
    | .v (.pointer none) => tt (isPtr P t) (binN op true K)
    | _ => False
  | .box _ _ => match b with
    | .v (.pointer none) => tt (isPtr P t) (binN op false K)
    | _ => False
  | .err x => match b with
    | .err y => tt c (tt (isIface P t) (binE op x y K))
    | _ => False
  | .agg l => match b with
    | .agg m => StopEq P op t l m K
    | _ => False
  | _ => False

-- structs
def fldV (fp : Option (Nat × Bool × Nat)) (v : AV) (K : AV → Prop) : Prop :=
  match v with
  | .agg l => match fp with
    | some (off, true, k) => tt (Nat.ble (off + k) l.length) (K (.agg ((l.drop off).take k)))
    | some (off, false, _) => nthK l off K
    | none => False
  | _ => False
def faV (fp : Option (Nat × Bool × Nat)) (v : AV) (K : AV → Prop) : Prop :=
  match fp with
  | some (off, _, k) => tt (Nat.blt 0 k) (match v with
    | .adr l => K (.adr (l.drop off))
    | .box id o => K (.box id (o + off))
    | .elt i g s j o => K (.elt i g s j (o + off))
    | _ => False)
  | none => False
def AV.one : AV → Bool
  | .any | .agg _ | .tup _ => false
  | .v x => x.oneCell'
  | _ => true
def AV.cells : AV → Option (List AV)
  | .agg l => if l.all AV.one then some l else none
  | av => if av.one then some [av] else none
def cellsK (v : AV) (K : List AV → Prop) : Prop :=
  match v with
  | .agg l => tt (l.all AV.one) (K l)
  | v => tt v.one (K [v])
theorem cellsK_out {v : AV} {K : List AV → Prop} (h : cellsK v K) : ∃ l, v.cells = some l ∧ K l := by
  unfold cellsK at h
  split at h
  · obtain ⟨h1, h2⟩ := tt_out h; exact ⟨_, by simp only [AV.cells]; rw [if_pos h1], h2⟩
  · rename_i hx
    obtain ⟨h1, h2⟩ := tt_out h
    refine ⟨_, ?_, h2⟩
    cases v with
    | agg l => exact absurd rfl (hx l)
    | _ => simp only [AV.cells]; rw [if_pos h1]
theorem cellsK_ne {v : AV} {K : List AV → Prop} (h : ∀ l, v ≠ .agg l) : cellsK v K = tt v.one (K [v]) := by
  cases v <;> first | rfl | exact absurd rfl (h _)
theorem cellsK_nice {v : AV} : Nice (cellsK v) := by
  by_cases h : ∃ l, v = .agg l
  · obtain ⟨l, rfl⟩ := h
    exact Nice.congr (T := fun K => tt (l.all AV.one) (K l)) (Nice.tt (Nice.at l)) (fun K => rfl)
  · exact Nice.congr (T := fun K => tt v.one (K [v])) (Nice.tt (Nice.at [v])) (fun K => cellsK_ne fun l e => h ⟨l, e⟩)
/-- A part comes into a struct. -/
def splice1 (fp : Option (Nat × Bool × Nat)) (c : Option (List AV)) (l : Option (List AV)) : Option (List AV) :=
  match fp, c, l with
  | some (off, _, n), some c, some l => if c.length = n ∧ off + n ≤ l.length then some (l.take off ++ c ++ l.drop (off + n)) else none
  | _, _, _ => none
def fillAV (pl : Nat → Option (Nat × Bool × Nat)) (ev : Operand → AV) : Option (List AV) → List (Nat × Operand) → Option (List AV)
  | l, [] => l
  | l, (i, x) :: ps => fillAV pl ev (splice1 (pl i) (ev x).cells l) ps
def bldV (pl : Nat → Option (Nat × Bool × Nat)) (fr : List (Nat × AV)) : List (Nat × Operand) → List AV → (List AV → Prop) → Prop
  | [], l, K => K l
  | (i, x) :: ps, l, K => evV fr x fun v => cellsK v fun c => match pl i with
    | some (off, _, k) => tt (Nat.beq c.length k) (tt (Nat.ble (off + k) l.length) (fzL (l.take off ++ c ++ l.drop (off + k)) fun l => bldV pl fr ps l K))
    | none => False
theorem bldV_out {pl : Nat → Option (Nat × Bool × Nat)} {fr : List (Nat × AV)} : ∀ {ps : List (Nat × Operand)} {l : List AV} {K : List AV → Prop}, bldV pl fr ps l K → ∃ l', fillAV pl (evO fr) (some l) ps = some l' ∧ K l'
  | [], l, K, h => ⟨l, rfl, h⟩
  | (i, x) :: ps, l, K, h => by
    simp only [bldV, evV_eq] at h
    obtain ⟨c, h1, h⟩ := cellsK_out h
    split at h
    · rename_i off b k hf
      obtain ⟨h2, h⟩ := tt_out h
      obtain ⟨h3, h⟩ := tt_out h
      rw [fzL_eq] at h
      obtain ⟨l', h4, h5⟩ := bldV_out h
      refine ⟨l', ?_, h5⟩
      simp only [fillAV, h1, hf, splice1]
      rw [if_pos ⟨Nat.eq_of_beq_eq_true h2, Nat.le_of_ble_eq_true h3⟩]
      exact h4
    · exact h.elim
theorem bldV_nice {pl : Nat → Option (Nat × Bool × Nat)} {fr : List (Nat × AV)} : ∀ {ps : List (Nat × Operand)} {l : List AV}, Nice (bldV pl fr ps l)
  | [], l => Nice.at l
  | (i, x) :: ps, l => by
    refine Nice.congr ?_ fun K => by simp only [bldV, evV_eq, fzL_eq]; exact rfl
    refine cellsK_nice.bind (U := fun c K => match pl i with
      | some (off, _, k) => Go.Proofs.Ytimfnpjcedjmiaa.tt (Nat.beq c.length k) (Go.Proofs.Ytimfnpjcedjmiaa.tt (Nat.ble (off + k) l.length) (bldV pl fr ps (l.take off ++ c ++ l.drop (off + k)) K))
      | none => False) fun c => ?_
    split
    · exact Nice.tt (Nice.tt bldV_nice)
    · exact Nice.no
/-- A struct's or an array's zero, and where its parts lie. -/
def zeroV (P : Program) (t : TypeId) (K : List AV → Prop) : Prop :=
  match P.underlying t with
  | some (.struct fs) => match zeroT P t with
    | some z => tt (fs.toList.all (fun f => (P.info? f.type).isSome)) (fzL (z.cells.toList.map .v) K)
    | none => False
  | some (.array _ e) => match zeroT P t with
    | some z => tt (shapeT P e).isSome (fzL (z.cells.toList.map .v) K)
    | none => False
  | _ => False
theorem zeroV_nice {P : Program} {t : TypeId} : Nice (zeroV P t) := by
  refine Nice.congr ?_ fun K => by simp only [zeroV, fzL_eq]; exact rfl
  split
  · split
    · exact Nice.tt (Nice.at _)
    · exact Nice.no
  · split
    · exact Nice.tt (Nice.at _)
    · exact Nice.no
  · exact Nice.no
def partP (P : Program) (t : TypeId) (i : Nat) : Option (Nat × Bool × Nat) :=
  match P.underlying t with
  | some (.struct _) => fieldP P t i
  | some (.array _ e) => (shapeT P e).map fun q => (i * q.2, q.1, q.2)
  | _ => none

-- loads
/-- A byte of a string. -/
def byteAt (s : ByteArray) (i : Nat) : Nat := (s.data.toList.getD i 0).toNat
def cutV' (sh : Option (Bool × Nat)) (off : Nat) (l : List AV) (K : AV → Prop) : Prop :=
  match sh with
  | some (true, k) => tt (Nat.ble (off + k) l.length) (K (.agg ((l.drop off).take k)))
  | some (false, _) => nthK l off K
  | none => False
theorem cutV'_nice {sh : Option (Bool × Nat)} {off : Nat} {l : List AV} : Nice (cutV' sh off l) := by
  unfold cutV'
  split
  · exact Nice.tt (Nice.at _)
  · exact nthK_nice
  · exact Nice.no
inductive StopRow (rows : List (List AV)) (i : Nat) (K : List AV → Prop) : Prop
  | mk (r : List AV) (h : rows[i]? = some r) (k : K r) : StopRow rows i K
theorem StopRow.nice {rows : List (List AV)} {i : Nat} : Nice (StopRow rows i) :=
  ⟨fun f ⟨r, h, k⟩ => ⟨r, h, f r k⟩, fun ⟨r, h, k⟩ => ⟨r, ⟨r, h, rfl⟩, k⟩⟩
def ldV (sh : Option (Bool × Nat)) (v : AV) (mem : List Res) (K : AV → Prop) : Prop :=
  match v with
  | .adr cells => cutV' sh 0 cells K
  | .box id off => nthK mem id fun r => match r with
    | .cells l => cutV' sh off l K
    | _ => False
  | .elt id g sz i o => nthK mem id fun r => match r with
    | .arr _ _ s g' rows => tt (Nat.beq g g') (tt (Nat.beq s sz) (StopRow rows i fun l => cutV' sh o l K))
    | _ => False
  | _ => False
theorem ldV_nice {sh : Option (Bool × Nat)} {v : AV} {mem : List Res} : Nice (ldV sh v mem) := by
  cases v with
  | adr c => exact cutV'_nice
  | box id off =>
    refine nthK_nice.bind (U := fun (r : Res) K => match r with | .cells l => cutV' sh off l K | _ => False) fun r => ?_
    cases r <;> first | exact cutV'_nice | exact Nice.no
  | elt id g sz i o =>
    refine nthK_nice.bind (U := fun (r : Res) K => match r with | .arr _ _ s g' rows => Go.Proofs.Ytimfnpjcedjmiaa.tt (Nat.beq g g') (Go.Proofs.Ytimfnpjcedjmiaa.tt (Nat.beq s sz) (StopRow rows i fun l => cutV' sh o l K)) | _ => False) fun r => ?_
    cases r <;> first | exact Nice.tt (Nice.tt (StopRow.nice.bind fun _ => cutV'_nice)) | exact Nice.no
  | _ => exact Nice.no
/-- A slice's rows, to be read. -/
def rowsK (v : AV) (mem : List Res) (K : Nat → List (List AV) → Prop) : Prop :=
  match v with
  | .sl sz rows _ => K sz rows
  | .arr id g n => nthK mem id fun r => match r with
    | .arr _ _ s g' rows => tt (Nat.beq g g') (K s (rows.take n))
    | _ => False
  | _ => False
inductive StopIdx (rows : List (List AV)) (i : Int) (K : AV → Prop) : Prop
  | mk (r : List AV) (h0 : 0 ≤ i) (h : rows[i.toNat]? = some r) (k : K (.adr r)) : StopIdx rows i K
theorem StopIdx.nice {rows : List (List AV)} {i : Int} : Nice (StopIdx rows i) :=
  ⟨fun f ⟨r, h0, h, k⟩ => ⟨r, h0, h, f _ k⟩, fun ⟨r, h0, h, k⟩ => ⟨.adr r, ⟨r, h0, h, rfl⟩, k⟩⟩
/-- An index, within bounds. -/
inductive StopAt (len : Nat) (i : Int) (K : Nat → Prop) : Prop
  | mk (h0 : 0 ≤ i) (h : i < len) (k : K i.toNat) : StopAt len i K
theorem StopAt.nice {len : Nat} {i : Int} : Nice (StopAt len i) :=
  ⟨fun f ⟨h0, h, k⟩ => ⟨h0, h, f _ k⟩, fun ⟨h0, h, k⟩ => ⟨_, ⟨h0, h, rfl⟩, k⟩⟩
def arrT (P : Program) (t : TypeId) : Option (Nat × Nat) :=
  match P.underlying t with
  | some (.array len e) => (shapeT P e).map fun q => (len, q.2)
  | _ => none
def idxV (P : Program) (t : TypeId) (mem : List Res) (v i : AV) (K : AV → Prop) : Prop :=
  match i with
  | .v (.int _ i) => match v with
    | .sl sz' rows _ => match elemN P t with
      | some sz => tt (Nat.beq sz sz') (StopIdx rows i K)
      | none => False
    | .arr id g n => match elemN P t with
      | some sz => nthK mem id fun r => match r with
        | .arr _ _ s g' _ => tt (Nat.beq g g') (tt (Nat.beq s sz) (Vc (0 ≤ i ∧ i < n) ∧ K (.elt id g sz i.toNat 0)))
        | _ => False
      | none => False
    | .box id off => match arrT P t with
      | some (len, sz) => StopAt len i fun j => K (.box id (off + j * sz))
      | none => False
    | .elt id g s j o => match arrT P t with
      | some (len, sz) => StopAt len i fun q => K (.elt id g s j (o + q * sz))
      | none => False
    | _ => False
  | _ => False
/-- Indexing a value: a string's byte, an array's part. -/
def ixV (P : Program) (t : TypeId) (v i : AV) (K : AV → Prop) : Prop :=
  match i with
  | .v (.int _ i) => match v with
    | .v (.string s) => tt (isStr P t) (Vc (0 ≤ i ∧ i < s.size) ∧ K (.v (.int .u8 (byteAt s i.toNat))))
    | .agg l => match P.underlying t with
      | some (.array len e) => match shapeT P e with
        | some (b, sz) => StopAt len i fun j => cutV' (some (b, sz)) (j * sz) l K
        | none => False
      | _ => False
    | _ => False
  | _ => False
def boundV (fr : List (Nat × AV)) (x : Option Operand) (K : Option Int → Prop) : Prop :=
  match x with
  | none => K none
  | some x => evV fr x fun v => match v with
    | .v (.int _ i) => K (some i)
    | _ => False
def lo0 (l : Option Int) : Int := l.getD 0
def hi0 (h : Option Int) (n : Nat) : Int := h.getD n
/-- A part of a string, of a slice. -/
def subV (P : Program) (t : TypeId) (v : AV) (lo hi : Option Int) (K : AV → Prop) : Prop :=
  match v with
  | .v (.string s) => tt (isStr P t) (match lo with
    | none => match hi with
      | none => K (.v (.string s))
      | some h => Vc (0 ≤ h ∧ h ≤ s.size) ∧ K (.v (.string (s.extract 0 h.toNat)))
    | some l => match hi with
      | none => Vc (0 ≤ l ∧ l ≤ s.size) ∧ K (.v (.string (s.extract l.toNat s.size)))
      | some h => Vc (0 ≤ l ∧ l ≤ h ∧ h ≤ s.size) ∧ K (.v (.string (s.extract l.toNat h.toNat))))
  | .sl sz' rows _ => match elemN P t with
    | some sz => tt (Nat.beq sz sz') (tt (Nat.blt 0 sz) (match lo with
      | none => match hi with
        | none => K (.sl sz rows none)
        | some h => Vc (0 ≤ h ∧ h ≤ rows.length) ∧ K (.sl sz (rows.take h.toNat) none)
      | some l => match hi with
        | none => Vc (0 ≤ l ∧ l ≤ rows.length) ∧ K (.sl sz (rows.drop l.toNat) none)
        | some h => Vc (0 ≤ l ∧ l ≤ h ∧ h ≤ rows.length) ∧ K (.sl sz ((rows.take h.toNat).drop l.toNat) none)))
    | none => False
  | .arr id g n => match elemN P t with
    | some _ => match lo with
      | none => match hi with
        | none => K (.arr id g n)
        | some h => Vc (0 ≤ h ∧ h ≤ n) ∧ K (.arr id g h.toNat)
      | some _ => False
    | none => False
  | _ => False
def lenV (P : Program) (l : List AV) (ts : List TypeId) (K : AV → Prop) : Prop :=
  match l with
  | [v] => match ts with
    | [t] => match v with
      | .sl _ rows _ => tt (isSl P t) (K (.v (.int .i64 rows.length)))
      | .arr _ _ n => tt (isSl P t) (K (.v (.int .i64 n)))
      | .v (.slice none 0 0) => tt (isSl P t) (K (.v (.int .i64 0)))
      | .v (.string s) => tt (isStr P t) (K (.v (.int .i64 s.size)))
      | _ => False
    | _ => False
  | _ => False
/-- Rows that are bytes. -/
inductive StopBytes (rows : List (List AV)) (K : AV → Prop) : Prop
  | mk (l : List UInt8) (h : rows = l.map (fun c => [AV.v (.int .u8 c.toNat)])) (k : K (.v (.string ⟨l.toArray⟩))) : StopBytes rows K
theorem byteRow_inj {l m : List UInt8} (h : l.map (fun c => [AV.v (.int .u8 c.toNat)]) = m.map (fun c => [AV.v (.int .u8 c.toNat)])) : l = m := by
  induction l generalizing m with
  | nil => cases m with
    | nil => rfl
    | cons => cases h
  | cons a l ih => cases m with
    | nil => cases h
    | cons b m =>
      simp only [List.map_cons, List.cons.injEq, AV.v.injEq, Value.int.injEq, true_and, and_true] at h
      obtain ⟨h1, h2⟩ := h
      rw [ih h2, UInt8.toNat_inj.1 (by omega : a.toNat = b.toNat)]
theorem StopBytes.nice {rows : List (List AV)} : Nice (StopBytes rows) :=
  ⟨fun f ⟨l, h, k⟩ => ⟨l, h, f _ k⟩, fun ⟨l, h, k⟩ => ⟨_, ⟨l, h, rfl⟩, k⟩⟩
def isU8s (P : Program) (t : TypeId) : Bool := match P.underlying t with
  | some (.slice e) => match P.underlying e with
    | some (.int .u8) => true
    | _ => false
  | _ => false
theorem isU8s_out {P : Program} {t : TypeId} (h : isU8s P t = true) : ∃ e, P.underlying t = some (.slice e) ∧ P.underlying e = some (.int .u8) := by
  unfold isU8s at h
  split at h
  · rename_i e hu
    split at h
    · rename_i h2; exact ⟨e, hu, h2⟩
    · cases h
  · cases h
def convV (P : Program) (t u : TypeId) (v : AV) (mem : List Res) (K : AV → Prop) : Prop :=
  match v with
  | .v (.int _ n) => match P.underlying u with
    | some (.int k) => match P.underlying t with
      | some _ => K (.v (.int k (k.wrap n)))
      | none => False
    | _ => False
  | .v (.string s) => match P.underlying u with
    | some .string => match P.underlying t with
      | some _ => K (.v (.string s))
      | none => False
    | _ => False
  | v => tt (isStr P u) (tt (isU8s P t) (rowsK v mem fun _ rows => StopBytes rows K))
/-- A map is looked into. -/
inductive StopLook (o : Option (List AV)) (K : Option (List AV) → Prop) : Prop
  | mk (h1 : ∀ l, o = some l → K (some l)) (h2 : o = none → K none) : StopLook o K
theorem StopLook.nice {o : Option (List AV)} : Nice (StopLook o) := by
  cases o with
  | none => exact ⟨fun f ⟨_, h⟩ => ⟨fun l e => by (cases e), fun e => f _ (h e)⟩, fun ⟨_, h⟩ => ⟨none, ⟨fun l e => by (cases e), fun _ => rfl⟩, h rfl⟩⟩
  | some l => exact ⟨fun f ⟨h, _⟩ => ⟨fun l e => f _ (h l e), fun e => by cases e⟩, fun ⟨h, _⟩ => ⟨some l, ⟨fun m e => by rw [e], fun e => by cases e⟩, h l rfl⟩⟩
/-- Keys that are compared at once: integers; arrays of two. -/
def keyOk (P : Program) (t : TypeId) (kk : Option IntKind) (k : AV) (K : Value → Prop) : Prop :=
  match P.underlying t with
  | some (.map kt _) => match P.underlying kt with
    | some (.int k') => match kk with
      | some kk => match k with
        | .v (.int k n) => tt (kEq k k') (tt (kEq kk k') (K (.int k n)))
        | _ => False
      | none => False
    | _ => False
  | _ => False
def elemM (P : Program) (t : TypeId) : Option (Value × Bool × Nat) :=
  match P.underlying t with
  | some (.map _ e) => (zeroT P e).bind fun z => (shapeT P e).map fun q => (z, q.1, q.2)
  | _ => none
def valOf (ag : Bool) (l : List AV) : AV :=
  match ag with
  | true => .agg l
  | false => match l with
    | [a] => a
    | _ => .any
def lookK (ag ok : Bool) (z : Value) (o : Option (List AV)) (K : AV → Prop) : Prop :=
  match o with
  | some l => match ok with
    | true => fz (valOf ag l) fun v => K (.tup [v, .v (.bool true)])
    | false => fz (valOf ag l) K
  | none => match ok with
    | true => fz (ofV z) fun v => K (.tup [v, .v (.bool false)])
    | false => fz (ofV z) K
theorem lookK_nice {ag ok : Bool} {z : Value} {o : Option (List AV)} : Nice (lookK ag ok z o) := by
  cases o <;> cases ok <;> exact Nice.congr (Nice.at _) fun K => by simp only [lookK, fz_eq]; rfl
def lookV (P : Program) (t : TypeId) (v k : AV) (ok : Bool) (mem : List Res) (K : AV → Prop) : Prop :=
  match v with
  | .map id => nthK mem id fun r => match r with
    | .map kk ag f => keyOk P t kk k fun key => match elemM P t with
      | some (z, ag', _) => tt (ag == ag') (StopLook (f key) fun o => lookK ag ok z o K)
      | none => False
    | _ => False
  | _ => False
def nilV (v : AV) (K : AV → Prop) : Prop :=
  match v with
  | .box i o => K (.box i o)
  | .adr c => K (.adr c)
  | .elt i g s j o => K (.elt i g s j o)
  | .clo f c => K (.clo f c)
  | _ => False
def minV (mx : Bool) (l : List AV) (K : AV → Prop) : Prop :=
  match l with
  | [.v (.int k x), .v (.int k' y)] => tt (kEq k k') (match mx with
    | true => K (.v (.int k (if x < y then y else x)))
    | false => K (.v (.int k (if y < x then y else x))))
  | _ => False
/-- Operations that only look. -/
def vq (P : Program) (fr : List (Nat × AV)) (mem : List Res) (op : Op) (K : AV → Prop) : Prop :=
  match op with
  | .move x => evV fr x K
  | .assign x => evV fr x K
  | .nilCheck x => evV fr x fun v => nilV v K
  | .pick c x y => evV fr c fun v => match v with
    | .v (.bool b) => (b = true → evV fr x K) ∧ (b = false → evV fr y K)
    | _ => False
  | .load t p => evV fr p fun v => ldV (shapeT P t) v mem K
  | .binOp op t x y _ => evV fr x fun a => evV fr y fun b => binV P op t (isConst y) a b K
  | .build t parts => zeroV P t fun l => bldV (partP P t) fr parts.toList l fun l => K (.agg l)
  | .unOp op _ x => evV fr x fun v => match op with
    | .not => match v with
      | .v (.bool b) => K (.v (.bool (neg b)))
      | _ => False
    | .neg => match v with
      | .v (.int .i64 n) => Vc (In64 (0 - n)) ∧ K (.v (.int .i64 (0 - n)))
      | _ => False
    | _ => False
  | .convert t u x => evV fr x fun v => convV P t u v mem K
  | .extract x i => evV fr x fun v => match v with
    | .tup l => nthK l i K
    | _ => False
  | .field t x f => evV fr x fun v => fldV (fieldP P t f) v K
  | .fieldAddr t x f => evV fr x fun v => faV (fieldP P t f) v K
  | .indexAddr t x y => evV fr x fun v => evV fr y fun i => idxV P t mem v i K
  | .index t x y => evV fr x fun v => evV fr y fun i => ixV P t v i K
  | .slice t x lo hi mx => match mx with
    | none => evV fr x fun v => boundV fr lo fun lo => boundV fr hi fun hi => subV P t v lo hi K
    | some _ => False
  | .lookup t x y ok => evV fr x fun v => evV fr y fun k => lookV P t v k ok mem K
  | .makeInterface t x => tt (Nat.beq t 160) (tt (notIface P t) (evV fr x fun v => match v with
    | .v (.int .i64 k) => Vc (k ≠ 0) ∧ K (.err k)
    | _ => False))
  | .typeAssert x _ u ok => tt ok (tt (Nat.beq u 160) (tt (notIface P u) (evV fr x fun v => match v with
    | .err k => match zeroT P u with
      | some (.int .i64 0) => K (.tup [.v (.int .i64 k), .v (.bool (k != 0))])
      | _ => False
    | _ => False)))
  | .makeFunc fn first caps => match fn with
    | .func f => tt (Nat.beq first.size 0) (evL fr caps.toList fun l => fzL l fun l => K (.clo f l))
    | _ => False
  | .call c => match c.callee with
    | .builtin .len => evL fr c.args.toList fun l => lenV P l c.argTypes.toList K
    | .builtin .min => evL fr c.args.toList fun l => minV false l K
    | .builtin .max => evL fr c.args.toList fun l => minV true l K
    | _ => False
  | _ => False
end Go.Proofs.Ytimfnpjcedjmiaa
