/-
  Engine G, part 8: operations that make memory, or write into memory of the call's own: what is to be shown.
-/
import Derived.Test.YtimfnpjcedjmiaaG7
namespace Go.Proofs.Ytimfnpjcedjmiaa
open Go.RowKit
set_option linter.unusedSimpArgs false
set_option linter.unusedVariables false

/-- Slices' types whose arrays are to be written into; whether what lies in them stands by itself. -/
abbrev Mut := List (Nat × Bool)
def modeT : Mut → Nat → Option Bool
  | [], _ => none
  | (u, b) :: l, t => match Nat.beq u t with
    | true => some b
    | false => modeT l t
/-- Seen, no more. -/
def AV.view : AV → AV
  | .sl sz rows _ => .sl sz rows none
  | x => x
def viewL : List AV → List AV
  | [] => []
  | a :: l => a.view :: viewL l
def freeL : List AV → Bool
  | [] => true
  | a :: l => match a.view.free0 with
    | true => freeL l
    | false => false
def viewR : List (List AV) → List (List AV)
  | [] => []
  | a :: l => viewL a :: viewR l
def freeR : List (List AV) → Bool
  | [] => true
  | a :: l => match freeL a with
    | true => freeR l
    | false => false
def vwL (fr : Bool) (l : List AV) : List AV :=
  match fr with
  | true => viewL l
  | false => l
def okF (fr free : Bool) : Bool :=
  match fr with
  | true => free
  | false => true
/-- A slice's type: its elements' type, cells of one, cells of its zero, bytes of one. -/
def sliceT (P : Program) (t : TypeId) : Option (TypeId × Nat × Nat × Nat) :=
  match elemT P t with
  | some e => match shapeT P e with
    | some (_, sz) => match P.info? e with
      | some i => match i.zero with
        | some z => some (e, sz, z.cells.size, i.bytes)
        | none => none
      | none => none
    | none => none
  | none => none
theorem sliceT_some {P : Program} {t e sz z by_ : Nat} (h : sliceT P t = some (e, sz, z, by_)) :
    P.underlying t = some (.slice e) ∧ ∃ b i z', shapeT P e = some (b, sz) ∧ P.info? e = some i ∧ i.zero = some z' ∧ z'.cells.size = z ∧ i.bytes = by_ ∧ i.size = sz := by
  unfold sliceT at h
  split at h
  · rename_i e' he
    split at h
    · rename_i b sz' hs
      split at h
      · rename_i i hi
        split at h
        · rename_i z' hz
          simp only [Option.some.injEq, Prod.mk.injEq] at h
          obtain ⟨rfl, rfl, rfl, rfl⟩ := h
          refine ⟨elemT_some he, b, i, z', hs, hi, hz, rfl, rfl, ?_⟩
          have := sizeOf_of_shape hs (default : World)
          simp [sizeOf, typeInfo, program, hi, Sem.run_bind, Sem.run, Result.andThen_ok, pure, Sem.run_pure] at this
          exact this
        · cases h
      · cases h
    · cases h
  · cases h
/-- The rows of a literal slice, one behind the other. -/
def rowsV (sz : Nat) (fr : List (Nat × AV)) : Nat → List (Nat × Operand) → (List (List AV) → Prop) → Prop
  | _, [], K => K []
  | i, (j, x) :: l, K => tt (Nat.beq i j) (evV fr x fun v => cellsK v fun r => tt (Nat.beq r.length sz) (fzL r fun r => rowsV sz fr (i + 1) l fun rs => K (r :: rs)))
theorem rowsV_nice {sz : Nat} {fr : List (Nat × AV)} : ∀ {l : List (Nat × Operand)} {i : Nat}, Nice (rowsV sz fr i l)
  | [], i => Nice.at _
  | (j, x) :: l, i => by
    refine Nice.tt (Nice.congr ?_ fun K => by simp only [evV_eq, fzL_eq]; try rfl)
    exact cellsK_nice.bind (U := fun r K => tt (Nat.beq r.length sz) (rowsV sz fr (i + 1) l fun rs => K (r :: rs))) fun r => Nice.tt (rowsV_nice.map _)
def byteRows (s : ByteArray) : List (List AV) := s.data.toList.map fun c => [AV.v (.int .u8 c.toNat)]
/-- What is appended: does it stand by itself; its rows. -/
def srcK (P : Program) (t : TypeId) (sz : Nat) (v : AV) (mem : List Res) (K : Bool → List (List AV) → Prop) : Prop :=
  match v with
  | .sl s rows _ => tt (isSl P t) (tt (Nat.beq s sz) (K true rows))
  | .arr id g n => tt (isSl P t) (nthK mem id fun r => match r with
    | .arr fr _ s g' rows => tt (Nat.beq g g') (tt (Nat.beq s sz) (K fr (rows.take n)))
    | _ => False)
  | .v (.slice none 0 0) => tt (isSl P t) (K true [])
  | .v (.string s) => tt (isStr P t) (tt (Nat.beq sz 1) (K true (byteRows s)))
  | _ => False
theorem srcK_nice {P : Program} {t : TypeId} {sz : Nat} {v : AV} {mem : List Res} {α : Type} {U : Bool → List (List AV) → (α → Prop) → Prop} (hU : ∀ b r, Nice (U b r)) : Nice (fun K => srcK P t sz v mem fun b r => U b r K) := by
  unfold srcK
  split
  · exact Nice.tt (Nice.tt (hU _ _))
  · rename_i id g n
    refine Nice.tt (nthK_nice.bind (U := fun (r : Res) K => match r with
      | .arr fr _ s g' rows => tt (Nat.beq g g') (tt (Nat.beq s sz) (U fr (rows.take n) K))
      | _ => False) fun r => ?_)
    split <;> first | exact Nice.tt (Nice.tt (hU _ _)) | exact Nice.no
  · exact Nice.tt (hU _ _)
  · exact Nice.tt (Nice.tt (hU _ _))
  · exact Nice.no
/-- A slice of one's own of these rows. -/
def newSl (mt : Mut) (t e sz : Nat) (mem : List Res) (free : Bool) (rows : List (List AV)) (n : Nat) (K : List Res → AV → Prop) : Prop :=
  match modeT mt t with
  | none => match free with
    | true => K (mem ++ [.grow e sz 0]) (.sl sz rows (some (mem.length, 0)))
    | false => K (mem ++ [.arr false e sz 0 rows]) (.arr mem.length 0 n)
  | some fr => match fr with
    | true => tt free (K (mem ++ [.arr true e sz 0 rows]) (.arr mem.length 0 n))
    | false => K (mem ++ [.arr false e sz 0 rows]) (.arr mem.length 0 n)
def Fits (n by_ : Nat) : Prop := n ≤ maxLen ∧ n * by_ ≤ 140737488355328
def appV (mt : Mut) (t e sz by_ : Nat) (v : AV) (mem : List Res) (free : Bool) (rows2 : List (List AV)) (K : List Res → AV → Prop) : Prop :=
  match v with
  | .v (.slice none 0 0) => Vc (Fits rows2.length by_) ∧ newSl mt t e sz mem free rows2 rows2.length K
  | .sl s rows (some (id, g)) => tt free (tt (Nat.beq s sz) (nthK mem id fun r => match r with
    | .grow E s' g' => tt (Nat.beq E e) (tt (Nat.beq s' sz) (tt (Nat.beq g g') (Vc (Fits (rows.length + rows2.length) by_) ∧ K (mem.set id (.grow e sz (g + 1))) (.sl sz (rows ++ rows2) (some (id, g + 1))))))
    | _ => False))
  | .arr id g n => nthK mem id fun r => match r with
    | .arr fr E s g' rows => tt (Nat.beq E e) (tt (Nat.beq s sz) (tt (Nat.beq g g') (tt (okF fr free) (Vc (Fits (n + rows2.length) by_) ∧ K (mem.set id (.arr fr e sz (g + 1) (rows.take n ++ rows2))) (.arr id (g + 1) (n + rows2.length))))))
    | _ => False
  | _ => False
abbrev MK := List Res → AV → Prop
def Nice2 (T : MK → Prop) : Prop := Nice (fun K : List Res × AV → Prop => T (fun m v => K (m, v)))
theorem Nice2.at (m : List Res) (v : AV) : Nice2 (fun K => K m v) := Nice.at (m, v)
theorem Nice2.no : Nice2 (fun _ => False) := Nice.no
theorem Nice2.and {p : Prop} {T : MK → Prop} (h : Nice2 T) : Nice2 (fun K => p ∧ T K) := Nice.and h
theorem Nice2.tt {b : Bool} {T : MK → Prop} (h : Nice2 T) : Nice2 (fun K => tt b (T K)) := Nice.tt h
theorem Nice2.bind {α : Type} {T : (α → Prop) → Prop} {U : α → MK → Prop} (h : Nice T) (k : ∀ x, Nice2 (U x)) : Nice2 (fun K => T (fun x => U x K)) := Nice.bind (U := fun x (K : List Res × AV → Prop) => U x fun m v => K (m, v)) h k
theorem Nice2.congr {T U : MK → Prop} (h : Nice2 T) (e : ∀ K, U K = T K) : Nice2 U := Nice.congr h fun K => e _
theorem newSl_nice {mt : Mut} {t e sz : Nat} {mem : List Res} {free : Bool} {rows : List (List AV)} {n : Nat} : Nice2 (newSl mt t e sz mem free rows n) := by
  unfold newSl
  repeat' split
  all_goals first | exact Nice2.at _ _ | exact Nice2.tt (Nice2.at _ _)
theorem appV_nice {mt : Mut} {t e sz by_ : Nat} {v : AV} {mem : List Res} {free : Bool} {rows2 : List (List AV)} : Nice2 (appV mt t e sz by_ v mem free rows2) := by
  unfold appV
  split
  · exact Nice2.and newSl_nice
  · rename_i s rows id g
    refine Nice2.tt (Nice2.tt (nthK_nice.bind (U := fun (r : Res) (K : List Res × AV → Prop) => match r with
      | .grow E s' g' => tt (Nat.beq E e) (tt (Nat.beq s' sz) (tt (Nat.beq g g') (Vc (Fits (rows.length + rows2.length) by_) ∧ K (mem.set id (.grow e sz (g + 1)), .sl sz (rows ++ rows2) (some (id, g + 1))))))
      | _ => False) fun r => ?_))
    split <;> first | exact Nice.tt (Nice.tt (Nice.tt (Nice.and (Nice.at _)))) | exact Nice.no
  · rename_i id g n
    refine nthK_nice.bind (U := fun (r : Res) (K : List Res × AV → Prop) => match r with
      | .arr fr E s g' rows => tt (Nat.beq E e) (tt (Nat.beq s sz) (tt (Nat.beq g g') (tt (okF fr free) (Vc (Fits (n + rows2.length) by_) ∧ K (mem.set id (.arr fr e sz (g + 1) (rows.take n ++ rows2)), .arr id (g + 1) (n + rows2.length))))))
      | _ => False) fun r => ?_
    split <;> first | exact Nice.tt (Nice.tt (Nice.tt (Nice.tt (Nice.and (Nice.at _))))) | exact Nice.no
  · exact Nice2.no
/-- A map with one key's value turned. -/
def keyEq (q k : Value) : Bool :=
  match q, k with
  | .int a x, .int b y => kEq a b && decide (x = y)
  | .agg a, .agg b => match a.toList, b.toList with
    | [.int .i64 x1, .int .i64 x2], [.int .i64 y1, .int .i64 y2] => decide (x1 = y1) && decide (x2 = y2)
    | _, _ => false
  | _, _ => false
theorem keyEq_out {q k : Value} (h : keyEq q k = true) : q = k := by
  unfold keyEq at h
  split at h
  · simp only [Bool.and_eq_true, decide_eq_true_eq] at h; rw [kEq_out h.1, h.2]
  · rename_i a b
    split at h
    · rename_i h1 h2
      simp only [Bool.and_eq_true, decide_eq_true_eq] at h
      obtain ⟨rfl, rfl⟩ := h
      have : a = b := Array.ext' (h1.trans h2.symm)
      rw [this]
    · cases h
  · cases h
theorem kEq_self (k : IntKind) : kEq k k = true := by cases k <;> rfl
theorem keyEq_self {kk : Option IntKind} {k : Value} (h : KeyW kk k) : keyEq k k = true := by
  cases kk with
  | some a => obtain ⟨m, rfl⟩ := h; simp [keyEq, kEq_self]
  | none => obtain ⟨a, b, rfl⟩ := h; simp [keyEq]
def updF (f : Value → Option (List AV)) (k : Value) (o : Option (List AV)) : Value → Option (List AV) := fun q => match keyEq q k with
  | true => o
  | false => f q
def stV (sh : Option (Bool × Nat)) (mem : List Res) (v : AV) (lx : List AV) (K : MK) : Prop :=
  match sh with
  | some (_, k) => tt (Nat.beq k lx.length) (match v with
    | .box id off => nthK mem id fun r => match r with
      | .cells l => tt (Nat.ble (off + lx.length) l.length) (fzL (l.take off ++ lx ++ l.drop (off + lx.length)) fun l => K (mem.set id (.cells l)) .any)
      | _ => False
    | .elt id g sz i o => nthK mem id fun r => match r with
      | .arr fr E s g' rows => tt (Nat.beq s sz) (tt (Nat.beq g g') (tt (okF fr (freeL lx)) (tt (Nat.ble (o + lx.length) sz) (StopRow rows i fun r => K (mem.set id (.arr fr E s g (rows.set i (r.take o ++ vwL fr lx ++ r.drop (o + lx.length))))) .any))))
      | _ => False
    | _ => False)
  | none => False
theorem stV_nice {sh : Option (Bool × Nat)} {mem : List Res} {v : AV} {lx : List AV} : Nice2 (stV sh mem v lx) := by
  unfold stV
  split
  · refine Nice2.tt ?_
    split
    · rename_i id off
      refine nthK_nice.bind (U := fun (r : Res) (K : List Res × AV → Prop) => match r with
        | .cells l => tt (Nat.ble (off + lx.length) l.length) (fzL (l.take off ++ lx ++ l.drop (off + lx.length)) fun l => K (mem.set id (.cells l), .any))
        | _ => False) fun r => ?_
      split
      · exact Nice.tt (Nice.congr (Nice.at _) fun K => by simp only [fzL_eq]; try rfl)
      · exact Nice.no
    · rename_i id g sz i o
      refine nthK_nice.bind (U := fun (r : Res) (K : List Res × AV → Prop) => match r with
        | .arr fr E s g' rows => tt (Nat.beq s sz) (tt (Nat.beq g g') (tt (okF fr (freeL lx)) (tt (Nat.ble (o + lx.length) sz) (StopRow rows i fun r => K (mem.set id (.arr fr E s g (rows.set i (r.take o ++ vwL fr lx ++ r.drop (o + lx.length)))), .any)))))
        | _ => False) fun r => ?_
      split <;> first | exact Nice.tt (Nice.tt (Nice.tt (Nice.tt (StopRow.nice.map _)))) | exact Nice.no
    · exact Nice2.no
  · exact Nice2.no
def aggV (v : AV) : Bool :=
  match v with
  | .agg _ => true
  | _ => false
def kindM (P : Program) (t : TypeId) : Option (Option IntKind × Bool) :=
  match P.underlying t with
  | some (.map kt e) => match shapeT P e with
    | some (b, _) => match P.underlying kt with
      | some (.int k) => some (some k, b)
      | some (.array _ _) => some (none, b)
      | _ => none
    | none => none
  | _ => none
def mapUpdV (P : Program) (t : TypeId) (mem : List Res) (v k : AV) (o : Option (List AV)) (K : MK) (res : AV) : Prop :=
  match v with
  | .map id => nthK mem id fun r => match r with
    | .map kk ag f => match kindM P t with
      | some (_, ag') => tt (ag == ag') (keyOk P t kk k fun key => K (mem.set id (.map kk ag (updF f key o))) res)
      | none => False
    | _ => False
  | _ => False
theorem mapUpdV_nice {P : Program} {t : TypeId} {mem : List Res} {v k : AV} {o : Option (List AV)} {res : AV} : Nice2 (fun K => mapUpdV P t mem v k o K res) := by
  unfold mapUpdV
  split
  · rename_i id
    refine nthK_nice.bind (U := fun (r : Res) (K : List Res × AV → Prop) => match r with
      | .map kk ag f => match kindM P t with
        | some (_, ag') => tt (ag == ag') (keyOk P t kk k fun key => K (mem.set id (.map kk ag (updF f key o)), res))
        | none => False
      | _ => False) fun r => ?_
    split
    · split
      · exact Nice.tt (keyOk_nice.map _)
      · exact Nice.no
    · exact Nice.no
  · exact Nice2.no
/-- A string's next sign. -/
def nextV (mem : List Res) (v : AV) (K : MK) : Prop :=
  match v with
  | .box id 0 => nthK mem id fun r => match r with
    | .siter s pos => (decide (pos < s.size) = true → Vc (byteAt s pos < 128) ∧ K (mem.set id (.siter s (pos + 1))) (.tup [.v (.bool true), .v (.int .i64 pos), .v (.int .i32 (byteAt s pos))])) ∧ (decide (pos < s.size) = false → K mem (.tup [.v (.bool false)]))
    | _ => False
  | _ => False
theorem nextV_nice {mem : List Res} {v : AV} : Nice2 (nextV mem v) := by
  unfold nextV
  split
  · rename_i id
    refine nthK_nice.bind (U := fun (r : Res) (K : List Res × AV → Prop) => match r with
      | .siter s pos => (decide (pos < s.size) = true → Vc (byteAt s pos < 128) ∧ K (mem.set id (.siter s (pos + 1)), .tup [.v (.bool true), .v (.int .i64 pos), .v (.int .i32 (byteAt s pos))])) ∧ (decide (pos < s.size) = false → K (mem, .tup [.v (.bool false)]))
      | _ => False) fun r => ?_
    split
    · exact Nice.if (Nice.and (Nice.at _)) (Nice.at _)
    · exact Nice.no
  · exact Nice2.no
def appCall (P : Program) (mt : Mut) (fr : List (Nat × AV)) (mem : List Res) (args : List Operand) (ts : List TypeId) (K : MK) : Prop :=
  match args with
  | [x, y] => match ts with
    | [t, t'] => match sliceT P t with
      | some (e, sz, z, by_) => fzN sz fun sz => fzB by_ fun by_ => tt (Nat.beq z sz) (tt (Nat.blt 0 sz) (evV fr x fun v => evV fr y fun u => srcK P t' sz u mem fun free rows2 => appV mt t e sz by_ v mem free rows2 K))
      | none => False
    | _ => False
  | _ => False
theorem appCall_nice {P : Program} {mt : Mut} {fr : List (Nat × AV)} {mem : List Res} {args : List Operand} {ts : List TypeId} : Nice2 (appCall P mt fr mem args ts) := by
  unfold appCall
  split
  · split
    · split
      · refine Nice2.congr ?_ fun K => by simp only [fzN_eq, fzB_eq, evV_eq]; try rfl
        exact Nice2.tt (Nice2.tt (srcK_nice (U := fun b r (K : List Res × AV → Prop) => appV mt _ _ _ _ _ mem b r fun m v => K (m, v)) fun b r => appV_nice))
      · exact Nice2.no
    · exact Nice2.no
  · exact Nice2.no
def delCall (P : Program) (fr : List (Nat × AV)) (mem : List Res) (args : List Operand) (ts : List TypeId) (K : MK) : Prop :=
  match args with
  | [x, y] => match ts with
    | t :: _ => evV fr x fun v => evV fr y fun k => mapUpdV P t mem v k none K (.v (.tuple #[]))
    | _ => False
  | _ => False
def clrCall (P : Program) (fr : List (Nat × AV)) (mem : List Res) (args : List Operand) (ts : List TypeId) (K : MK) : Prop :=
  match args with
  | [x] => match ts with
    | [t] => evV fr x fun v => match v with
      | .map id => nthK mem id fun r => match r with
        | .map kk ag _ => tt (kindM P t).isSome (K (mem.set id (.map kk ag fun _ => none)) (.v (.tuple #[])))
        | _ => False
      | _ => False
    | _ => False
  | _ => False
theorem clrCall_nice {P : Program} {fr : List (Nat × AV)} {mem : List Res} {args : List Operand} {ts : List TypeId} : Nice2 (clrCall P fr mem args ts) := by
  unfold clrCall
  split
  · split
    · refine Nice2.congr ?_ fun K => evV_eq
      split
      · rename_i id _
        refine nthK_nice.bind (U := fun (r : Res) (K : List Res × AV → Prop) => match r with
          | .map kk ag _ => tt (kindM P _).isSome (K (mem.set id (.map kk ag fun _ => none), .v (.tuple #[])))
          | _ => False) fun r => ?_
        split <;> first | exact Nice.tt (Nice.at _) | exact Nice.no
      · exact Nice2.no
    · exact Nice2.no
  · exact Nice2.no
/-- A slice held against nil. -/
def nilEq (op : BinOp) (rows : List (List AV)) (mem : List Res) (K : MK) : Prop :=
  match op with
  | .eql => ∀ b : Bool, (b = true → rows = []) → K mem (.v (.bool b))
  | .neq => ∀ b : Bool, (b = true → rows = []) → K mem (.v (.bool (neg b)))
  | _ => False
/-- Operations that make memory, or touch it. -/
def vm (P : Program) (mt : Mut) (fr : List (Nat × AV)) (mem : List Res) (op : Op) (K : MK) : Prop :=
  match op with
  | .box _ x => evV fr x fun v => cellsK v fun l => K (mem ++ [.cells l]) (.box mem.length 0)
  | .alloc t => match zeroT P t with
    | some z => fz (ofV z) fun v => cellsK v fun l => K (mem ++ [.cells l]) (.box mem.length 0)
    | none => False
  | .store t p x => evV fr p fun v => evV fr x fun y => cellsK y fun lx => stV (shapeT P t) mem v lx K
  | .buildSlice t len parts => match sliceT P t with
    | some (e, sz, z, _) => fzN sz fun sz => tt (Nat.beq z sz) (tt (Nat.blt 0 sz) (tt (Nat.ble (len * sz) 16777216) (rowsV sz fr 0 parts.toList fun rows => tt (Nat.beq len rows.length) (match freeR rows with
      | true => newSl mt t e sz mem true (viewR rows) len K
      | false => newSl mt t e sz mem false rows len K))))
    | none => False
  | .makeSlice t l c => match sliceT P t with
    | some (e, sz, z, by_) => fzN sz fun sz => tt (Nat.beq z sz) (tt (Nat.blt 0 sz) (match zeroT P e with
      | some zv => evV fr l fun l => evV fr c fun c => match l with
        | .v (.int _ l) => match c with
          | .v (.int _ c) => Vc (0 ≤ l ∧ c = l ∧ l * by_ ≤ 281474976710656 ∧ l ≤ 4611686018427387904) ∧ tt (zv.cells.toList.all Value.oneCell') (match modeT mt t with
            | some false => K (mem ++ [.arr false e sz 0 (List.replicate l.toNat (zv.cells.toList.map .v))]) (.arr mem.length 0 l.toNat)
            | _ => K (mem ++ [.arr true e sz 0 (List.replicate l.toNat (zv.cells.toList.map .v))]) (.arr mem.length 0 l.toNat))
          | _ => False
        | _ => False
      | none => False))
    | none => False
  | .convert t u x => evV fr x fun v => match v with
    | .v (.string s) => tt (isStr P t) (tt (isU8s P u) (Vc (s.size ≤ maxLen) ∧ K mem (.sl 1 (byteRows s) none)))
    | _ => False
  | .makeMap t r => match r with
    | none => match kindM P t with
      | some (kk, ag) => K (mem ++ [.map kk ag fun _ => none]) (.map mem.length)
      | none => False
    | some _ => False
  | .mapUpdate t m k x => evV fr m fun v => evV fr k fun k => evV fr x fun y => cellsK y fun l => tt (freeL l) (match elemM P t with
    | some (_, b, sz) => tt (b == aggV y) (tt (Nat.beq l.length sz) (mapUpdV P t mem v k (some (viewL l)) K .any))
    | none => False)
  | .range t x => evV fr x fun v => match v with
    | .v (.string s) => tt (isStr P t) (K (mem ++ [.siter s 0]) (.box mem.length 0))
    | _ => False
  | .next x isS => tt isS (evV fr x fun v => nextV mem v K)
  | .binOp op t x y _ => evV fr x fun v => evV fr y fun u => match u with
    | .v (.slice none 0 0) => match v with
      | .sl _ rows _ => tt (isSl P t) (nilEq op rows mem K)
      | .v (.slice none 0 0) => tt (isSl P t) (binN op true (K mem))
      | _ => False
    | _ => False
  | .call c => match c.callee with
    | .builtin .append => appCall P mt fr mem c.args.toList c.argTypes.toList K
    | .builtin .delete => delCall P fr mem c.args.toList c.argTypes.toList K
    | .builtin .clear => clrCall P fr mem c.args.toList c.argTypes.toList K
    | _ => False
  | _ => False
/-- Does it touch memory? -/
def memOp (P : Program) (op : Op) : Bool :=
  match op with
  | .box _ _ | .alloc _ | .store _ _ _ | .buildSlice _ _ _ | .makeSlice _ _ _ | .makeMap _ _ | .mapUpdate _ _ _ _ | .range _ _ | .next _ _ => true
  | .convert _ u _ => isU8s P u
  | .binOp _ t _ _ _ => isSl P t
  | .call c => match c.callee with
    | .builtin .append | .builtin .delete | .builtin .clear => true
    | _ => false
  | _ => false
/-- .. with one outcome. -/
def oneOp : Op → Bool
  | .binOp _ _ _ _ _ => false
  | _ => true
theorem vm_nice {P : Program} {mt : Mut} {fr : List (Nat × AV)} {mem : List Res} {op : Op} (h : oneOp op = true) : Nice2 (vm P mt fr mem op) := by
  cases op
  case box t x => exact Nice2.congr (T := fun K => cellsK _ fun l => K (mem ++ [Res.cells l]) (.box mem.length 0)) (Nice2.bind (U := fun (l : List AV) (K : MK) => K (mem ++ [Res.cells l]) (.box mem.length 0)) cellsK_nice fun l => Nice2.at _ _) fun K => evV_eq
  case alloc t =>
    show Nice2 (fun K => vm P mt fr mem (.alloc t) K)
    simp only [vm]
    split
    · exact Nice2.congr (T := fun K => cellsK _ fun l => K (mem ++ [Res.cells l]) (.box mem.length 0)) (Nice2.bind (U := fun (l : List AV) (K : MK) => K (mem ++ [Res.cells l]) (.box mem.length 0)) cellsK_nice fun l => Nice2.at _ _) fun K => by simp only [fz_eq]; try rfl
    · exact Nice2.no
  case store t p x => exact Nice2.congr (Nice2.bind cellsK_nice fun l => stV_nice) fun K => by simp only [vm, evV_eq]; try rfl
  case buildSlice t len parts =>
    show Nice2 (fun K => vm P mt fr mem (.buildSlice t len parts) K)
    simp only [vm]
    split
    · refine Nice2.congr ?_ fun K => by simp only [fzN_eq]; try rfl
      refine Nice2.tt (Nice2.tt (Nice2.tt (Nice2.bind rowsV_nice fun rows => Nice2.tt ?_)))
      split <;> exact newSl_nice
    · exact Nice2.no
  case makeSlice t l c =>
    show Nice2 (fun K => vm P mt fr mem (.makeSlice t l c) K)
    simp only [vm]
    split
    · refine Nice2.congr ?_ fun K => by simp only [fzN_eq, evV_eq]; try rfl
      refine Nice2.tt (Nice2.tt ?_)
      repeat' split
      all_goals first | exact Nice2.no | exact Nice2.and (Nice2.tt (Nice2.at _ _))
    · exact Nice2.no
  case convert t u x =>
    refine Nice2.congr ?_ fun K => evV_eq
    split
    · exact Nice2.tt (Nice2.tt (Nice2.and (Nice2.at _ _)))
    · exact Nice2.no
  case makeMap t r =>
    show Nice2 (fun K => vm P mt fr mem (.makeMap t r) K)
    simp only [vm]
    split
    · split <;> first | exact Nice2.at _ _ | exact Nice2.no
    · exact Nice2.no
  case mapUpdate t m k x =>
    refine Nice2.congr (Nice2.bind cellsK_nice fun l => Nice2.tt ?_) fun K => by simp only [vm, evV_eq]; try rfl
    split
    · exact Nice2.tt (Nice2.tt mapUpdV_nice)
    · exact Nice2.no
  case range t x =>
    refine Nice2.congr ?_ fun K => evV_eq
    split
    · exact Nice2.tt (Nice2.at _ _)
    · exact Nice2.no
  case next x s => exact Nice2.tt (Nice2.congr nextV_nice fun K => evV_eq)
  case binOp => cases h
  case call c =>
    obtain ⟨callee, args, ats⟩ := c
    cases callee with
    | builtin b =>
      cases b
      case append => exact appCall_nice
      case delete =>
        show Nice2 (delCall P fr mem args.toList ats.toList)
        unfold delCall
        repeat' split
        all_goals first | exact Nice2.no | exact Nice2.congr mapUpdV_nice fun K => by simp only [evV_eq]; try rfl
      case clear => exact clrCall_nice
      all_goals exact Nice2.no
    | _ => exact Nice2.no
  all_goals exact Nice2.no
end Go.Proofs.Ytimfnpjcedjmiaa
