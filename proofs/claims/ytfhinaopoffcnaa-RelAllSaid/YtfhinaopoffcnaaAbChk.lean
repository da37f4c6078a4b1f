/- A resolved function stands for a function of the program: a check by reckoning. -/
import Derived.Test.YtfhinaopoffcnaaAbHeap
set_option linter.unusedVariables false
namespace Go.Ab
open Go.RowKit

/-- A constant. -/
def constB : AV → Value → Bool
  | .b x, .bool y => x == y
  | .i k n, .int j m => decide (k = j) && decide (n = m)
  | .s x, .string y => decide (x = y)
  | .nilp, .pointer none => true
  | .nilf, .nilFunc => true
  | .nili, .nilIface => true
  | .sl [] 0 .rig, .slice none 0 0 => true
  | _, _ => false
def constsB : List AV → List Value → Bool
  | [], [] => true
  | x :: xs, v :: vs => constB x v && constsB xs vs
  | _, _ => false
theorem rep_nilsl (c : Cx) (m : Bool) : Rep c m (.sl [] 0 .rig) (.slice none 0 0) :=
  .sl ⟨0, 0, none⟩ [] (Nat.le_refl _) (Nat.zero_le _) (fun _ => rfl) (fun _ _ _ h => by cases h) (fun h => absurd h (Nat.lt_irrefl _)) (fun _ h => by simp at h) rfl (fun h => absurd rfl h) (fun _ _ h => by simp at h) (fun _ _ _ h => by simp at h) (fun _ _ h => by cases h)
theorem constB_rep {x : AV} {v : Value} (h : constB x v = true) (c : Cx) (m : Bool) : Rep c m x v := by
  unfold constB at h
  split at h
  · simp at h; subst h; exact .b _
  · simp at h; obtain ⟨rfl, rfl⟩ := h; exact .i _ _
  · simp at h; subst h; exact .s _
  · exact .nilp
  · exact .nilf
  · exact .nili
  · exact rep_nilsl c m
  · cases h
theorem constsB_rep : ∀ {xs : List AV} {vs : List Value}, constsB xs vs = true → ∀ (c : Cx) (m : Bool), Reps c m xs vs
  | [], [], _, c, m => Reps.nil
  | x :: xs, v :: vs, h, c, m => by
    simp only [constsB, Bool.and_eq_true] at h
    exact Reps.cons (constB_rep h.1 c m) (constsB_rep h.2 c m)
  | [], _ :: _, h, _, _ => by simp [constsB] at h
  | _ :: _, [], h, _, _ => by simp [constsB] at h
theorem constB_one {x : AV} {v : Value} (h : constB x v = true) : Ab.one x = true := by
  unfold constB at h
  split at h <;> first | rfl | cases h
theorem constsB_one : ∀ {xs : List AV} {vs : List Value}, constsB xs vs = true → xs.all Ab.one = true
  | [], [], _ => rfl
  | x :: xs, v :: vs, h => by
    simp only [constsB, Bool.and_eq_true] at h
    simp only [List.all_cons, constB_one h.1, constsB_one h.2, Bool.and_self]
  | [], _ :: _, h => by simp [constsB] at h
  | _ :: _, [], h => by simp [constsB] at h

section
variable (P : Program) (nm : Nat → Nat)

/-- An operand. -/
def opdB : Operand → Opd → Bool
  | .tmp t, .t n => t == n
  | .const (.agg cs), .c (.agg xs) => constsB xs cs.toList
  | .const v, .c x => constB x v
  | .func f, .c (.fn n [] []) => nm n == f
  | _, _ => false
def opdsB : List Operand → List Opd → Bool
  | [], [] => true
  | x :: xs, y :: ys => opdB nm x y && opdsB xs ys
  | _, _ => false
def opdO : Option Operand → Option Opd → Bool
  | none, none => true
  | some x, some y => opdB nm x y
  | _, _ => false

def isAggB (t : TypeId) : Bool := match P.underlying t with | some (.struct _) | some (.array _ _) => true | _ => false
/-- Is a variable of the type so many cells (a row), or one? -/
def aggB (t : TypeId) : Option Nat → Bool
  | none => !isAggB P t && (P.underlying t).isSome && (P.info? t).isSome
  | some n => isAggB P t && ((P.info? t).map (·.size) == some n)
def zeroB (t : TypeId) (zero : List AV) : Bool := match P.info? t with
  | some i => match i.zero with
    | some z => constsB zero z.cells.toList && (i.size == zero.length)
    | none => false
  | none => false
def sizeB (t : TypeId) (n : Nat) : Bool := (P.info? t).map (·.size) == some n
def partsB (place : Nat → Option (Nat × Nat)) : List (Nat × Operand) → List (Nat × Nat × Opd) → Bool
  | [], [] => true
  | (i, x) :: ps, (off, n, y) :: qs => (place i == some (off, n)) && opdB nm x y && partsB place ps qs
  | _, _ => false
def fieldPlaces (fs : Array Field) : Array (Option (Nat × Nat)) := fs.map fun f => (P.info? f.type).map fun i => (f.offset, i.size)
def reps (n : Nat) (zero : List AV) : List AV := (List.replicate n zero).flatten
/-- A scalar type's kind. -/
def kindB (t : TypeId) : Option Nat :=
  if aggB P t none && sizeB P t 1 then (match P.underlying t with
    | some (.int _) => some 0
    | some .bool => some 1
    | some .string => some 2
    | _ => none) else none
def eqFieldsB : Nat → List Field → List Nat → Bool
  | _, [], [] => true
  | n, f :: fs, k :: ks => (f.name != "_") && (f.offset == n) && (kindB P f.type == some k) && eqFieldsB (n + 1) fs ks
  | _, _, _ => false
def modeOk (m : Mode) : Bool := match m with | _ => true

def opB (o : Op) (ao : AOp) : Bool :=
  match ao with
  | .mv x => match o with
    | .move y | .assign y => opdB nm y x
    | _ => false
  | .pick c a b => match o with
    | .pick c' a' b' => opdB nm c' c && opdB nm a' a && opdB nm b' b
    | _ => false
  | .new zero => match o with
    | .alloc t => zeroB P t zero
    | _ => false
  | .box x => match o with
    | .box _ y => opdB nm y x
    | _ => false
  | .boxI x => match o with
    | .box _ y => opdB nm y x
    | _ => false
  | .build zero parts => match o with
    | .build t ps => zeroB P t zero && (match P.underlying t with
      | some (.struct fs) => (fieldPlaces P fs).all (·.isSome) && partsB nm (fun i => ((fieldPlaces P fs)[i]?).bind id) ps.toList parts
      | some (.array _ e) => (match P.info? e with | some i => partsB nm (fun j => some (j * i.size, i.size)) ps.toList parts | none => false)
      | _ => false)
    | _ => false
  | .bsl _ n zero parts => match o with
    | .buildSlice t len ps => (match P.underlying t with
      | some (.slice e) => (match P.info? e with
        | some i => (match i.zero with
          | some z => (len == n) && decide (len * i.size ≤ 2 ^ 24) && decide (len ≤ 2 ^ 24) && (z.cells.size == i.size) &&
             constsB zero ((Array.range (len * i.size)).map (z.cells[· % z.cells.size]!)).toList && partsB nm (fun j => some (j * i.size, i.size)) ps.toList parts
          | none => false)
        | none => false)
      | _ => false)
    | _ => false
  | .ld agg x => match o with
    | .load t y => aggB P t agg && opdB nm y x
    | _ => false
  | .st n a x => match o with
    | .store t b y => sizeB P t n && opdB nm b a && opdB nm y x
    | _ => false
  | .stL n a x => match o with
    | .store t b y => sizeB P t n && opdB nm b a && opdB nm y x
    | _ => false
  | .nilck x => match o with
    | .nilCheck y => opdB nm y x
    | _ => false
  | .un op x => match o with
    | .unOp op' _ y => decide (op' = op) && opdB nm y x
    | _ => false
  | .conv k x => match o with
    | .convert _ dst y => (match P.underlying dst with | some (.int k') => decide (k' = k) | _ => false) && (P.underlying (match o with | .convert s _ _ => s | _ => 0)).isSome && opdB nm y x
    | _ => false
  | .mkfn f fst caps => match o with
    | .makeFunc (.func f') a b => (nm f == f') && opdsB nm a.toList fst && opdsB nm b.toList caps
    | _ => false
  | .mksl zero esz bytes len cap => match o with
    | .makeSlice t l c => (match P.underlying t with
      | some (.slice e) => zeroB P e zero && (match P.info? e with | some i => (i.size == esz) && (i.bytes == bytes) && decide (0 < esz) | none => false)
      | _ => false) && opdB nm l len && opdB nm c cap
    | _ => false
  | .slice esz x lo hi mx => match o with
    | .slice t y l h m => (match P.underlying t with
      | some (.slice e) => sizeB P e esz
      | _ => false) && opdB nm y x && opdO nm l lo && opdO nm h hi && opdO nm m mx && (mx.isNone || hi.isSome)
    | _ => false
  | .fa off x => match o with
    | .fieldAddr t y f => (match P.underlying t with
      | some (.struct fs) => (match fs[f]? with
        | some fd => (fd.offset == off) && (match P.info? fd.type with | some i => i.size != 0 | none => false)
        | none => false)
      | _ => false) && opdB nm y x
    | _ => false
  | .fld off agg x => match o with
    | .field t y f => (match P.underlying t with
      | some (.struct fs) => (match fs[f]? with
        | some fd => (fd.offset == off) && aggB P fd.type agg
        | none => false)
      | _ => false) && opdB nm y x
    | _ => false
  | .ia esz x i => match o with
    | .indexAddr t y j => (match P.underlying t with
      | some (.slice e) => sizeB P e esz
      | _ => false) && opdB nm y x && opdB nm j i
    | _ => false
  | .iaa len esz x i => match o with
    | .indexAddr t y j => (match P.underlying t with
      | some (.array n e) => (n == len) && sizeB P e esz
      | _ => false) && opdB nm y x && opdB nm j i
    | _ => false
  | .idx len esz agg x i => match o with
    | .index t y j => (match P.underlying t with
      | some (.array n e) => (n == len) && sizeB P e esz && aggB P e agg
      | _ => false) && opdB nm y x && opdB nm j i
    | _ => false
  | .sidx x i => match o with
    | .index t y j => (match P.underlying t with | some .string => true | _ => false) && opdB nm y x && opdB nm j i
    | _ => false
  | .ext i x => match o with
    | .extract y j => (i == j) && opdB nm y x
    | _ => false
  | .len x => match o with
    | .call c => (match c.callee with | .builtin .len => true | _ => false) && (match c.args.toList, c.argTypes.toList with
      | [y], [t] => opdB nm y x && (match P.underlying t with | some (.slice _) => true | _ => false)
      | _, _ => false)
    | _ => false
  | .slen x => match o with
    | .call c => (match c.callee with | .builtin .len => true | _ => false) && (match c.args.toList, c.argTypes.toList with
      | [y], [t] => opdB nm y x && (match P.underlying t with | some .string => true | _ => false)
      | _, _ => false)
    | _ => false
  | .sslice x lo hi => match o with
    | .slice t y l h none => (match P.underlying t with | some .string => true | _ => false) && opdB nm y x && opdO nm l lo && opdO nm h hi
    | _ => false
  | .mx x y => match o with
    | .call c => (match c.callee with | .builtin .max => true | _ => false) && opdsB nm c.args.toList [x, y]
    | _ => false
  | .mn x y => match o with
    | .call c => (match c.callee with | .builtin .min => true | _ => false) && opdsB nm c.args.toList [x, y]
    | _ => false
  | .app esz bytes x y => match o with
    | .call c => (match c.callee with | .builtin .append => true | _ => false) && opdsB nm c.args.toList [x, y] && (match c.argTypes.toList with
      | [t, u] => (match P.underlying t, P.underlying u with
        | some (.slice e), some (.slice _) => (match P.info? e with
          | some i => (i.size == esz) && (i.bytes == bytes) && (match i.zero with | some z => (z.cells.size == esz) && decide (0 < esz) | none => false)
          | none => false)
        | _, _ => false)
      | _ => false)
    | _ => false
  | .call _ f args => match o with
    | .call c => (match c.callee with | .value g => opdB nm g f | _ => false) && opdsB nm c.args.toList args
    | _ => false
  | .mkmap => match o with
    | .makeMap _ none => true
    | _ => false
  | .mput m k v => match o with
    | .insert t m' k' v' | .mapUpdate t m' k' v' => (match P.underlying t with
      | some (.map kt _) => (match P.underlying kt with | some .string => true | _ => false)
      | _ => false) && opdB nm m' m && opdB nm k' k && opdB nm v' v
    | _ => false
  | .mget m k => match o with
    | .lookup t m' k' false => (match P.underlying t with
      | some (.map kt _) => (match P.underlying kt with | some .string => true | _ => false)
      | _ => false) && opdB nm m' m && opdB nm k' k
    | _ => false
  | .bin op x y => match o with
    | .binOp op' t a b _ => decide (op' = op) && opdB nm a x && opdB nm b y
    | _ => false
  | .eqb neg x y => match o with
    | .binOp op t a b _ => decide (op = if neg then .neq else .eql) && opdB nm a x && opdB nm b y && (match P.underlying t with | some .bool => true | _ => false)
    | _ => false
  | .eqn neg x y => match o with
    | .binOp op t a b _ => decide (op = if neg then .neq else .eql) && opdB nm a x && opdB nm b y && (match P.underlying t with | some (.pointer _) => true | _ => false)
    | _ => false
  | .eqa neg ks x y => match o with
    | .binOp op t a b _ => decide (op = if neg then .neq else .eql) && opdB nm a x && opdB nm b y && !P.eqGuardType P.depth t && (match P.underlying t with
      | some (.array n e) => (match kindB P e with | some k => ks == List.replicate n k | none => false)
      | some (.struct fs) => !P.stoodInHeld t && eqFieldsB P 0 fs.toList ks
      | _ => false)
    | _ => false
end
end Go.Ab
