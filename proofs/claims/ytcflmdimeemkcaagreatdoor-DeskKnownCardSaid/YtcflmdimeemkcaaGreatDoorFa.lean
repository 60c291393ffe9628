/-
  An abstract evaluator of the model's code (deterministic, for the kernel), how a function's code is worked out for it, and laws of some library functions. No condition.
-/
import GoSem.Step
set_option autoImplicit true
set_option relaxedAutoImplicit true
set_option linter.unusedVariables false
set_option linter.unusedSimpArgs false
set_option linter.unusedSectionVars false
section
namespace Go.Ab
/-- a leaf at which the evaluation fails -/
def ff (_ : Nat) : Bool := false
/-! ### tries -/
inductive Pth where
  | e
  | o (p : Pth)
  | i (p : Pth)
noncomputable def pthF : Nat → Nat → Pth :=
  Nat.rec (fun _ => .e) (fun _ ih n => Bool.rec (Bool.rec (.i (ih (Nat.sub (Nat.div n 2) 1))) (.o (ih (Nat.div n 2))) (Nat.beq (Nat.mod n 2) 1)) .e (Nat.beq n 0))
noncomputable def pth (n : Nat) : Pth := pthF n n
structure Tr (α : Type) where
  l : Option (Tr α)
  v : Option α
  r : Option (Tr α)
def Tr.lf {α : Type} : Tr α := ⟨none, none, none⟩
noncomputable def Tr.get {α : Type} : Pth → Tr α → (α → Bool) → Bool :=
  Pth.rec (fun t k => Option.rec (ff 2) k t.v) (fun _ ih t k => Option.rec (ff 3) (fun l => ih l k) t.l) (fun _ ih t k => Option.rec (ff 4) (fun r => ih r k) t.r)
/-- an option, reckoned out -/
noncomputable def frc {α : Type} (x : Option α) (k : Option α → Bool) : Bool := Option.rec (k none) (fun v => k (some v)) x
noncomputable def orLf {α : Type} : Option (Tr α) → Tr α := Option.rec Tr.lf (fun t => t)
noncomputable def Tr.put {α : Type} (v : Option α) : Pth → Tr α → (Tr α → Bool) → Bool :=
  Pth.rec (fun t k => frc t.l (fun l => frc t.r (fun r => k ⟨l, v, r⟩)))
    (fun _ ih t k => frc t.v (fun u => frc t.r (fun r => ih (orLf t.l) (fun l => k ⟨some l, u, r⟩))))
    (fun _ ih t k => frc t.v (fun u => frc t.l (fun l => ih (orLf t.r) (fun r => k ⟨l, u, some r⟩))))
/-- what stands at a place, turned -/
noncomputable def Tr.mod {α : Type} (f : α → (α → Bool) → Bool) : Pth → Tr α → (Tr α → Bool) → Bool :=
  Pth.rec (fun t k => Option.rec (ff 5) (fun v => f v (fun v' => frc t.l (fun l => frc t.r (fun r => k ⟨l, some v', r⟩)))) t.v)
    (fun _ ih t k => Option.rec (ff 6) (fun l => ih l (fun l => frc t.v (fun u => frc t.r (fun r => k ⟨some l, u, r⟩)))) t.l)
    (fun _ ih t k => Option.rec (ff 7) (fun r => ih r (fun r => frc t.v (fun u => frc t.l (fun l => k ⟨l, u, some r⟩)))) t.r)
/-- a number, reckoned out -/
noncomputable def force (n : Nat) (k : Nat → Bool) : Bool := Nat.rec (k 0) (fun m _ => k (Nat.succ m)) n
/-! ### values -/
noncomputable def vBool : Value → (Bool → Bool) → Bool → Bool :=
  @Value.rec (fun _ => ((Bool → Bool) → Bool → Bool)) (fun _ => Unit) (fun _ => Unit)
    (fun b f _ => f b) (fun _ _ _ d => d) (fun _ _ _ d => d) (fun _ _ _ _ d => d) (fun _ _ d => d) (fun _ _ d => d) (fun _ _ _ _ d => d) (fun _ _ d => d) (fun _ _ d => d) (fun _ _ _ _ _ _ d => d) (fun _ d => d) (fun _ _ _ _ d => d) (fun _ d => d) (fun _ _ _ d => d) (fun _ _ _ d => d)
    (fun _ _ => ()) () (fun _ _ _ _ => ())
noncomputable def vInt : Value → (IntKind → Int → Bool) → Bool → Bool :=
  @Value.rec (fun _ => ((IntKind → Int → Bool) → Bool → Bool)) (fun _ => Unit) (fun _ => Unit)
    (fun _ _ d => d) (fun k n f _ => f k n) (fun _ _ _ d => d) (fun _ _ _ _ d => d) (fun _ _ d => d) (fun _ _ d => d) (fun _ _ _ _ d => d) (fun _ _ d => d) (fun _ _ d => d) (fun _ _ _ _ _ _ d => d) (fun _ d => d) (fun _ _ _ _ d => d) (fun _ d => d) (fun _ _ _ d => d) (fun _ _ _ d => d)
    (fun _ _ => ()) () (fun _ _ _ _ => ())
noncomputable def vStr : Value → (ByteArray → Bool) → Bool → Bool :=
  @Value.rec (fun _ => ((ByteArray → Bool) → Bool → Bool)) (fun _ => Unit) (fun _ => Unit)
    (fun _ _ d => d) (fun _ _ _ d => d) (fun _ _ _ d => d) (fun _ _ _ _ d => d) (fun s f _ => f s) (fun _ _ d => d) (fun _ _ _ _ d => d) (fun _ _ d => d) (fun _ _ d => d) (fun _ _ _ _ _ _ d => d) (fun _ d => d) (fun _ _ _ _ d => d) (fun _ d => d) (fun _ _ _ d => d) (fun _ _ _ d => d)
    (fun _ _ => ()) () (fun _ _ _ _ => ())
noncomputable def vPtrO : Value → (Option Addr → Bool) → Bool → Bool :=
  @Value.rec (fun _ => ((Option Addr → Bool) → Bool → Bool)) (fun _ => Unit) (fun _ => Unit)
    (fun _ _ d => d) (fun _ _ _ d => d) (fun _ _ _ d => d) (fun _ _ _ _ d => d) (fun _ _ d => d) (fun a f _ => f a) (fun _ _ _ _ d => d) (fun _ _ d => d) (fun _ _ d => d) (fun _ _ _ _ _ _ d => d) (fun _ d => d) (fun _ _ _ _ d => d) (fun _ d => d) (fun _ _ _ d => d) (fun _ _ _ d => d)
    (fun _ _ => ()) () (fun _ _ _ _ => ())
noncomputable def vPtr : Value → (Addr → Bool) → Bool → Bool :=
  @Value.rec (fun _ => ((Addr → Bool) → Bool → Bool)) (fun _ => Unit) (fun _ => Unit)
    (fun _ _ d => d) (fun _ _ _ d => d) (fun _ _ _ d => d) (fun _ _ _ _ d => d) (fun _ _ d => d) (fun a f d => Option.rec d (fun a => f a) a) (fun _ _ _ _ d => d) (fun _ _ d => d) (fun _ _ d => d) (fun _ _ _ _ _ _ d => d) (fun _ d => d) (fun _ _ _ _ d => d) (fun _ d => d) (fun _ _ _ d => d) (fun _ _ _ d => d)
    (fun _ _ => ()) () (fun _ _ _ _ => ())
noncomputable def vSl : Value → (Option Addr → Nat → Nat → Bool) → Bool → Bool :=
  @Value.rec (fun _ => ((Option Addr → Nat → Nat → Bool) → Bool → Bool)) (fun _ => Unit) (fun _ => Unit)
    (fun _ _ d => d) (fun _ _ _ d => d) (fun _ _ _ d => d) (fun _ _ _ _ d => d) (fun _ _ d => d) (fun _ _ d => d) (fun a n c f _ => f a n c) (fun _ _ d => d) (fun _ _ d => d) (fun _ _ _ _ _ _ d => d) (fun _ d => d) (fun _ _ _ _ d => d) (fun _ d => d) (fun _ _ _ d => d) (fun _ _ _ d => d)
    (fun _ _ => ()) () (fun _ _ _ _ => ())
noncomputable def vMap : Value → (Option Nat → Bool) → Bool → Bool :=
  @Value.rec (fun _ => ((Option Nat → Bool) → Bool → Bool)) (fun _ => Unit) (fun _ => Unit)
    (fun _ _ d => d) (fun _ _ _ d => d) (fun _ _ _ d => d) (fun _ _ _ _ d => d) (fun _ _ d => d) (fun _ _ d => d) (fun _ _ _ _ d => d) (fun r f _ => f r) (fun _ _ d => d) (fun _ _ _ _ _ _ d => d) (fun _ d => d) (fun _ _ _ _ d => d) (fun _ d => d) (fun _ _ _ d => d) (fun _ _ _ d => d)
    (fun _ _ => ()) () (fun _ _ _ _ => ())
noncomputable def vFunc : Value → (Fn → Array Value → Array Value → Bool) → Bool → Bool :=
  @Value.rec (fun _ => ((Fn → Array Value → Array Value → Bool) → Bool → Bool)) (fun _ => Unit) (fun _ => Unit)
    (fun _ _ d => d) (fun _ _ _ d => d) (fun _ _ _ d => d) (fun _ _ _ _ d => d) (fun _ _ d => d) (fun _ _ d => d) (fun _ _ _ _ d => d) (fun _ _ d => d) (fun _ _ d => d) (fun fn a b _ _ f _ => f fn a b) (fun _ d => d) (fun _ _ _ _ d => d) (fun _ d => d) (fun _ _ _ d => d) (fun _ _ _ d => d)
    (fun _ _ => ()) () (fun _ _ _ _ => ())
noncomputable def vAgg : Value → (List Value → Bool) → Bool → Bool :=
  @Value.rec (fun _ => ((List Value → Bool) → Bool → Bool)) (fun _ => Unit) (fun _ => Unit)
    (fun _ _ d => d) (fun _ _ _ d => d) (fun _ _ _ d => d) (fun _ _ _ _ d => d) (fun _ _ d => d) (fun _ _ d => d) (fun _ _ _ _ d => d) (fun _ _ d => d) (fun _ _ d => d) (fun _ _ _ _ _ _ d => d) (fun _ d => d) (fun _ _ _ _ d => d) (fun _ d => d) (fun cs _ f _ => f cs.toList) (fun _ _ _ d => d)
    (fun _ _ => ()) () (fun _ _ _ _ => ())
noncomputable def vTup : Value → (List Value → Bool) → Bool → Bool :=
  @Value.rec (fun _ => ((List Value → Bool) → Bool → Bool)) (fun _ => Unit) (fun _ => Unit)
    (fun _ _ d => d) (fun _ _ _ d => d) (fun _ _ _ d => d) (fun _ _ _ _ d => d) (fun _ _ d => d) (fun _ _ d => d) (fun _ _ _ _ d => d) (fun _ _ d => d) (fun _ _ d => d) (fun _ _ _ _ _ _ d => d) (fun _ d => d) (fun _ _ _ _ d => d) (fun _ d => d) (fun _ _ _ d => d) (fun cs _ f _ => f cs.toList)
    (fun _ _ => ()) () (fun _ _ _ _ => ())
noncomputable def vCells : Value → (List Value → Bool) → Bool :=
  @Value.rec (fun _ => ((List Value → Bool) → Bool)) (fun _ => Unit) (fun _ => Unit)
    (fun b f => f [.bool b]) (fun k n f => f [.int k n]) (fun k n f => f [.float k n]) (fun k a b f => f [.complex k a b]) (fun s f => f [.string s]) (fun a f => f [.pointer a]) (fun a n c f => f [.slice a n c]) (fun r f => f [.map r]) (fun _ _ => ff 8) (fun fn a b _ _ f => f [.func fn a b]) (fun f => f [.nilFunc]) (fun t v _ f => f [.iface t v]) (fun f => f [.nilIface]) (fun cs _ f => f cs.toList) (fun _ _ _ => ff 8)
    (fun _ _ => ()) () (fun _ _ _ _ => ())
/-! ### the state -/
/-- what a region has computed so far, the latest first -/
inductive Bd where
  | nil
  | cons (v : Value) (l : Bd)
/-- a block of cells: chunks of s cells, n of them; their element's type; none: never frozen; some k: not frozen from k on -/
structure CB where
  t : Tr (List Value)
  n : Nat
  s : Nat
  e : TypeId
  fz : Option Nat
/-- a frame's places: eight and the rest -/
structure E where
  r0 : Value
  r1 : Value
  r2 : Value
  r3 : Value
  r4 : Value
  r5 : Value
  r6 : Value
  r7 : Value
  t : Tr Value
/-- a value of which nothing is known -/
def top : Value := .chan none
def E.nil : E := ⟨top, top, top, top, top, top, top, top, .lf⟩
/-- the other objects -/
inductive AObj where
  | amap (es : List (Value × Value × Nat)) (clock : Nat)
  | amapU (es : List (Value × Value))
  | iterS (s : List UInt8) (pos : Nat)
  | iterM (m : Option Nat) (since : Nat) (seen : List Nat) (stepped : Nat)
  /-- a range over a function: how it stands, the function and which of its ranges, its frame's places -/
  | loop (state : LoopState) (pending : Option Code) (fn idx : Nat) (env : E)
/-- blocks of one chunk that do not outlive their function's call, the latest first -/
inductive Yl where
  | nil
  | cons (b s : Nat) (c : List Value) (e : TypeId) (l : Yl)
structure Hp where
  y : Yl
  t : Tr CB
  o : Tr AObj
  /-- the next number: of a young block, of a block, of another object -/
  ny : Nat
  nt : Nat
  no : Nat
/-- where the young ones' numbers begin, and the other objects' -/
def yb : Nat := 1099511627776
def ob : Nat := 549755813888
theorem yb_eq : yb = 1099511627776 := rfl
theorem ob_eq : ob = 549755813888 := rfl
attribute [irreducible] yb ob
noncomputable def Yl.at (b : Nat) (k : Nat → List Value → TypeId → Bool) : Yl → Bool := Yl.rec (ff 20) (fun i s c e _ ih => Bool.rec ih (k s c e) (Nat.beq i b))
noncomputable def Yl.mod (b : Nat) (f : Nat → List Value → (List Value → Bool) → Bool) : Yl → (Yl → Bool) → Bool :=
  Yl.rec (fun _ => ff 21) (fun i s c e l ih k => Bool.rec (ih (fun l' => k (.cons i s c e l'))) (f s c (fun c' => k (.cons i s c' e l))) (Nat.beq i b))
noncomputable def Yl.pop (n : Nat) (k : Yl → Bool) : Yl → Bool := Yl.rec (k .nil) (fun i s c e l ih => Bool.rec (k (.cons i s c e l)) ih (Nat.ble n i))
/-- a block of cells, old or young -/
noncomputable def Hp.cells (h : Hp) (b : Nat) (k : CB → Bool) (ky : Nat → List Value → TypeId → Bool) : Bool := Bool.rec (h.t.get (pth b) k) (Yl.at b ky h.y) (Nat.ble yb b)
noncomputable def Hp.obj (h : Hp) (b : Nat) (k : AObj → Bool) : Bool := Bool.rec (ff 22) (h.o.get (pth (Nat.mod b ob)) k) (Nat.beq (Nat.div b ob) 1)
noncomputable def Hp.setObj (h : Hp) (b : Nat) (o : AObj) (k : Hp → Bool) : Bool := Bool.rec (ff 23) (h.o.mod (fun _ kk => kk o) (pth (Nat.mod b ob)) (fun o' => k ⟨h.y, h.t, o', h.ny, h.nt, h.no⟩)) (Nat.beq (Nat.div b ob) 1)
noncomputable def Hp.newC (h : Hp) (c : CB) (k : Nat → Hp → Bool) : Bool := force h.nt (fun n => Bool.rec (ff 27) (h.t.put (some c) (pth n) (fun t => k n ⟨h.y, t, h.o, h.ny, Nat.succ n, h.no⟩)) (Nat.ble n 1000000000))
noncomputable def Hp.newY (h : Hp) (s : Nat) (c : List Value) (e : TypeId) (k : Nat → Hp → Bool) : Bool := force h.ny (fun n => k n ⟨.cons n s c e h.y, h.t, h.o, Nat.succ n, h.nt, h.no⟩)
noncomputable def Hp.newO (h : Hp) (c : AObj) (k : Nat → Hp → Bool) : Bool := force h.no (fun n => Bool.rec (ff 28) (h.o.put (some c) (pth n) (fun o => k (Nat.add ob n) ⟨h.y, h.t, o, h.ny, h.nt, Nat.succ n⟩)) (Nat.ble n 1000000000))
/-- an old block is given up -/
noncomputable def Hp.kill (h : Hp) (b : Nat) (k : Hp → Bool) : Bool := h.t.put none (pth b) (fun t => k ⟨h.y, t, h.o, h.ny, h.nt, h.no⟩)
noncomputable def Hp.pop (h : Hp) (n : Nat) (k : Hp → Bool) : Bool := Yl.pop n (fun y => k ⟨y, h.t, h.o, h.ny, h.nt, h.no⟩) h.y
abbrev KV := Value → Hp → Bool
abbrev K1 := Value → Bool
/-- an operand, worked out -/
abbrev G := E → Bd → K1 → Bool
abbrev PutF := Value → E → (E → Bool) → Bool
noncomputable def nthK (k : K1) : Nat → Bd → Bool :=
  Nat.rec (Bd.rec (ff 24) (fun v _ _ => k v)) (fun _ ih => Bd.rec (ff 25) (fun _ l _ => ih l))
noncomputable def g0 : G := fun _ b k => Bd.rec (ff 26) (fun v _ _ => k v) b
noncomputable def g1 : G := fun _ b k => Bd.rec (ff 26) (fun _ b _ => Bd.rec (ff 26) (fun v _ _ => k v) b) b
noncomputable def gL (n : Nat) : G := fun _ b k => nthK k n b
noncomputable def gC (v : Value) : G := fun _ _ k => k v
noncomputable def gT (p : Pth) : G := fun e _ k => e.t.get p k
noncomputable def pT (p : Pth) : PutF := fun v e k => @E.rec (fun _ => Bool) (fun r0 r1 r2 r3 r4 r5 r6 r7 t => t.put (some v) p (fun t => k ⟨r0, r1, r2, r3, r4, r5, r6, r7, t⟩)) e
noncomputable def gS0 : G := fun e _ k => k e.r0
noncomputable def pS0 : PutF := fun v e k => @E.rec (fun _ => Bool) (fun _ r1 r2 r3 r4 r5 r6 r7 t => k ⟨v, r1, r2, r3, r4, r5, r6, r7, t⟩) e
noncomputable def gS1 : G := fun e _ k => k e.r1
noncomputable def pS1 : PutF := fun v e k => @E.rec (fun _ => Bool) (fun r0 _ r2 r3 r4 r5 r6 r7 t => k ⟨r0, v, r2, r3, r4, r5, r6, r7, t⟩) e
noncomputable def gS2 : G := fun e _ k => k e.r2
noncomputable def pS2 : PutF := fun v e k => @E.rec (fun _ => Bool) (fun r0 r1 _ r3 r4 r5 r6 r7 t => k ⟨r0, r1, v, r3, r4, r5, r6, r7, t⟩) e
noncomputable def gS3 : G := fun e _ k => k e.r3
noncomputable def pS3 : PutF := fun v e k => @E.rec (fun _ => Bool) (fun r0 r1 r2 _ r4 r5 r6 r7 t => k ⟨r0, r1, r2, v, r4, r5, r6, r7, t⟩) e
noncomputable def gS4 : G := fun e _ k => k e.r4
noncomputable def pS4 : PutF := fun v e k => @E.rec (fun _ => Bool) (fun r0 r1 r2 r3 _ r5 r6 r7 t => k ⟨r0, r1, r2, r3, v, r5, r6, r7, t⟩) e
noncomputable def gS5 : G := fun e _ k => k e.r5
noncomputable def pS5 : PutF := fun v e k => @E.rec (fun _ => Bool) (fun r0 r1 r2 r3 r4 _ r6 r7 t => k ⟨r0, r1, r2, r3, r4, v, r6, r7, t⟩) e
noncomputable def gS6 : G := fun e _ k => k e.r6
noncomputable def pS6 : PutF := fun v e k => @E.rec (fun _ => Bool) (fun r0 r1 r2 r3 r4 r5 _ r7 t => k ⟨r0, r1, r2, r3, r4, r5, v, r7, t⟩) e
noncomputable def gS7 : G := fun e _ k => k e.r7
noncomputable def pS7 : PutF := fun v e k => @E.rec (fun _ => Bool) (fun r0 r1 r2 r3 r4 r5 r6 _ t => k ⟨r0, r1, r2, r3, r4, r5, r6, v, t⟩) e
noncomputable def evL : List G → E → Bd → (List Value → Bool) → Bool :=
  List.rec (fun _ _ k => k []) (fun g _ ih e b k => g e b (fun v => ih e b (fun l => k (v :: l))))
noncomputable def evO : Option G → E → Bd → (Option Value → Bool) → Bool :=
  Option.rec (fun _ _ k => k none) (fun g e b k => g e b (fun v => k (some v)))
/-! ### whole numbers -/
noncomputable def kN : IntKind → Nat := IntKind.rec 0 1 2 3 4 5 6 7
noncomputable def half : IntKind → Nat := IntKind.rec 128 32768 2147483648 9223372036854775808 256 65536 4294967296 18446744073709551616
noncomputable def sgn : IntKind → Bool := IntKind.rec true true true true false false false false
noncomputable def wr (k : IntKind) : Int → Int :=
  Int.rec (fun m => Bool.rec (k.wrap (.ofNat m)) (.ofNat m) (Nat.ble (Nat.succ m) (half k)))
    (fun m => Bool.rec (k.wrap (.negSucc m)) (Bool.rec (k.wrap (.negSucc m)) (.negSucc m) (Nat.ble (Nat.succ m) (half k))) (sgn k))
noncomputable def subN (a b : Nat) : Int := Bool.rec (.negSucc (Nat.sub (Nat.sub b a) 1)) (.ofNat (Nat.sub a b)) (Nat.ble b a)
noncomputable def iadd : Int → Int → Int :=
  Int.rec (fun a y => Int.rec (fun b => .ofNat (Nat.add a b)) (fun b => subN a (Nat.succ b)) y)
    (fun a y => Int.rec (fun b => subN b (Nat.succ a)) (fun b => .negSucc (Nat.succ (Nat.add a b))) y)
noncomputable def isub : Int → Int → Int :=
  Int.rec (fun a y => Int.rec (fun b => subN a b) (fun b => .ofNat (Nat.add a (Nat.succ b))) y)
    (fun a y => Int.rec (fun b => .negSucc (Nat.add a b)) (fun b => subN b a) y)
noncomputable def ilt : Int → Int → Bool :=
  Int.rec (fun a y => Int.rec (fun b => Nat.ble (Nat.succ a) b) (fun _ => false) y)
    (fun a y => Int.rec (fun _ => true) (fun b => Nat.ble (Nat.succ b) a) y)
noncomputable def ieq : Int → Int → Bool :=
  Int.rec (fun a y => Int.rec (fun b => Nat.beq a b) (fun _ => false) y)
    (fun a y => Int.rec (fun _ => false) (fun b => Nat.beq a b) y)
noncomputable def iNat (n : Int) (k : Nat → Bool) : Bool := Int.rec (fun m => k m) (fun _ => ff 5) n
noncomputable def bnot : Bool → Bool := Bool.rec true false
/-- a pure piece of the model -/
noncomputable def pr {α : Type} : Sem α → (α → Bool) → Bool :=
  @Sem.rec α (fun _ => (α → Bool) → Bool) (fun a k => k a) (fun _ _ _ _ _ => ff 6) (fun _ _ _ _ _ _ => ff 6) (fun _ _ _ _ => ff 6) (fun _ _ _ _ => ff 6) (fun _ _ _ _ _ => ff 6) (fun _ _ _ _ => ff 6) (fun _ _ _ _ => ff 6)
    (fun _ _ _ _ _ => ff 6) (fun _ _ _ _ => ff 6) (fun _ _ _ _ => ff 6) (fun _ _ _ => ff 6) (fun _ _ _ _ => ff 6) (fun _ _ => ff 6)
noncomputable def ints (x y : Value) (f : IntKind → Int → Int → Bool) (d : Bool) : Bool :=
  vInt x (fun k a => vInt y (fun j b => Bool.rec (ff 7) (f k a b) (Nat.beq (kN k) (kN j))) (ff 8)) d
noncomputable def bytesEq : List UInt8 → List UInt8 → Bool :=
  List.rec (fun m => List.rec true (fun _ _ _ => false) m)
    (fun a _ ih m => List.rec false (fun b m' _ => Bool.rec false (ih m') (Nat.beq a.toNat b.toNat)) m)
/-- equality of plain data -/
noncomputable def scEq (x y : Value) (k : Bool → Bool) : Bool :=
  vInt x (fun i a => vInt y (fun j b => Bool.rec (ff 9) (k (ieq a b)) (Nat.beq (kN i) (kN j))) (ff 9))
    (vStr x (fun s => vStr y (fun t => k (bytesEq s.data.toList t.data.toList)) (ff 9))
      (vBool x (fun a => vBool y (fun b => k (Bool.rec (bnot b) b a)) (ff 9)) (ff 10)))
noncomputable def scEqL : List Value → List Value → (Bool → Bool) → Bool :=
  List.rec (fun m k => List.rec (k true) (fun _ _ _ => ff 11) m)
    (fun a _ ih m k => List.rec (ff 11) (fun b m' _ => scEq a b (fun r => Bool.rec (k false) (ih m' k) r)) m)
noncomputable def keyEq (x y : Value) (k : Bool → Bool) : Bool :=
  vAgg x (fun a => vAgg y (fun b => scEqL a b k) (ff 12)) (scEq x y k)
noncomputable def addrEq (a b : Addr) : Bool :=
  Bool.rec false (Bool.rec false (Option.rec (Option.rec true (fun _ => false) b.spot) (fun _ => false) a.spot) (Nat.beq a.off b.off)) (Nat.beq a.block b.block)
/-- a block of cells that was never frozen -/
noncomputable def plainAt (h : Hp) (b : Nat) (k : Bool) : Bool := h.cells b (fun c => Option.rec k (fun _ => ff 13) c.fz) (fun _ _ _ => k)
noncomputable def ptrEq (h : Hp) (a b : Addr) (k : Bool → Bool) : Bool :=
  Bool.rec (plainAt h a.block (plainAt h b.block (k false))) (k (addrEq a b)) (Nat.beq a.block b.block)
/-! two operands, of a kind that the place tells -/
abbrev BF := Value → Value → Hp → KV → Bool
noncomputable def eI : Value → Value → Hp → (Bool → Bool) → Bool := fun x y _ k => ints x y (fun _ a b => k (ieq a b)) (ff 15)
noncomputable def eS : Value → Value → Hp → (Bool → Bool) → Bool := fun x y _ k => vStr x (fun s => vStr y (fun t => k (bytesEq s.data.toList t.data.toList)) (ff 16)) (ff 16)
noncomputable def eB : Value → Value → Hp → (Bool → Bool) → Bool := fun x y _ k => vBool x (fun a => vBool y (fun b => k (Bool.rec (bnot b) b a)) (ff 17)) (ff 17)
noncomputable def eP : Value → Value → Hp → (Bool → Bool) → Bool := fun x y h k => vPtrO x (fun a => vPtrO y (fun b =>
  Option.rec (k (Option.rec true (fun _ => false) b)) (fun a => Option.rec (k false) (fun b => ptrEq h a b k) b) a) (ff 18)) (ff 18)
/-- the second is the literal nil -/
noncomputable def eNI : Value → Value → Hp → (Bool → Bool) → Bool := fun x _ _ k => match x with
  | .nilIface => k true
  | .iface _ _ => k false
  | _ => ff 14
noncomputable def eNS : Value → Value → Hp → (Bool → Bool) → Bool := fun x _ _ k => vSl x (fun a _ _ => Option.rec (k true) (fun _ => k false) a) (ff 14)
noncomputable def eNM : Value → Value → Hp → (Bool → Bool) → Bool := fun x _ _ k => vMap x (fun a => Option.rec (k true) (fun _ => k false) a) (ff 14)
noncomputable def eNF : Value → Value → Hp → (Bool → Bool) → Bool := fun x _ _ k => match x with
  | .nilFunc => k true
  | .func _ _ _ => k false
  | _ => ff 14
/-- kinds of keys: 0 a whole number, 1 a text, 2 a truth value; of a struct several -/
inductive KD where
  | sc (n : Nat)
  | ag (ks : List Nat)
noncomputable def scK (n : Nat) (v : Value) (k : Bool) : Bool :=
  vInt v (fun _ _ => Bool.rec (ff 80) k (Nat.beq n 0)) (vStr v (fun _ => Bool.rec (ff 80) k (Nat.beq n 1)) (vBool v (fun _ => Bool.rec (ff 80) k (Nat.beq n 2)) (ff 80)))
noncomputable def typed : List Nat → List Value → Bool → Bool :=
  List.rec (fun l k => List.rec k (fun _ _ _ => ff 81) l) (fun n _ ih l k => List.rec (ff 81) (fun v l' _ => scK n v (ih l' k)) l)
noncomputable def keyK (d : KD) (v : Value) (k : Bool) : Bool := KD.rec (fun n => scK n v k) (fun ks => vAgg v (fun l => typed ks l k) (ff 82)) d
noncomputable def eA (ks : List Nat) : Value → Value → Hp → (Bool → Bool) → Bool := fun x y _ k => vAgg x (fun a => vAgg y (fun b => typed ks a (typed ks b (scEqL a b k))) (ff 19)) (ff 19)
noncomputable def bEql (f : Value → Value → Hp → (Bool → Bool) → Bool) : BF := fun x y h k => f x y h (fun r => k (.bool r) h)
noncomputable def bNeq (f : Value → Value → Hp → (Bool → Bool) → Bool) : BF := fun x y h k => f x y h (fun r => k (.bool (bnot r)) h)
noncomputable def bAdd : BF := fun x y h k => ints x y (fun kd a b => k (.int kd (wr kd (iadd a b))) h) (ff 18)
noncomputable def bCat : BF := fun x y h k => vStr x (fun s => vStr y (fun t => Bool.rec (ff 18) (k (.string ⟨⟨s.data.toList ++ t.data.toList⟩⟩) h) (Nat.ble (Nat.add s.data.toList.length t.data.toList.length) 1000000000)) (ff 18)) (ff 18)
noncomputable def bSub : BF := fun x y h k => ints x y (fun kd a b => k (.int kd (wr kd (isub a b))) h) (ff 19)
noncomputable def bMul : BF := fun x y h k => ints x y (fun kd a b => k (.int kd (wr kd (Int.mul a b))) h) (ff 20)
noncomputable def bDiv (op : BinOp) : BF := fun x y h k => ints x y (fun kd a b => Bool.rec (pr (Op.intDiv op kd a b) (fun v => k v h)) (ff 21) (ieq b (.ofNat 0))) (ff 21)
noncomputable def bBits (op : BinOp) : BF := fun x y h k => ints x y (fun kd a b => pr (Op.intBits op kd a b) (fun v => k v h)) (ff 17)
noncomputable def bShift (op : BinOp) : BF := fun x y h k => vInt x (fun kd a => vInt y (fun j b => Bool.rec (pr (Op.shift op kd a j b) (fun v => k v h)) (ff 22) (ilt b (.ofNat 0))) (ff 22)) (ff 22)
noncomputable def bLss : BF := fun x y h k => ints x y (fun _ a b => k (.bool (ilt a b)) h) (ff 23)
noncomputable def bGtr : BF := fun x y h k => ints x y (fun _ a b => k (.bool (ilt b a)) h) (ff 23)
noncomputable def bLeq : BF := fun x y h k => ints x y (fun _ a b => k (.bool (bnot (ilt b a))) h) (ff 23)
noncomputable def bGeq : BF := fun x y h k => ints x y (fun _ a b => k (.bool (bnot (ilt a b))) h) (ff 23)
/-- an option, or a failure -/
noncomputable def oK {α : Type} (c : Nat) (x : Option α) (k : α → Bool) : Bool := Option.rec (ff c) k x
/-! ### cells -/
noncomputable def dropL : Nat → List Value → List Value := Nat.rec (fun l => l) (fun _ ih l => List.rec [] (fun _ l' _ => ih l') l)
noncomputable def takeL : Nat → List Value → List Value := Nat.rec (fun _ => []) (fun _ ih l => List.rec [] (fun v l' _ => v :: ih l') l)
/-- values over those from a place on -/
noncomputable def overL : List Value → List Value → List Value := List.rec (fun l => l) (fun v _ ih l => List.rec [] (fun _ l' _ => v :: ih l') l)
noncomputable def setL (vs : List Value) : Nat → List Value → List Value := Nat.rec (fun l => overL vs l) (fun _ ih l => List.rec [] (fun v l' _ => v :: ih l') l)
noncomputable def lenK : List Value → Nat → (Nat → Bool) → Bool := List.rec (fun n k => k n) (fun _ _ ih n k => ih (Nat.succ n) k)
/-- as many as are wanted -/
noncomputable def lenIs (c n : Nat) (l : List Value) (k : Bool) : Bool := lenK l 0 (fun m => Bool.rec (ff c) k (Nat.beq m n))
noncomputable def nthV (k : K1) : Nat → List Value → Bool :=
  Nat.rec (List.rec (ff 34) (fun v _ _ => k v)) (fun _ ih => List.rec (ff 35) (fun _ l _ => ih l))
noncomputable def mkv (agg : Bool) (cs : List Value) (k : K1) : Bool :=
  Bool.rec (List.rec (ff 36) (fun v _ _ => k v) cs) (k (.agg ⟨cs⟩)) agg
/-- chunks, several -/
noncomputable def chunks (t : Tr (List Value)) : Nat → Nat → (List (List Value) → Bool) → Bool :=
  Nat.rec (fun _ k => k []) (fun _ ih q k => t.get (pth q) (fun c => ih (Nat.succ q) (fun r => k (c :: r))))
noncomputable def catL : List (List Value) → List Value := List.rec [] (fun c _ ih => c ++ ih)
/-- n cells from an offset on: within a chunk, or several chunks -/
noncomputable def rdS (t : Tr (List Value)) (s off n : Nat) (k : List Value → Bool) : Bool :=
  Bool.rec
    (Bool.rec (ff 37) (t.get (pth (Nat.div off s)) (fun c => k (takeL n (dropL (Nat.mod off s) c)))) (Nat.ble (Nat.add (Nat.mod off s) n) s))
    (chunks t (Nat.div n s) (Nat.div off s) (fun cs => k (catL cs)))
    (Bool.rec false (Nat.beq (Nat.mod n s) 0) (Nat.beq (Nat.mod off s) 0))
/-- n cells from an offset on -/
noncomputable def rd (t : Tr (List Value)) (s off n : Nat) (k : List Value → Bool) : Bool :=
  Bool.rec (rdS t s off n k) (t.get (pth (Nat.div off s)) k) (Bool.rec false (Nat.beq (Nat.mod off s) 0) (Nat.beq n s))
noncomputable def rdYS (s : Nat) (c : List Value) (off n : Nat) (k : List Value → Bool) : Bool := Bool.rec (ff 39) (k (takeL n (dropL off c))) (Nat.ble (Nat.add off n) s)
noncomputable def rdY (s : Nat) (c : List Value) (off n : Nat) (k : List Value → Bool) : Bool := Bool.rec (rdYS s c off n k) (k c) (Bool.rec false (Nat.beq off 0) (Nat.beq s n))
/-- one cell -/
noncomputable def rd1 (c : CB) (off : Nat) (k : K1) : Bool := c.t.get (pth (Nat.div off c.s)) (fun l => nthV k (Nat.mod off c.s) l)
noncomputable def wrS (vs : List Value) (m : Nat) (t : Tr (List Value)) (s off : Nat) (k : Tr (List Value) → Bool) : Bool :=
  Bool.rec (ff 41) (t.mod (fun c kk => kk (setL vs (Nat.mod off s) c)) (pth (Nat.div off s)) k) (Nat.ble (Nat.add (Nat.mod off s) m) s)
/-- m values that all lie within a chunk -/
noncomputable def wrc (vs : List Value) (m : Nat) (c : CB) (off : Nat) (k : CB → Bool) : Bool :=
  Bool.rec (wrS vs m c.t c.s off (fun t' => k ⟨t', c.n, c.s, c.e, c.fz⟩))
    (Bool.rec (ff 46) (c.t.put (some vs) (pth (Nat.div off c.s)) (fun t' => k ⟨t', c.n, c.s, c.e, c.fz⟩)) (Nat.ble (Nat.succ (Nat.div off c.s)) c.n)) (Bool.rec false (Nat.beq (Nat.mod off c.s) 0) (Nat.beq m c.s))
noncomputable def wrYS (vs : List Value) (m s : Nat) (c : List Value) (off : Nat) (k : List Value → Bool) : Bool := Bool.rec (ff 46) (k (setL vs off c)) (Nat.ble (Nat.add off m) s)
noncomputable def wrY (vs : List Value) (m s : Nat) (c : List Value) (off : Nat) (k : List Value → Bool) : Bool := Bool.rec (wrYS vs m s c off k) (k vs) (Bool.rec false (Nat.beq off 0) (Nat.beq s m))
noncomputable def spot0 (a : Addr) (k : Bool) : Bool := Option.rec k (fun _ => ff 38) a.spot
noncomputable def loadC (h : Hp) (a : Addr) (n : Nat) (k : List Value → Bool) : Bool :=
  spot0 a (h.cells a.block (fun c => rd c.t c.s a.off n k) (fun s c _ => rdY s c a.off n k))
noncomputable def load1 (h : Hp) (a : Addr) (k : K1) : Bool :=
  spot0 a (h.cells a.block (fun c => rd1 c a.off k) (fun _ c _ => nthV k a.off c))
noncomputable def fzOk (fz : Option Nat) (off : Nat) (k : Bool) : Bool := Option.rec k (fun f => Bool.rec (ff 40) k (Nat.ble f off)) fz
/-- m values are stored: all within a chunk -/
noncomputable def storeC (h : Hp) (a : Addr) (m : Nat) (vs : List Value) (k : Hp → Bool) : Bool :=
  spot0 a (Bool.rec
    (h.t.mod (fun c kk => fzOk c.fz a.off (wrc vs m c a.off kk)) (pth a.block) (fun t => k ⟨h.y, t, h.o, h.ny, h.nt, h.no⟩))
    (Yl.mod a.block (fun s c kk => wrY vs m s c a.off kk) h.y (fun y => k ⟨y, h.t, h.o, h.ny, h.nt, h.no⟩)) (Nat.ble yb a.block))
noncomputable def isCell : Value → Bool :=
  @Value.rec (fun _ => Bool) (fun _ => Unit) (fun _ => Unit) (fun _ => true) (fun _ _ => true) (fun _ _ => true) (fun _ _ _ => true) (fun _ => true) (fun _ => true) (fun _ _ _ => true) (fun _ => true) (fun _ => false) (fun _ _ _ _ _ => true) true (fun _ _ _ => true) true (fun _ _ => false) (fun _ _ => false)
    (fun _ _ => ()) () (fun _ _ _ _ => ())
noncomputable def storeN (h : Hp) (n : Nat) (a : Addr) (v : Value) (k : Hp → Bool) : Bool := vAgg v (fun vs => lenIs 47 n vs (storeC h a n vs k)) (ff 48)
/-- an object of one chunk -/
def one (vs : List Value) (s : Nat) (t : TypeId) : CB := ⟨⟨none, some vs, none⟩, 1, s, t, none⟩
noncomputable def newV (h : Hp) (s : Nat) (t : TypeId) (vs : List Value) (k : KV) : Bool := h.newC (one vs s t) (fun n h' => k (.pointer (some ⟨n, 0, none⟩)) h')
noncomputable def newY (h : Hp) (s : Nat) (t : TypeId) (vs : List Value) (k : KV) : Bool := h.newY s vs t (fun n h' => k (.pointer (some ⟨n, 0, none⟩)) h')
/-- the same chunk, over and over: places b, b + s, .. below n -/
noncomputable def zt (z : List Value) (n : Nat) : Nat → Nat → Nat → Option (Tr (List Value)) :=
  Nat.rec (fun _ _ => none) (fun _ ih b s => Bool.rec none (some ⟨ih (Nat.add b s) (Nat.mul 2 s), some z, ih (Nat.add b (Nat.mul 2 s)) (Nat.mul 2 s)⟩) (Nat.ble (Nat.succ b) n))
noncomputable def ztr (z : List Value) (n : Nat) : Tr (List Value) := orLf (zt z n n 0 1)
noncomputable def putChunks : List (List Value) → Nat → Tr (List Value) → (Tr (List Value) → Bool) → Bool :=
  List.rec (fun _ t k => k t) (fun c _ ih q t k => t.put (some c) (pth q) (fun t' => ih (Nat.succ q) t' k))
noncomputable def addrAdd (a : Addr) (n : Nat) : Addr := Bool.rec ⟨a.block, Nat.add a.off n, none⟩ a (Nat.beq n 0)
noncomputable def capLow (c : Nat) : Nat := Nat.div c 2
noncomputable def capExact (c : Nat) : Bool := Nat.beq (Nat.mod c 2) 1
def ghost : Nat := 1000000000000
theorem ghost_eq : ghost = 1000000000000 := rfl
attribute [irreducible] ghost
noncomputable def bnd (c y : Nat) (v : Value) (k : Nat → Bool) : Bool := vInt v (fun _ n => iNat n (fun m => Bool.rec (ff c) (k m) (Nat.ble m y))) (ff c)
noncomputable def bndO (c y : Nat) (v : Option Value) (d : Nat) (k : Nat → Bool) : Bool := Option.rec (k d) (fun v => bnd c y v k) v
noncomputable def sliceS (s : List UInt8) (lo hi : Option Value) (k : K1) : Bool :=
  bndO 50 s.length hi s.length (fun h => bndO 51 h lo 0 (fun l => k (.string ⟨⟨(s.take h).drop l⟩⟩)))
/-- the elements' size is the block's -/
noncomputable def esOk (h : Hp) (size l : Nat) (a : Addr) (k : Bool) : Bool :=
  Bool.rec (h.cells a.block (fun c => Bool.rec (ff 49) k (Nat.beq c.s size)) (fun s _ _ => Bool.rec (ff 49) k (Nat.beq s size))) k (Nat.beq l 0)
noncomputable def sliceB (hp : Hp) (size : Nat) (a : Addr) (m : Nat) (ex : Bool) (l h : Nat) (k : K1) : Bool :=
  Bool.rec
    (Bool.rec (ff 50) (Bool.rec (ff 50) (Bool.rec
      (Bool.rec (k (.slice (some ⟨ghost, 0, none⟩) 0 0)) (k (.slice (some a) 0 0)) (Nat.beq l 0))
      (k (.slice (some a) 0 1)) ex) (Nat.beq h l)) (Nat.beq m l))
    (Bool.rec (esOk hp size l a (k (.slice (some (addrAdd a (Nat.mul l size))) (Nat.sub h l) (Nat.mul 2 (Nat.sub m l)))))
      (k (.slice (some (addrAdd a (Nat.mul l size))) (Nat.sub h l) (Nat.add (Nat.mul 2 (Nat.sub m l)) 1))) ex) (Nat.ble (Nat.succ l) m)
noncomputable def sliceA (hp : Hp) (size : Nat) (a : Addr) (len cap : Nat) (ex : Bool) (lo hi mx : Option Value) (k : K1) : Bool :=
  Option.rec
    (bndO 52 cap hi len (fun h => bndO 53 h lo 0 (fun l => sliceB hp size a cap ex l h k)))
    (fun m => Bool.rec (bnd 54 cap m (fun m => Option.rec (ff 55) (fun h => bnd 56 m h (fun h => bndO 57 h lo 0 (fun l => sliceB hp size a m true l h k))) hi)) (ff 59) (Nat.beq a.block ghost)) mx
noncomputable def sliceNil (n c : Nat) (lo hi mx : Option Value) (k : K1) : Bool :=
  Bool.rec (ff 58) (bndO 58 0 mx 0 (fun _ => bndO 58 0 hi 0 (fun _ => bndO 58 0 lo 0 (fun _ => Bool.rec (ff 58) (Bool.rec (ff 58) (k (.slice none 0 0)) (Nat.beq c 0)) (Nat.beq n 0)))))
    (Option.rec true (fun _ => Option.rec false (fun _ => true) hi) mx)
/-- the first n elements, chunk by chunk -/
noncomputable def group (size : Nat) : Nat → List Value → (List (List Value) → Bool) → Bool :=
  Nat.rec (fun _ k => k []) (fun _ ih l k => ih (dropL size l) (fun cs => k (takeL size l :: cs)))
noncomputable def elems (h : Hp) (size n : Nat) (a : Addr) (k : List (List Value) → Bool) : Bool :=
  spot0 a (h.cells a.block (fun c =>
    Bool.rec (rdS c.t c.s a.off (Nat.mul n size) (fun l => group size n l k))
      (Bool.rec (ff 65) (chunks c.t n (Nat.div a.off c.s) k) (Nat.beq (Nat.mod a.off c.s) 0)) (Nat.beq c.s size))
    (fun s c _ => rdYS s c a.off (Nat.mul n size) (fun l => group size n l k)))
noncomputable def bytesV : List UInt8 → List (List Value) := List.rec [] (fun b _ ih => [.int .u8 (.ofNat b.toNat)] :: ih)
noncomputable def firstC (h : Hp) (size n : Nat) (x : Value) (k : List (List Value) → Bool) : Bool :=
  Bool.rec
    (vSl x (fun a len _ => Bool.rec (ff 66) (Option.rec (ff 67) (fun a => elems h size n a k) a) (Nat.ble n len))
      (vStr x (fun s => Bool.rec (ff 68) (k (bytesV (s.data.toList.take n))) (Nat.beq size 1)) (ff 68)))
    (k []) (Nat.beq n 0)
noncomputable def lenOf (x : Value) (k : Nat → Bool) : Bool :=
  vSl x (fun _ n _ => k n) (vStr x (fun s => k s.data.toList.length) (ff 69))
noncomputable def shiftFz (fz : Option Nat) (off : Nat) : Option Nat := Option.rec none (fun k => some (Nat.sub k off)) fz
noncomputable def storeCh (size : Nat) : List (List Value) → Hp → Addr → (Hp → Bool) → Bool :=
  List.rec (fun h _ k => k h) (fun c _ ih h a k => storeC h a size c (fun h' => ih h' (addrAdd a size) k))
noncomputable def appNew (h : Hp) (e : TypeId) (s : Nat) (t : Tr (List Value)) (need : Nat) (fz : Option Nat) (k : KV) : Bool :=
  h.newC ⟨t, need, s, e, fz⟩ (fun n h' => k (.slice (some ⟨n, 0, none⟩) need (Nat.mul 2 need)) h')
/-- beyond the capacity: the elements are laid anew; the old block is given up unless its capacity is known -/
noncomputable def appMore (h : Hp) (e : TypeId) (size : Nat) (new : List (List Value)) (n : Nat) (a : Addr) (sl : Nat) (exact : Bool) (k : KV) : Bool :=
  Bool.rec
    (spot0 a (Bool.rec (h.t.get (pth a.block) (fun c => Bool.rec (ff 73) (fzOk c.fz (Nat.add a.off (Nat.mul sl size))
      (Bool.rec
        (elems h size sl a (fun old => putChunks old 0 .lf (fun t => putChunks new sl t (fun t => h.kill a.block (fun h => appNew h e size t (Nat.add sl n) (shiftFz c.fz a.off) k)))))
        (putChunks new sl c.t (fun t => h.kill a.block (fun h => appNew h e size t (Nat.add sl n) c.fz k)))
        (Bool.rec false (Nat.beq c.n sl) (Nat.beq a.off 0)))) (Bool.rec false (Nat.beq c.e e) (Nat.beq c.s size)))) (ff 70) (Nat.ble yb a.block)))
    (elems h size sl a (fun old => putChunks old 0 .lf (fun t => putChunks new sl t (fun t => appNew h e size t (Nat.add sl n) none k)))) exact
/-- what is appended: n elements, laid out -/
noncomputable def append (h : Hp) (e : TypeId) (size n : Nat) (new : List (List Value)) (s : Value) (k : KV) : Bool :=
    vSl s (fun a sl cap => Option.rec
      (Bool.rec (Bool.rec (ff 71) (putChunks new 0 .lf (fun t => appNew h e size t n none k)) (Nat.ble n 1000000)) (k s h) (Nat.beq n 0))
      (fun a =>
        Bool.rec
          (Bool.rec (ff 72) (appMore h e size new n a sl (capExact cap) k) (Nat.ble (Nat.add sl n) 1000000))
          (storeCh size new h (addrAdd a (Nat.mul sl size)) (fun h' => k (.slice (some a) (Nat.add sl n) cap) h'))
          (Nat.ble (Nat.add sl n) (capLow cap))) a) (ff 74)
/-! ### maps -/
noncomputable def findE (x : Value) (k : Option Value → Bool) : List (Value × Value × Nat) → Bool :=
  List.rec (k none) (fun y _ ih => keyEq x y.1 (fun r => Bool.rec ih (k (some y.2.1)) r))
/-- in no order: each is looked at -/
noncomputable def findU (x : Value) (k : Option Value → Bool) : List (Value × Value) → Option Value → Bool :=
  List.rec (fun acc => k acc) (fun y _ ih acc => keyEq x y.1 (fun r => Bool.rec (ih acc) (ih (some y.2)) r))
noncomputable def setE (x v : Value) (clock : Nat) : List (Value × Value × Nat) → (List (Value × Value × Nat) → Bool → Bool) → Bool :=
  List.rec (fun k => k [(x, v, clock)] true) (fun y l ih k => keyEq x y.1 (fun r => Bool.rec (ih (fun l' b => k (y :: l') b)) (k ((x, v, y.2.2) :: l) false) r))
noncomputable def delE (x : Value) : List (Value × Value × Nat) → (List (Value × Value × Nat) → Bool) → Bool :=
  List.rec (fun k => k []) (fun y l ih k => keyEq x y.1 (fun r => Bool.rec (ih (fun l' => k (y :: l'))) (k l) r))
noncomputable def isSc (v : Value) (k : Bool) : Bool := vInt v (fun _ _ => k) (vStr v (fun _ => k) (vBool v (fun _ => k) (ff 80)))
noncomputable def allSc (k : Bool) : List Value → Bool := List.rec k (fun v _ ih => isSc v ih)
noncomputable def isKey (v : Value) (k : Bool) : Bool := vAgg v (fun l => allSc k l) (isSc v k)
noncomputable def objM (c : Nat) (o : AObj) (k : List (Value × Value × Nat) → Nat → Bool) (u : List (Value × Value) → Bool) : Bool :=
  AObj.rec k u (fun _ _ => ff c) (fun _ _ _ _ => ff c) (fun _ _ _ _ _ => ff c) o
noncomputable def lookR (z : Value) (ok : Bool) (k : K1) (r : Option Value) : Bool :=
  Option.rec (Bool.rec (k z) (k (.tuple ⟨[z, .bool false]⟩)) ok) (fun v => Bool.rec (k v) (k (.tuple ⟨[v, .bool true]⟩)) ok) r
noncomputable def alookup (h : Hp) (kd : KD) (z : Value) (x y : Value) (ok : Bool) (k : K1) : Bool :=
  keyK kd y (vMap x (fun r => Option.rec (lookR z ok k none) (fun b =>
    h.obj b (fun o => objM 83 o (fun es _ => findE y (lookR z ok k) es) (fun es => findU y (lookR z ok k) es none))) r) (ff 84))
noncomputable def aupdate (h : Hp) (kd : KD) (m x v : Value) (k : Hp → Bool) : Bool :=
  keyK kd x (vMap m (fun r => oK 85 r (fun b => h.obj b (fun o => objM 86 o (fun es clock => setE x v clock es (fun es' new => h.setObj b (.amap es' (Bool.rec clock (Nat.succ clock) new)) k)) (fun _ => ff 87)))) (ff 88))
noncomputable def adelete (h : Hp) (kd : KD) (m x : Value) (k : Hp → Bool) : Bool :=
  keyK kd x (vMap m (fun r => Option.rec (k h) (fun b => h.obj b (fun o => objM 89 o (fun es clock => delE x es (fun es' => h.setObj b (.amap es' clock) k)) (fun _ => ff 90))) r) (ff 91))
/-! ### iterators -/
noncomputable def newIt (h : Hp) (o : AObj) (k : KV) : Bool := h.newO o (fun n h' => k (.pointer (some ⟨n, 0, none⟩)) h')
def over : Value := .tuple ⟨[.bool false]⟩
noncomputable def nextM (h : Hp) (r m since : Nat) (seen : List Nat) (st : Nat) (k : KV) : Bool :=
  h.obj m (fun o => objM 97 o (fun es clock =>
    match es with
    | [] => k over h
    | [(x, v, b)] => match seen with
      | [] => Bool.rec (ff 98) (h.setObj r (.iterM (some m) since [b] clock) (fun h' => k (.tuple ⟨[.bool true, x, v]⟩) h')) (Bool.rec false (Nat.ble (Nat.succ b) st) (Nat.ble (Nat.succ b) since))
      | [b'] => Bool.rec (ff 99) (k over h) (Bool.rec false (Nat.ble (Nat.succ b) st) (Nat.beq b b'))
      | _ => ff 100
    | _ => ff 101) (fun _ => ff 102))
noncomputable def anext (h : Hp) (x : Value) (isS : Bool) (k : KV) : Bool :=
  vPtr x (fun a => spot0 a (Bool.rec (ff 103) (h.obj a.block (fun o => match o with
    | .iterS s pos => Bool.rec (ff 104) (Bool.rec (k over h)
        ((fun d => h.setObj a.block (.iterS s (Nat.add pos (Prod.snd d))) (fun h' => k (.tuple ⟨[.bool true, goInt pos, .int .i32 (Int.ofNat (Prod.fst d))]⟩) h')) (Utf8.decode ⟨⟨s⟩⟩ pos))
        (Nat.ble (Nat.succ pos) s.length)) isS
    | .iterM m since seen st => Bool.rec (Option.rec (k over h) (fun m => nextM h a.block m since seen st k) m) (ff 105) isS
    | _ => ff 106)) (Nat.beq a.off 0))) (ff 107)
noncomputable def aentry (h : Hp) (x : Value) (k : K1) : Bool :=
  vPtr x (fun a => spot0 a (Bool.rec (ff 108) (h.obj a.block (fun o => match o with
    | .iterM (some m) _ [b'] st => h.obj m (fun o => objM 109 o (fun es clock => match es with
      | [(x, v, b)] => Bool.rec (ff 110) (k (.tuple ⟨[x, v]⟩)) (Bool.rec false (Nat.beq clock st) (Nat.beq b b'))
      | _ => ff 111) (fun _ => ff 112))
    | _ => ff 113)) (Nat.beq a.off 0))) (ff 114)
/-! ### conversions -/
noncomputable def bytesOf : List Value → (List UInt8 → Bool) → Bool :=
  List.rec (fun k => k []) (fun v _ ih k => vInt v (fun kd n => iNat n (fun m => Bool.rec (ff 115) (ih (fun r => k (UInt8.ofNat m :: r))) (Nat.beq (kN kd) 4))) (ff 116))
noncomputable def newB (h : Hp) (cs : List (List Value)) (n : Nat) (e : TypeId) (fz : Option Nat) (k : KV) : Bool :=
  putChunks cs 0 .lf (fun t => h.newC ⟨t, n, 1, e, fz⟩ (fun b h' => k (.slice (some ⟨b, 0, none⟩) n (2 * n)) h'))
/-! ### places -/
noncomputable def nthB : List UInt8 → Nat → (UInt8 → Bool) → Bool :=
  List.rec (fun _ _ => ff 137) (fun b _ ih n k => Nat.rec (k b) (fun m _ => ih m k) n)
/-- the parts of a slice, element by element, over nothing -/
noncomputable def putParts (s n : Nat) : List (Nat × Value) → Tr (List Value) → (Tr (List Value) → Bool) → Bool :=
  List.rec (fun t k => k t) (fun x _ ih t k => Bool.rec (ff 150) (vCells x.2 (fun vs => Bool.rec (ff 151) (t.put (some vs) (pth x.1) (fun t' => ih t' k)) (Nat.beq vs.length s))) (Nat.ble (Nat.succ x.1) n))
noncomputable def abuildSlice (h : Hp) (e : TypeId) (s len : Nat) (z : List Value) (parts : List (Nat × Value)) (k : KV) : Bool :=
  Bool.rec (ff 154)
    (putParts s len parts (ztr z len) (fun tr => h.newC ⟨tr, len, s, e, none⟩ (fun b h' => k (.slice (some ⟨b, 0, none⟩) len (2 * len + 1)) h')))
    (Bool.rec false (Nat.beq z.length s) (Nat.ble (Nat.mul len s) 16777216))
/-! ### operations, worked out once for each place in the program -/
/-- what is called -/
inductive Tgt where
  | fn (g : Nat)
  | yield (l : Nat)
  /-- what is ranged over -/
  | rng (g : Nat)
abbrev Cl := Tgt → List Value → Hp → KV → Bool
abbrev F := Cl → E → Bd → Hp → KV → Bool
noncomputable def oMove (g : G) : F := fun _ e b h k => g e b (fun v => k v h)
noncomputable def oPick (c x y : G) : F := fun _ e b h k => c e b (fun t => vBool t (fun t => Bool.rec (y e b (fun v => k v h)) (x e b (fun v => k v h)) t) (ff 180))
noncomputable def oAlloc (s : Nat) (t : TypeId) (z : List Value) : F := fun _ _ _ h k => newV h s t z k
noncomputable def oAllocY (s : Nat) (t : TypeId) (z : List Value) : F := fun _ _ _ h k => newY h s t z k
noncomputable def oBox (s : Nat) (t : TypeId) (g : G) : F := fun _ e b h k => g e b (fun v => vCells v (fun vs => lenIs 49 s vs (newV h s t vs k)))
noncomputable def oBoxY (s : Nat) (t : TypeId) (g : G) : F := fun _ e b h k => g e b (fun v => vCells v (fun vs => lenIs 49 s vs (newY h s t vs k)))
/-- a part's offset, its size, its value -/
noncomputable def parts : List (Nat × Nat × G) → E → Bd → List Value → (List Value → Bool) → Bool :=
  List.rec (fun _ _ c k => k c) (fun x _ ih e b c k => x.2.2 e b (fun v => vCells v (fun vs => lenIs 147 x.2.1 vs (ih e b (setL vs x.1 c) k))))
noncomputable def oBuild (z : List Value) (ps : List (Nat × Nat × G)) : F := fun _ e b h k => parts ps e b z (fun c => k (.agg ⟨c⟩) h)
noncomputable def evP : List (Nat × G) → E → Bd → (List (Nat × Value) → Bool) → Bool :=
  List.rec (fun _ _ k => k []) (fun x _ ih e b k => x.2 e b (fun v => ih e b (fun l => k ((x.1, v) :: l))))
noncomputable def oBuildSlice (el : TypeId) (s n : Nat) (z : List Value) (ps : List (Nat × G)) : F := fun _ e b h k => evP ps e b (fun l => abuildSlice h el s n z l k)
noncomputable def oUpd (kd : KD) (m x y : G) : F := fun _ e b h k => m e b (fun m => x e b (fun x => y e b (fun y => aupdate h kd m x y (fun h' => k top h'))))
noncomputable def oLoad1 (a : G) : F := fun _ e b h k => a e b (fun a => vPtr a (fun a => load1 h a (fun v => k v h)) (ff 181))
noncomputable def oLoadN (n : Nat) (a : G) : F := fun _ e b h k => a e b (fun a => vPtr a (fun a => loadC h a n (fun cs => k (.agg ⟨cs⟩) h)) (ff 182))
noncomputable def oStore1 (a x : G) : F := fun _ e b h k => a e b (fun a => vPtr a (fun a => x e b (fun v => Bool.rec (ff 183) (storeC h a 1 [v] (fun h' => k top h')) (isCell v))) (ff 183))
noncomputable def oStoreN (n : Nat) (a x : G) : F := fun _ e b h k => a e b (fun a => vPtr a (fun a => x e b (fun v => storeN h n a v (fun h' => k top h'))) (ff 183))
noncomputable def oFail : F := fun _ _ _ _ _ => ff 184
noncomputable def nilC (v : Value) (k : Bool) : Bool :=
  vPtrO v (fun a => Option.rec (ff 185) (fun _ => k) a)
    (match v with
      | .nilIface => ff 186
      | .nilFunc => ff 187
      | .func (.func _) _ _ => k
      | .func (.yield _) _ _ => k
      | .func _ _ _ => ff 188
      | .chan _ => ff 189
      | _ => k)
noncomputable def oNil (x : G) : F := fun _ e b h k => x e b (fun v => nilC v (k v h))
noncomputable def oBin (f : BF) (x y : G) : F := fun _ e b h k => x e b (fun x => y e b (fun y => f x y h k))
noncomputable def oNeg (op : UnOp) (x : G) : F := fun _ e b h k => x e b (fun x => vInt x (fun kd n => pr (Op.unary op (.int kd n)) (fun v => k v h)) (ff 189))
noncomputable def oNot (x : G) : F := fun _ e b h k => x e b (fun x => vBool x (fun t => k (.bool (bnot t)) h) (ff 189))
noncomputable def oCvI (kd : IntKind) (x : G) : F := fun _ e b h k => x e b (fun x => vInt x (fun _ n => k (.int kd (wr kd n)) h) (ff 120))
noncomputable def oCvS (x : G) : F := fun _ e b h k => x e b (fun x => vInt x (fun _ n => k (.string (Utf8.encode n)) h) (ff 121))
noncomputable def oCvSS (x : G) : F := fun _ e b h k => x e b (fun x => vStr x (fun s => k (.string s) h) (ff 121))
noncomputable def oCvSB (el : TypeId) (x : G) : F := fun _ e b h k => x e b (fun x => vStr x (fun s => newB h (bytesV s.data.toList) s.data.toList.length el (some 0) k) (ff 122))
noncomputable def oCvSR (el : TypeId) (x : G) : F := fun _ e b h k => x e b (fun x => vStr x (fun s => (fun rs => newB h (List.map (fun v => [v]) rs) (List.length rs) el none k) (Conv.runesFrom s s.data.toList.length 0 #[]).toList) (ff 123))
noncomputable def oCvBS (x : G) : F := fun _ e b h k => x e b (fun x => vSl x (fun a n _ => Option.rec (Bool.rec (ff 125) (k (.string ⟨⟨[]⟩⟩) h) (Nat.beq n 0))
  (fun a => Bool.rec (loadC h a n (fun cs => bytesOf cs (fun bs => k (.string ⟨⟨bs⟩⟩) h))) (k (.string ⟨⟨[]⟩⟩) h) (Nat.beq n 0)) a) (ff 125))
/-- a place in a block, to what holds no type -/
noncomputable def inBlock (h : Hp) (a : Addr) (k : Bool) : Bool :=
  spot0 a (h.cells a.block (fun c => Bool.rec (ff 126) k (Nat.ble (Nat.succ a.off) (Nat.mul c.n c.s))) (fun s _ _ => Bool.rec (ff 126) k (Nat.ble (Nat.succ a.off) s)))
noncomputable def oCvPU (x : G) : F := fun _ e b h k => x e b (fun x => vPtr x (fun a => inBlock h a (k x h)) (ff 127))
/-- a place that holds a variable of the type: lies says where -/
noncomputable def oCvUP (lies : TypeId → Nat → Nat → Bool) (x : G) : F := fun _ e b h k => x e b (fun x => vPtr x (fun a => inBlock h a
  (h.cells a.block (fun c => Bool.rec (ff 128) (k x h) (lies c.e a.off c.s)) (fun s _ el => Bool.rec (ff 128) (k x h) (lies el a.off s)))) (ff 128))
noncomputable def oIface (t : TypeId) (x : G) : F := fun _ e b h k => x e b (fun v => k (.iface t v) h)
noncomputable def oFunc (f : Nat) (first cap : List G) : F := fun _ e b h k => evL first e b (fun l => evL cap e b (fun m => k (.func (.func f) ⟨l⟩ ⟨m⟩) h))
noncomputable def oMap : F := fun _ _ _ h k => h.newO (.amap [] 0) (fun n h' => k (.map (some n)) h')
noncomputable def oMkSl (el : TypeId) (s : Nat) (z : List Value) (l c : G) : F := fun _ e b h k => l e b (fun l => c e b (fun c => vInt c (fun _ c => iNat c (fun c => bnd 157 c l (fun l =>
    Bool.rec (ff 158) (h.newC ⟨ztr z c, c, s, el, none⟩ (fun b h' => k (.slice (some ⟨b, 0, none⟩) l (2 * c + 1)) h'))
      (Nat.ble c 1000000)))) (ff 159)))
noncomputable def oSlS (x : G) (lo hi : Option G) : F := fun _ e b h k => x e b (fun x => evO lo e b (fun lo => evO hi e b (fun hi => vStr x (fun s => sliceS s.data.toList lo hi (fun v => k v h)) (ff 63))))
noncomputable def oSlL (size : Nat) (x : G) (lo hi mx : Option G) : F := fun _ e b h k => x e b (fun x => evO lo e b (fun lo => evO hi e b (fun hi => evO mx e b (fun mx =>
  vSl x (fun a n c => Option.rec (sliceNil n c lo hi mx (fun v => k v h)) (fun a => sliceA h size a n (capLow c) (capExact c) lo hi mx (fun v => k v h)) a) (ff 63)))))
noncomputable def oSlA (size n : Nat) (x : G) (lo hi mx : Option G) : F := fun _ e b h k => x e b (fun x => evO lo e b (fun lo => evO hi e b (fun hi => evO mx e b (fun mx =>
  vPtr x (fun a => spot0 a (sliceA h size a n n true lo hi mx (fun v => k v h))) (ff 63)))))
noncomputable def oFA (off : Nat) (x : G) : F := fun _ e b h k => x e b (fun x => vPtr x (fun a => k (.pointer (some (addrAdd a off))) h) (ff 193))
noncomputable def oField (off n : Nat) (agg : Bool) (x : G) : F := fun _ e b h k => x e b (fun x => vAgg x (fun cs => mkv agg (takeL n (dropL off cs)) (fun v => k v h)) (ff 145))
noncomputable def oIAS (s : Nat) (x i : G) : F := fun _ e b h k => x e b (fun x => i e b (fun i => vInt i (fun _ n => iNat n (fun i =>
  vSl x (fun a len _ => oK 131 a (fun a => Bool.rec (ff 132) (k (.pointer (some (addrAdd a (Nat.mul i s)))) h) (Nat.ble (Nat.succ i) len))) (ff 133))) (ff 134)))
noncomputable def oIAA (s len : Nat) (x i : G) : F := fun _ e b h k => x e b (fun x => i e b (fun i => vInt i (fun _ n => iNat n (fun i =>
  vPtr x (fun a => Bool.rec (ff 135) (k (.pointer (some (addrAdd a (Nat.mul i s)))) h) (Nat.ble (Nat.succ i) len)) (ff 136))) (ff 136)))
noncomputable def oIxS (x i : G) : F := fun _ e b h k => x e b (fun x => i e b (fun i => vInt i (fun _ n => iNat n (fun i => vStr x (fun s => nthB s.data.toList i (fun b => k (.int .u8 (.ofNat b.toNat)) h)) (ff 137))) (ff 137)))
noncomputable def oIxA (s len : Nat) (agg : Bool) (x i : G) : F := fun _ e b h k => x e b (fun x => i e b (fun i => vInt i (fun _ n => iNat n (fun i => vAgg x (fun cs =>
  Bool.rec (ff 141) (lenIs 141 (Nat.mul len s) cs (mkv agg (takeL s (dropL (Nat.mul i s) cs)) (fun v => k v h))) (Nat.ble (Nat.succ i) len)) (ff 142))) (ff 143)))
noncomputable def oLook (kd : KD) (z : Value) (ok : Bool) (x i : G) : F := fun _ e b h k => x e b (fun x => i e b (fun i => alookup h kd z x i ok (fun v => k v h)))
noncomputable def oRanS (x : G) : F := fun _ e b h k => x e b (fun x => vStr x (fun s => newIt h (.iterS s.data.toList 0) k) (ff 92))
noncomputable def oRanM (x : G) : F := fun _ e b h k => x e b (fun x => vMap x (fun r => Option.rec (newIt h (.iterM none 0 [] 0) k) (fun m => h.obj m (fun o => objM 93 o (fun _ clock => newIt h (.iterM (some m) clock [] clock) k) (fun _ => ff 94))) r) (ff 95))
noncomputable def oNext (s : Bool) (x : G) : F := fun _ e b h k => x e b (fun x => anext h x s k)
noncomputable def oEntry (x : G) : F := fun _ e b h k => x e b (fun x => aentry h x (fun v => k v h))
noncomputable def oExtract (i : Nat) (x : G) : F := fun _ e b h k => x e b (fun x => vTup x (fun l => nthV (fun v => k v h) i l) (ff 194))
noncomputable def oCallS (g : Nat) (args : List G) : F := fun cl e b h k => evL args e b (fun l => cl (.fn g) l h k)
noncomputable def fnK (cl : Cl) (first captured : List Value) (args : List Value) (h : Hp) (k : KV) : Fn → Bool :=
  Fn.rec (fun g => cl (.fn g) (first ++ (args ++ captured)) h k) (fun _ => ff 248) (fun _ _ => ff 248) (fun _ _ _ _ => ff 248) (fun l => cl (.yield l) (first ++ args) h k)
noncomputable def oCall (f : G) (args : List G) : F := fun cl e b h k => f e b (fun f => evL args e b (fun l => vFunc f (fun fn first captured => fnK cl first.toList captured.toList l h k fn) (ff 250)))
noncomputable def oLenL (x : G) : F := fun _ e b h k => x e b (fun x => vSl x (fun _ n _ => k (goInt n) h) (ff 251))
noncomputable def oLenS (x : G) : F := fun _ e b h k => x e b (fun x => vStr x (fun s => k (goInt s.data.toList.length) h) (ff 251))
noncomputable def oLenM (x : G) : F := fun _ e b h k => x e b (fun x => vMap x (fun r => Option.rec (k (goInt 0) h) (fun m => h.obj m (fun o => objM 160 o (fun es _ => k (goInt es.length) h) (fun es => k (goInt es.length) h))) r) (ff 160))
noncomputable def oApp (el : TypeId) (size : Nat) (s x : G) : F := fun _ e b h k => s e b (fun s => x e b (fun x => lenOf x (fun n => firstC h size n x (fun new => append h el size n new s k))))
/-- zeros are appended -/
noncomputable def oAppZ (el : TypeId) (size : Nat) (z : List Value) (s x : G) : F := fun _ e b h k => s e b (fun s => x e b (fun x => vInt x (fun _ n => iNat n (fun n => Bool.rec (ff 77) (append h el size n (List.replicate n z) s k) (Nat.ble n 1000000))) (ff 77)))
noncomputable def oCopy (size : Nat) (d s : G) : F := fun _ e b h k => d e b (fun d => s e b (fun s => lenOf s (fun n => vSl d (fun a dl _ =>
    firstC h size (Nat.min n dl) s (fun cs => Option.rec (k (goInt (Nat.min n dl)) h) (fun a => storeCh size cs h a (fun h' => k (goInt (Nat.min n dl)) h')) a)) (ff 76))))
noncomputable def oMin (x y : G) : F := fun _ e b h k => x e b (fun x => y e b (fun y => ints x y (fun kd a c => k (.int kd (Bool.rec a c (ilt c a))) h) (ff 162)))
noncomputable def oMax (x y : G) : F := fun _ e b h k => x e b (fun x => y e b (fun y => ints x y (fun kd a c => k (.int kd (Bool.rec a c (ilt a c))) h) (ff 162)))
noncomputable def oCap (x : G) : F := fun _ e b h k => x e b (fun x => vSl x (fun a n c => Option.rec (Bool.rec (ff 163) (Bool.rec (ff 163) (k (goInt 0) h) (Nat.beq n 0)) (Nat.beq c 0)) (fun _ => Bool.rec (ff 163) (k (goInt (capLow c)) h) (capExact c)) a) (ff 163))
noncomputable def oDel (kd : KD) (m x : G) : F := fun _ e b h k => m e b (fun m => x e b (fun x => adelete h kd m x (fun h' => k (.tuple ⟨[]⟩) h')))
noncomputable def oClear (size : Nat) (z : List Value) (x : G) : F := fun _ e b h k => x e b (fun x => vSl x (fun a n _ => Bool.rec (oK 166 a (fun a => storeCh size (List.replicate n z) h a (fun h' => k (.tuple ⟨[]⟩) h'))) (k (.tuple ⟨[]⟩) h) (Nat.beq n 0)) (ff 167))
noncomputable def oSlD (x : G) : F := fun _ e b h k => x e b (fun x => vSl x (fun a _ c => Option.rec (k (.pointer none) h) (fun a => Bool.rec (ff 168) (k (.pointer (some a)) h) (Nat.ble 1 (capLow c))) a) (ff 168))
noncomputable def oUStr (el : TypeId) (x n : G) : F := fun _ e b h k => x e b (fun x => n e b (fun n => vInt n (fun _ n => iNat n (fun n => Bool.rec (ff 172) (vPtrO x (fun a =>
    Bool.rec (oK 169 a (fun a => spot0 a (Bool.rec (h.t.get (pth a.block) (fun c => Bool.rec (ff 170) (Bool.rec (ff 170) (rd c.t c.s a.off n (fun cs => bytesOf cs (fun bs =>
            h.t.mod (fun c kk => Option.rec (kk ⟨c.t, c.n, c.s, c.e, some (Nat.add a.off n)⟩) (fun f => Bool.rec (ff 174) (kk ⟨c.t, c.n, c.s, c.e, some (Nat.max f (Nat.add a.off n))⟩) (Nat.ble 1 f)) c.fz) (pth a.block) (fun t => k (.string ⟨⟨bs⟩⟩) ⟨h.y, t, h.o, h.ny, h.nt, h.no⟩))))
            (Nat.beq c.e el)) (Nat.beq c.s 1))) (ff 171) (Nat.ble yb a.block))))
      (k (.string ⟨⟨[]⟩⟩) h) (Nat.beq n 0)) (ff 172)) (Nat.ble n 1000000000))) (ff 172)))
noncomputable def oGuard (g : G) (want : Bool) (f : F) : F := fun cl e b h k => g e b (fun v => vBool v (fun t => Bool.rec (k top h) (f cl e b h k) (Bool.rec (bnot want) want t)) (k top h))
/-- a region, worked out -/
inductive FL where
  | nil
  | cons (p : PutF) (g : G) (l : FL)
inductive IL where
  | op (f : F) (l : IL)
  | ck (f : Cl → E → Bd → Hp → Bool) (l : IL)
  | fin (fl : FL)
noncomputable def flush (b : Bd) (k : E → Bool) (e0 : E) : FL → E → Bool :=
  FL.rec (fun e => k e) (fun p g _ ih e => g e0 b (fun v => p v e ih))
abbrev KE := E → Hp → Bool
noncomputable def run : IL → Cl → E → Bd → Hp → KE → Bool :=
  IL.rec (fun f _ ih cl e b h k => f cl e b h (fun v h' => ih cl e (.cons v b) h' k))
    (fun f _ ih cl e b h k => Bool.rec (ff 222) (ih cl e b h k) (f cl e b h))
    (fun fl _ e b h k => flush b (fun e' => k e' h) e fl e)
/-- equality of values, place by place -/
noncomputable def veq1 (a b : Value) : Bool :=
  match a, b with
  | .pointer none, .pointer none => true
  | .pointer (some a), .pointer (some b) => addrEq a b
  | .slice none n c, .slice none n' c' => Bool.rec false (Nat.beq c c') (Nat.beq n n')
  | .slice (some a) n c, .slice (some a') n' c' => Bool.rec false (Bool.rec false (addrEq a a') (Nat.beq c c')) (Nat.beq n n')
  | .map none, .map none => true
  | .map (some a), .map (some b) => Nat.beq a b
  | .nilIface, .nilIface => true
  | .nilFunc, .nilFunc => true
  | .func (.func f) ⟨[]⟩ ⟨[]⟩, .func (.func g) ⟨[]⟩ ⟨[]⟩ => Nat.beq f g
  | a, b => scEq a b (fun r => r)
noncomputable def veqL : List Value → List Value → Bool :=
  List.rec (fun m => List.rec true (fun _ _ _ => false) m) (fun a _ ih m => List.rec false (fun b m' _ => Bool.rec false (ih m') (veq1 a b)) m)
noncomputable def veq (a b : Value) : Bool :=
  vAgg a (fun l => vAgg b (fun m => veqL l m) false) (vTup a (fun l => vTup b (fun m => veqL l m) false) (veq1 a b))
/-- is a block still as it was made: one chunk? -/
noncomputable def sameOne (h h' : Hp) (b b' : Nat) : Bool :=
  h.cells b (fun c => h'.cells b' (fun c' => c.t.get .e (fun l => c'.t.get .e (fun l' =>
      Bool.rec (ff 212) (Bool.rec (ff 212) (Bool.rec (ff 212) (Bool.rec (ff 212) (Option.rec (Option.rec (Option.rec (veqL l l') (fun _ => ff 212) c.t.l) (fun _ => ff 212) c.t.r) (fun _ => ff 212) c.fz) (Nat.beq c.n 1)) (Nat.beq c.s c'.s)) (Nat.beq c.e c'.e)) (Nat.beq c'.n 1)))) (fun _ _ _ => ff 211))
    (fun s l e => h'.cells b' (fun _ => ff 211) (fun s' l' e' => Bool.rec (ff 212) (Bool.rec (ff 212) (veqL l l') (Nat.beq e e')) (Nat.beq s s')))
/-- looking again; w: what it was -/
noncomputable def ckVal (f : F) (w : G) (cl : Cl) (e : E) (b : Bd) (h : Hp) : Bool := f cl e b h (fun v _ => w e b (fun w => veq w v))
noncomputable def ckOne (f : F) (w : G) (cl : Cl) (e : E) (b : Bd) (h : Hp) : Bool :=
  f cl e b h (fun v h' => w e b (fun w => vPtr w (fun a => vPtr v (fun a' => sameOne h h' a.block a'.block) (ff 214)) (ff 214)))
noncomputable def ckMap (w : G) (_ : Cl) (e : E) (b : Bd) (h : Hp) : Bool :=
  w e b (fun w => vMap w (fun r => oK 215 r (fun m => h.obj m (fun o => objM 216 o (fun es c => match es, c with | [], 0 => true | _, _ => ff 217) (fun _ => ff 218)))) (ff 219))
noncomputable def ckGuard (g : G) (want : Bool) (f : Cl → E → Bd → Hp → Bool) (cl : Cl) (e : E) (b : Bd) (h : Hp) : Bool :=
  g e b (fun v => vBool v (fun t => Bool.rec true (f cl e b h) (Bool.rec (bnot want) want t)) true)
/-! ### control, worked out -/
inductive Ex where
  | exit (id : Nat)
  | ret
abbrev KQ := Ex → E → Hp → Bool
inductive CT where
  | skip
  | reg (l : IL)
  | seq (a b : CT)
  | cond (g : G) (a b : CT)
  | block (id : Nat) (b : CT)
  | loop (b : CT)
  | range (i : Nat) (g : G)
  | exit (id : Nat)
  | ret
inductive RG where
  | val (g : G)
  | cell1 (g : G)
  | cellN (n : Nat) (g : G)
/-- a range over a function: where its variables go, what is assigned, its body -/
structure RF where
  ps : List (Option PutF)
  a : CT
  b : CT
/-- a function, worked out -/
structure FI where
  args : List (Option PutF)
  code : CT
  res : List RG
  rounds : List RF
/-- functions without a body, and those that are summed up; the others -/
structure Tab where
  ext : Nat → Option (List Value → Hp → KV → Bool)
  fi : Nat → Option FI
abbrev CF := Nat → Bool → Cl → E → Hp → KE → KQ → Bool
noncomputable def fLoop (ih : CF) (f : Nat) (rd : Bool) (cl : Cl) (q : KQ) : Nat → E → Hp → Bool :=
  Nat.rec (fun _ _ => ff 230) (fun _ lp e h => ih f rd cl e h lp q)
noncomputable def qBlock (id : Nat) (k : KE) (q : KQ) : KQ :=
  Ex.rec (fun j e h => Bool.rec (q (.exit j) e h) (k e h) (Nat.beq j id)) (fun e h => q .ret e h)
noncomputable def rngK (cl : Cl) (first captured : List Value) (args : List Value) (h : Hp) (k : KV) : Fn → Bool :=
  Fn.rec (fun g => cl (.rng g) (first ++ (args ++ captured)) h k) (fun _ => ff 248) (fun _ _ => ff 248) (fun _ _ _ _ => ff 248) (fun _ => ff 248)
noncomputable def fRange (i : Nat) (g : G) : CF := fun f rd cl e h k q =>
  Bool.rec (g e .nil (fun g => h.newO (.loop .ready none f i e) (fun l h =>
    vFunc g (fun fn first captured => rngK cl first.toList captured.toList [.func (.yield l) #[] #[]] h (fun _ h' =>
      h'.obj l (fun o => match o with
      | .loop .busy _ _ _ _ => ff 231
      | .loop _ p f' i' env => match p with
        | none => h'.setObj l (.loop .exhausted p f' i' env) (fun h'' => k e h'')
        | some (.exit id) => h'.setObj l (.loop .exhausted p f' i' env) (fun h'' => q (.exit id) e h'')
        | some .ret => h'.setObj l (.loop .exhausted p f' i' env) (fun h'' => q .ret e h'')
        | some _ => ff 232
      | _ => ff 233)) fn) (ff 253)))) (ff 234) rd
noncomputable def fC : CT → CF := @CT.rec (fun _ => CF)
  (fun _ _ _ e h k _ => k e h)
  (fun l _ _ cl e h k _ => run l cl e .nil h k)
  (fun _ _ ia ib f rd cl e h k q => ia f rd cl e h (fun e' h' => ib f rd cl e' h' k q) q)
  (fun g _ _ ia ib f rd cl e h k q => g e .nil (fun v => vBool v (fun t => Bool.rec (ib f rd cl e h k q) (ia f rd cl e h k q) t) (ff 235)))
  (fun id _ ib f rd cl e h k q => ib f rd cl e h k (qBlock id k q))
  (fun _ ib f rd cl e h _ q => fLoop ib f rd cl q 100000 e h)
  (fun i g => fRange i g)
  (fun id _ _ _ e h _ q => q (.exit id) e h)
  (fun _ _ _ e h _ q => q .ret e h)
noncomputable def resV (e : E) (h : Hp) : List RG → (List Value → Bool) → Bool :=
  List.rec (fun k => k []) (fun r _ ih k => RG.rec (fun g => g e .nil (fun v => ih (fun l => k (v :: l))))
    (fun g => g e .nil (fun v => vPtr v (fun a => load1 h a (fun v => ih (fun l => k (v :: l)))) (ff 240)))
    (fun n g => g e .nil (fun v => vPtr v (fun a => loadC h a n (fun cs => ih (fun l => k (.agg ⟨cs⟩ :: l)))) (ff 240))) r)
/-- the results; the young blocks from n on are given up -/
noncomputable def fRes (rs : List RG) (n : Nat) (e : E) (h : Hp) (k : KV) : Bool :=
  resV e h rs (fun l => h.pop n (fun h => List.rec (k (.tuple ⟨[]⟩) h) (fun v l' _ => List.rec (k v h) (fun _ _ _ => k (.tuple ⟨l⟩) h) l') l))
/-- values into their places -/
noncomputable def putAll (k : E → Bool) : List (Option PutF) → List Value → E → Bool :=
  List.rec (fun l e => List.rec (k e) (fun _ _ _ => ff 243) l) (fun p _ ih l e => List.rec (ff 244) (fun v l' _ => Option.rec (ih l' e) (fun p => p v e (ih l')) p) l)
noncomputable def fBody (f : Nat) (fi : FI) (cl : Cl) (args : List Value) (h : Hp) (k : KV) : Bool :=
  putAll (fun e => fC fi.code f false cl e h (fun e h' => fRes fi.res h.ny e h' k) (Ex.rec (fun _ _ _ => ff 242) (fun e h' => fRes fi.res h.ny e h' k))) fi.args args E.nil
/-- a round begins, and ends -/
noncomputable def loopB (h : Hp) (l : Nat) (k : Hp → Bool) : Bool := h.obj l (fun o => match o with
  | .loop .ready p f i env => h.setObj l (.loop .busy p f i env) k
  | _ => ff 237)
noncomputable def loopE (h : Hp) (l : Nat) (j : Option Code) (k : Hp → Bool) : Bool := h.obj l (fun o => match o with
  | .loop _ _ f i env => h.setObj l (.loop (Option.rec .ready (fun _ => .done) j) j f i env) k
  | _ => ff 238)
noncomputable def exC : Ex → Code := Ex.rec (fun id => .exit id) .ret
noncomputable def fRound (T : Tab) (l : Nat) (cl : Cl) (args : List Value) (h : Hp) (k : KV) : Bool :=
  h.obj l (fun o => match o with
  | .loop .ready _ f i env => oK 254 (T.fi f) (fun fi => oK 255 fi.rounds[i]? (fun r => putAll (fun e => fC r.a f true cl e h (fun e' h' =>
        loopB h' l (fun h' => fC r.b f true cl e' h'
          (fun _ h'' => loopE h'' l none (fun h3 => k (.bool true) h3))
          (fun x _ h'' => loopE h'' l (some (exC x)) (fun h3 => k (.bool false) h3))))
        (fun _ _ _ => ff 245)) r.ps args env))
  | _ => ff 246)
noncomputable def fCallF (T : Tab) (g : Nat) (cl : Cl) (args : List Value) (h : Hp) (k : KV) : Bool :=
  Option.rec (oK 247 (T.fi g) (fun fi => fBody g fi cl args h k)) (fun x => x args h k) (T.ext g)
noncomputable def fCall (T : Tab) : Nat → Cl :=
  Nat.rec (fun _ _ _ _ => ff 249) (fun _ cl t args h k => Tgt.rec (fun g => fCallF T g cl args h k) (fun l => fRound T l cl args h k) (fun g => oK 247 (T.fi g) (fun fi => fBody g fi cl args h k)) t)
end Go.Ab
end
section
namespace Go.Ab
/-! ### types: what is asked of one -/
/-- what is known of the types -/
abbrev Ty := TypeId → Option TypeInfo
def tinfo (P : Ty) (t : TypeId) : Option TypeInfo := P t
def under (P : Ty) (t : TypeId) : Option TypeDesc :=
  match tinfo P t with
  | some i => match i.desc with
    | .named _ u => (tinfo P u).map (·.desc)
    | d => some d
  | none => none
def isAggD : TypeDesc → Bool
  | .struct _ => true
  | .array _ _ => true
  | _ => false
/-- a type's size, and whether it is an aggregate -/
def tkind (P : Ty) (t : TypeId) : Option (Nat × Bool) :=
  match tinfo P t, under P t with
  | some i, some d => some (i.size, isAggD d)
  | _, _ => none
def fields (P : Ty) (t : TypeId) : Option (Array Field) := match under P t with | some (.struct fs) => some fs | _ => none
/-- a field's offset, its size, whether it is an aggregate -/
def fieldOf (P : Ty) (t : TypeId) (f : Nat) : Option (Nat × Nat × Bool) :=
  match fields P t with
  | some fs => match fs[f]? with
    | some fl => (tkind P fl.type).map fun x => (fl.offset, x.1, x.2)
    | none => none
  | none => none
/-- an element's type, its size, whether it is an aggregate; none of a great size -/
def elemK (P : Ty) (e : TypeId) : Option (TypeId × Nat × Bool) :=
  match tinfo P e with
  | some i => if i.bytes ≤ 1000000 then (tkind P e).map fun x => (e, x.1, x.2) else none
  | none => none
def sliceElem (P : Ty) (t : TypeId) : Option (TypeId × Nat × Bool) := match under P t with | some (.slice e) => elemK P e | _ => none
def arrElem (P : Ty) (t : TypeId) : Option (Nat × TypeId × Nat × Bool) := match under P t with | some (.array n e) => (elemK P e).map fun x => (n, x) | _ => none
/-- a cell's value without an address -/
def plain1 : Value → Bool
  | .bool _ => true
  | .int _ _ => true
  | .string _ => true
  | .pointer none => true
  | .slice none 0 0 => true
  | .map none => true
  | .nilFunc => true
  | .nilIface => true
  | .func (.func _) a b => a.isEmpty && b.isEmpty
  | _ => false
def plainV : Value → Bool
  | .agg ⟨l⟩ => l.all plain1
  | v => plain1 v
def cellsOf : Value → List Value
  | .agg ⟨l⟩ => l
  | v => [v]
/-- a type's zero: its value, where it holds no address -/
def tzero (P : Ty) (t : TypeId) : Option Value := match tinfo P t with
  | some i => match i.zero with
    | some z => if plainV z then some z else none
    | none => none
  | none => none
def zV (P : Ty) (t : TypeId) : Value := (tzero P t).getD top
/-- the zero's cells -/
def zOf (P : Ty) (t : TypeId) : List Value := cellsOf (zV P t)
/-- the zero's cells are as many as the type has -/
def zOk (P : Ty) (t : TypeId) (s : Nat) : Bool := (tzero P t).isSome && (zOf P t).length == s
/-! ### how an operand is had -/
inductive Al where
  | lv (l : Nat)
  | sl (s : Nat)
  | cv (v : Value)
/-- what has been computed: its place, how it is had; the latest first -/
abbrev Ds := List (Option Nat × Al)
noncomputable def gLoc : Nat → G
  | 0 => g0
  | 1 => g1
  | n + 2 => gL (n + 2)
noncomputable def gSl : Nat → G
  | 0 => gS0 | 1 => gS1 | 2 => gS2 | 3 => gS3 | 4 => gS4 | 5 => gS5 | 6 => gS6 | 7 => gS7
  | n + 8 => gT (pth n)
noncomputable def pSl : Nat → PutF
  | 0 => pS0 | 1 => pS1 | 2 => pS2 | 3 => pS3 | 4 => pS4 | 5 => pS5 | 6 => pS6 | 7 => pS7
  | n + 8 => pT (pth n)
noncomputable def alG (n : Nat) : Al → G
  | .lv l => gLoc (n - 1 - l)
  | .sl s => gSl s
  | .cv v => gC v
/-- the context: the program, its flat types, the frame's slots, its young places, how many places it has, the region's operations -/
structure Ct where
  P : Ty
  lies : TypeId → TypeId → Nat → Nat → Bool
  flat : List (TypeId × List Nat)
  esc : List Nat
  loc : List Nat
  nt : Nat
  /-- the global variables that may be named -/
  ng : Nat → Bool
  all : Array Oper
def findF (t : TypeId) : List (TypeId × List Nat) → Option (List Nat)
  | [] => none
  | (u, ks) :: l => if u = t then some ks else findF t l
/-- the kind of a key -/
def kdOf (c : Ct) (t : TypeId) : Option KD := match under c.P t with
  | some (.int _) => some (.sc 0)
  | some .string => some (.sc 1)
  | some .bool => some (.sc 2)
  | some (.struct _) => (findF t c.flat).map .ag
  | _ => none
def slot (esc : List Nat) (t : Nat) : Option Nat := esc.findIdx? (· == t)
def findD (t : Nat) : Ds → Option Al
  | [] => none
  | (some u, a) :: l => if u = t then some a else findD t l
  | (none, _) :: l => findD t l
/-- a place -/
def cT (c : Ct) (ds : Ds) (t : Nat) : Option Al :=
  match findD t ds with
  | some a => some a
  | none => (slot c.esc t).map .sl
def cA (c : Ct) (ds : Ds) : Operand → Option Al
  | .tmp t => cT c ds t
  | .const v => if plainV v then some (.cv v) else none
  | .global g => if c.ng g then some (.cv (.pointer (some ⟨g, 0, none⟩))) else none
  | .func f => some (.cv (.func (.func f) #[] #[]))
noncomputable def cG (c : Ct) (ds : Ds) (n : Nat) (x : Operand) : Option G := (cA c ds x).map (alG n)
noncomputable def cL (c : Ct) (ds : Ds) (n : Nat) : List Operand → Option (List G)
  | [] => some []
  | x :: l => do pure ((← cG c ds n x) :: (← cL c ds n l))
noncomputable def cO (c : Ct) (ds : Ds) (n : Nat) : Option Operand → Option (Option G)
  | none => some none
  | some x => (cG c ds n x).map some
def isLoc (loc : List Nat) : Option Nat → Bool
  | some t => loc.contains t
  | none => false
/-- the parts of a struct or an array: each at its place -/
noncomputable def cParts (c : Ct) (ds : Ds) (n len : Nat) (place : Nat → Option (Nat × Nat)) : List (Nat × Operand) → Option (List (Nat × Nat × G))
  | [] => some []
  | (i, x) :: l => do
    let (o, s) ← place i
    if o + s ≤ len then
      pure ((o, s, ← cG c ds n x) :: (← cParts c ds n len place l))
    else none
noncomputable def cPs (c : Ct) (ds : Ds) (n : Nat) : List (Nat × Operand) → Option (List (Nat × G))
  | [] => some []
  | (i, x) :: l => do pure ((i, ← cG c ds n x) :: (← cPs c ds n l))
/-- '==' at a type -/
noncomputable def cEq (c : Ct) (t : TypeId) (y : Operand) : Option (Value → Value → Hp → (Bool → Bool) → Bool) :=
  match under c.P t with
  | some (.int _) => some eI
  | some .string => some eS
  | some .bool => some eB
  | some (.pointer e) => match tkind c.P e with
    | some (s, _) => if s = 0 then none else some eP
    | none => none
  | some (.interface _) => match y with | .const .nilIface => some eNI | _ => none
  | some (.slice _) => match y with | .const (.slice none 0 0) => some eNS | _ => none
  | some (.map _ _) => match y with | .const (.map none) => some eNM | _ => none
  | some (.func _ _ _) => match y with | .const .nilFunc => some eNF | _ => none
  | some (.struct _) => (findF t c.flat).map eA
  | _ => none
noncomputable def cBin (c : Ct) (op : BinOp) (t : TypeId) (y : Operand) : Option BF :=
  match op with
  | .eql => (cEq c t y).map bEql
  | .neq => (cEq c t y).map bNeq
  | op => match under c.P t with
    | some (.int _) => match op with
      | .add => some bAdd | .sub => some bSub | .mul => some bMul
      | .quo => some (bDiv .quo) | .rem => some (bDiv .rem)
      | .and => some (bBits .and) | .or => some (bBits .or) | .xor => some (bBits .xor) | .andNot => some (bBits .andNot)
      | .shl => some (bShift .shl) | .shr => some (bShift .shr)
      | .lss => some bLss | .gtr => some bGtr | .leq => some bLeq | .geq => some bGeq
      | _ => none
    | some .string => match op with
      | .add => some bCat
      | _ => none
    | _ => none
noncomputable def cConv (c : Ct) (s d : TypeId) (g : G) : Option F :=
  match under c.P s, under c.P d with
  | some (.int _), some (.int k) => some (oCvI k g)
  | some (.int _), some .string => some (oCvS g)
  | some .string, some .string => some (oCvSS g)
  | some .string, some (.slice e) => match under c.P e with
    | some (.int .u8) => (elemK c.P e).bind fun _ => some (oCvSB e g)
    | some (.int .i32) => (elemK c.P e).bind fun _ => some (oCvSR e g)
    | _ => none
  | some (.slice e), some .string => match under c.P e with
    | some (.int .u8) => some (oCvBS g)
    | _ => none
  | some (.pointer t), some .unsafePointer => match tkind c.P t with
    | some (s, _) => if s = 0 then none else some (oCvPU g)
    | none => none
  | some .unsafePointer, some (.pointer u) => match tinfo c.P u with
    | some _ => some (oCvUP (c.lies u) g)
    | none => none
  | _, _ => none
noncomputable def cBuiltin (c : Ct) (ds : Ds) (n : Nat) (b : Builtin) (ts : List TypeId) (args : List Operand) (type : TypeId) : Option F :=
  match b, ts, args with
  | .len, t :: _, [x] => match under c.P t with
    | some (.slice _) => (cG c ds n x).map oLenL
    | some .string => (cG c ds n x).map oLenS
    | some (.map _ _) => (cG c ds n x).map oLenM
    | _ => none
  | .append, [t, u], [s, x] => do
    let (e, size, _) ← sliceElem c.P t
    let s ← cG c ds n s
    let x ← cG c ds n x
    match under c.P u with
    | some (.int _) => if zOk c.P e size && 0 < size then pure (oAppZ e size (zOf c.P e) s x) else none
    | some (.slice _) => if zOk c.P e size then pure (oApp e size s x) else none
    | some .string => if zOk c.P e size then pure (oApp e size s x) else none
    | _ => none
  | .copy, t :: _, [d, s] => do
    let (_, size, _) ← sliceElem c.P t
    pure (oCopy size (← cG c ds n d) (← cG c ds n s))
  | .min, _, [x, y] => do pure (oMin (← cG c ds n x) (← cG c ds n y))
  | .max, _, [x, y] => do pure (oMax (← cG c ds n x) (← cG c ds n y))
  | .cap, t :: _, [x] => match under c.P t with
    | some (.slice _) => (cG c ds n x).map oCap
    | _ => none
  | .delete, t :: _, [m, x] => match under c.P t with
    | some (.map kt _) => do pure (oDel (← kdOf c kt) (← cG c ds n m) (← cG c ds n x))
    | _ => none
  | .clear, t :: _, [x] => do
    let (e, size, _) ← sliceElem c.P t
    if zOk c.P e size && 0 < size then pure (oClear size (zOf c.P e) (← cG c ds n x)) else none
  | .unsafeSliceData, t :: _, [x] => match under c.P t with
    | some (.slice _) => (cG c ds n x).map oSlD
    | _ => none
  | .unsafeString, t :: _, [x, l] => match under c.P t with
    | some (.pointer e) => match under c.P e with
      | some (.int .u8) => do
        let (_, size, _) ← elemK c.P e
        if size = 1 then pure (oUStr e (← cG c ds n x) (← cG c ds n l)) else none
      | _ => none
    | _ => none
  | _, _, _ => if type = type then none else none
noncomputable def cOp (c : Ct) (d : Option Nat) (ds : Ds) (n : Nat) (type : TypeId) : Op → Option F
  | .move x => (cG c ds n x).map oMove
  | .assign x => (cG c ds n x).map oMove
  | .pick a x y => do pure (oPick (← cG c ds n a) (← cG c ds n x) (← cG c ds n y))
  | .alloc t => do
    let (s, _) ← tkind c.P t
    if zOk c.P t s then pure (if isLoc c.loc d then oAllocY s t (zOf c.P t) else oAlloc s t (zOf c.P t)) else none
  | .box t x => do
    let (s, _) ← tkind c.P t
    let g ← cG c ds n x
    pure (if isLoc c.loc d then oBoxY s t g else oBox s t g)
  | .build t ps => do
    let (s, _) ← tkind c.P t
    if zOk c.P t s then
      match fields c.P t with
      | some fs => if fs.toList.all (fun f => (tinfo c.P f.type).isSome) then do pure (oBuild (zOf c.P t) (← cParts c ds n s (fun i => (fieldOf c.P t i).map fun x => (x.1, x.2.1)) ps.toList)) else none
      | none => do
        let (_, _, size, _) ← arrElem c.P t
        pure (oBuild (zOf c.P t) (← cParts c ds n s (fun i => some (i * size, size)) ps.toList))
    else none
  | .buildSlice t m ps => do
    let (e, size, _) ← sliceElem c.P t
    if zOk c.P e size then pure (oBuildSlice e size m (zOf c.P e) (← cPs c ds n ps.toList)) else none
  | .insert t m x y => match under c.P t with
    | some (.map kt _) => do pure (oUpd (← kdOf c kt) (← cG c ds n m) (← cG c ds n x) (← cG c ds n y))
    | _ => none
  | .mapUpdate t m x y => match under c.P t with
    | some (.map kt _) => do pure (oUpd (← kdOf c kt) (← cG c ds n m) (← cG c ds n x) (← cG c ds n y))
    | _ => none
  | .load t a => do
    let (s, ag) ← tkind c.P t
    let g ← cG c ds n a
    if ag then pure (oLoadN s g) else if s = 1 then pure (oLoad1 g) else none
  | .store t a x => do
    let (s, ag) ← tkind c.P t
    let g ← cG c ds n a
    let y ← cG c ds n x
    if ag then pure (oStoreN s g y) else if s = 1 then pure (oStore1 g y) else none
  | .nilCheck x => (cG c ds n x).map oNil
  | .binOp op t x y _ => do pure (oBin (← cBin c op t y) (← cG c ds n x) (← cG c ds n y))
  | .unOp op t x => do
    let g ← cG c ds n x
    match op, under c.P t with
    | .not, _ => pure (oNot g)
    | .neg, some (.int _) => pure (oNeg .neg g)
    | .xor, some (.int _) => pure (oNeg .xor g)
    | _, _ => none
  | .convert s t x => do cConv c s t (← cG c ds n x)
  | .makeInterface t x => match under c.P t with
    | some (.interface _) => none
    | some _ => (cG c ds n x).map (oIface t)
    | none => none
  | .makeFunc fn a b => match fn with
    | .func f => do pure (oFunc f (← cL c ds n a.toList) (← cL c ds n b.toList))
    | _ => none
  | .makeMap _ r => match r with
    | none => some oMap
    | some _ => none
  | .makeSlice t l m => do
    let (e, size, _) ← sliceElem c.P t
    if zOk c.P e size then pure (oMkSl e size (zOf c.P e) (← cG c ds n l) (← cG c ds n m)) else none
  | .slice t x lo hi mx => do
    let g ← cG c ds n x
    let lo ← cO c ds n lo
    let hi ← cO c ds n hi
    match under c.P t with
    | some .string => match mx with
      | none => pure (oSlS g lo hi)
      | some _ => none
    | some (.slice e) => do
      let (_, size, _) ← elemK c.P e
      pure (oSlL size g lo hi (← cO c ds n mx))
    | some (.array m e) => do
      let (_, size, _) ← elemK c.P e
      pure (oSlA size m g lo hi (← cO c ds n mx))
    | _ => none
  | .fieldAddr t x f => do
    let (o, s, _) ← fieldOf c.P t f
    if s = 0 then none else (cG c ds n x).map (oFA o)
  | .field t x f => do
    let (o, s, ag) ← fieldOf c.P t f
    let (z, _) ← tkind c.P t
    if o + s ≤ z then (cG c ds n x).map (oField o s ag) else none
  | .indexAddr t x i => do
    let g ← cG c ds n x
    let j ← cG c ds n i
    match under c.P t with
    | some (.slice e) => do
      let (_, size, _) ← elemK c.P e
      pure (oIAS size g j)
    | some (.array m e) => do
      let (_, size, _) ← elemK c.P e
      pure (oIAA size m g j)
    | _ => none
  | .index t x i => do
    let g ← cG c ds n x
    let j ← cG c ds n i
    match under c.P t with
    | some .string => pure (oIxS g j)
    | some (.array m e) => do
      let (_, size, ag) ← elemK c.P e
      pure (oIxA size m ag g j)
    | _ => none
  | .lookup t x i ok => match under c.P t with
    | some (.map kt e) => do
      let _ ← tzero c.P e
      pure (oLook (← kdOf c kt) (zV c.P e) ok (← cG c ds n x) (← cG c ds n i))
    | _ => none
  | .range t x => do
    let g ← cG c ds n x
    match under c.P t with
    | some .string => pure (oRanS g)
    | some (.map _ _) => pure (oRanM g)
    | _ => none
  | .next x s => (cG c ds n x).map (oNext s)
  | .entry x => (cG c ds n x).map oEntry
  | .extract x i => (cG c ds n x).map (oExtract i)
  | .call x => match x.callee with
    | .value (.func f) => (cL c ds n x.args.toList).map (oCallS f)
    | .value (.tmp t) => do pure (oCall (← cG c ds n (.tmp t)) (← cL c ds n x.args.toList))
    | .builtin b => cBuiltin c ds n b x.argTypes.toList x.args.toList type
    | _ => none
  | _ => none
/-! ### regions -/
/-- an operation's guard: what it hangs on -/
noncomputable def guardG (c : Ct) (ds : Ds) (n j : Nat) : Option G :=
  match c.all[j]? with
  | some p => match p.dst with
    | some d => (cT c ds d).map (alG n)
    | none => none
  | none => none
noncomputable def cGuard (c : Ct) (ds : Ds) (n : Nat) (o : Oper) (f : F) : Option F :=
  match o.guard with
  | none => some f
  | some (j, want) => (guardG c ds n j).map fun x => oGuard x want f
/-- a copy: it is had as what is copied is -/
def moved (o : Oper) : Option Operand := match o.guard, o.op with
  | none, .move x => some x
  | none, .assign x => some x
  | _, _ => none
def dstOk (c : Ct) (o : Oper) : Bool := match o.dst with
  | some d => d < c.nt
  | none => true
/-- what is handed on: the latest of each slot -/
noncomputable def cFl (esc : List Nat) (n : Nat) : Ds → List Nat → FL
  | [], _ => .nil
  | (some t, a) :: l, seen => match slot esc t with
    | some s => if seen.contains t then cFl esc n l seen else .cons (pSl s) (alG n a) (cFl esc n l (t :: seen))
    | none => cFl esc n l seen
  | (none, _) :: l, seen => cFl esc n l seen
/-- what is not known fails when it is come to -/
noncomputable def cOper (c : Ct) (o : Oper) (ds : Ds) (n : Nat) : F :=
  @Option.rec F (fun _ => F) oFail (fun f => f) (cGuard c ds n o (@Option.rec F (fun _ => F) oFail (fun f => f) (cOp c o.dst ds n o.type o.op)))
noncomputable def cOps (c : Ct) : List Oper → Ds → Nat → Option IL
  | [], ds, n => some (.fin (cFl c.esc n ds []))
  | o :: l, ds, n => if dstOk c o then
      match moved o with
      | some x => do cOps c l ((o.dst, ← cA c ds x) :: ds) n
      | none => do pure (.op (cOper c o ds n) (← cOps c l ((o.dst, .lv n) :: ds) (n + 1)))
    else none
/-! ### plans of regions that draw -/
inductive PI where
  | ex (i : Nat)
  | ck (i : Nat)
def quietConv (P : Ty) (s d : TypeId) : Bool := match under P s, under P d with
  | some (.int _), some (.int _) => true
  | some (.int _), some .string => true
  | _, _ => false
def isPtr (P : Ty) (t : TypeId) : Bool := match under P t with
  | some (.pointer _) => true
  | _ => false
def isSlice (P : Ty) (t : TypeId) : Bool := match under P t with
  | some (.slice _) => true
  | _ => false
/-- hangs on its operands alone -/
def pureOp (P : Ty) : Op → Bool
  | .move _ | .assign _ | .pick .. | .build .. | .nilCheck _ | .unOp .. | .makeInterface .. | .makeFunc .. | .fieldAddr .. | .field .. | .indexAddr .. | .index .. | .extract .. => true
  | .binOp _ t _ _ _ => !isPtr P t
  | .slice t _ _ _ _ => !isSlice P t
  | .convert s d _ => quietConv P s d
  | .call { callee := .builtin .min, .. } | .call { callee := .builtin .max, .. } | .call { callee := .builtin .cap, .. } => true
  | .call { callee := .builtin .len, argTypes := ts, .. } => match ts.toList with
    | t :: _ => match under P t with
      | some (.slice _) => true
      | some .string => true
      | _ => false
    | _ => false
  | _ => false
/-- reads, and changes nothing -/
def readOp (P : Ty) : Op → Bool
  | .load .. | .lookup .. => true
  | .binOp _ t _ _ _ => isPtr P t
  | .slice t _ _ _ _ => isSlice P t
  | _ => false
/-- makes a block of its own, or a map -/
def makeOp : Op → Bool
  | .alloc _ | .box .. | .makeMap .. | .makeSlice .. => true
  | _ => false
def quietOp (P : Ty) (o : Op) : Bool := pureOp P o || readOp P o || makeOp o
/-- the forerunners of each operation, a bit each -/
def preds (ops : Array Oper) : List Nat := (Region.before ops).toList
def lowMask : List (Nat × Oper) → Nat := List.foldr (fun x s => s ||| 2 ^ x.1) 0
def enum : Nat → List Oper → List (Nat × Oper)
  | _, [] => []
  | i, o :: l => (i, o) :: enum (i + 1) l
/-- dm: the loud ones that are done; old: those that were done before -/
def segs (P : Ty) (pre : List Nat) (lm : Nat) (l : List (Nat × Oper)) : List (Nat × Oper) → Nat → Nat → List PI
  | [], _, _ => []
  | (j, _) :: rest, dm, fore =>
    let dm' := dm ||| 2 ^ j
    let fore' := fore ||| (pre.getD j 0 ||| 2 ^ j)
    .ex j :: ((l.filter (fun x => (readOp P x.2.op || makeOp x.2.op) && ((pre.getD x.1 0 &&& lm) &&& dm) == (pre.getD x.1 0 &&& lm) && !(fore'.testBit x.1))).map (fun x => PI.ck x.1)
      ++ (l.filter (fun x => quietOp P x.2.op && ((pre.getD x.1 0 &&& lm) &&& dm') == (pre.getD x.1 0 &&& lm) && !(((pre.getD x.1 0 &&& lm) &&& dm) == (pre.getD x.1 0 &&& lm)))).map (fun x => PI.ex x.1)
      ++ segs P pre lm l rest dm' fore')
def mkPlan (P : Ty) (ops : Array Oper) : List PI :=
  let pre := preds ops
  let l := enum 0 ops.toList
  let lo := l.filter (fun x => !quietOp P x.2.op)
  let lm := lowMask lo
  (l.filter (fun x => quietOp P x.2.op && (pre.getD x.1 0 &&& lm) == 0)).map (fun x => PI.ex x.1) ++ segs P pre lm l lo 0 0
/-! #### the plan is looked at -/
/-- what an operation comes directly after -/
def dirM (o : Oper) : Nat := o.after.toList.foldl (fun s e => if Region.binds .any e then s ||| 2 ^ e.on else s) 0
def dirs (ops : Array Oper) : List (Nat × Nat) := (enum 0 ops.toList).map fun x => (x.1, dirM x.2)
/-- and what that comes after; the list: the latest first -/
def closeM : List (Nat × Nat) → Nat → Nat
  | [], s => s
  | (i, d) :: l, s => closeM l (if s.testBit i then s ||| d else s)
def restOk (D j : Nat) : List (Nat × Nat) → Bool
  | [] => true
  | (i, d) :: l => (D.testBit i || !((d &&& D) == d) || i == j) && restOk D j l
def allIn (D : Nat) : List (Nat × Nat) → Bool
  | [] => true
  | (i, _) :: l => D.testBit i && allIn D l
def looksT (ops : Array Oper) (o : Oper) : List Nat :=
  (o.op.operands.toList.filterMap fun | .tmp t => some t | _ => none) ++
  (match o.guard with
   | some (g, _) => ((ops[g]?).bind (·.dst)).toList
   | none => [])
/-- who writes: the place, who, and what that comes after -/
def writers (rv : List (Nat × Nat)) : List (Nat × Oper) → List (Nat × Nat × Nat)
  | [] => []
  | (i, o) :: l => match o.dst with
    | some d => (d, i, closeM rv (dirM o)) :: writers rv l
    | none => writers rv l
def apartW (i A t : Nat) : List (Nat × Nat × Nat) → Bool
  | [] => true
  | (d, j, B) :: l => (!(d == t) || A.testBit j || B.testBit i) && apartW i A t l
def onceW : List (Nat × Nat × Nat) → Bool
  | [] => true
  | (d, _, _) :: l => l.all (fun x => !(x.1 == d)) && onceW l
/-- what is looked at again hangs on nothing that was written meanwhile -/
def ckOk (A D : Nat) (ts : List Nat) : List (Nat × Nat × Nat) → Bool
  | [] => true
  | (d, j, _) :: l => (!ts.contains d || !D.testBit j || A.testBit j) && ckOk A D ts l
/-- D: what is done; fore: what must have been done; need: what is still to be looked at again; rm: what reads or makes -/
def chk (P : Ty) (ops : Array Oper) (ds rv : List (Nat × Nat)) (ws : List (Nat × Nat × Nat)) : List PI → Nat → Nat → Nat → Nat → Bool
  | [], D, _, need, _ => need == 0 && allIn D ds
  | .ck i :: l, D, fore, need, rm => (match ops[i]? with
    | none => false
    | some o => ckOk (closeM rv (dirM o)) D (looksT ops o) ws && chk P ops ds rv ws l D fore (if need.testBit i then need ^^^ 2 ^ i else need) rm)
  | .ex i :: l, D, fore, need, rm => need == 0 && !D.testBit i && (match ops[i]? with
    | none => false
    | some o => (dirM o &&& D) == dirM o && (if quietOp P o.op then chk P ops ds rv ws l (D ||| 2 ^ i) fore 0 (if readOp P o.op || makeOp o.op then rm ||| 2 ^ i else rm)
      else restOk D i ds && (let fore' := closeM rv (fore ||| 2 ^ i); chk P ops ds rv ws l (D ||| 2 ^ i) fore' (rm ^^^ (rm &&& fore')) rm)))
def drawOk (P : Ty) (ops : Array Oper) : Bool :=
  let l := enum 0 ops.toList
  let ds := dirs ops
  let rv := ds.reverse
  let ws := writers rv l
  onceW ws && l.all (fun x => Nat.blt (dirM x.2) (2 ^ x.1)) && l.all (fun x => let A := closeM rv (dirM x.2); (looksT ops x.2).all fun t => apartW x.1 A t ws) && chk P ops ds rv ws (mkPlan P ops) 0 0 0 0
noncomputable def cCkG (c : Ct) (ds : Ds) (n : Nat) (o : Oper) (f : Cl → E → Bd → Hp → Bool) : Option (Cl → E → Bd → Hp → Bool) :=
  match o.guard with
  | none => some f
  | some (j, want) => (guardG c ds n j).map fun x => ckGuard x want f
noncomputable def cCk (c : Ct) (o : Oper) (ds : Ds) (n : Nat) : Option (Cl → E → Bd → Hp → Bool) :=
  match o.dst with
  | none => none
  | some d => do
    let w ← (cT c ds d).map (alG n)
    if makeOp o.op then match o.op with
      | .makeMap _ _ => cCkG c ds n o (ckMap w)
      | .makeSlice _ _ _ => none
      | _ => do cCkG c ds n o (ckOne (← cOp c o.dst ds n o.type o.op) w)
    else if readOp c.P o.op then do cCkG c ds n o (ckVal (← cOp c o.dst ds n o.type o.op) w)
    else none
noncomputable def cPlan (c : Ct) : List PI → Ds → Nat → Option IL
  | [], ds, n => some (.fin (cFl c.esc n ds []))
  | .ex i :: l, ds, n => match c.all[i]? with
    | none => none
    | some o => if dstOk c o then
        match moved o with
        | some x => do cPlan c l ((o.dst, ← cA c ds x) :: ds) n
        | none => do pure (.op (cOper c o ds n) (← cPlan c l ((o.dst, .lv n) :: ds) (n + 1)))
      else none
  | .ck i :: l, ds, n => match c.all[i]? with
    | none => none
    | some o => do pure (.ck (← cCk c o ds n) (← cPlan c l ds n))
noncomputable def failIL : IL := .op oFail (.fin .nil)
noncomputable def cReg (c : Ct) (ops : Array Oper) (draw : Bool) : IL :=
  @Option.rec IL (fun _ => IL) failIL (fun l => l) (if draw then (if drawOk c.P ops then cPlan { c with all := ops } (mkPlan c.P ops) [] 0 else none) else cOps { c with all := ops } ops.toList [] 0)
/-! ### functions -/
noncomputable def slotP (esc : List Nat) (t : Nat) : Option PutF := (slot esc t).map pSl
/-- the code; i: how many ranges over functions lie before it -/
noncomputable def cC (c : Ct) : Code → Nat → Option (CT × Nat)
  | .skip, i => some (.skip, i)
  | .label _, i => some (.skip, i)
  | .region _ ops draw, i => some (.reg (cReg c ops draw), i)
  | .seq a b, i => do
    let (x, i) ← cC c a i
    let (y, i) ← cC c b i
    pure (.seq x y, i)
  | .cond x a b, i => do
    let g ← cG c [] 0 x
    let (y, i) ← cC c a i
    let (z, i) ← cC c b i
    pure (.cond g y z, i)
  | .block id a, i => do
    let (x, i) ← cC c a i
    pure (.block id x, i)
  | .loop a, i => do
    let (x, i) ← cC c a i
    pure (.loop x, i)
  | .scope a, i => cC c a i
  | .rangeFunc f _ a b, i => do
    let g ← cG c [] 0 f
    let (_, j) ← cC c a (i + 1)
    let (_, j) ← cC c b j
    pure (.range i g, j)
  | .exit id, i => some (.exit id, i)
  | .ret, i => some (.ret, i)
  | .goto _, i => some (.reg failIL, i)
  | .refuse _, i => some (.reg failIL, i)
/-- the ranges over functions, in their order -/
def ranges : Code → List (Array Tmp × Code × Code)
  | .seq a b => ranges a ++ ranges b
  | .cond _ a b => ranges a ++ ranges b
  | .block _ a => ranges a
  | .loop a => ranges a
  | .scope a => ranges a
  | .rangeFunc _ ps a b => (ps, a, b) :: (ranges a ++ ranges b)
  | _ => []
/-- the round's two pieces, each by itself: the ranges within are not numbered again (none is entered in a round) -/
noncomputable def cRF (c : Ct) (x : Array Tmp × Code × Code) : Option RF := do
  let (a, _) ← cC c x.2.1 0
  let (b, _) ← cC c x.2.2 0
  pure ⟨x.1.toList.map (slotP c.esc), a, b⟩
noncomputable def cRFs (c : Ct) : List (Array Tmp × Code × Code) → Option (List RF)
  | [] => some []
  | x :: l => do pure ((← cRF c x) :: (← cRFs c l))
noncomputable def cRes (c : Ct) : List ResultVar → Option (List RG)
  | [] => some []
  | .tmp t :: l => do pure (.val (← cG c [] 0 (.tmp t)) :: (← cRes c l))
  | .cell a t :: l => do
    let g ← cG c [] 0 (.tmp a)
    let (s, ag) ← tkind c.P t
    if ag then pure (.cellN s g :: (← cRes c l)) else if s = 1 then pure (.cell1 g :: (← cRes c l)) else none
/-- in a block of one such, a variable of a type lies there -/
def lies (P : Program) (u e : TypeId) (off s : Nat) : Bool := liesAt P P.depth e 1 off u 1 && (P.cellsOf e == s)
/-- how a program is worked out: what is known of its types, its flat types, each function's slots and young places -/
structure Cw where
  ty : Ty
  lies : TypeId → TypeId → Nat → Nat → Bool
  flat : List (TypeId × List Nat)
  esc : Nat → List Nat
  loc : Nat → List Nat
  ng : Nat → Bool
noncomputable def cF (w : Cw) (f : Nat) (fn : Func) : Option FI :=
  match fn.body with
  | none => none
  | some body => do
    let c : Ct := ⟨w.ty, w.lies, w.flat, w.esc f, w.loc f, fn.ntmps, w.ng, #[]⟩
    if (w.esc f).all (· < fn.ntmps) && fn.params.size + fn.nfree ≤ fn.ntmps then
      let (ct, _) ← cC c body 0
      pure ⟨(List.range (fn.params.size + fn.nfree)).map (slotP (w.esc f)), ct, ← cRes c fn.results.toList, ← cRFs c (ranges body)⟩
    else none
end Go.Ab
end
section
namespace Go.Ab
/-! ### what the bodies do not say -/
def isI64 : IntKind → Bool | .i64 => true | _ => false
noncomputable def idxB (c : Nat) : List UInt8 → Nat → Int := List.rec (fun _ => .negSucc 0) (fun b _ ih n => Bool.rec (ih (Nat.succ n)) (.ofNat n) (Nat.beq b.toNat c))
noncomputable def cntB (c : Nat) : List UInt8 → Nat := List.rec 0 (fun b _ ih => Bool.rec ih (Nat.succ ih) (Nat.beq b.toNat c))
noncomputable def xNoEscape (args : List Value) (h : Hp) (k : KV) : Bool := match args with | [x] => k x h | _ => ff 300
noncomputable def xIndexByte (args : List Value) (h : Hp) (k : KV) : Bool := match args with | [.string ⟨⟨l⟩⟩, .int .u8 (.ofNat c)] => Bool.rec (ff 301) (k (.int .i64 (idxB c l 0)) h) (Nat.ble c 255) | _ => ff 301
noncomputable def xCount (args : List Value) (h : Hp) (k : KV) : Bool := match args with | [.string ⟨⟨l⟩⟩, .int .u8 (.ofNat c)] => Bool.rec (ff 302) (k (.int .i64 (.ofNat (cntB c l))) h) (Nat.ble c 255) | _ => ff 302
noncomputable def xMake (el : TypeId) (args : List Value) (h : Hp) (k : KV) : Bool := match args with
    | [.int .i64 (.ofNat n)] => Bool.rec (ff 304) (h.newC ⟨.lf, n, 1, el, none⟩ (fun b h' => k (.slice (some ⟨b, 0, none⟩) n (Nat.mul 2 n)) h')) (Nat.ble n 1000000)
    | _ => ff 303
noncomputable def xLoad (args : List Value) (h : Hp) (k : KV) : Bool := match args with | [.pointer (some a)] => load1 h a (fun v => vInt v (fun kd n => Bool.rec (ff 306) (k (.int .i64 n) h) (isI64 kd)) (ff 306)) | _ => ff 305
noncomputable def xAdd (args : List Value) (h : Hp) (k : KV) : Bool := match args with
    | [.pointer (some a), .int .i64 d] => load1 h a (fun v => vInt v (fun kd x => Bool.rec (ff 307) (storeC h a 1 [.int .i64 (wr .i64 (iadd x d))] (fun h' => k (.int .i64 (wr .i64 (iadd x d))) h')) (isI64 kd)) (ff 307))
    | _ => ff 308
/-! ### maps.Copy: keys that are strings, elements of s cells; none is in both -/
def entPair (x : Value × Value × Nat) : Value × Value := (x.1, x.2.1)
noncomputable def entsU (o : AObj) (k : List (Value × Value) → Bool) : Bool := objM 312 o (fun es _ => k (es.map entPair)) k
noncomputable def srcOk (s clock : Nat) (k : Bool) : List (Value × Value × Nat) → Nat → Bool :=
  List.rec (fun lo => Bool.rec (ff 320) k (Nat.ble lo clock)) (fun x _ ih lo => vStr x.1 (fun _ => vAgg x.2.1 (fun vs => lenIs 321 s vs (Bool.rec (ff 322) (ih (Nat.succ x.2.2)) (Nat.ble lo x.2.2))) (ff 323)) (ff 323))
noncomputable def notIn (s : List UInt8) (k : Bool) : List (Value × Value) → Bool := List.rec k (fun y _ ih => vStr y.1 (fun t => Bool.rec ih (ff 324) (bytesEq s t.data.toList)) (ff 324))
noncomputable def disj (ed : List (Value × Value)) (k : Bool) : List (Value × Value × Nat) → Bool := List.rec k (fun x _ ih => vStr x.1 (fun s => notIn s.data.toList ih ed) (ff 325))
noncomputable def appU (k : List (Value × Value) → Bool) : List (Value × Value × Nat) → List (Value × Value) → Bool := List.rec (fun acc => k acc) (fun x _ ih acc => ih ((x.1, x.2.1) :: acc))
noncomputable def copyK (s d : Nat) (h : Hp) (k : KV) (od : AObj) (es : List (Value × Value × Nat)) (clock : Nat) : Bool :=
  entsU od (fun ed => srcOk s clock (disj ed (appU (fun r => h.setObj d (.amapU r) (fun h' => k (.tuple #[]) h')) es ed) es) es 0)
noncomputable def sCopy (s : Nat) (args : List Value) (h : Hp) (k : KV) : Bool := match args with
  | [.map (some d), .map (some r)] => Bool.rec (h.obj d (fun od => h.obj r (fun os => objM 317 os (fun es clock => copyK s d h k od es clock) (fun _ => ff 318)))) (ff 319) (Nat.beq d r)
  | _ => ff 316
/-! ### errors.As: no error; an error of a struct of one number, at its own type -/
noncomputable def sAs (tv tp : TypeId) (args : List Value) (h : Hp) (k : KV) : Bool := match args with
  | [.nilIface, _] => k (.bool false) h
  | [.iface t (.agg ⟨[.int kd n]⟩), .iface p (.pointer (some a))] => Bool.rec (ff 315) (load1 h a (fun _ => storeC h a 1 [.int kd n] (fun h' => k (.bool true) h'))) (Bool.rec false (Nat.beq p tp) (Nat.beq t tv))
  | _ => ff 315
end Go.Ab
end
section
namespace Go.Ab
/-! ### short words for what stands often -/
noncomputable def i0 : G := gC (.int .i64 (.ofNat 0))
noncomputable def i1 : G := gC (.int .i64 (.ofNat 1))
noncomputable def i2 : G := gC (.int .i64 (.ofNat 2))
noncomputable def i3 : G := gC (.int .i64 (.ofNat 3))
noncomputable def fT (n : Nat) : IL := .fin (.cons (pT (pth n)) g0 .nil)
noncomputable def gt (n : Nat) : G := gT (pth n)
/-! ### what DeskKnown meets besides -/
noncomputable def isU32 : IntKind → Bool := fun k => match k with | .u32 => true | _ => false
noncomputable def isI32 : IntKind → Bool := fun k => match k with | .i32 => true | _ => false
noncomputable def isNat (m : Nat) (z : Int) : Bool := match z with | .ofNat n => Nat.beq n m | .negSucc _ => false
noncomputable def xLoad32 (args : List Value) (h : Hp) (k : KV) : Bool := match args with | [.pointer (some a)] => load1 h a (fun v => vInt v (fun kd n => Bool.rec (ff 306) (k (.int .u32 n) h) (isU32 kd)) (ff 306)) | _ => ff 305
noncomputable def noFz (fz : Option Nat) (k : Bool) : Bool := Option.rec k (fun _ => ff 331) fz
/-- sync.Once, not yet done: what it is given is called -/
noncomputable def xSlow (cl : Cl) (g : Nat) (args : List Value) (h : Hp) (k : KV) : Bool := match args with
  | [.pointer (some a), .func (.func f) ⟨[]⟩ ⟨[c]⟩] => Bool.rec (ff 340) (load1 h a (fun d => vInt d (fun kd n => Bool.rec (ff 341) (load1 h (addrAdd a 1) (fun s => vInt s (fun ks j => Bool.rec (ff 342)
      (storeC h (addrAdd a 1) 1 [.int .i32 (.ofNat 1)] (fun h1 => cl (.fn g) [c] h1 (fun _ h2 =>
        load1 h2 (addrAdd a 1) (fun s2 => vInt s2 (fun ks2 j2 => Bool.rec (ff 343)
          (load1 h2 a (fun _ => storeC h2 a 1 [.int .u32 (.ofNat 1)] (fun h3 => storeC h3 (addrAdd a 1) 1 [.int .i32 (.ofNat 0)] (fun h4 => k (.tuple #[]) h4)))) (Bool.rec false (isNat 1 j2) (isI32 ks2))) (ff 344)))))
      (Bool.rec false (isNat 0 j) (isI32 ks))) (ff 345))) (Bool.rec false (isNat 0 n) (isU32 kd))) (ff 346))) (Nat.beq f g)
  | _ => ff 347
/-- copy, as oCopy has it -/
noncomputable def copyE (size : Nat) (h : Hp) (d s : Value) (k : KV) : Bool := lenOf s (fun n => vSl d (fun a dl _ =>
    firstC h size (Nat.min n dl) s (fun cs => Option.rec (k (goInt (Nat.min n dl)) h) (fun a => storeCh size cs h a (fun h' => k (goInt (Nat.min n dl)) h')) a)) (ff 76))
noncomputable def both (x y : Bool) : Bool := Bool.rec (ff 352) y x
/-- slices.Insert of one, at the front: into none; into one that may have room -/
noncomputable def xIns (cl : Cl) (f : Nat) (args : List Value) (h : Hp) (k : KV) : Bool := match args with
  | [.slice none n c, i, v] => cl (.fn f) [.slice none n c, i, v] h k
  | [.slice (some a) n c, .int .i64 (.ofNat z), .slice (some b) m cv] =>
    both (Nat.beq n 1) (both (Nat.beq c 2) (both (Nat.beq z 0) (both (Nat.beq m 1) (both (Bool.rec true false (Nat.beq a.block b.block)) (both (Bool.rec true false (Nat.ble yb a.block))
      (h.cells b.block (fun cb => noFz cb.fz
        (both (cl (.fn f) [.slice (some a) 1 3, .int .i64 (.ofNat 0), .slice (some b) 1 cv] h k)
          (h.t.mod (fun ca kk => both (Nat.beq a.off 0) (both (Nat.beq ca.n 1) (both (Nat.beq ca.s 2) (kk ⟨ca.t, 2, ca.s, ca.e, ca.fz⟩)))) (pth a.block) (fun t =>
            copyE 2 ⟨h.y, t, h.o, h.ny, h.nt, h.no⟩ (.slice (some (addrAdd a 2)) 1 2) (.slice (some a) 2 4) (fun _ h2 =>
              copyE 2 h2 (.slice (some a) 2 4) (.slice (some b) 1 cv) (fun _ h3 => k (.slice (some a) 2 4) h3)))))) (fun _ _ _ => ff 335)))))))
  | _ => ff 354
end Go.Ab
end
