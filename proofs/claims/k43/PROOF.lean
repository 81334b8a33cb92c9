import PyProof.Rows.All
import Wide.All
import OpenK.AllK
import Wide.FinOn
import HandS.ForMost
import HandS.Exc
import HandS.WordsExc
import HandS.Lambda
import HandS.Style
import HandS.ExcInit
import KE.KExcSuper
import KE.KSuper
import HandS.HeadWalk
import HandS.TryMany
import HandS.ExcField
import HandS.ExcIs
import HandS.EndTab
import HandS.HeadHook4
import HandS.IsInst
import HandS.TupAny
import HandS.TupMul
import HandS.SortInts
import HandS.AnyAll
import KE.KTupSum
import PyProof.ReprRoads
import KE.DataFind
import HandS.Head0
import HandS.Head1
import HandS.Head2
import KE.KxField
import PyProof.StrLawsRepr
import KE.KStateDown
import HandS.HeadEnd
import PySem.Challenge.RW_saidatonce_k43_whole_best_and_worst_cuts
set_option Elab.async false
set_option linter.all false
set_option maxRecDepth 100000
/-! M1: values, states, outcomes; the plain functions that a program's text becomes. -/
namespace Mn
open PySem

/-- a value that never changes -/
inductive D where
  | non | bl (b : Bool) | int (i : Int) | str (x : Str)
  | tup (xs : List D) | lst (xs : List D)
  /-- a def or class of the text, by its number -/
  | con (n : Nat)
  /-- a built-in type -/
  | ty (n : String)
  /-- an instance that no longer changes: its class's number, its fields -/
  | obj (c : Nat) (xs : List D)
  /-- a tuple of which its methods may be asked -/
  | tun (xs : List D)

/-- a value at work: a plain one, a list of this def's own, an object that all share, the caught error, the given thunk -/
inductive W where
  | d (x : D) | l (n : Nat) | g (n : Nat) | e (c : Nat) (xs : List D) | t
inductive Cell where
  | m (ws : List W) | f (ds : List D) | i (c : Nat) (ws : List W)
structure Sx where
  e : List (Option W)
  l : List Cell
  g : List Cell
structure Exn where
  c : Nat
  xs : List D
inductive Out (α : Type) where
  | ok (a : α) (s : Sx) | exc (x : Exn) (s : Sx) | stuck
abbrev M (α : Type) := Sx → Out α
inductive Fl where
  | nx | rt (w : W) | bk | ct
/-- a call's outcome -/
inductive Fo where
  | ok (w : W) (g : List Cell) | exc (x : Exn) (g : List Cell) | stuck
abbrev Fn := List W → List Cell → Fo

def nth {α : Type} : List α → Nat → Option α
  | [], _ => none
  | x :: _, 0 => some x
  | _ :: r, n + 1 => nth r n
theorem nth_eq {α : Type} : ∀ (l : List α) (n : Nat), nth l n = l[n]?
  | [], _ => by simp [nth]
  | x :: _, 0 => by simp [nth]
  | _ :: r, n + 1 => by simp [nth, nth_eq r n]
def upAt {α : Type} : List α → Nat → α → List α
  | [], _, _ => []
  | _ :: r, 0, y => y :: r
  | x :: r, n + 1, y => x :: upAt r n y
theorem upAt_eq {α : Type} : ∀ (l : List α) (n : Nat) (y : α), upAt l n y = l.set n y
  | [], _, _ => rfl
  | _ :: _, 0, _ => rfl
  | x :: r, n + 1, y => by simp [upAt, upAt_eq r n y]

def pur {α : Type} (a : α) : M α := fun s => .ok a s
def bnd {α β : Type} (f : M α) (k : α → M β) : M β := fun s => match f s with
  | .ok a s1 => k a s1
  | .exc x s1 => .exc x s1
  | .stuck => .stuck
theorem bnd_assoc {α β γ : Type} (f : M α) (k : α → M β) (j : β → M γ) : bnd (bnd f k) j = bnd f fun a => bnd (k a) j := by
  funext s
  unfold bnd
  cases f s <;> rfl
theorem bnd_pur {α β : Type} (a : α) (k : α → M β) : bnd (pur a) k = k a := rfl
theorem bnd_ret {α : Type} (f : M α) : bnd f pur = f := by
  funext s
  unfold bnd
  cases f s <;> rfl
/-- out of an option -/
def opt {α : Type} (o : Option α) : M α := fun s => match o with
  | some a => .ok a s
  | none => .stuck

def allD : List W → Option (List D)
  | [] => some []
  | .d x :: r => match allD r with | some xs => some (x :: xs) | none => none
  | _ :: _ => none
/-- but a tuple -/
def nrm : D → D
  | .tun xs => .tup xs
  | x => x
/-- what a value reads as now -/
def pk (s : Sx) : W → Option D
  | .d x => some (nrm x)
  | .l n => match nth s.l n with
    | some (.m ws) => match allD ws with | some ds => some (.lst ds) | none => none
    | some (.f ds) => some (.lst ds)
    | _ => none
  | .g n => match nth s.g n with
    | some (.m ws) => match allD ws with | some ds => some (.lst ds) | none => none
    | _ => none
  | _ => none
/-- from here on it never changes -/
def toD (w : W) : M D := fun s => match w with
  | .d x => .ok x s
  | .l n => match nth s.l n with
    | some (.m ws) => match allD ws with | some ds => .ok (.lst ds) { s with l := upAt s.l n (.f ds) } | none => .stuck
    | some (.f ds) => .ok (.lst ds) s
    | _ => .stuck
  | _ => .stuck
def toDs : List W → M (List D)
  | [] => pur []
  | w :: r => bnd (toD w) fun x => bnd (toDs r) fun xs => pur (x :: xs)
/-- what may be handed to a def, or back -/
def toA (w : W) : M W := fun s => match w with
  | .g n => .ok (.g n) s
  | w => bnd (toD w) (fun x => pur (.d x)) s
def toAs : List W → M (List W)
  | [] => pur []
  | w :: r => bnd (toA w) fun x => bnd (toAs r) fun xs => pur (x :: xs)

/-! ### expressions -/
def vr (i : Nat) : M W := fun s => match nth s.e i with | some (some w) => .ok w s | _ => .stuck
def cs (x : D) : M W := pur (.d x)
def u1 (o : D → Option D) (a : M W) : M W := bnd a fun w s => match pk s w with
  | some x => match o x with | some z => .ok (.d z) s | none => .stuck
  | none => .stuck
def b2 (o : D → D → Option D) (a b : M W) : M W := bnd a fun w => bnd b fun v s => match pk s w with
  | some x => match pk s v with
    | some y => match o x y with | some z => .ok (.d z) s | none => .stuck
    | none => .stuck
  | none => .stuck
def args : List (M W) → M (List W)
  | [] => pur []
  | a :: r => bnd a fun x => bnd (args r) fun xs => pur (x :: xs)
def pks (s : Sx) : List W → Option (List D)
  | [] => some []
  | w :: r => match pk s w with
    | some x => match pks s r with | some xs => some (x :: xs) | none => none
    | none => none
/-- a built-in called -/
def bi (o : List D → Option D) (a : M (List W)) : M W := bnd a fun ws s => match pks s ws with
  | some xs => match o xs with | some z => .ok (.d z) s | none => .stuck
  | none => .stuck
/-- .. that makes a list -/
def biL (o : List D → Option (List D)) (a : M (List W)) : M (List W) := bnd a fun ws s => match pks s ws with
  | some xs => match o xs with | some z => .ok (z.map W.d) s | none => .stuck
  | none => .stuck
def b2L (o : D → D → Option (List D)) (a b : M W) : M (List W) := bnd a fun w => bnd b fun v s => match pk s w with
  | some x => match pk s v with
    | some y => match o x y with | some z => .ok (z.map W.d) s | none => .stuck
    | none => .stuck
  | none => .stuck
def bool (w : W) : M Bool := fun s => match w with | .d (.bl b) => .ok b s | _ => .stuck
/-- an expression that gives a bool, as a test -/
def tst (a : M W) : M Bool := bnd a bool
def andT (a b : M Bool) : M Bool := bnd a fun c => if c = true then b else pur false
def orT (a b : M Bool) : M Bool := bnd a fun c => if c = true then pur true else b
def notT (a : M Bool) : M Bool := bnd a fun c => pur (!c)
def andV (a b : M W) : M W := bnd (tst a) fun c => if c = true then b else pur (.d (.bl false))
def orV (a b : M W) : M W := bnd (tst a) fun c => if c = true then pur (.d (.bl true)) else b
def notV (a : M W) : M W := bnd (tst a) fun c => pur (.d (.bl (!c)))
def ite (t : M Bool) (a b : M W) : M W := bnd t fun c => if c = true then a else b
def fits {α : Type} (xs : List α) : M Unit := fun s => if xs.length ≤ 16777216 then .ok () s else .stuck
def tup (a : M (List W)) : M W := bnd a fun ws => bnd (fits ws) fun _ => bnd (toDs ws) fun xs => pur (.d (.tup xs))
/-- [a, b, ..] -/
def dsp (a : M (List W)) : M (List W) := bnd a fun ws => bnd (fits ws) fun _ => pur ws
/-- a new list: not changed any more | this def's own | shared -/
def frz (f : M (List W)) : M W := bnd f fun ws => bnd (toDs ws) fun ds => pur (.d (.lst ds))
def own (f : M (List W)) : M W := bnd f fun ws s => .ok (.l s.l.length) { s with l := s.l ++ [.m ws] }
def noL : List W → Bool
  | [] => true
  | .d _ :: r => noL r
  | .g _ :: r => noL r
  | _ :: _ => false
def glo (f : M (List W)) : M W := bnd f fun ws s => if noL ws = true then .ok (.g s.g.length) { s with g := s.g ++ [.m ws] } else .stuck
/-- the part of a list that may change -/
def lstAt (s : Sx) : W → Option (List W)
  | .l n => match nth s.l n with | some (.m ws) => some ws | _ => none
  | .g n => match nth s.g n with | some (.m ws) => some ws | _ => none
  | _ => none
def lstPut (w : W) (ws : List W) (s : Sx) : Option Sx := match w with
  | .l n => some { s with l := upAt s.l n (.m ws) }
  | .g n => if noL ws = true then some { s with g := upAt s.g n (.m ws) } else none
  | _ => none
/-- how a list takes an item: as a plain value, but for objects that all share -/
def itm (w : W) : M W := toA w

/-- it is a list that may change -/
def chkL (w : W) : M Unit := fun s => match lstAt s w with | some _ => .ok () s | none => .stuck
/-- l.append(a) -/
def app (o a : M W) : M W := bnd o fun w => bnd (chkL w) fun _ => bnd a fun v => bnd (itm v) fun x s => match lstAt s w with
  | some ws => if ws.length < 16777216 then (match lstPut w (ws ++ [x]) s with | some s1 => .ok (.d .non) s1 | none => .stuck) else .stuck
  | none => .stuck
/-- l.pop() -/
def pop (o : M W) : M W := bnd o fun w s => match lstAt s w with
  | some ws => match ws.getLast? with
    | some x => match lstPut w ws.dropLast s with | some s1 => .ok x s1 | none => .stuck
    | none => .stuck
  | none => .stuck
/-- the place that an index means -/
def ixd (n : Nat) (i : Int) : Option Nat := if 0 ≤ i then (if i < n then some i.toNat else none) else if -(n : Int) ≤ i then some (i + n).toNat else none
def popAt (o a : M W) : M W := bnd o fun w => bnd (chkL w) fun _ => bnd a fun v s => match v with
  | .d (.int i) => match lstAt s w with
    | some ws => if ws.length ≤ 16777216 then (match ixd ws.length i with
      | some k => match nth ws k with
        | some x => match lstPut w (ws.eraseIdx k) s with | some s1 => .ok x s1 | none => .stuck
        | none => .stuck
      | none => .stuck) else .stuck
    | none => .stuck
  | _ => .stuck
/-- o[i] -/
def items (s : Sx) : W → Option (List W)
  | .d (.tup xs) => some (xs.map W.d)
  | .d (.tun xs) => some (xs.map W.d)
  | .d (.lst xs) => some (xs.map W.d)
  | .l n => match nth s.l n with | some (.m ws) => some ws | some (.f ds) => some (ds.map W.d) | _ => none
  | .g n => match nth s.g n with | some (.m ws) => some ws | _ => none
  | _ => none
def sub (o i : M W) : M W := bnd o fun w => bnd i fun v s => match v with
  | .d (.int k) => match items s w with
    | some ws => match ixd ws.length k with
      | some j => match nth ws j with | some x => .ok x s | none => .stuck
      | none => .stuck
    | none => .stuck
  | _ => .stuck

/-! ### targets -/
abbrev Tg := W → Sx → Option Sx
def tN (i : Nat) : Tg := fun w s => some { s with e := upAt s.e i (some w) }
def tGo : List Tg → List D → Sx → Option Sx
  | [], [], s => some s
  | t :: ts, x :: xs, s => match t (.d x) s with | some s1 => tGo ts xs s1 | none => none
  | _, _, _ => none
def tT (ts : List Tg) : Tg := fun w s => match w with
  | .d (.tup xs) => tGo ts xs s
  | .d (.tun xs) => tGo ts xs s
  | _ => none
def asg (g : Tg) (w : W) : M Unit := fun s => match g w s with | some s1 => .ok () s1 | none => .stuck

/-! ### comprehensions -/
def wip (e : List (Option W)) : List Nat → List (Option W)
  | [] => e
  | v :: vs => upAt (wip e vs) v none
/-- one clause over items, from the names as they stand: the items of the new list -/
def lcGo (e0 : List (Option W)) (g : Tg) (c : M Bool) (f : M W) : List D → List D → M (List D)
  | [], acc => pur acc
  | x :: xs, acc => fun s => match g (.d x) { s with e := e0 } with
    | none => .stuck
    | some s1 => match c s1 with
      | .ok b s2 => if b = true then (match bnd f toD s2 with
          | .ok y s3 => if acc.length < 16777216 then lcGo e0 g c f xs (acc ++ [y]) s3 else .stuck
          | _ => .stuck) else lcGo e0 g c f xs acc s2
      | _ => .stuck
def lc (vs : List Nat) (it : M (List D)) (g : Tg) (c : M Bool) (f : M W) : M (List W) := bnd it fun xs s =>
  match lcGo (wip s.e vs) g c f xs [] s with
  | .ok ys s1 => .ok (ys.map W.d) { s1 with e := s.e }
  | _ => .stuck
/-- two clauses -/
def lcGo2 (e0 : List (Option W)) (g : Tg) (c : M Bool) (vs1 : List Nat) (it1 : M (List D)) (g1 : Tg) (c1 : M Bool) (f : M W) : List D → List D → M (List D)
  | [], acc => pur acc
  | x :: xs, acc => fun s => match g (.d x) { s with e := e0 } with
    | none => .stuck
    | some s1 => match c s1 with
      | .ok b s2 => if b = true then (match it1 s2 with
          | .ok ys s3 => match lcGo (wip s3.e vs1) g1 c1 f ys acc s3 with
            | .ok acc' s4 => lcGo2 e0 g c vs1 it1 g1 c1 f xs acc' s4
            | _ => .stuck
          | _ => .stuck) else lcGo2 e0 g c vs1 it1 g1 c1 f xs acc s2
      | _ => .stuck
def lc2 (vs : List Nat) (it : M (List D)) (g : Tg) (c : M Bool) (vs1 : List Nat) (it1 : M (List D)) (g1 : Tg) (c1 : M Bool) (f : M W) : M (List W) := bnd it fun xs s =>
  match lcGo2 (wip s.e vs) g c vs1 it1 g1 c1 f xs [] s with
  | .ok ys s1 => .ok (ys.map W.d) { s1 with e := s.e }
  | _ => .stuck

/-! ### what is walked -/
def seqD : D → Option (List D)
  | .tup xs => some xs
  | .tun xs => some xs
  | .lst xs => some xs
  | _ => none
/-- a list or tuple: it stays as it is from here on -/
def itS (a : M W) : M (List D) := bnd a fun w => bnd (toD w) fun x => opt (seqD x)
def upTo (lo : Int) : Nat → List D
  | 0 => []
  | n + 1 => .int lo :: upTo (lo + 1) n
def small (i : Int) : Bool := decide (-(2 ^ 62) ≤ i) && decide (i < 2 ^ 62)
def rng1 : List D → Option (List D)
  | [.int j] => if small j = true then some (upTo 0 j.toNat) else none
  | _ => none
def rng2 : List D → Option (List D)
  | [.int i, .int j] => if (small i && small j) = true then some (upTo i (j - i).toNat) else none
  | _ => none
def itR (o : List D → Option (List D)) (a : M (List W)) : M (List D) := bnd a fun ws s => match pks s ws with
  | some xs => match o xs with | some z => .ok z s | none => .stuck
  | none => .stuck
def numbered (k : Int) : List D → List D
  | [] => []
  | x :: r => .tup [.int k, x] :: numbered (k + 1) r
def paired : List D → List D → List D
  | x :: xs, y :: ys => .tup [x, y] :: paired xs ys
  | _, _ => []

/-! ### statements -/
abbrev St := M Fl
def skip : St := pur .nx
def seq (a b : St) : St := bnd a fun f => match f with | .nx => b | f => pur f
def ex (a : M W) : St := bnd a fun _ => pur .nx
def rt (a : M W) : St := bnd a fun w => pur (.rt w)
def ifS (t : M Bool) (a b : St) : St := bnd t fun c => if c = true then a else b
def st (g : Tg) (a : M W) : St := bnd a fun w => bnd (asg g w) fun _ => pur .nx
/-- x, y = a, b -/
def par (is : List Nat) (a : M (List W)) : St := bnd a fun ws s => if ws.length = is.length then .ok .nx { s with e := (is.zip ws).foldl (fun e p => upAt e p.1 (some p.2)) s.e } else .stuck
/-- o[i] = a -/
def setS (a o i : M W) : St := bnd a fun w0 => bnd (itm w0) fun x => bnd o fun w => bnd i fun v s => match v with
  | .d (.int k) => match lstAt s w with
    | some ws => match ixd ws.length k with
      | some j => match lstPut w (upAt ws j x) s with | some s1 => .ok .nx s1 | none => .stuck
      | none => .stuck
    | none => .stuck
  | _ => .stuck
def loop (g : Tg) (b : St) : List D → St
  | [] => pur .nx
  | x :: xs => bnd (asg g (.d x)) fun _ => bnd b fun f => match f with
    | .nx => loop g b xs
    | .ct => loop g b xs
    | .bk => pur .nx
    | .rt w => pur (.rt w)
def forS (it : M (List D)) (g : Tg) (b : St) : St := bnd it fun xs => loop g b xs
def whl (t : M Bool) (b : St) : Nat → St
  | 0 => fun _ => .stuck
  | n + 1 => bnd t fun c => if c = true then (bnd b fun f => match f with
    | .nx => whl t b n
    | .ct => whl t b n
    | .bk => pur .nx
    | .rt w => pur (.rt w)) else pur .nx

/-! ### defs -/
def fo : Out Fl → Fo
  | .ok .nx s => .ok (.d .non) s.g
  | .ok (.rt w) s => match toA w s with | .ok v s1 => .ok v s1.g | _ => .stuck
  | .exc x s => .exc x s.g
  | _ => .stuck
/-- a def with so many names, the parameters first -/
def fn (n p : Nat) (b : St) : Fn := fun ws g => if ws.length = p then fo (b ⟨ws.map some ++ List.replicate (n - p) none, [], g⟩) else .stuck
def cl (F : Fn) (a : M (List W)) : M W := bnd a fun ws => bnd (toAs ws) fun vs s => match F vs s.g with
  | .ok w g => .ok w { s with g := g }
  | .exc x g => .exc x { s with g := g }
  | .stuck => .stuck
end Mn
set_option Elab.async false
set_option linter.all false
set_option maxRecDepth 100000
set_option maxHeartbeats 1000000
/-! M2: how the plain values lie in the heap; what a plain function says of a piece of the text. -/
namespace Mn
open PySem PySem.Spec PyProof.Rows L2

/-- a thunk: where it stands, what lay there when it was made, what it does -/
structure Th where
  a : Addr
  be : List Addr
  F : Hp
  T : List Cell → Fo
/-- what stays the same through a whole law (ex: the caught error; th: the thunk that was given) -/
structure Gx where
  P : Program
  w : World
  K : PySem.W.Frag
  mg : Str → Option Value
  base : Heap
  T : List (Addr × Str)
  cn : Nat → Addr
  fl : Nat → List Str
  ex : Option (Addr × Nat × Addr) := none
  th : Option Th := none
/-- how the parts of a state lie: own lists, shared objects, all that never changes, the caught error -/
structure Wd where
  al : List Addr
  be : List Addr
  F : Hp

def Le (F H : Hp) : Prop := ∀ a o, F a = some o → H a = some o
theorem Le.refl (F : Hp) : Le F F := fun _ _ h => h
theorem Le.trans {F H J : Hp} (a : Le F H) (b : Le H J) : Le F J := fun x o h => b x o (a x o h)
theorem Le.rd {F H : Hp} (l : Le F H) {a : Addr} {u : HO} (h : Rd F a u) : Rd H a u := by
  rcases h with h | ⟨o, h⟩
  · exact .inl (l _ _ h)
  · exact .inr ⟨o, l _ _ h⟩
theorem Le.sqL {K : PySem.W.Frag} {F H : Hp} (l : Le F H) {a : Addr} {xs : List V} (h : SqL K F a xs) : SqL K H a xs := h.imp l.rd id
theorem Le.sqT {K : PySem.W.Frag} {F H : Hp} (l : Le F H) {a : Addr} {xs : List V} (h : SqT K F a xs) : SqT K H a xs := h.imp l.rd id

/-- an instance's or an error's fields -/
def Flds (ns : List Str) (vs : List V) (fs : List (Str × V)) : Prop := vs.length = ns.length ∧ fs.length ≤ 900 ∧ ∀ f, fs.lookup f = (ns.zip vs).lookup f

mutual
/-- a plain value at v -/
def RD (G : Gx) (F : Hp) : D → V → Prop
  | .non, v => v = .non
  | .bl b, v => v = .bl b
  | .int i, v => v = .int i
  | .str x, v => v = .str x
  | .tup xs, v => ∃ a vs, v = .ref a ∧ SqT G.K F a vs ∧ RDs G F xs vs
  | .lst xs, v => ∃ a vs, v = .ref a ∧ SqL G.K F a vs ∧ RDs G F xs vs
  | .con n, v => v = .ref (G.cn n)
  | .ty n, v => v = .ty n
  | .obj c xs, v => ∃ a dx fs vs, v = .ref a ∧ F a = some (.ins (G.cn c) dx fs) ∧ F dx = some (.own a) ∧ Flds (G.fl c) vs fs ∧ RDs G F xs vs
  | .tun xs, v => ∃ a vs o, v = .ref a ∧ F a = some (.frz o (.tup vs)) ∧ o.dict = none ∧ RDs G F xs vs
def RDs (G : Gx) (F : Hp) : List D → List V → Prop
  | [], vs => vs = []
  | x :: xs, vs => ∃ v r, vs = v :: r ∧ RD G F x v ∧ RDs G F xs r
end
mutual
theorem RD.mono {G : Gx} {F F' : Hp} (l : Le F F') : ∀ (x : D) (v : V), RD G F x v → RD G F' x v
  | .non, v, h => h
  | .bl _, v, h => h
  | .int _, v, h => h
  | .str _, v, h => h
  | .tup xs, v, h => by
    simp only [RD] at h ⊢
    obtain ⟨a, vs, e, s, r⟩ := h
    exact ⟨a, vs, e, l.sqT s, RDs.mono l xs vs r⟩
  | .lst xs, v, h => by
    simp only [RD] at h ⊢
    obtain ⟨a, vs, e, s, r⟩ := h
    exact ⟨a, vs, e, l.sqL s, RDs.mono l xs vs r⟩
  | .con _, v, h => h
  | .ty _, v, h => h
  | .obj c xs, v, h => by
    simp only [RD] at h ⊢
    obtain ⟨a, dx, fs, vs, e, s, s2, z, r⟩ := h
    exact ⟨a, dx, fs, vs, e, l _ _ s, l _ _ s2, z, RDs.mono l xs vs r⟩
  | .tun xs, v, h => by
    simp only [RD] at h ⊢
    obtain ⟨a, vs, o, e, s, d, r⟩ := h
    exact ⟨a, vs, o, e, l _ _ s, d, RDs.mono l xs vs r⟩
theorem RDs.mono {G : Gx} {F F' : Hp} (l : Le F F') : ∀ (xs : List D) (vs : List V), RDs G F xs vs → RDs G F' xs vs
  | [], vs, h => h
  | x :: xs, vs, h => by
    simp only [RDs] at h ⊢
    obtain ⟨v, r, e, a, b⟩ := h
    exact ⟨v, r, e, RD.mono l x v a, RDs.mono l xs r b⟩
end
theorem RDs.length {G : Gx} {F : Hp} : ∀ {xs : List D} {vs : List V}, RDs G F xs vs → vs.length = xs.length
  | [], vs, h => by simp only [RDs] at h; subst h; rfl
  | x :: xs, vs, h => by
    simp only [RDs] at h
    obtain ⟨v, r, e, a, b⟩ := h
    subst e
    simp [RDs.length b]
theorem RDs.nil {G : Gx} {F : Hp} : RDs G F [] [] := by simp only [RDs]
theorem RDs.cons {G : Gx} {F : Hp} {x : D} {xs : List D} {v : V} {vs : List V} (a : RD G F x v) (b : RDs G F xs vs) : RDs G F (x :: xs) (v :: vs) := by
  simp only [RDs]; exact ⟨v, vs, rfl, a, b⟩
theorem RDs.append {G : Gx} {F : Hp} : ∀ {xs ys : List D} {vs us : List V}, RDs G F xs vs → RDs G F ys us → RDs G F (xs ++ ys) (vs ++ us)
  | [], ys, vs, us, h, k => by simp only [RDs] at h; subst h; exact k
  | x :: xs, ys, vs, us, h, k => by
    simp only [RDs] at h
    obtain ⟨v, r, e, a, b⟩ := h
    subst e
    exact .cons a (.append b k)
theorem RDs.get {G : Gx} {F : Hp} : ∀ {xs : List D} {vs : List V} {i : Nat} {x : D}, RDs G F xs vs → xs[i]? = some x → ∃ v, vs[i]? = some v ∧ RD G F x v
  | [], _, _, _, _, e => by simp at e
  | x :: xs, vs, 0, y, h, e => by
    simp only [RDs] at h
    obtain ⟨v, r, e1, a, b⟩ := h
    subst e1
    simp at e
    subst e
    exact ⟨v, rfl, a⟩
  | x :: xs, vs, i + 1, y, h, e => by
    simp only [RDs] at h
    obtain ⟨v, r, e1, a, b⟩ := h
    subst e1
    obtain ⟨u, e2, k⟩ := RDs.get (i := i) b (by simpa using e)
    exact ⟨u, by simpa using e2, k⟩
theorem RDs.drop {G : Gx} {F : Hp} : ∀ {xs : List D} {vs : List V} (n : Nat), RDs G F xs vs → RDs G F (xs.drop n) (vs.drop n)
  | _, _, 0, h => h
  | [], vs, n + 1, h => by simp only [RDs] at h; subst h; simpa using RDs.nil
  | x :: xs, vs, n + 1, h => by
    simp only [RDs] at h
    obtain ⟨v, r, e1, a, b⟩ := h
    subst e1
    simpa using RDs.drop n b
theorem RDs.take {G : Gx} {F : Hp} : ∀ {xs : List D} {vs : List V} (n : Nat), RDs G F xs vs → RDs G F (xs.take n) (vs.take n)
  | _, _, 0, h => by simpa using RDs.nil
  | [], vs, n + 1, h => by simp only [RDs] at h; subst h; simpa using RDs.nil
  | x :: xs, vs, n + 1, h => by
    simp only [RDs] at h
    obtain ⟨v, r, e1, a, b⟩ := h
    subst e1
    simpa using RDs.cons a (RDs.take n b)
theorem RDs.rev {G : Gx} {F : Hp} : ∀ {xs : List D} {vs : List V}, RDs G F xs vs → RDs G F xs.reverse vs.reverse
  | [], vs, h => by simp only [RDs] at h; subst h; simpa using RDs.nil
  | x :: xs, vs, h => by
    simp only [RDs] at h
    obtain ⟨v, r, e1, a, b⟩ := h
    subst e1
    simpa using RDs.append (RDs.rev b) (RDs.cons a RDs.nil)

/-- a value at work at v -/
def RW (G : Gx) (wd : Wd) : W → V → Prop
  | .d x, v => RD G wd.F x v
  | .l n, v => ∃ a, wd.al[n]? = some a ∧ v = .ref a
  | .g n, v => ∃ a, wd.be[n]? = some a ∧ v = .ref a
  | .e c xs, v => ∃ a dd fs vs, v = .ref a ∧ G.ex = some (a, c, dd) ∧ wd.F dd = some (.xd fs) ∧ Flds (G.fl c) vs fs ∧ RDs G wd.F xs vs
  | .t, v => ∃ t, G.th = some t ∧ v = .ref t.a ∧ Le t.F wd.F ∧ ∃ m, wd.be = t.be ++ m
def RWs (G : Gx) (wd : Wd) : List W → List V → Prop
  | [], vs => vs = []
  | x :: xs, vs => ∃ v r, vs = v :: r ∧ RW G wd x v ∧ RWs G wd xs r
/-- one way of lying goes on in another -/
structure Up (wd wd' : Wd) : Prop where
  al : ∃ m, wd'.al = wd.al ++ m
  be : ∃ m, wd'.be = wd.be ++ m
  F : Le wd.F wd'.F
theorem Up.refl (wd : Wd) : Up wd wd := ⟨⟨[], by simp⟩, ⟨[], by simp⟩, Le.refl _⟩
theorem Up.trans {a b c : Wd} (x : Up a b) (y : Up b c) : Up a c := by
  obtain ⟨⟨m1, e1⟩, ⟨n1, f1⟩, l1⟩ := x
  obtain ⟨⟨m2, e2⟩, ⟨n2, f2⟩, l2⟩ := y
  exact ⟨⟨m1 ++ m2, by rw [e2, e1, List.append_assoc]⟩, ⟨n1 ++ n2, by rw [f2, f1, List.append_assoc]⟩, l1.trans l2⟩
theorem at_app {l m : List Addr} {n : Nat} {a : Addr} (h : l[n]? = some a) : (l ++ m)[n]? = some a := by
  obtain ⟨hl, e⟩ := List.getElem?_eq_some_iff.mp h
  rw [List.getElem?_append_left hl]; exact h
theorem RW.mono {G : Gx} {wd wd' : Wd} (u : Up wd wd') {w : W} {v : V} (h : RW G wd w v) : RW G wd' w v := by
  cases w with
  | d x => exact RD.mono u.F x v h
  | l n =>
    obtain ⟨a, e, r⟩ := h
    obtain ⟨m, em⟩ := u.al
    exact ⟨a, by rw [em]; exact at_app e, r⟩
  | g n =>
    obtain ⟨a, e, r⟩ := h
    obtain ⟨m, em⟩ := u.be
    exact ⟨a, by rw [em]; exact at_app e, r⟩
  | e c xs =>
    obtain ⟨a, dd, fs, vs, e1, e2, e3, z, r⟩ := h
    exact ⟨a, dd, fs, vs, e1, e2, u.F _ _ e3, z, RDs.mono u.F _ _ r⟩
  | t =>
    obtain ⟨t, e, r, l, m, em⟩ := h
    obtain ⟨m2, e2⟩ := u.be
    exact ⟨t, e, r, l.trans u.F, m ++ m2, by rw [e2, em, List.append_assoc]⟩
theorem RWs.mono {G : Gx} {wd wd' : Wd} (u : Up wd wd') : ∀ {ws : List W} {vs : List V}, RWs G wd ws vs → RWs G wd' ws vs
  | [], vs, h => h
  | w :: ws, vs, h => by
    simp only [RWs] at h ⊢
    obtain ⟨v, r, e, a, b⟩ := h
    exact ⟨v, r, e, a.mono u, RWs.mono u b⟩
theorem RWs.nil {G : Gx} {wd : Wd} : RWs G wd [] [] := by simp only [RWs]
theorem RWs.cons {G : Gx} {wd : Wd} {x : W} {xs : List W} {v : V} {vs : List V} (a : RW G wd x v) (b : RWs G wd xs vs) : RWs G wd (x :: xs) (v :: vs) := by
  simp only [RWs]; exact ⟨v, vs, rfl, a, b⟩
theorem RWs.length {G : Gx} {wd : Wd} : ∀ {xs : List W} {vs : List V}, RWs G wd xs vs → vs.length = xs.length
  | [], vs, h => by simp only [RWs] at h; subst h; rfl
  | x :: xs, vs, h => by
    simp only [RWs] at h
    obtain ⟨v, r, e, a, b⟩ := h
    subst e
    simp [RWs.length b]
theorem RWs.append {G : Gx} {wd : Wd} : ∀ {xs ys : List W} {vs us : List V}, RWs G wd xs vs → RWs G wd ys us → RWs G wd (xs ++ ys) (vs ++ us)
  | [], ys, vs, us, h, k => by simp only [RWs] at h; subst h; exact k
  | x :: xs, ys, vs, us, h, k => by
    simp only [RWs] at h
    obtain ⟨v, r, e, a, b⟩ := h
    subst e
    exact .cons a (.append b k)
theorem RWs.get {G : Gx} {wd : Wd} : ∀ {xs : List W} {vs : List V} {i : Nat} {x : W}, RWs G wd xs vs → xs[i]? = some x → ∃ v, vs[i]? = some v ∧ RW G wd x v
  | [], _, _, _, _, e => by simp at e
  | x :: xs, vs, 0, y, h, e => by
    simp only [RWs] at h
    obtain ⟨v, r, e1, a, b⟩ := h
    subst e1
    simp at e
    subst e
    exact ⟨v, rfl, a⟩
  | x :: xs, vs, i + 1, y, h, e => by
    simp only [RWs] at h
    obtain ⟨v, r, e1, a, b⟩ := h
    subst e1
    obtain ⟨u, e2, k⟩ := RWs.get (i := i) b (by simpa using e)
    exact ⟨u, by simpa using e2, k⟩
theorem RWs.set {G : Gx} {wd : Wd} {x : W} {v : V} (q : RW G wd x v) : ∀ {xs : List W} {vs : List V} (i : Nat), RWs G wd xs vs → RWs G wd (xs.set i x) (vs.set i v)
  | [], vs, i, h => by simp only [RWs] at h; subst h; simpa using RWs.nil
  | y :: xs, vs, 0, h => by
    simp only [RWs] at h
    obtain ⟨u, r, e1, a, b⟩ := h
    subst e1
    exact .cons q b
  | y :: xs, vs, i + 1, h => by
    simp only [RWs] at h
    obtain ⟨u, r, e1, a, b⟩ := h
    subst e1
    exact .cons a (RWs.set q i b)
theorem RWs.dropLast {G : Gx} {wd : Wd} : ∀ {xs : List W} {vs : List V}, RWs G wd xs vs → RWs G wd xs.dropLast vs.dropLast
  | [], vs, h => by simp only [RWs] at h; subst h; simpa using RWs.nil
  | [x], vs, h => by
    simp only [RWs] at h
    obtain ⟨v, r, e, a, rfl⟩ := h
    subst e
    simpa using RWs.nil
  | x :: y :: xs, vs, h => by
    simp only [RWs] at h
    obtain ⟨v, r, e, a, v2, r2, e2, a2, b⟩ := h
    subst e e2
    have := RWs.dropLast (RWs.cons a2 b)
    simpa using RWs.cons a this
theorem RWs.eraseIdx {G : Gx} {wd : Wd} : ∀ {xs : List W} {vs : List V} (i : Nat), RWs G wd xs vs → RWs G wd (xs.eraseIdx i) (vs.eraseIdx i)
  | [], vs, i, h => by simp only [RWs] at h; subst h; simpa using RWs.nil
  | y :: xs, vs, 0, h => by
    simp only [RWs] at h
    obtain ⟨u, r, e1, a, b⟩ := h
    subst e1
    exact b
  | y :: xs, vs, i + 1, h => by
    simp only [RWs] at h
    obtain ⟨u, r, e1, a, b⟩ := h
    subst e1
    exact .cons a (RWs.eraseIdx i b)
theorem RWs.of_D {G : Gx} {wd : Wd} : ∀ {xs : List D} {vs : List V}, RDs G wd.F xs vs → RWs G wd (xs.map W.d) vs
  | [], vs, h => by simp only [RDs] at h; subst h; exact .nil
  | x :: xs, vs, h => by
    simp only [RDs] at h
    obtain ⟨v, r, e, a, b⟩ := h
    subst e
    exact .cons a (RWs.of_D b)
theorem allD_rel {G : Gx} {wd : Wd} : ∀ {ws : List W} {ds : List D} {vs : List V}, allD ws = some ds → RWs G wd ws vs → RDs G wd.F ds vs
  | [], ds, vs, e, h => by
    simp only [allD] at e
    cases e
    simp only [RWs] at h
    subst h
    exact .nil
  | .d x :: r, ds, vs, e, h => by
    simp only [allD] at e
    cases q : allD r with
    | none => rw [q] at e; cases e
    | some xs =>
      rw [q] at e
      cases e
      simp only [RWs] at h
      obtain ⟨v, r', e1, a, b⟩ := h
      subst e1
      exact .cons a (allD_rel q b)
  | .l _ :: _, _, _, e, _ => by simp [allD] at e
  | .g _ :: _, _, _, e, _ => by simp [allD] at e
  | .e _ _ :: _, _, _, e, _ => by simp [allD] at e
  | .t :: _, _, _, e, _ => by simp [allD] at e
theorem allD_map : ∀ ds : List D, allD (ds.map W.d) = some ds
  | [] => rfl
  | x :: r => by simp [allD, allD_map r]

def noLc : Cell → Bool
  | .m ws => noL ws
  | .f _ => true
  | .i _ ws => noL ws
/-- a cell at a -/
def RC (G : Gx) (wd : Wd) (H : Hp) (a : Addr) : Cell → Prop
  | .m ws => ∃ vs, H a = some (.lst vs) ∧ wd.F a = none ∧ RWs G wd ws vs
  | .f ds => RD G wd.F (.lst ds) (.ref a) ∧ ∃ vs, H a = some (.lst vs)
  | .i c ws => ∃ dx fs vs, H a = some (.ins (G.cn c) dx fs) ∧ wd.F a = none ∧ Flds (G.fl c) vs fs ∧ RWs G wd ws vs
/-- no table of code objects is among what never changes -/
def NT (F : Hp) : Prop := ∀ b ps, F b ≠ some (.tbl ps)
/-- a state, the def's slots, the heap -/
structure SR (G : Gx) (wd : Wd) (s : Sx) (σ : L2.St) (H : Hp) : Prop where
  le : Le wd.F H
  len : s.e.length = σ.length
  env : ∀ (i : Nat) (w : W), s.e[i]? = some (some w) → ∃ v, σ[i]? = some (some v) ∧ RW G wd w v
  la : wd.al.length = s.l.length
  lb : wd.be.length = s.g.length
  nd : (wd.al ++ wd.be).Nodup
  lc : ∀ (n : Nat) (c : Cell), s.l[n]? = some c → ∃ a, wd.al[n]? = some a ∧ RC G wd H a c
  gc : ∀ (n : Nat) (c : Cell), s.g[n]? = some c → ∃ a, wd.be[n]? = some a ∧ RC G wd H a c
  gn : ∀ (n : Nat) (c : Cell), s.g[n]? = some c → noLc c = true
  tb : LamX.Tabs G.T H ∧ NT wd.F
/-- nothing, or a thing that never changes by itself -/
def Fix (H : Hp) (b : Addr) : Prop := (∀ vs, H b ≠ some (.lst vs)) ∧ ∀ C dx fs, H b ≠ some (.ins C dx fs)
theorem Fix.of {H : Hp} {b : Addr} (h : H b = none) : Fix H b := ⟨(fun _ z => by rw [h] at z; cases z), (fun _ _ _ z => by rw [h] at z; cases z)⟩
/-- from one heap to a later one -/
structure Stp (wd : Wd) (H : Hp) (wd' : Wd) (H' : Hp) : Prop where
  up : Up wd wd'
  na : ∀ a, a ∈ wd'.al → a ∉ wd.al → H a = none
  nb : ∀ a, a ∈ wd'.be → a ∉ wd.be → H a = none
  fr : ∀ b o, H b = some o → b ∉ wd.al → b ∉ wd.be → (∀ ps, o ≠ .tbl ps) → H' b = some o
  dom : ∀ b, H' b = none → H b = none
  /-- what never changes from here on was new, or a list of ours -/
  fz : ∀ b, wd.F b = none → wd'.F b ≠ none → Fix H b ∨ b ∈ wd.al ∨ b ∈ wd.be
theorem Stp.refl (wd : Wd) (H : Hp) : Stp wd H wd H := ⟨Up.refl _, fun _ a b => absurd a b, fun _ a b => absurd a b, fun _ _ h _ _ _ => h, fun _ h => h, fun _ a b => absurd a b⟩
theorem Stp.trans {a b c : Wd} {H J L : Hp} (x : Stp a H b J) (y : Stp b J c L) : Stp a H c L where
  up := x.up.trans y.up
  na := fun z h n => by
    by_cases q : z ∈ b.al
    · exact x.na z q n
    · exact x.dom z (y.na z h q)
  nb := fun z h n => by
    by_cases q : z ∈ b.be
    · exact x.nb z q n
    · exact x.dom z (y.nb z h q)
  fr := fun z o h n1 n2 nt => by
    have h1 := x.fr z o h n1 n2 nt
    refine y.fr z o h1 (fun q => ?_) (fun q => ?_) nt
    · have := x.na z q n1
      rw [h] at this; cases this
    · have := x.nb z q n2
      rw [h] at this; cases this
  dom := fun z h => x.dom z (y.dom z h)
  fz := fun z h n => by
    by_cases q : b.F z = none
    · by_cases m1 : z ∈ a.al
      · exact .inr (.inl m1)
      by_cases m2 : z ∈ a.be
      · exact .inr (.inr m2)
      have k : z ∈ b.al ∨ z ∈ b.be → Fix H z := fun m => .of (m.elim (fun m => x.na z m m1) fun m => x.nb z m m2)
      rcases y.fz z q n with h1 | h1 | h1
      · exact .inl ⟨fun vs e => h1.1 vs (x.fr z _ e m1 m2 (fun _ z => by cases z)), fun C dx fs e => h1.2 C dx fs (x.fr z _ e m1 m2 (fun _ z => by cases z))⟩
      · exact .inl (k (.inl h1))
      · exact .inl (k (.inr h1))
    · exact x.fz z h q

/-- an error in the air -/
def XR (G : Gx) (wd : Wd) (x : Exn) (cls : Value) (d : Option Addr) : Prop :=
  cls = .ref (G.cn x.c) ∧ ∃ dd fs vs, d = some dd ∧ wd.F dd = some (.xd fs) ∧ Flds (G.fl x.c) vs fs ∧ RDs G wd.F x.xs vs

/-- an outcome, told; rel: how the result lies, from the heap ahead, at the way and the heap behind -/
def Rs {α γ : Type} (G : Gx) (W : WX) (rel : Hp → Wd → Hp → α → γ → Prop) (o : Out α) (wd : Wd) (σ : L2.St) (H : Hp) (Q : γ → Hp → Prop) : Prop :=
  match o with
  | .ok a s' => ∀ v H' wd', Stp wd H wd' H' → SR G wd' s' σ H' → rel H wd' H' a v → Q v H'
  | .exc x s' => ∀ cls d H' wd', Stp wd H wd' H' → SR G wd' s' σ H' → XR G wd' x cls d → W cls d σ H'
  | .stuck => False
def rd {α γ : Type} (G : Gx) (W : WX) (rel : Hp → Wd → Hp → α → γ → Prop) (f : M α) : L2.St → Hp → (γ → Hp → Prop) → Prop := fun σ H Q =>
  ∃ wd s, SR G wd s σ H ∧ Rs G W rel (f s) wd σ H Q
/-- what is told goes on to an earlier heap -/
class RM {α γ : Type} (rel : Hp → Wd → Hp → α → γ → Prop) : Prop where
  mono : ∀ (H H1 : Hp) (wd : Wd) (H' : Hp) (a : α) (v : γ), (∀ b, H1 b = none → H b = none) → rel H1 wd H' a v → rel H wd H' a v
section
variable {α β γ δ : Type} {G : Gx} {W : WX} {rel : Hp → Wd → Hp → α → γ → Prop} {rel2 : Hp → Wd → Hp → β → δ → Prop} {o : Out α} {wd wd1 : Wd} {σ : L2.St} {H H1 : Hp} {Q Q' : γ → Hp → Prop}
theorem Rs.imp (h : Rs G W rel o wd σ H Q) (hq : ∀ v H', Q v H' → Q' v H') : Rs G W rel o wd σ H Q' := by
  cases o with
  | ok a s => exact fun v H' wd' x y z => hq _ _ (h v H' wd' x y z)
  | exc x s => exact h
  | stuck => exact h
theorem Rs.step [RM rel] (st : Stp wd H wd1 H1) (h : Rs G W rel o wd σ H Q) : Rs G W rel o wd1 σ H1 Q := by
  cases o with
  | ok a s => exact fun v H' wd' x y z => h v H' wd' (st.trans x) y (RM.mono H H1 wd' H' a v st.dom z)
  | exc x s => exact fun cls d H' wd' a b c => h cls d H' wd' (st.trans a) b c
  | stuck => exact h
theorem Rs.bd [RM rel2] {f : M α} {k : α → M β} {s : Sx} {Q2 : δ → Hp → Prop} (h : Rs G W rel2 (bnd f k s) wd σ H Q2) :
    Rs G W rel (f s) wd σ H fun v H1 => ∃ wd1 s1 a, f s = .ok a s1 ∧ Stp wd H wd1 H1 ∧ SR G wd1 s1 σ H1 ∧ rel H wd1 H1 a v ∧ Rs G W rel2 (k a s1) wd1 σ H1 Q2 := by
  unfold bnd at h
  cases q : f s with
  | ok a s1 =>
    rw [q] at h
    exact fun v H' wd' st sr r => ⟨wd', s1, a, rfl, st, sr, r, h.step st⟩
  | exc x s1 => rw [q] at h; exact h
  | stuck => rw [q] at h; exact h
theorem Rs.ok_now {a : α} {s : Sx} {v : γ} (h : Rs G W rel (.ok a s) wd σ H Q) (sr : SR G wd s σ H) (r : rel H wd H a v) : Q v H := h v H wd (Stp.refl _ _) sr r
end
def rW (G : Gx) : Hp → Wd → Hp → W → V → Prop := fun _ wd _ w v => RW G wd w v
def rB : Hp → Wd → Hp → Bool → Bool → Prop := fun _ _ _ a b => b = a
def rA (G : Gx) : Hp → Wd → Hp → List W → List V → Prop := fun _ wd _ ws vs => RWs G wd ws vs
/-- a new list -/
def rL (G : Gx) : Hp → Wd → Hp → List W → V → Prop := fun H wd H' ws v => ∃ a vs, v = .ref a ∧ H a = none ∧ H' a = some (.lst vs) ∧ wd.F a = none ∧ a ∉ wd.al ∧ a ∉ wd.be ∧ RWs G wd ws vs
instance (G : Gx) : RM (rW G) := ⟨fun _ _ _ _ _ _ _ h => h⟩
instance : RM rB := ⟨fun _ _ _ _ _ _ _ h => h⟩
instance (G : Gx) : RM (rA G) := ⟨fun _ _ _ _ _ _ _ h => h⟩
instance (G : Gx) : RM (rL G) := ⟨fun _ _ _ _ _ _ k ⟨a, vs, e, n, r⟩ => ⟨a, vs, e, k a n, r⟩⟩
/-- a def's names, its scope, the levels below it, whether no error is being handled -/
structure Cf where
  N : List Str
  sc : Scope
  k : Nat
  calm : Bool
  fn : Str → Bool
  /-- the given thunk may be called | it is an except suite -/
  tk : Bool
  su : Bool
  /-- it is a def's own text -/
  df : Bool
  /-- what its inner names begin with; its code object -/
  ql : Str
  cd : Value
/-- a def's text -/
def Cf.dfn (N : List Str) (sc : Scope) (k : Nat) (tk : Bool) (q : Str) (cd : Value) : Cf := ⟨N, sc, k, true, fun _ => true, tk, false, true, q ++ ".<locals>.", cd⟩
/-- a call of the given thunk does what it does -/
def ThOk (G : Gx) (SRd : Wd → List Cell → Hp → Prop) (FoSd : Fo → Wd → Hp → VK → XK → Prop) (X : Cx) (t : Th) : Prop :=
  ∀ (pn : List (Addr × Obj)) (xe : Value → Shared → Prop) (Wx : WX), Takes (X.tr pn xe) Wx → ∀ (i : Nat) (x : Str) (p pos : Pos), X.N[i]? = some x → Vis X.env.scope x → (x == ("__debug__" : Str)) = false → (x == ("__classdict__" : Str)) = false →
    PE (X.tr pn xe) (.Call (.Name x p) [] [] pos) fun σ H Q => σ[i]? = some (some (.ref t.a)) ∧ ∃ wd g, wd.al = [] ∧ SRd wd g H ∧ Le t.F wd.F ∧ (∃ m, wd.be = t.be ++ m) ∧ FoSd (t.T g) wd H Q fun cls d H' => Wx cls d σ H'
/-- a call's end, told -/
def FoS (G : Gx) (o : Fo) (wd : Wd) (H : Hp) (Q : VK) (E : XK) : Prop := match o with
  | .ok w g => ∀ v H' wd', noL [w] = true → Stp wd H wd' H' → wd'.al = [] → SR G wd' ⟨[], [], g⟩ [] H' → RW G wd' w v → Q v H'
  | .exc x g => ∀ cls d H' wd', Stp wd H wd' H' → wd'.al = [] → SR G wd' ⟨[], [], g⟩ [] H' → XR G wd' x cls d → E cls d H'
  | .stuck => False
/-- X is of that kind -/
structure On (G : Gx) (c : Cf) (X : Cx) : Prop where
  p : X.prog = G.P
  w : X.w = G.w
  K : X.K = G.K
  mg : X.mg = G.mg
  base : X.base = G.base
  N : X.N = c.N
  nd : c.N.Nodup
  sc : X.env.scope = c.sc
  dp : X.A.depth + 3 * c.k + 5 < recursionLimit
  un : X.A.units + 16 * c.k + 200 < cLine
  gd : X.A.guards = some []
  hd : c.calm = true → X.A.handled = none
  cm : c.calm = true → X.calm = true
  fn : ∀ x, c.fn x = true → X.fn x = true
  ps : PassesOwn (model X.prog X.w) X.A X.env X.xe
  stk : c.df = true → X.stack = X.env :: X.outer
  frm : c.df = true → X.env.frame = some X.env.locals
  ql : c.df = true → X.env.qual = c.ql
  cd : c.df = true → X.env.code = c.cd
  ex1 : c.calm = true → G.ex = none
  ex : c.su = true → ∀ a cc dd, G.ex = some (a, cc, dd) → ∃ (X0 : Cx) (oe : Obj) (pn : List (Addr × Obj)), X = X0.suite a ((a, oe) :: pn) ∧ Zc (.ref (G.cn cc)) (some dd) oe ∧ ∃ vs, oe.data = .fields vs
  th : c.tk = true → ∀ t, G.th = some t → ThOk G (fun wd g H => SR G wd ⟨[], [], g⟩ [] H) (FoS G) X t
theorem On.room {G : Gx} {c : Cf} {X : Cx} (o : On G c X) (h : c.calm = true) : Room c.k X.A := ⟨o.hd h, o.dp, o.un⟩

def ME (G : Gx) (c : Cf) (e : Expr) (f : M W) : Prop := ∀ X, On G c X → ∀ Wx, Takes X Wx → PE X e (rd G Wx (rW G) f)
def MT (G : Gx) (c : Cf) (e : Expr) (f : M Bool) : Prop := ∀ X, On G c X → ∀ Wx, Takes X Wx → PT X e (rd G Wx rB f)
/-- a new list -/
def ML (G : Gx) (c : Cf) (e : Expr) (f : M (List W)) : Prop := ∀ X, On G c X → ∀ Wx, Takes X Wx → PE X e (rd G Wx (rL G) f)
def MA (G : Gx) (c : Cf) (es : List Expr) (f : M (List W)) : Prop := ∀ X, On G c X → ∀ Wx, Takes X Wx → PA X es (rd G Wx (rA G) f)

theorem _root_.L2.PE.imp {X : Cx} {e : Expr} {t u : TE} (h : PE X e t) (k : ∀ σ H Q, u σ H Q → t σ H Q) : PE X e u := ⟨fun pins s σ H Q I q => h.run pins s σ H Q I (k σ H Q q)⟩
theorem _root_.L2.PT.imp {X : Cx} {e : Expr} {t u : TT} (h : PT X e t) (k : ∀ σ H Q, u σ H Q → t σ H Q) : PT X e u := ⟨fun pins s σ H Q I q => h.run pins s σ H Q I (k σ H Q q)⟩
theorem _root_.L2.PA.imp {X : Cx} {e : List Expr} {t u : TA} (h : PA X e t) (k : ∀ σ H Q, u σ H Q → t σ H Q) : PA X e u := ⟨fun pos pins s σ H Q I q => h.run pos pins s σ H Q I (k σ H Q q)⟩
theorem _root_.L2.PS.imp {X : Cx} {e : Stmt} {t u : TS} (h : PS X e t) (k : ∀ D σ H, u D σ H → t D σ H) : PS X e u := ⟨fun pins s σ H D I q => h.run pins s σ H D I (k D σ H q)⟩
theorem _root_.L2.PSs.imp {X : Cx} {e : List Stmt} {t u : TS} (h : PSs X e t) (k : ∀ D σ H, u D σ H → t D σ H) : PSs X e u := ⟨fun pins s σ H D I q => h.run pins s σ H D I (k D σ H q)⟩
end Mn
set_option Elab.async false
set_option linter.all false
set_option maxRecDepth 100000
set_option maxHeartbeats 1000000
/-! M3: expressions. -/
namespace Mn
open PySem PySem.Spec PyProof.Rows L2

structure New (F H F' H' : Hp) : Prop where
  lf : Le F F'
  le : Le F' H'
  lh : Le H H'
  fr : ∀ b, F b = none → F' b ≠ none → H b = none
  nt : ∀ b ps, F' b = some (.tbl ps) → F b = some (.tbl ps)
theorem New.refl {F H : Hp} (l : Le F H) : New F H F H := ⟨Le.refl _, l, Le.refl _, (fun _ a b => absurd a b), fun _ _ h => h⟩
theorem Le.no {F H : Hp} (l : Le F H) {p : Addr} (hp : H p = none) : F p = none := by
  cases e : F p with
  | none => rfl
  | some o => rw [l p o e] at hp; cases hp
theorem Le.new {H : Hp} {p : Addr} {o : HO} (hp : H p = none) : Le H (upd H p o) := fun b u e => by
  rw [upd_ne (ne_of_none e hp)]; exact e
theorem Le.up {F H : Hp} {p : Addr} {o : HO} (l : Le F H) : Le (upd F p o) (upd H p o) := fun b u e => by
  by_cases z : b = p
  · subst z; rw [upd_same] at e ⊢; exact e
  · rw [upd_ne z] at e ⊢; exact l b u e
theorem New.one {F H : Hp} {p : Addr} {o : HO} (l : Le F H) (hp : H p = none) (ho : ∀ ps, o ≠ .tbl ps := by intro _ z; cases z) : New F H (upd F p o) (upd H p o) :=
  ⟨Le.new (l.no hp), l.up, Le.new hp, fun b e n => by
    by_cases z : b = p
    · subst z; exact hp
    · rw [upd_ne z] at n; exact absurd e n, fun b ps e => by
    by_cases z : b = p
    · subst z; rw [upd_same] at e; exact absurd (Option.some.inj e) (ho ps)
    · rwa [upd_ne z] at e⟩
theorem New.trans {F H F1 H1 F2 H2 : Hp} (a : New F H F1 H1) (b : New F1 H1 F2 H2) : New F H F2 H2 :=
  ⟨a.lf.trans b.lf, b.le, a.lh.trans b.lh, fun x e n => by
    by_cases z : F1 x = none
    · exact a.lh.no (b.fr x z n)
    · exact a.fr x e z, fun x ps e => a.nt x ps (b.nt x ps e)⟩
theorem Wd.up_F {wd : Wd} {F' : Hp} (l : Le wd.F F') : Up wd { wd with F := F' } := ⟨⟨[], by simp⟩, ⟨[], by simp⟩, l⟩
theorem New.stp {wd : Wd} {H F' H' : Hp} (n : New wd.F H F' H') : Stp wd H { wd with F := F' } H' :=
  ⟨Wd.up_F n.lf, fun _ a b => absurd a b, fun _ a b => absurd a b, fun b o h _ _ _ => n.lh b o h, fun b h => n.lh.no h, fun b h k => .inl (.of (n.fr b h k))⟩
section
variable {G : Gx} {wd : Wd} {s : Sx} {σ : L2.St} {H H' F' : Hp}
theorem RC.some {a : Addr} {c : Cell} (h : RC G wd H a c) : H a ≠ none := by
  cases c with
  | m ws => obtain ⟨vs, e, _⟩ := h; rw [e]; simp
  | f ds => obtain ⟨vs, e⟩ := h.2; rw [e]; simp
  | i c ws => obtain ⟨dx, fs, vs, e, _⟩ := h; rw [e]; simp
theorem RC.new (n : New wd.F H F' H') {a : Addr} {c : Cell} (h : RC G wd H a c) : RC G { wd with F := F' } H' a c := by
  have nz : wd.F a = none → F' a = none := fun e => by
    cases z : F' a with
    | none => rfl
    | some o => exact absurd (n.fr a e (by rw [z]; simp)) h.some
  cases c with
  | m ws =>
    obtain ⟨vs, e, f, r⟩ := h
    exact ⟨vs, n.lh _ _ e, nz f, r.mono (Wd.up_F n.lf)⟩
  | f ds => exact ⟨RD.mono n.lf _ _ h.1, let ⟨vs, e⟩ := h.2; ⟨vs, n.lh _ _ e⟩⟩
  | i c ws =>
    obtain ⟨dx, fs, vs, e, f, z, r⟩ := h
    exact ⟨dx, fs, vs, n.lh _ _ e, nz f, z, r.mono (Wd.up_F n.lf)⟩
theorem SR.new (sr : SR G wd s σ H) (n : New wd.F H F' H') : SR G { wd with F := F' } s σ H' where
  le := n.le
  len := sr.len
  env := fun i w e => by
    obtain ⟨v, a, b⟩ := sr.env i w e
    exact ⟨v, a, b.mono (Wd.up_F n.lf)⟩
  la := sr.la
  lb := sr.lb
  nd := sr.nd
  lc := fun i c e => by
    obtain ⟨a, q, r⟩ := sr.lc i c e
    exact ⟨a, q, r.new n⟩
  gc := fun i c e => by
    obtain ⟨a, q, r⟩ := sr.gc i c e
    exact ⟨a, q, r.new n⟩
  gn := sr.gn
  tb := ⟨sr.tb.1.ext n.lh, fun b ps e => sr.tb.2 b ps (n.nt b ps e)⟩

/-- a plain value as it is read now: a list may still change -/
def PR (G : Gx) (F H : Hp) : D → V → Prop
  | .lst xs, v => ∃ a vs, v = .ref a ∧ SqL G.K H a vs ∧ RDs G F xs vs
  | x, v => RD G F x v
theorem PR.of {F : Hp} (l : Le F H) {x : D} {v : V} (h : RD G F x v) : PR G F H x v := by
  cases x <;> first
    | exact h
    | (simp only [RD] at h
       obtain ⟨a, vs, e, q, r⟩ := h
       exact ⟨a, vs, e, l.sqL q, r⟩)
theorem rd_nrm {F : Hp} {x : D} {v : V} (h : RD G F x v) : RD G F (nrm x) v := by
  cases x with
  | tun xs =>
    simp only [RD] at h
    obtain ⟨a, vs, o, e, s, d, r⟩ := h
    simp only [nrm, RD]
    exact ⟨a, vs, e, .inl (.inr ⟨o, s⟩), r⟩
  | _ => exact h
theorem pk_rel (sr : SR G wd s σ H) {w : W} {v : V} {x : D} (r : RW G wd w v) (e : pk s w = some x) : PR G wd.F H x v := by
  cases w with
  | d y => simp only [pk] at e; cases e; exact .of sr.le (rd_nrm r)
  | l n =>
    simp only [pk, nth_eq] at e
    obtain ⟨a, ea, rfl⟩ := r
    cases q : s.l[n]? with
    | none => rw [q] at e; cases e
    | some c =>
      rw [q] at e
      obtain ⟨a', ea', rc⟩ := sr.lc n c q
      rw [ea] at ea'; cases ea'
      cases c with
      | m ws =>
        simp only at e
        obtain ⟨vs, h1, _, h2⟩ := rc
        cases z : allD ws with
        | none => rw [z] at e; cases e
        | some ds =>
          rw [z] at e; cases e
          exact ⟨a, vs, rfl, SqL.of h1, allD_rel z h2⟩
      | f ds => simp only at e; cases e; exact .of sr.le rc.1
      | i c ws => simp at e
  | g n =>
    simp only [pk, nth_eq] at e
    obtain ⟨a, ea, rfl⟩ := r
    cases q : s.g[n]? with
    | none => rw [q] at e; cases e
    | some c =>
      rw [q] at e
      obtain ⟨a', ea', rc⟩ := sr.gc n c q
      rw [ea] at ea'; cases ea'
      cases c with
      | m ws =>
        simp only at e
        obtain ⟨vs, h1, _, h2⟩ := rc
        cases z : allD ws with
        | none => rw [z] at e; cases e
        | some ds =>
          rw [z] at e; cases e
          exact ⟨a, vs, rfl, SqL.of h1, allD_rel z h2⟩
      | f ds => simp at e
      | i c ws => simp at e
  | e c xs => simp [pk] at e
  | t => simp [pk] at e
def PRs (G : Gx) (F H : Hp) : List D → List V → Prop
  | [], vs => vs = []
  | x :: xs, vs => ∃ v r, vs = v :: r ∧ PR G F H x v ∧ PRs G F H xs r
theorem pks_rel (sr : SR G wd s σ H) : ∀ {ws : List W} {vs : List V} {xs : List D}, RWs G wd ws vs → pks s ws = some xs → PRs G wd.F H xs vs
  | [], vs, xs, r, e => by
    simp only [pks] at e; cases e
    simp only [RWs] at r
    exact r
  | w :: ws, vs, xs, r, e => by
    simp only [RWs] at r
    obtain ⟨v, r', ev, a, b⟩ := r
    simp only [pks] at e
    cases q : pk s w with
    | none => rw [q] at e; cases e
    | some x =>
      rw [q] at e
      cases q2 : pks s ws with
      | none => rw [q2] at e; cases e
      | some ys =>
        rw [q2] at e; cases e
        exact ⟨v, r', ev, pk_rel sr a q, pks_rel sr b q2⟩
/-- the end of an expression that gives a plain value -/
theorem Rs.finD {Wx : WX} {z : D} {v : V} {Q : VK} (h : Rs G Wx (rW G) (.ok (.d z) s) wd σ H Q) (sr : SR G wd s σ H) (n : New wd.F H F' H') (r : RD G F' z v) : Q v H' :=
  h v H' _ n.stp (sr.new n) r
theorem Rs.finL {Wx : WX} {zs : List D} {vs : List V} {p : Addr} {Q : VK} (h : Rs G Wx (rL G) (.ok (zs.map W.d) s) wd σ H Q) (sr : SR G wd s σ H) (hp : H p = none) (r : RDs G wd.F zs vs) : Q (.ref p) (upd H p (.lst vs)) := by
  have n : New wd.F H wd.F (upd H p (.lst vs)) := ⟨Le.refl _, fun b o e => by
    rw [upd_ne (ne_of_none (sr.le b o e) hp)]; exact sr.le b o e, Le.new hp, (fun b e n => absurd e n), fun _ _ h => h⟩
  refine h _ _ wd n.stp (sr.new n) ⟨p, vs, rfl, hp, upd_same, sr.le.no hp, fun q => ?_, fun q => ?_, RWs.of_D r⟩
  · obtain ⟨i, hi, e⟩ := List.mem_iff_getElem.mp q
    have hi' : i < s.l.length := by rw [← sr.la]; exact hi
    obtain ⟨a, ea, rc⟩ := sr.lc i s.l[i] (by simp [hi'])
    rw [List.getElem?_eq_getElem hi, e] at ea
    cases ea
    exact rc.some hp
  · obtain ⟨i, hi, e⟩ := List.mem_iff_getElem.mp q
    have hi' : i < s.g.length := by rw [← sr.lb]; exact hi
    obtain ⟨a, ea, rc⟩ := sr.gc i s.g[i] (by simp [hi'])
    rw [List.getElem?_eq_getElem hi, e] at ea
    cases ea
    exact rc.some hp
end

/-! ### operators -/
/-- the reading r does what o says, all that it makes is new -/
def OpS (G : Gx) (r : R2) (o : D → D → Option D) : Prop := ∀ (F H : Hp) (x y z : D) (vx vy : V) (Q : VK), Le F H → PR G F H x vx → PR G F H y vy → o x y = some z →
  (∀ v F' H', New F H F' H' → RD G F' z v → Q v H') → r vx vy H Q
def UnS (G : Gx) (r : V → Hp → VK → Prop) (o : D → Option D) : Prop := ∀ (F H : Hp) (x z : D) (vx : V) (Q : VK), Le F H → PR G F H x vx → o x = some z →
  (∀ v F' H', New F H F' H' → RD G F' z v → Q v H') → r vx H Q
def BiS (G : Gx) (r : List V → Hp → VK → Prop) (o : List D → Option D) : Prop := ∀ (F H : Hp) (xs : List D) (z : D) (vs : List V) (Q : VK), Le F H → PRs G F H xs vs → o xs = some z →
  (∀ v F' H', New F H F' H' → RD G F' z v → Q v H') → r vs H Q
/-- .. that makes a new list -/
def BiL (G : Gx) (r : List V → Hp → VK → Prop) (o : List D → Option (List D)) : Prop := ∀ (F H : Hp) (xs : List D) (zs : List D) (vs : List V) (Q : VK), Le F H → PRs G F H xs vs → o xs = some zs →
  (∀ p us, H p = none → RDs G F zs us → Q (.ref p) (upd H p (.lst us))) → r vs H Q
def OpL (G : Gx) (r : R2) (o : D → D → Option (List D)) : Prop := ∀ (F H : Hp) (x y : D) (zs : List D) (vx vy : V) (Q : VK), Le F H → PR G F H x vx → PR G F H y vy → o x y = some zs →
  (∀ p us, H p = none → RDs G F zs us → Q (.ref p) (upd H p (.lst us))) → r vx vy H Q
section
variable {G : Gx} {c : Cf} {a b : Expr} {fa fb : M W} {pos : Pos}
theorem rd_b2 {Wx : WX} {r : R2} {o : D → D → Option D} (ho : OpS G r o) {σ : L2.St} {H : Hp} {Q : VK} (h : rd G Wx (rW G) (b2 o fa fb) σ H Q) : tOp r (rd G Wx (rW G) fa) (rd G Wx (rW G) fb) σ H Q := by
  obtain ⟨wd, s, sr, h⟩ := h
  refine ⟨wd, s, sr, (Rs.bd (rel := rW G) h).imp fun x H1 ⟨wd1, s1, w, _, _, sr1, r1, h1⟩ => ?_⟩
  refine ⟨wd1, s1, sr1, (Rs.bd (rel := rW G) h1).imp fun y H2 ⟨wd2, s2, v, _, st2, sr2, r2, h2⟩ => ?_⟩
  cases e1 : pk s2 w with
  | none => simp only [e1] at h2; exact h2.elim
  | some dx =>
    simp only [e1] at h2
    cases e2 : pk s2 v with
    | none => simp only [e2] at h2; exact h2.elim
    | some dy =>
      simp only [e2] at h2
      cases e3 : o dx dy with
      | none => simp only [e3] at h2; exact h2.elim
      | some z =>
        simp only [e3] at h2
        exact ho wd2.F H2 dx dy z x y Q sr2.le (pk_rel sr2 (RW.mono st2.up r1) e1) (pk_rel sr2 r2 e2) e3 fun u F' H' n rz => Rs.finD h2 sr2 n rz
theorem rd_b2L {Wx : WX} {r : R2} {o : D → D → Option (List D)} (ho : OpL G r o) {σ : L2.St} {H : Hp} {Q : VK} (h : rd G Wx (rL G) (b2L o fa fb) σ H Q) : tOp r (rd G Wx (rW G) fa) (rd G Wx (rW G) fb) σ H Q := by
  obtain ⟨wd, s, sr, h⟩ := h
  refine ⟨wd, s, sr, (Rs.bd (rel := rW G) h).imp fun x H1 ⟨wd1, s1, w, _, _, sr1, r1, h1⟩ => ?_⟩
  refine ⟨wd1, s1, sr1, (Rs.bd (rel := rW G) h1).imp fun y H2 ⟨wd2, s2, v, _, st2, sr2, r2, h2⟩ => ?_⟩
  cases e1 : pk s2 w with
  | none => simp only [e1] at h2; exact h2.elim
  | some dx =>
    simp only [e1] at h2
    cases e2 : pk s2 v with
    | none => simp only [e2] at h2; exact h2.elim
    | some dy =>
      simp only [e2] at h2
      cases e3 : o dx dy with
      | none => simp only [e3] at h2; exact h2.elim
      | some z =>
        simp only [e3] at h2
        exact ho wd2.F H2 dx dy z x y Q sr2.le (pk_rel sr2 (RW.mono st2.up r1) e1) (pk_rel sr2 r2 e2) e3 fun p us hp ru => Rs.finL h2 sr2 hp ru
theorem rd_u1 {Wx : WX} {r : V → Hp → VK → Prop} {o : D → Option D} (ho : UnS G r o) {σ : L2.St} {H : Hp} {Q : VK} (h : rd G Wx (rW G) (u1 o fa) σ H Q) : tUn r (rd G Wx (rW G) fa) σ H Q := by
  obtain ⟨wd, s, sr, h⟩ := h
  refine ⟨wd, s, sr, (Rs.bd (rel := rW G) h).imp fun x H1 ⟨wd1, s1, w, _, _, sr1, r1, h1⟩ => ?_⟩
  cases e1 : pk s1 w with
  | none => simp only [e1] at h1; exact h1.elim
  | some dx =>
    simp only [e1] at h1
    cases e3 : o dx with
    | none => simp only [e3] at h1; exact h1.elim
    | some z =>
      simp only [e3] at h1
      exact ho wd1.F H1 dx z x Q sr1.le (pk_rel sr1 r1 e1) e3 fun u F' H' n rz => Rs.finD h1 sr1 n rz
theorem rd_bi {Wx : WX} {r : List V → Hp → VK → Prop} {o : List D → Option D} {fs : M (List W)} (ho : BiS G r o) {σ : L2.St} {H : Hp} {Q : VK} (h : rd G Wx (rW G) (bi o fs) σ H Q) : tCB r (rd G Wx (rA G) fs) σ H Q := by
  obtain ⟨wd, s, sr, h⟩ := h
  refine ⟨wd, s, sr, (Rs.bd (rel := rA G) h).imp fun x H1 ⟨wd1, s1, w, _, _, sr1, r1, h1⟩ => ?_⟩
  cases e1 : pks s1 w with
  | none => simp only [e1] at h1; exact h1.elim
  | some dx =>
    simp only [e1] at h1
    cases e3 : o dx with
    | none => simp only [e3] at h1; exact h1.elim
    | some z =>
      simp only [e3] at h1
      exact ho wd1.F H1 dx z x Q sr1.le (pks_rel sr1 r1 e1) e3 fun u F' H' n rz => Rs.finD h1 sr1 n rz
theorem rd_biL {Wx : WX} {r : List V → Hp → VK → Prop} {o : List D → Option (List D)} {fs : M (List W)} (ho : BiL G r o) {σ : L2.St} {H : Hp} {Q : VK} (h : rd G Wx (rL G) (biL o fs) σ H Q) : tCB r (rd G Wx (rA G) fs) σ H Q := by
  obtain ⟨wd, s, sr, h⟩ := h
  refine ⟨wd, s, sr, (Rs.bd (rel := rA G) h).imp fun x H1 ⟨wd1, s1, w, _, _, sr1, r1, h1⟩ => ?_⟩
  cases e1 : pks s1 w with
  | none => simp only [e1] at h1; exact h1.elim
  | some dx =>
    simp only [e1] at h1
    cases e3 : o dx with
    | none => simp only [e3] at h1; exact h1.elim
    | some z =>
      simp only [e3] at h1
      exact ho wd1.F H1 dx z x Q sr1.le (pks_rel sr1 r1 e1) e3 fun p us hp ru => Rs.finL h1 sr1 hp ru

/-! ### rules -/
/-- what a name's look wants of the scope -/
def VisS (sc : Scope) (x : Str) : Prop := Vis sc x
theorem me_vr {i : Nat} {x : Str} {pos : Pos} (hN : c.N[i]? = some x) (hv : Vis c.sc x) (hd : (x == ("__debug__" : Str)) = false := by decide) (hcd : (x == ("__classdict__" : Str)) = false := by decide) : ME G c (.Name x pos) (vr i) := fun X on Wx tk => by
  refine (pe_var (i := i) (by rw [on.N]; exact hN) (by rw [on.sc]; exact hv) hd hcd).imp fun σ H Q h => ?_
  obtain ⟨wd, s, sr, h⟩ := h
  unfold vr at h
  rw [nth_eq] at h
  cases e : s.e[i]? with
  | none => rw [e] at h; exact h.elim
  | some o =>
    rw [e] at h
    cases o with
    | none => exact h.elim
    | some w =>
      obtain ⟨v, ev, r⟩ := sr.env i w e
      exact ⟨v, ev, h.ok_now sr r⟩
theorem rd_cs {Wx : WX} {x : D} {v : V} (hv : ∀ F, RD G F x v) {σ : L2.St} {H : Hp} {Q : VK} (h : rd G Wx (rW G) (cs x) σ H Q) : tC v σ H Q := by
  obtain ⟨wd, s, sr, h⟩ := h
  exact h.ok_now sr (hv _)
theorem me_int {i : Int} {j pos} : ME G c (.Constant (.int i) j pos) (cs (.int i)) := fun X on Wx tk => (pe_int).imp fun σ H Q h => rd_cs (fun F => by simp only [RD]) h
theorem me_bl {b : Bool} {j pos} : ME G c (.Constant (.bool b) j pos) (cs (.bl b)) := fun X on Wx tk => (pe_bl).imp fun σ H Q h => rd_cs (fun F => by simp only [RD]) h
theorem me_non {j pos} : ME G c (.Constant .none j pos) (cs .non) := fun X on Wx tk => (pe_non).imp fun σ H Q h => rd_cs (fun F => by simp only [RD]) h
theorem me_str {x : Str} {j pos} : ME G c (.Constant (.str x) j pos) (cs (.str x)) := fun X on Wx tk => (pe_str).imp fun σ H Q h => rd_cs (fun F => by simp only [RD]) h
/-- a global name of the def's scope -/
def GlS (sc : Scope) (x : Str) : Prop := sc.names.lookup x = some .globalImplicit
theorem On.gl {G : Gx} {c : Cf} {X : Cx} (o : On G c X) {x : Str} (h : GlS c.sc x) : Gl X x := by
  show X.env.scope.names.lookup x = _
  rw [o.sc]; exact h
theorem me_glob {x : Str} {z : D} {v : V} {u : Value} (hg : GlS c.sc x) (hm : G.mg x = some u) (r : RelV v u) (hv : ∀ F, RD G F z v) (hd : (x == ("__debug__" : Str)) = false := by decide) : ME G c (.Name x pos) (cs z) := fun X on Wx tk =>
  (pe_glob (v := v) (u := u) (on.gl hg) (by rw [on.mg]; exact hm) r hd).imp fun σ H Q h => rd_cs hv h
theorem me_ty {x : Str} {n : String} (hg : GlS c.sc x) (hm : G.mg x = none) (hv : bootBuiltins x = some (.type n)) (hn : x ≠ "__name__" := by decide) (hd : (x == ("__debug__" : Str)) = false := by decide) : ME G c (.Name x pos) (cs (.ty n)) := fun X on Wx tk =>
  (pe_bltn (v := .ty n) (u := .type n) (on.gl hg) (by rw [on.mg]; exact hm) hv rfl hn hd).imp fun σ H Q h => rd_cs (fun F => by simp only [RD]) h
theorem me_b2 {op : Operator} {r : R2} {o : D → D → Option D} (hr : ∀ X, On G c X → OpR X (binaryOp op) r) (ho : OpS G r o) (ha : ME G c a fa) (hb : ME G c b fb) : ME G c (.BinOp a op b pos) (b2 o fa fb) := fun X on Wx tk =>
  (pe_op (hr X on) (ha X on Wx tk) (hb X on Wx tk)).imp fun σ H Q h => rd_b2 ho h
theorem ml_b2 {op : Operator} {r : R2} {o : D → D → Option (List D)} (hr : ∀ X, On G c X → OpR X (binaryOp op) r) (ho : OpL G r o) (ha : ME G c a fa) (hb : ME G c b fb) : ML G c (.BinOp a op b pos) (b2L o fa fb) := fun X on Wx tk =>
  (pe_op (hr X on) (ha X on Wx tk) (hb X on Wx tk)).imp fun σ H Q h => rd_b2L ho h
theorem me_u1 {op : UnaryOp} {r : V → Hp → VK → Prop} {o : D → Option D} (hr : ∀ X, On G c X → UnR X (unaryOp op) r) (ho : UnS G r o) (ha : ME G c a fa) : ME G c (.UnaryOp op a pos) (u1 o fa) := fun X on Wx tk =>
  (pe_un (hr X on) (ha X on Wx tk)).imp fun σ H Q h => rd_u1 ho h
/-- a comparison as a value, as a test -/
theorem me_cmp {op : CmpOp} {r : R2} {o : D → D → Option D} (hr : ∀ X, On G c X → OpR X (compareOp op) r) (ho : OpS G r o) (ha : ME G c a fa) (hb : ME G c b fb) (hm : behindInMarks op b = false := by first | exact nomark _ | rfl) : ME G c (.Compare a [op] [b] pos) (b2 o fa fb) := fun X on Wx tk =>
  (pe_cmpR (hr X on) (ha X on Wx tk) (hb X on Wx tk) hm).imp fun σ H Q h => rd_b2 ho h
theorem rd_tst {Wx : WX} {f : M W} {σ : L2.St} {H : Hp} {Q : Bool → Hp → Prop} (h : rd G Wx rB (tst f) σ H Q) : rd G Wx (rW G) f σ H fun x H1 => ∃ k, x = .bl k ∧ Q k H1 := by
  obtain ⟨wd, s, sr, h⟩ := h
  refine ⟨wd, s, sr, (Rs.bd (rel := rW G) h).imp fun x H1 ⟨wd1, s1, w, _, _, sr1, r1, h1⟩ => ?_⟩
  cases w with
  | d y =>
    cases y with
    | bl b => exact ⟨b, r1, h1.ok_now sr1 rfl⟩
    | _ => exact h1.elim
  | _ => exact h1.elim
theorem tB_of {X : Cx} {e : Expr} {t : TE} (h : PE X e t) (he : ∀ whole, isTrue e X.env whole = (do let v ← whole; standAt e.pos; holding [v] (truthy v))) : PT X e (fun σ H Q => t σ H fun x H1 => ∃ k, x = .bl k ∧ Q k H1) := pt_val h he
theorem mt_val {e : Expr} {f : M W} (h : ME G c e f) (he : ∀ env whole, isTrue e env whole = (do let v ← whole; standAt e.pos; holding [v] (truthy v)) := by intro _ _; rfl) : MT G c e (tst f) := fun X on Wx tk =>
  (tB_of (h X on Wx tk) (he _)).imp fun σ H Q h => rd_tst h
theorem mt_cmp {op : CmpOp} {r : R2} {o : D → D → Option D} (hr : ∀ X, On G c X → OpR X (compareOp op) r) (ho : OpS G r o) (ha : ME G c a fa) (hb : ME G c b fb) (hm : behindInMarks op b = false := by first | exact nomark _ | rfl) : MT G c (.Compare a [op] [b] pos) (tst (b2 o fa fb)) := fun X on Wx tk =>
  (pt_cmpR (hr X on) (ha X on Wx tk) (hb X on Wx tk) hm).imp fun σ H Q h => by
    obtain ⟨wd, s, sr, h⟩ := rd_tst h
    exact rd_b2 ho ⟨wd, s, sr, h⟩
end
end Mn
set_option Elab.async false
set_option linter.all false
set_option maxRecDepth 100000
set_option maxHeartbeats 1000000
/-! M4: freezing, new lists, tuples, tests, places, the methods of lists. -/
namespace Mn
open PySem PySem.Spec PyProof.Rows L2

theorem upAt_get {α : Type} (l : List α) (n m : Nat) (y : α) : (upAt l n y)[m]? = if m = n then (if n < l.length then some y else none) else l[m]? := by
  rw [upAt_eq, List.getElem?_set]
  by_cases h : m = n
  · subst h; simp
  · rw [if_neg h, if_neg (fun z => h z.symm)]
section
variable {G : Gx} {wd : Wd} {s : Sx} {σ : L2.St} {H : Hp}
theorem SR.addr_l (sr : SR G wd s σ H) {a : Addr} (h : a ∈ wd.al) : H a ≠ none := by
  obtain ⟨i, hi, e⟩ := List.mem_iff_getElem.mp h
  have hi' : i < s.l.length := by rw [← sr.la]; exact hi
  obtain ⟨b, ea, rc⟩ := sr.lc i s.l[i] (by simp [hi'])
  rw [List.getElem?_eq_getElem hi, e] at ea
  cases ea
  exact rc.some
theorem SR.addr_b (sr : SR G wd s σ H) {a : Addr} (h : a ∈ wd.be) : H a ≠ none := by
  obtain ⟨i, hi, e⟩ := List.mem_iff_getElem.mp h
  have hi' : i < s.g.length := by rw [← sr.lb]; exact hi
  obtain ⟨b, ea, rc⟩ := sr.gc i s.g[i] (by simp [hi'])
  rw [List.getElem?_eq_getElem hi, e] at ea
  cases ea
  exact rc.some
theorem mem_of {l : List Addr} {n : Nat} {a : Addr} (h : l[n]? = some a) : a ∈ l := List.mem_of_getElem? h
theorem nd_ll {l m : List Addr} (nd : (l ++ m).Nodup) {i j : Nat} {a : Addr} (h1 : l[i]? = some a) (h2 : l[j]? = some a) : i = j := by
  have n1 : l.Nodup := (List.nodup_append.mp nd).1
  obtain ⟨hi, e1⟩ := List.getElem?_eq_some_iff.mp h1
  obtain ⟨hj, e2⟩ := List.getElem?_eq_some_iff.mp h2
  exact (List.getElem_inj n1).mp (e1.trans e2.symm)
theorem nd_mm {l m : List Addr} (nd : (l ++ m).Nodup) {i j : Nat} {a : Addr} (h1 : m[i]? = some a) (h2 : m[j]? = some a) : i = j := by
  have n1 : m.Nodup := (List.nodup_append.mp nd).2.1
  obtain ⟨hi, e1⟩ := List.getElem?_eq_some_iff.mp h1
  obtain ⟨hj, e2⟩ := List.getElem?_eq_some_iff.mp h2
  exact (List.getElem_inj n1).mp (e1.trans e2.symm)
theorem nd_lm {l m : List Addr} (nd : (l ++ m).Nodup) {a b : Addr} (h1 : a ∈ l) (h2 : b ∈ m) : a ≠ b := (List.nodup_append.mp nd).2.2 a h1 b h2

/-- a cell stays when F grows elsewhere -/
theorem RC.grow {F' : Hp} (l : Le wd.F F') {a : Addr} {c : Cell} (hn : F' a = none ∨ ∃ ds, c = .f ds) (h : RC G wd H a c) : RC G { wd with F := F' } H a c := by
  cases c with
  | m ws =>
    obtain ⟨vs, e, f, r⟩ := h
    exact ⟨vs, e, hn.elim id (fun ⟨ds, z⟩ => by cases z), r.mono (Wd.up_F l)⟩
  | f ds => exact ⟨RD.mono l _ _ h.1, h.2⟩
  | i c ws =>
    obtain ⟨dx, fs, vs, e, f, z, r⟩ := h
    exact ⟨dx, fs, vs, e, hn.elim id (fun ⟨ds, z⟩ => by cases z), z, r.mono (Wd.up_F l)⟩
theorem Le.add {F : Hp} {a : Addr} {o : HO} (h : F a = none) : Le F (upd F a o) := Le.new h
theorem RC.noF {a : Addr} {c : Cell} (h : RC G wd H a c) (nf : ∀ ds, c ≠ .f ds) : wd.F a = none := by
  cases c with
  | m ws => obtain ⟨vs, e, f, r⟩ := h; exact f
  | f ds => exact absurd rfl (nf ds)
  | i c ws => obtain ⟨dx, fs, vs, e, f, z, r⟩ := h; exact f
/-- a tracked list that is nobody's cell is frozen -/
theorem NT.put {F : Hp} {a : Addr} {o : HO} (h : NT F) (ho : ∀ ps, o ≠ .tbl ps) : NT (upd F a o) := fun b ps e => by
  by_cases z : b = a
  · subst z; rw [upd_same] at e; exact ho ps (Option.some.inj e)
  · rw [upd_ne z] at e; exact h b ps e
theorem SR.freeze (sr : SR G wd s σ H) {a : Addr} {o : HO} (ho : ∀ ps, o ≠ .tbl ps) (ha : H a = some o) (nl : a ∉ wd.al) (nb : a ∉ wd.be) (hf : wd.F a = none) : SR G { wd with F := upd wd.F a o } s σ H where
  le := fun b u e => by
    have e : upd wd.F a o b = some u := e
    by_cases z : b = a
    · subst z; rw [upd_same] at e; rw [ha]; exact e
    · rw [upd_ne z] at e; exact sr.le b u e
  len := sr.len
  env := fun i w e => by
    obtain ⟨v, p, q⟩ := sr.env i w e
    exact ⟨v, p, q.mono (Wd.up_F (Le.add hf))⟩
  la := sr.la
  lb := sr.lb
  nd := sr.nd
  lc := fun i c e => by
    obtain ⟨b, p, q⟩ := sr.lc i c e
    refine ⟨b, p, q.grow (Le.add hf) ?_⟩
    by_cases z : ∃ ds, c = .f ds
    · exact .inr z
    · refine .inl ?_
      rw [upd_ne (fun y => nl (by rw [← y]; exact mem_of p))]
      exact q.noF fun ds y => z ⟨ds, y⟩
  gc := fun i c e => by
    obtain ⟨b, p, q⟩ := sr.gc i c e
    refine ⟨b, p, q.grow (Le.add hf) ?_⟩
    by_cases z : ∃ ds, c = .f ds
    · exact .inr z
    · refine .inl ?_
      rw [upd_ne (fun y => nb (by rw [← y]; exact mem_of p))]
      exact q.noF fun ds y => z ⟨ds, y⟩
  gn := sr.gn
  tb := ⟨sr.tb.1, sr.tb.2.put ho⟩
theorem Stp.F {F' : Hp} (l : Le wd.F F') (hz : ∀ b, b ∉ wd.al → F' b = wd.F b) : Stp wd H { wd with F := F' } H := ⟨Wd.up_F l, fun _ a b => absurd a b, fun _ a b => absurd a b, fun b o h _ _ _ => h, fun b h => h, fun b h k => by
  by_cases z : b ∈ wd.al
  · exact .inr (.inl z)
  · have k : F' b ≠ none := k
    rw [hz b z] at k
    exact absurd h k⟩
/-- an own list is frozen -/
theorem SR.freeze_l (sr : SR G wd s σ H) {n : Nat} {a : Addr} {ws : List W} {ds : List D} {vs : List V} (ea : wd.al[n]? = some a) (q : s.l[n]? = some (.m ws)) (z : allD ws = some ds) (h1 : H a = some (.lst vs)) (hf : wd.F a = none) (r : RWs G wd ws vs) :
    SR G { wd with F := upd wd.F a (.lst vs) } { s with l := upAt s.l n (.f ds) } σ H ∧ RD G (upd wd.F a (.lst vs)) (.lst ds) (.ref a) := by
  have key : RD G (upd wd.F a (.lst vs)) (.lst ds) (.ref a) := by
    simp only [RD]
    exact ⟨a, vs, rfl, SqL.of upd_same, RDs.mono (Le.add hf) _ _ (allD_rel z r)⟩
  refine ⟨⟨fun b u e => ?_, sr.len, fun i w e => ?_, ?_, sr.lb, sr.nd, fun i c e => ?_, fun i c e => ?_, sr.gn, ⟨sr.tb.1, sr.tb.2.put (fun _ z => by cases z)⟩⟩, key⟩
  · have e : upd wd.F a (.lst vs) b = some u := e
    by_cases y : b = a
    · subst y; rw [upd_same] at e; rw [h1]; exact e
    · rw [upd_ne y] at e; exact sr.le b u e
  · obtain ⟨v, p, q⟩ := sr.env i w e
    exact ⟨v, p, q.mono (Wd.up_F (Le.add hf))⟩
  · show wd.al.length = (upAt s.l n _).length
    rw [upAt_eq, List.length_set]; exact sr.la
  · have e' : (upAt s.l n (.f ds))[i]? = some c := e
    rw [upAt_get] at e'
    by_cases y : i = n
    · subst y
      rw [if_pos rfl] at e'
      split at e'
      · cases e'
        exact ⟨a, ea, key, by rw [h1]; simp⟩
      · cases e'
    · rw [if_neg y] at e'
      obtain ⟨b, p, rc⟩ := sr.lc i c e'
      refine ⟨b, p, rc.grow (Le.add hf) ?_⟩
      by_cases z : ∃ ds, c = .f ds
      · exact .inr z
      · refine .inl ?_
        rw [upd_ne (fun w => y (nd_ll sr.nd p (by rw [w]; exact ea)))]
        exact rc.noF fun ds y => z ⟨ds, y⟩
  · obtain ⟨b, p, rc⟩ := sr.gc i c e
    refine ⟨b, p, rc.grow (Le.add hf) ?_⟩
    by_cases z : ∃ ds, c = .f ds
    · exact .inr z
    · refine .inl ?_
      rw [upd_ne (fun w => nd_lm sr.nd (mem_of ea) (mem_of p) w.symm)]
      exact rc.noF fun ds y => z ⟨ds, y⟩
end
section
variable {α β γ δ : Type} {G : Gx} {Wx : WX} {rel2 : Hp → Wd → Hp → β → δ → Prop} {wd : Wd} {s : Sx} {σ : L2.St} {H : Hp} {Q : δ → Hp → Prop}
/-- behind toD: the heap as it was, no more of F than what was an own list -/
theorem Rs.td [RM rel2] {w : W} {v : V} {k : D → M β} (h : Rs G Wx rel2 (bnd (toD w) k s) wd σ H Q) (sr : SR G wd s σ H) (r : RW G wd w v) :
    ∃ (F' : Hp) (s1 : Sx) (x : D), toD w s = .ok x s1 ∧ SR G { wd with F := F' } s1 σ H ∧ Le wd.F F' ∧ (∀ b, b ∉ wd.al → F' b = wd.F b) ∧ RD G F' x v ∧ Rs G Wx rel2 (k x s1) { wd with F := F' } σ H Q := by
  cases w with
  | d x => exact ⟨wd.F, s, x, rfl, sr, Le.refl _, fun _ _ => rfl, r, h⟩
  | l n =>
    obtain ⟨a, ea, rfl⟩ := r
    unfold bnd toD at h
    simp only [nth_eq] at h
    cases q : s.l[n]? with
    | none => simp only [q] at h; exact h.elim
    | some c =>
      simp only [q] at h
      obtain ⟨a', ea', rc⟩ := sr.lc n c q
      rw [ea] at ea'; cases ea'
      cases c with
      | m ws =>
        simp only at h
        obtain ⟨vs, h1, hf, h2⟩ := rc
        cases z : allD ws with
        | none => simp only [z] at h; exact h.elim
        | some ds =>
          simp only [z] at h
          obtain ⟨sr', rd'⟩ := sr.freeze_l ea q z h1 hf h2
          refine ⟨_, _, .lst ds, ?_, sr', Le.add hf, fun b hb => upd_ne fun y => hb (by rw [y]; exact mem_of ea), rd', h.step (Stp.F (Le.add hf) fun b hb => upd_ne fun y => hb (by rw [y]; exact mem_of ea))⟩
          unfold toD
          simp only [nth_eq, q, z]
      | f ds =>
        simp only at h
        refine ⟨wd.F, s, .lst ds, ?_, sr, Le.refl _, fun _ _ => rfl, rc.1, h⟩
        unfold toD
        simp only [nth_eq, q]
      | i c ws => simp only at h; exact h.elim
  | g n => exact h.elim
  | e c xs => exact h.elim
  | t => exact h.elim
theorem toD_eq_bnd (w : W) (k : D → M β) : bnd (toD w) k = bnd (toD w) k := rfl
theorem Rs.tds [RM rel2] : ∀ {ws : List W} {vs : List V} {k : List D → M β} {wd : Wd} {s : Sx}, Rs G Wx rel2 (bnd (toDs ws) k s) wd σ H Q → SR G wd s σ H → RWs G wd ws vs →
    ∃ (F' : Hp) (s1 : Sx) (xs : List D), toDs ws s = .ok xs s1 ∧ SR G { wd with F := F' } s1 σ H ∧ Le wd.F F' ∧ (∀ b, b ∉ wd.al → F' b = wd.F b) ∧ RDs G F' xs vs ∧ Rs G Wx rel2 (k xs s1) { wd with F := F' } σ H Q
  | [], vs, k, wd, s, h, sr, r => by
    simp only [RWs] at r
    subst r
    exact ⟨wd.F, s, [], rfl, sr, Le.refl _, fun _ _ => rfl, .nil, h⟩
  | w :: ws, vs, k, wd, s, h, sr, r => by
    simp only [RWs] at r
    obtain ⟨v, r', rfl, a, b⟩ := r
    have h' : Rs G Wx rel2 (bnd (toD w) (fun x => bnd (toDs ws) fun xs => k (x :: xs)) s) wd σ H Q := by
      simpa only [toDs, bnd_assoc, bnd_pur] using h
    obtain ⟨F', s1, x, e1, sr1, l1, n1, rx, h1⟩ := h'.td sr a
    obtain ⟨F2, s2, xs, e2, sr2, l2, n2, rxs, h2⟩ := Rs.tds h1 sr1 (b.mono (Wd.up_F l1))
    exact ⟨F2, s2, x :: xs, by simp [toDs, bnd, pur, e1, e2], sr2, l1.trans l2, fun c hc => (n2 c hc).trans (n1 c hc), .cons (RD.mono l2 _ _ rx) rxs, h2⟩
/-- behind toA -/
theorem Rs.ta [RM rel2] {w : W} {v : V} {k : W → M β} (h : Rs G Wx rel2 (bnd (toA w) k s) wd σ H Q) (sr : SR G wd s σ H) (r : RW G wd w v) :
    ∃ (F' : Hp) (s1 : Sx) (x : W), toA w s = .ok x s1 ∧ SR G { wd with F := F' } s1 σ H ∧ Le wd.F F' ∧ (∀ b, b ∉ wd.al → F' b = wd.F b) ∧ RW G { wd with F := F' } x v ∧ noL [x] = true ∧ Rs G Wx rel2 (k x s1) { wd with F := F' } σ H Q := by
  have other : ∀ (hw : ∀ n, w ≠ .g n), toA w s = bnd (toD w) (fun x => pur (.d x)) s := fun hw => by
    cases w with
    | g n => exact absurd rfl (hw n)
    | _ => rfl
  by_cases hg : ∃ n, w = .g n
  · obtain ⟨n, rfl⟩ := hg
    exact ⟨wd.F, s, .g n, rfl, sr, Le.refl _, fun _ _ => rfl, r, rfl, h⟩
  · have e := other fun n z => hg ⟨n, z⟩
    have h' : Rs G Wx rel2 (bnd (toD w) (fun x => k (.d x)) s) wd σ H Q := by
      unfold bnd at h
      rw [e] at h
      unfold bnd at h ⊢
      cases q : toD w s with
      | ok x s1 => simp only [q] at h ⊢; exact h
      | exc x s1 => simp only [q] at h ⊢; exact h
      | stuck => simp only [q] at h ⊢; exact h
    obtain ⟨F', s1, x, e1, sr1, l1, n1, rx, h1⟩ := h'.td sr r
    exact ⟨F', s1, .d x, by rw [e]; simp [bnd, pur, e1], sr1, l1, n1, rx, rfl, h1⟩
theorem noL_append : ∀ {a b : List W}, noL (a ++ b) = (noL a && noL b)
  | [], b => by simp [noL]
  | .d _ :: r, b => by simp [noL, noL_append (a := r) (b := b)]
  | .g _ :: r, b => by simp [noL, noL_append (a := r) (b := b)]
  | .l _ :: r, b => by simp [noL]
  | .e _ _ :: r, b => by simp [noL]
  | .t :: r, b => by simp [noL]
theorem noL_cons {a : W} {b : List W} : noL (a :: b) = (noL [a] && noL b) := noL_append (a := [a]) (b := b)
theorem Rs.tas [RM rel2] : ∀ {ws : List W} {vs : List V} {k : List W → M β} {wd : Wd} {s : Sx}, Rs G Wx rel2 (bnd (toAs ws) k s) wd σ H Q → SR G wd s σ H → RWs G wd ws vs →
    ∃ (F' : Hp) (s1 : Sx) (xs : List W), toAs ws s = .ok xs s1 ∧ SR G { wd with F := F' } s1 σ H ∧ Le wd.F F' ∧ (∀ b, b ∉ wd.al → F' b = wd.F b) ∧ RWs G { wd with F := F' } xs vs ∧ noL xs = true ∧ Rs G Wx rel2 (k xs s1) { wd with F := F' } σ H Q
  | [], vs, k, wd, s, h, sr, r => by
    simp only [RWs] at r
    subst r
    exact ⟨wd.F, s, [], rfl, sr, Le.refl _, fun _ _ => rfl, .nil, rfl, h⟩
  | w :: ws, vs, k, wd, s, h, sr, r => by
    simp only [RWs] at r
    obtain ⟨v, r', rfl, a, b⟩ := r
    have h' : Rs G Wx rel2 (bnd (toA w) (fun x => bnd (toAs ws) fun xs => k (x :: xs)) s) wd σ H Q := by
      simpa only [toAs, bnd_assoc, bnd_pur] using h
    obtain ⟨F', s1, x, e1, sr1, l1, n1, rx, nx, h1⟩ := h'.ta sr a
    obtain ⟨F2, s2, xs, e2, sr2, l2, n2, rxs, nxs, h2⟩ := Rs.tas h1 sr1 (b.mono (Wd.up_F l1))
    refine ⟨F2, s2, x :: xs, by simp [toAs, bnd, pur, e1, e2], sr2, l1.trans l2, fun c hc => (n2 c hc).trans (n1 c hc), .cons (RW.mono (wd' := { wd with F := F2 }) (Wd.up_F (wd := { wd with F := F' }) l2) rx) rxs, ?_, h2⟩
    rw [noL_cons, nx, nxs]; rfl
theorem Rs.ft [RM rel2] {α : Type} {xs : List α} {k : Unit → M β} (h : Rs G Wx rel2 (bnd (fits xs) k s) wd σ H Q) : xs.length ≤ sizeLine ∧ Rs G Wx rel2 (k () s) wd σ H Q := by
  unfold bnd fits at h
  by_cases z : xs.length ≤ 16777216
  · simp only [if_pos z] at h
    exact ⟨by rw [sizeLine_eq]; exact z, h⟩
  · simp only [if_neg z] at h
    exact h.elim
end

/-- nothing at all is told of what follows -/
def rZ {α : Type} : Hp → Wd → Hp → α → Unit → Prop := fun _ _ _ _ _ => False
instance {α : Type} : RM (rZ (α := α)) := ⟨fun _ _ _ _ _ _ _ h => h⟩
theorem toD_noexc (w : W) (s : Sx) : (∃ x s1, toD w s = .ok x s1) ∨ toD w s = .stuck := by
  unfold toD
  cases w with
  | d x => exact .inl ⟨_, _, rfl⟩
  | l n =>
    simp only
    cases nth s.l n with
    | none => exact .inr rfl
    | some c =>
      cases c with
      | m ws =>
        simp only
        cases allD ws with
        | none => exact .inr rfl
        | some ds => exact .inl ⟨_, _, rfl⟩
      | f ds => exact .inl ⟨_, _, rfl⟩
      | i c ws => exact .inr rfl
  | g n => exact .inr rfl
  | e c xs => exact .inr rfl
  | t => exact .inr rfl
theorem toA_of {w : W} (hw : ∀ n, w ≠ .g n) (s : Sx) : toA w s = bnd (toD w) (fun x => pur (.d x)) s := by
  cases w with
  | g n => exact absurd rfl (hw n)
  | _ => rfl
theorem toA_noexc (w : W) (s : Sx) : (∃ x s1, toA w s = .ok x s1) ∨ toA w s = .stuck := by
  by_cases hg : ∃ n, w = .g n
  · obtain ⟨n, rfl⟩ := hg
    exact .inl ⟨_, _, rfl⟩
  · rw [toA_of (fun n z => hg ⟨n, z⟩)]
    unfold bnd
    rcases toD_noexc w s with ⟨x, s1, e⟩ | e
    · rw [e]; exact .inl ⟨_, _, rfl⟩
    · rw [e]; exact .inr rfl
section
variable {G : Gx} {wd : Wd} {s : Sx} {σ : L2.St} {H : Hp}
theorem toA_ok {w x : W} {v : V} {s1 : Sx} (sr : SR G wd s σ H) (r : RW G wd w v) (e : toA w s = .ok x s1) :
    ∃ F' : Hp, SR G { wd with F := F' } s1 σ H ∧ Le wd.F F' ∧ (∀ b, b ∉ wd.al → F' b = wd.F b) ∧ RW G { wd with F := F' } x v ∧ noL [x] = true := by
  have h : Rs G (fun _ _ _ _ => True) (rZ (α := W)) (bnd (toA w) pur s) wd σ H (fun _ _ => True) := by
    rw [bnd_ret, e]; exact fun _ _ _ _ _ z => z.elim
  obtain ⟨F', s2, y, e2, sr1, l1, n1, rx, nx, _⟩ := h.ta sr r
  rw [e] at e2
  cases e2
  exact ⟨F', sr1, l1, n1, rx, nx⟩
theorem toAs_ok {ws xs : List W} {vs : List V} {s1 : Sx} (sr : SR G wd s σ H) (r : RWs G wd ws vs) (e : toAs ws s = .ok xs s1) :
    ∃ F' : Hp, SR G { wd with F := F' } s1 σ H ∧ Le wd.F F' ∧ (∀ b, b ∉ wd.al → F' b = wd.F b) ∧ RWs G { wd with F := F' } xs vs ∧ noL xs = true := by
  have h : Rs G (fun _ _ _ _ => True) (rZ (α := List W)) (bnd (toAs ws) pur s) wd σ H (fun _ _ => True) := by
    rw [bnd_ret, e]; exact fun _ _ _ _ _ z => z.elim
  obtain ⟨F', s2, y, e2, sr1, l1, n1, rx, nx, _⟩ := Rs.tas h sr r
  rw [e] at e2
  cases e2
  exact ⟨F', sr1, l1, n1, rx, nx⟩
theorem toD_ok {w : W} {x : D} {v : V} {s1 : Sx} (sr : SR G wd s σ H) (r : RW G wd w v) (e : toD w s = .ok x s1) :
    ∃ F' : Hp, SR G { wd with F := F' } s1 σ H ∧ Le wd.F F' ∧ (∀ b, b ∉ wd.al → F' b = wd.F b) ∧ RD G F' x v := by
  have h : Rs G (fun _ _ _ _ => True) (rZ (α := D)) (bnd (toD w) pur s) wd σ H (fun _ _ => True) := by
    rw [bnd_ret, e]; exact fun _ _ _ _ _ z => z.elim
  obtain ⟨F', s2, y, e2, sr1, l1, n1, rx, _⟩ := h.td sr r
  rw [e] at e2
  cases e2
  exact ⟨F', sr1, l1, n1, rx⟩
end
section
variable {G : Gx} {c : Cf} {a b : Expr} {es : List Expr} {fa fb : M W} {fs : M (List W)} {pos : Pos}
/-! ### new lists, as they are used -/
theorem Stp.frz {wd wd1 : Wd} {H H1 : Hp} (st : Stp wd H wd1 H1) {p : Addr} {o : HO} (hp : H p = none) (hf : wd1.F p = none) : Stp wd H { wd1 with F := upd wd1.F p o } H1 :=
  ⟨st.up.trans (Wd.up_F (Le.add hf)), st.na, st.nb, st.fr, st.dom, fun b h k => by
    by_cases z : b = p
    · rw [z]; exact .inl (.of hp)
    · have k : upd wd1.F p o b ≠ none := k
      rw [upd_ne z] at k
      exact st.fz b h k⟩
theorem rd_frz {Wx : WX} {f : M (List W)} {σ : L2.St} {H : Hp} {Q : VK} (h : rd G Wx (rW G) (frz f) σ H Q) : rd G Wx (rL G) f σ H Q := by
  obtain ⟨wd, s, sr, h⟩ := h
  refine ⟨wd, s, sr, ?_⟩
  unfold frz at h
  unfold bnd at h
  cases q : f s with
  | exc x s1 => simp only [q] at h; exact h
  | stuck => simp only [q] at h; exact h
  | ok ws s1 =>
    simp only [q] at h
    intro x H1 wd1 st1 sr1 r1
    obtain ⟨p, vs, rfl, hp, h2, hf, nl, nb, rw'⟩ := r1
    have hb : Rs G Wx (rW G) (bnd (toDs ws) (fun ds => pur (.d (.lst ds))) s1) wd σ H Q := by
      unfold bnd
      exact h
    obtain ⟨F', s2, ds, e2, sr2, l2, n2, rds, _⟩ := Rs.tds (hb.step st1) sr1 rw'
    simp only [e2] at h
    have hf2 : F' p = none := (n2 p nl).trans hf
    exact h _ _ _ ((st1.trans (Stp.F l2 n2)).frz hp hf2) (sr2.freeze (fun _ z => by cases z) h2 nl nb hf2) (by
      show RD G _ (.lst ds) _
      simp only [RD]
      exact ⟨p, vs, rfl, SqL.of upd_same, RDs.mono (Le.add hf2) _ _ rds⟩)
theorem me_frz {f : M (List W)} (h : ML G c a f) : ME G c a (frz f) := fun X on Wx tk => (h X on Wx tk).imp fun σ H Q q => rd_frz q
theorem SR.own {wd : Wd} {s : Sx} {σ : L2.St} {H : Hp} (sr : SR G wd s σ H) {p : Addr} {ws : List W} {vs : List V} (h2 : H p = some (.lst vs)) (hf : wd.F p = none) (nl : p ∉ wd.al) (nb : p ∉ wd.be) (rw : RWs G wd ws vs) :
    SR G { wd with al := wd.al ++ [p] } { s with l := s.l ++ [.m ws] } σ H := by
  have up : Up wd { wd with al := wd.al ++ [p] } := ⟨⟨[p], rfl⟩, ⟨[], by simp⟩, Le.refl _⟩
  have rcUp : ∀ {q : Addr} {cl : Cell}, RC G wd H q cl → RC G { wd with al := wd.al ++ [p] } H q cl := fun {q cl} rc => by
    cases cl with
    | m ws => obtain ⟨vs, e, f, r⟩ := rc; exact ⟨vs, e, f, r.mono up⟩
    | f ds => exact rc
    | i c ws => obtain ⟨dx, fs, vs, e, f, z, r⟩ := rc; exact ⟨dx, fs, vs, e, f, z, r.mono up⟩
  refine ⟨sr.le, sr.len, fun i w e => ?_, ?_, sr.lb, ?_, fun i cl e => ?_, fun i cl e => ?_, sr.gn, sr.tb⟩
  · obtain ⟨v, p, q⟩ := sr.env i w e
    exact ⟨v, p, q.mono up⟩
  · show (wd.al ++ [p]).length = (s.l ++ [_]).length
    rw [List.length_append, List.length_append, sr.la]; rfl
  · show ((wd.al ++ [p]) ++ wd.be).Nodup
    rw [List.append_assoc]
    have nd := List.nodup_append.mp sr.nd
    refine List.nodup_append.mpr ⟨nd.1, List.nodup_append.mpr ⟨by simp, nd.2.1, fun x hx y hy => ?_⟩, fun x hx y hy => ?_⟩
    · have : x = p := by simpa using hx
      subst this
      exact fun z => nb (by rw [z]; exact hy)
    · rcases List.mem_append.mp hy with h | h
      · have : y = p := by simpa using h
        subst this
        exact fun z => nl (by rw [← z]; exact hx)
      · exact nd.2.2 x hx y h
  · have e' : (s.l ++ [Cell.m ws])[i]? = some cl := e
    by_cases y : i < s.l.length
    · rw [List.getElem?_append_left y] at e'
      obtain ⟨q, eq, rc⟩ := sr.lc i cl e'
      exact ⟨q, at_app eq, rcUp rc⟩
    · rw [List.getElem?_append_right (by omega)] at e'
      have hi : i - s.l.length = 0 := by
        have := (List.getElem?_eq_some_iff.mp e').1
        simp at this; omega
      rw [hi] at e'
      cases e'
      refine ⟨p, ?_, vs, h2, hf, rw.mono up⟩
      show (wd.al ++ [p])[i]? = some p
      rw [List.getElem?_append_right (by rw [sr.la]; omega), sr.la, hi]
      rfl
  · obtain ⟨q, eq, rc⟩ := sr.gc i cl e
    exact ⟨q, eq, rcUp rc⟩
theorem Stp.own {wd wd1 : Wd} {H H1 : Hp} (st : Stp wd H wd1 H1) {p : Addr} (hp : H p = none) : Stp wd H { wd1 with al := wd1.al ++ [p] } H1 :=
  ⟨st.up.trans ⟨⟨[p], rfl⟩, ⟨[], by simp⟩, Le.refl _⟩, fun a h n => (List.mem_append.mp h).elim (fun h => st.na a h n) (fun h => by
    have : a = p := by simpa using h
    rw [this]; exact hp), st.nb, st.fr, st.dom, st.fz⟩
theorem rd_own {Wx : WX} {f : M (List W)} {σ : L2.St} {H : Hp} {Q : VK} (h : rd G Wx (rW G) (own f) σ H Q) : rd G Wx (rL G) f σ H Q := by
  obtain ⟨wd, s, sr, h⟩ := h
  refine ⟨wd, s, sr, ?_⟩
  unfold own bnd at h
  cases q : f s with
  | exc x s1 => simp only [q] at h; exact h
  | stuck => simp only [q] at h; exact h
  | ok ws s1 =>
    simp only [q] at h
    intro x H1 wd1 st1 sr1 r1
    obtain ⟨p, vs, rfl, hp, h2, hf, nl, nb, rw⟩ := r1
    refine h _ H1 { wd1 with al := wd1.al ++ [p] } (st1.own hp) (sr1.own h2 hf nl nb rw) ?_
    · refine ⟨p, ?_, rfl⟩
      show (wd1.al ++ [p])[s1.l.length]? = some p
      rw [← sr1.la, List.getElem?_append_right (Nat.le_refl _), Nat.sub_self]
      rfl
end
end Mn
set_option Elab.async false
set_option linter.all false
set_option maxRecDepth 100000
set_option maxHeartbeats 1000000
/-! M5: shared lists, displays, tuples, tests, places, the methods of lists. -/
namespace Mn
open PySem PySem.Spec PyProof.Rows L2

section
variable {G : Gx} {wd : Wd} {s : Sx} {σ : L2.St} {H : Hp}
theorem SR.glo (sr : SR G wd s σ H) {p : Addr} {ws : List W} {vs : List V} (h2 : H p = some (.lst vs)) (hf : wd.F p = none) (nl : p ∉ wd.al) (nb : p ∉ wd.be) (rw : RWs G wd ws vs) (hn : noL ws = true) :
    SR G { wd with be := wd.be ++ [p] } { s with g := s.g ++ [.m ws] } σ H := by
  have up : Up wd { wd with be := wd.be ++ [p] } := ⟨⟨[], by simp⟩, ⟨[p], rfl⟩, Le.refl _⟩
  have rcUp : ∀ {q : Addr} {cl : Cell}, RC G wd H q cl → RC G { wd with be := wd.be ++ [p] } H q cl := fun {q cl} rc => by
    cases cl with
    | m ws => obtain ⟨vs, e, f, r⟩ := rc; exact ⟨vs, e, f, r.mono up⟩
    | f ds => exact rc
    | i c ws => obtain ⟨dx, fs, vs, e, f, z, r⟩ := rc; exact ⟨dx, fs, vs, e, f, z, r.mono up⟩
  refine ⟨sr.le, sr.len, fun i w e => ?_, sr.la, ?_, ?_, fun i cl e => ?_, fun i cl e => ?_, fun i cl e => ?_, sr.tb⟩
  · obtain ⟨v, p, q⟩ := sr.env i w e
    exact ⟨v, p, q.mono up⟩
  · show (wd.be ++ [p]).length = (s.g ++ [_]).length
    rw [List.length_append, List.length_append, sr.lb]; rfl
  · show (wd.al ++ (wd.be ++ [p])).Nodup
    have nd := List.nodup_append.mp sr.nd
    refine List.nodup_append.mpr ⟨nd.1, List.nodup_append.mpr ⟨nd.2.1, by simp, fun x hx y hy => ?_⟩, fun x hx y hy => ?_⟩
    · have : y = p := by simpa using hy
      subst this
      exact fun z => nb (by rw [← z]; exact hx)
    · rcases List.mem_append.mp hy with h | h
      · exact nd.2.2 x hx y h
      · have : y = p := by simpa using h
        subst this
        exact fun z => nl (by rw [← z]; exact hx)
  · obtain ⟨q, eq, rc⟩ := sr.lc i cl e
    exact ⟨q, eq, rcUp rc⟩
  · have e' : (s.g ++ [Cell.m ws])[i]? = some cl := e
    by_cases y : i < s.g.length
    · rw [List.getElem?_append_left y] at e'
      obtain ⟨q, eq, rc⟩ := sr.gc i cl e'
      exact ⟨q, at_app eq, rcUp rc⟩
    · rw [List.getElem?_append_right (by omega)] at e'
      have hi : i - s.g.length = 0 := by
        have := (List.getElem?_eq_some_iff.mp e').1
        simp at this; omega
      rw [hi] at e'
      cases e'
      refine ⟨p, ?_, vs, h2, hf, rw.mono up⟩
      show (wd.be ++ [p])[i]? = some p
      rw [List.getElem?_append_right (by rw [sr.lb]; omega), sr.lb, hi]
      rfl
  · have e' : (s.g ++ [Cell.m ws])[i]? = some cl := e
    by_cases y : i < s.g.length
    · rw [List.getElem?_append_left y] at e'
      exact sr.gn i cl e'
    · rw [List.getElem?_append_right (by omega)] at e'
      have hi : i - s.g.length = 0 := by
        have := (List.getElem?_eq_some_iff.mp e').1
        simp at this; omega
      rw [hi] at e'
      cases e'
      exact hn
theorem Stp.glo {wd1 : Wd} {H1 : Hp} (st : Stp wd H wd1 H1) {p : Addr} (hp : H p = none) : Stp wd H { wd1 with be := wd1.be ++ [p] } H1 :=
  ⟨st.up.trans ⟨⟨[], by simp⟩, ⟨[p], rfl⟩, Le.refl _⟩, st.na, fun a h n => (List.mem_append.mp h).elim (fun h => st.nb a h n) (fun h => by
    have : a = p := by simpa using h
    rw [this]; exact hp), st.fr, st.dom, st.fz⟩
theorem tabs_put {T : List (Addr × Str)} {a : Addr} {vs vs' : List V} (ha : H a = some (.lst vs)) (t : LamX.Tabs T H) : LamX.Tabs T (upd H a (.lst vs')) := fun p hp => by
  obtain ⟨ps, h1, h2, h3⟩ := t p hp
  refine ⟨ps, ?_, h2, fun pos cv hc => ?_⟩
  · rw [upd_ne (fun z => by rw [z, ha] at h1; cases h1)]; exact h1
  · obtain ⟨c, e1, e2⟩ := h3 pos cv hc
    refine ⟨c, e1, ?_⟩
    rw [upd_ne (fun z => by rw [z, ha] at e2; cases e2)]; exact e2
theorem RC.upd {a b : Addr} {o : HO} {c : Cell} (n : b ≠ a) (h : RC G wd H b c) : RC G wd (upd H a o) b c := by
  cases c with
  | m ws =>
    obtain ⟨vs, e, f, r⟩ := h
    exact ⟨vs, by rw [upd_ne n]; exact e, f, r⟩
  | f ds => exact ⟨h.1, by rw [upd_ne n]; exact h.2⟩
  | i c ws =>
    obtain ⟨dx, fs, vs, e, f, z, r⟩ := h
    exact ⟨dx, fs, vs, by rw [upd_ne n]; exact e, f, z, r⟩
/-- where a list stands that may change, and what it is to change it -/
theorem lstAt_rel (sr : SR G wd s σ H) {w : W} {v : V} {ws : List W} (r : RW G wd w v) (e : lstAt s w = some ws) : ∃ a vs, v = .ref a ∧ H a = some (.lst vs) ∧ RWs G wd ws vs ∧
    ∀ ws' vs' s1, lstPut w ws' s = some s1 → RWs G wd ws' vs' → SR G wd s1 σ (upd H a (.lst vs')) ∧ Stp wd H wd (upd H a (.lst vs')) := by
  have stp : ∀ {a : Addr} {vs vs' : List V}, H a = some (.lst vs) → (a ∈ wd.al ∨ a ∈ wd.be) → Stp wd H wd (L2.upd H a (.lst vs')) := fun {a vs vs'} ha hm => by
    refine ⟨Up.refl _, fun _ x y => absurd x y, fun _ x y => absurd x y, fun b o h n1 n2 _ => ?_, fun b h => ?_, fun _ x y => absurd x y⟩
    · rw [upd_ne (fun z => by rcases hm with m | m; exact n1 (by rw [z]; exact m); exact n2 (by rw [z]; exact m))]; exact h
    · by_cases z : b = a
      · subst z; rw [upd_same] at h; cases h
      · rw [upd_ne z] at h; exact h
  have le : ∀ {a : Addr} {vs' : List V}, wd.F a = none → Le wd.F (L2.upd H a (.lst vs')) := fun {a vs'} hf b o q => by
    rw [upd_ne (ne_of_none q hf)]; exact sr.le b o q
  cases w with
  | l n =>
    obtain ⟨a, ea, rfl⟩ := r
    simp only [lstAt, nth_eq] at e
    cases q : s.l[n]? with
    | none => simp only [q] at e; cases e
    | some cl =>
      simp only [q] at e
      obtain ⟨a', ea', rc⟩ := sr.lc n cl q
      rw [ea] at ea'; cases ea'
      cases cl with
      | f ds => cases e
      | i c ws => cases e
      | m ws0 =>
        simp only at e
        cases e
        obtain ⟨vs, h1, hf, h2⟩ := rc
        refine ⟨a, vs, rfl, h1, h2, fun ws' vs' s1 hp hr => ⟨?_, stp h1 (.inl (mem_of ea))⟩⟩
        simp only [lstPut] at hp
        cases hp
        refine ⟨le hf, sr.len, sr.env, ?_, sr.lb, sr.nd, fun i c e => ?_, fun i c e => ?_, sr.gn, ⟨tabs_put h1 sr.tb.1, sr.tb.2⟩⟩
        · show wd.al.length = (upAt s.l n _).length
          rw [upAt_eq, List.length_set]; exact sr.la
        · have e' : (upAt s.l n (.m ws'))[i]? = some c := e
          rw [upAt_get] at e'
          by_cases y : i = n
          · subst y
            rw [if_pos rfl] at e'
            split at e'
            · cases e'
              exact ⟨a, ea, vs', upd_same, hf, hr⟩
            · cases e'
          · rw [if_neg y] at e'
            obtain ⟨b, p, rc⟩ := sr.lc i c e'
            exact ⟨b, p, rc.upd fun w => y (nd_ll sr.nd p (by rw [w]; exact ea))⟩
        · obtain ⟨b, p, rc⟩ := sr.gc i c e
          exact ⟨b, p, rc.upd fun w => nd_lm sr.nd (mem_of ea) (mem_of p) w.symm⟩
  | g n =>
    obtain ⟨a, ea, rfl⟩ := r
    simp only [lstAt, nth_eq] at e
    cases q : s.g[n]? with
    | none => simp only [q] at e; cases e
    | some cl =>
      simp only [q] at e
      obtain ⟨a', ea', rc⟩ := sr.gc n cl q
      rw [ea] at ea'; cases ea'
      cases cl with
      | f ds => cases e
      | i c ws => cases e
      | m ws0 =>
        simp only at e
        cases e
        obtain ⟨vs, h1, hf, h2⟩ := rc
        refine ⟨a, vs, rfl, h1, h2, fun ws' vs' s1 hp hr => ⟨?_, stp h1 (.inr (mem_of ea))⟩⟩
        simp only [lstPut] at hp
        split at hp
        · rename_i hn
          cases hp
          refine ⟨le hf, sr.len, sr.env, sr.la, ?_, sr.nd, fun i c e => ?_, fun i c e => ?_, fun i c e => ?_, ⟨tabs_put h1 sr.tb.1, sr.tb.2⟩⟩
          · show wd.be.length = (upAt s.g n _).length
            rw [upAt_eq, List.length_set]; exact sr.lb
          · obtain ⟨b, p, rc⟩ := sr.lc i c e
            exact ⟨b, p, rc.upd fun w => nd_lm sr.nd (mem_of p) (mem_of ea) w⟩
          · have e' : (upAt s.g n (.m ws'))[i]? = some c := e
            rw [upAt_get] at e'
            by_cases y : i = n
            · subst y
              rw [if_pos rfl] at e'
              split at e'
              · cases e'
                exact ⟨a, ea, vs', upd_same, hf, hr⟩
              · cases e'
            · rw [if_neg y] at e'
              obtain ⟨b, p, rc⟩ := sr.gc i c e'
              exact ⟨b, p, rc.upd fun w => y (nd_mm sr.nd p (by rw [w]; exact ea))⟩
          · have e' : (upAt s.g n (.m ws'))[i]? = some c := e
            rw [upAt_get] at e'
            by_cases y : i = n
            · subst y
              rw [if_pos rfl] at e'
              split at e'
              · cases e'
                exact hn
              · cases e'
            · rw [if_neg y] at e'
              exact sr.gn i c e'
        · cases hp
  | d x => simp [lstAt] at e
  | e c xs => simp [lstAt] at e
  | t => simp [lstAt] at e
/-- items of a list or a tuple as they stand -/
theorem items_rel (sr : SR G wd s σ H) {w : W} {v : V} {ws : List W} (r : RW G wd w v) (e : items s w = some ws) : ∃ a vs, v = .ref a ∧ (SqL G.K H a vs ∨ SqT G.K H a vs) ∧ RWs G wd ws vs := by
  cases w with
  | d x =>
    cases x with
    | tup xs =>
      simp only [items] at e
      cases e
      simp only [RW, RD] at r
      obtain ⟨a, vs, rfl, q, k⟩ := r
      exact ⟨a, vs, rfl, .inr (sr.le.sqT q), RWs.of_D k⟩
    | lst xs =>
      simp only [items] at e
      cases e
      simp only [RW, RD] at r
      obtain ⟨a, vs, rfl, q, k⟩ := r
      exact ⟨a, vs, rfl, .inl (sr.le.sqL q), RWs.of_D k⟩
    | tun xs =>
      simp only [items] at e
      cases e
      simp only [RW, RD] at r
      obtain ⟨a, vs, o, rfl, q, _, k⟩ := r
      exact ⟨a, vs, rfl, .inr (sr.le.sqT (.inl (.inr ⟨o, q⟩))), RWs.of_D k⟩
    | _ => simp [items] at e
  | l n =>
    obtain ⟨a, ea, rfl⟩ := r
    simp only [items, nth_eq] at e
    cases q : s.l[n]? with
    | none => simp only [q] at e; cases e
    | some cl =>
      simp only [q] at e
      obtain ⟨a', ea', rc⟩ := sr.lc n cl q
      rw [ea] at ea'; cases ea'
      cases cl with
      | f ds =>
        simp only at e
        cases e
        have k := rc.1
        simp only [RD] at k
        obtain ⟨b, vs, eb, q, k⟩ := k
        cases eb
        exact ⟨_, vs, rfl, .inl (sr.le.sqL q), RWs.of_D k⟩
      | i c ws => cases e
      | m ws0 =>
        simp only at e
        cases e
        obtain ⟨vs, h1, hf, h2⟩ := rc
        exact ⟨a, vs, rfl, .inl (SqL.of h1), h2⟩
  | g n =>
    obtain ⟨a, ea, rfl⟩ := r
    simp only [items, nth_eq] at e
    cases q : s.g[n]? with
    | none => simp only [q] at e; cases e
    | some cl =>
      simp only [q] at e
      obtain ⟨a', ea', rc⟩ := sr.gc n cl q
      rw [ea] at ea'; cases ea'
      cases cl with
      | f ds => cases e
      | i c ws => cases e
      | m ws0 =>
        simp only at e
        cases e
        obtain ⟨vs, h1, hf, h2⟩ := rc
        exact ⟨a, vs, rfl, .inl (SqL.of h1), h2⟩
  | e c xs => simp [items] at e
  | t => simp [items] at e
end
section
variable {G : Gx} {c : Cf} {a b o : Expr} {es : List Expr} {fa fb f : M W} {ta tb : M Bool} {fs : M (List W)} {pos : Pos}
theorem rd_glo {Wx : WX} {f : M (List W)} {σ : L2.St} {H : Hp} {Q : VK} (h : rd G Wx (rW G) (glo f) σ H Q) : rd G Wx (rL G) f σ H Q := by
  obtain ⟨wd, s, sr, h⟩ := h
  refine ⟨wd, s, sr, ?_⟩
  unfold glo bnd at h
  cases q : f s with
  | exc x s1 => simp only [q] at h; exact h
  | stuck => simp only [q] at h; exact h
  | ok ws s1 =>
    simp only [q] at h
    by_cases hn : noL ws = true
    · simp only [if_pos hn] at h
      intro x H1 wd1 st1 sr1 r1
      obtain ⟨p, vs, rfl, hp, h2, hf, nl, nb, rw⟩ := r1
      refine h _ H1 { wd1 with be := wd1.be ++ [p] } (st1.glo hp) (sr1.glo h2 hf nl nb rw hn) ?_
      refine ⟨p, ?_, rfl⟩
      show (wd1.be ++ [p])[s1.g.length]? = some p
      rw [← sr1.lb, List.getElem?_append_right (Nat.le_refl _), Nat.sub_self]
      rfl
    · simp only [if_neg hn] at h
      exact h.elim
theorem me_own {f : M (List W)} (h : ML G c a f) : ME G c a (own f) := fun X on Wx tk => (h X on Wx tk).imp fun σ H Q q => rd_own q
theorem me_glo {f : M (List W)} (h : ML G c a f) : ME G c a (glo f) := fun X on Wx tk => (h X on Wx tk).imp fun σ H Q q => rd_glo q

/-! ### arguments, displays, tuples -/
theorem ma_nil : MA G c [] (args []) := fun X on Wx tk => (pa_nil).imp fun σ H Q h => by
  obtain ⟨wd, s, sr, h⟩ := h
  exact Rs.ok_now (v := []) h sr (show RWs G wd [] [] from .nil)
theorem rd_cons {Wx : WX} {gs : List (M W)} {σ : L2.St} {H : Hp} {Q : List V → Hp → Prop} (h : rd G Wx (rA G) (args (fa :: gs)) σ H Q) : tCons (rd G Wx (rW G) fa) (rd G Wx (rA G) (args gs)) σ H Q := by
  obtain ⟨wd, s, sr, h⟩ := h
  simp only [args] at h
  refine ⟨wd, s, sr, (Rs.bd (rel := rW G) h).imp fun x H1 ⟨wd1, s1, w, _, _, sr1, r1, h1⟩ => ?_⟩
  refine ⟨wd1, s1, sr1, (Rs.bd (rel := rA G) h1).imp fun xs H2 ⟨wd2, s2, ws, _, st2, sr2, r2, h2⟩ => ?_⟩
  exact Rs.ok_now (v := x :: xs) h2 sr2 (show RWs G wd2 (w :: ws) (x :: xs) from .cons (RW.mono st2.up r1) r2)
theorem ma_cons {gs : List (M W)} (ha : ME G c a fa) (hr : MA G c es (args gs)) (hs : ∀ env, starEach (a :: es) env = (false, eval a env) :: starEach es env := by intro _; rfl) : MA G c (a :: es) (args (fa :: gs)) := fun X on Wx tk =>
  (pa_cons (ha X on Wx tk) (hr X on Wx tk) (hs _)).imp fun σ H Q h => rd_cons h
theorem me_tup {x1} (h : MA G c es fs) : ME G c (.Tuple es x1 pos) (tup fs) := fun X on Wx tk => (pe_tup (h X on Wx tk)).imp fun σ H Q q => by
  obtain ⟨wd, s, sr, q⟩ := q
  refine ⟨wd, s, sr, (Rs.bd (rel := rA G) q).imp fun xs H1 ⟨wd1, s1, ws, _, _, sr1, r1, h1⟩ => ?_⟩
  obtain ⟨hl, h2⟩ := Rs.ft h1
  obtain ⟨F', s2, ds, _, sr2, l2, n2, rds, h3⟩ := Rs.tds h2 sr1 r1
  refine ⟨by rw [RWs.length r1]; exact hl, fun p hp => ?_⟩
  exact Rs.finD h3 sr2 (New.one sr2.le hp) (by
    simp only [RD]
    exact ⟨p, xs, rfl, SqT.of upd_same, RDs.mono (Le.new (sr2.le.no hp)) _ _ rds⟩)
theorem ml_dsp (h : MA G c es fs) : ML G c (.List es pos) (dsp fs) := fun X on Wx tk => (pe_lst (h X on Wx tk)).imp fun σ H Q q => by
  obtain ⟨wd, s, sr, q⟩ := q
  refine ⟨wd, s, sr, (Rs.bd (rel := rA G) q).imp fun xs H1 ⟨wd1, s1, ws, _, _, sr1, r1, h1⟩ => ?_⟩
  obtain ⟨hl, h2⟩ := Rs.ft h1
  refine ⟨by rw [RWs.length r1]; exact hl, fun p hp => ?_⟩
  have n : New wd1.F H1 wd1.F (upd H1 p (.lst xs)) := ⟨Le.refl _, sr1.le.trans (Le.new hp), Le.new hp, (fun b e n => absurd e n), fun _ _ h => h⟩
  exact h2 _ _ wd1 n.stp (sr1.new n) ⟨p, xs, rfl, hp, upd_same, sr1.le.no hp, fun z => sr1.addr_l z hp, fun z => sr1.addr_b z hp, r1⟩

/-! ### tests and truth values -/
theorem rd_bT {Wx : WX} {k : Bool → M Bool} {σ : L2.St} {H : Hp} {Q : Bool → Hp → Prop} (h : rd G Wx rB (bnd ta k) σ H Q) : rd G Wx rB ta σ H fun x H1 => rd G Wx rB (k x) σ H1 Q := by
  obtain ⟨wd, s, sr, h⟩ := h
  refine ⟨wd, s, sr, (Rs.bd (rel := rB) h).imp fun x H1 ⟨wd1, s1, w, _, _, sr1, r1, h1⟩ => ?_⟩
  have e : x = w := r1
  subst e
  exact ⟨wd1, s1, sr1, h1⟩
theorem rd_pB {Wx : WX} {x : Bool} {σ : L2.St} {H : Hp} {Q : Bool → Hp → Prop} (h : rd G Wx rB (pur x) σ H Q) : Q x H := by
  obtain ⟨wd, s, sr, h⟩ := h
  exact Rs.ok_now (v := x) h sr rfl
/-- a test whatever its whole is -/
def MW (G : Gx) (c : Cf) (e : Expr) (f : M Bool) : Prop := ∀ X, On G c X → ∀ Wx, Takes X Wx → PW X e (rd G Wx rB f)
theorem mw_and1 (h : MT G c a ta) : MW G c (.BoolOp .And [a] pos) ta := fun X on Wx tk => pw_and1 (h X on Wx tk)
theorem mw_or1 (h : MT G c a ta) : MW G c (.BoolOp .Or [a] pos) ta := fun X on Wx tk => pw_or1 (h X on Wx tk)
theorem _root_.L2.PW.imp {X : Cx} {e : Expr} {t u : TT} (h : PW X e t) (k : ∀ σ H Q, u σ H Q → t σ H Q) : PW X e u := ⟨fun wh pins s σ H Q I q => h.run wh pins s σ H Q I (k σ H Q q)⟩
theorem mw_and {rest : List Expr} (ha : MT G c a ta) (hb : MW G c (.BoolOp .And (b :: rest) pos) tb) : MW G c (.BoolOp .And (a :: b :: rest) pos) (andT ta tb) := fun X on Wx tk =>
  (pw_and (ha X on Wx tk) (hb X on Wx tk)).imp fun σ H Q h => (by
    obtain ⟨wd, s, sr, h⟩ := rd_bT h
    refine ⟨wd, s, sr, h.imp fun x H1 q => ?_⟩
    cases x with
    | true => exact q
    | false => exact rd_pB q)
theorem mw_or {rest : List Expr} (ha : MT G c a ta) (hb : MW G c (.BoolOp .Or (b :: rest) pos) tb) : MW G c (.BoolOp .Or (a :: b :: rest) pos) (orT ta tb) := fun X on Wx tk =>
  (pw_or (ha X on Wx tk) (hb X on Wx tk)).imp fun σ H Q h => (by
    obtain ⟨wd, s, sr, h⟩ := rd_bT h
    refine ⟨wd, s, sr, h.imp fun x H1 q => ?_⟩
    cases x with
    | true => exact rd_pB q
    | false => exact q)
theorem mt_w (h : MW G c a ta) : MT G c a ta := fun X on Wx tk => (h X on Wx tk).pt
theorem mt_not (h : MT G c a ta) : MT G c (.UnaryOp .Not a pos) (notT ta) := fun X on Wx tk => (pt_not (h X on Wx tk)).imp fun σ H Q h => (by
  obtain ⟨wd, s, sr, h⟩ := rd_bT h
  exact ⟨wd, s, sr, h.imp fun x H1 q => rd_pB q⟩)
theorem rd_bV {Wx : WX} {k : Bool → M W} {σ : L2.St} {H : Hp} {Q : VK} (h : rd G Wx (rW G) (bnd ta k) σ H Q) : rd G Wx rB ta σ H fun x H1 => rd G Wx (rW G) (k x) σ H1 Q := by
  obtain ⟨wd, s, sr, h⟩ := h
  refine ⟨wd, s, sr, (Rs.bd (rel := rB) h).imp fun x H1 ⟨wd1, s1, w, _, _, sr1, r1, h1⟩ => ?_⟩
  have e : x = w := r1
  subst e
  exact ⟨wd1, s1, sr1, h1⟩
theorem rd_pV {Wx : WX} {x : D} {v : V} (hv : ∀ F, RD G F x v) {σ : L2.St} {H : Hp} {Q : VK} (h : rd G Wx (rW G) (pur (.d x)) σ H Q) : Q v H := by
  obtain ⟨wd, s, sr, h⟩ := h
  exact Rs.ok_now h sr (hv _)
theorem me_one {op} (h : ME G c a fa) : ME G c (.BoolOp op [a] pos) fa := fun X on Wx tk => pe_one (h X on Wx tk)
theorem me_and {rest : List Expr} (ha : ME G c a fa) (hb : ME G c (.BoolOp .And (b :: rest) pos) fb) : ME G c (.BoolOp .And (a :: b :: rest) pos) (andV fa fb) := fun X on Wx tk =>
  (pe_and (ha X on Wx tk) (hb X on Wx tk)).imp fun σ H Q h => (by
    obtain ⟨wd, s, sr, h⟩ := rd_tst (rd_bV h)
    refine ⟨wd, s, sr, h.imp fun x H1 ⟨k, e, q⟩ => ⟨k, e, ?_⟩⟩
    cases k with
    | true => exact q
    | false => exact rd_pV (fun F => by simp only [RD]) q)
theorem me_or {rest : List Expr} (ha : ME G c a fa) (hb : ME G c (.BoolOp .Or (b :: rest) pos) fb) : ME G c (.BoolOp .Or (a :: b :: rest) pos) (orV fa fb) := fun X on Wx tk =>
  (pe_or (ha X on Wx tk) (hb X on Wx tk)).imp fun σ H Q h => (by
    obtain ⟨wd, s, sr, h⟩ := rd_tst (rd_bV h)
    refine ⟨wd, s, sr, h.imp fun x H1 ⟨k, e, q⟩ => ⟨k, e, ?_⟩⟩
    cases k with
    | true => exact rd_pV (fun F => by simp only [RD]) q
    | false => exact q)
theorem me_not (ha : ME G c a fa) : ME G c (.UnaryOp .Not a pos) (notV fa) := fun X on Wx tk =>
  (pe_not (ha X on Wx tk)).imp fun σ H Q h => (by
    obtain ⟨wd, s, sr, h⟩ := rd_tst (rd_bV h)
    exact ⟨wd, s, sr, h.imp fun x H1 ⟨k, e, q⟩ => ⟨k, e, rd_pV (fun F => by simp only [RD]) q⟩⟩)
theorem me_ite {t : Expr} (ht : MT G c t ta) (ha : ME G c a fa) (hb : ME G c b fb) : ME G c (.IfExp t a b pos) (ite ta fa fb) := fun X on Wx tk =>
  (pe_ifExp (ht X on Wx tk) (ha X on Wx tk) (hb X on Wx tk)).imp fun σ H Q h => (by
    obtain ⟨wd, s, sr, h⟩ := rd_bV h
    refine ⟨wd, s, sr, h.imp fun x H1 q => ?_⟩
    cases x with
    | true => exact q
    | false => exact q)

/-! ### places -/
theorem ixd_eq (n : Nat) (i : Int) : ixd n i = ixN n i := rfl
theorem me_sub (ha : ME G c a fa) (hb : ME G c b fb) (hs : PlainIx b := by intro _ _; rfl) : ME G c (.Subscript a b pos) (sub fa fb) := fun X on Wx tk =>
  (pe_ix (ix_list.or ix_tup) (ha X on Wx tk) (hb X on Wx tk) hs).imp fun σ H Q h => by
    obtain ⟨wd, s, sr, h⟩ := h
    refine ⟨wd, s, sr, (Rs.bd (rel := rW G) h).imp fun x H1 ⟨wd1, s1, w, _, _, sr1, r1, h1⟩ => ?_⟩
    refine ⟨wd1, s1, sr1, (Rs.bd (rel := rW G) h1).imp fun y H2 ⟨wd2, s2, v, _, st2, sr2, r2, h2⟩ => ?_⟩
    cases v with
    | d dy =>
      cases dy with
      | int k =>
        simp only at h2
        have ey : y = .int k := r2
        cases e1 : items s2 w with
        | none => simp only [e1] at h2; exact h2.elim
        | some ws =>
          simp only [e1] at h2
          obtain ⟨p, vs, rfl, hq, rws⟩ := items_rel sr2 (RW.mono st2.up r1) e1
          cases e2 : ixd ws.length k with
          | none => simp only [e2] at h2; exact h2.elim
          | some j =>
            simp only [e2, nth_eq] at h2
            cases e3 : ws[j]? with
            | none => simp only [e3] at h2; exact h2.elim
            | some z =>
              simp only [e3] at h2
              obtain ⟨u, hu, ru⟩ := rws.get e3
              have hat : atI vs k = some u := by
                unfold atI
                rw [rws.length, ← ixd_eq, e2]
                exact hu
              have fin : Q u H2 := Rs.ok_now h2 sr2 ru
              rcases hq with hq | hq
              · refine .inl ⟨p, vs, k, u, rfl, ey, ?_, hat, fin⟩
                rw [on.K]; exact hq
              · refine .inr ⟨p, vs, k, u, rfl, ey, ?_, hat, fin⟩
                rw [on.K]; exact hq
      | _ => exact h2.elim
    | _ => exact h2.elim

/-! ### the methods of lists -/
theorem tyL {K : PySem.W.Frag} {H : Hp} {p : Addr} {vs : List V} (h : H p = some (.lst vs)) : tyV K "list" (.ref p) H := .inl ⟨rfl, vs, SqL.of h⟩
theorem Rs.ck {β δ : Type} {Wx : WX} {rel2 : Hp → Wd → Hp → β → δ → Prop} [RM rel2] {wd : Wd} {s : Sx} {σ : L2.St} {H : Hp} {Q : δ → Hp → Prop} {w : W} {k : Unit → M β} (h : Rs G Wx rel2 (bnd (chkL w) k s) wd σ H Q) : (∃ ws, lstAt s w = some ws) ∧ Rs G Wx rel2 (k () s) wd σ H Q := by
  unfold bnd chkL at h
  cases e : lstAt s w with
  | none => simp only [e] at h; exact h.elim
  | some ws => simp only [e] at h; exact ⟨⟨ws, rfl⟩, h⟩
theorem me_app {ap cp : Pos} (ho : ME G c o f) (ha : ME G c a fa) (hbase : ∀ env, attributeBase o "append" env (eval o env) = eval o env := by intro _; rfl) (hline : (ap.endLine == cp.line) = true := by rfl)
    (hfew : ∀ env, ((backTo cp (starEach [a] env)).all (fun x => !x.1) && (backToKw cp (keywordEach [] env)).all (fun x => x.1.isSome) && decide ([a].length + ([] : List Keyword).length + (if ([] : List Keyword).isEmpty then 0 else 1) < 30)) = true := by intro _; rfl)
    (hs : ∀ env, starEach [a] env = (false, eval a env) :: starEach [] env := by intro _; rfl) : ME G c (.Call (.Attribute o "append" ap) [a] [] cp) (app f fa) := fun X on Wx tk =>
  (pe_bm PySem.F.plainAttrs_list PySem.F.slot_list_append PySem.F.type_list_append mt_append (ho X on Wx tk) (pa_cons (ha X on Wx tk) pa_nil (hs _)) (hbase _) (hfew _) hline (hs _) (by rfl)).imp fun σ H Q h => by
    obtain ⟨wd, s, sr, h⟩ := h
    refine ⟨wd, s, sr, (Rs.bd (rel := rW G) h).imp fun x H1 ⟨wd1, s1, w, _, _, sr1, r1, h1⟩ => ?_⟩
    obtain ⟨⟨ws1, ck⟩, h1⟩ := Rs.ck h1
    obtain ⟨p, vs1, rfl, hp1, _⟩ := lstAt_rel sr1 r1 ck
    refine ⟨tyL hp1, wd1, s1, sr1, (Rs.bd (rel := rW G) h1).imp fun y H2 ⟨wd2, s2, v, _, st2, sr2, r2, h2⟩ => ?_⟩
    obtain ⟨F', s3, z, _, sr3, l3, n3, rz, nz, h3⟩ := Rs.ta h2 sr2 r2
    have r1' : RW G { wd2 with F := F' } w (.ref p) := RW.mono (Wd.up_F (wd := wd2) l3) (RW.mono st2.up r1)
    cases e : lstAt s3 w with
    | none => simp only [e] at h3; exact h3.elim
    | some ws =>
      simp only [e] at h3
      obtain ⟨p', vs, ep, hp, rws, put⟩ := lstAt_rel sr3 r1' e
      cases ep
      by_cases hl : ws.length < 16777216
      · simp only [if_pos hl] at h3
        cases e2 : lstPut w (ws ++ [z]) s3 with
        | none => simp only [e2] at h3; exact h3.elim
        | some s4 =>
          simp only [e2] at h3
          obtain ⟨sr4, st4⟩ := put _ (vs ++ [y]) s4 e2 (.append rws (.cons rz .nil))
          exact ⟨p, vs, y, rfl, rfl, hp, by rw [rws.length, sizeLine_eq]; exact hl, h3 .non _ _ st4 sr4 (by simp only [rW, RW, RD])⟩
      · simp only [if_neg hl] at h3
        exact h3.elim
theorem me_pop {ap cp : Pos} (ho : ME G c o f) (hbase : ∀ env, attributeBase o "pop" env (eval o env) = eval o env := by intro _; rfl) (hline : (ap.endLine == cp.line) = true := by rfl) : ME G c (.Call (.Attribute o "pop" ap) [] [] cp) (pop f) := fun X on Wx tk =>
  (pe_bm0 PySem.F.plainAttrs_list PySem.F.slot_list_pop PySem.F.type_list_pop mt_pop (ho X on Wx tk) (hbase _) hline).imp fun σ H Q h => by
    obtain ⟨wd, s, sr, h⟩ := h
    refine ⟨wd, s, sr, (Rs.bd (rel := rW G) h).imp fun x H1 ⟨wd1, s1, w, _, _, sr1, r1, h1⟩ => ?_⟩
    cases e : lstAt s1 w with
    | none => simp only [e] at h1; exact h1.elim
    | some ws =>
      simp only [e] at h1
      obtain ⟨p, vs, rfl, hp, rws, put⟩ := lstAt_rel sr1 r1 e
      cases e2 : ws.getLast? with
      | none => simp only [e2] at h1; exact h1.elim
      | some z =>
        simp only [e2] at h1
        cases e3 : lstPut w ws.dropLast s1 with
        | none => simp only [e3] at h1; exact h1.elim
        | some s2 =>
          simp only [e3] at h1
          rw [List.getLast?_eq_getElem?] at e2
          obtain ⟨u, hu, ru⟩ := rws.get e2
          obtain ⟨sr4, st4⟩ := put _ vs.dropLast s2 e3 rws.dropLast
          exact ⟨tyL hp, p, vs, u, rfl, rfl, hp, by rw [rws.length]; exact hu, h1 u _ _ st4 sr4 ru⟩
theorem me_popAt {ap cp : Pos} (ho : ME G c o f) (ha : ME G c a fa) (hbase : ∀ env, attributeBase o "pop" env (eval o env) = eval o env := by intro _; rfl) (hline : (ap.endLine == cp.line) = true := by rfl)
    (hfew : ∀ env, ((backTo cp (starEach [a] env)).all (fun x => !x.1) && (backToKw cp (keywordEach [] env)).all (fun x => x.1.isSome) && decide ([a].length + ([] : List Keyword).length + (if ([] : List Keyword).isEmpty then 0 else 1) < 30)) = true := by intro _; rfl)
    (hs : ∀ env, starEach [a] env = (false, eval a env) :: starEach [] env := by intro _; rfl) : ME G c (.Call (.Attribute o "pop" ap) [a] [] cp) (popAt f fa) := fun X on Wx tk =>
  (pe_bm PySem.F.plainAttrs_list PySem.F.slot_list_pop PySem.F.type_list_pop mt_popAt (ho X on Wx tk) (pa_cons (ha X on Wx tk) pa_nil (hs _)) (hbase _) (hfew _) hline (hs _) (by rfl)).imp fun σ H Q h => by
    obtain ⟨wd, s, sr, h⟩ := h
    refine ⟨wd, s, sr, (Rs.bd (rel := rW G) h).imp fun x H1 ⟨wd1, s1, w, _, _, sr1, r1, h1⟩ => ?_⟩
    obtain ⟨⟨ws1, ck⟩, h1⟩ := Rs.ck h1
    obtain ⟨p, vs1, rfl, hp1, _⟩ := lstAt_rel sr1 r1 ck
    refine ⟨tyL hp1, wd1, s1, sr1, (Rs.bd (rel := rW G) h1).imp fun y H2 ⟨wd2, s2, v, _, st2, sr2, r2, h2⟩ => ?_⟩
    cases v with
    | d dy =>
      cases dy with
      | int i =>
        simp only at h2
        have ey : y = .int i := r2
        cases e : lstAt s2 w with
        | none => simp only [e] at h2; exact h2.elim
        | some ws =>
          simp only [e] at h2
          obtain ⟨p', vs, ep, hp, rws, put⟩ := lstAt_rel sr2 (RW.mono st2.up r1) e
          cases ep
          by_cases hz : ws.length ≤ 16777216
          case neg => simp only [if_neg hz] at h2; exact h2.elim
          simp only [if_pos hz] at h2
          cases e2 : ixd ws.length i with
          | none => simp only [e2] at h2; exact h2.elim
          | some k =>
            simp only [e2, nth_eq] at h2
            cases e3 : ws[k]? with
            | none => simp only [e3] at h2; exact h2.elim
            | some z =>
              simp only [e3] at h2
              cases e4 : lstPut w (ws.eraseIdx k) s2 with
              | none => simp only [e4] at h2; exact h2.elim
              | some s3 =>
                simp only [e4] at h2
                obtain ⟨u, hu, ru⟩ := rws.get e3
                obtain ⟨sr4, st4⟩ := put _ (vs.eraseIdx k) s3 e4 (rws.eraseIdx k)
                rw [ixd_eq] at e2
                obtain ⟨q1, q2, q3, q4⟩ := ixN_seq e2
                refine ⟨p, vs, i, k, u, rfl, by rw [ey], hp, by omega, by omega, by rw [rws.length]; exact q1, hu, h2 u _ _ st4 sr4 ru⟩
      | _ => exact h2.elim
    | _ => exact h2.elim
end
end Mn
set_option Elab.async false
set_option linter.all false
set_option maxRecDepth 100000
set_option maxHeartbeats 1000000
/-! M6: targets, statements, loops. -/
namespace Mn
open PySem PySem.Spec PyProof.Rows L2

def env0 (sc : Scope) : Env := { scope := sc, locals := 0, globals := 0, cells := [] }
theorem swapped0 (ts : List Expr) (v : Expr) (env : Env) : swappedStores ts v env = swappedStores ts v (env0 env.scope) := rfl
theorem swaps0 (v : Expr) (t : Option Expr) (l : Nat) (env : Env) : swapsWith v t l env = swapsWith v t l (env0 env.scope) := rfl

/-! ### targets -/
/-- σ' is σ but at js -/
def But (js : List Nat) (σ σ' : L2.St) : Prop := σ'.length = σ.length ∧ ∀ k, k ∉ js → σ'[k]? = σ[k]?
def rdG (G : Gx) (js : List Nat) (g : Tg) : TG := fun v σ H Q => ∃ wd s w s1, SR G wd s σ H ∧ RW G wd w v ∧ g w s = some s1 ∧ ∀ σ', SR G wd s1 σ' H → But js σ σ' → Q σ' H
def rdGs (G : Gx) (js : List Nat) (gs : List Tg) : TGs := fun vs σ H Q => ∃ wd s xs s1, SR G wd s σ H ∧ RDs G wd.F xs vs ∧ tGo gs xs s = some s1 ∧ ∀ σ', SR G wd s1 σ' H → But js σ σ' → Q σ' H
def MG (G : Gx) (c : Cf) (e : Expr) (js : List Nat) (g : Tg) : Prop := ∀ X, On G c X → PG X e (rdG G js g)
def MGs (G : Gx) (c : Cf) (es : List Expr) (js : List Nat) (gs : List Tg) : Prop := ∀ X, On G c X → PGs X es (rdGs G js gs)
theorem _root_.L2.PG.imp {X : Cx} {e : Expr} {t u : TG} (h : PG X e t) (k : ∀ v σ H Q, u v σ H Q → t v σ H Q) : PG X e u := ⟨fun pins s σ H v u Q I r q => h.run pins s σ H v u Q I r (k v σ H Q q)⟩
theorem _root_.L2.PGs.imp {X : Cx} {e : List Expr} {t u : TGs} (h : PGs X e t) (k : ∀ v σ H Q, u v σ H Q → t v σ H Q) : PGs X e u := ⟨fun pins s σ H v u Q I r q => h.run pins s σ H v u Q I r (k v σ H Q q)⟩
theorem SR.store {G : Gx} {wd : Wd} {s : Sx} {σ : L2.St} {H : Hp} (sr : SR G wd s σ H) {w : W} {v : V} (r : RW G wd w v) (i : Nat) : SR G wd { s with e := upAt s.e i (some w) } (σ.set i (some v)) H := by
  refine ⟨sr.le, ?_, fun j x e => ?_, sr.la, sr.lb, sr.nd, sr.lc, sr.gc, sr.gn, sr.tb⟩
  · show (upAt s.e i (some w)).length = _
    rw [upAt_eq, List.length_set, List.length_set]; exact sr.len
  · have e' : (upAt s.e i (some w))[j]? = some (some x) := e
    rw [upAt_get] at e'
    by_cases z : j = i
    · subst z
      rw [if_pos rfl] at e'
      split at e'
      · rename_i hl
        cases e'
        exact ⟨v, by rw [List.getElem?_set_self (by rw [← sr.len]; exact hl)], r⟩
      · cases e'
    · rw [if_neg z] at e'
      obtain ⟨u, q, k⟩ := sr.env j x e'
      exact ⟨u, by rw [List.getElem?_set_ne (fun y => z y.symm)]; exact q, k⟩
section
variable {G : Gx} {c : Cf} {pos : Pos}
/-- what a store into a name wants -/
def Sto (c : Cf) (x : Str) : Prop := (c.sc.names.lookup x = some .local) ∨ (c.sc.names.lookup x = some .cell ∧ c.fn x = true)
theorem Sto.loc {X : Cx} (on : On G c X) {x : Str} (h : Sto c x) : Loc X.env.scope x := by
  rw [on.sc]
  rcases h with h | h
  · exact .inl h
  · exact .inr h.1
theorem Sto.fn {X : Cx} (on : On G c X) {x : Str} (h : Sto c x) : X.fn x = true ∨ X.env.scope.names.lookup x = some .local := by
  rw [on.sc]
  rcases h with h | h
  · exact .inr h
  · exact .inl (on.fn x h.2)
theorem mg_name {i : Nat} {x : Str} (hi : c.N[i]? = some x) (hx : Sto c x) : MG G c (.Name x pos) [i] (tN i) := fun X on =>
  (pg_name (i := i) (by rw [on.N]; exact on.nd) (by rw [on.N]; exact hi) (hx.loc on) (hx.fn on)).imp fun v σ H Q h => by
    obtain ⟨wd, s, w, s1, sr, r, e, q⟩ := h
    simp only [tN] at e
    cases e
    exact q _ (sr.store r i) ⟨by rw [List.length_set], fun k hk => List.getElem?_set_ne (fun z => hk (by rw [← z]; exact List.mem_cons_self))⟩
theorem mgs_nil : MGs G c [] [] [] := fun X on => (pgs_nil).imp fun v σ H Q h => by
  obtain ⟨wd, s, xs, s1, sr, r, e, q⟩ := h
  cases xs with
  | nil =>
    simp only [tGo] at e
    cases e
    simp only [RDs] at r
    exact ⟨r, q σ sr ⟨rfl, fun _ _ => rfl⟩⟩
  | cons x xs => simp [tGo] at e
theorem mgs_cons {e : Expr} {es : List Expr} {g : Tg} {gs : List Tg} {js ks : List Nat} (h1 : MG G c e js g) (h2 : MGs G c es ks gs) (hs : ∀ env, (assignEach (e :: es) env).map (·.2) = assign e env :: (assignEach es env).map (·.2) := by intro _; rfl) : MGs G c (e :: es) (js ++ ks) (g :: gs) := fun X on =>
  (pgs_cons (h1 X on) (h2 X on) (hs _)).imp fun v σ H Q h => by
    obtain ⟨wd, s, xs, s1, sr, r, e, q⟩ := h
    cases xs with
    | nil => simp [tGo] at e
    | cons x xs =>
      simp only [tGo] at e
      simp only [RDs] at r
      obtain ⟨u, us, ev, ru, rus⟩ := r
      cases z : g (.d x) s with
      | none => rw [z] at e; cases e
      | some s2 =>
        simp only [z] at e
        exact ⟨u, us, ev, wd, s, .d x, s2, sr, ru, z, fun σ' sr' b1 => ⟨wd, s2, xs, s1, sr', rus, e, fun σ2 sr2 b2 => q σ2 sr2 ⟨b2.1.trans b1.1, fun k hk => (b2.2 k fun z => hk (List.mem_append_right _ z)).trans (b1.2 k fun z => hk (List.mem_append_left _ z))⟩⟩⟩
theorem tGo_len : ∀ {gs : List Tg} {xs : List D} {s s1 : Sx}, tGo gs xs s = some s1 → xs.length = gs.length
  | [], [], _, _, _ => rfl
  | [], _ :: _, _, _, e => by simp [tGo] at e
  | _ :: _, [], _, _, e => by simp [tGo] at e
  | g :: gs, x :: xs, s, s1, e => by
    simp only [tGo] at e
    cases z : g (.d x) s with
    | none => rw [z] at e; cases e
    | some s2 =>
      simp only [z] at e
      simp [tGo_len e]
theorem mg_tup {es : List Expr} {k : Nat} {js : List Nat} {gs : List Tg} (hc : c.calm = true) (h : MGs G c es js gs) (hn : ∀ env, (assignEach es env).length = gs.length := by intro _; rfl) (hst : ∀ env, (assignEach es env).findIdx? (·.1) = none := by intro _; rfl) : MG G c (.Tuple es k pos) js (tT gs) := fun X on =>
  (pg_tup (n := gs.length) (on.cm hc) (h X on) (hn _) (hst _)).imp fun v σ H Q q => by
    obtain ⟨wd, s, w, s1, sr, r, e, q⟩ := q
    cases w with
    | d x =>
      cases x with
      | tup xs =>
        simp only [tT] at e
        simp only [RW, RD] at r
        obtain ⟨a, vs, rfl, hq, rv⟩ := r
        refine ⟨a, vs, rfl, ?_, by rw [RDs.length rv, tGo_len e], wd, s, xs, s1, sr, rv, e, q⟩
        rw [on.K]; exact sr.le.sqT hq
      | tun xs =>
        simp only [tT] at e
        simp only [RW, RD] at r
        obtain ⟨a, vs, o, rfl, hq, _, rv⟩ := r
        refine ⟨a, vs, rfl, ?_, by rw [RDs.length rv, tGo_len e], wd, s, xs, s1, sr, rv, e, q⟩
        rw [on.K]; exact sr.le.sqT (.inl (.inr ⟨o, hq⟩))
      | _ => simp [tT] at e
    | _ => simp [tT] at e
end

/-! ### statements -/
def RsS (G : Gx) (Wx : WX) (o : Out Fl) (wd : Wd) (H : Hp) (D : Ends) : Prop := match o with
  | .ok .nx s' => ∀ σ' H' wd', Stp wd H wd' H' → SR G wd' s' σ' H' → D.nx σ' H'
  | .ok (.rt w) s' => ∀ v σ' H' wd', Stp wd H wd' H' → SR G wd' s' σ' H' → RW G wd' w v → D.rt v H'
  | .ok .bk s' => ∀ σ' H' wd', Stp wd H wd' H' → SR G wd' s' σ' H' → D.bk σ' H'
  | .ok .ct s' => ∀ σ' H' wd', Stp wd H wd' H' → SR G wd' s' σ' H' → D.ct σ' H'
  | .exc x s' => ∀ cls d σ' H' wd', Stp wd H wd' H' → SR G wd' s' σ' H' → XR G wd' x cls d → Wx cls d σ' H'
  | .stuck => False
def rdS (G : Gx) (Wx : WX) (f : St) : TS := fun D σ H => ∃ wd s, SR G wd s σ H ∧ RsS G Wx (f s) wd H D
def MS (G : Gx) (c : Cf) (st : Stmt) (f : St) : Prop := ∀ X, On G c X → ∀ Wx, Takes X Wx → PS X st (rdS G Wx f)
def MSs (G : Gx) (c : Cf) (st : List Stmt) (f : St) : Prop := ∀ X, On G c X → ∀ Wx, Takes X Wx → PSs X st (rdS G Wx f)
section
variable {α γ : Type} {G : Gx} {Wx : WX} {rel : Hp → Wd → Hp → α → γ → Prop} {o : Out Fl} {wd wd1 : Wd} {σ : L2.St} {H H1 : Hp} {D D' : Ends}
theorem RsS.step (st : Stp wd H wd1 H1) (h : RsS G Wx o wd H D) : RsS G Wx o wd1 H1 D := by
  cases o with
  | ok f s =>
    cases f with
    | nx => exact fun σ' H' wd' x y => h σ' H' wd' (st.trans x) y
    | rt w => exact fun v σ' H' wd' x y z => h v σ' H' wd' (st.trans x) y z
    | bk => exact fun σ' H' wd' x y => h σ' H' wd' (st.trans x) y
    | ct => exact fun σ' H' wd' x y => h σ' H' wd' (st.trans x) y
  | exc x s => exact fun cls d σ' H' wd' a b c => h cls d σ' H' wd' (st.trans a) b c
  | stuck => exact h
theorem RsS.imp (h : RsS G Wx o wd H D) (h1 : ∀ σ H, D.nx σ H → D'.nx σ H) (h2 : ∀ v H, D.rt v H → D'.rt v H) (h3 : ∀ σ H, D.bk σ H → D'.bk σ H) (h4 : ∀ σ H, D.ct σ H → D'.ct σ H) : RsS G Wx o wd H D' := by
  cases o with
  | ok f s =>
    cases f with
    | nx => exact fun σ' H' wd' x y => h1 _ _ (h σ' H' wd' x y)
    | rt w => exact fun v σ' H' wd' x y z => h2 _ _ (h v σ' H' wd' x y z)
    | bk => exact fun σ' H' wd' x y => h3 _ _ (h σ' H' wd' x y)
    | ct => exact fun σ' H' wd' x y => h4 _ _ (h σ' H' wd' x y)
  | exc x s => exact h
  | stuck => exact h
/-- an expression, then a statement's rest -/
theorem RsS.bd {f : M α} {k : α → St} {s : Sx} (h : RsS G Wx (bnd f k s) wd H D) :
    Rs G Wx rel (f s) wd σ H fun v H1 => ∃ wd1 s1 a, f s = .ok a s1 ∧ Stp wd H wd1 H1 ∧ SR G wd1 s1 σ H1 ∧ rel H wd1 H1 a v ∧ RsS G Wx (k a s1) wd1 H1 D := by
  unfold bnd at h
  cases q : f s with
  | ok a s1 =>
    rw [q] at h
    exact fun v H' wd' st sr r => ⟨wd', s1, a, rfl, st, sr, r, h.step st⟩
  | exc x s1 => rw [q] at h; exact fun cls d H' wd' a b c => h cls d σ H' wd' a b c
  | stuck => rw [q] at h; exact h
theorem RsS.nx_now {s : Sx} (h : RsS G Wx (.ok .nx s) wd H D) (sr : SR G wd s σ H) : D.nx σ H := h σ H wd (Stp.refl _ _) sr
end
section
variable {G : Gx} {c : Cf} {e : Expr} {f : M W} {t : M Bool} {g : Tg} {a b : St} {st : Stmt} {rest : List Stmt} {pos : Pos}
theorem mss_nil : MSs G c [] skip := fun X on Wx tk => (pss_nil).imp fun D σ H h => by
  obtain ⟨wd, s, sr, h⟩ := h
  exact RsS.nx_now h sr
theorem rd_seq {Wx : WX} {D : Ends} {σ : L2.St} {H : Hp} (h : rdS G Wx (seq a b) D σ H) : tSeq (rdS G Wx a) (rdS G Wx b) D σ H := by
  obtain ⟨wd, s, sr, h⟩ := h
  refine ⟨wd, s, sr, ?_⟩
  unfold seq bnd at h
  cases q : a s with
  | ok f s1 =>
    rw [q] at h
    cases f with
    | nx => exact fun σ' H' wd' st sr' => ⟨wd', s1, sr', RsS.step st h⟩
    | rt w => exact h
    | bk => exact h
    | ct => exact h
  | exc x s1 => rw [q] at h; exact h
  | stuck => rw [q] at h; exact h
theorem mss_cons (h1 : MS G c st a) (h2 : MSs G c rest b) : MSs G c (st :: rest) (seq a b) := fun X on Wx tk =>
  (pss_cons (h1 X on Wx tk) (h2 X on Wx tk)).imp fun D σ H h => rd_seq h
theorem mss_one (h1 : MS G c st a) : MSs G c [st] a := fun X on Wx tk => pss_one (h1 X on Wx tk)
theorem ms_pass : MS G c (.Pass pos) skip := fun X on Wx tk => (ps_pass).imp fun D σ H h => by
  obtain ⟨wd, s, sr, h⟩ := h
  exact RsS.nx_now h sr
theorem ms_break : MS G c (.Break pos) (pur .bk) := fun X on Wx tk => (ps_break).imp fun D σ H h => by
  obtain ⟨wd, s, sr, h⟩ := h
  exact h σ H wd (Stp.refl _ _) sr
theorem ms_cont : MS G c (.Continue pos) (pur .ct) := fun X on Wx tk => (ps_continue).imp fun D σ H h => by
  obtain ⟨wd, s, sr, h⟩ := h
  exact h σ H wd (Stp.refl _ _) sr
theorem ms_expr (he : ME G c e f) (hs : ∀ env, swapsWith e none pos.line env = pure false := by intro _; rfl) : MS G c (.Expr e pos) (ex f) := fun X on Wx tk => (ps_expr (he X on Wx tk) (hs _)).imp fun D σ H h => by
  obtain ⟨wd, s, sr, h⟩ := h
  refine ⟨wd, s, sr, (RsS.bd (rel := rW G) h).imp fun x H1 ⟨wd1, s1, w, _, _, sr1, r1, h1⟩ => RsS.nx_now h1 sr1⟩
theorem ms_ret (he : ME G c e f) : MS G c (.Return (some e) pos) (rt f) := fun X on Wx tk => (ps_ret (he X on Wx tk)).imp fun D σ H h => by
  obtain ⟨wd, s, sr, h⟩ := h
  refine ⟨wd, s, sr, (RsS.bd (rel := rW G) h).imp fun x H1 ⟨wd1, s1, w, _, _, sr1, r1, h1⟩ => h1 x σ H1 wd1 (Stp.refl _ _) sr1 r1⟩
theorem ms_retN : MS G c (.Return none pos) (rt (cs .non)) := fun X on Wx tk => (ps_retN).imp fun D σ H h => by
  obtain ⟨wd, s, sr, h⟩ := h
  exact h .non σ H wd (Stp.refl _ _) sr (by simp only [RW, RD])
theorem ms_if {t' : Expr} {xs ys : List Stmt} (ht : MT G c t' t) (ha : MSs G c xs a) (hb : MSs G c ys b) : MS G c (.If t' xs ys pos) (ifS t a b) := fun X on Wx tk =>
  (ps_if (ht X on Wx tk) (ha X on Wx tk) (hb X on Wx tk)).imp fun D σ H h => by
    obtain ⟨wd, s, sr, h⟩ := h
    refine ⟨wd, s, sr, (RsS.bd (rel := rB) h).imp fun x H1 ⟨wd1, s1, w, _, _, sr1, r1, h1⟩ => ?_⟩
    have e : x = w := r1
    subst e
    cases x with
    | true => exact ⟨wd1, s1, sr1, h1⟩
    | false => exact ⟨wd1, s1, sr1, h1⟩
/-- code that is never come to -/
theorem ms_never : MS G c st (fun _ => .stuck) := fun X on Wx tk => (ps_never).imp fun D σ H h => by
  obtain ⟨wd, s, sr, h⟩ := h
  exact h.elim
theorem rd_st {Wx : WX} {D : Ends} {σ : L2.St} {H : Hp} {js : List Nat} (h : rdS G Wx (Mn.st g f) D σ H) : tAsg (rd G Wx (rW G) f) (rdG G js g) D σ H := by
  obtain ⟨wd, s, sr, h⟩ := h
  refine ⟨wd, s, sr, (RsS.bd (rel := rW G) h).imp fun x H1 ⟨wd1, s1, w, _, _, sr1, r1, h1⟩ => ?_⟩
  unfold bnd asg at h1
  cases q : g w s1 with
  | none => simp only [q] at h1; exact h1.elim
  | some s2 =>
    simp only [q] at h1
    exact ⟨wd1, s1, w, s2, sr1, r1, q, fun σ' sr' _ => RsS.nx_now h1 sr'⟩
theorem ms_st {tg : Expr} {js : List Nat} (he : ME G c e f) (hg : MG G c tg js g) (hs : ∀ env, env.scope = c.sc → swapsWithSole [tg] e pos.line env = pure false := by intro _ _; rfl) (hw : ∀ env, env.scope = c.sc → swappedStores [tg] e env = pure none := by intro _ _; rfl)
    (h1 : ∀ env, (assignEach [tg] env).map (·.2) = [assign tg env] := by intro _; rfl) : MS G c (.Assign [tg] e pos) (Mn.st g f) := fun X on Wx tk =>
  (ps_asg (he X on Wx tk) (hg X on) (hs _ on.sc) (hw _ on.sc) (h1 _)).imp fun D σ H h => rd_st h
theorem par2_get {l : List Addr} : True := trivial
theorem ms_par2 {i j : Nat} {x y : Str} {p q : Expr} {fp fq : M W} {px py pt : Pos} {kt k2 pt2} (hc : c.calm = true) (hi : c.N[i]? = some x) (hj : c.N[j]? = some y) (hij : i ≠ j)
    (hx : c.sc.names.lookup x = some .local) (hy : c.sc.names.lookup y = some .local) (ha : MA G c [p, q] (args [fp, fq]))
    (hw : swappedStores [.Tuple [.Name x px, .Name y py] kt pt] (.Tuple [p, q] k2 pt2) (env0 c.sc) = pure (some [x, y])) :
    MS G c (.Assign [.Tuple [.Name x px, .Name y py] kt pt] (.Tuple [p, q] k2 pt2) pos) (par [i, j] (args [fp, fq])) := fun X on Wx tk =>
  (ps_par (i := i) (j := j) (on.cm hc) (by rw [on.N]; exact on.nd) (by rw [on.N]; exact hi) (by rw [on.N]; exact hj) hij (by rw [on.sc]; exact hx) (by rw [on.sc]; exact hy) (ha X on Wx tk) (by rw [swapped0, on.sc]; exact hw)).imp fun D σ H h => by
    obtain ⟨wd, s, sr, h⟩ := h
    refine ⟨wd, s, sr, (RsS.bd (rel := rA G) h).imp fun xs H1 ⟨wd1, s1, ws, _, _, sr1, r1, h1⟩ => ?_⟩
    match ws, r1, h1 with
    | [], _, h1 => exact h1.elim
    | [_], _, h1 => exact h1.elim
    | _ :: _ :: _ :: _, _, h1 =>
      have h1 := h1
      simp at h1
      exact h1.elim
    | [w1, w2], r1, h1 =>
      have r1 : RWs G wd1 [w1, w2] xs := r1
      simp only [RWs] at r1
      obtain ⟨v1, _, rfl, a1, v2, _, rfl, a2, rfl⟩ := r1
      exact ⟨v1, v2, rfl, RsS.nx_now h1 ((sr1.store a1 i).store a2 j)⟩
theorem ms_par3 {i j l : Nat} {x y z : Str} {p q r : Expr} {fp fq fr : M W} {px py pz pt : Pos} {kt k2 pt2} (hc : c.calm = true) (hi : c.N[i]? = some x) (hj : c.N[j]? = some y) (hl : c.N[l]? = some z) (hij : i ≠ j) (hil : i ≠ l) (hjl : j ≠ l)
    (hx : c.sc.names.lookup x = some .local) (hy : c.sc.names.lookup y = some .local) (hz : c.sc.names.lookup z = some .local) (ha : MA G c [p, q, r] (args [fp, fq, fr]))
    (hw : swappedStores [.Tuple [.Name x px, .Name y py, .Name z pz] kt pt] (.Tuple [p, q, r] k2 pt2) (env0 c.sc) = pure (some [x, y, z])) :
    MS G c (.Assign [.Tuple [.Name x px, .Name y py, .Name z pz] kt pt] (.Tuple [p, q, r] k2 pt2) pos) (par [i, j, l] (args [fp, fq, fr])) := fun X on Wx tk =>
  (ps_par3 (i := i) (j := j) (l := l) (on.cm hc) (by rw [on.N]; exact on.nd) (by rw [on.N]; exact hi) (by rw [on.N]; exact hj) (by rw [on.N]; exact hl) hij hil hjl (by rw [on.sc]; exact hx) (by rw [on.sc]; exact hy) (by rw [on.sc]; exact hz) (ha X on Wx tk) (by rw [swapped0, on.sc]; exact hw)).imp fun D σ H h => by
    obtain ⟨wd, s, sr, h⟩ := h
    refine ⟨wd, s, sr, (RsS.bd (rel := rA G) h).imp fun xs H1 ⟨wd1, s1, ws, _, _, sr1, r1, h1⟩ => ?_⟩
    match ws, r1, h1 with
    | [], _, h1 => exact h1.elim
    | [_], _, h1 => exact h1.elim
    | [_, _], _, h1 => exact h1.elim
    | _ :: _ :: _ :: _ :: _, _, h1 =>
      have h1 := h1
      simp at h1
      exact h1.elim
    | [w1, w2, w3], r1, h1 =>
      have r1 : RWs G wd1 [w1, w2, w3] xs := r1
      simp only [RWs] at r1
      obtain ⟨v1, _, rfl, a1, v2, _, rfl, a2, v3, _, rfl, a3, rfl⟩ := r1
      exact ⟨v1, v2, v3, rfl, RsS.nx_now h1 (((sr1.store a1 i).store a2 j).store a3 l)⟩
/-- o[i] = e, a list -/
theorem ms_setS {o i : Expr} {fo fi : M W} {tp : Pos} (he : ME G c e f) (ho : ME G c o fo) (hi : ME G c i fi)
    (ha : ∀ env v, assign (.Subscript o i tp) env v = (do
      let ov ← holding [v] (eval o env)
      let iv ← holding [v, ov] (eval i env)
      standAt tp
      holding [v, ov, iv] (setItem ov iv v)
      release [v, ov, iv] []) := by intro _ _; rfl)
    (hs : ∀ env, swapsWithSole [.Subscript o i tp] e pos.line env = pure false := by intro _; rfl) (hw : ∀ env, swappedStores [.Subscript o i tp] e env = pure none := by intro _; rfl)
    (h1 : ∀ env, (assignEach [.Subscript o i tp] env).map (·.2) = [assign (.Subscript o i tp) env] := by intro _; rfl) : MS G c (.Assign [.Subscript o i tp] e pos) (setS f fo fi) := fun X on Wx tk =>
  (ps_asg (he X on Wx tk) (pg_sub (ho X on Wx tk) (hi X on Wx tk) set_list (ha _)) (hs _) (hw _) (h1 _)).imp fun D σ H h => by
    obtain ⟨wd, s, sr, h⟩ := h
    refine ⟨wd, s, sr, (RsS.bd (rel := rW G) h).imp fun x H1 ⟨wd1, s1, w0, _, _, sr1, r1, h1⟩ => ?_⟩
    unfold bnd itm at h1
    rcases toA_noexc w0 s1 with ⟨z, s2, e0⟩ | e0
    case inr => rw [e0] at h1; exact h1.elim
    rw [e0] at h1
    obtain ⟨F', sr2, l2, n2, rz, nz⟩ := toA_ok sr1 r1 e0
    have h2 := RsS.step (Stp.F (wd := wd1) (H := H1) l2 n2) h1
    refine ⟨_, s2, sr2, (RsS.bd (rel := rW G) (f := fo) h2).imp fun y H2 ⟨wd3, s3, w, _, st3, sr3, r3, h3⟩ => ?_⟩
    refine ⟨wd3, s3, sr3, (RsS.bd (rel := rW G) (f := fi) h3).imp fun u H4 ⟨wd4, s4, v, _, st4, sr4, r4, h4⟩ => ?_⟩
    cases v with
    | d dy =>
      cases dy with
      | int k =>
        simp only at h4
        have eu : u = .int k := r4
        cases e : lstAt s4 w with
        | none => simp only [e] at h4; exact h4.elim
        | some ws =>
          simp only [e] at h4
          obtain ⟨p, vs, rfl, hp, rws, put⟩ := lstAt_rel sr4 (RW.mono st4.up r3) e
          cases e2 : ixd ws.length k with
          | none => simp only [e2] at h4; exact h4.elim
          | some j =>
            simp only [e2] at h4
            cases e3 : lstPut w (upAt ws j z) s4 with
            | none => simp only [e3] at h4; exact h4.elim
            | some s5 =>
              simp only [e3] at h4
              have rz4 : RW G wd4 z x := RW.mono st4.up (RW.mono st3.up rz)
              obtain ⟨sr5, st5⟩ := put _ (vs.set j x) s5 e3 (by rw [upAt_eq]; exact RWs.set rz4 j rws)
              exact ⟨p, vs, k, j, rfl, eu, hp, by rw [rws.length]; exact e2, h4 σ _ _ st5 sr5⟩
      | _ => exact h4.elim
    | _ => exact h4.elim
end
end Mn
set_option Elab.async false
set_option linter.all false
set_option maxRecDepth 100000
set_option maxHeartbeats 1000000
/-! M7: what is walked; for, while; comprehensions. -/
namespace Mn
open PySem PySem.Spec PyProof.Rows L2

/-- J gives out xs, at whatever heap that has grown from F on -/
def Gv (G : Gx) (F : Hp) (xs : List D) (J : It) : Prop := ∀ (F' H : Hp), Le F F' → Le F' H → ∀ i : Nat,
  (i < xs.length → J.go i H ∧ ∀ v H', J.yld i H v H' → ∃ F2, New F' H F2 H' ∧ ∀ x, xs[i]? = some x → RD G F2 x v) ∧ (xs.length ≤ i → J.stop i H)
def rI (G : Gx) : Hp → Wd → Hp → List D → It → Prop := fun _ wd _ xs J => Gv G wd.F xs J
instance (G : Gx) : RM (rI G) := ⟨fun _ _ _ _ _ _ _ h => h⟩
def MI (G : Gx) (c : Cf) (tg e : Expr) (f : M (List D)) : Prop := ∀ X, On G c X → ∀ Wx, Takes X Wx → PI X tg e (rd G Wx (rI G) f)
theorem _root_.L2.PI.imp {X : Cx} {tg e : Expr} {t u : TI} (h : PI X tg e t) (k : ∀ σ H R, u σ H R → t σ H R) : PI X tg e u := ⟨fun pins s σ H R I q => h.run pins s σ H R I (k σ H R q)⟩
section
variable {G : Gx} {c : Cf} {tg e : Expr} {f : M W} {fs : M (List W)} {pos p : Pos}
theorem gv_tup {F : Hp} {a : Addr} {xs : List D} {vs : List V} (h : SqT G.K F a vs) (r : RDs G F xs vs) : Gv G F xs (Itt G.K a) := fun F' H l1 l2 i => by
  have hq : SqT G.K H a vs := (l1.trans l2).sqT h
  refine ⟨fun hi => ?_, fun hi => ⟨vs, hq, by rw [r.length]; exact hi⟩⟩
  obtain ⟨v, ev, rv⟩ := r.get (List.getElem?_eq_getElem hi)
  refine ⟨⟨vs, v, hq, ev⟩, fun u H' ⟨eH, hu⟩ => ?_⟩
  subst eH
  refine ⟨F', New.refl l2, fun x ex => ?_⟩
  have := hu vs hq
  rw [ev] at this; cases this
  rw [List.getElem?_eq_getElem hi] at ex; cases ex
  exact RD.mono l1 _ _ rv
theorem gv_lst {F : Hp} {a : Addr} {xs : List D} {vs : List V} (h : SqL G.K F a vs) (r : RDs G F xs vs) : Gv G F xs (Itl G.K a) := fun F' H l1 l2 i => by
  have hq : SqL G.K H a vs := (l1.trans l2).sqL h
  refine ⟨fun hi => ?_, fun hi => ⟨vs, hq, by rw [r.length]; exact hi⟩⟩
  obtain ⟨v, ev, rv⟩ := r.get (List.getElem?_eq_getElem hi)
  refine ⟨⟨vs, v, hq, ev⟩, fun u H' ⟨eH, hu⟩ => ?_⟩
  subst eH
  refine ⟨F', New.refl l2, fun x ex => ?_⟩
  have := hu vs hq
  rw [ev] at this; cases this
  rw [List.getElem?_eq_getElem hi] at ex; cases ex
  exact RD.mono l1 _ _ rv
theorem upTo_length : ∀ (n : Nat) (lo : Int), (upTo lo n).length = n
  | 0, _ => rfl
  | n + 1, lo => by simp [upTo, upTo_length n]
theorem upTo_get : ∀ (n : Nat) (lo : Int) (i : Nat), i < n → (upTo lo n)[i]? = some (.int (lo + i))
  | 0, _, _, h => by omega
  | n + 1, lo, 0, _ => by simp [upTo]
  | n + 1, lo, i + 1, h => by
    simp only [upTo, List.getElem?_cons_succ]
    rw [upTo_get n (lo + 1) i (by omega)]
    congr 2
    omega
theorem gv_rng {F : Hp} {lo : Int} {n : Nat} : Gv G F (upTo lo n) (Itr lo n) := fun F' H l1 l2 i => by
  refine ⟨fun hi => ?_, fun hi => by rw [upTo_length] at hi; exact hi⟩
  rw [upTo_length] at hi
  refine ⟨hi, fun u H' ⟨eH, hu⟩ => ?_⟩
  subst eH
  refine ⟨F', New.refl l2, fun x ex => ?_⟩
  rw [upTo_get n lo i hi] at ex
  cases ex
  simp only [RD]
  exact hu
/-- behind itS: a list or tuple that stays -/
theorem rd_itS {Wx : WX} {σ : L2.St} {H : Hp} {R : It → Hp → Prop} (h : rd G Wx (rI G) (itS f) σ H R) : rd G Wx (rW G) f σ H fun v H1 => ∃ a, v = .ref a ∧ (((∃ xs, SqL G.K H1 a xs) ∧ R (Itl G.K a) H1) ∨ ((∃ xs, SqT G.K H1 a xs) ∧ R (Itt G.K a) H1)) := by
  obtain ⟨wd, s, sr, h⟩ := h
  refine ⟨wd, s, sr, (Rs.bd (rel := rW G) h).imp fun x H1 ⟨wd1, s1, w, _, _, sr1, r1, h1⟩ => ?_⟩
  obtain ⟨F', s2, d, _, sr2, l2, n2, rd2, h2⟩ := Rs.td h1 sr1 r1
  cases d with
  | tup xs =>
    simp only [RD] at rd2
    obtain ⟨a, vs, rfl, hq, rv⟩ := rd2
    exact ⟨a, rfl, .inr ⟨⟨vs, sr2.le.sqT hq⟩, h2 _ _ _ (Stp.refl _ _) sr2 (gv_tup hq rv)⟩⟩
  | tun xs =>
    simp only [RD] at rd2
    obtain ⟨a, vs, o, rfl, hq0, _, rv⟩ := rd2
    have hq : SqT G.K F' a vs := .inl (.inr ⟨o, hq0⟩)
    exact ⟨a, rfl, .inr ⟨⟨vs, sr2.le.sqT hq⟩, h2 _ _ _ (Stp.refl _ _) sr2 (gv_tup hq rv)⟩⟩
  | lst xs =>
    simp only [RD] at rd2
    obtain ⟨a, vs, rfl, hq, rv⟩ := rd2
    exact ⟨a, rfl, .inl ⟨⟨vs, sr2.le.sqL hq⟩, h2 _ _ _ (Stp.refl _ _) sr2 (gv_lst hq rv)⟩⟩
  | _ => exact h2.elim
/-- over what is a list, or a tuple -/
theorem pi_seq {X : Cx} {l : Expr} {tl : TE} (hl : PE X l tl) : PI X tg l (fun σ H R => tl σ H fun v H1 => ∃ a, v = .ref a ∧ (((∃ xs, SqL X.K H1 a xs) ∧ R (Itl X.K a) H1) ∨ ((∃ xs, SqT X.K H1 a xs) ∧ R (Itt X.K a) H1))) := by
  refine ⟨fun pins s σ H R I h => ?_⟩
  refine thn (hl.run pins s σ H _ I h) fun v s1 ⟨x, H1, I1, r1, a, e, q⟩ => ?_
  subst e
  rcases q with ⟨hx, q⟩ | ⟨hx, q⟩
  · have hp : PE X l (fun σ H Q => Q (.ref a) H1 ∧ True ∧ tl σ H Q) := ⟨fun pins s σ H Q I h => hl.run pins s σ H Q I h.2.2⟩
    cases r1
    obtain ⟨xs, hq⟩ := hx
    obtain ⟨its, rv, p, hz⟩ := I1.list hq
    refine wpAny_pyIter_list p.isList ?_
    refine ⟨s1.heap.objs.size, [s1.heap.objs.size], _, _, H1, rfl, I1.kept (t' := s1.toks) fun b o e => Heap.get?_push_of_some _ e, turn_list a _, ⟨_, Heap.get?_push_size _ rfl, rfl, rfl⟩, fun b hb => ?_, q⟩
    have e : b = s1.heap.objs.size := by simpa using hb
    rw [e]
    exact I1.fpOk (Nat.le_refl _) (I1.hok.fresh (Nat.le_refl _))
  · cases r1
    obtain ⟨xs, hq⟩ := hx
    obtain ⟨its, rv, p, hz⟩ := I1.tuple hq
    refine wpAny_pyIter_tuple (show s1.heap.IsTuple a its.toArray from p) ?_
    refine ⟨s1.heap.objs.size, [s1.heap.objs.size], _, _, H1, rfl, I1.kept (t' := s1.toks) fun b o e => Heap.get?_push_of_some _ e, turn_tuple a _, ⟨_, Heap.get?_push_size _ rfl, rfl, rfl⟩, fun b hb => ?_, q⟩
    have e : b = s1.heap.objs.size := by simpa using hb
    rw [e]
    exact I1.fpOk (Nat.le_refl _) (I1.hok.fresh (Nat.le_refl _))
theorem mi_seq (h : ME G c e f) : MI G c tg e (itS f) := fun X on Wx tk => (pi_seq (h X on Wx tk)).imp fun σ H R q => by
  rw [on.K]
  exact rd_itS q
theorem PRs.nil_iff {F H : Hp} {vs : List V} (h : PRs G F H [] vs) : vs = [] := h
theorem PRs.one {F H : Hp} {x : D} {vs : List V} (h : PRs G F H [x] vs) : ∃ v, vs = [v] ∧ PR G F H x v := by
  obtain ⟨v, r, rfl, a, e⟩ := h
  have e : r = [] := e
  subst e
  exact ⟨v, rfl, a⟩
theorem PRs.two {F H : Hp} {x y : D} {vs : List V} (h : PRs G F H [x, y] vs) : ∃ v u, vs = [v, u] ∧ PR G F H x v ∧ PR G F H y u := by
  obtain ⟨v, r, rfl, a, h⟩ := h
  obtain ⟨u, rfl, b⟩ := PRs.one h
  exact ⟨v, u, rfl, a, b⟩
theorem small_of {i : Int} (h : small i = true) : -(2 ^ 62) ≤ i ∧ i < 2 ^ 62 := by
  unfold small at h
  simp only [Bool.and_eq_true, decide_eq_true_eq] at h
  exact h
theorem rd_itR {Wx : WX} {o : List D → Option (List D)} {σ : L2.St} {H : Hp} {R : It → Hp → Prop} {S : List V → Hp → (It → Hp → Prop) → Prop}
    (hS : ∀ (F H : Hp) (xs zs : List D) (vs : List V), Le F H → PRs G F H xs vs → o xs = some zs → ∃ J, Gv G F zs J ∧ ∀ R, R J H → S vs H R) (h : rd G Wx (rI G) (itR o fs) σ H R) : rd G Wx (rA G) fs σ H fun vs H1 => S vs H1 R := by
  obtain ⟨wd, s, sr, h⟩ := h
  refine ⟨wd, s, sr, (Rs.bd (rel := rA G) h).imp fun x H1 ⟨wd1, s1, w, _, _, sr1, r1, h1⟩ => ?_⟩
  cases e1 : pks s1 w with
  | none => simp only [e1] at h1; exact h1.elim
  | some xs =>
    simp only [e1] at h1
    cases e2 : o xs with
    | none => simp only [e2] at h1; exact h1.elim
    | some zs =>
      simp only [e2] at h1
      obtain ⟨J, gv, k⟩ := hS wd1.F H1 xs zs x sr1.le (pks_rel sr1 r1 e1) e2
      exact k _ (h1 J H1 wd1 (Stp.refl _ _) sr1 gv)
theorem mi_rng1 {a : Expr} (hg : GlS c.sc "range") (hm : G.mg "range" = none) (ha : MA G c [a] fs) (hs : ∀ env, starEach [a] env = [(false, eval a env)] := by intro _; rfl) : MI G c tg (.Call (.Name "range" p) [a] [] pos) (itR rng1 fs) := fun X on Wx tk =>
  (pi_range1 (on.gl hg) (by rw [on.mg]; exact hm) (ha X on Wx tk) (hs _)).imp fun σ H R h => rd_itR (S := fun vs H1 R => ∃ j : Int, vs = [.int j] ∧ -(2 ^ 62) ≤ j ∧ j < 2 ^ 62 ∧ R (Itr 0 j.toNat) H1) (fun F H xs zs vs l r e => by
    match xs, e, r with
    | [.int j], e, r =>
      simp only [rng1] at e
      split at e
      · rename_i hs
        cases e
        obtain ⟨v, rfl, a⟩ := r.one
        have a : v = .int j := by simpa only [PR, RD] using a
        exact ⟨_, gv_rng, fun R q => ⟨j, by rw [a], (small_of hs).1, (small_of hs).2, q⟩⟩
      · cases e) h
theorem mi_rng2 {a b : Expr} (hg : GlS c.sc "range") (hm : G.mg "range" = none) (ha : MA G c [a, b] fs) (hs : ∀ env, starEach [a, b] env = [(false, eval a env), (false, eval b env)] := by intro _; rfl) (hs2 : ∀ env, starEach [b] env = [(false, eval b env)] := by intro _; rfl) : MI G c tg (.Call (.Name "range" p) [a, b] [] pos) (itR rng2 fs) := fun X on Wx tk =>
  (pi_range2 (on.gl hg) (by rw [on.mg]; exact hm) (ha X on Wx tk) (hs _) (hs2 _)).imp fun σ H R h => rd_itR (S := fun vs H1 R => ∃ i j : Int, vs = [.int i, .int j] ∧ (-(2 ^ 62) ≤ i ∧ i < 2 ^ 62 ∧ -(2 ^ 62) ≤ j ∧ j < 2 ^ 62) ∧ R (Itr i (j - i).toNat) H1) (fun F H xs zs vs l r e => by
    match xs, e, r with
    | [.int i, .int j], e, r =>
      simp only [rng2] at e
      split at e
      · rename_i hs
        rw [Bool.and_eq_true] at hs
        cases e
        obtain ⟨v, u, rfl, a, b⟩ := r.two
        have a : v = .int i := by simpa only [PR, RD] using a
        have b : u = .int j := by simpa only [PR, RD] using b
        exact ⟨_, gv_rng, fun R q => ⟨i, j, by rw [a, b], ⟨(small_of hs.1).1, (small_of hs.1).2, (small_of hs.2).1, (small_of hs.2).2⟩, q⟩⟩
      · cases e) h
end

/-! ### for -/
section
variable {G : Gx} {c : Cf} {tg e : Expr} {f : M (List D)} {g : Tg} {b : St} {t : M Bool} {pos : Pos}
theorem SR.newW {G : Gx} {wd : Wd} {s : Sx} {σ : L2.St} {H H' F' : Hp} (sr : SR G wd s σ H) (n : New wd.F H F' H') : SR G { wd with F := F' } s σ H' := sr.new n
/-- a turn's body, then what is left of the loop -/
theorem RsS.body {Wx : WX} {k : Fl → St} {s : Sx} {wd : Wd} {H : Hp} {D : Ends} {Nx : L2.St → Hp → Prop} (h : RsS G Wx (bnd b k s) wd H D) (hn : k .nx = k .ct) (hb : k .bk = pur .nx) (hr : ∀ w, k (.rt w) = pur (.rt w))
    (hN : ∀ s1 σ' H' wd', Stp wd H wd' H' → SR G wd' s1 σ' H' → RsS G Wx (k .nx s1) wd' H' D → Nx σ' H') : RsS G Wx (b s) wd H { D with nx := Nx, ct := Nx, bk := D.nx } := by
  unfold bnd at h
  cases q : b s with
  | ok f s1 =>
    rw [q] at h
    cases f with
    | nx => exact fun σ' H' wd' st sr => hN s1 σ' H' wd' st sr (RsS.step st h)
    | ct => exact fun σ' H' wd' st sr => hN s1 σ' H' wd' st sr (RsS.step st (by rw [hn]; exact h))
    | bk =>
      simp only [hb] at h
      exact h
    | rt w =>
      simp only [hr] at h
      exact h
  | exc x s1 => rw [q] at h; exact h
  | stuck => rw [q] at h; exact h
theorem ms_for {js : List Nat} {body : List Stmt} (hc : c.calm = true) (hi : MI G c tg e f) (hg : MG G c tg js g) (hb : MSs G c body b) (hs : ∀ env x, foldedSetIterable e env x = pure x := by intro _ _; rfl) : MS G c (.For tg e body [] pos) (forS f g b) := fun X on Wx tk =>
  (ps_for on.ps (on.cm hc) (hi X on Wx tk) (hg X on) (hb X on Wx tk) (hs _)).imp fun D σ H h => by
    obtain ⟨wd, s, sr, h⟩ := h
    refine ⟨wd, s, sr, (RsS.bd (rel := rI G) h).imp fun J H1 ⟨wd1, s1, xs, _, _, sr1, gv, h1⟩ => ?_⟩
    refine ⟨fun i m σ H => m + i = xs.length ∧ ∃ wd s, Le wd1.F wd.F ∧ SR G wd s σ H ∧ RsS G Wx (loop g b (xs.drop i) s) wd H D, ⟨xs.length, by omega, wd1, s1, Le.refl _, sr1, by rw [List.drop_zero]; exact h1⟩, fun i m σ2 H2 hW => ?_⟩
    obtain ⟨em, wd2, s2, le2, sr2, h2⟩ := hW
    have gi := gv wd2.F H2 le2 sr2.le i
    by_cases hi : i < xs.length
    · obtain ⟨go, yl⟩ := gi.1 hi
      rw [List.drop_eq_getElem_cons hi] at h2
      refine .inr ⟨go, fun σ' H' => ∃ wd s, Le wd1.F wd.F ∧ SR G wd s σ' H' ∧ RsS G Wx (loop g b (xs.drop (i + 1)) s) wd H' D, fun σ' H' ⟨wd', s', l', sr', h'⟩ => ⟨m - 1, by omega, by omega, wd', s', l', sr', h'⟩, fun v H' hy => ?_⟩
      obtain ⟨F2, n2, rx⟩ := yl v H' hy
      have sr3 := sr2.new n2
      have h3 := RsS.step n2.stp h2
      simp only [loop] at h3
      unfold bnd asg at h3
      cases q : g (.d xs[i]) s2 with
      | none => simp only [q] at h3; exact h3.elim
      | some s4 =>
        simp only [q] at h3
        refine ⟨_, s2, .d xs[i], s4, sr3, rx _ (List.getElem?_eq_getElem hi), q, fun σ' sr' _ => ⟨_, s4, sr', ?_⟩⟩
        refine RsS.body (k := fun f => match f with | .nx => loop g b (xs.drop (i + 1)) | .ct => loop g b (xs.drop (i + 1)) | .bk => pur .nx | .rt w => pur (.rt w)) h3 rfl rfl (fun _ => rfl) fun s5 σ5 H5 wd5 st5 sr5 h5 => ?_
        exact ⟨wd5, s5, (le2.trans n2.lf).trans st5.up.F, sr5, h5⟩
    · rw [List.drop_eq_nil_of_le (by omega)] at h2
      exact .inl ⟨gi.2 (by omega), RsS.nx_now h2 sr2⟩
theorem ms_while {t' : Expr} {body : List Stmt} {n : Nat} (ht : MT G c t' t) (hb : MSs G c body b) : MS G c (.While t' body [] pos) (whl t b n) := fun X on Wx tk =>
  (ps_while on.ps (ht X on Wx tk) (hb X on Wx tk)).imp fun D σ H h => by
    refine ⟨fun m σ H => rdS G Wx (whl t b m) D σ H, ⟨n, h⟩, fun m σ2 H2 hW => ?_⟩
    obtain ⟨wd, s, sr, h⟩ := hW
    cases m with
    | zero => exact h.elim
    | succ m =>
      simp only [whl] at h
      refine ⟨wd, s, sr, (RsS.bd (rel := rB) h).imp fun x H1 ⟨wd1, s1, w, _, _, sr1, r1, h1⟩ => ?_⟩
      have e : x = w := r1
      subst e
      cases x with
      | true =>
        simp only [if_true] at h1 ⊢
        refine ⟨fun σ H => rdS G Wx (whl t b m) D σ H, fun σ' H' q => ⟨m, by omega, q⟩, wd1, s1, sr1, ?_⟩
        exact RsS.body (k := fun f => match f with | .nx => whl t b m | .ct => whl t b m | .bk => pur .nx | .rt w => pur (.rt w)) h1 rfl rfl (fun _ => rfl) fun s5 σ5 H5 wd5 st5 sr5 h5 => ⟨wd5, s5, sr5, h5⟩
      | false =>
        simp only [Bool.false_eq_true, if_false] at h1 ⊢
        exact RsS.nx_now h1 sr1
end

/-! ### comprehensions -/
def Cf.blk (c : Cf) (scope : Scope) : Cf := { c with sc := relS scope c.sc, fn := fun x => scope.names.lookup x == some .cell, tk := false, su := false, df := false }
section
variable {G : Gx} {c : Cf}
theorem On.blk {X : Cx} (on : On G c X) (s : Shared) (H : Hp) (scope : Scope) (cl : List (Str × Addr)) (C : Addr) (fp : List Addr) : On G (c.blk scope) (X.blk s H scope (compEnvC scope cl C X.env) fp) where
  p := on.p
  w := on.w
  K := on.K
  mg := on.mg
  base := on.base
  N := on.N
  nd := on.nd
  sc := by
    show relS scope X.env.scope = relS scope c.sc
    rw [on.sc]
  dp := on.dp
  un := on.un
  gd := on.gd
  hd := on.hd
  cm := on.cm
  fn := fun x h => h
  ps := PassesOwn.never
  stk := fun z => by cases z
  frm := fun z => by cases z
  ql := fun z => by cases z
  cd := fun z => by cases z
  ex1 := on.ex1
  ex := fun z => by cases z
  th := fun z => by cases z
theorem wip_get : ∀ (e : List (Option W)) (vs : List Nat) (k : Nat), k ∉ vs → (wip e vs)[k]? = e[k]?
  | _, [], _, _ => rfl
  | e, v :: vs, k, h => by
    simp only [wip]
    rw [upAt_get, if_neg (fun z => h (by rw [z]; exact List.mem_cons_self)), wip_get e vs k fun z => h (List.mem_cons_of_mem _ z)]
theorem wip_in : ∀ (e : List (Option W)) (vs : List Nat) (k : Nat) (w : W), k ∈ vs → (wip e vs)[k]? ≠ some (some w)
  | _, [], _, _, h => by cases h
  | e, v :: vs, k, w, h => by
    simp only [wip]
    rw [upAt_get]
    by_cases z : k = v
    · rw [if_pos z]
      split <;> simp
    · rw [if_neg z]
      exact wip_in e vs k w ((List.mem_cons.mp h).resolve_left z)
theorem wip_length : ∀ (e : List (Option W)) (vs : List Nat), (wip e vs).length = e.length
  | _, [] => rfl
  | e, v :: vs => by simp only [wip]; rw [upAt_eq, List.length_set, wip_length e vs]
theorem wipe_get (σ : L2.St) (vs : List Nat) (k : Nat) (h : k ∉ vs) : (wipe σ vs)[k]? = σ[k]? := wipe_out h
theorem wipe_at : ∀ (σ : L2.St) (vs : List Nat) (k : Nat), k ∈ vs → k < σ.length → (wipe σ vs)[k]? = some none
  | _, [], _, h, _ => by cases h
  | σ, v :: vs, k, h, hl => by
    unfold wipe
    by_cases z : v = k
    · subst z
      rw [List.getElem?_set_self (by rw [wipe_length]; exact hl)]
    · rw [List.getElem?_set_ne z]
      exact wipe_at σ vs k ((List.mem_cons.mp h).resolve_left fun y => z y.symm) hl
/-- what agrees outside vs is the same when vs is wiped -/
theorem wipe_eq {σ σ' : L2.St} {vs js : List Nat} (b : But js σ σ') (h : ∀ j ∈ js, j ∈ vs) : wipe σ' vs = wipe σ vs := by
  apply List.ext_getElem?
  intro k
  by_cases z : k ∈ vs
  · by_cases hl : k < σ.length
    · rw [wipe_at σ' vs k z (by rw [b.1]; exact hl), wipe_at σ vs k z hl]
    · rw [List.getElem?_eq_none (by rw [wipe_length, b.1]; omega), List.getElem?_eq_none (by rw [wipe_length]; omega)]
  · rw [wipe_get σ' vs k z, wipe_get σ vs k z, b.2 k fun y => z (h k y)]
theorem wipe_wipe (σ : L2.St) (vs : List Nat) : wipe (wipe σ vs) vs = wipe σ vs :=
  wipe_eq (js := vs) ⟨wipe_length σ vs, fun k h => wipe_get σ vs k h⟩ fun _ h => h
theorem SR.wiped {wd : Wd} {s : Sx} {σ : L2.St} {H : Hp} (sr : SR G wd s σ H) (vs : List Nat) : SR G wd { s with e := wip s.e vs } (wipe σ vs) H :=
  ⟨sr.le, by show (wip s.e vs).length = _; rw [wip_length, wipe_length]; exact sr.len, fun i w e => by
    by_cases z : i ∈ vs
    · exact absurd e (wip_in s.e vs i w z)
    · have e' : (wip s.e vs)[i]? = some (some w) := e
      rw [wip_get _ _ _ z] at e'
      obtain ⟨v, a, b⟩ := sr.env i w e'
      exact ⟨v, by rw [wipe_get σ vs i z]; exact a, b⟩, sr.la, sr.lb, sr.nd, sr.lc, sr.gc, sr.gn, sr.tb⟩
/-- other names over the same parts -/
theorem SR.names {wd wd0 : Wd} {s s0 : Sx} {σ σ0 : L2.St} {H H0 : Hp} (sr : SR G wd s σ H) (sr0 : SR G wd0 s0 σ0 H0) (u : Up wd0 wd) : SR G wd { s with e := s0.e } σ0 H :=
  ⟨sr.le, sr0.len, fun i w e => by
    obtain ⟨v, a, b⟩ := sr0.env i w e
    exact ⟨v, a, b.mono u⟩, sr.la, sr.lb, sr.nd, sr.lc, sr.gc, sr.gn, sr.tb⟩
def MTs (G : Gx) (c : Cf) (es : List Expr) (f : M Bool) : Prop := ∀ X, On G c X → ∀ Wx, Takes X Wx → PTs X es (rd G Wx rB f)
theorem mts_nil : MTs G c [] (pur true) := fun X on Wx tk => ⟨fun pins s σ H Q I h => pts_nil.run pins s σ H Q I (rd_pB h)⟩
theorem mts_one {e : Expr} {f : M Bool} (h : MT G c e f) : MTs G c [e] f := fun X on Wx tk => pts_one (h X on Wx tk)

/-- the new list at L while it is filled -/
structure Fill (G : Gx) (wd : Wd) (H : Hp) (L : Addr) (acc : List D) : Prop where
  ex : ∃ vs, H L = some (.lst vs) ∧ RDs G wd.F acc vs
  F : wd.F L = none
  al : L ∉ wd.al
  be : L ∉ wd.be
theorem Fill.stp {wd wd' : Wd} {H H' : Hp} {L : Addr} {acc : List D} (f : Fill G wd H L acc) (st : Stp wd H wd' H') : Fill G wd' H' L acc := by
  obtain ⟨⟨vs, e, r⟩, f1, f2, f3⟩ := f
  refine ⟨⟨vs, st.fr L _ e f2 f3 (fun _ z => by cases z), RDs.mono st.up.F _ _ r⟩, ?_, fun z => ?_, fun z => ?_⟩
  · cases q : wd'.F L with
    | none => rfl
    | some o =>
      rcases st.fz L f1 (by rw [q]; simp) with h | h | h
      · exact absurd e (h.1 _)
      · exact absurd h f2
      · exact absurd h f3
  · have := st.na L z f2
    rw [e] at this; cases this
  · have := st.nb L z f3
    rw [e] at this; cases this
end
end Mn
set_option Elab.async false
set_option linter.all false
set_option maxRecDepth 100000
set_option maxHeartbeats 2000000
/-! M8: list comprehensions. -/
namespace Mn
open PySem PySem.Spec PyProof.Rows L2
abbrev W0 : WX := fun _ _ _ _ => False
section
variable {G : Gx} {wd wd' : Wd} {s : Sx} {σ : L2.St} {H H' : Hp} {L : Addr}
theorem Stp.wr (st : Stp wd H wd' H') (hL : H L = none) {o : HO} : Stp wd H wd' (upd H' L o) :=
  ⟨st.up, st.na, st.nb, fun b u h n1 n2 nt => by
    rw [upd_ne (fun z => by rw [z, hL] at h; cases h)]
    exact st.fr b u h n1 n2 nt, fun b h => by
    by_cases z : b = L
    · rw [z]; exact hL
    · rw [upd_ne z] at h; exact st.dom b h, st.fz⟩
theorem SR.wr (sr : SR G wd s σ H) {vs vs' : List V} (h : H L = some (.lst vs)) (f : wd.F L = none) (nl : L ∉ wd.al) (nb : L ∉ wd.be) : SR G wd s σ (upd H L (.lst vs')) where
  le := fun b o q => by rw [upd_ne (ne_of_none q f)]; exact sr.le b o q
  len := sr.len
  env := sr.env
  la := sr.la
  lb := sr.lb
  nd := sr.nd
  lc := fun i c e => by
    obtain ⟨b, p, rc⟩ := sr.lc i c e
    exact ⟨b, p, rc.upd fun z => nl (by rw [← z]; exact mem_of p)⟩
  gc := fun i c e => by
    obtain ⟨b, p, rc⟩ := sr.gc i c e
    exact ⟨b, p, rc.upd fun z => nb (by rw [← z]; exact mem_of p)⟩
  gn := sr.gn
  tb := ⟨tabs_put h sr.tb.1, sr.tb.2⟩
end
section
variable {G : Gx} {c : Cf}
/-- a state while the list at L is filled: from (wd1, H1) on -/
def Mid (G : Gx) (wd1 : Wd) (H1 : Hp) (L : Addr) (acc : List D) (wd : Wd) (s : Sx) (H : Hp) : Prop := Stp wd1 H1 wd H ∧ (∃ σ, SR G wd s σ H) ∧ Fill G wd H L acc
theorem Mid.put {wd1 wd : Wd} {H1 H : Hp} {L : Addr} {acc : List D} {s s2 : Sx} {σ : L2.St} {w : W} {v : V} {y : D} (hL : H1 L = none) (st : Stp wd1 H1 wd H) (sr : SR G wd s σ H) (f : Fill G wd H L acc) (r : RW G wd w v) (e : toD w s = .ok y s2) (hl : acc.length < 16777216) :
    ∃ vs, H L = some (.lst vs) ∧ vs.length < sizeLine ∧ ∃ wd2, Mid G wd1 H1 L (acc ++ [y]) wd2 s2 (upd H L (.lst (vs ++ [v]))) ∧ Up wd wd2 := by
  obtain ⟨F', sr2, l2, n2, ry⟩ := toD_ok sr r e
  have st2 : Stp wd1 H1 { wd with F := F' } H := st.trans (Stp.F l2 n2)
  obtain ⟨⟨vs, e1, r1⟩, f1, f2, f3⟩ := f
  have hf : F' L = none := (n2 L f2).trans f1
  exact ⟨vs, e1, by rw [r1.length, sizeLine_eq]; exact hl, { wd with F := F' }, ⟨st2.wr hL, ⟨σ, sr2.wr e1 hf f2 f3⟩, ⟨vs ++ [v], upd_same, RDs.append (RDs.mono l2 _ _ r1) (.cons ry .nil)⟩, hf, f2, f3⟩, Wd.up_F l2⟩
/-- one clause, turn by turn: Z says what is left to do -/
theorem lc_turns {js vs : List Nat} {g : Tg} {tt : M Bool} {f : M W} (hjs : ∀ j ∈ js, j ∈ vs) {wd1 : Wd} {H1 : Hp} {L : Addr} (hL : H1 L = none) {e0 : List (Option W)} {σ : L2.St} {xs : List D} {J : It} {wdg : Wd} {sg : Sx} {Hg : Hp}
    (sg0 : SR G wdg { sg with e := e0 } (wipe σ vs) Hg) (gv : Gv G wdg.F xs J) (Z : List D → Sx → Prop) {Nd : Hp → Prop}
    (hd : ∀ acc s wd H, Le wdg.F wd.F → Up wdg wd → Mid G wd1 H1 L acc wd s H → Z acc s → Nd H)
    {acc : List D} {s : Sx} {wd : Wd} {H : Hp} (ug : Up wdg wd) (md : Mid G wd1 H1 L acc wd s H) (hz : match lcGo e0 g tt f xs acc s with | .ok ys s2 => Z ys s2 | _ => False) :
    ∃ W : Nat → Nat → Hp → Prop, (∃ m, W 0 m H) ∧ ∀ i m H, W i m H → (J.stop i H ∧ Nd H) ∨ (J.go i H ∧ ∃ Nx : Hp → Prop, (∀ H', Nx H' → ∃ m', m' < m ∧ W (i + 1) m' H') ∧ ∀ x H', J.yld i H x H' →
      rdG G js g x (wipe σ vs) H' fun σ2 H2 => wipe σ2 vs = wipe σ vs ∧ rd G W0 rB tt σ2 H2 fun b H3 =>
        if b = true then rd G W0 (rW G) f σ2 H3 fun y H4 => ∃ acc, H4 L = some (.lst acc) ∧ acc.length < sizeLine ∧ Nx (upd H4 L (.lst (acc ++ [y]))) else Nx H3) := by
  refine ⟨fun i m H => m + i = xs.length ∧ ∃ acc s wd, Up wdg wd ∧ Mid G wd1 H1 L acc wd s H ∧ (match lcGo e0 g tt f (xs.drop i) acc s with | .ok ys s2 => Z ys s2 | _ => False), ⟨xs.length, by omega, acc, s, wd, ug, md, by rw [List.drop_zero]; exact hz⟩, fun i m H hW => ?_⟩
  obtain ⟨em, acc, s, wd, ug, ⟨st, ⟨σx, sr⟩, fl⟩, hz⟩ := hW
  have gi := gv wd.F H ug.F sr.le i
  by_cases hi : i < xs.length
  · obtain ⟨go, yl⟩ := gi.1 hi
    rw [List.drop_eq_getElem_cons hi] at hz
    refine .inr ⟨go, fun H => ∃ acc s wd, Up wdg wd ∧ Mid G wd1 H1 L acc wd s H ∧ (match lcGo e0 g tt f (xs.drop (i + 1)) acc s with | .ok ys s2 => Z ys s2 | _ => False), fun H' ⟨acc, s, wd, a, b, c⟩ => ⟨m - 1, by omega, by omega, acc, s, wd, a, b, c⟩, fun v H' hy => ?_⟩
    obtain ⟨F2, n2, rx⟩ := yl v H' hy
    have sr2 := sr.new n2
    have st2 := st.trans n2.stp
    have fl2 := fl.stp n2.stp
    have ug2 : Up wdg { wd with F := F2 } := ug.trans (Wd.up_F n2.lf)
    have srN : SR G { wd with F := F2 } { s with e := e0 } (wipe σ vs) H' := sr2.names sg0 ug2
    simp only [lcGo] at hz
    cases q : g (.d xs[i]) { s with e := e0 } with
    | none => simp only [q] at hz
    | some s2 =>
      simp only [q] at hz
      refine ⟨_, { s with e := e0 }, .d xs[i], s2, srN, rx _ (List.getElem?_eq_getElem hi), q, fun σ' sr3 bt => ⟨(wipe_eq bt hjs).trans (wipe_wipe σ vs), _, s2, sr3, ?_⟩⟩
      cases q2 : tt s2 with
      | exc x s3 => simp only [q2] at hz
      | stuck => simp only [q2] at hz
      | ok b s3 =>
        simp only [q2] at hz
        intro b' H3 wd3 st3 sr4 eb
        have eb : b' = b := eb
        subst eb
        have st4 := st2.trans st3
        have fl4 := fl2.stp st3
        have ug4 := ug2.trans st3.up
        cases b' with
        | true =>
          simp only [if_true] at hz ⊢
          refine ⟨wd3, s3, sr4, ?_⟩
          unfold bnd at hz
          cases q3 : f s3 with
          | exc x s4 => simp only [q3] at hz
          | stuck => simp only [q3] at hz
          | ok w s4 =>
            simp only [q3] at hz
            intro y H4 wd4 st5 sr5 ry
            cases q4 : toD w s4 with
            | exc x s5 => simp only [q4] at hz
            | stuck => simp only [q4] at hz
            | ok d s5 =>
              simp only [q4] at hz
              by_cases hl : acc.length < 16777216
              · simp only [if_pos hl] at hz
                obtain ⟨us, e1, e2, wd5, md5, l5⟩ := Mid.put hL (st4.trans st5) sr5 (fl4.stp st5) ry q4 hl
                exact ⟨us, e1, e2, acc ++ [d], s5, wd5, (ug4.trans st5.up).trans l5, md5, hz⟩
              · simp only [if_neg hl] at hz
        | false =>
          simp only [Bool.false_eq_true, if_false] at hz ⊢
          exact ⟨acc, s3, wd3, ug4, ⟨st4, ⟨σ', sr4⟩, fl4⟩, hz⟩
  · rw [List.drop_eq_nil_of_le (by omega)] at hz
    refine .inl ⟨gi.2 (by omega), hd acc s wd H ug.F ug ⟨st, ⟨σx, sr⟩, fl⟩ ?_⟩
    simp only [lcGo, pur] at hz
    exact hz
theorem rd_lc {js vs : List Nat} {it : M (List D)} {g : Tg} {tt : M Bool} {f : M W} {Wx : WX} (hjs : ∀ j ∈ js, j ∈ vs) {σ : L2.St} {H : Hp} {Q : VK} (h : rd G Wx (rL G) (lc vs it g tt f) σ H Q) : tLc (rd G Wx (rI G) it) (rdG G js g) (rd G W0 rB tt) (rd G W0 (rW G) f) vs σ H Q := by
  obtain ⟨wd, s, sr, h⟩ := h
  refine ⟨wd, s, sr, (Rs.bd (rel := rI G) h).imp fun J H1 ⟨wd1, s1, xs, _, _, sr1, gv, h1⟩ => fun L hL => ?_⟩
  have n0 : New wd1.F H1 wd1.F (upd H1 L (.lst [])) := ⟨Le.refl _, sr1.le.trans (Le.new hL), Le.new hL, (fun b e n => absurd e n), fun _ _ h => h⟩
  have f0 : Fill G wd1 (upd H1 L (.lst [])) L [] := ⟨⟨[], upd_same, .nil⟩, sr1.le.no hL, fun z => sr1.addr_l z hL, fun z => sr1.addr_b z hL⟩
  have hz0 : (match lcGo (wip s1.e vs) g tt f xs [] s1 with | .ok ys s2 => Rs G Wx (rL G) (.ok (ys.map W.d) { s2 with e := s1.e }) wd1 σ H1 Q | _ => False) := by
    cases q : lcGo (wip s1.e vs) g tt f xs [] s1 with
    | ok ys s2 => simp only [q] at h1 ⊢; exact h1
    | exc x s2 => simp only [q] at h1; exact h1.elim
    | stuck => simp only [q] at h1; exact h1.elim
  exact lc_turns (acc := []) (s := s1) hjs hL (sr1.wiped vs) gv (fun ys s2 => Rs G Wx (rL G) (.ok (ys.map W.d) { s2 with e := s1.e }) wd1 σ H1 Q) (fun acc s2 wd2 H2 l2 u2 ⟨st2, ⟨σ2, sr2⟩, fl2⟩ hz => by
    obtain ⟨⟨us, e1, r1⟩, f1, f2, f3⟩ := fl2
    exact hz (.ref L) H2 wd2 st2 (sr2.names sr1 u2) ⟨L, us, rfl, hL, e1, f1, f2, f3, RWs.of_D r1⟩) (Up.refl _) ⟨n0.stp, ⟨σ, sr1.new n0⟩, f0⟩ hz0
theorem rd_lc2 {js vs js1 vs1 : List Nat} {it it1 : M (List D)} {g g1 : Tg} {tt tt1 : M Bool} {f : M W} {Wx : WX} (hjs : ∀ j ∈ js, j ∈ vs) (hjs1 : ∀ j ∈ js1, j ∈ vs1) {σ : L2.St} {H : Hp} {Q : VK} (h : rd G Wx (rL G) (lc2 vs it g tt vs1 it1 g1 tt1 f) σ H Q) :
    tLc2 (rd G Wx (rI G) it) (rdG G js g) (rd G W0 rB tt) (rd G W0 (rI G) it1) (rdG G js1 g1) (rd G W0 rB tt1) (rd G W0 (rW G) f) vs vs1 σ H Q := by
  obtain ⟨wd, s, sr, h⟩ := h
  refine ⟨wd, s, sr, (Rs.bd (rel := rI G) h).imp fun J H1 ⟨wd1, s1, xs, _, _, sr1, gv, h1⟩ => fun L hL => ?_⟩
  have n0 : New wd1.F H1 wd1.F (upd H1 L (.lst [])) := ⟨Le.refl _, sr1.le.trans (Le.new hL), Le.new hL, (fun b e n => absurd e n), fun _ _ h => h⟩
  have f0 : Fill G wd1 (upd H1 L (.lst [])) L [] := ⟨⟨[], upd_same, .nil⟩, sr1.le.no hL, fun z => sr1.addr_l z hL, fun z => sr1.addr_b z hL⟩
  have fin : ∀ acc s2 wd2 H2, Up wd1 wd2 → Mid G wd1 H1 L acc wd2 s2 H2 → Rs G Wx (rL G) (.ok (acc.map W.d) { s2 with e := s1.e }) wd1 σ H1 Q → Q (.ref L) H2 := fun acc s2 wd2 H2 u2 ⟨st2, ⟨σ2, sr2⟩, fl2⟩ hz => by
    obtain ⟨⟨us, e1, r1⟩, f1, f2, f3⟩ := fl2
    exact hz (.ref L) H2 wd2 st2 (sr2.names sr1 u2) ⟨L, us, rfl, hL, e1, f1, f2, f3, RWs.of_D r1⟩
  have hz0 : (match lcGo2 (wip s1.e vs) g tt vs1 it1 g1 tt1 f xs [] s1 with | .ok ys s2 => Rs G Wx (rL G) (.ok (ys.map W.d) { s2 with e := s1.e }) wd1 σ H1 Q | _ => False) := by
    cases q : lcGo2 (wip s1.e vs) g tt vs1 it1 g1 tt1 f xs [] s1 with
    | ok ys s2 => simp only [q] at h1 ⊢; exact h1
    | exc x s2 => simp only [q] at h1; exact h1.elim
    | stuck => simp only [q] at h1; exact h1.elim
  refine ⟨fun i m H => m + i = xs.length ∧ ∃ acc s wd, Up wd1 wd ∧ Mid G wd1 H1 L acc wd s H ∧ (match lcGo2 (wip s1.e vs) g tt vs1 it1 g1 tt1 f (xs.drop i) acc s with | .ok ys s2 => Rs G Wx (rL G) (.ok (ys.map W.d) { s2 with e := s1.e }) wd1 σ H1 Q | _ => False),
    ⟨xs.length, by omega, [], s1, wd1, Up.refl _, ⟨n0.stp, ⟨σ, sr1.new n0⟩, f0⟩, by rw [List.drop_zero]; exact hz0⟩, fun i m H hW => ?_⟩
  obtain ⟨em, acc, s, wd, ug, ⟨st, ⟨σx, sr⟩, fl⟩, hz⟩ := hW
  have gi := gv wd.F H ug.F sr.le i
  by_cases hi : i < xs.length
  · obtain ⟨go, yl⟩ := gi.1 hi
    rw [List.drop_eq_getElem_cons hi] at hz
    refine .inr ⟨go, fun H => ∃ acc s wd, Up wd1 wd ∧ Mid G wd1 H1 L acc wd s H ∧ (match lcGo2 (wip s1.e vs) g tt vs1 it1 g1 tt1 f (xs.drop (i + 1)) acc s with | .ok ys s2 => Rs G Wx (rL G) (.ok (ys.map W.d) { s2 with e := s1.e }) wd1 σ H1 Q | _ => False),
      fun H' ⟨acc, s, wd, a, b, c⟩ => ⟨m - 1, by omega, by omega, acc, s, wd, a, b, c⟩, fun v H' hy => ?_⟩
    obtain ⟨F2, n2, rx⟩ := yl v H' hy
    have sr2 := sr.new n2
    have st2 := st.trans n2.stp
    have fl2 := fl.stp n2.stp
    have ug2 : Up wd1 { wd with F := F2 } := ug.trans (Wd.up_F n2.lf)
    have srN : SR G { wd with F := F2 } { s with e := wip s1.e vs } (wipe σ vs) H' := sr2.names (sr1.wiped vs) ug2
    simp only [lcGo2] at hz
    cases q : g (.d xs[i]) { s with e := wip s1.e vs } with
    | none => simp only [q] at hz
    | some s2 =>
      simp only [q] at hz
      refine ⟨_, { s with e := wip s1.e vs }, .d xs[i], s2, srN, rx _ (List.getElem?_eq_getElem hi), q, fun σ' sr3 bt => ⟨(wipe_eq bt hjs).trans (wipe_wipe σ vs), _, s2, sr3, ?_⟩⟩
      cases q2 : tt s2 with
      | exc x s3 => simp only [q2] at hz
      | stuck => simp only [q2] at hz
      | ok b s3 =>
        simp only [q2] at hz
        intro b' H3 wd3 st3 sr4 eb
        have eb : b' = b := eb
        subst eb
        have st4 := st2.trans st3
        have fl4 := fl2.stp st3
        have ug4 := ug2.trans st3.up
        cases b' with
        | true =>
          simp only [if_true] at hz ⊢
          refine ⟨wd3, s3, sr4, ?_⟩
          cases q3 : it1 s3 with
          | exc x s4 => simp only [q3] at hz
          | stuck => simp only [q3] at hz
          | ok ys s4 =>
            simp only [q3] at hz
            intro J1 H4 wd4 st5 sr5 gv1
            refine lc_turns (acc := acc) (s := s4) hjs1 hL (sr5.wiped vs1) gv1 (fun acc' s5 => match lcGo2 (wip s1.e vs) g tt vs1 it1 g1 tt1 f (xs.drop (i + 1)) acc' s5 with | .ok ys s2 => Rs G Wx (rL G) (.ok (ys.map W.d) { s2 with e := s1.e }) wd1 σ H1 Q | _ => False)
              (fun acc' s5 wd5 H5 l5 u5 md5 hz5 => ⟨acc', s5, wd5, (ug4.trans st5.up).trans u5, md5, hz5⟩) (Up.refl _) ⟨st4.trans st5, ⟨σ', sr5⟩, fl4.stp st5⟩ ?_
            cases q4 : lcGo (wip s4.e vs1) g1 tt1 f ys acc s4 with
            | exc x s5 => simp only [q4] at hz
            | stuck => simp only [q4] at hz
            | ok acc' s5 => simp only [q4] at hz ⊢; exact hz
        | false =>
          simp only [Bool.false_eq_true, if_false] at hz ⊢
          exact ⟨acc, s3, wd3, ug4, ⟨st4, ⟨σ', sr4⟩, fl4⟩, hz⟩
  · rw [List.drop_eq_nil_of_le (by omega)] at hz
    refine .inl ⟨gi.2 (by omega), fin acc s wd H ug ⟨st, ⟨σx, sr⟩, fl⟩ ?_⟩
    simp only [lcGo2, pur] at hz
    exact hz

/-! ### rules -/
theorem takesB {X : Cx} : Takes X W0 := L2.takes0
section
variable {elt tg iter tg1 iter1 : Expr} {ifs ifs1 : List Expr} {scope : Scope} {own : List (Str × Nat)} {pos spos py : Pos} {it it1 : M (List D)} {g g1 : Tg} {tt tt1 : M Bool} {f : M W} {js js1 vs1 : List Nat}
theorem ml_lc (hc : c.calm = true) (hi : MI G c tg iter it) (ok : blkC c.N c.sc scope own = true) (hg : MG G (c.blk scope) tg js g) (ht : MTs G (c.blk scope) ifs tt) (he : ME G (c.blk scope) elt f) (hjs : (js.all fun j => (own.map (·.2)).contains j) = true) (hs : ∀ env x, foldedSetIterable iter env x = pure x := by intro _ _; rfl) :
    ML G c (.ListComp elt [⟨tg, iter, ifs, 0⟩] scope pos) (lc (own.map (·.2)) it g tt f) := fun X on Wx tk =>
  (pe_lc (own := own) (on.cm hc) (by rw [on.N]; exact on.nd) (hi X on Wx tk) (by rw [on.N, on.sc]; exact blkOk_by ok) (fun s H C cl fp => hg _ (on.blk s H scope cl C fp)) (fun s H C cl fp => ht _ (on.blk s H scope cl C fp) W0 takesB) (fun s H C cl fp => he _ (on.blk s H scope cl C fp) W0 takesB) (hs _)).imp fun σ H Q h =>
    rd_lc (fun j hj => by simpa using List.all_eq_true.mp hjs j hj) h
theorem ml_lc2 (hc : c.calm = true) (hi : MI G c tg iter it) (ok : blkC c.N c.sc scope own = true) (hg : MG G (c.blk scope) tg js g) (ht : MTs G (c.blk scope) ifs tt) (hi1 : MI G (c.blk scope) tg1 iter1 it1) (hg1 : MG G (c.blk scope) tg1 js1 g1) (ht1 : MTs G (c.blk scope) ifs1 tt1) (he : ME G (c.blk scope) elt f)
    (hjs : (js.all fun j => (own.map (·.2)).contains j) = true) (hjs1 : (js1.all fun j => vs1.contains j) = true) (hvs : (vs1.all fun j => (own.map (·.2)).contains j) = true) (hs : ∀ env x, foldedSetIterable iter env x = pure x := by intro _ _; rfl) (hs1 : ∀ env x, foldedSetIterable iter1 env x = pure x := by intro _ _; rfl) :
    ML G c (.ListComp elt [⟨tg, iter, ifs, 0⟩, ⟨tg1, iter1, ifs1, 0⟩] scope pos) (lc2 (own.map (·.2)) it g tt vs1 it1 g1 tt1 f) := fun X on Wx tk =>
  (pe_lc2 (own := own) (vs1 := vs1) (on.cm hc) (by rw [on.N]; exact on.nd) (hi X on Wx tk) (by rw [on.N, on.sc]; exact blkOk_by ok) (fun j hj => by simpa using List.all_eq_true.mp hvs j hj) (fun s H C cl fp => hg _ (on.blk s H scope cl C fp)) (fun s H C cl fp => ht _ (on.blk s H scope cl C fp) W0 takesB)
    (fun s H C cl fp => hi1 _ (on.blk s H scope cl C fp) W0 takesB) (fun s H C cl fp => hg1 _ (on.blk s H scope cl C fp)) (fun s H C cl fp => ht1 _ (on.blk s H scope cl C fp) W0 takesB) (fun s H C cl fp => he _ (on.blk s H scope cl C fp) W0 takesB) (hs _) hs1).imp fun σ H Q h =>
    rd_lc2 (fun j hj => by simpa using List.all_eq_true.mp hjs j hj) (fun j hj => by simpa using List.all_eq_true.mp hjs1 j hj) h
/-- how a new list is used -/
def How (G : Gx) (hw : M (List W) → M W) : Prop := ∀ (Wx : WX) (f : M (List W)) (σ : L2.St) (H : Hp) (Q : VK), rd G Wx (rW G) (hw f) σ H Q → rd G Wx (rL G) f σ H Q
theorem how_frz : How G frz := fun _ _ _ _ _ h => rd_frz h
theorem how_own : How G Mn.own := fun _ _ _ _ _ h => rd_own h
theorem how_glo : How G glo := fun _ _ _ _ _ h => rd_glo h
/-- name = [..], stored within the comprehension's frame -/
theorem ms_setLc {i : Nat} {y : Str} {hw : M (List W) → M W} (hh : How G hw) (hc : c.calm = true) (hy : c.N[i]? = some y) (hyl : c.sc.names.lookup y = some .local) (hkf : c.sc.kind = .function) (hl : (py.line == pos.line) = true) (hna : (scope.names.any fun (n, k) => n == y && (k == .local || k == .cell)) = false)
    (hi : MI G c tg iter it) (ok : blkC c.N c.sc scope own = true) (hg : MG G (c.blk scope) tg js g) (ht : MTs G (c.blk scope) ifs tt) (he : ME G (c.blk scope) elt f) (hjs : (js.all fun j => (own.map (·.2)).contains j) = true) (hs : ∀ env x, foldedSetIterable iter env x = pure x := by intro _ _; rfl) :
    MS G c (.Assign [.Name y py] (.ListComp elt [⟨tg, iter, ifs, 0⟩] scope pos) spos) (Mn.st (tN i) (hw (lc (own.map (·.2)) it g tt f))) := fun X on Wx tk =>
  (ps_setLc (own := own) (i := i) (on.cm hc) (by rw [on.N]; exact on.nd) (by rw [on.N]; exact hy) (by rw [on.sc]; exact hyl) (sw_true (by rw [on.sc]; exact hkf) (by rw [on.sc]; exact hyl) hl hna) (hi X on Wx tk) (by rw [on.N, on.sc]; exact blkOk_by ok)
    (fun s H C cl fp => hg _ (on.blk s H scope cl C fp)) (fun s H C cl fp => ht _ (on.blk s H scope cl C fp) W0 takesB) (fun s H C cl fp => he _ (on.blk s H scope cl C fp) W0 takesB) (hs _)).imp fun D σ H h => by
    have h2 : tAsg (rd G Wx (rW G) (hw (lc (own.map (·.2)) it g tt f))) (rdG G [i] (tN i)) D σ H := rd_st h
    refine rd_lc (fun j hj => by simpa using List.all_eq_true.mp hjs j hj) (hh Wx _ σ H _ ?_)
    obtain ⟨wd, s, sr, h3⟩ := h2
    refine ⟨wd, s, sr, h3.imp fun v H' q => ?_⟩
    obtain ⟨wd2, s2, w, s3, sr2, r2, e2, k⟩ := q
    simp only [tN] at e2
    cases e2
    exact k _ (sr2.store r2 i) ⟨by rw [List.length_set], fun k hk => List.getElem?_set_ne (fun z => hk (by rw [← z]; exact List.mem_cons_self))⟩
theorem ms_setLc2 {i : Nat} {y : Str} {hw : M (List W) → M W} (hh : How G hw) (hc : c.calm = true) (hy : c.N[i]? = some y) (hyl : c.sc.names.lookup y = some .local) (hkf : c.sc.kind = .function) (hl : (py.line == pos.line) = true) (hna : (scope.names.any fun (n, k) => n == y && (k == .local || k == .cell)) = false)
    (hi : MI G c tg iter it) (ok : blkC c.N c.sc scope own = true) (hg : MG G (c.blk scope) tg js g) (ht : MTs G (c.blk scope) ifs tt) (hi1 : MI G (c.blk scope) tg1 iter1 it1) (hg1 : MG G (c.blk scope) tg1 js1 g1) (ht1 : MTs G (c.blk scope) ifs1 tt1) (he : ME G (c.blk scope) elt f)
    (hjs : (js.all fun j => (own.map (·.2)).contains j) = true) (hjs1 : (js1.all fun j => vs1.contains j) = true) (hvs : (vs1.all fun j => (own.map (·.2)).contains j) = true) (hs : ∀ env x, foldedSetIterable iter env x = pure x := by intro _ _; rfl) (hs1 : ∀ env x, foldedSetIterable iter1 env x = pure x := by intro _ _; rfl) :
    MS G c (.Assign [.Name y py] (.ListComp elt [⟨tg, iter, ifs, 0⟩, ⟨tg1, iter1, ifs1, 0⟩] scope pos) spos) (Mn.st (tN i) (hw (lc2 (own.map (·.2)) it g tt vs1 it1 g1 tt1 f))) := fun X on Wx tk =>
  (ps_setLc2 (own := own) (vs1 := vs1) (i := i) (on.cm hc) (by rw [on.N]; exact on.nd) (by rw [on.N]; exact hy) (by rw [on.sc]; exact hyl) (sw_true (by rw [on.sc]; exact hkf) (by rw [on.sc]; exact hyl) hl hna) (hi X on Wx tk) (by rw [on.N, on.sc]; exact blkOk_by ok) (fun j hj => by simpa using List.all_eq_true.mp hvs j hj)
    (fun s H C cl fp => hg _ (on.blk s H scope cl C fp)) (fun s H C cl fp => ht _ (on.blk s H scope cl C fp) W0 takesB) (fun s H C cl fp => hi1 _ (on.blk s H scope cl C fp) W0 takesB) (fun s H C cl fp => hg1 _ (on.blk s H scope cl C fp)) (fun s H C cl fp => ht1 _ (on.blk s H scope cl C fp) W0 takesB) (fun s H C cl fp => he _ (on.blk s H scope cl C fp) W0 takesB) (hs _) hs1).imp fun D σ H h => by
    have h2 : tAsg (rd G Wx (rW G) (hw (lc2 (own.map (·.2)) it g tt vs1 it1 g1 tt1 f))) (rdG G [i] (tN i)) D σ H := rd_st h
    refine rd_lc2 (fun j hj => by simpa using List.all_eq_true.mp hjs j hj) (fun j hj => by simpa using List.all_eq_true.mp hjs1 j hj) (hh Wx _ σ H _ ?_)
    obtain ⟨wd, s, sr, h3⟩ := h2
    refine ⟨wd, s, sr, h3.imp fun v H' q => ?_⟩
    obtain ⟨wd2, s2, w, s3, sr2, r2, e2, k⟩ := q
    simp only [tN] at e2
    cases e2
    exact k _ (sr2.store r2 i) ⟨by rw [List.length_set], fun k hk => List.getElem?_set_ne (fun z => hk (by rw [← z]; exact List.mem_cons_self))⟩
end
end
end Mn
set_option Elab.async false
set_option linter.all false
set_option maxRecDepth 100000
set_option maxHeartbeats 1000000
/-! M9: defs and their calls. -/
namespace Mn
open PySem PySem.Spec PyProof.Rows L2

/-- the promise of a def, when no error is being handled -/
structure FnG (G : Gx) (k : Nat) (f : Addr) (fd : FuncData) (ps : List Str) (sp : Sp) : Prop where
  len : ∀ vs H Q E, sp vs H Q E → vs.length = ps.length
  run : ∀ (A : Around) (outer : List Env) (s : Shared) (H : Hp) (args : Args) (us : List Value) (vs : List V) (Q : VK) (E : XK), Room k A → A.guards = some [] → Env0 G.P G.w G.K G.mg G.base A outer s H → BindsTo s fd args (ps.zip us) → Vals vs us → sp vs H Q E →
    codeAny (model G.P G.w) A (.call (.ref f) args) (CR (L2.CX G.P G.w) outer G.P G.w H s Q E) s
theorem FnG.mono {G : Gx} {j k : Nat} {f : Addr} {fd : FuncData} {ps : List Str} {sp : Sp} (F : FnG G j f fd ps sp) (h : j ≤ k) : FnG G k f fd ps sp := ⟨F.len, fun A outer s H args us vs Q E hr => F.run A outer s H args us vs Q E (hr.mono h)⟩
theorem FnG.imp {G : Gx} {k : Nat} {f : Addr} {fd : FuncData} {ps : List Str} {sp sp' : Sp} (F : FnG G k f fd ps sp) (h : ∀ vs H Q E, sp' vs H Q E → sp vs H Q E) : FnG G k f fd ps sp' :=
  ⟨fun vs H Q E q => F.len vs H Q E (h _ _ _ _ q), fun A outer s H args us vs Q E hr hg he hb hv hs => F.run A outer s H args us vs Q E hr hg he hb hv (h _ _ _ _ hs)⟩

def spF (G : Gx) (p : Nat) (F : Fn) : Sp := fun vs H Q E => ∃ wd ws g, wd.al = [] ∧ SR G wd ⟨[], [], g⟩ [] H ∧ RWs G wd ws vs ∧ noL ws = true ∧ ws.length = p ∧ FoS G (F ws g) wd H Q E

section
variable {G : Gx} {wd wd' : Wd} {s : Sx} {σ : L2.St} {H H' : Hp}
theorem RW.same {w : W} {v : V} (hn : noL [w] = true) (hb : wd'.be = wd.be) (hF : wd'.F = wd.F) (h : RW G wd w v) : RW G wd' w v := by
  cases w with
  | d x => show RD G wd'.F x v; rw [hF]; exact h
  | g n => obtain ⟨a, e, r⟩ := h; exact ⟨a, by rw [hb]; exact e, r⟩
  | l n => simp [noL] at hn
  | e c xs => simp [noL] at hn
  | t => simp [noL] at hn
theorem noL_one {w : W} {ws : List W} (h : noL (w :: ws) = true) : noL [w] = true ∧ noL ws = true := by
  cases w <;> simp_all [noL]
theorem RWs.same (hb : wd'.be = wd.be) (hF : wd'.F = wd.F) : ∀ {ws : List W} {vs : List V}, noL ws = true → RWs G wd ws vs → RWs G wd' ws vs
  | [], vs, _, h => h
  | w :: ws, vs, hn, h => by
    simp only [RWs] at h ⊢
    obtain ⟨v, r, e, a, b⟩ := h
    exact ⟨v, r, e, a.same (noL_one hn).1 hb hF, RWs.same hb hF (noL_one hn).2 b⟩
theorem RC.same {a : Addr} {c : Cell} (hn : noLc c = true) (hb : wd'.be = wd.be) (hF : wd'.F = wd.F) (h : RC G wd H a c) : RC G wd' H a c := by
  cases c with
  | m ws => obtain ⟨vs, e, f, r⟩ := h; exact ⟨vs, e, by rw [hF]; exact f, r.same hb hF hn⟩
  | f ds => exact ⟨by rw [hF]; exact h.1, h.2⟩
  | i c ws => obtain ⟨dx, fs, vs, e, f, z, r⟩ := h; exact ⟨dx, fs, vs, e, by rw [hF]; exact f, z, r.same hb hF hn⟩
/-- only what is shared -/
def Wd.shut (wd : Wd) : Wd := { wd with al := [] }
theorem SR.shut (sr : SR G wd s σ H) : SR G wd.shut ⟨[], [], s.g⟩ [] H where
  le := sr.le
  len := rfl
  env := fun i w e => by simp at e
  la := rfl
  lb := sr.lb
  nd := by
    have h := (List.nodup_append.mp sr.nd).2.1
    simpa [Wd.shut] using h
  lc := fun n c e => by simp at e
  gc := fun n c e => by
    obtain ⟨a, p, q⟩ := sr.gc n c e
    exact ⟨a, p, RC.same (wd := wd) (wd' := wd.shut) (sr.gn n c e) rfl rfl q⟩
  gn := sr.gn
  tb := sr.tb
/-- the caller's state behind a call -/
def Wd.back (wd wd' : Wd) : Wd := { wd' with al := wd.al }
theorem SR.after (sr : SR G wd s σ H) {g : List Cell} (st : Stp wd.shut H wd' H') (hal : wd'.al = []) (sc : SR G wd' ⟨[], [], g⟩ [] H') : Stp wd H (wd.back wd') H' ∧ SR G (wd.back wd') { s with g := g } σ H' := by
  have up : Up wd (wd.back wd') := ⟨⟨[], by simp [Wd.back]⟩, st.up.be, st.up.F⟩
  have no : ∀ b, wd.F b = none → ¬ Fix H b → b ∉ wd.be → wd'.F b = none := fun b h1 h2 h3 => by
    by_cases q : wd'.F b = none
    · exact q
    · rcases st.fz b h1 q with z | z | z
      · exact absurd z h2
      · cases z
      · exact absurd z h3
  refine ⟨⟨up, fun a h n => absurd h n, fun a h n => st.nb a h n, fun b o h n1 n2 nt => st.fr b o h (fun z => nomatch z) n2 nt, st.dom, fun b h n => ?_⟩, ⟨sc.le, sr.len, fun i w e => ?_, sr.la, sc.lb, ?_, fun n c e => ?_, fun n c e => ?_, sc.gn, sc.tb⟩⟩
  · rcases st.fz b h n with z | z | z
    · exact .inl z
    · cases z
    · exact .inr (.inr z)
  · obtain ⟨v, p, q⟩ := sr.env i w e
    exact ⟨v, p, q.mono up⟩
  · have nd := sr.nd
    have nb : wd'.be.Nodup := by simpa [hal] using sc.nd
    refine List.nodup_append.mpr ⟨(List.nodup_append.mp nd).1, nb, fun a ha b hb => ?_⟩
    by_cases q : b ∈ wd.be
    · exact (List.nodup_append.mp nd).2.2 a ha b q
    · intro z
      subst z
      exact sr.addr_l ha (st.nb a hb q)
  · obtain ⟨a, p, q⟩ := sr.lc n c e
    have hm : a ∈ wd.al := mem_of p
    have nb : a ∉ wd.be := fun z => nd_lm sr.nd hm z rfl
    refine ⟨a, p, ?_⟩
    cases c with
    | m ws =>
      obtain ⟨vs, e1, f, r⟩ := q
      exact ⟨vs, st.fr a _ e1 (fun z => nomatch z) nb (fun ps z => by cases z), no a f (fun z => z.1 _ e1) nb, r.mono up⟩
    | f ds => exact ⟨RD.mono up.F _ _ q.1, let ⟨vs, e⟩ := q.2; ⟨vs, st.fr a _ e (fun z => nomatch z) nb (fun ps z => by cases z)⟩⟩
    | i c ws =>
      obtain ⟨dx, fs, vs, e1, f, z, r⟩ := q
      exact ⟨dx, fs, vs, st.fr a _ e1 (fun z => nomatch z) nb (fun ps z => by cases z), no a f (fun z => z.2 _ _ _ e1) nb, z, r.mono up⟩
  · obtain ⟨a, p, q⟩ := sc.gc n c e
    exact ⟨a, p, RC.same (wd := wd') (wd' := wd.back wd') (sc.gn n c e) rfl rfl q⟩
/-- the callee's state at its end, from its caller's view -/
theorem Stp.shut {wd0 : Wd} (h0 : wd0.al = []) (st : Stp wd0 H wd' H') : Stp wd0 H wd'.shut H' where
  up := ⟨⟨[], by simp [h0, Wd.shut]⟩, st.up.be, st.up.F⟩
  na := fun a h n => absurd h (by simp [Wd.shut])
  nb := st.nb
  fr := st.fr
  dom := st.dom
  fz := st.fz
theorem toA_noL {w v : W} {s s' : Sx} (h : toA w s = .ok v s') : noL [v] = true := by
  cases w with
  | g n => simp only [toA] at h; cases h; rfl
  | d x => simp only [toA, toD, bnd, pur] at h; cases h; rfl
  | l n =>
    simp only [toA, bnd, pur] at h
    cases q : toD (.l n) s with
    | ok x s1 => rw [q] at h; cases h; rfl
    | exc x s1 => rw [q] at h; cases h
    | stuck => rw [q] at h; cases h
  | e c xs => simp only [toA, toD, bnd] at h; cases h
  | t => simp only [toA, toD, bnd] at h; cases h
theorem toAs_noL : ∀ {ws vs : List W} {s s' : Sx}, toAs ws s = .ok vs s' → noL vs = true
  | [], vs, s, s', h => by simp only [toAs, pur] at h; cases h; rfl
  | w :: ws, vs, s, s', h => by
    simp only [toAs, bnd, pur] at h
    cases q : toA w s with
    | ok x s1 =>
      rw [q] at h
      simp only at h
      cases q2 : toAs ws s1 with
      | ok xs s2 =>
        rw [q2] at h
        cases h
        have h1 := toA_noL q
        have h2 := toAs_noL q2
        cases x <;> simp_all [noL]
      | exc x s1 => rw [q2] at h; cases h
      | stuck => rw [q2] at h; cases h
    | exc x s1 => rw [q] at h; cases h
    | stuck => rw [q] at h; cases h
end

section
variable {G : Gx} {c : Cf} {k : Nat} {f : Addr} {fd : FuncData} {ps : List Str} {F : Fn}
theorem spF_len {p : Nat} {vs : List V} {H : Hp} {Q : VK} {E : XK} (h : spF G p F vs H Q E) : vs.length = p := by
  obtain ⟨wd, ws, g, h1, sr, r, n, l, _⟩ := h
  rw [r.length, l]
theorem noL_map_some {ws : List W} : True := trivial
theorem start_env {wd : Wd} {N : List Str} : ∀ {ws : List W} {vs : List V} (i : Nat) (w : W), RWs G wd ws vs → (ws.map some ++ List.replicate (N.length - ws.length) none)[i]? = some (some w) → ∃ v, (L2.start N vs)[i]? = some (some v) ∧ RW G wd w v := fun {ws vs} i w r e => by
  have hl := r.length
  unfold L2.start
  by_cases h : i < ws.length
  · rw [List.getElem?_append_left (by simpa using h), List.getElem?_map] at e
    cases q : ws[i]? with
    | none => rw [q] at e; cases e
    | some x =>
      rw [q] at e
      cases e
      obtain ⟨v, e2, rw_⟩ := r.get q
      refine ⟨v, ?_, rw_⟩
      rw [List.getElem?_append_left (by rw [List.length_map, hl]; exact h), List.getElem?_map, e2]
      rfl
  · rw [List.getElem?_append_right (by simpa using h), List.getElem?_replicate] at e
    split at e <;> cases e
theorem SR.enter {wd : Wd} {g : List Cell} {H : Hp} {N : List Str} {ws : List W} {vs : List V} (sr : SR G wd ⟨[], [], g⟩ [] H) (r : RWs G wd ws vs) : SR G wd ⟨ws.map some ++ List.replicate (N.length - ws.length) none, [], g⟩ (L2.start N vs) H where
  le := sr.le
  len := by
    show (ws.map some ++ List.replicate (N.length - ws.length) none).length = _
    unfold L2.start
    simp [r.length]
  env := fun i w e => start_env i w r e
  la := sr.la
  lb := sr.lb
  nd := sr.nd
  lc := sr.lc
  gc := sr.gc
  gn := sr.gn
  tb := sr.tb
/-- a def by its body -/
theorem fn_g (hex : G.ex = none) {name qual : Str} {params : Arguments} {body : List Stmt} {scope : Scope} {dV kV doc pm cdv ct oc : Value} {an od : Option Addr} {osl : Array (Option Value)} {N : List Str} {b : St}
    (lk : G.K.lookup f = some ⟨oc, od, .func (PySem.W.fnOf name qual params body scope dV kV doc pm an cdv ct), osl⟩) (hcd : PySem.W.codeIn G.K cdv qual = true) (S : FnScope N ps scope) (hb : MSs G (.dfn N scope k false qual cdv) body b) :
    FnG G (k + 1) f (PySem.W.fnOf name qual params body scope dV kV doc pm an cdv ct) ps (spF G ps.length (fn N.length ps.length b)) := by
  refine ⟨fun vs H Q E h => spF_len h, fun A outer s H args us vs Q E hr hgd e0 hbd r hsp => ?_⟩
  have hl := spF_len hsp
  have KX : G.K.In s.heap := e0.mod.kin.keeps fun b o e => (e0.bs b o e).1
  have lim : s.heap.NoLimit := e0.mod.nolimit.keeps fun b o e => (e0.bs b o e).1
  have hkind : ∀ y ∈ ps.zip us, scope.names.lookup y.1 = some .local ∨ (scope.names.lookup y.1 = some .cell ∧ ((cellsFrom (s.heap.objs.size + 1) scope.names []).lookup y.1).isSome = true) := fun ⟨n, v⟩ hy =>
    (S.par n (List.of_mem_zip hy).1).imp id fun q => ⟨q, PySem.W.cellsFrom_some _ _ _ (.inl q)⟩
  refine codeAny_call_function hr.depth (KX _ _ lk) rfl S.co S.gen rfl (PySem.W.codeRec_of KX hcd) (hbd _ _ _ _ ?_)
  refine wpAny_newFunctionEnv_cells S.kind hkind fun env he s1 x => ?_
  subst he
  refine ⟨lim.keeps x.toInCall.keep, codeAny_func ?_⟩
  have hr2 := hr.deeper (envOfC qual scope s.heap.objs.size f cdv)
  have on : On G (.dfn N scope k false qual cdv) (cxOf (L2.CX G.P G.w) G.P G.w G.K G.mg G.base N qual scope f cdv A outer s H E) :=
    ⟨rfl, rfl, rfl, rfl, rfl, rfl, S.nd, rfl, hr2.dp, hr2.un, hgd, fun _ => hr2.hd, fun _ => rfl, fun _ _ => rfl, passes_of rfl, fun _ => rfl, fun _ => rfl, fun _ => rfl, fun _ => rfl, fun _ => hex, (fun z => by cases z), (fun z => by cases z)⟩
  have tk : Takes (cxOf (L2.CX G.P G.w) G.P G.w G.K G.mg G.base N qual scope f cdv A outer s H E) (fun cls d _ H => E cls d H) := takes_of rfl rfl rfl rfl
  have I := inv_start (CX := L2.CX G.P G.w) (E := E) S hr.hd e0 hl r x
  obtain ⟨wd, ws, g, h1, sr, rw_, hn, hlw, ho⟩ := hsp
  have sr0 : SR G wd ⟨ws.map some ++ List.replicate (N.length - ps.length) none, [], g⟩ (L2.start N vs) H := by
    rw [← hlw]; exact sr.enter rw_
  have he : fn N.length ps.length b ws g = fo (b ⟨ws.map some ++ List.replicate (N.length - ps.length) none, [], g⟩) := by
    unfold fn
    rw [if_pos hlw]
  rw [he] at ho
  have hq : rdS G (fun cls d _ H => E cls d H) b { nx := fun _ H' => Q .non H', rt := Q } (L2.start N vs) H := by
    refine ⟨wd, _, sr0, ?_⟩
    unfold RsS
    cases q : b ⟨ws.map some ++ List.replicate (N.length - ps.length) none, [], g⟩ with
    | ok fl s2 =>
      rw [q] at ho
      cases fl with
      | nx =>
        intro σ' H' wd' st sr2
        exact ho .non H' _ rfl (st.shut h1) rfl sr2.shut (by show RD G wd'.F .non .non; simp only [RD])
      | rt w =>
        intro v σ' H' wd' st sr2 rv
        have ho : FoS G (match toA w s2 with | .ok v s1 => .ok v s1.g | _ => .stuck) wd H Q E := ho
        cases q2 : toA w s2 with
        | ok y s3 =>
          rw [q2] at ho
          obtain ⟨F', sr3, l1, n1, ry, ny⟩ := toA_ok sr2 rv q2
          have st2 : Stp wd H { wd' with F := F' } H' := st.trans (Stp.F l1 n1)
          exact ho v H' _ ny (st2.shut h1) rfl sr3.shut (RW.same (wd := { wd' with F := F' }) (wd' := Wd.shut { wd' with F := F' }) ny rfl rfl ry)
        | exc x s3 => rw [q2] at ho; exact ho.elim
        | stuck => rw [q2] at ho; exact ho.elim
      | bk => exact ho.elim
      | ct => exact ho.elim
    | exc x s2 =>
      rw [q] at ho
      intro cls d σ' H' wd' st sr2 xr
      exact ho cls d H' _ (st.shut h1) rfl sr2.shut xr
    | stuck => rw [q] at ho; exact ho.elim
  refine wpAny_mono ((hb _ on _ tk).run [] s1 (L2.start N vs) H _ I hq) (fun fl s' hs => ?_) fun e s' hs => hs
  have fin : ∀ {σ' : L2.St} {H' : Hp} {v : V} {u : Value}, Inv (cxOf (L2.CX G.P G.w) G.P G.w G.K G.mg G.base N qual scope f cdv A outer s H E) [] σ' H' s' → L2.RelV v u → Q v H' → CE outer G.P G.w H s Q u s' :=
    fun {σ' H' v u} J rv q => ⟨v, H', J.os, J.bare, J.base, J.hok, rv, q⟩
  cases fl with
  | ret u => obtain ⟨v, σ', H', J, rv, q⟩ := hs; exact fin J rv q
  | next => obtain ⟨σ', H', J, q⟩ := hs; exact fin (v := V.non) (u := Value.none) J rfl q
  | brk => obtain ⟨_, _, _, q⟩ := hs; exact q.elim
  | cont => obtain ⟨_, _, _, q⟩ := hs; exact q.elim

/-- what a call's text becomes -/
theorem Rs.call {Wx : WX} {p : Nat} {σ : L2.St} {H : Hp} {wd : Wd} {s : Sx} {ws : List W} {vs : List V} {Q : VK} (hp : ∀ ws' g, F ws' g ≠ .stuck → ws'.length = p)
    (h : Rs G Wx (rW G) (bnd (toAs ws) (fun vs s => match F vs s.g with | .ok w g => .ok w { s with g := g } | .exc x g => .exc x { s with g := g } | .stuck => .stuck) s) wd σ H Q) (sr : SR G wd s σ H) (r : RWs G wd ws vs) :
    spF G p F vs H Q (fun cls d H' => Wx cls d σ H') := by
  obtain ⟨F', s1, xs, e, sr1, l1, n1, rx, nx, h⟩ := Rs.tas h sr r
  refine ⟨Wd.shut { wd with F := F' }, xs, s1.g, rfl, sr1.shut, RWs.same (wd := { wd with F := F' }) (wd' := Wd.shut { wd with F := F' }) rfl rfl nx rx, nx, ?_, ?_⟩
  · refine hp xs s1.g fun z => ?_
    rw [z] at h; exact h
  · cases q : F xs s1.g with
    | ok w g =>
      rw [q] at h
      intro v H' wd' nw st hal sc rv
      obtain ⟨st2, sr2⟩ := sr1.after st hal sc
      exact h v H' _ st2 sr2 (RW.same (wd := wd') (wd' := Wd.back { wd with F := F' } wd') nw rfl rfl rv)
    | exc x g =>
      rw [q] at h
      intro cls d H' wd' st hal sc xr
      obtain ⟨st2, sr2⟩ := sr1.after st hal sc
      exact h cls d H' _ st2 sr2 xr
    | stuck => rw [q] at h; exact h.elim
/-- f(a, ..) -/
theorem run_g {X : Cx} {p : Nat} {pins : List (Addr × Obj)} {σ : L2.St} {H : Hp} {s : Shared} {Q : VK} {us : List Value} {vs : List V} {args : Args} {Wx : WX} (Fo : FnG G k f fd ps (spF G p F)) (on : On G c X) (hc : c.calm = true) (hk : k ≤ c.k) (tk : Takes X Wx)
    (I : Inv X pins σ H s) (hb : BindsTo s fd args (ps.zip us)) (r : Vals vs us) (h : spF G p F vs H Q (fun cls d H' => Wx cls d σ H')) : codeAny (model X.prog X.w) X.A (.call (.ref f) args) (fun r s' => match r with | .ok (.ret v) => EP X pins σ Q v s' | .ok _ => False | .error e => X.xe e s') s := by
  have e0 : Env0 G.P G.w G.K G.mg G.base X.A X.stack s H := by
    have z := I.env0
    rw [on.p, on.w, on.K, on.mg, on.base] at z
    exact z
  rw [on.p, on.w]
  refine codeAny_mono (Fo.run X.A X.stack s H args us vs Q _ ((on.room hc).mono hk) on.gd e0 hb r h) fun r s' hq => ?_
  cases r with
  | error e =>
    have hq : L2.CX G.P G.w X.stack H s _ e s' := hq
    rw [← on.p, ← on.w] at hq
    exact tk e s' (XE.of_call I (fun _ _ _ h => h) hq)
  | ok fl =>
    cases fl with
    | ret u =>
      have hq : CE X.stack G.P G.w H s Q u s' := hq
      rw [← on.p, ← on.w] at hq
      exact I.after hq
    | next => exact False.elim hq
    | brk => exact False.elim hq
    | cont => exact False.elim hq
end
end Mn
set_option Elab.async false
set_option linter.all false
set_option maxRecDepth 100000
set_option maxHeartbeats 1000000
/-! M10: calls of defs. -/
namespace Mn
open PySem PySem.Spec PyProof.Rows L2
/-- a def of the text, as its callers need it -/
structure Df (G : Gx) (k : Nat) (n : Nat) (pr : Arguments) (ps : List Str) (F : Fn) : Prop where
  ex : ∃ (name qual : Str) (body : List Stmt) (scope : Scope) (kV doc pm cdv ct : Value) (an : Option Addr), FnG G k (G.cn n) (PySem.W.fnOf name qual pr body scope .none kV doc pm an cdv ct) ps (spF G ps.length F) ∧ PySem.W.keepIn G.K (.ref (G.cn n)) = true ∧
    Binds G.K (PySem.W.fnOf name qual pr body scope .none kV doc pm an cdv ct) ps [] ∧ (∀ ws g, F ws g ≠ .stuck → ws.length = ps.length)
theorem fn_len {n p : Nat} {b : St} (ws : List W) (g : List Cell) (h : fn n p b ws g ≠ .stuck) : ws.length = p := by
  unfold fn at h
  by_cases q : ws.length = p
  · exact q
  · rw [if_neg q] at h; exact absurd rfl h
section
variable {G : Gx} {c : Cf} {k n : Nat} {pr : Arguments} {ps : List Str} {F : Fn} {e : Expr} {es : List Expr} {fs : M (List W)} {x : Str} {p pos : Pos}
theorem run_pos {X : Cx} {fd : FuncData} {f : Addr} {pins : List (Addr × Obj)} {σ : L2.St} {H : Hp} {s : Shared} {Q : VK} {us : List Value} {vs : List V} {Wx : WX} (Fo : FnG G k f fd ps (spF G ps.length F)) (hb : Binds G.K fd ps []) (on : On G c X) (hc : c.calm = true) (hk : k ≤ c.k) (tk : Takes X Wx)
    (I : Inv X pins σ H s) (r : Vals vs us) (h : spF G ps.length F vs H Q (fun cls d H' => Wx cls d σ H')) : wpAny (model X.prog X.w) X.A (call (.ref f) us) (EP X pins σ Q) X.xe s := by
  have hl : (us ++ []).length = ps.length := by rw [List.append_nil, ← r.length]; exact spF_len h
  have hB := hb s us (by rw [← on.K]; exact I.kIn) hl
  rw [List.append_nil] at hB
  refine wpAny_call (codeAny_mono (run_g Fo on hc hk tk I hB r h) fun r s' hq => ?_)
  cases r with
  | error e => exact hq
  | ok fl => cases fl <;> exact hq
theorem rd_cl {Wx : WX} {p : Nat} {σ : L2.St} {H : Hp} {Q : VK} (hp : ∀ ws' g, F ws' g ≠ .stuck → ws'.length = p) (h : rd G Wx (rW G) (cl F fs) σ H Q) : rd G Wx (rA G) fs σ H fun vs H1 => spF G p F vs H1 Q (fun cls d H' => Wx cls d σ H') := by
  obtain ⟨wd, s, sr, h⟩ := h
  refine ⟨wd, s, sr, (Rs.bd (rel := rA G) h).imp ?_⟩
  rintro vs H1 ⟨wd1, s1, ws, e, st, sr1, rv, h1⟩
  exact Rs.call hp h1 sr1 rv
theorem me_cl (D : Df G k n pr ps F) (hc : c.calm = true) (hk : k ≤ c.k) (hg : GlS c.sc x) (hm : G.mg x = some (.ref (G.cn n))) (ha : MA G c (e :: es) fs) (hdb : (x == ("__debug__" : Str)) = false := by decide)
    (he : ∀ env, starEach (e :: es) env = (false, eval e env) :: starEach es env := by intro _; rfl) (hpl : ∀ env, (backTo pos (starEach es env)).any (·.1) = false := by intro _; rfl) : ME G c (.Call (.Name x p) (e :: es) [] pos) (cl F fs) := fun X on Wx tk => by
  obtain ⟨nm, ql, bd, scp, kV, doc, pm, cdv, ct, an, Fo, hkp, hb, hp⟩ := D.ex
  refine ⟨fun pins s σ H Q I h => ?_⟩
  refine wpAny_Call_Name_kw (ld_glob I (on.gl hg) (by rw [on.mg]; exact hm) ?_ hdb)
  refine PySem.W.callWith_K (h₀ := X.base) I.ok.mod.kin (by rw [on.K]; exact hkp) (thn ((ha X on Wx tk).run pos pins s σ H _ I (rd_cl hp h)) fun us s1 ⟨vs, H1, I1, r, q⟩ => ⟨I1.kIn, ?_⟩) (he _) (hpl _)
  exact run_pos Fo hb on hc hk tk I1 r q
/-- f() -/
theorem me_cl0 (D : Df G k n pr ps F) (hc : c.calm = true) (hk : k ≤ c.k) (hg : GlS c.sc x) (hm : G.mg x = some (.ref (G.cn n))) (hdb : (x == ("__debug__" : Str)) = false := by decide) : ME G c (.Call (.Name x p) [] [] pos) (cl F (args [])) := fun X on Wx tk => by
  obtain ⟨nm, ql, bd, scp, kV, doc, pm, cdv, ct, an, Fo, hkp, hb, hp⟩ := D.ex
  refine ⟨fun pins s σ H Q I h => ?_⟩
  refine wpAny_Call_Name_kw (ld_glob I (on.gl hg) (by rw [on.mg]; exact hm) ?_ hdb)
  obtain ⟨wd, st, sr, h⟩ := rd_cl hp h
  have h' : spF G ps.length F [] H Q (fun cls d H' => Wx cls d σ H') := Rs.ok_now h sr .nil
  exact PySem.W.callWith_K0 I.kIn (by rw [on.K]; exact hkp) (run_pos (us := []) Fo hb on hc hk tk I .nil h')
/-- the defs that a local name may hold -/
def clv (T : Nat → Option Fn) (i : Nat) (a : M (List W)) : M W := bnd (vr i) fun w => match w with
  | .d (.con n) => (match T n with | some F => cl F a | none => fun _ => .stuck)
  | _ => fun _ => .stuck
theorem me_clv {i : Nat} {T : Nat → Option Fn} (hT : ∀ n F, T n = some F → ∃ k pr ps, k ≤ c.k ∧ Df G k n pr ps F) (hc : c.calm = true) (hN : c.N[i]? = some x) (hv : Vis c.sc x) (ha : MA G c (e :: es) fs) (hdb : (x == ("__debug__" : Str)) = false := by decide) (hcd : (x == ("__classdict__" : Str)) = false := by decide)
    (he : ∀ env, starEach (e :: es) env = (false, eval e env) :: starEach es env := by intro _; rfl) (hpl : ∀ env, (backTo pos (starEach es env)).any (·.1) = false := by intro _; rfl) : ME G c (.Call (.Name x p) (e :: es) [] pos) (clv T i fs) := fun X on Wx tk => by
  refine ⟨fun pins s σ H Q I h => ?_⟩
  obtain ⟨wd, s0, sr, h⟩ := h
  have hv' := (me_vr (G := G) (pos := p) hN hv hdb hcd) X on Wx tk
  have h1 := Rs.bd (rel := rW G) h
  refine wpAny_Call_Name_kw (thn (hv'.run pins s σ H _ I ⟨wd, s0, sr, h1⟩) fun u s1 ⟨v, H1, I1, r1, wd1, s2, w, e1, st, sr1, rv, h2⟩ => ?_)
  cases w with
  | d x =>
    cases x with
    | con n =>
      have rv : v = .ref (G.cn n) := by
        have z : RD G wd1.F (.con n) v := rv
        simpa only [RD] using z
      subst rv
      obtain rfl : u = Value.ref (G.cn n) := r1
      simp only at h2
      cases q : T n with
      | none => rw [q] at h2; exact h2.elim
      | some F =>
        rw [q] at h2
        obtain ⟨k, pr, ps, hk, D⟩ := hT n F q
        obtain ⟨nm, ql, bd, scp, kV, doc, pm, cdv, ct, an, Fo, hkp, hb, hp⟩ := D.ex
        refine PySem.W.callWith_K (h₀ := X.base) I.ok.mod.kin (by rw [on.K]; exact hkp) (thn ((ha X on Wx tk).run pos pins s1 σ H1 _ I1 (rd_cl hp ⟨wd1, s2, sr1, h2⟩)) fun us s3 ⟨vs, H3, I3, r, q⟩ => ⟨I3.kIn, ?_⟩) (he _) (hpl _)
        exact run_pos Fo hb on hc hk tk I3 r q
    | _ => exact h2.elim
  | _ => exact h2.elim
/-- in the order that js tells -/
def reord {α : Type} (ws : List α) : List Nat → Option (List α)
  | [] => some []
  | j :: js => match nth ws j with | some x => (match reord ws js with | some r => some (x :: r) | none => none) | none => none
def clK (F : Fn) (js : List Nat) (a : M (List W)) : M W := bnd a fun ws => match reord ws js with
  | some us => bnd (toAs us) fun vs s => (match F vs s.g with | .ok w g => .ok w { s with g := g } | .exc x g => .exc x { s with g := g } | .stuck => .stuck)
  | none => fun _ => .stuck
theorem reord_rel {wd : Wd} {ws : List W} {vs : List V} (r : RWs G wd ws vs) : ∀ {js : List Nat} {us : List W}, reord ws js = some us → ∃ vs', reord vs js = some vs' ∧ RWs G wd us vs'
  | [], us, h => by simp only [reord] at h; cases h; exact ⟨[], rfl, .nil⟩
  | j :: js, us, h => by
    simp only [reord, nth_eq] at h ⊢
    cases q : ws[j]? with
    | none => rw [q] at h; cases h
    | some x =>
      rw [q] at h
      cases q2 : reord ws js with
      | none => rw [q2] at h; cases h
      | some r2 =>
        rw [q2] at h
        cases h
        obtain ⟨v, e, rv⟩ := r.get q
        obtain ⟨vs', e2, r3⟩ := reord_rel r q2
        exact ⟨v :: vs', by rw [e, e2], .cons rv r3⟩
theorem reord_vals {vs : List V} {us : List Value} (r : Vals vs us) : ∀ {js : List Nat} {vs' : List V} {us' : List Value}, reord vs js = some vs' → reord us js = some us' → Vals vs' us'
  | [], vs', us', h, h2 => by simp only [reord] at h h2; cases h; cases h2; exact .nil
  | j :: js, vs', us', h, h2 => by
    simp only [reord, nth_eq] at h h2
    cases q : vs[j]? with
    | none => rw [q] at h; cases h
    | some x =>
      obtain ⟨u, e, rv⟩ := r.get q
      rw [q] at h
      rw [e] at h2
      cases q2 : reord vs js with
      | none => rw [q2] at h; cases h
      | some r2 =>
        rw [q2] at h
        cases q3 : reord us js with
        | none => rw [q3] at h2; cases h2
        | some r3 =>
          rw [q3] at h2
          cases h
          cases h2
          exact .cons rv (reord_vals r q2 q3)
theorem reord_some {vs : List V} {us : List Value} (r : Vals vs us) : ∀ {js : List Nat} {vs' : List V}, reord vs js = some vs' → ∃ us', reord us js = some us' ∧ Vals vs' us'
  | [], vs', h => by simp only [reord] at h; cases h; exact ⟨[], rfl, .nil⟩
  | j :: js, vs', h => by
    simp only [reord, nth_eq] at h ⊢
    cases q : vs[j]? with
    | none => rw [q] at h; cases h
    | some x =>
      obtain ⟨u, e, rv⟩ := r.get q
      rw [q] at h
      cases q2 : reord vs js with
      | none => rw [q2] at h; cases h
      | some r2 =>
        rw [q2] at h
        cases h
        obtain ⟨us', e3, r3⟩ := reord_some r q2
        exact ⟨u :: us', by rw [e, e3], .cons rv r3⟩
/-- f(k = a, ..) -/
def PKs (G : Gx) (c : Cf) (kws : List Keyword) (f : M (List W)) : Prop := ∀ X, On G c X → ∀ Wx, Takes X Wx → PK X kws (rd G Wx (rA G) f)
theorem _root_.L2.PK.imp {X : Cx} {e : List Keyword} {t u : TA} (h : PK X e t) (k : ∀ σ H Q, u σ H Q → t σ H Q) : PK X e u := ⟨fun pos pins s σ H Q I q => h.run pos pins s σ H Q I (k σ H Q q)⟩
theorem rd_argsN {Wx : WX} {σ : L2.St} {H : Hp} {Q : List V → Hp → Prop} (h : rd G Wx (rA G) (args []) σ H Q) : tNil σ H Q := by
  obtain ⟨wd, s, sr, h⟩ := h
  exact Rs.ok_now h sr .nil
theorem pks_nil : PKs G c [] (args []) := fun X on Wx tk => pk_nil.imp fun σ H Q h => rd_argsN h
theorem pks_cons {nm : Option Str} {kpos : Pos} {kws : List Keyword} {f : M W} {gs : List (M W)} (h1 : ME G c e f) (h2 : PKs G c kws (args gs)) : PKs G c (⟨nm, e, kpos⟩ :: kws) (args (f :: gs)) := fun X on Wx tk =>
  (pk_cons (h1 X on Wx tk) (h2 X on Wx tk)).imp fun σ H Q h => rd_cons h
theorem Rs.callK {Wx : WX} {p : Nat} {σ : L2.St} {H : Hp} {js : List Nat} {wd : Wd} {s : Sx} {ws : List W} {vs : List V} {Q : VK} (hp : ∀ ws' g, F ws' g ≠ .stuck → ws'.length = p)
    (h : Rs G Wx (rW G) ((match reord ws js with
  | some us => bnd (toAs us) fun vs s => (match F vs s.g with | .ok w g => .ok w { s with g := g } | .exc x g => .exc x { s with g := g } | .stuck => .stuck)
  | none => fun _ => .stuck) s) wd σ H Q) (sr : SR G wd s σ H) (r : RWs G wd ws vs) :
    ∃ vs', reord vs js = some vs' ∧ spF G p F vs' H Q (fun cls d H' => Wx cls d σ H') := by
  cases q : reord ws js with
  | none => rw [q] at h; exact h.elim
  | some us =>
    rw [q] at h
    obtain ⟨vs', e2, r2⟩ := reord_rel r q
    exact ⟨vs', e2, Rs.call hp h sr r2⟩
theorem me_clK {kws : List Keyword} {ks : List Str} {js : List Nat} (D : Df G k n pr ps F) (hc : c.calm = true) (hk : k ≤ c.k) (hg : GlS c.sc x) (hm : G.mg x = some (.ref (G.cn n))) (ha : PKs G c kws fs)
    (hbind : ∀ (name qual : Str) (body : List Stmt) (scope : Scope) (kV doc pm cdv ct : Value) (an : Option Addr) (ws us : List Value), reord ws js = some us → bindArgs (PySem.W.fnOf name qual pr body scope .none kV doc pm an cdv ct) ⟨[], ks.zip ws⟩ = pure (ps.zip us))
    (hdb : (x == ("__debug__" : Str)) = false := by decide)
    (hall : ∀ env, (backToKw pos (keywordEach kws env)).all (·.1.isSome) = true := by intro _; rfl) (hks : ∀ env, (backToKw pos (keywordEach kws env)).filterMap (·.1) = ks := by intro _; rfl)
    (hpl : ∀ env, ((backTo pos (starEach [] env)).any (·.1) || (backToKw pos (keywordEach kws env)).any (·.1.isNone)) = false := by intro _; rfl) : ME G c (.Call (.Name x p) [] kws pos) (clK F js fs) := fun X on Wx tk => by
  obtain ⟨nm, ql, bd, scp, kV, doc, pm, cdv, ct, an, Fo, hkp, hb, hp⟩ := D.ex
  refine ⟨fun pins s σ H Q I h => ?_⟩
  refine wpAny_Call_Name_kw (ld_glob I (on.gl hg) (by rw [on.mg]; exact hm) ?_ hdb)
  obtain ⟨wd, s0, sr, h⟩ := h
  have h1 := Rs.bd (rel := rA G) h
  refine PySem.W.callWith_KW0 (h₀ := X.base) I.ok.mod.kin (by rw [on.K]; exact hkp) (hall _) (thn ((ha X on Wx tk).run pos pins s σ H _ I ⟨wd, s0, sr, h1⟩) fun us s1 ⟨vs, H1, I1, r, wd1, s2, ws, e1, st, sr1, rv, h2⟩ => ⟨I1.kIn, ?_⟩) (hpl _)
  obtain ⟨vs', e2, h3⟩ := Rs.callK hp h2 sr1 rv
  rw [hks]
  obtain ⟨us', e3, r3⟩ := reord_some r e2
  have hB : BindsTo s1 (PySem.W.fnOf nm ql pr bd scp .none kV doc pm an cdv ct) ⟨[] ++ [], ks.zip us⟩ (ps.zip us') := .of_eq (hbind nm ql bd scp kV doc pm cdv ct an us us' e3)
  refine wpAny_call (codeAny_mono (run_g Fo on hc hk tk I1 hB r3 h3) fun r s' hq => ?_)
  cases r with
  | error e => exact hq
  | ok fl => cases fl <;> exact hq
end
end Mn
set_option Elab.async false
set_option linter.all false
set_option maxRecDepth 100000
set_option maxHeartbeats 1000000
/-! M11: error classes of the text whose own making says super().__init__(x); self.f = x. -/
namespace Mn
open PySem PySem.Spec PyProof.Rows L2 PySem.W
/-- the making of the class at C -/
structure Mkr (K : PySem.W.Frag) (P : Program) (C fI : Addr) (fld : Str) : Prop where
  T : OexC K C
  init : PySem.W.findIn K (.ref C) "__init__" = some (some (.ref fI))
  fun_ : PySem.W.typeIn K (.ref fI) = some (.type "function")
  hno : PySem.W.findIn K (.ref C) fld = some none
  mro : PySem.W.mroIn K C (.ref C) = some true
  sup : ks_superIn K C C "__init__" = some (some (.builtin "ValueError.__init__"))
  sub : PySem.W.subIn K (.ref C) (.type "ValueError") = some true
  thp : nsIn K cStatics "thirdparty.any" = some none
  top : (P.main.scope.names.lookup ("super" : Str)).isSome = false
  fn : ∃ (qual : Str) (a1 a2 : Arg) (p0 p1 p2 p3 p4 q1 q2 q3 q4 : Pos) (scope : Scope) (dV kV doc pm ct oc ccl cl : Value) (an od cdd cld : Option Addr) (osl ccs csl : Array (Option Value)) (cc cda : Addr) (vs : Array Value) (file : Str) (tf : Tok),
    K.lookup fI = some ⟨oc, od, .func (ksFn "__init__" qual { posonlyargs := [], args := [a1, a2], vararg := none, kwonlyargs := [], kw_defaults := [], kwarg := none, defaults := [] }
      [.Expr (.Call (.Attribute (.Call (.Name "super" p0) [] [] p1) "__init__" p2) [.Name a2.arg p3] [] p4) p4, .Assign [.Attribute (.Name a1.arg q1) fld q2] (.Name a2.arg q3) q4] scope dV kV doc pm an (.ref cda) ct cc), osl⟩ ∧
    codeIn K (.ref cda) qual = true ∧ K.lookup cda = some ⟨ccl, cdd, .fields vs, ccs⟩ ∧ vs[2]? = some (.str file tf) ∧ ((P.main.file : Str) == file) = true ∧ K.lookup cc = some ⟨cl, cld, .cell (some (.ref C)), csl⟩ ∧
    scope.kind = .function ∧ scope.isCoroutine = false ∧ scope.isGenerator = false ∧ scope.names = [(a1.arg, .local), (a2.arg, .local), ("__class__", .free), ("super", .globalImplicit)] ∧ (a1.arg == a2.arg) = false ∧ (a1.arg == ("__debug__" : Str)) = false ∧ (a1.arg == ("__classdict__" : Str)) = false ∧ (a2.arg == ("__debug__" : Str)) = false ∧ (a2.arg == ("__classdict__" : Str)) = false ∧ (a2.arg == ("super" : Str)) = false ∧ (a1.arg == ("super" : Str)) = false ∧ (a2.arg == ("__class__" : Str)) = false ∧ (a1.arg == ("__class__" : Str)) = false ∧
    (∀ env, swapsWith (.Name a2.arg q3) (some (.Attribute (.Name a1.arg q1) fld q2)) q4.line env = pure false) ∧
    (∀ env : Env, eval (.Call (.Attribute (.Call (.Name "super" p0) [] [] p1) "__init__" p2) [.Name a2.arg p3] [] p4) env = (do
      let ov ← attributeBase (.Call (.Name "super" p0) [] [] p1) "__init__" env (eval (.Call (.Name "super" p0) [] [] p1) env)
      standAt p2.atName
      let (f, first) ← holding [ov] (getMethod ov "__init__" (plainOf (.Call (.Name "super" p0) [] [] p1) env))
      callWith p4 f first (backTo p4 (starEach [.Name a2.arg p3] env)) [])) ∧
    ∀ u1 u2 : Value, bindArgs (ksFn "__init__" qual { posonlyargs := [], args := [a1, a2], vararg := none, kwonlyargs := [], kw_defaults := [], kwarg := none, defaults := [] }
      [.Expr (.Call (.Attribute (.Call (.Name "super" p0) [] [] p1) "__init__" p2) [.Name a2.arg p3] [] p4) p4, .Assign [.Attribute (.Name a1.arg q1) fld q2] (.Name a2.arg q3) q4] scope dV kV doc pm an (.ref cda) ct cc) ⟨[u1, u2], []⟩ = pure [(a1.arg, u1), (a2.arg, u2)]
/-- what the making does with the new object -/
def spMk (C : Addr) (fld : Str) : Sp := fun vs H Q _ => ∃ (a : Addr) (x : V), vs = [.ref a, x] ∧ H a = some (exo a C none) ∧ ∀ dx, H dx = none → dx ≠ a → Q .non (upd (upd H dx (exd dx [(fld, x)])) a (exo a C (some dx)))
/-- the making's context -/
def mkCx (CX : CXT) (P : Program) (w : World) (K : PySem.W.Frag) (mg : Str → Option Value) (base : Heap) (N : List Str) (qual : Str) (scope : Scope) (f cc : Addr) (cd : Value) (A : Around) (outer : List Env) (s : Shared) (H : Hp) (E : XK) : Cx where
  prog := P
  w := w
  K := K
  mg := mg
  base := base
  A := A.deeper (ksEnv qual scope s.heap.objs.size f cd cc)
  N := N
  s_0 := s
  H_0 := H
  env := ksEnv qual scope s.heap.objs.size f cd cc
  outer := outer
  stack := ksEnv qual scope s.heap.objs.size f cd cc :: outer
  ex := []
  calm := true
  fn := fun _ => false
  pn := []
  xe := fun e s' => wpAny (model P w) (A.deeper (ksEnv qual scope s.heap.objs.size f cd cc)) (leaving (ksEnv qual scope s.heap.objs.size f cd cc) e) (fun _ s'' => CX outer H s E e s'') (fun e' s'' => CX outer H s E e' s'') s'
section
variable {CX : CXT} {P : Program} {w : World} {K : PySem.W.Frag} {mg : Str → Option Value} {base : Heap} {qual : Str} {scope : Scope} {f cc C : Addr} {cd : Value} {A : Around} {outer : List Env} {s : Shared} {H : Hp} {E : XK} {h₁ : Heap} {x1 x2 : Str}
theorem mk_start {us : List Value} {vs : List V} {tk : Nat} {cl : Value} {cld : Option Addr} {csl : Array (Option Value)} (hkind : scope.kind = .function) (hsn : scope.names = [(x1, .local), (x2, .local), ("__class__", .free), ("super", .globalImplicit)]) (hcell : K.lookup cc = some ⟨cl, cld, .cell (some (.ref C)), csl⟩)
    (h12 : (x1 == x2) = false) (hx1 : (x1 == ("__class__" : Str)) = false) (hx2 : (x2 == ("__class__" : Str)) = false)
    (hd : A.handled = none) (e0 : Env0 P w K mg base A outer s H) (hl : vs.length = 2) (r : Vals vs us) (hns : h₁.Ns s.heap.objs.size fun y => (([x1, x2].zip us).reverse.lookup y)) (kp : ∀ b o, s.heap.get? b = some o → h₁.get? b = some o) :
    Inv (mkCx CX P w K mg base [x1, x2] qual scope f cc cd A outer s H E) [] (vs.map some) H { s with heap := h₁, toks := tk } := by
  have KX : K.In s.heap := e0.mod.kin.keeps fun b o e => (e0.bs b o e).1
  have hc0 := e0.mod.kin _ _ hcell
  have noA : ∀ b : Addr, b ∉ (mkCx CX P w K mg base [x1, x2] qual scope f cc cd A outer s H E).ex := fun b z => absurd (show b ∈ ([] : List Addr) from z) (by simp)
  have one : ∀ {y c}, (mkCx CX P w K mg base [x1, x2] qual scope f cc cd A outer s H E).env.cells.lookup y = some c → y = ("__class__" : Str) ∧ c = cc := fun {y c} e => by
    have e : ([("__class__", cc)] : List (Str × Addr)).lookup y = some c := e
    simp only [List.lookup] at e
    split at e
    · rename_i q
      cases e
      exact ⟨beq_iff_eq.mp q, rfl⟩
    · cases e
  refine ⟨⟨e0.mod, hkind, rfl, rfl, Nat.le_refl _, fun y z c e1 e2 => ?_, fun y hy => ?_, fun y c z _ => ?_, fun _ => hd, Around.frames_deeper e0.frames, .inr ⟨rfl, rfl⟩, fun b z => absurd z (noA b), e0.bs, e0.bsz, fun b _ _ => noA b, fun b z => absurd z (noA b), e0.funs, e0.frf⟩,
    rfl, e0.bare, Un.kept kp, ⟨_, hns, fun i y v e1 e2 e3 => ?_⟩, fun y c e => ?_, e0.hok.fresh (Nat.le_refl _), fun y c e => ?_, fun q hq => absurd (show q ∈ ([] : List (Addr × Obj)) ++ [] from hq) (by simp), e0.hok.kept kp, ?_⟩
  · rw [(one e1).1, (one e2).1]
  · refine ⟨cc, ?_⟩
    have hy : scope.names.lookup y = some .cell ∨ scope.names.lookup y = some .free := hy
    have hyc : y = ("__class__" : Str) := by
      rcases hy with hy | hy
      · have := PySem.mem_of_lookup hy
        rw [hsn] at this
        simp at this
      · have := PySem.mem_of_lookup hy
        rw [hsn] at this
        simpa using this
    show ([("__class__", cc)] : List (Str × Addr)).lookup y = some cc
    rw [hyc]
    rfl
  · have z : false = true := z
    cases z
  · have hv : Vis scope y := e3
    obtain ⟨v1, v2, rfl⟩ : ∃ v1 v2, vs = [v1, v2] := by
      match vs, hl with
      | [v1, v2], _ => exact ⟨v1, v2, rfl⟩
    cases r with
    | @cons _ u1 _ ur r1 r2 =>
      cases r2 with
      | @cons _ u2 _ ur2 r2 r3 =>
        cases r3
        have n12 : x1 ≠ x2 := fun z => by simp [z] at h12
        match i, e1, e2 with
        | 0, e1, e2 =>
          have e1 : x1 = y := by simpa [mkCx] using e1
          simp at e2
          subst e1 e2
          refine ⟨u1, r1, .inl ⟨?_, ?_⟩⟩
          · show scope.names.lookup x1 = some .local
            rw [hsn]; simp [List.lookup]
          · simp only [List.zip_cons_cons, List.zip_nil_left, List.reverse_cons, List.reverse_nil, List.nil_append, List.cons_append, List.lookup]
            rw [h12]; simp
        | 1, e1, e2 =>
          have e1 : x2 = y := by simpa [mkCx] using e1
          simp at e2
          subst e1 e2
          refine ⟨u2, r2, .inl ⟨?_, ?_⟩⟩
          · show scope.names.lookup x2 = some .local
            rw [hsn]
            have : (x2 == x1) = false := by simpa using fun z => n12 z.symm
            simp [List.lookup, this]
          · simp [List.lookup]
        | i + 2, e1, e2 => simp at e2
  · obtain ⟨_, rfl⟩ := one e
    exact ⟨_, _, kp _ _ (KX _ _ hcell), rfl⟩
  · obtain ⟨_, rfl⟩ := one e
    exact (e0.bs _ _ hc0).2
  · show (vs.map some).length = 2
    simpa using hl
end
end Mn
set_option Elab.async false
set_option linter.all false
set_option maxRecDepth 100000
set_option maxHeartbeats 1000000
/-! M12: error classes, their making; raise. -/
namespace Mn
open PySem PySem.Spec PyProof.Rows L2 PySem.W
section
variable {CX : CXT} {P : Program} {w : World} {K : PySem.W.Frag} {mg : Str → Option Value} {base : Heap} {fI C : Addr} {fld : Str} {k : Nat}
theorem mk_ok (M : Mkr K P C fI fld) (hsup : mg "super" = none) : ∃ fd ps, FnOk P w K mg base CX (k + 1) fI fd ps (spMk C fld) ∧ Binds K fd ps [] := by
  obtain ⟨qual, a1, a2, p0, p1, p2, p3, p4, q1, q2, q3, q4, scope, dV, kV, doc, pm, ct, oc, ccl, cl, an, od, cdd, cld, osl, ccs, csl, cc, cda, vs, file, tf, lk, hcd, hcode, hvs, hfile, hcell, hkind, hco, hgen, hsn, h12, d1, d2, d3, d4, d5, d6, d7, d8, hsw, heq, hbA⟩ := M.fn
  have hB : Binds K _ [a1.arg, a2.arg] [] := Binds.all fun us hl => match us, hl with | [u1, u2], _ => hbA u1 u2
  refine ⟨_, [a1.arg, a2.arg], ⟨fun vs H Q E h => ?_, fun A outer s H args us vs Q E hr e0 hb r hsp => ?_⟩, hB⟩
  · obtain ⟨a, x, rfl, _⟩ := h
    rfl
  · have KX : K.In s.heap := e0.mod.kin.keeps fun b o e => (e0.bs b o e).1
    have lim : s.heap.NoLimit := e0.mod.nolimit.keeps fun b o e => (e0.bs b o e).1
    obtain ⟨a, x, rfl, ha, hQ⟩ := hsp
    cases r with
    | @cons _ ua _ ur ra rr =>
      cases rr with
      | @cons _ ux _ ur2 rx rn =>
        cases rn
        obtain rfl : ua = Value.ref a := ra
        have n12 : a1.arg ≠ a2.arg := fun z => by simp [z] at h12
        have n21 : (a2.arg == a1.arg) = false := by simpa using fun z => n12 z.symm
        refine ks_codeAny_call_defAt (fd := ksFn "__init__" qual _ _ scope dV kV doc pm an (.ref cda) ct cc) (body := _) (binds := [a1.arg, a2.arg].zip [.ref a, ux]) hr.depth (KX _ _ lk) rfl lim (codeRec_of KX hcd) rfl hb ?_ ?_ (fun h₁ hns kp => ?_) hco hgen hkind
        · show ∀ x ∈ scope.names, x.2 ≠ .cell
          rw [hsn]; simp
        · show ∀ x ∈ [a1.arg, a2.arg].zip [Value.ref a, ux], scope.names.lookup x.1 = some .local
          rw [hsn]
          intro y hy
          rcases List.mem_cons.mp hy with e | hy
          · subst e; simp [List.lookup]
          · rcases List.mem_cons.mp hy with e | hy
            · subst e; simp [List.lookup, n21]
            · cases hy
        · have I := mk_start (CX := CX) (w := w) (qual := qual) (f := fI) (cd := .ref cda) (E := E) (tk := s.toks + ([a1.arg, a2.arg].zip [Value.ref a, ux]).length) (us := [.ref a, ux]) (vs := [.ref a, x]) hkind hsn hcell h12 d8 d7 hr.hd e0 rfl (.cons rfl (.cons rx .nil)) hns kp
          refine ks_wpAt_execs_cons ?_
          refine ks_wpAt_Expr_any ?_ (hi := ?_)
          rotate_left
          · show (scope.kind == .module && _) = false
            rw [hkind]; rfl
          refine ks_wpAt_MethodCall ?_ (heq _)
          have K1 : K.In h₁ := fun b o e => kp _ _ (KX b o e)
          refine ks_wpAt_super_base (env := ksEnv qual scope s.heap.objs.size fI (.ref cda) cc) (f := fI) (cc := cda) ?_ ?_ (by decide) rfl (K1 _ _ lk) rfl rfl rfl (K1 _ _ hcode) rfl hvs hfile M.top ?_
          · show scope.names.lookup ("super" : Str) = some .globalImplicit
            rw [hsn]
            have e1 : (("super" : Str) == a1.arg) = false := by rw [BEq.comm]; exact d6
            have e2 : (("super" : Str) == a2.arg) = false := by rw [BEq.comm]; exact d5
            simp only [List.lookup, e1, e2]
            rfl
          · show scope.names.lookup ("__class__" : Str) = some .free
            rw [hsn]
            have e1 : (("__class__" : Str) == a1.arg) = false := by rw [BEq.comm]; exact d8
            have e2 : (("__class__" : Str) == a2.arg) = false := by rw [BEq.comm]; exact d7
            simp only [List.lookup, e1, e2]
            rfl
          · obtain ⟨mb, hb1, hb2⟩ := e0.mod.blt
            have kB : ∀ b o, base.get? b = some o → h₁.get? b = some o := fun b o e => kp _ _ (e0.bs b o e).1
            have hks : scope.names.lookup ("super" : Str) = some .globalImplicit := by
              rw [hsn]
              have e1 : (("super" : Str) == a1.arg) = false := by rw [BEq.comm]; exact d6
              have e2 : (("super" : Str) == a2.arg) = false := by rw [BEq.comm]; exact d5
              simp only [List.lookup, e1, e2]
              rfl
            have hkc : scope.names.lookup ("__class__" : Str) = some .free := by
              rw [hsn]
              have e1 : (("__class__" : Str) == a1.arg) = false := by rw [BEq.comm]; exact d8
              have e2 : (("__class__" : Str) == a2.arg) = false := by rw [BEq.comm]; exact d7
              simp only [List.lookup, e1, e2]
              rfl
            have hka : scope.names.lookup a1.arg = some .local := by rw [hsn]; simp [List.lookup]
            obtain ⟨nm, q, N, bs, bm, sn, sub, ab, col, dd, k0, k1, k2, k3, k5, hC, hbm⟩ := M.T.cls
            have hC1 := K1 _ _ hC
            have hcl : clsIn K C = some { name := nm, bases := bs, mro := .ref C :: bm, ns := N, qualname := q, hasDict := true, slotNames := sn, subclasses := sub, abstract := ab, collection := col, hasDel := false } := by unfold clsIn; rw [hC] <;> rfl
            obtain ⟨t1, ho⟩ := exo_at I.hok ha
            refine ks_loadName_global (env := ksEnv qual scope s.heap.objs.size fI (.ref cda) cc) hkind hks (Calls.loadGlobal_builtin (env := ksEnv qual scope s.heap.objs.size fI (.ref cda) cc) (mg := mg) (e0.mod.glob.keeps kB) hsup (hb1.keeps kB) ((hb2 _ (by decide +kernel)).trans (show bootBuiltins "super" = some (.type "super") by kernel_rfl)) ⟨rfl, ?_⟩)
            refine wpAny_loadName_free hkind hkc rfl ⟨_, K1 _ _ hcell, rfl⟩ ?_
            refine wpAny_loadName_local hkind hka hns (v := .ref a) (by simp only [List.zip_cons_cons, List.zip_nil_left, List.reverse_cons, List.reverse_nil, List.nil_append, List.cons_append, List.lookup]; rw [h12]; simp) ?_
            refine ks_wpAny_isType_cls hC1 rfl ⟨rfl, ?_⟩
            refine ks_wpAny_call_super hC1 rfl ho rfl (fun c e => by cases e) (looks_mroIn K1 M.mro) (fun h2 e2 k2 => ?_)
            have K2 : K.In h2 := fun b o e => k2 _ _ (K1 b o e)
            have ho2 := k2 _ _ ho
            have haC : a ≠ C := fun z => by
              rw [z, hC1] at ho
              cases ho
            have hI : W.Looks (model P w) h2 (isInstance (.ref a) (.type "ValueError")) true :=
              (show W.Looks (model P w) h2 (typeOf (.ref a)) (.ref C) from fun A Q E s k q => wpAny_typeOf_ref (k _ _ ho2) q).andThen (looks_subIn K2 M.sub)
            have hal := M.sup
            unfold ks_superIn at hal
            rw [hcl, Option.bind_some] at hal
            refine kxs_getMethod kxs_ValueError e2 (looks_opaque K2 M.thp) (l₀ := .ref C :: bm) (fun A Q E s k q => wpAny_bind ((looks_clsIn K2 hcl) A _ E s k (wpAny_pure q))) rfl K2 hal hI haC (by decide) ?_
            have g3 : (h2.push (kxs_mw "ValueError.__init__" a)).get? h2.objs.size = some (kxs_mw "ValueError.__init__" a) := Heap.get?_push_at rfl rfl
            have k3 : ∀ b o, h2.get? b = some o → (h2.push (kxs_mw "ValueError.__init__" a)).get? b = some o := fun b o e => Heap.get?_push_of_some _ e
            have I3 := I.kept (h' := h2.push (kxs_mw "ValueError.__init__" a)) (t' := s.toks + ([a1.arg, a2.arg].zip [Value.ref a, ux]).length + 1) (fun b o e => k3 _ _ (k2 _ _ e))
            have sz2 : h₁.objs.size < h2.objs.size := Heap.lt_size e2
            have szL : s.heap.objs.size < h₁.objs.size := by
              obtain ⟨oL, _, _, hoL, _⟩ := hns
              exact Heap.lt_size hoL
            have I3p := I3.pins_of (pins' := [(h2.objs.size, kxs_mw "ValueError.__init__" a)]) (fun p hp => by
              obtain rfl : p = (h2.objs.size, kxs_mw "ValueError.__init__" a) := by simpa using hp
              refine ⟨g3, e0.hok.fresh (by omega), fun z => ?_, fun z => ?_, fun v z => by cases z⟩
              · have z : h2.objs.size = s.heap.objs.size := z
                omega
              · obtain ⟨_, o', e', _⟩ := e0.funs.mem z
                have q1 : h2.objs.size < s.heap.objs.size := Heap.lt_size e'
                omega)
            refine kxs_callWith (i := "ValueError.__init__") (x := a) (by rfl) (Calls.evalArgs_plain (x := eval (.Name a2.arg p3) _) (rest := []) (Calls.spliced_cons ?_))
            have hN2 : (mkCx CX P w K mg base [a1.arg, a2.arg] qual scope fI cc (.ref cda) A outer s H E).N[1]? = some a2.arg := rfl
            have hV2 : Vis scope a2.arg := .inl (by rw [hsn]; simp [List.lookup, n21])
            have hV1 : Vis scope a1.arg := .inl hka
            refine wpAny_mono ((pe_var (pos := p3) hN2 hV2 d3 d4).run _ _ _ H (fun v H1 => v = x ∧ H1 = H) I3p ⟨x, rfl, rfl, rfl⟩) (fun u s4 hs4 => ?_) (fun _ _ z => z)
            obtain ⟨v4, H4, I4, r4, ev, eH⟩ := hs4
            subst ev eH
            refine Calls.spliced_nil ?_
            have hu4 := (I4.pin (h2.objs.size, kxs_mw "ValueError.__init__" a) (by simp [mkCx])).1
            refine ⟨hu4, ?_⟩
            obtain ⟨t4, he4⟩ := exo_at I4.hok ha
            have K4 : K.In s4.heap := I4.kIn
            obtain ⟨h4, g4, dr4, tk4, os4⟩ := s4
            refine wpAny_call (codeAny_of_tree ?_)
            show wpAny _ (Around.in1 _) (callAny (.ref h2.objs.size) ⟨[u], []⟩) _ _ _
            simp only [callAny]
            refine wpAny_bind (wpAny_load hu4 ?_)
            simp only [kxs_mw, show (Value.type "method-wrapper" == Value.type "method" || Value.type "method-wrapper" == Value.type "builtin_function_or_method" || Value.type "method-wrapper" == Value.type "method-wrapper") = true by decide, if_true]
            refine KFB.if_so (by decide) ?_
            refine wpAny_bind (check_bound_init F.excBase_ValueError.toExcCallFacts (K4 _ _ hC) he4 rfl ?_)
            refine wpAny_bind (wpAny_pure (wpAny_pure ?_))
            refine ⟨plainId_quiet F.excBase_ValueError.init.plain _, codeAny_builtin F.excBase_ValueError.initEntry ?_⟩
            refine exc_init_tree (cls := .ref C) (t0 := t4) (dv := none) (c2 := .none) (c3 := .none) (b4 := .bool false) he4 (by rw [sizeLine_eq]; simp) (fun h' k' e' t' => ?_)
            have J := I4.write (h' := h') (t' := tk4) (x := a) (e := a) (o := exo a C none) (by rw [ha]; exact True.intro) (.inl rfl) k' ⟨_, e'⟩ (exo_ok e')
            have eu : upd H4 a (exo a C none) = H4 := by
              funext b
              by_cases hb : b = a
              · rw [hb, upd_same, ha]
              · rw [upd_ne hb]
            rw [eu] at J
            refine wpAt_of_wpAny ?_
            have hS := pss_one (ps_ost (X := mkCx CX P w K mg base [a1.arg, a2.arg] qual scope fI cc (.ref cda) A outer s H4 E) (f := fld) (p' := q2) (pos := q4) (pe_var (i := 0) (pos := q1) rfl hV1 d1 d2) (pe_var (i := 1) (pos := q3) hN2 hV2 d3 d4) (hsw _))
            refine wpAny_mono (hS.run _ _ _ H4 { nx := fun _ H' => Q .non H', rt := fun _ _ => False } J ?_) (fun fl s6 hs6 => ?_) (fun e s6 z => z)
            · refine ⟨v4, rfl, .ref a, rfl, a, C, rfl, M.T, M.hno, .inl ⟨ha, fun dx n1 n2 => hQ dx n1 n2⟩⟩
            · cases fl with
              | next =>
                obtain ⟨σ6, H6, J6, q6⟩ := hs6
                exact ⟨.non, H6, J6.os, J6.bare, J6.base, J6.hok, rfl, q6⟩
              | ret u =>
                obtain ⟨_, _, _, _, _, z⟩ := hs6
                exact z.elim
              | brk => obtain ⟨_, _, _, z⟩ := hs6; exact z.elim
              | cont => obtain ⟨_, _, _, z⟩ := hs6; exact z.elim
end
end Mn
set_option Elab.async false
set_option linter.all false
set_option maxRecDepth 100000
set_option maxHeartbeats 1000000
/-! M13: raise. -/
namespace Mn
open PySem PySem.Spec PyProof.Rows L2
/-- raise C(a) -/
def rais (n : Nat) (a : M (List W)) : St := bnd a fun ws => bnd (toDs ws) fun ds s => if ds.length = 1 then .exc ⟨n, ds⟩ s else .stuck
section
variable {G : Gx} {c : Cf} {e : Expr} {fs : M (List W)} {x : Str} {p pos pos' : Pos} {fI : Addr} {fld : Str} {n : Nat}
theorem del_back {H1 : Hp} {a dx : Addr} {o1 o2 o3 o4 : HO} (h : H1 a = none) (ne : dx ≠ a) : upd (del (upd (upd (upd H1 a o1) dx o2) a o3) a) dx o4 = upd H1 dx o4 := by
  funext b
  by_cases hd : b = dx
  · rw [hd, upd_same, upd_same]
  · rw [upd_ne hd, upd_ne hd]
    by_cases ha : b = a
    · rw [ha, del_same, h]
    · rw [del_ne ha, upd_ne ha, upd_ne hd, upd_ne ha]
theorem toDs_ok {wd : Wd} {s : Sx} {σ : L2.St} {H : Hp} {ws : List W} {vs : List V} (sr : SR G wd s σ H) (r : RWs G wd ws vs) (hn : toDs ws s ≠ .stuck) :
    ∃ (F' : Hp) (s1 : Sx) (xs : List D), toDs ws s = .ok xs s1 ∧ SR G { wd with F := F' } s1 σ H ∧ Le wd.F F' ∧ (∀ b, b ∉ wd.al → F' b = wd.F b) ∧ RDs G F' xs vs := by
  have h : Rs G (fun _ _ _ _ => True) (rZ (α := List D)) (bnd (toDs ws) pur s) wd σ H (fun _ _ => True) := by
    rw [bnd_ret]
    cases q : toDs ws s with
    | ok a b => exact fun _ _ _ _ _ z => z.elim
    | exc a b => exact fun _ _ _ _ _ _ _ => True.intro
    | stuck => exact absurd q hn
  obtain ⟨F', s2, y, e2, sr1, l1, n1, rx, _⟩ := Rs.tds h sr r
  exact ⟨F', s2, y, e2, sr1, l1, n1, rx⟩
theorem Flds.one {fld : Str} {v : V} : Flds [fld] [v] [(fld, v)] := ⟨rfl, by simp, fun f => rfl⟩
theorem ms_raise (M : Mkr G.K G.P (G.cn n) fI fld) (hfl : G.fl n = [fld]) (hsup : G.mg "super" = none) (hc : c.calm = true) (hg : GlS c.sc x) (hm : G.mg x = some (.ref (G.cn n))) (hk : 2 ≤ c.k) (ha : MA G c [e] fs) (hdb : (x == ("__debug__" : Str)) = false := by decide)
    (he : ∀ env, starEach [e] env = (false, eval e env) :: starEach [] env := by intro _; rfl) : MS G c (.Raise (some (.Call (.Name x p) [e] [] pos)) none pos') (rais n fs) := fun X on Wx tk => by
  obtain ⟨fd, ps, Fo, hb⟩ := mk_ok (CX := fun _ _ _ _ _ _ => False) (P := X.prog) (w := X.w) (K := X.K) (mg := X.mg) (base := X.base) (k := 0) (C := G.cn n) (fI := fI) (fld := fld) (by rw [on.K, on.p]; exact M) (by rw [on.mg]; exact hsup)
  have T : OexC X.K (G.cn n) := by rw [on.K]; exact M.T
  have hmk := pmk_oex (pos := pos) (p := p) (e := e) (es := []) T (by rw [on.K]; exact M.init) (by rw [on.K]; exact M.fun_) Fo ((on.room hc).mono (by omega)) hb .nil (fun _ _ _ _ _ _ _ z => z.elim) (on.gl hg) (by rw [on.mg]; exact hm) (ha X on Wx tk) hdb (he _) (by rfl)
  refine (ps_raise (on.cm hc) tk hmk).imp fun D σ H h => ?_
  obtain ⟨wd, s, sr, h⟩ := h
  refine ⟨wd, s, sr, (RsS.bd (rel := rA G) h).imp fun vs H1 ⟨wd1, s1, ws, _, _, sr1, r1, h1⟩ => ?_⟩
  have hn : toDs ws s1 ≠ .stuck := fun z => by
    unfold bnd at h1
    rw [z] at h1
    exact h1
  obtain ⟨F', s2, xs, e2, sr2, l2, n2, rx⟩ := toDs_ok sr1 r1 hn
  have h2 : RsS G Wx ((fun ds s => if ds.length = 1 then Out.exc ⟨n, ds⟩ s else .stuck) xs s2) wd1 H1 D := by
    unfold bnd at h1
    rw [e2] at h1
    exact h1
  by_cases hl : xs.length = 1
  · simp only [hl, if_true] at h2
    obtain ⟨y, rfl⟩ : ∃ y, xs = [y] := by
      match xs, hl with
      | [y], _ => exact ⟨y, rfl⟩
    simp only [RDs] at rx
    obtain ⟨v, r, ev, rv, er⟩ := rx
    subst er ev
    refine ⟨by simp, fun a na => ⟨a, v, rfl, upd_same, fun dx n1 n2' => ⟨rfl, dx, [(fld, v)], ?_, ?_, ?_, ?_⟩⟩⟩
    · rw [upd_same]
    · rw [upd_ne n2', upd_same]
    · have : (upd H1 a (exo a (G.cn n) none)) dx = none := n1
      rwa [upd_ne n2'] at this
    · have n1' : H1 dx = none := by
        have : (upd H1 a (exo a (G.cn n) none)) dx = none := n1
        rwa [upd_ne n2'] at this
      rw [del_back na n2']
      have N := New.one (o := .xd [(fld, v)]) sr2.le n1'
      refine h2 _ _ σ _ _ ((Stp.F l2 n2).trans N.stp) (sr2.new N) ⟨rfl, dx, [(fld, v)], [v], rfl, upd_same, ?_, ?_⟩
      · rw [hfl]; exact Flds.one
      · simp only [RDs]
        exact ⟨v, [], rfl, RD.mono (Le.new (sr2.le.no n1')) _ _ rv, rfl⟩
  · simp only [hl, if_false] at h2
    exact h2.elim
end
end Mn
set_option Elab.async false
set_option linter.all false
set_option maxRecDepth 100000
set_option maxHeartbeats 1000000
/-! M14: try with several clauses, named or not. -/
namespace Mn
open PySem PySem.Spec PyProof.Rows L2
abbrev Cl : Type := Value × Option Nat × (Addr → Value → Option Addr → TS)
/-- what stands behind a clause's suite: its name is gone -/
def goneN (nm : Option Nat) (D : Ends) : Ends := match nm with
  | none => D
  | some i => { nx := fun σ H => D.nx (σ.set i none) H, rt := D.rt, bk := fun σ H => D.bk (σ.set i none) H, ct := fun σ H => D.ct (σ.set i none) H }
def putN (nm : Option Nat) (a : Addr) (σ : L2.St) : L2.St := match nm with
  | none => σ
  | some i => σ.set i (some (.ref a))
def wish (K : PySem.W.Frag) (Wo : WX) (D : Ends) : List Cl → WX
  | [] => Wo
  | (c, nm, ts) :: r => fun cls d σ H => ∃ b, PySem.W.exmOne K cls c = some b ∧ (b = true → ∀ a, H a = none → ts a cls d (goneN nm D) (putN nm a σ) H) ∧ (b = false → wish K Wo D r cls d σ H)
inductive Cls (X : Cx) : List ExceptHandler → List Cl → Prop
  | nil : Cls X [] []
  | plain {x : Str} {c : Value} {ts : Addr → Value → Option Addr → TS} {b₀ : Stmt} {su : List Stmt} {np hp : Pos} {hds : List ExceptHandler} {l : List Cl} (hc : Names X x c)
      (hs : ∀ (a : Addr) (oe : Obj) (cls : Value) (d : Option Addr) (pn : List (Addr × Obj)), Zc cls d oe → (∃ vs, oe.data = .fields vs) → PSs (X.suite a ((a, oe) :: pn)) (b₀ :: su) (ts a cls d)) (r : Cls X hds l) :
      Cls X (.ExceptHandler (some (.Name x np)) none (b₀ :: su) hp :: hds) ((c, none, ts) :: l)
  | named {x n : Str} {i : Nat} {c : Value} {ts : Addr → Value → Option Addr → TS} {b₀ : Stmt} {su : List Stmt} {np hp : Pos} {hds : List ExceptHandler} {l : List Cl} (hc : Names X x c) (hi : X.N[i]? = some n) (hln : X.env.kindOf n = some .local)
      (hs : ∀ (a : Addr) (oe : Obj) (cls : Value) (d : Option Addr) (pn : List (Addr × Obj)), Zc cls d oe → (∃ vs, oe.data = .fields vs) → PSs (X.suite a ((a, oe) :: pn)) (b₀ :: su) (ts a cls d)) (r : Cls X hds l) :
      Cls X (.ExceptHandler (some (.Name x np)) (some n) (b₀ :: su) hp :: hds) ((c, some i, ts) :: l)
section
variable {X : Cx} {Wo : WX} {D : Ends} {pins : List (Addr × Obj)} {a : Addr} {B : Heap} {sI s' : Shared} {σ' : L2.St} {H' : Hp} {cls : Value} {d : Option Addr} {h3 : Heap}
/-- an error that lies on the ground is asked clause by clause -/
theorem ask (hs : X.stack = X.env :: X.outer) (hf : X.env.frame = some X.env.locals) (hN : X.N.Nodup) (ok : X.Ok) (tk : Takes X Wo) (J : Inv X pins σ' H' sI) (nb : ∀ b o, sI.heap.get? b = some o → b ∉ frs X.stack → B.get? b = some o)
    (up3 : sI.heap.UpToSlots h3) (os : s'.os = sI.os) (ag : AllBare s'.gens) (na : H' a = none) (fl3 : HandSPX.FlyingZ B (X.env :: X.outer) a (Zc cls d) h3) :
    ∀ {hds : List ExceptHandler} {l : List Cl}, Cls X hds l → wish X.K Wo D l cls d σ' H' → wpAny (model X.prog X.w) X.A (handleBy (.ref a) X.env hds) (SP X pins D) X.xe { s' with heap := h3 } := by
  have land : ∀ {h : Heap}, HandSPX.FlyingZ B (X.env :: X.outer) a (Zc cls d) h → sI.heap.UpToSlots h → Inv X pins σ' H' { s' with heap := h } := fun f u => J.landed nb f.1 u os ag
  have J3 := land fl3 up3
  obtain ⟨oe3, vs3, he3, hz3, hd3⟩ := fl3.there
  have nfr : a ∉ frs (X.env :: X.outer) := fun hm => by
    obtain ⟨_, o', e', hnf⟩ := fl3.2.2.1.mem hm
    rw [he3] at e'; cases e'
    exact hnf _ hd3
  have nL : a ≠ X.env.locals := fun z => nfr (List.mem_filterMap.mpr ⟨X.env, List.mem_cons_self, by rw [hf, z]⟩)
  have nF : a ∉ X.fs := fun hm => by
    obtain ⟨e, he, q⟩ := List.mem_filterMap.mp hm
    exact nfr (List.mem_filterMap.mpr ⟨e, List.mem_cons_of_mem _ he, q⟩)
  have S3 := J3.suite he3 hd3 na nL nF
  have LT : PySem.W.Looks (model X.prog X.w) h3 (typeOf (.ref a)) cls := fun A Q E s k q => wpAny_typeOf_ref (k _ _ he3) (by rw [hz3.1]; exact q)
  have test : ∀ {x : Str} {c : Value} {np : Pos} {Q : Value → Shared → Prop} {E : Value → Shared → Prop}, Names X x c → Q c { s' with heap := h3 } → wpAny (model X.prog X.w) (X.A.mark (some (.ref a))) (eval (.Name x np) X.env) Q E { s' with heap := h3 } := fun {x c np Q E} hc q => by
    obtain ⟨hg, hdbg, hm | ⟨hm, hv, hnn⟩⟩ := hc
    · exact ld_glob (X := X.suite a ((a, oe3) :: (X.pn ++ pins))) S3 hg hm q hdbg
    · exact ld_blt (X := X.suite a ((a, oe3) :: (X.pn ++ pins))) S3 hg hm hv q hnn hdbg
  intro hds l hk
  induction hk with
  | nil =>
    intro w
    refine wpAny_handleBy_nil ?_
    obtain ⟨k1, k2, k3, oe, vs, T, oT, ts', he, hz, hd, h1, hr⟩ := id fl3
    unfold PySem.passOn
    refine wpAny_bind (wpAny_field he hd h1 ?_)
    rw [if_neg (show ¬ ((Value.ref T == Value.none) = true) from by simp)]
    have fin : wpAny (model X.prog X.w) X.A (setFlight (.ref a) X.env.frame) (fun _ s4 => wpAny (model X.prog X.w) X.A (throw (.ref a) : Sem Flow) (SP X pins D) X.xe s4) X.xe { s' with heap := h3 } := by
      rw [hf]
      exact HandSPX.setFlight_upZ fl3 fun h4 hh4 up4 => wpAny_throw (tk _ _ ⟨a, B, sI, pins, σ', H', cls, d, rfl, J, nb, up3.trans up4, .inr (.inr (by rw [hs]; exact hh4)), na, os, ag, w⟩)
    first
      | exact wpAny_bind (wpAny_pure (wpAny_bind fin))
      | exact wpAny_bind fin
  | @plain x c ts b₀ su np hp hds2 l2 hc hsu r ih =>
    intro w
    obtain ⟨b, hb1, hyes, hno⟩ := w
    refine wpAny_handleBy_cons (codeAny_handlers_test ?_) (by intro q; cases q)
    refine test hc ((PySem.W.exm_one (M := model X.prog X.w) J3.kIn LT hb1).here ?_)
    cases b with
    | false => exact (ih (hno rfl) : wpAny _ X.A (handleBy (.ref a) X.env hds2) _ _ _)
    | true =>
      refine codeAny_handlers_suite (HandSPX.lands_againZ fl3 fun h4 fl4 up4 => ?_)
      have J4 := land fl4 (up3.trans up4)
      obtain ⟨oe4, vs4, he4, hz4, hd4⟩ := fl4.there
      refine wpAny_mono ((hsu a oe4 cls d (X.pn ++ pins) hz4 ⟨_, hd4⟩).run [] _ _ H' _ (J4.suite he4 hd4 na nL nF) (hyes rfl a na)) (fun f s6 hsp => ?_) (fun _ _ z => False.elim z)
      cases f with
      | ret u => obtain ⟨v6, σ6, H6, S6, r6, q6⟩ := hsp; exact ⟨_, _, _, S6.unsuite ok, r6, q6⟩
      | next => obtain ⟨σ6, H6, S6, q6⟩ := hsp; exact ⟨_, _, S6.unsuite ok, q6⟩
      | brk => obtain ⟨σ6, H6, S6, q6⟩ := hsp; exact ⟨_, _, S6.unsuite ok, q6⟩
      | cont => obtain ⟨σ6, H6, S6, q6⟩ := hsp; exact ⟨_, _, S6.unsuite ok, q6⟩
  | @named x n i c ts b₀ su np hp hds2 l2 hc hi hln hsu r ih =>
    intro w
    obtain ⟨b, hb1, hyes, hno⟩ := w
    refine wpAny_handleBy_cons (codeAny_handlers_test ?_) (by intro q; cases q)
    refine test hc ((PySem.W.exm_one (M := model X.prog X.w) J3.kIn LT hb1).here ?_)
    cases b with
    | false => exact (ih (hno rfl) : wpAny _ X.A (handleBy (.ref a) X.env hds2) _ _ _)
    | true =>
      refine codeAny_handlers_suite_as (HandSPX.lands_againZ fl3 fun h4 fl4 up4 => ?_)
      have J4 := land fl4 (up3.trans up4)
      obtain ⟨oe4, vs4, he4, hz4, hd4⟩ := fl4.there
      refine store_ok (X := X.suite a ((a, oe4) :: (X.pn ++ pins))) (v := .ref a) (J4.suite he4 hd4 na nL nF) hN hi (.inl hln) rfl (fun s5 S5 => ?_) (.inr hln)
      refine wpAny_mono ((hsu a oe4 cls d (X.pn ++ pins) hz4 ⟨_, hd4⟩).run [] s5 _ H' _ S5 (hyes rfl a na)) (fun f s6 hsp => ?_) (fun _ _ z => False.elim z)
      have gone : ∀ {σ6 : L2.St} {H6 : Hp} {Q : Shared → Prop}, Inv (X.suite a ((a, oe4) :: (X.pn ++ pins))) [] σ6 H6 s6 → (∀ s7, Inv X pins (σ6.set i none) H6 s7 → Q s7) →
          wpAny (model X.prog X.w) X.A (do bindName X.env n .none; unbindBehindTheSuite X.env n hp) (fun _ s7 => Q s7) X.xe s6 := fun S6 hq => gone_ok (S6.unsuite ok) hN hi hln hq
      cases f with
      | ret u => obtain ⟨v6, σ6, H6, S6, r6, q6⟩ := hsp; exact gone S6 fun s7 J7 => ⟨_, _, _, J7, r6, q6⟩
      | next => obtain ⟨σ6, H6, S6, q6⟩ := hsp; exact gone S6 fun s7 J7 => ⟨_, _, J7, q6⟩
      | brk => obtain ⟨σ6, H6, S6, q6⟩ := hsp; exact gone S6 fun s7 J7 => ⟨_, _, J7, q6⟩
      | cont => obtain ⟨σ6, H6, S6, q6⟩ := hsp; exact gone S6 fun s7 J7 => ⟨_, _, J7, q6⟩
end
section
variable {X : Cx} {body : List Stmt} {h₀ : ExceptHandler} {hds : List ExceptHandler} {l : List Cl} {pos : Pos} {tb : WX → TS} {Wo : WX}
theorem ps_try_any (hs : X.stack = X.env :: X.outer) (hf : X.env.frame = some X.env.locals) (hN : X.N.Nodup) (tk : Takes X Wo)
    (hb : ∀ (W : WX) (pn : List (Addr × Obj)) (xe : Value → Shared → Prop), Takes (X.tr pn xe) W → PassesOwn (model X.prog X.w) X.A X.env xe → PSs (X.tr pn xe) body (tb W))
    (hh : Cls X (h₀ :: hds) l) : PS X (.Try body (h₀ :: hds) [] [] pos) (fun D σ H => tb (wish X.K Wo D l) D σ H) := by
  refine ⟨fun pins s σ H D I h => ?_⟩
  have ok := I.ok
  have hfr : X.A.frames = some (X.env :: X.outer) := by rw [ok.frames, hs]
  refine wpAny_Try_except ?_
  refine wpAny_mono ((hb (wish X.K Wo D l) (X.pn ++ pins) (fun e s₁ => wpAny (model X.prog X.w) X.A (noteFrame e X.env) (fun _ s₂ => wpAny (model X.prog X.w) X.A (setFlight e none) (fun _ s₃ =>
    wpAny (model X.prog X.w) X.A (handleBy e X.env (h₀ :: hds)) (SP X pins D) X.xe s₃) X.xe s₂) X.xe s₁) (fun u s' xx => ?_) PassesOwn.looking).run [] s σ H D (I.toTry _) h) (fun f s1 hsp => ?_) (fun e s1 he => he)
  · obtain ⟨a, B, sI, pins', σ', H', cls, d, rfl, J', nb, up, sky, na, os, ag, w⟩ := xx
    have sky' : Sky B (X.env :: X.outer) a (Zc cls d) X.env.locals s'.heap := by rw [← hs]; exact sky
    show wpAny (model X.prog X.w) X.A (noteFrame (.ref a) X.env) _ _ _
    exact Sky.land Zc.steady hfr hf sky' fun h3 fl3 up3 => ask hs hf hN ok tk (J'.ofTry ok) nb (up.trans up3) os ag na fl3 hh w
  · cases f with
    | next => obtain ⟨σ', H', J', q⟩ := hsp; exact wpAny_execs_nil ⟨σ', H', J'.ofTry ok, q⟩
    | brk => obtain ⟨σ', H', J', q⟩ := hsp; exact ⟨σ', H', J'.ofTry ok, q⟩
    | cont => obtain ⟨σ', H', J', q⟩ := hsp; exact ⟨σ', H', J'.ofTry ok, q⟩
    | ret u => obtain ⟨v, σ', H', J', r, q⟩ := hsp; exact ⟨v, σ', H', J'.ofTry ok, r, q⟩
end
end Mn
set_option Elab.async false
set_option linter.all false
set_option maxRecDepth 100000
set_option maxHeartbeats 1000000
/-! M15: a caught error, a given thunk: what is told of values does not change. -/
namespace Mn
open PySem PySem.Spec PyProof.Rows L2
/-- the same but for the caught error and the thunk -/
abbrev Gx.wi (G : Gx) (e : Option (Addr × Nat × Addr)) (t : Option Th) : Gx := { G with ex := e, th := t }
section
variable {G : Gx} {wd : Wd} {s : Sx} {σ : L2.St} {H : Hp} {e : Option (Addr × Nat × Addr)} {t : Option Th} {a : Bool}
mutual
theorem rd_wi (F : Hp) : ∀ (x : D) (v : V), RD (G.wi e t) F x v ↔ RD G F x v
  | .non, v => by simp only [RD]
  | .bl _, v => by simp only [RD]
  | .int _, v => by simp only [RD]
  | .str _, v => by simp only [RD]
  | .tup xs, v => by simp only [RD]; exact exists_congr fun a => exists_congr fun vs => and_congr Iff.rfl (and_congr Iff.rfl (rds_wi F xs vs))
  | .lst xs, v => by simp only [RD]; exact exists_congr fun a => exists_congr fun vs => and_congr Iff.rfl (and_congr Iff.rfl (rds_wi F xs vs))
  | .con _, v => by simp only [RD]
  | .ty _, v => by simp only [RD]
  | .obj c xs, v => by simp only [RD]; exact exists_congr fun a => exists_congr fun dx => exists_congr fun fs => exists_congr fun vs => and_congr Iff.rfl (and_congr Iff.rfl (and_congr Iff.rfl (and_congr Iff.rfl (rds_wi F xs vs))))
  | .tun xs, v => by simp only [RD]; exact exists_congr fun a => exists_congr fun vs => exists_congr fun o => and_congr Iff.rfl (and_congr Iff.rfl (and_congr Iff.rfl (rds_wi F xs vs)))
theorem rds_wi (F : Hp) : ∀ (xs : List D) (vs : List V), RDs (G.wi e t) F xs vs ↔ RDs G F xs vs
  | [], vs => by simp only [RDs]
  | x :: xs, vs => by simp only [RDs]; exact exists_congr fun v => exists_congr fun r => and_congr Iff.rfl (and_congr (rd_wi F x v) (rds_wi F xs r))
end
/-- no caught error; a thunk, if a -/
def okE (a : Bool) : W → Bool
  | .e _ _ => false
  | .t => a
  | _ => true
def okO (a : Bool) : Option W → Bool
  | some w => okE a w
  | none => true
def okCell (a : Bool) : Cell → Bool
  | .m ws => ws.all (okE a)
  | .f _ => true
  | .i _ ws => ws.all (okE a)
def noE (a : Bool) (s : Sx) : Bool := s.e.all (okO a) && s.l.all (okCell a)
theorem rw_wi {w : W} {v : V} (ha : a = true → t = G.th) (h : okE a w = true) : RW (G.wi e t) wd w v ↔ RW G wd w v := by
  cases w with
  | d x => exact rd_wi wd.F x v
  | l n => exact Iff.rfl
  | g n => exact Iff.rfl
  | e c xs => cases h
  | t =>
    have h : a = true := h
    have e := ha h
    subst e
    exact Iff.rfl
theorem rws_wi (ha : a = true → t = G.th) : ∀ {ws : List W} {vs : List V}, ws.all (okE a) = true → (RWs (G.wi e t) wd ws vs ↔ RWs G wd ws vs)
  | [], vs, _ => by simp only [RWs]
  | w :: ws, vs, h => by
    rw [List.all_cons, Bool.and_eq_true] at h
    simp only [RWs]
    exact exists_congr fun v => exists_congr fun r => and_congr Iff.rfl (and_congr (rw_wi ha h.1) (rws_wi ha h.2))
theorem noL_ok : ∀ {ws : List W}, noL ws = true → ws.all (okE a) = true
  | [], _ => rfl
  | .d _ :: r, h => by simp only [noL] at h; simp [okE, noL_ok h]
  | .g _ :: r, h => by simp only [noL] at h; simp [okE, noL_ok h]
  | .l _ :: r, h => by simp [noL] at h
  | .e _ _ :: r, h => by simp [noL] at h
  | .t :: r, h => by simp [noL] at h
theorem noLc_ok {c : Cell} (h : noLc c = true) : okCell a c = true := by
  cases c with
  | m ws => exact noL_ok h
  | f ds => rfl
  | i c ws => exact noL_ok h
theorem rc_wi {b : Addr} {c : Cell} (ha : a = true → t = G.th) (h : okCell a c = true) : RC (G.wi e t) wd H b c ↔ RC G wd H b c := by
  cases c with
  | m ws => exact exists_congr fun vs => and_congr Iff.rfl (and_congr Iff.rfl (rws_wi ha h))
  | f ds => exact and_congr (rd_wi wd.F _ _) Iff.rfl
  | i c ws => exact exists_congr fun dx => exists_congr fun fs => exists_congr fun vs => and_congr Iff.rfl (and_congr Iff.rfl (and_congr Iff.rfl (rws_wi ha h)))
theorem SR.wi (ha : a = true → t = G.th) (h : noE a s = true) : SR (G.wi e t) wd s σ H ↔ SR G wd s σ H := by
  unfold noE at h
  rw [Bool.and_eq_true, List.all_eq_true, List.all_eq_true] at h
  have he : ∀ (i : Nat) (w : W), s.e[i]? = some (some w) → okE a w = true := fun i w q => h.1 _ (List.mem_of_getElem? q)
  have hl : ∀ (i : Nat) (c : Cell), s.l[i]? = some c → okCell a c = true := fun i w q => h.2 _ (List.mem_of_getElem? q)
  constructor
  · intro sr
    refine ⟨sr.le, sr.len, fun i w q => ?_, sr.la, sr.lb, sr.nd, fun i c q => ?_, fun i c q => ?_, sr.gn, sr.tb⟩
    · obtain ⟨v, p, r⟩ := sr.env i w q; exact ⟨v, p, (rw_wi ha (he i w q)).mp r⟩
    · obtain ⟨b, p, r⟩ := sr.lc i c q; exact ⟨b, p, (rc_wi ha (hl i c q)).mp r⟩
    · obtain ⟨b, p, r⟩ := sr.gc i c q; exact ⟨b, p, (rc_wi ha (noLc_ok (sr.gn i c q))).mp r⟩
  · intro sr
    refine ⟨sr.le, sr.len, fun i w q => ?_, sr.la, sr.lb, sr.nd, fun i c q => ?_, fun i c q => ?_, sr.gn, sr.tb⟩
    · obtain ⟨v, p, r⟩ := sr.env i w q; exact ⟨v, p, (rw_wi ha (he i w q)).mpr r⟩
    · obtain ⟨b, p, r⟩ := sr.lc i c q; exact ⟨b, p, (rc_wi ha (hl i c q)).mpr r⟩
    · obtain ⟨b, p, r⟩ := sr.gc i c q; exact ⟨b, p, (rc_wi ha (noLc_ok (sr.gn i c q))).mpr r⟩
/-- only what is shared: nothing to ask -/
theorem SR.wi0 {g : List Cell} : SR (G.wi e t) wd ⟨[], [], g⟩ σ H ↔ SR G wd ⟨[], [], g⟩ σ H := SR.wi (a := false) (fun z => by cases z) rfl
theorem xr_wi {x : Exn} {cls : Value} {d : Option Addr} : XR (G.wi e t) wd x cls d ↔ XR G wd x cls d := by
  unfold XR
  exact and_congr Iff.rfl (exists_congr fun dd => exists_congr fun fs => exists_congr fun vs => and_congr Iff.rfl (and_congr Iff.rfl (and_congr Iff.rfl (rds_wi wd.F _ _))))
theorem fos_wi {o : Fo} {Q : VK} {E : XK} : FoS (G.wi e t) o wd H Q E ↔ FoS G o wd H Q E := by
  cases o with
  | stuck => exact Iff.rfl
  | ok w g =>
    refine forall_congr' fun v => forall_congr' fun H' => forall_congr' fun wd' => forall_congr' fun nl => forall_congr' fun st => forall_congr' fun al => ?_
    refine imp_congr SR.wi0 (imp_congr (rw_wi (a := false) (fun z => by cases z) ?_) Iff.rfl)
    have := noL_ok (a := false) nl
    simpa using this
  | exc x g =>
    refine forall_congr' fun cls => forall_congr' fun d => forall_congr' fun H' => forall_congr' fun wd' => forall_congr' fun st => forall_congr' fun al => ?_
    exact imp_congr SR.wi0 (imp_congr xr_wi Iff.rfl)
end
end Mn
set_option Elab.async false
set_option linter.all false
set_option maxRecDepth 100000
set_option maxHeartbeats 1000000
/-! M16: try, told. -/
namespace Mn
open PySem PySem.Spec PyProof.Rows L2
/-- a clause: the class's number, the name's slot, the suite -/
structure Hd where
  n : Nat
  nm : Option Nat
  su : St
def setN (nm : Option Nat) (o : Option W) (s : Sx) : Sx := match nm with
  | some i => { s with e := upAt s.e i o }
  | none => s
def okF : Fl → Bool
  | .rt w => okE true w
  | _ => true
/-- the clauses asked one after the other; sb tells which class lies under which -/
def hdl (sb : Nat → Nat → Option Bool) : List Hd → Exn → Sx → Out Fl
  | [], x, s => .exc x s
  | h :: r, x, s => match sb x.c h.n with
    | none => .stuck
    | some false => hdl sb r x s
    | some true => match h.su (setN h.nm (some (.e x.c x.xs)) s) with
      | .ok f s1 => if (okF f && noE true (setN h.nm none s1)) = true then .ok f (setN h.nm none s1) else .stuck
      | _ => .stuck
def tryS (sb : Nat → Nat → Option Bool) (b : St) (hs : List Hd) : St := fun s => match b s with
  | .exc x s1 => hdl sb hs x s1
  | o => o
section
variable {G : Gx} {wd : Wd} {s : Sx} {σ : L2.St} {H : Hp} {e : Option (Addr × Nat × Addr)}
theorem rw_in (hx : G.ex = none) {w : W} {v : V} (h : RW G wd w v) : RW (G.wi e G.th) wd w v := by
  cases w with
  | e c xs => obtain ⟨_, _, _, _, _, z, _⟩ := h; rw [hx] at z; cases z
  | t => exact h
  | d x => exact (rd_wi wd.F x v).mpr h
  | l n => exact h
  | g n => exact h
theorem rws_in (hx : G.ex = none) : ∀ {ws : List W} {vs : List V}, RWs G wd ws vs → RWs (G.wi e G.th) wd ws vs
  | [], vs, h => by simp only [RWs] at h ⊢; exact h
  | w :: ws, vs, h => by
    simp only [RWs] at h ⊢
    obtain ⟨v, r, ev, a, b⟩ := h
    exact ⟨v, r, ev, rw_in hx a, rws_in hx b⟩
theorem rc_in (hx : G.ex = none) {b : Addr} {c : Cell} (h : RC G wd H b c) : RC (G.wi e G.th) wd H b c := by
  cases c with
  | m ws => obtain ⟨vs, p, f, r⟩ := h; exact ⟨vs, p, f, rws_in hx r⟩
  | f ds => exact ⟨(rd_wi wd.F _ _).mpr h.1, h.2⟩
  | i c ws => obtain ⟨dx, fs, vs, p, f, z, r⟩ := h; exact ⟨dx, fs, vs, p, f, z, rws_in hx r⟩
theorem SR.in (hx : G.ex = none) (sr : SR G wd s σ H) : SR (G.wi e G.th) wd s σ H := by
  refine ⟨sr.le, sr.len, fun i w q => ?_, sr.la, sr.lb, sr.nd, fun i c q => ?_, fun i c q => ?_, sr.gn, sr.tb⟩
  · obtain ⟨v, p, r⟩ := sr.env i w q; exact ⟨v, p, rw_in hx r⟩
  · obtain ⟨b, p, r⟩ := sr.lc i c q; exact ⟨b, p, rc_in hx r⟩
  · obtain ⟨b, p, r⟩ := sr.gc i c q; exact ⟨b, p, rc_in hx r⟩
theorem SR.put {i : Nat} {w : W} {v : V} (sr : SR G wd s σ H) (r : RW G wd w v) : SR G wd { s with e := upAt s.e i (some w) } (σ.set i (some v)) H where
  le := sr.le
  len := by
    show (upAt s.e i _).length = _
    rw [upAt_eq, List.length_set, List.length_set]; exact sr.len
  env := fun j w' q => by
    have q : (upAt s.e i (some w))[j]? = some (some w') := q
    rw [upAt_get] at q
    by_cases h : j = i
    · subst h
      rw [if_pos rfl] at q
      split at q
      · rename_i hl
        cases q
        exact ⟨v, by rw [List.getElem?_set_self (by rw [← sr.len]; exact hl)], r⟩
      · cases q
    · rw [if_neg h] at q
      obtain ⟨u, p, z⟩ := sr.env j w' q
      exact ⟨u, by rw [List.getElem?_set_ne (Ne.symm h)]; exact p, z⟩
  la := sr.la
  lb := sr.lb
  nd := sr.nd
  lc := sr.lc
  gc := sr.gc
  gn := sr.gn
  tb := sr.tb
theorem SR.drop {i : Nat} (sr : SR G wd s σ H) : SR G wd { s with e := upAt s.e i none } (σ.set i none) H where
  le := sr.le
  len := by
    show (upAt s.e i _).length = _
    rw [upAt_eq, List.length_set, List.length_set]; exact sr.len
  env := fun j w' q => by
    have q : (upAt s.e i none)[j]? = some (some w') := q
    rw [upAt_get] at q
    by_cases h : j = i
    · subst h
      rw [if_pos rfl] at q
      split at q <;> cases q
    · rw [if_neg h] at q
      obtain ⟨u, p, z⟩ := sr.env j w' q
      exact ⟨u, by rw [List.getElem?_set_ne (Ne.symm h)]; exact p, z⟩
  la := sr.la
  lb := sr.lb
  nd := sr.nd
  lc := sr.lc
  gc := sr.gc
  gn := sr.gn
  tb := sr.tb
theorem setN_put {nm : Option Nat} {a : Addr} {w : W} (sr : SR G wd s σ H) (r : RW G wd w (.ref a)) : SR G wd (setN nm (some w) s) (putN nm a σ) H := by
  cases nm with
  | none => exact sr
  | some i => exact sr.put r
def goN (nm : Option Nat) (σ : L2.St) : L2.St := match nm with
  | none => σ
  | some i => σ.set i none
theorem setN_drop {nm : Option Nat} (sr : SR G wd s σ H) : SR G wd (setN nm none s) (goN nm σ) H := by
  cases nm with
  | none => exact sr
  | some i => exact sr.drop
theorem goneN_nx {nm : Option Nat} {D : Ends} : (goneN nm D).nx σ H = D.nx (goN nm σ) H := by cases nm <;> rfl
theorem goneN_bk {nm : Option Nat} {D : Ends} : (goneN nm D).bk σ H = D.bk (goN nm σ) H := by cases nm <;> rfl
theorem goneN_ct {nm : Option Nat} {D : Ends} : (goneN nm D).ct σ H = D.ct (goN nm σ) H := by cases nm <;> rfl
theorem goneN_rt {nm : Option Nat} {D : Ends} : (goneN nm D).rt = D.rt := by cases nm <;> rfl
theorem On.tr {c : Cf} {X : Cx} (on : On G c X) (hsu : c.su = false) {pn : List (Addr × Obj)} {xe : Value → Shared → Prop} (hp : PassesOwn (model X.prog X.w) X.A X.env xe) : On G c (X.tr pn xe) :=
  ⟨on.p, on.w, on.K, on.mg, on.base, on.N, on.nd, on.sc, on.dp, on.un, on.gd, on.hd, on.cm, on.fn, hp, on.stk, on.frm, on.ql, on.cd, on.ex1, (fun z => by rw [hsu] at z; cases z), fun z t ht pn' xe' Wx tk i x p pos a b c d => on.th z t ht pn' xe' Wx tk i x p pos a b c d⟩
/-- the text of an except suite -/
def Cf.suite (c : Cf) : Cf := { c with calm := false, tk := false, su := true, df := false }
theorem On.suite {c : Cf} {X : Cx} (on : On G c X) {a dd : Addr} {cc : Nat} {oe : Obj} {pn : List (Addr × Obj)} (hz : Zc (.ref (G.cn cc)) (some dd) oe) (hd : ∃ vs, oe.data = .fields vs) : On (G.wi (some (a, cc, dd)) G.th) c.suite (X.suite a ((a, oe) :: pn)) :=
  ⟨on.p, on.w, on.K, on.mg, on.base, on.N, on.nd, on.sc, on.dp, on.un, on.gd, (fun z => by cases z), (fun z => by cases z), on.fn, PassesOwn.never, (fun z => by cases z), (fun z => by cases z), (fun z => by cases z), (fun z => by cases z), (fun z => by cases z), (fun _ a' cc' dd' h => by
    have h : some (a, cc, dd) = some (a', cc', dd') := h
    cases h
    exact ⟨X, oe, pn, rfl, hz, hd⟩), (fun z => by cases z)⟩
end
/-- what the clauses' texts say -/
inductive MH (G : Gx) (c : Cf) (sb : Nat → Nat → Option Bool) : List ExceptHandler → List Hd → Prop
  | nil : MH G c sb [] []
  | plain {x : Str} {n : Nat} {b₀ : Stmt} {su : List Stmt} {np hp : Pos} {hds : List ExceptHandler} {l : List Hd} {f : St} (hg : GlS c.sc x) (hm : G.mg x = some (.ref (G.cn n))) (hd : (x == ("__debug__" : Str)) = false)
      (hb : ∀ k b, sb k n = some b → PySem.W.exmOne G.K (.ref (G.cn k)) (.ref (G.cn n)) = some b) (hs : ∀ e, MSs (G.wi e G.th) c.suite (b₀ :: su) f) (r : MH G c sb hds l) : MH G c sb (.ExceptHandler (some (.Name x np)) none (b₀ :: su) hp :: hds) (⟨n, none, f⟩ :: l)
  | named {x y : Str} {n i : Nat} {b₀ : Stmt} {su : List Stmt} {np hp : Pos} {hds : List ExceptHandler} {l : List Hd} {f : St} (hg : GlS c.sc x) (hm : G.mg x = some (.ref (G.cn n))) (hd : (x == ("__debug__" : Str)) = false) (hi : c.N[i]? = some y) (hy : c.sc.names.lookup y = some .local)
      (hb : ∀ k b, sb k n = some b → PySem.W.exmOne G.K (.ref (G.cn k)) (.ref (G.cn n)) = some b) (hs : ∀ e, MSs (G.wi e G.th) c.suite (b₀ :: su) f) (r : MH G c sb hds l) : MH G c sb (.ExceptHandler (some (.Name x np)) (some y) (b₀ :: su) hp :: hds) (⟨n, some i, f⟩ :: l)
section
variable {G : Gx} {c : Cf} {sb : Nat → Nat → Option Bool} {Wx : WX} {wd : Wd} {s : Sx} {σ : L2.St} {H : Hp} {D : Ends}
def clOf (G : Gx) (h : Hd) : Cl := (.ref (G.cn h.n), h.nm, fun a cls d D σ H => ∃ cc dd, cls = .ref (G.cn cc) ∧ d = some dd ∧ rdS (G.wi (some (a, cc, dd)) G.th) W0 h.su D σ H)
theorem suite_ps {X : Cx} (on : On G c X) {h : Hd} {b₀ : Stmt} {su : List Stmt} (hs : ∀ e, MSs (G.wi e G.th) c.suite (b₀ :: su) h.su) (a : Addr) (oe : Obj) (cls : Value) (d : Option Addr) (pn : List (Addr × Obj)) (hz : Zc cls d oe) (hf : ∃ vs, oe.data = .fields vs) :
    PSs (X.suite a ((a, oe) :: pn)) (b₀ :: su) ((clOf G h).2.2 a cls d) := by
  refine ⟨fun pins s σ H D I hq => ?_⟩
  obtain ⟨cc, dd, e1, e2, q⟩ := hq
  subst e1 e2
  exact (hs (some (a, cc, dd)) _ (on.suite hz hf) W0 takes0).run pins s σ H D I q
theorem cls_of {X : Cx} (on : On G c X) : ∀ {hds : List ExceptHandler} {l : List Hd}, MH G c sb hds l → Cls X hds (l.map (clOf G)) := by
  intro hds l h
  induction h with
  | nil => exact .nil
  | plain hg hm hd hb hs r ih => exact .plain ⟨on.gl hg, hd, .inl (by rw [on.mg]; exact hm)⟩ (suite_ps on hs) ih
  | named hg hm hd hi hy hb hs r ih => exact .named ⟨on.gl hg, hd, .inl (by rw [on.mg]; exact hm)⟩ (by rw [on.N]; exact hi) (by show X.env.scope.names.lookup _ = _; rw [on.sc]; exact hy) (suite_ps on hs) ih
theorem suite_rs (hx : G.ex = none) {h : Hd} {x : Exn} {cls : Value} {d : Option Addr} {a : Addr} (sr : SR G wd s σ H) (xr : XR G wd x cls d)
    (hq : RsS G Wx (match h.su (setN h.nm (some (.e x.c x.xs)) s) with | .ok f s1 => if (okF f && noE true (setN h.nm none s1)) = true then .ok f (setN h.nm none s1) else .stuck | _ => .stuck) wd H D) :
    (clOf G h).2.2 a cls d (goneN h.nm D) (putN h.nm a σ) H := by
  obtain ⟨ec, dd, fs, vs, ed, hF, hfl, rx⟩ := xr
  have hr : RW (G.wi (some (a, x.c, dd)) G.th) wd (.e x.c x.xs) (.ref a) := ⟨a, dd, fs, vs, rfl, rfl, hF, hfl, (rds_wi wd.F _ _).mpr rx⟩
  refine ⟨x.c, dd, ec, ed, wd, _, setN_put (sr.in hx) hr, ?_⟩
  cases q : h.su (setN h.nm (some (.e x.c x.xs)) s) with
  | stuck => rw [q] at hq; exact hq.elim
  | exc y s1 => rw [q] at hq; exact hq.elim
  | ok f s1 =>
    rw [q] at hq
    simp only at hq
    split at hq
    · rename_i hk
      rw [Bool.and_eq_true] at hk
      have back : ∀ {σ' : L2.St} {H' : Hp} {wd' : Wd}, SR (G.wi (some (a, x.c, dd)) G.th) wd' s1 σ' H' → SR G wd' (setN h.nm none s1) (goN h.nm σ') H' := fun sr' => (SR.wi (a := true) (fun _ => rfl) hk.2).mp (setN_drop sr')
      cases f with
      | nx => exact fun σ' H' wd' st sr' => by rw [goneN_nx]; exact hq _ H' wd' st (back sr')
      | bk => exact fun σ' H' wd' st sr' => by rw [goneN_bk]; exact hq _ H' wd' st (back sr')
      | ct => exact fun σ' H' wd' st sr' => by rw [goneN_ct]; exact hq _ H' wd' st (back sr')
      | rt w => exact fun v σ' H' wd' st sr' rv => by rw [goneN_rt]; exact hq v _ H' wd' st (back sr') ((rw_wi (a := true) (fun _ => rfl) hk.1).mp rv)
    · exact hq.elim
theorem wish_of (hx : G.ex = none) {x : Exn} {cls : Value} {d : Option Addr} (sr : SR G wd s σ H) (xr : XR G wd x cls d) : ∀ {hds : List ExceptHandler} {l : List Hd}, MH G c sb hds l → RsS G Wx (hdl sb l x s) wd H D → wish G.K Wx D (l.map (clOf G)) cls d σ H := by
  intro hds l h
  have ec := xr.1
  induction h with
  | nil => exact fun hq => hq cls d σ H wd (Stp.refl _ _) sr xr
  | @plain _ n _ _ _ _ _ _ f hg hm hd hb hs r ih =>
    intro hq
    simp only [hdl] at hq
    cases q : sb x.c n with
    | none => rw [q] at hq; exact hq.elim
    | some b =>
      rw [q] at hq
      refine ⟨b, by rw [ec]; exact hb _ _ q, fun e a _ => ?_, fun e => ?_⟩
      · subst e
        exact suite_rs (h := ⟨n, none, f⟩) hx sr xr hq
      · subst e
        exact ih hq
  | @named _ _ n i _ _ _ _ _ _ f hg hm hd hi hy hb hs r ih =>
    intro hq
    simp only [hdl] at hq
    cases q : sb x.c n with
    | none => rw [q] at hq; exact hq.elim
    | some b =>
      rw [q] at hq
      refine ⟨b, by rw [ec]; exact hb _ _ q, fun e a _ => ?_, fun e => ?_⟩
      · subst e
        exact suite_rs (h := ⟨n, some i, f⟩) hx sr xr hq
      · subst e
        exact ih hq
theorem ms_try {body : List Stmt} {b : St} {h₀ : ExceptHandler} {hds : List ExceptHandler} {l : List Hd} {pos : Pos} (hc : c.calm = true) (hdf : c.df = true) (hsu : c.su = false) (hb : MSs G c body b) (hh : MH G c sb (h₀ :: hds) l) : MS G c (.Try body (h₀ :: hds) [] [] pos) (tryS sb b l) := fun X on Wx tk => by
  have hx := on.ex1 hc
  refine (ps_try_any (tb := fun W => rdS G W b) (l := l.map (clOf G)) (on.stk hdf) (on.frm hdf) (by rw [on.N]; exact on.nd) tk (fun W pn xe tk' hp => hb _ (on.tr hsu hp) W tk') (cls_of on hh)).imp fun D σ H h => ?_
  obtain ⟨wd, s, sr, h⟩ := h
  refine ⟨wd, s, sr, ?_⟩
  unfold tryS at h
  cases q : b s with
  | ok f s1 =>
    rw [q] at h
    cases f <;> exact h
  | stuck => rw [q] at h; exact h
  | exc x s1 =>
    rw [q] at h
    rw [on.K]
    exact fun cls d σ' H' wd' st sr' xr => wish_of hx sr' xr hh (h.step st)
end
end Mn
set_option Elab.async false
set_option linter.all false
set_option maxRecDepth 100000
set_option maxHeartbeats 2000000
/-! M17: the caught error: its fields, isinstance. -/
namespace PySem.W
open PySem PySem.Spec PySem.Calls PyProof.Rows
section
variable {prog : Program} {w : World} {A : Around} {E : Value → Shared → Prop} {s : Shared} {K : Frag} {x D : Addr} {ox : Obj} {od : Option Obj}
theorem mnFindData {C : Addr} {name : Str} {a g : Value} (hc : (clsIn K C).isSome = true) (ha : findIn K (.ref C) name = some (some a)) (hg : specialIn K a "__get__" = some (some g)) (ht : takesIn K a = some true) : findObj K C od name = some (.bind g a) := by
  obtain ⟨cd, hc⟩ := Option.isSome_iff_exists.mp hc
  unfold findObj
  rw [hc, Option.bind_some, ha, Option.bind_some]
  simp [hg, ht]
/-- error.__class__, the error having its own dict -/
theorem mnClass {Q : Option Value → Shared → Prop} (C : L2.ExcC K D) (X : K.In s.heap) (I : InstAt s.heap x ox D od) (h : Q (some (.ref D)) { s with toks := s.toks + 1 }) : wpAny (model prog w) A (getAttr? (.ref x) "__class__") Q E s := by
  have hf : findObj K D od "__class__" = some (.bind (.builtin "getset_descriptor.__get__") (.builtin "object.__class__")) := mnFindData (by obtain ⟨cd, hc, _⟩ := any_some C.hd; rw [hc]; rfl) C.ha C.hn C.ht
  obtain ⟨hp, g, d, t, os⟩ := s
  have L0 := I.type (M := model prog w)
  have L1 := looks_findIn (M := model prog w) X C.hg
  have L2 := looks_findIn (M := model prog w) X C.hk
  have L3 := looks_find (M := model prog w) X I hf
  have sub : Looks (model prog w) hp (isInstance (.ref x) (.type "BaseException")) true := L0.andThen (looks_subIn X C.hs)
  have z2 : (Value.builtin "BaseException.__getattribute__" == Value.builtin "object.__getattribute__") = false := by decide +kernel
  have z1 : (onTheHeap (Value.ref D) && Value.builtin "BaseException.__getattribute__" == Value.builtin "object.__getattribute__") = false := by rw [z2]; rfl
  unfold getAttr? getAttrBy? getAttrBy
  refine wpAny_bind (wpAny_mkText (wpAny_bind (wpAny_attempt (wpAny_holding (wpAny_bind (L0.at (wpAny_bind (L1.at ?_))))))))
  show wpAny _ _ (if (onTheHeap (Value.ref D) && Value.builtin "BaseException.__getattribute__" == Value.builtin "object.__getattribute__") = true then _ else _) _ _ _
  rw [z1, if_neg Bool.false_ne_true]
  unfold getAttrByItsOwn hookBefore
  refine wpAny_bind ?_
  rw [if_pos (show onTheHeap (Value.ref D) = true from rfl)]
  refine L2.at ?_
  refine wpAny_bind (wpAny_attempt (wpAny_holding ?_))
  unfold callGetattribute
  rw [show (false && onTheHeap (Value.builtin "BaseException.__getattribute__")) = false from rfl, if_neg Bool.false_ne_true]
  unfold boundAndCalled
  rw [PySem.F.excAttr_ValueError.ga.bind (.ref x)]
  refine wpAny_bind (wpAny_pure ?_)
  show wpAny _ _ (call (.builtin "BaseException.__getattribute__") [.ref x, .str "__class__" t]) _ _ _
  refine wpAny_call (codeAny_call_builtin PySem.F.excAttr_ValueError.ga.plain PySem.F.entry_bexc_ga ?_)
  refine @check_slot (model prog w) _ _ ⟨hp, g, d, t + 1, os⟩ "BaseException.__getattribute__" "BaseException" "__getattribute__" (.ref x) [.str "__class__" t] [] _ (by decide +kernel) (by decide +kernel) sub (PySem.F.args_bexc_ga (.ref x) (.str "__class__" t)) ?_
  unfold Builtin.«object.__getattribute__»
  refine wpAny_bind (wpAny_of_eq (a := ((Value.ref x : Value), [Value.str "__class__" t])) (by first | rfl | (simp only [slotArgs]; rfl)) ?_)
  refine wpAny_bind (wpAny_pure (wpAny_bind (L0.at (wpAny_bind (L3.at ?_)))))
  show wpAny _ _ (holding [Value.builtin "object.__class__"] (call (.builtin "getset_descriptor.__get__") [.builtin "object.__class__", .ref x, .ref D]) >>= ret) _ _ _
  refine wpAny_bind (wpAny_holding (wpAny_call (class_get (s := ⟨hp, g, d, t + 1, os⟩) (ox := ox) (od := od) X I C.hm ?_)))
  refine wpAny_pure ?_
  show wpAny _ _ (handedOut (.ref D)) _ _ _
  rw [handedOut_of (v := .ref D) rfl]
  first
    | exact wpAny_pure (wpAny_pure h)
    | exact wpAny_pure h
    | exact wpAny_pure (wpAny_bind (wpAny_pure (wpAny_pure h)))
theorem mnKit (C : L2.ExcC K D) : KitX K (.ref x) (.ref D) (fun h => InstAt h x ox D od) where
  ty := fun _ _ _ I => I.type
  it := fun _ _ X _ => by
    obtain ⟨cdD, hcD, _⟩ := any_some C.hd
    unfold clsIn at hcD
    split at hcD
    · rename_i c' d' cd' sl' ho
      intro A' Q' E' s' k q
      unfold isType loadHead
      exact wpAny_bind (wpAny_loadPart (k _ _ (X _ _ ho)) (wpAny_pure q))
    · cases hcD
  ne := fun h tp dd its n sl X htp => by
    obtain ⟨cdD, hcD, _⟩ := any_some C.hd
    refine Bool.eq_false_iff.mpr fun q => ?_
    have e : D = tp := Value.ref.inj (beq_iff_eq.mp q)
    subst e
    unfold clsIn at hcD
    split at hcD
    · rename_i c' d' cd' sl' ho
      have z := (X _ _ ho).symm.trans htp
      cases z
    · cases hcD
  ca := fun X I k => mnClass C X I k
end
end PySem.W
namespace Mn
open PySem PySem.Spec PyProof.Rows L2
/-- a caught error's field: where it stands in its class's fields -/
def fldE (fls : Nat → Option Nat) (a : M W) : M W := bnd a fun w s => match w with
  | .e c xs => match fls c with
    | some j => match nth xs j with | some x => .ok (.d x) s | none => .stuck
    | none => .stuck
  | _ => .stuck
/-- isinstance(error, C) -/
def isE (kt : Nat → Option Bool) (a : M W) : M W := bnd a fun w s => match w with
  | .e c _ => match kt c with | some b => .ok (.d (.bl b)) s | none => .stuck
  | _ => .stuck
section
variable {G : Gx} {c : Cf} {e : Expr} {fa : M W} {pos p q : Pos} {n x : Str}
theorem lookup_zip {ns : List Str} {vs : List V} : True := trivial
theorem me_fldE {fls : Nat → Option Nat} (hsu : c.su = true) (he : ME G c e fa) (hx : ∀ k j, fls k = some j → XfC G.K (G.cn k) ∧ PySem.W.findIn G.K (.ref (G.cn k)) n = some none ∧ ∀ vs : List V, vs.length = (G.fl k).length → ((G.fl k).zip vs).lookup n = vs[j]?)
    (hb : ∀ env, attributeBase e n env (eval e env) = eval e env := by intro _; rfl) : ME G c (.Attribute e n pos) (fldE fls fa) := fun X on Wx tk => by
  have key : ∀ {v : V} {H1 : Hp} {wd1 : Wd} {s1 : Sx} {w : W} {σ : L2.St} {Q : VK}, SR G wd1 s1 σ H1 → RW G wd1 w v → Rs G Wx (rW G) ((fun w s => match w with
      | .e c xs => match fls c with
        | some j => match nth xs j with | some x => .ok (.d x) s | none => .stuck
        | none => .stuck
      | _ => .stuck : W → M W) w s1) wd1 σ H1 Q → ∃ a k dd fs u, v = .ref a ∧ G.ex = some (a, k, dd) ∧ H1 dd = some (.xd fs) ∧ XfC G.K (G.cn k) ∧ PySem.W.findIn G.K (.ref (G.cn k)) n = some none ∧ fs.lookup n = some u ∧ Q u H1 := fun {v H1 wd1 s1 w σ Q} sr r h => by
    cases w with
    | e k xs =>
      obtain ⟨a, dd, fs, vs, ev, hex, hF, hfl, rx⟩ := r
      simp only at h
      cases q1 : fls k with
      | none => rw [q1] at h; exact h.elim
      | some j =>
        rw [q1] at h
        simp only [nth_eq] at h
        cases q2 : xs[j]? with
        | none => rw [q2] at h; exact h.elim
        | some y =>
          rw [q2] at h
          obtain ⟨u, hu, ru⟩ := rx.get q2
          obtain ⟨h1, h2, h3⟩ := hx k j q1
          exact ⟨a, k, dd, fs, u, ev, hex, sr.le _ _ hF, h1, h2, by rw [hfl.2.2 n, h3 vs hfl.1, hu], Rs.ok_now h sr ru⟩
    | _ => exact h.elim
  cases hG : G.ex with
  | none =>
    refine ⟨fun pins s σ H Q I h => attr_of (hb _) (thn ((he X on Wx tk).run pins s σ H (fun _ _ => False) I ?_) fun u s1 hh => ?_)⟩
    · obtain ⟨wd, st, sr, h⟩ := h
      refine ⟨wd, st, sr, (Rs.bd (rel := rW G) h).imp fun v H1 ⟨wd1, s1, w, _, _, sr1, r1, h1⟩ => ?_⟩
      obtain ⟨a, k, dd, fs, u, _, z, _⟩ := key sr1 r1 h1
      rw [hG] at z; cases z
    · obtain ⟨_, _, _, _, z⟩ := hh
      exact z.elim
  | some t =>
    obtain ⟨a, k, dd⟩ := t
    obtain ⟨X0, oe, pn, rfl, hz, hd⟩ := on.ex hsu a k dd hG
    by_cases hk : (XfC G.K (G.cn k) ∧ PySem.W.findIn G.K (.ref (G.cn k)) n = some none)
    · refine (pe_xf (C := G.cn k) (by have z := on.K; show XfC X0.K _; rw [show X0.K = G.K from z]; exact hk.1) (by have z := on.K; rw [show X0.K = G.K from z]; exact hk.2) hz hd (he _ on Wx tk) (hb _)).imp fun σ H Q h => ?_
      obtain ⟨wd, st, sr, h⟩ := h
      refine ⟨wd, st, sr, (Rs.bd (rel := rW G) h).imp fun v H1 ⟨wd1, s1, w, _, _, sr1, r1, h1⟩ => ?_⟩
      obtain ⟨a', k', dd', fs, u, ev, z, hd1, _, _, l, q⟩ := key sr1 r1 h1
      rw [hG] at z
      cases z
      exact ⟨ev, rfl, dd, fs, u, rfl, hd1, l, q⟩
    · refine ⟨fun pins s σ H Q I h => attr_of (hb _) (thn ((he _ on Wx tk).run pins s σ H (fun _ _ => False) I ?_) fun u s1 hh => ?_)⟩
      · obtain ⟨wd, st, sr, h⟩ := h
        refine ⟨wd, st, sr, (Rs.bd (rel := rW G) h).imp fun v H1 ⟨wd1, s1, w, _, _, sr1, r1, h1⟩ => ?_⟩
        obtain ⟨a, k, dd, fs, u, _, z, _, h3, h4, _⟩ := key sr1 r1 h1
        rw [hG] at z; cases z
        exact hk ⟨h3, h4⟩
      · obtain ⟨_, _, _, _, z⟩ := hh
        exact z.elim
/-- isinstance(e, C) -/
theorem me_isE {kt : Nat → Option Bool} {m : Nat} {z : M W} (hsu : c.su = true) (he : ME G c e fa) (hg : GlS c.sc "isinstance") (hm : G.mg "isinstance" = none) (hgx : GlS c.sc x) (hmx : G.mg x = some (.ref (G.cn m)))
    (hx : ∀ k b, kt k = some b → ExcC G.K (G.cn k) ∧ PySem.W.kitOne G.K (.ref (G.cn k)) (.ref (G.cn m)) = some b) (hdx : (x == ("__debug__" : Str)) = false := by decide)
    (hst : ∀ env, starEach [e, .Name x q] env = (false, eval e env) :: starEach [.Name x q] env := by intro _; rfl) (hpl : ∀ env, (backTo pos (starEach [.Name x q] env)).any (·.1) = false := by intro _; rfl) :
    ME G c (.Call (.Name "isinstance" p) [e, .Name x q] [] pos) (isE kt fa) := fun X on Wx tk => by
  have hcall : CallR X (.builtin "isinstance") (fun xs H Q => ∃ k a dd b, G.ex = some (a, k, dd) ∧ xs = [.ref a, .ref (G.cn m)] ∧ ExcC G.K (G.cn k) ∧ PySem.W.kitOne G.K (.ref (G.cn k)) (.ref (G.cn m)) = some b ∧ (∃ fs, H dd = some (.xd fs)) ∧ Q (.bl b) H) := by
    intro pins s σ H xs us Q I r h
    obtain ⟨k, a, dd, b, hG, rfl, C, ek, ⟨fs, hdd⟩, q⟩ := h
    obtain ⟨X0, oe, pn, rfl, hz, vs, hv⟩ := on.ex hsu a k dd hG
    have hK : X0.K = G.K := on.K
    cases r with
    | @cons _ u1 _ ur r1 r2 =>
      cases r2 with
      | @cons _ u2 _ ur2 r2 r3 =>
        cases r3
        obtain rfl : u1 = Value.ref a := r1
        obtain rfl : u2 = Value.ref (G.cn m) := r2
        obtain ⟨hget, _⟩ := I.pin (a, oe) (List.mem_append.mpr (.inl List.mem_cons_self))
        have hx0 : ObjOk X0.prog X0.w H s.heap dd (.xd fs) := I.hok dd _ hdd
        obtain ⟨mA, hns, hr⟩ := hx0
        obtain ⟨od, ho, hl⟩ := lookIn_ns hns
        have J : PySem.W.InstAt s.heap a oe (G.cn k) (some od) := ⟨hget, hz.1, by unfold PySem.W.notCls; rw [hv] <;> rfl, by rw [hz.2]; exact ho⟩
        have kin : G.K.In s.heap := by rw [← hK]; exact I.kIn
        exact PySem.W.kia_one (PySem.W.mnKit C) kin J ek (fun z => nomatch z) fun tk => ⟨.bl b, H, I.kept (t' := tk) fun _ _ z => z, rfl, q⟩
  have hE : ME G c (.Name x q) (cs (.con m)) := me_glob (u := .ref (G.cn m)) (v := .ref (G.cn m)) hgx hmx rfl (fun F => by simp only [RD]) hdx
  refine (pe_callB hcall (on.gl hg) (by rw [on.mg]; exact hm) boot_isinstance (pa_cons (he X on Wx tk) (pa_cons (hE X on Wx tk) pa_nil (by rfl)) (hst _)) (by decide) (by decide) (hst _) (hpl _)).imp fun σ H Q h => ?_
  obtain ⟨wd, st, sr, h⟩ := h
  refine ⟨wd, st, sr, (Rs.bd (rel := rW G) h).imp fun v H1 ⟨wd1, s1, w, _, st1, sr1, r1, h1⟩ => ?_⟩
  refine ⟨wd1, s1, sr1, ?_⟩
  show Rs G Wx (rW G) (cs (.con m) s1) wd1 σ H1 _
  intro v2 H2 wd2 st2 sr2 r2
  refine rd_argsN (G := G) (Wx := Wx) ⟨wd2, s1, sr2, ?_⟩
  intro vs H3 wd3 st3 sr3 r3
  simp only [rA, RWs] at r3
  subst r3
  have r2 : v2 = .ref (G.cn m) := by
    have z : RD G wd2.F (.con m) v2 := r2
    simpa only [RD] using z
  subst r2
  cases w with
  | e k xs =>
    obtain ⟨a, dd, fs, vs, ev, hex, hF, hfl, rx⟩ := r1
    subst ev
    simp only at h1
    cases q1 : kt k with
    | none => rw [q1] at h1; exact h1.elim
    | some b =>
      rw [q1] at h1
      obtain ⟨h3, h4⟩ := hx k b q1
      refine ⟨k, a, dd, b, hex, rfl, h3, h4, ⟨fs, ?_⟩, ?_⟩
      · exact sr3.le _ _ (st3.up.F _ _ (st2.up.F _ _ hF))
      · exact h1 (.bl b) H3 wd3 (st2.trans st3) sr3 (by show RD G wd3.F (.bl b) (.bl b); simp only [RD])
  | _ => exact h1.elim
end
end Mn
set_option Elab.async false
set_option linter.all false
set_option maxRecDepth 100000
set_option maxHeartbeats 1000000
/-! M18: lambdas without parameters, handed to a def. -/
namespace Mn
open PySem PySem.Spec PyProof.Rows L2 LamX
/-- x(), x the given thunk -/
def thk (T : List Cell → Fo) (i : Nat) : M W := bnd (vr i) fun w s => match w with
  | .t => (match T s.g with | .ok w g => .ok w { s with g := g } | .exc x g => .exc x { s with g := g } | .stuck => .stuck)
  | _ => .stuck
/-- what a lambda sees of the names around it -/
def capt (s : Sx) : List (Option W) := s.e.map fun o => match o with
  | some (.d x) => some (.d x)
  | some (.g n) => some (.g n)
  | some (.l n) => (match nth s.l n with | some (.f ds) => some (.d (.lst ds)) | _ => none)
  | _ => none
def lamT (e : List (Option W)) (f : M W) : List Cell → Fo := fun g => match f ⟨e, [], g⟩ with
  | .ok w s => (match toA w s with | .ok v s1 => .ok v s1.g | _ => .stuck)
  | .exc x s => .exc x s.g
  | .stuck => .stuck
/-- x(lambda: ..) -/
def lamc (F : (List Cell → Fo) → List Cell → Fo) (f : M W) : M W := fun s => match F (lamT (capt s) f) s.g with
  | .ok w g => .ok w { s with g := g }
  | .exc x g => .exc x { s with g := g }
  | .stuck => .stuck
/-- a def that takes a thunk -/
def fnT (n : Nat) (b : (List Cell → Fo) → St) : (List Cell → Fo) → List Cell → Fo := fun T g => fo (b T ⟨some .t :: List.replicate (n - 1) none, [], g⟩)
section
variable {G : Gx} {c : Cf} {x : Str} {p pos : Pos}
theorem me_thk {T : List Cell → Fo} {i : Nat} (htk : c.tk = true) (hT : ∀ t, G.th = some t → t.T = T) (hN : c.N[i]? = some x) (hv : Vis c.sc x) (hd : (x == ("__debug__" : Str)) = false := by decide) (hcd : (x == ("__classdict__" : Str)) = false := by decide) :
    ME G c (.Call (.Name x p) [] [] pos) (thk T i) := fun X on Wx tk => by
  have key : ∀ {σ : L2.St} {H : Hp} {Q : VK}, rd G Wx (rW G) (thk T i) σ H Q → ∃ t, G.th = some t ∧ σ[i]? = some (some (.ref t.a)) ∧ ∃ wd g, wd.al = [] ∧ SR G wd ⟨[], [], g⟩ [] H ∧ Le t.F wd.F ∧ (∃ m, wd.be = t.be ++ m) ∧ FoS G (t.T g) wd H Q fun cls d H' => Wx cls d σ H' := fun {σ H Q} h => by
    obtain ⟨wd, s, sr, h⟩ := h
    unfold thk bnd vr at h
    cases q : nth s.e i with
    | none => rw [q] at h; exact h.elim
    | some o =>
      rw [q] at h
      cases o with
      | none => exact h.elim
      | some w =>
        rw [nth_eq] at q
        obtain ⟨v, ev, rv⟩ := sr.env i w q
        cases w with
        | t =>
          obtain ⟨t, ht, rfl, hF, hb⟩ := rv
          refine ⟨t, ht, ev, wd.shut, s.g, rfl, sr.shut, hF, hb, ?_⟩
          rw [hT t ht]
          simp only at h
          cases q2 : T s.g with
          | stuck => rw [q2] at h; exact h.elim
          | ok w g =>
            rw [q2] at h
            intro v H' wd' nl st hal sc rv
            obtain ⟨st2, sr2⟩ := sr.after st hal sc
            exact h v H' _ st2 sr2 (RW.same (wd := wd') (wd' := Wd.back wd wd') nl rfl rfl rv)
          | exc y g =>
            rw [q2] at h
            intro cls d H' wd' st hal sc xr
            obtain ⟨st2, sr2⟩ := sr.after st hal sc
            exact h cls d H' _ st2 sr2 xr
        | _ => exact h.elim
  cases hG : G.th with
  | none =>
    refine ⟨fun pins s σ H Q I h => ?_⟩
    obtain ⟨t, z, _⟩ := key h
    rw [hG] at z; cases z
  | some t =>
    refine (on.th htk t hG X.pn X.xe Wx tk i x p pos (by rw [on.N]; exact hN) (by rw [on.sc]; exact hv) hd hcd).imp fun σ H Q h => ?_
    obtain ⟨t', z, r⟩ := key h
    rw [hG] at z
    cases z
    exact r
/-- the text of a lambda -/
def Cf.lam (c : Cf) (scope : Scope) (k : Nat) : Cf := { c with sc := scope, k := k, calm := true, fn := fun _ => false, tk := false, su := false, df := false }
end
end Mn
set_option Elab.async false
set_option linter.all false
set_option maxRecDepth 100000
set_option maxHeartbeats 1000000
/-! M19: x(lambda: ..), told. -/
namespace Mn
open PySem PySem.Spec PyProof.Rows L2 LamX
section
variable {G : Gx} {wd : Wd} {s : Sx} {σ : L2.St} {H H1 : Hp}
theorem SR.ext (sr : SR G wd s σ H) (e : ExtN H H1) (t : Tabs G.T H1) : SR G wd s σ H1 where
  le := fun b o h => e b o (sr.le b o h) (fun ps z => sr.tb.2 b ps (by rw [h, z]))
  len := sr.len
  env := sr.env
  la := sr.la
  lb := sr.lb
  nd := sr.nd
  lc := fun n c h => by
    obtain ⟨a, p, q⟩ := sr.lc n c h
    refine ⟨a, p, ?_⟩
    cases c with
    | m ws => obtain ⟨vs, h1, f, r⟩ := q; exact ⟨vs, e _ _ h1 (fun ps z => by cases z), f, r⟩
    | f ds => obtain ⟨r, vs, h1⟩ := q; exact ⟨r, vs, e _ _ h1 (fun ps z => by cases z)⟩
    | i c ws => obtain ⟨dx, fs, vs, h1, f, z, r⟩ := q; exact ⟨dx, fs, vs, e _ _ h1 (fun ps z => by cases z), f, z, r⟩
  gc := fun n c h => by
    obtain ⟨a, p, q⟩ := sr.gc n c h
    refine ⟨a, p, ?_⟩
    cases c with
    | m ws => obtain ⟨vs, h1, f, r⟩ := q; exact ⟨vs, e _ _ h1 (fun ps z => by cases z), f, r⟩
    | f ds => obtain ⟨r, vs, h1⟩ := q; exact ⟨r, vs, e _ _ h1 (fun ps z => by cases z)⟩
    | i c ws => obtain ⟨dx, fs, vs, h1, f, z, r⟩ := q; exact ⟨dx, fs, vs, e _ _ h1 (fun ps z => by cases z), f, z, r⟩
  gn := sr.gn
  tb := ⟨t, sr.tb.2⟩
/-- the names around a lambda, in a world that goes on from there -/
theorem SR.capt (sr : SR G wd s σ H) {wd' : Wd} {g : List Cell} {H' : Hp} (hal : wd'.al = []) (sc : SR G wd' ⟨[], [], g⟩ [] H') (lF : Le wd.F wd'.F) (hb : ∃ m, wd'.be = wd.be ++ m) (hth : G.th = none) (hex : G.ex = none) : SR G wd' ⟨capt s, [], g⟩ σ H' where
  le := sc.le
  len := by show (Mn.capt s).length = _; unfold Mn.capt; rw [List.length_map]; exact sr.len
  env := fun i w e => by
    have e : (Mn.capt s)[i]? = some (some w) := e
    unfold Mn.capt at e
    rw [List.getElem?_map] at e
    cases q : s.e[i]? with
    | none => rw [q] at e; cases e
    | some o =>
      rw [q] at e
      cases o with
      | none => cases e
      | some w0 =>
        obtain ⟨v, p, r⟩ := sr.env i w0 q
        refine ⟨v, p, ?_⟩
        cases w0 with
        | d x => cases e; exact RD.mono lF _ _ r
        | g n =>
          cases e
          obtain ⟨a, h1, h2⟩ := r
          obtain ⟨m, em⟩ := hb
          exact ⟨a, by rw [em]; exact at_app h1, h2⟩
        | l n =>
          obtain ⟨a, h1, rfl⟩ := r
          cases q2 : nth s.l n with
          | none => simp only [Option.map_some, q2] at e; cases e
          | some cl =>
            cases cl with
            | f ds =>
              simp only [Option.map_some, q2] at e
              cases e
              rw [nth_eq] at q2
              obtain ⟨a', h1', rc⟩ := sr.lc n _ q2
              rw [h1] at h1'
              cases h1'
              exact RD.mono lF _ _ rc.1
            | m ws => simp only [Option.map_some, q2] at e; cases e
            | i c ws => simp only [Option.map_some, q2] at e; cases e
        | e c xs => cases e
        | t => cases e
  la := by rw [hal]; rfl
  lb := sc.lb
  nd := sc.nd
  lc := fun n c e => by simp at e
  gc := sc.gc
  gn := sc.gn
  tb := sc.tb
end
section
variable {G : Gx} {c : Cf} {X : Cx} {pins : List (Addr × Obj)} {σ : L2.St} {H : Hp} {s : Shared}
theorem On.lam (on : On G c X) (hc : c.calm = true) {A : Around} {outer : List Env} {s0 : Shared} {H0 : Hp} {E : XK} {scope : Scope} {f c' : Addr} {k : Nat} (hr : Room k (A.deeper (lamEnv X scope s0.heap.objs.size f c'))) (hg : A.guards = some []) : On G (c.lam scope k) (lamCx X A outer s0 H0 E scope f c') where
  p := on.p
  w := on.w
  K := on.K
  mg := on.mg
  base := on.base
  N := on.N
  nd := on.nd
  sc := rfl
  dp := hr.dp
  un := hr.un
  gd := hg
  hd := fun _ => hr.hd
  cm := fun _ => rfl
  fn := fun _ z => by cases z
  ps := passes_of rfl
  stk := fun z => by cases z
  frm := fun z => by cases z
  ql := fun z => by cases z
  cd := fun z => by cases z
  ex1 := fun _ => on.ex1 hc
  ex := fun z => by cases z
  th := fun z => by cases z
/-- a thunk called in the def that got it -/
theorem act (on : On G c X) (hc : c.calm = true) (hth : G.th = none) {CXg : CXT} {Eg : XK} {Ng : List Str} {qg : Str} {sg : Scope} {g f c' : Addr} {cdg pm ctv : Value} {params : Arguments} {body : Expr} {scope : Scope} {k : Nat} {fb : M W} {st : Sx} {wd : Wd}
    (I : Inv X pins σ H s) (sr : SR G wd st σ H) (L : LamS X.env.scope scope) (hf : s.heap.get? f = some (PySem.W.kla_obj "<lambda>" (X.env.qual ++ "<lambda>") params body scope (cloFrom X.env.cells scope.names []) pm c' ctv)) (hfn : H f = none) (hfr : f ∉ frs X.stack)
    (hco : H c' = some (CodeO c' (X.env.qual ++ "<lambda>"))) (hcF : wd.F c' = some (CodeO c' (X.env.qual ++ "<lambda>")))
    (hbind : bindArgs (PySem.W.kla_fn "<lambda>" (X.env.qual ++ "<lambda>") params body scope (cloFrom X.env.cells scope.names []) pm (.ref c') ctv) ⟨[], []⟩ = pure [])
    (hr : Room (k + 1) (X.A.deeper (envOfC qg sg s.heap.objs.size g cdg))) (hlb : ME G (c.lam scope k) body fb) :
    ThOk G (fun wd g H => SR G wd ⟨[], [], g⟩ [] H) (FoS G) (cxOf CXg X.prog X.w X.K X.mg X.base Ng qg sg g cdg X.A X.stack s H Eg) ⟨f, wd.be, wd.F, lamT (capt st) fb⟩ := by
  intro pn xe Wz tk i a p1 p2 hN hv hd hcd
  refine ⟨fun pinsZ sZ σZ HZ Q IZ h => ?_⟩
  obtain ⟨hs, wdZ, gZ, hal, srZ, lF, hb, ht⟩ := h
  refine wpAny_Call_Name_kw (thn ((pe_var (X := (cxOf CXg X.prog X.w X.K X.mg X.base Ng qg sg g cdg X.A X.stack s H Eg).tr pn xe) (pos := p1) (i := i) hN hv hd hcd).run pinsZ sZ σZ HZ (fun v H1 => v = .ref f ∧ H1 = HZ) IZ ⟨.ref f, hs, rfl, rfl⟩) fun u s1 ⟨v, H1, I1, r1, q1⟩ => ?_)
  obtain ⟨ev, eH⟩ := q1
  subst ev
  rw [eH] at I1
  obtain rfl : u = Value.ref f := r1
  have of1 := I1.base.keep f _ hf hfn hfr (fun z => nomatch (show f ∈ ([] : List Addr) from z))
  refine PySem.W.callWith_F0 ⟨_, _, _, _, of1⟩ ?_
  have un : Un (frs X.stack) [] H HZ s.heap s1.heap := I1.base
  have hc2 : HZ c' = some (CodeO c' (X.env.qual ++ "<lambda>")) := srZ.le _ _ (lF _ _ hcF)
  obtain ⟨⟨oc, vs, t, hoc, hdc, hvc⟩, _, _⟩ := I1.hok c' _ hc2
  have rc : codeAny (model X.prog X.w) (X.A.deeper (envOfC qg sg s.heap.objs.size g cdg)) (.call (.ref f) ⟨[], []⟩) (CR (L2.CX X.prog X.w) (envOfC qg sg s.heap.objs.size g cdg :: X.stack) X.prog X.w HZ s1 Q (fun cls d H' => Wz cls d σZ H')) s1 := by
    refine PySem.W.kla_callFunE hr.depth of1 rfl L.co L.gen rfl ⟨c', oc, vs, t, rfl, hoc, hdc, hvc⟩ ?_
    rw [hbind]
    refine wpAny_pure (wpAny_newFunctionEnv (fun y hy => (L.own y hy).2) (fun y hy => absurd hy (by simp)) (fun h₁ hns hsb => ⟨I1.nolimit.fresh _ hsb, ?_⟩) L.kind)
    show codeAny _ _ (.expr body (lamEnv X scope s1.heap.objs.size f c')) _ _
    have kp : ∀ b o, s1.heap.get? b = some o → h₁.get? b = some o := fun b o e => hsb.extBut b o (Nat.ne_of_lt (Heap.lt_size e)) (Heap.get?_push_of_some _ e)
    have J := lam_start2 (E := fun cls d H' => Wz cls d σZ H') (tk := s1.toks + ([] : List (Str × Value)).length) (c' := c') (f := f) I L I1.env0 hr.hd un hns kp
    have onL : On G (c.lam scope k) (lamCx X (X.A.deeper (envOfC qg sg s.heap.objs.size g cdg)) (envOfC qg sg s.heap.objs.size g cdg :: X.stack) s1 HZ (fun cls d H' => Wz cls d σZ H') scope f c') := on.lam hc (hr.deeper _) on.gd
    have tkL : Takes (lamCx X (X.A.deeper (envOfC qg sg s.heap.objs.size g cdg)) (envOfC qg sg s.heap.objs.size g cdg :: X.stack) s1 HZ (fun cls d H' => Wz cls d σZ H') scope f c') (fun cls d _ H' => Wz cls d σZ H') := takes_of rfl rfl rfl rfl
    have srL : SR G wdZ ⟨capt st, [], gZ⟩ σ HZ := sr.capt hal srZ lF hb hth (on.ex1 hc)
    have hq : rd G (fun cls d _ H' => Wz cls d σZ H') (rW G) fb σ HZ Q := by
      refine ⟨wdZ, _, srL, ?_⟩
      have ht : FoS G (lamT (capt st) fb gZ) wdZ HZ Q _ := ht
      unfold lamT at ht
      cases q : fb ⟨capt st, [], gZ⟩ with
      | stuck => rw [q] at ht; exact ht.elim
      | exc x s2 =>
        rw [q] at ht
        exact fun cls d H' wd' st2 sr2 xr => ht cls d H' _ (st2.shut hal) rfl sr2.shut xr
      | ok w s2 =>
        rw [q] at ht
        simp only at ht
        intro v H' wd' st2 sr2 rv
        cases q2 : toA w s2 with
        | ok y s3 =>
          rw [q2] at ht
          obtain ⟨F', sr3, l1, n1, ry, ny⟩ := toA_ok sr2 rv q2
          have st3 : Stp wdZ HZ { wd' with F := F' } H' := st2.trans (Stp.F l1 n1)
          exact ht v H' _ ny (st3.shut hal) rfl sr3.shut (RW.same (wd := { wd' with F := F' }) (wd' := Wd.shut { wd' with F := F' }) ny rfl rfl ry)
        | exc x s3 => rw [q2] at ht; exact ht.elim
        | stuck => rw [q2] at ht; exact ht.elim
    refine PySem.W.kla_codeExpr (wpAny_mono ((hlb _ onL _ tkL).run [] _ _ HZ Q J hq) (fun v s' hq => ?_) fun e s' hq => hq)
    obtain ⟨w', H', J', rv, q⟩ := hq
    exact ⟨w', H', J'.os, J'.bare, J'.base, J'.hok, rv, q⟩
  refine wpAny_call (codeAny_mono rc fun r s' hq => ?_)
  cases r with
  | error e => exact tk e s' (XE.of_call I1 (fun _ _ _ h => h) hq)
  | ok fl =>
    cases fl with
    | ret u => exact I1.after hq
    | next => exact False.elim hq
    | brk => exact False.elim hq
    | cont => exact False.elim hq
end
end Mn
set_option Elab.async false
set_option linter.all false
set_option maxRecDepth 100000
set_option maxHeartbeats 1000000
/-! M20: x(lambda: ..). -/
namespace Mn
open PySem PySem.Spec PyProof.Rows L2 LamX
section
variable {X : Cx} {pins : List (Addr × Obj)} {σ : L2.St} {H : Hp} {s : Shared}
/-- a lambda is made; nothing that was tracked is let go -/
theorem lamMk {T : List (Addr × Str)} {c P : Addr} {params : Arguments} {body : Expr} {scope : Scope} {pos : Pos} {E : Value → Shared → Prop} {Q : Value → Shared → Prop} (I : Inv X pins σ H s) (TB : TabB X.base X.mg c P) (hcode : X.env.code = .ref c)
    (hm : (P, X.env.qual ++ "<lambda>") ∈ T) (hu : ∀ p ∈ T, p.1 = P → p.2 = X.env.qual ++ "<lambda>") (hT : Tabs T H) (hdef : defaultsOf params X.env = ([], [])) (hfree : ∀ y ∈ scope.names, y.2 = .free → ∃ c, X.env.cells.lookup y.1 = some c)
    (h : ∀ (f c' : Addr) (pm ctv : Value) (H1 : Hp) (s' : Shared), Inv X pins σ H1 s' → ExtN H H1 → Tabs T H1 → (∀ b, H1 b = none → H b = none) →
      s'.heap.get? f = some (PySem.W.kla_obj "<lambda>" (X.env.qual ++ "<lambda>") params body scope (cloFrom X.env.cells scope.names []) pm c' ctv) → H1 f = none → f ∉ frs X.stack → H1 c' = some (CodeO c' (X.env.qual ++ "<lambda>")) → Q (.ref f) s') :
    wpAny (model X.prog X.w) X.A (eval (.Lambda params body scope pos) X.env) Q E s := by
  obtain ⟨ps, hP, ht, ha⟩ := hT _ hm
  refine PySem.W.kla_eval hdef ?_
  have bdP : s.heap.BuiltinsAt X.mg P := TB.bm.keeps I.bk
  have atP0 : s.heap.get? P = some { cls := .none, data := .fields ps } := I.hok P _ hP
  have notFr : ∀ f, s.heap.objs.size ≤ f → f ∉ frs X.stack := fun f hf z => by
    rcases List.mem_cons.mp (I.stkSub _ z) with e | e
    · have h1 := I.lt
      rw [← e] at h1
      exact Nat.lt_irrefl _ (Nat.lt_of_lt_of_le h1 hf)
    · exact I.nofs hf e
  cases hc : codeAmong pos ps.toList with
  | none =>
    refine PySem.W.kla_makeFunction (mg := X.mg) (c := c) (P := P) (ps := ps) (closure_ok hfree) I.ok.glob (I.mod.glob.keeps I.bk) hcode (TB.code.keeps I.bk) atP0 ht hc TB.gP bdP fun c' ctv h' tk hx hge hlt hrec htb => ?_
    obtain ⟨c2, oc, vs, t, e2, hoc, hd, hv⟩ := hrec
    cases e2
    have hge2 : s.heap.objs.size ≤ h'.objs.size := Nat.le_trans hge (Nat.le_of_lt hlt)
    have freeC : H c' = none := I.hok.fresh hge
    have I1 := inv_table (t' := tk) (more := #[rawInt pos.line, rawInt pos.col, .ref c']) (h' := h'.push (PySem.W.kla_obj "<lambda>" (X.env.qual ++ "<lambda>") params body scope (cloFrom X.env.cells scope.names []) ((X.mg "__name__").getD .none) c' ctv)) I hP
      (fun b o hb e => Heap.get?_push_of_some _ (hx b o hb e)) (Heap.get?_push_of_some _ htb) hge ⟨oc, vs, t, Heap.get?_push_of_some _ hoc, hd, hv⟩
    have exN : ExtN H (upd (upd H P (.tbl (ps ++ #[rawInt pos.line, rawInt pos.col, .ref c']))) c' (CodeO c' (X.env.qual ++ "<lambda>"))) := fun b o e n => by
      rw [upd_ne (ne_of_none e freeC), upd_ne (fun z => n ps (Option.some.inj (e.symm.trans (by rw [z]; exact hP))))]
      exact e
    have eSnoc : (ps ++ #[rawInt pos.line, rawInt pos.col, .ref c']).toList = ps.toList ++ [rawInt pos.line, rawInt pos.col, .ref c'] := by simp
    refine h h'.objs.size c' ((X.mg "__name__").getD .none) ctv _ _ I1 exN (fun p hp => ?_) (fun b z => ?_) (Heap.get?_push_size _ rfl) ?_ (notFr _ hge2) upd_same
    · by_cases hb : p.1 = P
      · rw [hu p hp hb, hb]
        refine ⟨_, by rw [upd_ne (ne_of_none hP freeC), upd_same], by rw [eSnoc]; exact PySem.TriplesOk_snoc _ _ _ _ ht, fun p' cv hcv => ?_⟩
        rw [eSnoc] at hcv
        rcases among_app _ ht hcv with z | z
        · obtain ⟨c0, e1, e2⟩ := ha p' cv z
          exact ⟨c0, e1, exN _ _ e2 codeO_ne⟩
        · exact ⟨c', z, upd_same⟩
      · obtain ⟨ps', a1, a2, a3⟩ := hT p hp
        refine ⟨ps', by rw [upd_ne (ne_of_none a1 freeC), upd_ne hb]; exact a1, a2, fun p' cv hcv => ?_⟩
        obtain ⟨c0, e1, e2⟩ := a3 p' cv hcv
        exact ⟨c0, e1, exN _ _ e2 codeO_ne⟩
    · by_cases y : b = c'
      · subst y; exact freeC
      · rw [upd_ne y] at z
        by_cases y2 : b = P
        · subst y2; rw [upd_same] at z; cases z
        · rwa [upd_ne y2] at z
    · have n1 : h'.objs.size ≠ c' := Nat.ne_of_gt hlt
      have n2 : h'.objs.size ≠ P := Nat.ne_of_gt (Nat.lt_of_lt_of_le (Heap.lt_size atP0) hge2)
      rw [upd_ne n1, upd_ne n2]
      exact I.hok.fresh hge2
  | some cv =>
    obtain ⟨c', e, hcod⟩ := ha pos cv hc
    subst e
    refine PySem.W.kla_makeFunctionHit (mg := X.mg) (c := c) (P := P) (ps := ps) (closure_ok hfree) I.ok.glob (I.mod.glob.keeps I.bk) hcode (TB.code.keeps I.bk) atP0 ht hc bdP fun ctv h' tk hx hge2 => ?_
    have I1 : Inv X pins σ H { s with heap := h'.push (PySem.W.kla_obj "<lambda>" (X.env.qual ++ "<lambda>") params body scope (cloFrom X.env.cells scope.names []) ((X.mg "__name__").getD .none) c' ctv), toks := tk } := I.kept fun b o e => Heap.get?_push_of_some _ (hx b o e)
    exact h h'.objs.size c' ((X.mg "__name__").getD .none) ctv H _ I1 (ExtN.refl H) hT (fun _ z => z) (Heap.get?_push_size _ rfl) (I.hok.fresh hge2) (notFr _ hge2) hcod
end
/-- a def that takes a thunk, as its callers need it -/
structure DfT (G : Gx) (k : Nat) (n : Nat) (x : Str) (F : (List Cell → Fo) → List Cell → Fo) : Prop where
  ex : ∃ (pg : Arguments) (bg : List Stmt) (sg : Scope) (dV kV doc pm cdv ct oc : Value) (an od : Option Addr) (osl : Array (Option Value)) (Ng : List Str) (a : Str) (bT : (List Cell → Fo) → St),
    PySem.W.keepIn G.K (.ref (G.cn n)) = true ∧ G.K.lookup (G.cn n) = some ⟨oc, od, .func (PySem.W.fnOf x x pg bg sg dV kV doc pm an cdv ct), osl⟩ ∧ PySem.W.codeIn G.K cdv x = true ∧ Binds G.K (PySem.W.fnOf x x pg bg sg dV kV doc pm an cdv ct) [a] [] ∧ FnScope Ng [a] sg ∧ F = fnT Ng.length bT ∧
    ∀ (t : Th) (T : List Cell → Fo), t.T = T → MSs (G.wi none (some t)) (.dfn Ng sg k true x cdv) bg (bT T)
section
variable {G : Gx} {c : Cf} {n k : Nat} {x : Str} {F : (List Cell → Fo) → List Cell → Fo} {params : Arguments} {body : Expr} {scope : Scope} {p lpos pos : Pos} {f : M W}
theorem me_lam (D : DfT G (k + 1) n x F) (hth : G.th = none) (hc : c.calm = true) (hdf : c.df = true) (hk : k + 2 ≤ c.k) (hg : GlS c.sc x) (hm : G.mg x = some (.ref (G.cn n)))
    (hTB : ∃ cA P, TabB G.base G.mg cA P ∧ c.cd = .ref cA ∧ (P, c.ql ++ "<lambda>") ∈ G.T ∧ ∀ p ∈ G.T, p.1 = P → p.2 = c.ql ++ "<lambda>")
    (L : LamS c.sc scope) (hdef : ∀ env, defaultsOf params env = ([], []) := by intro _; rfl) (hbind : ∀ (q : Str) (cl : List (Str × Addr)) (pm cv ctv : Value), bindArgs (PySem.W.kla_fn "<lambda>" q params body scope cl pm cv ctv) ⟨[], []⟩ = pure [] := by intro _ _ _ _ _; rfl)
    (hlb : ME G (c.lam scope k) body f) (hdb : (x == ("__debug__" : Str)) = false := by decide) : ME G c (.Call (.Name x p) [.Lambda params body scope lpos] [] pos) (lamc F f) := fun X on Wx tk => by
  obtain ⟨pg, bg, sg, dV, kV, doc, pm, cdv, ct, oc, an, od, osl, Ng, a, bT, hkp, lk, hcg, hb, Sg, eF, hgb⟩ := D.ex
  obtain ⟨cA, P, TB, hcode, hmT, hu⟩ := hTB
  have hex := on.ex1 hc
  have eq : X.env.qual = c.ql := on.ql hdf
  have ec : X.env.code = .ref cA := (on.cd hdf).trans hcode
  have esc : X.env.scope = c.sc := on.sc
  have L' : LamS X.env.scope scope := by rw [esc]; exact L
  refine ⟨fun pins s σ H Q I h => ?_⟩
  obtain ⟨wd, st, sr, h⟩ := h
  refine wpAny_Call_Name_kw (ld_glob I (on.gl hg) (by rw [on.mg]; exact hm) ?_ hdb)
  refine PySem.W.callWith_K (h₀ := X.base) I.ok.mod.kin (by rw [on.K]; exact hkp) ?_ (by rfl) (by rfl)
  show wpAny _ _ (spliced ((false, eval (.Lambda params body scope lpos) X.env) :: backTo pos (starEach [] X.env))) _ _ s
  refine Calls.spliced_cons (lamMk (T := G.T) I (by rw [on.base, on.mg]; exact TB) ec (by rw [eq]; exact hmT) (by rw [eq]; exact hu) sr.tb.1 (hdef _) (L'.has I.ok) fun fA c' pm' ctv H1 s' I1 eN T1 dm hf hfn hfr hco => ?_)
  refine Calls.spliced_nil ⟨I1.kIn, ?_⟩
  have sr1 := sr.ext eN T1
  -- what never changes, with the code object
  obtain ⟨F1, lF, hcF, srF, nz⟩ : ∃ F1 : Hp, Le wd.F F1 ∧ F1 c' = some (CodeO c' (X.env.qual ++ "<lambda>")) ∧ SR G { wd with F := F1 } st σ H1 ∧ ∀ b, F1 b ≠ none → wd.F b = none → b = c' := by
    cases q : wd.F c' with
    | some o =>
      have e := sr1.le _ _ q
      rw [hco] at e
      cases e
      exact ⟨wd.F, Le.refl _, q, sr1, fun b h1 h2 => absurd h2 h1⟩
    | none =>
      have ne : ∀ {b : Addr} {cl : Cell}, RC G wd H1 b cl → c' ≠ b := fun {b cl} rc z => by
        subst z
        cases cl with
        | m ws => obtain ⟨vs, e, _⟩ := rc; rw [hco] at e; unfold CodeO at e; cases e
        | f ds => obtain ⟨_, vs, e⟩ := rc; rw [hco] at e; unfold CodeO at e; cases e
        | i c ws => obtain ⟨dx, fs, vs, e, _⟩ := rc; rw [hco] at e; unfold CodeO at e; cases e
      have n1 : c' ∉ wd.al := fun z => by
        obtain ⟨i, hi, e⟩ := List.mem_iff_getElem.mp z
        have hi' : i < st.l.length := by rw [← sr1.la]; exact hi
        obtain ⟨b, ea, rc⟩ := sr1.lc i st.l[i] (by simp [hi'])
        rw [List.getElem?_eq_getElem hi, e] at ea
        cases ea
        exact ne rc rfl
      have n2 : c' ∉ wd.be := fun z => by
        obtain ⟨i, hi, e⟩ := List.mem_iff_getElem.mp z
        have hi' : i < st.g.length := by rw [← sr1.lb]; exact hi
        obtain ⟨b, ea, rc⟩ := sr1.gc i st.g[i] (by simp [hi'])
        rw [List.getElem?_eq_getElem hi, e] at ea
        cases ea
        exact ne rc rfl
      exact ⟨upd wd.F c' (CodeO c' (X.env.qual ++ "<lambda>")), Le.add q, upd_same, sr1.freeze (fun ps z => codeO_ne ps z) hco n1 n2 q, fun b h1 h2 => by
        by_cases z : b = c'
        · exact z
        · rw [upd_ne z] at h1; exact absurd h2 h1⟩
  let t : Th := ⟨fA, wd.be, F1, lamT (capt st) f⟩
  have hr := (on.room hc).mono (show k + 2 ≤ c.k from hk)
  have rc : codeAny (model X.prog X.w) X.A (.call (.ref (G.cn n)) ⟨[.ref fA], []⟩) (CR (L2.CX X.prog X.w) X.stack X.prog X.w H1 s' Q (fun cls d H' => Wx cls d σ H')) s' := by
    refine run_ofS (CX := L2.CX X.prog X.w) (K := X.K) (mg := X.mg) (base := X.base) (N := Ng) (ps := [a]) (us := [.ref fA]) (vs := [.ref fA]) (by rw [on.K]; exact lk) (by rw [on.K]; exact hcg) Sg hr I1.env0 (hb s' [.ref fA] (by rw [← on.K]; exact I1.kIn) rfl) (.cons rfl .nil) rfl fun hr' => ?_
    have onZ : On (G.wi none (some t)) (.dfn Ng sg (k + 1) true x cdv) (cxOf (L2.CX X.prog X.w) X.prog X.w X.K X.mg X.base Ng x sg (G.cn n) cdv X.A X.stack s' H1 (fun cls d H' => Wx cls d σ H')) := by
      refine ⟨on.p, on.w, on.K, on.mg, on.base, rfl, Sg.nd, rfl, hr'.dp, hr'.un, on.gd, fun _ => hr'.hd, fun _ => rfl, fun _ _ => rfl, passes_of rfl, fun _ => rfl, fun _ => rfl, fun _ => rfl, fun _ => rfl, fun _ => rfl, (fun z => by cases z), fun _ t' ht' => ?_⟩
      have ht' : some t = some t' := ht'
      cases ht'
      have A := act (G := G) (c := c) (X := X) (wd := { wd with F := F1 }) (fb := f) (k := k) (Eg := fun cls d H' => Wx cls d σ H') (CXg := L2.CX X.prog X.w) (Ng := Ng) (qg := x) (sg := sg) (g := G.cn n) (cdg := cdv) on hc hth I1 srF L' hf hfn hfr hco hcF (hbind _ _ _ _ _) hr' hlb
      intro pn xe Wz tkz i y p1 p2 h1 h2 h3 h4
      refine (A pn xe Wz tkz i y p1 p2 h1 h2 h3 h4).imp fun σ2 H2 Q2 hq => ?_
      obtain ⟨e1, wd2, g2, al, srd, l2, b2, fo2⟩ := hq
      exact ⟨e1, wd2, g2, al, SR.wi0.mp srd, l2, b2, fos_wi.mp fo2⟩
    have tkZ : Takes (cxOf (L2.CX X.prog X.w) X.prog X.w X.K X.mg X.base Ng x sg (G.cn n) cdv X.A X.stack s' H1 (fun cls d H' => Wx cls d σ H')) (fun cls d _ H' => Wx cls d σ H') := takes_of rfl rfl rfl rfl
    refine ⟨_, hgb t t.T rfl _ onZ _ tkZ, ?_⟩
    have lShut : Stp wd.shut H { al := [], be := wd.be, F := F1 } H1 := ⟨⟨⟨[], by simp [Wd.shut]⟩, ⟨[], by simp [Wd.shut]⟩, lF⟩, (fun a h => by cases h), (fun a h m => absurd h m), (fun b o hb _ _ nt => eN b o hb nt), dm, fun b hb nb => by
      have e := nz b nb hb
      subst e
      refine .inl ⟨fun vs z => ?_, fun C dx fs z => ?_⟩
      · have := eN _ _ z (fun ps y => by cases y)
        rw [hco] at this; unfold CodeO at this; cases this
      · have := eN _ _ z (fun ps y => by cases y)
        rw [hco] at this; unfold CodeO at this; cases this⟩
    have srC : SR (G.wi none (some t)) { al := [], be := wd.be, F := F1 } ⟨[W.t].map some ++ List.replicate (Ng.length - [W.t].length) none, [], st.g⟩ (L2.start Ng [.ref fA]) H1 :=
      SR.enter (SR.wi0.mpr srF.shut) (.cons ⟨t, rfl, rfl, Le.refl _, [], (List.append_nil _).symm⟩ .nil)
    refine ⟨_, _, srC, ?_⟩
    have h : Rs G Wx (rW G) (match fo (bT t.T ⟨[W.t].map some ++ List.replicate (Ng.length - [W.t].length) none, [], st.g⟩) with | .ok w g => .ok w { st with g := g } | .exc x g => .exc x { st with g := g } | .stuck => .stuck) wd σ H Q := by
      rw [eF] at h; exact h
    cases q : bT t.T ⟨[W.t].map some ++ List.replicate (Ng.length - [W.t].length) none, [], st.g⟩ with
    | stuck => rw [q] at h; exact h.elim
    | exc y s2 =>
      rw [q] at h
      intro cls d σ2 H2 wd2 st2 sr2 xr
      obtain ⟨st3, sr3⟩ := sr.after (lShut.trans (st2.shut rfl)) rfl (SR.wi0.mp sr2.shut)
      exact h cls d H2 _ st3 sr3 (xr_wi.mp xr)
    | ok fl s2 =>
      rw [q] at h
      cases fl with
      | bk => exact h.elim
      | ct => exact h.elim
      | nx =>
        intro σ2 H2 wd2 st2 sr2
        obtain ⟨st3, sr3⟩ := sr.after (lShut.trans (st2.shut rfl)) rfl (SR.wi0.mp sr2.shut)
        exact h .non H2 _ st3 sr3 (by show RD G (wd.back wd2.shut).F .non .non; simp only [RD])
      | rt w =>
        intro v σ2 H2 wd2 st2 sr2 rv
        have h : Rs G Wx (rW G) (match (match toA w s2 with | .ok v s1 => Fo.ok v s1.g | _ => .stuck) with | .ok w g => .ok w { st with g := g } | .exc x g => .exc x { st with g := g } | .stuck => .stuck) wd σ H Q := h
        cases q2 : toA w s2 with
        | stuck => rw [q2] at h; exact h.elim
        | exc z s3 => rw [q2] at h; exact h.elim
        | ok y s3 =>
          rw [q2] at h
          obtain ⟨F', sr3, l1, n1, ry, ny⟩ := toA_ok sr2 rv q2
          have st3 := st2.trans (Stp.F l1 n1)
          obtain ⟨st4, sr4⟩ := sr.after (lShut.trans (st3.shut rfl)) rfl (SR.wi0.mp sr3.shut)
          have ry' : RW G { wd2 with F := F' } y v := (rw_wi (a := false) (fun z => by cases z) (by have := noL_ok (a := false) ny; simpa using this)).mp ry
          exact h v H2 _ st4 sr4 (RW.same (wd := { wd2 with F := F' }) (wd' := Wd.back wd (Wd.shut { wd2 with F := F' })) ny rfl rfl ry')
  refine wpAny_call (codeAny_mono rc fun r s2 hq => ?_)
  cases r with
  | error e => exact tk e s2 (XE.of_call I1 (fun _ _ _ h => h) hq)
  | ok fl =>
    cases fl with
    | ret u => exact I1.after hq
    | next => exact False.elim hq
    | brk => exact False.elim hq
    | cont => exact False.elim hq
end
end Mn
set_option Elab.async false
set_option linter.all false
set_option maxRecDepth 100000
set_option maxHeartbeats 2000000
/-! M21: the end. -/
namespace Mn
open PySem PySem.Spec PyProof.Rows L2 LamX
/-- the law is called -/
theorem callG {P : Program} {w : World} {K : PySem.W.Frag} {mg mb : Str → Option Value} {T : List (Addr × Str)} {cn : Nat → Addr} {fl : Nat → List Str} {k : Nat} {fa a : Addr} {cs : List (Addr × Addr)} {fd : FuncData} {x : Str} {sp : Heap → Sp} {s₁ : Shared} {vs : List Value} {ns : List Int}
    (kIn : K.In s₁.heap) (nsG : s₁.heap.Ns mainGlobals mg) (hb : s₁.heap.Ns builtinsNs mb) (blt : ∀ x : Str, x ≠ "__name__" → mb x = bootBuiltins x) (lim : s₁.heap.NoLimit) (hg : s₁.gens = #[])
    (tabs0 : ∀ t ∈ cs, s₁.heap.get? t.2 = some { cls := .none, data := .fields #[] }) (tabsOut : ∀ t ∈ cs, K.lookup t.2 = none) (heads : ∀ t ∈ cs, PySem.W.CodeHd s₁.heap t.1 t.2)
    (bmain : ∃ (bAd : Addr) (bOb : Obj), mg "__builtins__" = some (.ref bAd) ∧ bAd ≠ builtinsNs ∧ s₁.heap.get? bAd = some bOb ∧ bOb.cls = .type "module" ∧ bOb.dict = some builtinsNs ∧ bOb.data = .plain)
    (atA : s₁.heap.get? a = some { cls := .type "list", data := .seq vs.toArray }) (hInts : IntsAre vs ns) (len0 : ns.length ≤ sizeLine) (room : Room k callerA)
    (F : ∀ base : Heap, K.In base → base.Ns mainGlobals mg → (∀ t ∈ cs, TabB base mg t.1 t.2) → FnG { P := P, w := w, K := K, mg := mg, base := base, T := T, cn := cn, fl := fl } k fa fd [x] (sp base)) (hBinds : ∀ (s : Shared) (u : Value), BindsTo s fd ⟨[u], []⟩ [(x, u)])
    (hSays : ∀ (base : Heap) (H : Hp), (∀ t ∈ cs, H t.2 = some (.tbl #[])) → SqL K H a (ns.map V.int) → sp base [.ref a] H (fun v _ => v = .bl true) fun _ _ _ => False) :
    codeAny (model P w) callerA (.call (.ref fa) ⟨[.ref a], []⟩) (fun r s' => r = .ok (.ret (.bool true)) ∧ OldK s₁.heap s'.heap ∧ s'.os = s₁.os ∧ AllBare s'.gens) s₁ := by
  have vals := vals_ints hInts
  have lens := hInts.length
  have atTab : ∀ b : Addr, b ∈ cs.map (·.2) → s₁.heap.get? b = some { cls := .none, data := .fields #[] } := fun b hb => by
    obtain ⟨t, hq, e⟩ := List.mem_map.mp hb
    rw [← e]
    exact tabs0 t hq
  have offTab : a ∉ cs.map (·.2) := fun z => by
    have q := atTab a z
    rw [atA] at q
    have z' : Data.seq vs.toArray _ = Data.fields #[] := congrArg Obj.data (Option.some.inj q)
    cases z'
  have inTab : ∀ t ∈ cs, t.2 ∈ cs.map (·.2) := fun t hq => List.mem_map.mpr ⟨t, hq, rfl⟩
  -- from an abstract heap in which nothing but the script and the tables may be tracked
  have main_ : ∀ H : Hp, (∀ t ∈ cs, H t.2 = some (.tbl #[])) → (∀ b, H b = none ∨ b ∈ cs.map (·.2) ∨ ∃ o xs, H b = some (.frz o (.lst xs))) → SqL K H a (ns.map V.int) → HOk P w H s₁.heap → (∀ b, H b ≠ none → b = a ∨ b ∈ cs.map (·.2)) → (H a ≠ none → K.lookup a = none) →
      codeAny (model P w) callerA (.call (.ref fa) ⟨[.ref a], []⟩) (fun r s' => r = .ok (.ret (.bool true)) ∧ OldK s₁.heap s'.heap ∧ s'.os = s₁.os ∧ AllBare s'.gens) s₁ := by
    intro H tabsH onlyH seqA okH whereH outK
    have below : ∀ {b : Addr} {o : Obj}, s₁.heap.get? b = some o → H b = none → (hidT s₁.heap H).get? b = some o := fun e n => hidT_get e n
    have noData : ∀ {b : Addr} {o : Obj}, s₁.heap.get? b = some o → (∀ vs n, o.data ≠ .seq vs n) → o.data ≠ .fields #[] → H b = none := fun {b o} e h1 h2 => by
      cases q : H b with
      | none => rfl
      | some u =>
        rcases whereH b (by rw [q]; simp) with e' | e'
        · rw [e', atA] at e
          cases e
          exact (h1 _ _ rfl).elim
        · rw [atTab b e'] at e
          cases e
          exact (h2 rfl).elim
    have noDict : ∀ {b : Addr} {o : Obj} {es : Array DictEntry} {ep : Nat}, s₁.heap.get? b = some o → o.data = .dict es ep → H b = none := fun {b o es ep} e d => by
      refine noData e (fun vs n z => ?_) fun z => ?_
      · rw [d] at z
        cases z
      · rw [d] at z
        cases z
    have nsDown : ∀ {b : Addr} {m : Str → Option Value}, s₁.heap.Ns b m → (hidT s₁.heap H).Ns b m := fun {b m} ⟨o, es, ep, e, d, r⟩ => ⟨o, es, ep, below e (noDict e d), d, r⟩
    have kDown : K.In (hidT s₁.heap H) := fun b o e => below (kIn b o e) (by
      cases q : H b with
      | none => rfl
      | some u =>
        rcases whereH b (by rw [q]; simp) with e' | e'
        · rw [e'] at e q
          rw [outK (by rw [q]; simp)] at e
          cases e
        · obtain ⟨t, hq, ep⟩ := List.mem_map.mp e'
          rw [← ep, tabsOut t hq] at e
          cases e)
    have modD : L2.Mod K mg (hidT s₁.heap H) := ⟨kDown, nsDown nsG, ⟨mb, nsDown hb, blt⟩, let ⟨mc, h1, h2⟩ := lim; ⟨mc, nsDown h1, h2⟩⟩
    have tabD : ∀ t ∈ cs, TabB (hidT s₁.heap H) mg t.1 t.2 := fun t hq => by
      have atP := tabs0 t hq
      refine ⟨?_, ?_, fun z => ?_⟩
      · obtain ⟨o, us, file, tf, flags, tg, inF, text, tt, e1, r1, r2, r3, r4, r5, r6, r7, r8, hne⟩ := heads t hq
        refine ⟨o, us, file, tf, flags, tg, inF, text, tt, below e1 (noData e1 (fun vs n z => ?_) fun z => ?_), r1, r2, r3, r4, r5, r6, r7, r8, hne⟩
        · rw [r2] at z
          cases z
        · rw [r2] at z
          cases z
          simp at r3
      · obtain ⟨bAd, bOb, b1, b2, b3, b4, b5, b6⟩ := bmain
        have neG : bAd ≠ mainGlobals := fun q => by
          obtain ⟨o, es, ep, e, hd, _⟩ := nsG
          rw [q, e] at b3
          cases b3
          rw [hd] at b6
          cases b6
        have neP : bAd ≠ t.2 := fun q => by
          rw [q, atP] at b3
          cases b3
          cases b6
        refine ⟨bAd, bOb, b1, b2, neG, neP, below b3 (noData b3 (fun vs n z => ?_) fun z => ?_), b4, b5, b6⟩
        · rw [b6] at z
          cases z
        · rw [b6] at z
          cases z
      · obtain ⟨o, es, ep, e, hd, _⟩ := nsG
        rw [z, atP] at e
        cases e
        cases hd
    have entry : Env0 P w K mg (hidT s₁.heap H) callerA [] s₁ H := ⟨rfl, modD, fun b o e => of_hidT e, Nat.le_of_eq (hidT_size _ _), trivial, fun b hb => absurd (show b ∈ ([] : List Addr) from hb) (by simp), okH, .of_eq hg⟩
    refine codeAny_mono ((F _ kDown (nsDown nsG) tabD).run callerA [] s₁ H ⟨[.ref a], []⟩ [.ref a] [.ref a] _ _ room rfl entry (hBinds s₁ (.ref a)) (.cons rfl .nil) (hSays _ H tabsH seqA)) fun r s' h => ?_
    cases r with
    | error e =>
      obtain ⟨_, _, _, _, _, _, _, _, _, _, _, _, z⟩ := (show L2.CX _ _ [] H s₁ (fun _ _ _ => False) e s' from h)
      exact z.elim
    | ok fl =>
      cases fl with
      | next => exact False.elim h
      | brk => exact False.elim h
      | cont => exact False.elim h
      | ret u =>
        obtain ⟨v, H', os, bare, un, hok', r', q⟩ := h
        have q' : v = .bl true := q
        subst q'
        obtain rfl : u = Value.bool true := r'
        have keep_ : ∀ b o, b ∉ cs.map (·.2) → s₁.heap.get? b = some o → s'.heap.get? b = some o := fun b o nb e => by
          cases q : H b with
          | none => exact un.keep b o e q (by intro z; exact absurd (show b ∈ ([] : List Addr) from z) (by simp)) (by simp)
          | some u =>
            rcases onlyH b with z | z | ⟨bOb, xs, z⟩
            · rw [q] at z; cases z
            · exact absurd z nb
            · have z2 := un.frzs b bOb _ z
              obtain ⟨e1, _⟩ := okH b _ z
              obtain ⟨e2, _⟩ := hok' b _ z2
              rw [e] at e1; cases e1
              exact e2
        have more_ : ∀ t ∈ cs, ∃ more : Array Value, s'.heap.get? t.2 = some { cls := .none, data := .fields more } := fun t hq => by
          obtain ⟨more, z⟩ := un.tbls t.2 #[] (tabsH t hq)
          exact ⟨_, hok' t.2 _ z⟩
        refine ⟨rfl, ⟨fun b o e => ?_, fun b o e => ?_⟩, os, bare⟩
        · by_cases hb : b ∈ cs.map (·.2)
          · obtain ⟨t, hq, ep⟩ := List.mem_map.mp hb
            obtain ⟨more, hm⟩ := more_ t hq
            rw [← ep] at e ⊢
            rw [tabs0 t hq] at e
            cases e
            exact .inr (.inl ⟨((heads t hq).tab (tabs0 t hq)).isCodeTable, rfl, #[], more, rfl, by rw [Array.empty_append]; exact hm⟩)
          · exact .inl (keep_ b o hb e)
        · by_cases hb : b ∈ cs.map (·.2)
          · obtain ⟨t, hq, ep⟩ := List.mem_map.mp hb
            obtain ⟨more, hm⟩ := more_ t hq
            rw [← ep]
            exact ⟨_, hm⟩
          · exact ⟨o, keep_ b o hb e⟩
  cases hk : K.lookup a with
  | some o =>
    have e := kIn a o hk
    rw [atA] at e
    cases e
    refine main_ (fun b => if b ∈ cs.map (·.2) then some (.tbl #[]) else none) (fun t hq => if_pos (inTab t hq)) (fun b => ?_) (.inr ⟨_, vs.toArray, _, hk, rfl, rfl, rfl, by rw [List.size_toArray, lens]; exact len0, by simpa using vals⟩) (fun b u z => ?_) (fun b z => ?_) fun z => absurd (show (if a ∈ cs.map (·.2) then some (HO.tbl #[]) else none) = none from if_neg offTab) z
    · by_cases hb : b ∈ cs.map (·.2)
      · exact .inr (.inl hb)
      · exact .inl (if_neg hb)
    · by_cases hb : b ∈ cs.map (·.2)
      · have z' := (if_pos hb).symm.trans z
        cases z'
        exact atTab b hb
      · have z' := (if_neg hb).symm.trans z
        cases z'
    · by_cases hb : b ∈ cs.map (·.2)
      · exact .inr hb
      · exact absurd (if_neg hb) z
  | none =>
    refine main_ (fun b => if b = a then some (.frz { cls := .type "list", data := .seq vs.toArray } (.lst (ns.map V.int))) else if b ∈ cs.map (·.2) then some (.tbl #[]) else none) (fun t hq => (if_neg (show ¬ t.2 = a from fun z => offTab (by rw [← z]; exact inTab t hq))).trans (if_pos (inTab t hq))) (fun b => ?_)
      (.inl (.inr ⟨{ cls := .type "list", data := .seq vs.toArray }, if_pos rfl⟩)) (fun b u z => ?_) (fun b z => ?_) fun _ => hk
    · by_cases hb : b = a
      · exact .inr (.inr ⟨_, _, if_pos hb⟩)
      · by_cases hb2 : b ∈ cs.map (·.2)
        · exact .inr (.inl hb2)
        · exact .inl ((if_neg hb).trans (if_neg hb2))
    · by_cases hb : b = a
      · have z' := (if_pos hb).symm.trans z
        cases z'
        rw [hb]
        exact ⟨atA, by rw [List.length_map]; exact len0, vs, _, vals, atA⟩
      · have z1 := (if_neg hb).symm.trans z
        by_cases hb2 : b ∈ cs.map (·.2)
        · have z' := (if_pos hb2).symm.trans z1
          cases z'
          exact atTab b hb2
        · have z' := (if_neg hb2).symm.trans z1
          cases z'
    · by_cases hb : b = a
      · exact .inl hb
      · by_cases hb2 : b ∈ cs.map (·.2)
        · exact .inr hb2
        · exact absurd ((if_neg hb).trans (if_neg hb2)) z
/-- what is asked of the law at the heap behind the top -/
def LawG (l : PySem.W.OpenLaw) (w : World) (K : PySem.W.Frag) (k n : Nat) (x : Str) (mg : Str → Option Value) (fa : Addr) (h : Heap) : Prop :=
  ∃ (fd : FuncData) (cs : List (Addr × Addr)) (T : List (Addr × Str)) (cn : Nat → Addr) (fl : Nat → List Str) (F : Fn), (∀ p ∈ cs, h.get? p.2 = some { cls := .none, data := .fields #[] }) ∧ (∀ p ∈ cs, K.lookup p.2 = none) ∧ (∀ p ∈ cs, PySem.W.CodeHd h p.1 p.2) ∧
    (∀ (s : Shared) (u : Value), BindsTo s fd ⟨[u], []⟩ [(x, u)]) ∧ (∀ p ∈ T, ∃ q ∈ cs, p.1 = q.2) ∧
    (∀ ns : List Int, ns.length ≤ n → (∀ z ∈ ns, Builtin.Int.intBits z ≤ 1048576) → ∃ g, F [.d (.lst (ns.map D.int))] [] = .ok (.d (.bl true)) g) ∧
    ∀ base : Heap, K.In base → base.Ns mainGlobals mg → (∀ p ∈ cs, TabB base mg p.1 p.2) → FnG { P := l.prog, w := w, K := K, mg := mg, base := base, T := T, cn := cn, fl := fl } k fa fd [x] (spF { P := l.prog, w := w, K := K, mg := mg, base := base, T := T, cn := cn, fl := fl } 1 F)
theorem rds_ints {G : Gx} {F : Hp} : ∀ ns : List Int, RDs G F (ns.map D.int) (ns.map V.int)
  | [] => by simp only [List.map_nil, RDs]
  | n :: ns => by
    simp only [List.map_cons, RDs]
    exact ⟨.int n, _, rfl, by simp only [RD], rds_ints ns⟩
def cutT (H : Hp) : Hp := fun b => match H b with | some (.tbl _) => none | o => o
theorem cutT_le (H : Hp) : Le (cutT H) H := fun b o e => by
  unfold cutT at e
  split at e
  · cases e
  · exact e
theorem cutT_nt (H : Hp) : NT (cutT H) := fun b ps e => by
  unfold cutT at e
  split at e
  · cases e
  · rename_i q
    exact q ps e
theorem cutT_rd {H : Hp} {a : Addr} {u : HO} (hu : ∀ ps, u ≠ .tbl ps) (h : Rd H a u) : Rd (cutT H) a u := by
  rcases h with h | ⟨o, h⟩
  · refine .inl ?_
    unfold cutT
    rw [h]
    split
    · rename_i q; cases q; exact absurd rfl (hu _)
    · rfl
  · refine .inr ⟨o, ?_⟩
    unfold cutT
    rw [h]
theorem law_start {G : Gx} {F : Fn} {cs : List (Addr × Addr)} {a : Addr} {ns : List Int} {H : Hp} (hT : ∀ p ∈ G.T, ∃ q ∈ cs, p.1 = q.2) (h1 : ∀ p ∈ cs, H p.2 = some (.tbl #[])) (h2 : SqL G.K H a (ns.map V.int)) (hF : ∃ g, F [.d (.lst (ns.map D.int))] [] = .ok (.d (.bl true)) g) :
    spF G 1 F [.ref a] H (fun v _ => v = .bl true) (fun _ _ _ => False) := by
  obtain ⟨g, e⟩ := hF
  refine ⟨⟨[], [], cutT H⟩, [.d (.lst (ns.map D.int))], [], rfl, ⟨cutT_le H, rfl, fun i w z => by simp at z, rfl, rfl, by simp, fun n c z => by simp at z, fun n c z => by simp at z, fun n c z => by simp at z, fun p hp => ?_, cutT_nt H⟩, ?_, rfl, rfl, ?_⟩
  · obtain ⟨q, hq, e⟩ := hT p hp
    rw [e]
    exact TabS.nil (h1 q hq)
  · refine .cons ?_ .nil
    show RD G (cutT H) (.lst (ns.map D.int)) (.ref a)
    simp only [RD]
    exact ⟨a, ns.map V.int, rfl, h2.imp (cutT_rd (fun ps z => by cases z)) id, rds_ints ns⟩
  · rw [e]
    intro v H' wd' _ st _ _ r
    have r : RD G wd'.F (.bl true) v := r
    simpa only [RD] using r
theorem walkG {l : PySem.W.OpenLaw} {n k : Nat} {q : Program} {loose : List Str} {XP : (Str → Option Value) → Heap → Prop} {YP : World → Heap → Prop} {d : DefRec} {x : Str}
    (hn : l.most = some n) (hn2 : n ≤ sizeLine) (hdf : d.params.defaults = []) (hr : Room k callerA)
    (F : ∀ (w : World) (mg : Str → Option Value) (fa : Addr) (h : Heap), YP w h → h.Ns mainGlobals mg → mg d.name = some (.ref fa) → ∃ K : PySem.W.Frag, K.In h ∧ LawG l w K k n x mg fa h) :
    PySem.W.WalkO q loose XP YP l.row.toRowW d [] (fun f vs => PySem.call f vs) := by
  refine Att.attach_callB hn hdf fun w s₀ s₁ mg mb fa o pm cd doc a vs ns G Y ho hd hcd hmg hobj hints hlen hbits hg => ?_
  obtain ⟨K, kIn, fd, cs, T, cn, fl, FF, hT, nT, hC, hb, hTc, hF, hG⟩ := F w mg fa _ Y G.T.g hmg
  exact callG kIn G.T.g G.T.b G.T.builtins G.T.nolimit hg hT nT hC G.T.bmain hobj hints (Nat.le_trans hlen hn2) hr hG hb (sp := fun base => spF { P := l.prog, w := w, K := K, mg := mg, base := base, T := T, cn := cn, fl := fl } 1 FF) (fun base H hH hS => law_start (G := { P := l.prog, w := w, K := K, mg := mg, base := base, T := T, cn := cn, fl := fl }) hTc hH hS (hF ns hlen hbits))
end Mn
set_option Elab.async false
set_option linter.all false
set_option maxRecDepth 100000
set_option maxHeartbeats 1000000
/-! M22: operators. -/
namespace Mn
open PySem PySem.Spec PyProof.Rows L2
/-! ### the plain operations -/
def addD : D → D → Option D
  | .int i, .int j => some (.int (i + j))
  | .tup xs, .tup ys => if xs.length + ys.length ≤ 16777216 then some (.tup (xs ++ ys)) else none
  | .str x, .str y => if x.length + y.length ≤ 16777216 then some (.str (x ++ y)) else none
  | _, _ => none
def subD : D → D → Option D
  | .int i, .int j => some (.int (i - j))
  | _, _ => none
def few (i : Int) : Bool := decide (-(2 ^ 64) < i) && decide (i < 2 ^ 64)
def reps {α : Type} (xs : List α) : Nat → List α
  | 0 => []
  | n + 1 => xs ++ reps xs n
def mulD : D → D → Option D
  | .int i, .int j => if (few i || few j) = true then some (.int (i * j)) else none
  | .tup xs, .int k => if xs = [] then none else if (decide (-1000 ≤ k) && decide (k ≤ 1000)) = true then (if xs.length ≤ 1000 then some (.tup (reps xs k.toNat)) else none) else none
  | _, _ => none
def fdivD : D → D → Option D
  | .int i, .int j => if 0 < j then (if j < 1073741824 then some (.int (i / j)) else none) else none
  | _, _ => none
def modD : D → D → Option D
  | .int i, .int j => if 0 < j then some (.int (i % j)) else none
  | _, _ => none
def powD : D → D → Option D
  | .int i, .int j => if (decide (0 ≤ j) && decide (j ≤ 1000000) && decide (i.natAbs < 2 ^ 64)) = true then some (.int (i ^ j.toNat)) else none
  | _, _ => none
def ltD : D → D → Option D
  | .int i, .int j => some (.bl (decide (i < j)))
  | _, _ => none
def leD : D → D → Option D
  | .int i, .int j => some (.bl (decide (i ≤ j)))
  | _, _ => none
def gtD : D → D → Option D
  | .int i, .int j => some (.bl (decide (j < i)))
  | _, _ => none
def geD : D → D → Option D
  | .int i, .int j => some (.bl (decide (j ≤ i)))
  | _, _ => none
mutual
def toP : D → Option PyData
  | .non => some .none
  | .bl b => some (.bool b)
  | .int i => some (.int i)
  | .str x => some (.str x)
  | .tup xs => match toPs xs with | some ds => some (.tuple ds) | none => none
  | .tun xs => match toPs xs with | some ds => some (.tuple ds) | none => none
  | .lst xs => match toPs xs with | some ds => some (.list ds) | none => none
  | _ => none
def toPs : List D → Option (List PyData)
  | [] => some []
  | x :: xs => match toP x with | some d => (match toPs xs with | some ds => some (d :: ds) | none => none) | none => none
end
def eqD0 (x y : D) : Option D := match toP x with
  | some d => match toP y with
    | some e => if (SeqAt.shaped d && SeqAt.shaped e) = true then some (.bl (PyData.eqv d e)) else none
    | none => none
  | none => none
def neD0 (x y : D) : Option D := match toP x with
  | some d => match toP y with
    | some e => if (SeqAt.shaped d && SeqAt.shaped e) = true then some (.bl (!PyData.eqv d e)) else none
    | none => none
  | none => none
def isNone : D → Bool
  | .non => true
  | _ => false
def isN (x y : D) : Option D := match y with | .non => some (.bl (isNone x)) | _ => none
def notN (x y : D) : Option D := match y with | .non => some (.bl (!isNone x)) | _ => none
def catL : D → D → Option (List D)
  | .lst xs, .lst ys => if xs.length + ys.length ≤ 16777216 then some (xs ++ ys) else none
  | _, _ => none
def negD : D → Option D
  | .int i => some (.int (-i))
  | _ => none
/-! ### they are what the readings say -/
section
variable {X : Cx} {G : Gx}
theorem opr_or {f : Value → Value → Sem Value} {r r' : R2} (h : OpR X f r) (h' : OpR X f r') : OpR X f (fun x y H Q => r x y H Q ∨ r' x y H Q) := fun pins s σ H x y v u Q I rx ry q =>
  q.elim (fun q => h pins s σ H x y v u Q I rx ry q) fun q => h' pins s σ H x y v u Q I rx ry q
theorem call_or {f : Value} {r r' : List V → Hp → VK → Prop} (h : CallR X f r) (h' : CallR X f r') : CallR X f (fun xs H Q => r xs H Q ∨ r' xs H Q) := fun pins s σ H xs us Q I rx q =>
  q.elim (fun q => h pins s σ H xs us Q I rx q) fun q => h' pins s σ H xs us Q I rx q
theorem pr_int {F H : Hp} {i : Int} {v : V} (h : PR G F H (.int i) v) : v = .int i := by
  have h : RD G F (.int i) v := h
  simpa only [RD] using h
theorem pr_bl {F H : Hp} {i : Bool} {v : V} (h : PR G F H (.bl i) v) : v = .bl i := by
  have h : RD G F (.bl i) v := h
  simpa only [RD] using h
theorem pr_non {F H : Hp} {v : V} (h : PR G F H .non v) : v = .non := by
  have h : RD G F .non v := h
  simpa only [RD] using h
theorem pr_str {F H : Hp} {x : Str} {v : V} (h : PR G F H (.str x) v) : v = .str x := by
  have h : RD G F (.str x) v := h
  simpa only [RD] using h
theorem pr_tup {F H : Hp} {xs : List D} {v : V} (h : PR G F H (.tup xs) v) : ∃ a vs, v = .ref a ∧ SqT G.K F a vs ∧ RDs G F xs vs := by
  have h : RD G F (.tup xs) v := h
  simpa only [RD] using h
theorem rd_int {F : Hp} {i : Int} : RD G F (.int i) (.int i) := by simp only [RD]
theorem rd_bl {F : Hp} {i : Bool} : RD G F (.bl i) (.bl i) := by simp only [RD]
theorem rd_str {F : Hp} {x : Str} : RD G F (.str x) (.str x) := by simp only [RD]
/-- a new tuple -/
theorem new_tup {F H : Hp} {zs : List D} {us : List V} {Q : VK} (l : Le F H) (r : RDs G F zs us) (hq : ∀ v F' H', New F H F' H' → RD G F' (.tup zs) v → Q v H') : ∀ p, H p = none → Q (.ref p) (upd H p (.tup us)) := fun p hp =>
  hq (.ref p) _ _ (New.one l hp) (by simp only [RD]; exact ⟨p, us, rfl, SqT.of upd_same, RDs.mono (Le.new (l.no hp)) _ _ r⟩)
def rAddS : R2 := fun x y H Q => ∃ i j, x = .str i ∧ y = .str j ∧ i.length + j.length ≤ sizeLine ∧ Q (.str (i ++ j)) H
def rPlus (K : PySem.W.Frag) : R2 := fun x y H Q => rI0 (fun i j => .int (i + j)) x y H Q ∨ (rCatA K x y H Q ∨ rAddS x y H Q)
theorem opr_plus : OpR X (binaryOp .Add) (rPlus X.K) := opr_or op_add (opr_or op_catA op_add_str)
theorem rds_nil {F : Hp} {xs : List D} (h : RDs G F xs []) : xs = [] := by
  have := h.length
  exact List.eq_nil_of_length_eq_zero this.symm
theorem ops_add : OpS G (rPlus G.K) addD := fun F H x y z vx vy Q l hx hy e hq => by
  cases x with
  | int i =>
    cases y with
    | int j => cases e; rw [pr_int hx, pr_int hy]; exact .inl ⟨i, j, rfl, rfl, hq _ F H (New.refl l) rd_int⟩
    | _ => cases e
  | tup xs =>
    cases y with
    | tup ys =>
      simp only [addD] at e
      split at e
      · rename_i hl
        cases e
        obtain ⟨a, vs, rfl, s1, r1⟩ := pr_tup hx
        obtain ⟨b, us, rfl, s2, r2⟩ := pr_tup hy
        refine .inr (.inl ⟨a, b, vs, us, rfl, rfl, l.sqT s1, l.sqT s2, by rw [r1.length, r2.length]; exact hl, fun z => ?_, fun _ z => ?_, fun _ _ => new_tup l (r1.append r2) hq⟩)
        · subst z
          rw [rds_nil r1] at hq
          exact hq _ F H (New.refl l) (by simp only [RD]; exact ⟨b, us, rfl, s2, r2⟩)
        · subst z
          rw [rds_nil r2, List.append_nil] at hq
          exact hq _ F H (New.refl l) (by simp only [RD]; exact ⟨a, vs, rfl, s1, r1⟩)
      · cases e
    | _ => cases e
  | str a =>
    cases y with
    | str b =>
      simp only [addD] at e
      split at e
      · rename_i hl
        cases e
        rw [pr_str hx, pr_str hy]
        exact .inr (.inr ⟨a, b, rfl, rfl, hl, hq _ F H (New.refl l) rd_str⟩)
      · cases e
    | _ => cases e
  | _ => cases e
theorem ops_sub : OpS G (L2.rI0 fun i j => .int (i - j)) subD := fun F H x y z vx vy Q l hx hy e hq => by
  cases x <;> try cases e
  cases y <;> try cases e
  rw [pr_int hx, pr_int hy]
  exact ⟨_, _, rfl, rfl, hq _ F H (New.refl l) rd_int⟩
theorem few_ok {i j : Int} (h : (few i || few j) = true) : CMul i j := by
  unfold few at h
  simp only [Bool.or_eq_true, Bool.and_eq_true, decide_eq_true_eq] at h
  exact h
theorem ops_fdiv : OpS G (L2.rI CDiv fun i j => .int (i / j)) fdivD := fun F H x y z vx vy Q l hx hy e hq => by
  cases x <;> try cases e
  cases y <;> try cases e
  rename_i i j
  simp only [fdivD] at e
  split at e
  · rename_i h1
    split at e
    · rename_i h2
      cases e
      rw [pr_int hx, pr_int hy]
      exact ⟨i, j, rfl, rfl, ⟨h1, h2⟩, hq _ F H (New.refl l) rd_int⟩
    · cases e
  · cases e
theorem ops_mod : OpS G (L2.rI (fun _ j => 0 < j) fun i j => .int (i % j)) modD := fun F H x y z vx vy Q l hx hy e hq => by
  cases x <;> try cases e
  cases y <;> try cases e
  rename_i i j
  simp only [modD] at e
  split at e
  · rename_i h1
    cases e
    rw [pr_int hx, pr_int hy]
    exact ⟨i, j, rfl, rfl, h1, hq _ F H (New.refl l) rd_int⟩
  · cases e
theorem ops_pow : OpS G (L2.rI CPow fun i j => .int (i ^ j.toNat)) powD := fun F H x y z vx vy Q l hx hy e hq => by
  cases x <;> try cases e
  cases y <;> try cases e
  rename_i i j
  simp only [powD] at e
  split at e
  · rename_i h1
    cases e
    rw [pr_int hx, pr_int hy]
    simp only [Bool.and_eq_true, decide_eq_true_eq] at h1
    exact ⟨i, j, rfl, rfl, ⟨h1.1.1, h1.1.2, h1.2⟩, hq _ F H (New.refl l) rd_int⟩
  · cases e
theorem ops_lt : OpS G (L2.rI0 fun i j => .bl (decide (i < j))) ltD := fun F H x y z vx vy Q l hx hy e hq => by
  cases x <;> try cases e
  cases y <;> try cases e
  rw [pr_int hx, pr_int hy]
  exact ⟨_, _, rfl, rfl, hq _ F H (New.refl l) rd_bl⟩
theorem ops_le : OpS G (L2.rI0 fun i j => .bl (decide (i ≤ j))) leD := fun F H x y z vx vy Q l hx hy e hq => by
  cases x <;> try cases e
  cases y <;> try cases e
  rw [pr_int hx, pr_int hy]
  exact ⟨_, _, rfl, rfl, hq _ F H (New.refl l) rd_bl⟩
theorem ops_gt : OpS G (L2.rI0 fun i j => .bl (decide (j < i))) gtD := fun F H x y z vx vy Q l hx hy e hq => by
  cases x <;> try cases e
  cases y <;> try cases e
  rw [pr_int hx, pr_int hy]
  exact ⟨_, _, rfl, rfl, hq _ F H (New.refl l) rd_bl⟩
theorem ops_ge : OpS G (L2.rI0 fun i j => .bl (decide (j ≤ i))) geD := fun F H x y z vx vy Q l hx hy e hq => by
  cases x <;> try cases e
  cases y <;> try cases e
  rw [pr_int hx, pr_int hy]
  exact ⟨_, _, rfl, rfl, hq _ F H (New.refl l) rd_bl⟩
mutual
theorem dp_rd {F H : Hp} (l : Le F H) : ∀ (x : D) (d : PyData) (v : V), toP x = some d → RD G F x v → Dp G.K H v d
  | .non, d, v, e, h => by simp only [toP] at e; cases e; simp only [RD] at h; subst h; exact .non
  | .bl b, d, v, e, h => by simp only [toP] at e; cases e; simp only [RD] at h; subst h; exact .bl b
  | .int i, d, v, e, h => by simp only [toP] at e; cases e; simp only [RD] at h; subst h; exact .int i
  | .str x, d, v, e, h => by simp only [toP] at e; cases e; simp only [RD] at h; subst h; exact .str x
  | .tup xs, d, v, e, h => by
    simp only [toP] at e
    cases q : toPs xs with
    | none => rw [q] at e; cases e
    | some ds =>
      rw [q] at e; cases e
      simp only [RD] at h
      obtain ⟨a, vs, rfl, s, r⟩ := h
      exact .tup (l.sqT s) (dps_rd l xs ds vs q r)
  | .lst xs, d, v, e, h => by
    simp only [toP] at e
    cases q : toPs xs with
    | none => rw [q] at e; cases e
    | some ds =>
      rw [q] at e; cases e
      simp only [RD] at h
      obtain ⟨a, vs, rfl, s, r⟩ := h
      exact .lst (l.sqL s) (dps_rd l xs ds vs q r)
  | .tun xs, d, v, e, h => by
    simp only [toP] at e
    cases q : toPs xs with
    | none => rw [q] at e; cases e
    | some ds =>
      rw [q] at e; cases e
      simp only [RD] at h
      obtain ⟨a, vs, o, rfl, s, _, r⟩ := h
      exact .tup (l.sqT (.inl (.inr ⟨o, s⟩))) (dps_rd l xs ds vs q r)
  | .con n, d, v, e, h => by simp only [toP] at e; cases e
  | .ty n, d, v, e, h => by simp only [toP] at e; cases e
  | .obj c xs, d, v, e, h => by simp only [toP] at e; cases e
theorem dps_rd {F H : Hp} (l : Le F H) : ∀ (xs : List D) (ds : List PyData) (vs : List V), toPs xs = some ds → RDs G F xs vs → DpAll G.K H vs ds
  | [], ds, vs, e, h => by simp only [toPs] at e; cases e; simp only [RDs] at h; subst h; exact .nil
  | x :: xs, ds, vs, e, h => by
    simp only [toPs] at e
    cases q : toP x with
    | none => rw [q] at e; cases e
    | some d =>
      rw [q] at e
      simp only at e
      cases q2 : toPs xs with
      | none => rw [q2] at e; cases e
      | some ds' =>
        rw [q2] at e; cases e
        simp only [RDs] at h
        obtain ⟨v, r, rfl, a, b⟩ := h
        exact .cons (dp_rd l x d v q a) (dps_rd l xs ds' r q2 b)
end
theorem dp_pr {F H : Hp} (l : Le F H) {x : D} {d : PyData} {v : V} (e : toP x = some d) (h : PR G F H x v) : Dp G.K H v d := by
  cases x with
  | lst xs =>
    obtain ⟨a, vs, rfl, s, r⟩ := h
    simp only [toP] at e
    cases q : toPs xs with
    | none => rw [q] at e; cases e
    | some ds => rw [q] at e; cases e; exact .lst s (dps_rd l xs ds vs q r)
  | _ => exact dp_rd l _ _ _ e h
theorem ops_eq0 : OpS G (rEqD G.K) eqD0 := fun F H x y z vx vy Q l hx hy e hq => by
  unfold eqD0 at e
  cases q1 : toP x with
  | none => rw [q1] at e; cases e
  | some d =>
    rw [q1] at e
    simp only at e
    cases q2 : toP y with
    | none => rw [q2] at e; cases e
    | some d2 =>
      rw [q2] at e
      simp only at e
      split at e
      · rename_i hs
        cases e
        rw [Bool.and_eq_true] at hs
        exact ⟨d, d2, dp_pr l q1 hx, dp_pr l q2 hy, hs.1, hs.2, hq _ F H (New.refl l) rd_bl⟩
      · cases e
theorem ops_ne0 : OpS G (rNeD G.K) neD0 := fun F H x y z vx vy Q l hx hy e hq => by
  unfold neD0 at e
  cases q1 : toP x with
  | none => rw [q1] at e; cases e
  | some d =>
    rw [q1] at e
    simp only at e
    cases q2 : toP y with
    | none => rw [q2] at e; cases e
    | some d2 =>
      rw [q2] at e
      simp only at e
      split at e
      · rename_i hs
        cases e
        rw [Bool.and_eq_true] at hs
        exact ⟨d, d2, dp_pr l q1 hx, dp_pr l q2 hy, hs.1, hs.2, hq _ F H (New.refl l) rd_bl⟩
      · cases e
def strP : D → D → Option Bool
  | .str a, .str b => some (decide (a = b))
  | _, _ => none
def eqD (x y : D) : Option D := match strP x y with | some b => some (.bl b) | none => eqD0 x y
def neD (x y : D) : Option D := match strP x y with | some b => some (.bl (!b)) | none => neD0 x y
theorem strP_some {x y : D} {b : Bool} (h : strP x y = some b) : ∃ i j, x = .str i ∧ y = .str j ∧ b = decide (i = j) := by
  cases x <;> try cases h
  cases y <;> try cases h
  exact ⟨_, _, rfl, rfl, rfl⟩
theorem decV (i j : Str) : decide (V.str i = V.str j) = decide (i = j) := by
  by_cases h : i = j
  · rw [h, decide_eq_true rfl, decide_eq_true rfl]
  · rw [decide_eq_false h, decide_eq_false fun z => h (V.str.inj z)]
theorem ops_eq : OpS G (fun x y H Q => rEq x y H Q ∨ rEqD G.K x y H Q) eqD := fun F H x y z vx vy Q l hx hy e hq => by
  unfold eqD at e
  split at e
  · rename_i b q
    obtain ⟨i, j, rfl, rfl, rfl⟩ := strP_some q
    cases e
    rw [pr_str hx, pr_str hy]
    refine .inl ⟨rfl, ?_⟩
    rw [decV]
    exact hq _ F H (New.refl l) rd_bl
  · exact .inr (ops_eq0 F H x y z vx vy Q l hx hy e hq)
theorem ops_ne : OpS G (fun x y H Q => rNe x y H Q ∨ rNeD G.K x y H Q) neD := fun F H x y z vx vy Q l hx hy e hq => by
  unfold neD at e
  split at e
  · rename_i b q
    obtain ⟨i, j, rfl, rfl, rfl⟩ := strP_some q
    cases e
    rw [pr_str hx, pr_str hy]
    refine .inl ⟨rfl, ?_⟩
    rw [decV]
    exact hq _ F H (New.refl l) rd_bl
  · exact .inr (ops_ne0 F H x y z vx vy Q l hx hy e hq)
theorem pr_isNone {F H : Hp} {x : D} {v : V} (h : PR G F H x v) : decide (v = V.non) = isNone x := by
  cases x with
  | non => rw [pr_non h]; rfl
  | int i => rw [pr_int h]; rfl
  | bl i => rw [pr_bl h]; rfl
  | str i => rw [pr_str h]; rfl
  | tup xs => obtain ⟨a, vs, rfl, _⟩ := pr_tup h; rfl
  | lst xs => obtain ⟨a, vs, rfl, _⟩ := h; rfl
  | con n =>
    have h : RD G F (.con n) v := h
    simp only [RD] at h
    subst h; rfl
  | ty n =>
    have h : RD G F (.ty n) v := h
    simp only [RD] at h
    subst h; rfl
  | tun xs =>
    have h : RD G F (.tun xs) v := h
    simp only [RD] at h
    obtain ⟨a, vs, o, rfl, _⟩ := h
    rfl
  | obj c xs =>
    have h : RD G F (.obj c xs) v := h
    simp only [RD] at h
    obtain ⟨a, dx, fs, vs, rfl, _⟩ := h
    rfl
theorem ops_isN : OpS G (fun x y H Q => y = .non ∧ Q (.bl (decide (x = .non))) H) isN := fun F H x y z vx vy Q l hx hy e hq => by
  cases y <;> try cases e
  refine ⟨pr_non hy, ?_⟩
  rw [pr_isNone hx]
  exact hq _ F H (New.refl l) rd_bl
theorem ops_notN : OpS G (fun x y H Q => y = .non ∧ Q (.bl (!decide (x = .non))) H) notN := fun F H x y z vx vy Q l hx hy e hq => by
  cases y <;> try cases e
  refine ⟨pr_non hy, ?_⟩
  rw [pr_isNone hx]
  exact hq _ F H (New.refl l) rd_bl
theorem uns_neg : UnS G (rU fun i => .int (-i)) negD := fun F H x z vx Q l hx e hq => by
  cases x <;> try cases e
  rw [pr_int hx]
  exact ⟨_, rfl, hq _ F H (New.refl l) rd_int⟩
end
end Mn
set_option Elab.async false
set_option linter.all false
set_option maxRecDepth 100000
set_option maxHeartbeats 1000000
/-! M23: built-ins. -/
namespace Mn
open PySem PySem.Spec PyProof.Rows L2
def absD : List D → Option D
  | [.int i] => some (.int (if i < 0 then -i else i))
  | _ => none
def intD : List D → Option D
  | [.int i] => some (.int i)
  | [.bl k] => some (.int (if k then 1 else 0))
  | _ => none
def lenD : List D → Option D
  | [.tup xs] => some (.int xs.length)
  | [.lst xs] => some (.int xs.length)
  | [.str x] => if x.length ≤ 16777216 then some (.int x.length) else none
  | _ => none
def intsD : List D → Option (List Int)
  | [] => some []
  | .int i :: r => match intsD r with | some ns => some (i :: ns) | none => none
  | _ => none
def sumI : List Int → Int
  | [] => 0
  | n :: ns => n + sumI ns
def leastI (n : Int) : List Int → Int
  | [] => n
  | m :: r => leastI (if m < n then m else n) r
def mostI (n : Int) : List Int → Int
  | [] => n
  | m :: r => mostI (if n < m then m else n) r
def minD : List D → Option D
  | [.int i, .int j] => some (.int (if j < i then j else i))
  | [.lst xs] => match intsD xs with | some (n :: ns) => some (.int (leastI n ns)) | _ => none
  | _ => none
def maxD : List D → Option D
  | [.int i, .int j] => some (.int (if j > i then j else i))
  | [.lst xs] => match intsD xs with | some (n :: ns) => some (.int (mostI n ns)) | _ => none
  | _ => none
def sumD : List D → Option D
  | [.lst xs] => match intsD xs with | some ns => some (.int (sumI ns)) | none => none
  | [.tup xs] => match intsD xs with | some ns => some (.int (sumI ns)) | none => none
  | _ => none
def divD : List D → Option D
  | [.int i, .int j] => if 0 < j then (if j < 1073741824 then some (.tup [.int (i / j), .int (i % j)]) else none) else none
  | _ => none
def tupD : List D → Option D
  | [.lst xs] => some (.tup xs)
  | [.tup xs] => some (.tup xs)
  | _ => none
def lstD : List D → Option (List D)
  | [.lst xs] => some xs
  | [.tup xs] => some xs
  | _ => none
def tyOf : D → Option String
  | .non => some "NoneType" | .bl _ => some "bool" | .int _ => some "int" | .str _ => some "str" | .tup _ => some "tuple" | .lst _ => some "list"
  | _ => none
def tyTab : List ((String × String) × Bool) := [(("bool", "int"), true), (("int", "int"), true), (("NoneType", "int"), false), (("str", "int"), false), (("tuple", "int"), false), (("list", "int"), false),
  (("bool", "bool"), true), (("int", "bool"), false), (("NoneType", "bool"), false), (("str", "bool"), false), (("tuple", "bool"), false), (("list", "bool"), false),
  (("bool", "tuple"), false), (("int", "tuple"), false), (("NoneType", "tuple"), false), (("str", "tuple"), false), (("tuple", "tuple"), true), (("list", "tuple"), false),
  (("bool", "list"), false), (("int", "list"), false), (("NoneType", "list"), false), (("str", "list"), false), (("tuple", "list"), false), (("list", "list"), true),
  (("bool", "str"), false), (("int", "str"), false), (("NoneType", "str"), false), (("str", "str"), true), (("tuple", "str"), false), (("list", "str"), false)]
theorem tyTab_ok : ∀ p ∈ tyTab, kitB p.1.1 p.1.2 = some p.2 := by decide +kernel
theorem mem_of_lookupA {α β : Type} [BEq α] [LawfulBEq α] {a : α} {b : β} : ∀ {l : List (α × β)}, l.lookup a = some b → (a, b) ∈ l
  | [], h => by simp at h
  | (x, y) :: r, h => by
    rw [List.lookup_cons] at h
    split at h
    · rename_i q
      cases h
      rw [eq_of_beq q]
      exact List.mem_cons_self
    · exact List.mem_cons_of_mem _ (mem_of_lookupA h)
def isiD : List D → Option D
  | [x, .ty n] => match tyOf x with | some t => (match tyTab.lookup (t, n) with | some b => some (.bl b) | none => none) | none => none
  | _ => none
section
variable {G : Gx} {c : Cf} {e : Expr} {es : List Expr} {fs : M (List W)} {x : Str} {p pos : Pos} {id T : String} {r : List V → Hp → VK → Prop} {o : List D → Option D} {ol : List D → Option (List D)}
theorem me_bi (hc : ∀ X, On G c X → CallR X (.builtin id) r) (ho : BiS G r o) (hg : GlS c.sc x) (hm : G.mg x = none) (hv : bootBuiltins x = some (.builtin id)) (ha : MA G c (e :: es) fs) (hn : x ≠ "__name__" := by decide) (hd : (x == ("__debug__" : Str)) = false := by decide)
    (he : ∀ env, starEach (e :: es) env = (false, eval e env) :: starEach es env := by intro _; rfl) (hpl : ∀ env, (backTo pos (starEach es env)).any (·.1) = false := by intro _; rfl) : ME G c (.Call (.Name x p) (e :: es) [] pos) (bi o fs) := fun X on Wx tk =>
  (pe_callB (hc X on) (on.gl hg) (by rw [on.mg]; exact hm) hv (ha X on Wx tk) hn hd (he _) (hpl _)).imp fun σ H Q h => rd_bi ho h
theorem me_biT (hc : ∀ X, On G c X → CallR X (.type T) r) (ho : BiS G r o) (hg : GlS c.sc x) (hm : G.mg x = none) (hv : bootBuiltins x = some (.type T)) (ha : MA G c (e :: es) fs) (hn : x ≠ "__name__" := by decide) (hd : (x == ("__debug__" : Str)) = false := by decide)
    (he : ∀ env, starEach (e :: es) env = (false, eval e env) :: starEach es env := by intro _; rfl) (hpl : ∀ env, (backTo pos (starEach es env)).any (·.1) = false := by intro _; rfl) : ME G c (.Call (.Name x p) (e :: es) [] pos) (bi o fs) := fun X on Wx tk =>
  (pe_callTy (hc X on) (on.gl hg) (by rw [on.mg]; exact hm) hv (ha X on Wx tk) hn hd (he _) (hpl _)).imp fun σ H Q h => rd_bi ho h
theorem ml_biT (hc : ∀ X, On G c X → CallR X (.type T) r) (ho : BiL G r ol) (hg : GlS c.sc x) (hm : G.mg x = none) (hv : bootBuiltins x = some (.type T)) (ha : MA G c (e :: es) fs) (hn : x ≠ "__name__" := by decide) (hd : (x == ("__debug__" : Str)) = false := by decide)
    (he : ∀ env, starEach (e :: es) env = (false, eval e env) :: starEach es env := by intro _; rfl) (hpl : ∀ env, (backTo pos (starEach es env)).any (·.1) = false := by intro _; rfl) : ML G c (.Call (.Name x p) (e :: es) [] pos) (biL ol fs) := fun X on Wx tk =>
  (pe_callTy (hc X on) (on.gl hg) (by rw [on.mg]; exact hm) hv (ha X on Wx tk) hn hd (he _) (hpl _)).imp fun σ H Q h => rd_biL ho h
theorem bis_abs : BiS G (fun xs H Q => ∃ i, xs = [.int i] ∧ Q (.int (if i < 0 then -i else i)) H) absD := fun F H xs z vs Q l h e hq => by
  match xs, e with
  | [.int i], e =>
    cases e
    obtain ⟨v, rfl, hv⟩ := h.one
    rw [pr_int hv]
    exact ⟨i, rfl, hq _ F H (New.refl l) rd_int⟩
theorem bis_int : BiS G (fun xs H Q => (∃ i, xs = [.int i] ∧ Q (.int i) H) ∨ ∃ k, xs = [.bl k] ∧ Q (.int (if k then 1 else 0)) H) intD := fun F H xs z vs Q l h e hq => by
  match xs, e with
  | [.int i], e =>
    cases e
    obtain ⟨v, rfl, hv⟩ := h.one
    rw [pr_int hv]
    exact .inl ⟨i, rfl, hq _ F H (New.refl l) rd_int⟩
  | [.bl i], e =>
    cases e
    obtain ⟨v, rfl, hv⟩ := h.one
    rw [pr_bl hv]
    exact .inr ⟨i, rfl, hq _ F H (New.refl l) rd_int⟩
def rLen2 (K : PySem.W.Frag) : List V → Hp → VK → Prop := fun xs H Q => (∃ p ys, xs = [.ref p] ∧ (SqL K H p ys ∨ SqT K H p ys) ∧ Q (.int ys.length) H) ∨ (∃ z, xs = [.str z] ∧ z.length ≤ sizeLine ∧ Q (.int z.length) H)
theorem call_len2 {X : Cx} : CallR X (.builtin "len") (rLen2 X.K) := call_or call_len_seq call_len_str
theorem pr_lst {F H : Hp} {xs : List D} {v : V} (h : PR G F H (.lst xs) v) : ∃ a vs, v = .ref a ∧ SqL G.K H a vs ∧ RDs G F xs vs := h
theorem bis_len : BiS G (rLen2 G.K) lenD := fun F H xs z vs Q l h e hq => by
  match xs, e with
  | [.tup ys], e =>
    cases e
    obtain ⟨v, rfl, hv⟩ := h.one
    obtain ⟨a, us, rfl, s, r⟩ := pr_tup hv
    exact .inl ⟨a, us, rfl, .inr (l.sqT s), by rw [r.length]; exact hq _ F H (New.refl l) rd_int⟩
  | [.lst ys], e =>
    cases e
    obtain ⟨v, rfl, hv⟩ := h.one
    obtain ⟨a, us, rfl, s, r⟩ := pr_lst hv
    exact .inl ⟨a, us, rfl, .inl s, by rw [r.length]; exact hq _ F H (New.refl l) rd_int⟩
  | [.str y], e =>
    simp only [lenD] at e
    split at e
    · rename_i hl
      cases e
      obtain ⟨v, rfl, hv⟩ := h.one
      rw [pr_str hv]
      exact .inr ⟨y, rfl, hl, hq _ F H (New.refl l) rd_int⟩
    · cases e
theorem ints_rd {F : Hp} : ∀ {xs : List D} {ns : List Int} {vs : List V}, intsD xs = some ns → RDs G F xs vs → vs = ns.map V.int
  | [], ns, vs, e, h => by simp only [intsD] at e; cases e; simp only [RDs] at h; exact h
  | .int i :: xs, ns, vs, e, h => by
    simp only [intsD] at e
    cases q : intsD xs with
    | none => rw [q] at e; cases e
    | some ms =>
      rw [q] at e; cases e
      simp only [RDs] at h
      obtain ⟨v, r, rfl, a, b⟩ := h
      simp only [RD] at a
      subst a
      rw [ints_rd q b]; rfl
  | .non :: _, _, _, e, _ => by simp [intsD] at e
  | .bl _ :: _, _, _, e, _ => by simp [intsD] at e
  | .str _ :: _, _, _, e, _ => by simp [intsD] at e
  | .tup _ :: _, _, _, e, _ => by simp [intsD] at e
  | .lst _ :: _, _, _, e, _ => by simp [intsD] at e
  | .con _ :: _, _, _, e, _ => by simp [intsD] at e
  | .ty _ :: _, _, _, e, _ => by simp [intsD] at e
  | .obj _ _ :: _, _, _, e, _ => by simp [intsD] at e
  | .tun _ :: _, _, _, e, _ => by simp [intsD] at e
theorem leastI_le : ∀ (r : List Int) (n : Int), leastI n r ≤ n ∧ ∀ m ∈ r, leastI n r ≤ m
  | [], n => ⟨Int.le_refl _, fun m h => by cases h⟩
  | k :: r, n => by
    have ih := leastI_le r (if k < n then k else n)
    have h1 : (if k < n then k else n) ≤ n ∧ (if k < n then k else n) ≤ k := by split <;> omega
    refine ⟨Int.le_trans ih.1 h1.1, fun m hm => ?_⟩
    rcases List.mem_cons.mp hm with e | hm
    · subst e; exact Int.le_trans ih.1 h1.2
    · exact ih.2 m hm
theorem leastI_mem : ∀ (r : List Int) (n : Int), leastI n r ∈ n :: r
  | [], n => by simp [leastI]
  | k :: r, n => by
    have ih := leastI_mem r (if k < n then k else n)
    unfold leastI
    rcases List.mem_cons.mp ih with e | h
    · rw [e]; split <;> simp
    · exact List.mem_cons_of_mem _ (List.mem_cons_of_mem _ h)
theorem mostI_ge : ∀ (r : List Int) (n : Int), n ≤ mostI n r ∧ ∀ m ∈ r, m ≤ mostI n r
  | [], n => ⟨Int.le_refl _, fun m h => by cases h⟩
  | k :: r, n => by
    have ih := mostI_ge r (if n < k then k else n)
    have h1 : n ≤ (if n < k then k else n) ∧ k ≤ (if n < k then k else n) := by split <;> omega
    refine ⟨Int.le_trans h1.1 ih.1, fun m hm => ?_⟩
    rcases List.mem_cons.mp hm with e | hm
    · subst e; exact Int.le_trans h1.2 ih.1
    · exact ih.2 m hm
theorem mostI_mem : ∀ (r : List Int) (n : Int), mostI n r ∈ n :: r
  | [], n => by simp [mostI]
  | k :: r, n => by
    have ih := mostI_mem r (if n < k then k else n)
    unfold mostI
    rcases List.mem_cons.mp ih with e | h
    · rw [e]; split <;> simp
    · exact List.mem_cons_of_mem _ (List.mem_cons_of_mem _ h)
def rMin2 (K : PySem.W.Frag) : List V → Hp → VK → Prop := fun xs H Q => (∃ i j, xs = [.int i, .int j] ∧ Q (.int (if j < i then j else i)) H) ∨ rMin K xs H Q
def rMax2 (K : PySem.W.Frag) : List V → Hp → VK → Prop := fun xs H Q => (∃ i j, xs = [.int i, .int j] ∧ Q (.int (if j > i then j else i)) H) ∨ rMax K xs H Q
theorem call_minA {X : Cx} (hc : X.calm = true) : CallR X (.builtin "min") (rMin2 X.K) := call_or (call_min2 hc) (cr_min hc)
theorem call_maxA {X : Cx} (hc : X.calm = true) : CallR X (.builtin "max") (rMax2 X.K) := call_or (call_max2 hc) (cr_max hc)
theorem bis_min : BiS G (rMin2 G.K) minD := fun F H xs z vs Q l h e hq => by
  match xs, e with
  | [.int i, .int j], e =>
    cases e
    obtain ⟨v, u, rfl, h1, h2⟩ := h.two
    rw [pr_int h1, pr_int h2]
    exact .inl ⟨i, j, rfl, hq _ F H (New.refl l) rd_int⟩
  | [.lst ys], e =>
    simp only [minD] at e
    cases q : intsD ys with
    | none => rw [q] at e; cases e
    | some ns =>
      rw [q] at e
      cases ns with
      | nil => cases e
      | cons n ns =>
        cases e
        obtain ⟨v, rfl, hv⟩ := h.one
        obtain ⟨a, us, rfl, s, r⟩ := pr_lst hv
        rw [ints_rd q r] at s
        refine .inr ⟨a, n :: ns, rfl, s, by simp, fun m hm hall => ?_⟩
        have h1 : m ≤ leastI n ns := hall _ (leastI_mem ns n)
        have h2 : leastI n ns ≤ m := by
          rcases List.mem_cons.mp hm with e | hm
          · rw [e]; exact (leastI_le ns n).1
          · exact (leastI_le ns n).2 m hm
        rw [Int.le_antisymm h1 h2]
        exact hq _ F H (New.refl l) rd_int
theorem bis_max : BiS G (rMax2 G.K) maxD := fun F H xs z vs Q l h e hq => by
  match xs, e with
  | [.int i, .int j], e =>
    cases e
    obtain ⟨v, u, rfl, h1, h2⟩ := h.two
    rw [pr_int h1, pr_int h2]
    exact .inl ⟨i, j, rfl, hq _ F H (New.refl l) rd_int⟩
  | [.lst ys], e =>
    simp only [maxD] at e
    cases q : intsD ys with
    | none => rw [q] at e; cases e
    | some ns =>
      rw [q] at e
      cases ns with
      | nil => cases e
      | cons n ns =>
        cases e
        obtain ⟨v, rfl, hv⟩ := h.one
        obtain ⟨a, us, rfl, s, r⟩ := pr_lst hv
        rw [ints_rd q r] at s
        refine .inr ⟨a, n :: ns, rfl, s, by simp, fun m hm hall => ?_⟩
        have h1 : mostI n ns ≤ m := hall _ (mostI_mem ns n)
        have h2 : m ≤ mostI n ns := by
          rcases List.mem_cons.mp hm with e | hm
          · rw [e]; exact (mostI_ge ns n).1
          · exact (mostI_ge ns n).2 m hm
        rw [Int.le_antisymm h2 h1]
        exact hq _ F H (New.refl l) rd_int
theorem sumI_eq : ∀ ns : List Int, sumI ns = ns.sum
  | [] => rfl
  | n :: ns => by rw [sumI, sumI_eq ns, List.sum_cons]
def rSumT (K : PySem.W.Frag) : List V → Hp → VK → Prop := fun vs H Q => ∃ (a : Addr) (ns : List Int), vs = [V.ref a] ∧ SqT K H a (ns.map V.int) ∧ Q (.int ns.sum) H
theorem cr_sumT {X : Cx} (hc : X.calm = true) : CallR X (.builtin "sum") (rSumT X.K) := by
  intro pins s σ H vs us Q I r h
  obtain ⟨a, ns, rfl, hs, q⟩ := h
  obtain ⟨its, rv, ht, _⟩ := I.tuple hs
  rw [Vals.ref1 r]
  obtain ⟨o, ho, hcl, n, hd⟩ := ht
  have hl : s.heap.IsTuple a its.toArray := ⟨o, ho, hcl, n, hd⟩
  obtain ⟨xs, hx⟩ := rv.ints.allInts.items
  have hn : numsOf its.toArray.toList = ns := by rw [show its.toArray.toList = its from rfl, rv.ints.numsOf]
  rw [hx] at hl hn
  rw [nums_intItems] at hn
  refine PySem.W.ktm_sumG (I.ok.hd hc) hl fun h' tk t' hk => ?_
  rw [preSum_eq, List.take_of_length_le (by simp), hn]
  exact ⟨.int _, H, I.kept hk, ⟨_, rfl⟩, q⟩
def rSum2 (K : PySem.W.Frag) : List V → Hp → VK → Prop := fun xs H Q => rSum K xs H Q ∨ rSumT K xs H Q
theorem call_sumA {X : Cx} (hc : X.calm = true) : CallR X (.builtin "sum") (rSum2 X.K) := call_or (cr_sum hc) (cr_sumT hc)
theorem bis_sum : BiS G (rSum2 G.K) sumD := fun F H xs z vs Q l h e hq => by
  match xs, e with
  | [.lst ys], e =>
    simp only [sumD] at e
    cases q : intsD ys with
    | none => rw [q] at e; cases e
    | some ns =>
      rw [q] at e
      cases e
      obtain ⟨v, rfl, hv⟩ := h.one
      obtain ⟨a, us, rfl, s, r⟩ := pr_lst hv
      rw [ints_rd q r] at s
      refine .inl ⟨a, ns, rfl, s, ?_⟩
      rw [← sumI_eq]
      exact hq _ F H (New.refl l) rd_int
  | [.tup ys], e =>
    simp only [sumD] at e
    cases q : intsD ys with
    | none => rw [q] at e; cases e
    | some ns =>
      rw [q] at e
      cases e
      obtain ⟨v, rfl, hv⟩ := h.one
      obtain ⟨a, us, rfl, s, r⟩ := pr_tup hv
      rw [ints_rd q r] at s
      refine .inr ⟨a, ns, rfl, l.sqT s, ?_⟩
      rw [← sumI_eq]
      exact hq _ F H (New.refl l) rd_int
theorem bis_div : BiS G (fun xs H Q => ∃ i j, xs = [.int i, .int j] ∧ CDiv i j ∧ ∀ p, H p = none → Q (.ref p) (upd H p (.tup [.int (i / j), .int (i % j)]))) divD := fun F H xs z vs Q l h e hq => by
  match xs, e with
  | [.int i, .int j], e =>
    simp only [divD] at e
    split at e
    · rename_i h1
      split at e
      · rename_i h2
        cases e
        obtain ⟨v, u, rfl, hv, hu⟩ := h.two
        rw [pr_int hv, pr_int hu]
        exact ⟨i, j, rfl, ⟨h1, h2⟩, new_tup l (.cons rd_int (.cons rd_int .nil)) hq⟩
      · cases e
    · cases e
theorem bis_tup : BiS G (fun xs H Q => ∃ p ys, xs = [.ref p] ∧ ((SqL G.K H p ys ∧ ∀ l, H l = none → Q (.ref l) (upd H l (.tup ys))) ∨ (SqT G.K H p ys ∧ Q (.ref p) H))) tupD := fun F H xs z vs Q l h e hq => by
  match xs, e with
  | [.lst ys], e =>
    cases e
    obtain ⟨v, rfl, hv⟩ := h.one
    obtain ⟨a, us, rfl, s, r⟩ := pr_lst hv
    exact ⟨a, us, rfl, .inl ⟨s, new_tup l r hq⟩⟩
  | [.tup ys], e =>
    cases e
    obtain ⟨v, rfl, hv⟩ := h.one
    obtain ⟨a, us, rfl, s, r⟩ := pr_tup hv
    exact ⟨a, us, rfl, .inr ⟨l.sqT s, hq _ F H (New.refl l) (by simp only [RD]; exact ⟨a, us, rfl, s, r⟩)⟩⟩
theorem bil_lst : BiL G (fun xs H Q => ∃ p ys, xs = [.ref p] ∧ (SqL G.K H p ys ∨ SqT G.K H p ys) ∧ ∀ l, H l = none → Q (.ref l) (upd H l (.lst ys))) lstD := fun F H xs zs vs Q l h e hq => by
  match xs, e with
  | [.lst ys], e =>
    cases e
    obtain ⟨v, rfl, hv⟩ := h.one
    obtain ⟨a, us, rfl, s, r⟩ := pr_lst hv
    exact ⟨a, us, rfl, .inl s, fun p hp => hq p us hp r⟩
  | [.tup ys], e =>
    cases e
    obtain ⟨v, rfl, hv⟩ := h.one
    obtain ⟨a, us, rfl, s, r⟩ := pr_tup hv
    exact ⟨a, us, rfl, .inr (l.sqT s), fun p hp => hq p us hp r⟩
theorem tyX_sqT {K : PySem.W.Frag} {H : Hp} {a : Addr} {xs : List V} (h : SqT K H a xs) : TyX K H (.ref a) (.type "tuple") := by
  rcases h with (h | ⟨o, h⟩) | ⟨o, its, n, h, hc, _⟩
  · exact .base (.tup h)
  · exact .fTuple h
  · exact .kTuple h hc
theorem tyX_sqL {K : PySem.W.Frag} {H : Hp} {a : Addr} {xs : List V} (h : SqL K H a xs) : TyX K H (.ref a) (.type "list") := by
  rcases h with (h | ⟨o, h⟩) | ⟨o, its, n, h, hc, _⟩
  · exact .base (.lst h)
  · exact .base (.frz h)
  · exact .kList h hc
theorem tyX_pr {F H : Hp} (l : Le F H) {x : D} {v : V} {t : String} (e : tyOf x = some t) (h : PR G F H x v) : TyX G.K H v (.type t) := by
  cases x with
  | non => cases e; rw [pr_non h]; exact .base .non
  | bl b => cases e; rw [pr_bl h]; exact .base (.bl b)
  | int i => cases e; rw [pr_int h]; exact .base (.int i)
  | str i => cases e; rw [pr_str h]; exact .base (.str i)
  | tup xs => cases e; obtain ⟨a, vs, rfl, s, _⟩ := pr_tup h; exact tyX_sqT (l.sqT s)
  | lst xs => cases e; obtain ⟨a, vs, rfl, s, _⟩ := pr_lst h; exact tyX_sqL s
  | con n => cases e
  | ty n => cases e
  | obj c xs => cases e
  | tun xs => cases e
theorem bis_isi : BiS G (rIsi G.K) isiD := fun F H xs z vs Q l h e hq => by
  match xs, e with
  | [x, .ty n], e =>
    simp only [isiD] at e
    cases q : tyOf x with
    | none => rw [q] at e; cases e
    | some t =>
      rw [q] at e
      simp only at e
      cases q2 : tyTab.lookup (t, n) with
      | none => rw [q2] at e; cases e
      | some b =>
        rw [q2] at e
        cases e
        obtain ⟨v, u, rfl, hv, hu⟩ := h.two
        have hu : RD G F (.ty n) u := hu
        simp only [RD] at hu
        subst hu
        exact ⟨v, .ty n, .type t, .type n, b, rfl, .ty n, tyX_pr l q hv, kit_ty (tyTab_ok ((t, n), b) (mem_of_lookupA q2)), hq _ F H (New.refl l) rd_bl⟩
end
end Mn
set_option Elab.async false
set_option linter.all false
set_option maxRecDepth 100000
set_option maxHeartbeats 1000000
/-! M24: more operators: list + list, slices, tuple * int, sum, count, repr. -/
namespace Mn
open PySem PySem.Spec PyProof.Rows L2
/-- t + u, both not empty: a tuple that can be asked -/
def catN : D → D → Option D
  | .tup xs, .tup ys => if xs.length + ys.length ≤ 16777216 then (if xs = [] then none else if ys = [] then none else some (.tun (xs ++ ys))) else none
  | _, _ => none
/-- the place that a slice's part means -/
def cutI (n d : Nat) : Option Int → Nat
  | none => d
  | some v => if v < 0 then (v + (n : Int)).toNat else min v.toNat n
def cutL {α : Type} (xs : List α) (lo hi : Option Int) : List α := (xs.drop (cutI xs.length 0 lo)).take (cutI xs.length xs.length hi - cutI xs.length 0 lo)
/-- a slice of a tuple | of a list -/
def slT (lo hi : Option Int) : D → Option D
  | .tup xs => some (.tup (cutL xs lo hi))
  | _ => none
def slL (lo hi : Option Int) : D → Option (List D)
  | .lst xs => some (cutL xs lo hi)
  | _ => none
def oI (a : Option (M W)) : M (Option Int) := match a with
  | none => pur none
  | some f => bnd f fun w => match w with | .d (.int i) => pur (some i) | _ => fun _ => .stuck
def sliT (f : M W) (lo hi : Option (M W)) : M W := bnd f fun w => bnd (oI lo) fun l => bnd (oI hi) fun h s => match pk s w with
  | some x => match slT l h x with | some z => .ok (.d z) s | none => .stuck
  | none => .stuck
def sliL (f : M W) (lo hi : Option (M W)) : M (List W) := bnd f fun w => bnd (oI lo) fun l => bnd (oI hi) fun h s => match pk s w with
  | some x => match slL l h x with | some z => .ok (z.map W.d) s | none => .stuck
  | none => .stuck
def revL (f : M W) : M (List W) := bnd f fun w s => match pk s w with
  | some (.lst xs) => .ok (xs.reverse.map W.d) s
  | _ => .stuck
theorem cutI_eq (n d : Nat) (o : Option Int) : HT.sIx n d o = cutI n d o := by cases o <;> rfl
theorem cutV_eq (xs : List V) (lo hi : Option Int) : cutV xs lo hi = cutL xs lo hi := by unfold cutV cutL; simp only [cutI_eq]
section
variable {X : Cx} {G : Gx}
/-! ### list + list -/
def rCatQ (K : PySem.W.Frag) : R2 := fun x y H Q => ∃ l b xs zs, x = .ref l ∧ y = .ref b ∧ SqL K H l xs ∧ SqL K H b zs ∧ xs.length + zs.length ≤ sizeLine ∧ ∀ p, H p = none → Q (.ref p) (upd H p (.lst (xs ++ zs)))
theorem opr_catL : OpR X (binaryOp .Add) (rCatQ X.K) := by
  intro pins s σ H x y v u Q I rx ry h
  obtain ⟨l, b, xs, zs, rfl, rfl, hH, hB, hz, q⟩ := h
  cases rx
  cases ry
  obtain ⟨its, r, ⟨⟨cls, dd, data, sl⟩, n, ho, hc, hdd, hd⟩, _⟩ := I.list hH
  obtain ⟨its2, r2, ⟨⟨cls2, dd2, data2, sl2⟩, n2, ho2, hc2, hdd2, hd2⟩, _⟩ := I.list hB
  simp only at hc hd hc2 hd2
  subst hc hd hc2 hd2
  have ea : its.toArray ++ its2.toArray = (its ++ its2).toArray := by simp
  have hl := r.length
  have hl2 := r2.length
  refine concat_meets ⟨_, ho, rfl⟩ ⟨_, ho2, rfl⟩ noFill_list_add seq_list_add PySem.F.slot_list_add PySem.F.entry_list_add (PySem.F.args_list_add_2 _ _) (list_addW l b its.toArray its2.toArray n n2 dd dd2 sl sl2 (by simp only [List.size_toArray]; omega)) ⟨ho, ho2, ?_⟩
  rw [ea]
  exact ⟨.ref _, _, I.lnew (t' := s.toks) (r.append r2) (by rw [List.length_append]; omega), rfl, q _ I.fresh⟩
theorem opl_cat : OpL G (rCatQ G.K) catL := fun F H x y zs vx vy Q l hx hy e hq => by
  cases x with
  | lst xs =>
    cases y with
    | lst ys =>
      simp only [catL] at e
      split at e
      · rename_i hl
        cases e
        obtain ⟨a, vs, rfl, s1, r1⟩ := pr_lst hx
        obtain ⟨b, us, rfl, s2, r2⟩ := pr_lst hy
        exact ⟨a, b, vs, us, rfl, rfl, s1, s2, by rw [r1.length, r2.length]; exact hl, fun p hp => hq p _ hp (r1.append r2)⟩
      · cases e
    | _ => cases e
  | _ => cases e
/-! ### t + u, to be asked -/
def rCatN (K : PySem.W.Frag) : R2 := fun x y H Q => ∃ a b xs ys, x = .ref a ∧ y = .ref b ∧ SqT K H a xs ∧ SqT K H b ys ∧ xs ≠ [] ∧ ys ≠ [] ∧ xs.length + ys.length ≤ sizeLine ∧ ∀ p o, H p = none → o.dict = none → Q (.ref p) (upd H p (.frz o (.tup (xs ++ ys))))
theorem opr_catN : OpR X (binaryOp .Add) (rCatN X.K) := by
  intro pins s σ H x y v u Q I rx ry h
  obtain ⟨a, b, xs, ys, rfl, rfl, ha, hb, hx, hy, hz, q2⟩ := h
  cases rx
  cases ry
  obtain ⟨its, r1, p1, _⟩ := I.tuple ha
  obtain ⟨its2, r2, p2, _⟩ := I.tuple hb
  refine HT.cat_tup p1 p2 (fun z => hx (r1.nil_iff.mp z)) (fun z => absurd (r2.nil_iff.mp z) hy) (fun z => ?_) (by rw [← r1.length, ← r2.length]; exact hz)
  refine ⟨.ref s.heap.objs.size, _, I.laid (t' := s.toks) (o := .frz { cls := .type "tuple", data := .seq (its ++ its2).toArray } (.tup (xs ++ ys))) (fun b ob q => Heap.get?_push_of_some _ q) (Nat.le_refl _) ?_, rfl, q2 _ _ (I.hok.fresh (Nat.le_refl _)) rfl⟩
  exact ⟨Heap.get?_push_size _ rfl, by rw [List.length_append]; exact hz, _, r1.append r2, IsTup.new _ _⟩
theorem rds_ne {F : Hp} {xs : List D} {vs : List V} (r : RDs G F xs vs) (h : xs ≠ []) : vs ≠ [] := fun z => by
  subst z; exact h (rds_nil r)
theorem ops_catN : OpS G (rCatN G.K) catN := fun F H x y z vx vy Q l hx hy e hq => by
  cases x with
  | tup xs =>
    cases y with
    | tup ys =>
      simp only [catN] at e
      split at e
      · rename_i hl
        split at e
        · cases e
        · rename_i h1
          split at e
          · cases e
          · rename_i h2
            cases e
            obtain ⟨a, vs, rfl, s1, r1⟩ := pr_tup hx
            obtain ⟨b, us, rfl, s2, r2⟩ := pr_tup hy
            refine ⟨a, b, vs, us, rfl, rfl, l.sqT s1, l.sqT s2, rds_ne r1 h1, rds_ne r2 h2, by rw [r1.length, r2.length]; exact hl, fun p o hp ho => ?_⟩
            exact hq (.ref p) _ _ (New.one l hp) (by simp only [RD]; exact ⟨p, vs ++ us, o, rfl, upd_same, ho, RDs.mono (Le.new (l.no hp)) _ _ (r1.append r2)⟩)
      · cases e
    | _ => cases e
  | _ => cases e
/-! ### slices -/
def rOI : Hp → Wd → Hp → Option Int → Option Int → Prop := fun _ _ _ a b => b = a
instance : RM rOI := ⟨fun _ _ _ _ _ _ _ h => h⟩
def MO (G : Gx) (c : Cf) (e : Option Expr) (f : Option (M W)) : Prop := ∀ X, On G c X → ∀ Wx, Takes X Wx → PO X e (rd G Wx rOI (oI f))
theorem _root_.L2.PO.imp {X : Cx} {e : Option Expr} {t u : TO} (h : PO X e t) (k : ∀ σ H Q, u σ H Q → t σ H Q) : PO X e u := ⟨fun pins s σ H Q I q => h.run pins s σ H Q I (k σ H Q q)⟩
theorem mo_none {c : Cf} : MO G c none none := fun X on Wx tk => po_none.imp fun σ H Q h => by
  obtain ⟨wd, s, sr, h⟩ := h
  exact Rs.ok_now h sr rfl
theorem mo_some {c : Cf} {e : Expr} {f : M W} (h : ME G c e f) : MO G c (some e) (some f) := fun X on Wx tk => (po_some (h X on Wx tk)).imp fun σ H Q h => by
  obtain ⟨wd, s, sr, h⟩ := h
  refine ⟨wd, s, sr, (Rs.bd (rel := rW G) h).imp fun v H1 ⟨wd1, s1, w, _, _, sr1, r1, h1⟩ => ?_⟩
  cases w with
  | d x =>
    cases x with
    | int i =>
      have r1 : RD G wd1.F (.int i) v := r1
      simp only [RD] at r1
      exact ⟨i, r1, Rs.ok_now h1 sr1 rfl⟩
    | _ => exact h1.elim
  | _ => exact h1.elim
theorem RDs.cut {F : Hp} {xs : List D} {vs : List V} (r : RDs G F xs vs) (lo hi : Option Int) : RDs G F (cutL xs lo hi) (cutL vs lo hi) := by
  unfold cutL
  rw [r.length]
  exact (r.drop _).take _
theorem cut_whole {α : Type} {xs : List α} {lo hi : Option Int} (h : cutI xs.length 0 lo = 0 ∧ cutI xs.length xs.length hi = xs.length) : cutL xs lo hi = xs := by
  unfold cutL
  rw [h.1, h.2]
  simp
theorem me_slT {c : Cf} {e : Expr} {lo hi : Option Expr} {fa : M W} {fl fh : Option (M W)} {pos p2 : Pos} (he : ME G c e fa) (hl : MO G c lo fl) (hh : MO G c hi fh) : ME G c (.Subscript e (.Slice lo hi none p2) pos) (sliT fa fl fh) := fun X on Wx tk =>
  (pe_slice sl_tupA (he X on Wx tk) (hl X on Wx tk) (hh X on Wx tk)).imp fun σ H Q h => by
    obtain ⟨wd, s, sr, h⟩ := h
    refine ⟨wd, s, sr, (Rs.bd (rel := rW G) h).imp fun v H1 ⟨wd1, s1, w, _, _, sr1, r1, h1⟩ => ?_⟩
    refine ⟨wd1, s1, sr1, (Rs.bd (rel := rOI) h1).imp fun l H2 ⟨wd2, s2, l', _, st2, sr2, el, h2⟩ => ?_⟩
    refine ⟨wd2, s2, sr2, (Rs.bd (rel := rOI) h2).imp fun u H3 ⟨wd3, s3, u', _, st3, sr3, eu, h3⟩ => ?_⟩
    have el : l = l' := el
    have eu : u = u' := eu
    subst el eu
    have r3 : RW G wd3 w v := (RW.mono st2.up r1).mono st3.up
    cases q : pk s3 w with
    | none => simp only [q] at h3; exact h3.elim
    | some x =>
      simp only [q] at h3
      have hp := pk_rel sr3 r3 q
      cases x with
      | tup xs =>
        simp only [slT] at h3
        obtain ⟨a, vs, rfl, s, r⟩ := pr_tup hp
        refine ⟨a, vs, rfl, by rw [on.K]; exact sr3.le.sqT s, fun hw => ?_, fun _ p hp => ?_⟩
        · simp only [cutI_eq] at hw
          rw [r.length] at hw
          rw [cut_whole hw] at h3
          exact Rs.finD h3 sr3 (New.refl sr3.le) (by simp only [RD]; exact ⟨a, vs, rfl, s, r⟩)
        · rw [cutV_eq]
          exact Rs.finD h3 sr3 (New.one sr3.le hp) (by simp only [RD]; exact ⟨p, _, rfl, SqT.of upd_same, RDs.mono (Le.new (sr3.le.no hp)) _ _ (r.cut l u)⟩)
      | _ => exact h3.elim
theorem ml_slL {c : Cf} {e : Expr} {lo hi : Option Expr} {fa : M W} {fl fh : Option (M W)} {pos p2 : Pos} (he : ME G c e fa) (hl : MO G c lo fl) (hh : MO G c hi fh) : ML G c (.Subscript e (.Slice lo hi none p2) pos) (sliL fa fl fh) := fun X on Wx tk =>
  (pe_slice sl_list (he X on Wx tk) (hl X on Wx tk) (hh X on Wx tk)).imp fun σ H Q h => by
    obtain ⟨wd, s, sr, h⟩ := h
    refine ⟨wd, s, sr, (Rs.bd (rel := rW G) h).imp fun v H1 ⟨wd1, s1, w, _, st1, sr1, r1, h1⟩ => ?_⟩
    refine ⟨wd1, s1, sr1, (Rs.bd (rel := rOI) h1).imp fun l H2 ⟨wd2, s2, l', _, st2, sr2, el, h2⟩ => ?_⟩
    refine ⟨wd2, s2, sr2, (Rs.bd (rel := rOI) h2).imp fun u H3 ⟨wd3, s3, u', _, st3, sr3, eu, h3⟩ => ?_⟩
    have el : l = l' := el
    have eu : u = u' := eu
    subst el eu
    have r3 : RW G wd3 w v := (RW.mono st2.up r1).mono st3.up
    cases q : pk s3 w with
    | none => simp only [q] at h3; exact h3.elim
    | some x =>
      simp only [q] at h3
      have hp := pk_rel sr3 r3 q
      cases x with
      | lst xs =>
        simp only [slL] at h3
        obtain ⟨a, vs, rfl, s, r⟩ := pr_lst hp
        refine ⟨a, vs, rfl, by rw [on.K]; exact s, fun p hp => ?_⟩
        rw [cutV_eq]
        exact Rs.finL h3 sr3 hp (r.cut l u)
      | _ => exact h3.elim
theorem ml_rev {c : Cf} {e : Expr} {fa : M W} {k : Nat} {p1 p2 p3 pos : Pos} (he : ME G c e fa) : ML G c (.Subscript e (.Slice none none (some (.UnaryOp .USub (.Constant (.int 1) k p1) p2)) p3) pos) (revL fa) := fun X on Wx tk =>
  (pe_revL (he X on Wx tk)).imp fun σ H Q h => by
    obtain ⟨wd, s, sr, h⟩ := h
    refine ⟨wd, s, sr, (Rs.bd (rel := rW G) h).imp fun v H1 ⟨wd1, s1, w, _, st1, sr1, r1, h1⟩ => ?_⟩
    cases q : pk s1 w with
    | none => simp only [q] at h1; exact h1.elim
    | some x =>
      simp only [q] at h1
      have hp := pk_rel sr1 r1 q
      cases x with
      | lst xs =>
        obtain ⟨a, vs, rfl, s, r⟩ := pr_lst hp
        exact ⟨a, vs, rfl, by rw [on.K]; exact s, fun p hp => Rs.finL h1 sr1 hp r.rev⟩
      | _ => exact h1.elim
/-! ### t * k -/
theorem mul_same {X : Cx} {s : Shared} {A : Around} {E : Value → Shared → Prop} {Q : Value → Shared → Prop} : True := trivial
end
end Mn
set_option Elab.async false
set_option linter.all false
set_option maxRecDepth 100000
set_option maxHeartbeats 1000000
/-! M25: tuple * int, sum, count, repr. -/
namespace Mn
open PySem PySem.Spec PyProof.Rows L2
theorem tmul_one (l : Addr) (items : Array Value) (n : Nat) (dd : Option Addr) (sl : Array (Option Value)) (x : Int) (u : Tok) (c0 : (decide (x < -(2 ^ 63)) || decide (x ≥ 2 ^ 63)) = false) (c1 : (items.isEmpty || x == 1) = true) :
    Meets (Builtin.«tuple.__mul__» ⟨[.ref l, .int x u], []⟩) (fun _ R s => s.heap.get? l = some { cls := .type "tuple", dict := dd, data := .seq items n, slots := sl } ∧ R (.ok (.ret (Value.ref l))) s) :=
  .of_wp fun prog w A R s h => by
    obtain ⟨hp, g, d, tk, os⟩ := s
    obtain ⟨hl, h⟩ := h
    have f1 := AutoSeq1.idx_int
    wp_walk using wpAny_loadPart' hl
    repeat (first
      | (refine wpAny_ite_false (decide_eq_false (by rw [c0]; exact Bool.false_ne_true)) ?_; wp_walk using wpAny_loadPart' hl)
      | (refine wpAny_ite_true (decide_eq_true c1) ?_; wp_walk using wpAny_loadPart' hl))
    exact ⟨_, rfl, h⟩
theorem tmul_zero (l : Addr) (items : Array Value) (n : Nat) (dd : Option Addr) (sl : Array (Option Value)) (x : Int) (u : Tok) (c0 : (decide (x < -(2 ^ 63)) || decide (x ≥ 2 ^ 63)) = false) (c1 : (items.isEmpty || x == 1) = false) (c2 : (decide (x ≤ 0) || items.isEmpty) = true) :
    Meets (Builtin.«tuple.__mul__» ⟨[.ref l, .int x u], []⟩) (fun _ R s => s.heap.get? l = some { cls := .type "tuple", dict := dd, data := .seq items n, slots := sl } ∧ R (.ok (.ret (Value.ref s.heap.objs.size))) { s with heap := s.heap.push { cls := Value.type "tuple", data := Data.seq #[] } }) :=
  .of_wp fun prog w A R s h => by
    obtain ⟨hp, g, d, tk, os⟩ := s
    obtain ⟨hl, h⟩ := h
    have f1 := AutoSeq1.idx_int
    wp_walk using wpAny_loadPart' hl
    repeat (first
      | (refine wpAny_ite_false (decide_eq_false (by rw [c0]; exact Bool.false_ne_true)) ?_; wp_walk using wpAny_loadPart' hl)
      | (refine wpAny_ite_false (decide_eq_false (by rw [c1]; exact Bool.false_ne_true)) ?_; wp_walk using wpAny_loadPart' hl)
      | (refine wpAny_ite_true (decide_eq_true c2) ?_; wp_walk using wpAny_loadPart' hl))
    exact ⟨_, rfl, h⟩
def rRep1 (K : PySem.W.Frag) : R2 := fun x y H Q => ∃ l xs, x = .ref l ∧ y = .int 1 ∧ SqT K H l xs ∧ xs ≠ [] ∧ Q (.ref l) H
def rRep0 (K : PySem.W.Frag) : R2 := fun x y H Q => ∃ l k xs, x = .ref l ∧ y = .int k ∧ SqT K H l xs ∧ xs ≠ [] ∧ -(2 ^ 63) ≤ k ∧ k ≤ 0 ∧ ∀ p, H p = none → Q (.ref p) (upd H p (.tup []))
section
variable {X : Cx} {G : Gx}
theorem opr_rep1 : OpR X (binaryOp .Mult) (rRep1 X.K) := by
  intro pins s σ H x y v u Q I rx ry h
  obtain ⟨l, xs, rfl, rfl, hT, hne, q⟩ := h
  cases rx
  obtain ⟨t, rfl⟩ := ry
  obtain ⟨its, r, ⟨⟨cls, dd, data, sl⟩, ho, hc, n, hd⟩, hs⟩ := I.tuple hT
  simp only at hc hd
  subst hc hd
  refine wpAny_binaryOp_repeat_ref (T := "tuple") (U := "int") (by decide) ⟨_, ho, rfl⟩ (fun s' => typeIs_int s' 1 t) noFill_tuple_mul F.fills_int_mul F.slot_int_rmul repeat_tuple F.slot_int_index.lookup
    (call_meets F.slot_int_rmul (typeIs_int s 1 t) F.entry_int_rmul (F.args_int_rmul_2 _ _) (int_rmul_tuple 1 t l its.toArray n dd sl)
      ⟨ho, rfl, ⟨_, ho, rfl⟩, call_meets F.slot_tuple_mul ⟨_, ho, rfl⟩ F.entry_tuple_mul (F.args_tuple_mul_2 _ _) (tmul_one l its.toArray n dd sl 1 t (by decide) (by simp)) ⟨ho, ?_⟩⟩)
  exact ⟨.ref l, H, I, rfl, q⟩
theorem opr_rep0 : OpR X (binaryOp .Mult) (rRep0 X.K) := by
  intro pins s σ H x y v u Q I rx ry h
  obtain ⟨l, k, xs, rfl, rfl, hT, hne, h1, h2, q⟩ := h
  cases rx
  obtain ⟨t, rfl⟩ := ry
  obtain ⟨its, r, ⟨⟨cls, dd, data, sl⟩, ho, hc, n, hd⟩, hs⟩ := I.tuple hT
  simp only at hc hd
  subst hc hd
  have hi : its.toArray.isEmpty = false := by
    cases its with
    | nil => exact absurd (r.nil_iff.mp rfl) hne
    | cons a b => rfl
  refine wpAny_binaryOp_repeat_ref (T := "tuple") (U := "int") (by decide) ⟨_, ho, rfl⟩ (fun s' => typeIs_int s' k t) noFill_tuple_mul F.fills_int_mul F.slot_int_rmul repeat_tuple F.slot_int_index.lookup
    (call_meets F.slot_int_rmul (typeIs_int s k t) F.entry_int_rmul (F.args_int_rmul_2 _ _) (int_rmul_tuple k t l its.toArray n dd sl)
      ⟨ho, rfl, ⟨_, ho, rfl⟩, call_meets F.slot_tuple_mul ⟨_, ho, rfl⟩ F.entry_tuple_mul (F.args_tuple_mul_2 _ _) (tmul_zero l its.toArray n dd sl k t ?_ ?_ ?_) ⟨ho, ?_⟩⟩)
  · rw [decide_eq_false (by omega), decide_eq_false (by omega)] <;> rfl
  · rw [hi, Bool.false_or]; exact beq_eq_false_iff_ne.mpr (by omega)
  · rw [hi, Bool.or_false]; exact decide_eq_true h2
  · refine ⟨.ref s.heap.objs.size, _, I.laid (t' := s.toks) (o := .tup []) (fun b ob q => Heap.get?_push_of_some _ q) (Nat.le_refl _) ?_, rfl, q _ (I.hok.fresh (Nat.le_refl _))⟩
    exact ⟨by simp, [], .nil, IsTup.new _ _⟩
def rTimes (K : PySem.W.Frag) : R2 := fun x y H Q => L2.rI CMul (fun i j => .int (i * j)) x y H Q ∨ (rRepT K x y H Q ∨ (rRep1 K x y H Q ∨ rRep0 K x y H Q))
theorem opr_times : OpR X (binaryOp .Mult) (rTimes X.K) := opr_or op_mul (opr_or op_repT (opr_or opr_rep1 opr_rep0))
theorem reps_eq {α : Type} (xs : List α) : ∀ n, reps xs n = (List.replicate n xs).flatten
  | 0 => rfl
  | n + 1 => by rw [reps, reps_eq xs n, List.replicate_succ, List.flatten_cons]
theorem RDs.reps {F : Hp} {xs : List D} {vs : List V} (r : RDs G F xs vs) : ∀ n, RDs G F (Mn.reps xs n) (List.replicate n vs).flatten
  | 0 => .nil
  | n + 1 => by rw [Mn.reps, List.replicate_succ, List.flatten_cons]; exact r.append (RDs.reps r n)
theorem ops_mul : OpS G (rTimes G.K) mulD := fun F H x y z vx vy Q l hx hy e hq => by
  cases x with
  | int i =>
    cases y with
    | int j =>
      simp only [mulD] at e
      split at e
      · rename_i hf
        cases e
        rw [pr_int hx, pr_int hy]
        exact .inl ⟨i, j, rfl, rfl, few_ok hf, hq _ F H (New.refl l) rd_int⟩
      · cases e
    | _ => cases e
  | tup xs =>
    cases y with
    | int k =>
      simp only [mulD] at e
      split at e
      · cases e
      · rename_i hne
        split at e
        · rename_i hk
          rw [Bool.and_eq_true, decide_eq_true_eq, decide_eq_true_eq] at hk
          split at e
          · rename_i hl
            cases e
            obtain ⟨a, vs, rfl, s1, r1⟩ := pr_tup hx
            rw [pr_int hy]
            have hne' := rds_ne r1 hne
            by_cases h2 : 2 ≤ k
            · refine .inr (.inl ⟨a, k, vs, rfl, rfl, l.sqT s1, hne', h2, hk.2, by rw [r1.length]; exact hl, new_tup l (r1.reps _) hq⟩)
            · by_cases h1 : k = 1
              · subst h1
                refine .inr (.inr (.inl ⟨a, vs, rfl, rfl, l.sqT s1, hne', ?_⟩))
                have : reps xs (Int.toNat 1) = xs := by show xs ++ [] = xs; simp
                rw [this] at hq
                exact hq _ F H (New.refl l) (by simp only [RD]; exact ⟨a, vs, rfl, s1, r1⟩)
              · refine .inr (.inr (.inr ⟨a, k, vs, rfl, rfl, l.sqT s1, hne', by omega, by omega, ?_⟩))
                have : k.toNat = 0 := by omega
                rw [this] at hq
                exact new_tup l .nil hq
          · cases e
        · cases e
    | _ => cases e
  | _ => cases e
end
end Mn
set_option Elab.async false
set_option linter.all false
set_option maxRecDepth 100000
set_option maxHeartbeats 1000000
/-! M26: count, repr. -/
namespace Mn
open PySem PySem.Spec PyProof.Rows L2
/-! ### t.count(x) -/
def cntD (xs : List D) (x : D) : Option D := match toPs xs with
  | some ds => match toP x with
    | some d => if (PyData.plainAll ds && d.plain && decide (d.depth ≤ 60)) = true then some (.int ((ds.countP fun y => PyData.eqv y d : Nat) : Int)) else none
    | none => none
  | none => none
def cnt (o a : M W) : M W := bnd o fun w => match w with
  | .d (.tun xs) => bnd a fun v s => match pk s v with
    | some y => match cntD xs y with | some z => .ok (.d z) s | none => .stuck
    | none => .stuck
  | _ => fun _ => .stuck
section
variable {G : Gx} {c : Cf} {o e : Expr} {fo fa : M W} {apos pos : Pos}
theorem tun_is {X : Cx} {pins : List (Addr × Obj)} {σ : L2.St} {H : Hp} {s : Shared} {a : Addr} {ob : Obj} {vs : List V} (I : Inv X pins σ H s) (h : H a = some (.frz ob (.tup vs))) : s.heap.get? a = some ob ∧ ob.cls = .type "tuple" ∧ ∃ its n, ob.data = .seq its.toArray n ∧ Vals vs its := by
  obtain ⟨hget, hz, its, r, o2, h1, h2, n, h3⟩ := (show ObjOk X.prog X.w H s.heap a (.frz ob (.tup vs)) from I.hok a _ h)
  rw [hget] at h1
  cases h1
  exact ⟨hget, h2, its, n, h3, r⟩
theorem me_cnt (ho : ME G c o fo) (ha : ME G c e fa) (hbase : ∀ env, attributeBase o "count" env (eval o env) = eval o env := by intro _; rfl)
    (hfew : ∀ env, ((backTo pos (starEach [e] env)).all (fun x => !x.1) && (backToKw pos (keywordEach [] env)).all (fun x => x.1.isSome)
      && decide (([e] : List Expr).length + ([] : List Keyword).length + (if ([] : List Keyword).isEmpty then 0 else 1) < 30)) = true := by intro _; rfl)
    (hline : (apos.endLine == pos.line) = true := by rfl) (hs : ∀ env, starEach [e] env = (false, eval e env) :: starEach [] env := by intro _; rfl) : ME G c (.Call (.Attribute o "count" apos) [e] [] pos) (cnt fo fa) := fun X on Wx tk => by
  refine ⟨fun pins s σ H Q I h => ?_⟩
  obtain ⟨wd, st, sr, h⟩ := h
  have h1 := Rs.bd (rel := rW G) h
  refine wpAny_Call_method_late (hbase _) (hfew _) hline rfl (thn ((ho X on Wx tk).run pins s σ H _ I ⟨wd, st, sr, h1⟩) fun v s1 ⟨x, H1, I1, r1, wd1, s2, w, _, st1, sr1, rw1, h2⟩ => ?_)
  by_cases hw : ∃ xs, w = .d (.tun xs)
  · obtain ⟨xs, rfl⟩ := hw
    have h3 := Rs.bd (rel := rW G) h2
    have rw1 : RD G wd1.F (.tun xs) x := rw1
    simp only [RD] at rw1
    obtain ⟨a, vs, ob, rfl, hF, hdn, rx⟩ := rw1
    obtain rfl : v = Value.ref a := r1
    have hH1 := sr1.le _ _ hF
    obtain ⟨hget, hcls, its, n, hdata, rv⟩ := tun_is I1 hH1
    refine ⟨"tuple", "tuple.count", F.plainAttrs_tuple, F.slot_tuple_count, F.type_tuple_count, ⟨ob, hget, hcls⟩, fun b e => ?_, ?_⟩
    · cases e; exact ⟨ob, hget, hdn⟩
    · have hA := (pa_cons (ha X on Wx tk) pa_nil (hs _)).run pos pins s1 σ H1 (fun ys H2 => ∃ y, ys = [y] ∧ ∃ wd2 s3 a', fa s2 = .ok a' s3 ∧ Stp wd1 H1 wd2 H2 ∧ SR G wd2 s3 σ H2 ∧ rW G H1 wd2 H2 a' y ∧ Rs G Wx (rW G) ((match pk s3 a' with
        | some y => match cntD xs y with | some z => Out.ok (.d z) s3 | none => .stuck
        | none => .stuck) : Out W) wd2 σ H2 Q) I1 ⟨wd1, s2, sr1, h3.imp fun y H2 hy => ⟨y, rfl, hy⟩⟩
      rw [hs] at hA ⊢
      refine Calls.callWith_builtin rfl (Calls.evalArgs_plain ?_)
      refine thn hA fun us s4 ⟨ys, H2, I2, r2, y, ey, wd2, s3, a', _, st2, sr2, ra, h4⟩ => ?_
      subst ey
      obtain ⟨u, rfl, ru⟩ := r2.one
      cases q : pk s3 a' with
      | none => simp only [q] at h4; exact h4.elim
      | some dy =>
        simp only [q] at h4
        have hp := pk_rel sr2 ra q
        cases q2 : cntD xs dy with
        | none => simp only [q2] at h4; exact h4.elim
        | some z =>
          simp only [q2] at h4
          unfold cntD at q2
          cases q3 : toPs xs with
          | none => rw [q3] at q2; cases q2
          | some ds =>
            rw [q3] at q2
            simp only at q2
            cases q4 : toP dy with
            | none => rw [q4] at q2; cases q2
            | some d =>
              rw [q4] at q2
              simp only at q2
              split at q2
              · rename_i hpl
                cases q2
                rw [Bool.and_eq_true, Bool.and_eq_true, decide_eq_true_eq] at hpl
                have hF2 := sr2.le _ _ (st2.up.F _ _ hF)
                obtain ⟨hget2, hcls2, its2, n2, hdata2, rv2⟩ := tun_is I2 hF2
                obtain ⟨as, hr⟩ := Dp.readsAll I2 ds vs its2 (by rw [on.K]; exact dps_rd (l := (st2.up.F).trans sr2.le) xs ds vs q3 rx) rv2
                obtain ⟨bs, hr2⟩ := Dp.reads I2 d y u (by rw [on.K]; exact dp_pr sr2.le q4 hp) ru
                refine PySem.SeqAt.count_tuple_data (vs := its2.toArray) ⟨ob, hget2, hcls2, n2, hdata2⟩ (by simpa using hr) hr2 hpl.1.1 hpl.1.2 ?_ ?_
                · have := on.un
                  have h1 : min (PyData.depthAll ds) d.depth ≤ d.depth := Nat.min_le_right _ _
                  have h2 := hpl.2
                  omega
                · exact ⟨.int _, H2, I2.tok _, ⟨_, rfl⟩, Rs.ok_now h4 sr2 (show RD G wd2.F (.int _) (.int _) from by simp only [RD])⟩
              · cases q2
  · exfalso
    cases w with
    | d y =>
      cases y with
      | tun xs => exact hw ⟨xs, rfl⟩
      | _ => exact h2
    | _ => exact h2
/-! ### repr -/
def isSeq : D → Bool
  | .tup _ => true
  | .lst _ => true
  | _ => false
def reprD : List D → Option D
  | [x] => match toP x with
    | some d => if (isSeq x && d.showable && !d.hasDict && decide (d.depth ≤ 60) && decide (d.shown.length ≤ 16777216)) = true then some (.str d.shown) else none
    | none => none
  | _ => none
def rReprD (K : PySem.W.Frag) : List V → Hp → VK → Prop := fun xs H Q => ∃ a d, xs = [.ref a] ∧ Dp K H (.ref a) d ∧ d.showable = true ∧ d.hasDict = false ∧ d.depth ≤ 60 ∧ d.shown.length ≤ sizeLine ∧ Q (.str d.shown) H
theorem call_reprD {X : Cx} (hg : X.A.guards = some []) (hu : X.A.units + 64 < cLine) : CallR X (.builtin "repr") (rReprD X.K) := by
  intro pins s σ H xs us Q I r h
  obtain ⟨a, d, rfl, hd, h1, h2, h3, h4, q⟩ := h
  obtain ⟨u, rfl, ru⟩ := r.one
  obtain rfl : u = Value.ref a := ru
  obtain ⟨as, hr⟩ := Dp.reads I d (.ref a) (.ref a) hd rfl
  exact repr_of_reads' (h₀ := s.heap) hr h1 (fun z => by rw [h2] at z; cases z) hg (by omega) (fun _ _ e => e) (fun h' u tk hk => ⟨.str d.shown, H, I.kept hk, ⟨_, rfl⟩, q⟩) h4
theorem bis_repr : BiS G (rReprD G.K) reprD := fun F H xs z vs Q l h e hq => by
  match xs, e with
  | [x], e =>
    simp only [reprD] at e
    cases q : toP x with
    | none => rw [q] at e; cases e
    | some d =>
      rw [q] at e
      simp only at e
      split at e
      · rename_i hk
        cases e
        simp only [Bool.and_eq_true, Bool.not_eq_true', decide_eq_true_eq] at hk
        obtain ⟨⟨⟨⟨k1, k2⟩, k3⟩, k4⟩, k5⟩ := hk
        obtain ⟨v, rfl, hv⟩ := h.one
        have hd := dp_pr l q hv
        obtain ⟨a, rfl⟩ : ∃ a, v = .ref a := by
          cases x with
          | tup ys => obtain ⟨a, us, rfl, _⟩ := pr_tup hv; exact ⟨a, rfl⟩
          | lst ys => obtain ⟨a, us, rfl, _⟩ := pr_lst hv; exact ⟨a, rfl⟩
          | _ => cases k1
        exact ⟨a, d, rfl, hd, k2, k3, k4, k5, hq _ F H (New.refl l) rd_str⟩
      · cases e
end
end Mn
set_option Elab.async false
set_option linter.all false
set_option maxRecDepth 100000
set_option maxHeartbeats 1000000
/-! M27: words for the printed texts. -/
namespace Mn
open PySem PySem.Spec PyProof.Rows L2
def addN (x y : D) : Option D := match catN x y with | some z => some z | none => addD x y
theorem ops_addN {G : Gx} : OpS G (fun x y H Q => rCatN G.K x y H Q ∨ rPlus G.K x y H Q) addN := fun F H x y z vx vy Q l hx hy e hq => by
  unfold addN at e
  cases q : catN x y with
  | some w => rw [q] at e; cases e; exact .inl (ops_catN F H x y _ vx vy Q l hx hy q hq)
  | none => rw [q] at e; exact .inr (ops_add F H x y z vx vy Q l hx hy e hq)
def visB (sc : Scope) (x : Str) : Bool := match sc.names.lookup x with | some .local => true | some .cell => true | some .free => true | _ => false
theorem vis_by {sc : Scope} {x : Str} (h : visB sc x = true) : Vis sc x := by
  unfold visB at h
  unfold Vis
  split at h
  · rename_i q; exact .inl q
  · rename_i q; exact .inr (.inl q)
  · rename_i q; exact .inr (.inr q)
  · cases h
def glB (sc : Scope) (x : Str) : Bool := match sc.names.lookup x with | some .globalImplicit => true | _ => false
theorem gl_by {sc : Scope} {x : Str} (h : glB sc x = true) : GlS sc x := by
  unfold glB at h
  split at h
  · rename_i q; exact q
  · cases h
def stoB (c : Cf) (x : Str) : Bool := match c.sc.names.lookup x with | some .local => true | some .cell => c.fn x | _ => false
theorem sto_by {c : Cf} {x : Str} (h : stoB c x = true) : Sto c x := by
  unfold stoB at h
  unfold Sto
  split at h
  · rename_i q; first | exact .inl q | (refine ⟨.inl q, ?_⟩; exact .inr q)
  · rename_i q; first | exact .inr ⟨q, h⟩ | (refine ⟨.inr q, ?_⟩; exact .inl h)
  · cases h
section
variable {G : Gx} {c : Cf} {a b e : Expr} {es : List Expr} {fa fb : M W} {fs : M (List W)} {x : Str} {p pos : Pos}
theorem me_globI {i : Int} (hg : GlS c.sc x) (hm : ∃ t, G.mg x = some (.int i t)) (hd : (x == ("__debug__" : Str)) = false := by decide) : ME G c (.Name x pos) (cs (.int i)) := by
  obtain ⟨t, h⟩ := hm
  exact me_glob (v := .int i) hg h ⟨t, rfl⟩ (fun F => by simp only [RD]) hd
theorem me_globC {n : Nat} (hg : GlS c.sc x) (hm : G.mg x = some (.ref (G.cn n))) (hd : (x == ("__debug__" : Str)) = false := by decide) : ME G c (.Name x pos) (cs (.con n)) :=
  me_glob (v := .ref (G.cn n)) hg hm rfl (fun F => by simp only [RD]) hd
theorem me_add (ha : ME G c a fa) (hb : ME G c b fb) : ME G c (.BinOp a .Add b pos) (b2 addD fa fb) := me_b2 (fun X on => by rw [← on.K]; exact opr_plus) ops_add ha hb
theorem me_addN (ha : ME G c a fa) (hb : ME G c b fb) : ME G c (.BinOp a .Add b pos) (b2 addN fa fb) := me_b2 (r := fun x y H Q => rCatN G.K x y H Q ∨ rPlus G.K x y H Q) (fun X on => by rw [← on.K]; exact opr_or opr_catN opr_plus) ops_addN ha hb
theorem me_min (ha : ME G c a fa) (hb : ME G c b fb) : ME G c (.BinOp a .Sub b pos) (b2 subD fa fb) := me_b2 (fun X on => op_sub) ops_sub ha hb
theorem me_mul (ha : ME G c a fa) (hb : ME G c b fb) : ME G c (.BinOp a .Mult b pos) (b2 mulD fa fb) := me_b2 (r := rTimes G.K) (fun X on => by rw [← on.K]; exact opr_times) ops_mul ha hb
theorem me_fdiv (ha : ME G c a fa) (hb : ME G c b fb) : ME G c (.BinOp a .FloorDiv b pos) (b2 fdivD fa fb) := me_b2 (fun X on => op_fdiv) ops_fdiv ha hb
theorem me_mod (ha : ME G c a fa) (hb : ME G c b fb) : ME G c (.BinOp a .Mod b pos) (b2 modD fa fb) := me_b2 (fun X on => op_mod) ops_mod ha hb
theorem me_pow (ha : ME G c a fa) (hb : ME G c b fb) : ME G c (.BinOp a .Pow b pos) (b2 powD fa fb) := me_b2 (fun X on => op_pow) ops_pow ha hb
theorem ml_cat (ha : ME G c a fa) (hb : ME G c b fb) : ML G c (.BinOp a .Add b pos) (b2L catL fa fb) := ml_b2 (r := rCatQ G.K) (fun X on => by rw [← on.K]; exact opr_catL) opl_cat ha hb
theorem me_neg (ha : ME G c a fa) : ME G c (.UnaryOp .USub a pos) (u1 negD fa) := me_u1 (fun X on => un_neg) uns_neg ha
theorem on_u {X : Cx} (on : On G c X) : X.A.units + 64 < cLine := by have := on.un; omega
theorem me_lt (ha : ME G c a fa) (hb : ME G c b fb) (hm : behindInMarks .Lt b = false := by first | exact nomark _ | rfl) : ME G c (.Compare a [.Lt] [b] pos) (b2 ltD fa fb) := me_cmp (fun X on => op_lt) ops_lt ha hb hm
theorem me_le (ha : ME G c a fa) (hb : ME G c b fb) (hm : behindInMarks .LtE b = false := by first | exact nomark _ | rfl) : ME G c (.Compare a [.LtE] [b] pos) (b2 leD fa fb) := me_cmp (fun X on => op_le) ops_le ha hb hm
theorem me_gt (ha : ME G c a fa) (hb : ME G c b fb) (hm : behindInMarks .Gt b = false := by first | exact nomark _ | rfl) : ME G c (.Compare a [.Gt] [b] pos) (b2 gtD fa fb) := me_cmp (fun X on => op_gt) ops_gt ha hb hm
theorem me_ge (ha : ME G c a fa) (hb : ME G c b fb) (hm : behindInMarks .GtE b = false := by first | exact nomark _ | rfl) : ME G c (.Compare a [.GtE] [b] pos) (b2 geD fa fb) := me_cmp (fun X on => op_ge) ops_ge ha hb hm
theorem me_eq (ha : ME G c a fa) (hb : ME G c b fb) (hm : behindInMarks .Eq b = false := by first | exact nomark _ | rfl) : ME G c (.Compare a [.Eq] [b] pos) (b2 eqD fa fb) := me_cmp (fun X on => by rw [← on.K]; exact opr_or op_eq (op_eqD (on_u on))) ops_eq ha hb hm
theorem me_ne (ha : ME G c a fa) (hb : ME G c b fb) (hm : behindInMarks .NotEq b = false := by first | exact nomark _ | rfl) : ME G c (.Compare a [.NotEq] [b] pos) (b2 neD fa fb) := me_cmp (fun X on => by rw [← on.K]; exact opr_or op_ne (op_neD (on_u on))) ops_ne ha hb hm
theorem me_is (ha : ME G c a fa) (hb : ME G c b fb) (hm : behindInMarks .Is b = false := by first | exact nomark _ | rfl) : ME G c (.Compare a [.Is] [b] pos) (b2 isN fa fb) := me_cmp (fun X on => op_isN) ops_isN ha hb hm
theorem me_isnot (ha : ME G c a fa) (hb : ME G c b fb) (hm : behindInMarks .IsNot b = false := by first | exact nomark _ | rfl) : ME G c (.Compare a [.IsNot] [b] pos) (b2 notN fa fb) := me_cmp (fun X on => op_notN) ops_notN ha hb hm
theorem mt_lt (ha : ME G c a fa) (hb : ME G c b fb) (hm : behindInMarks .Lt b = false := by first | exact nomark _ | rfl) : MT G c (.Compare a [.Lt] [b] pos) (tst (b2 ltD fa fb)) := mt_cmp (fun X on => op_lt) ops_lt ha hb hm
theorem mt_le (ha : ME G c a fa) (hb : ME G c b fb) (hm : behindInMarks .LtE b = false := by first | exact nomark _ | rfl) : MT G c (.Compare a [.LtE] [b] pos) (tst (b2 leD fa fb)) := mt_cmp (fun X on => op_le) ops_le ha hb hm
theorem mt_gt (ha : ME G c a fa) (hb : ME G c b fb) (hm : behindInMarks .Gt b = false := by first | exact nomark _ | rfl) : MT G c (.Compare a [.Gt] [b] pos) (tst (b2 gtD fa fb)) := mt_cmp (fun X on => op_gt) ops_gt ha hb hm
theorem mt_ge (ha : ME G c a fa) (hb : ME G c b fb) (hm : behindInMarks .GtE b = false := by first | exact nomark _ | rfl) : MT G c (.Compare a [.GtE] [b] pos) (tst (b2 geD fa fb)) := mt_cmp (fun X on => op_ge) ops_ge ha hb hm
theorem mt_eq (ha : ME G c a fa) (hb : ME G c b fb) (hm : behindInMarks .Eq b = false := by first | exact nomark _ | rfl) : MT G c (.Compare a [.Eq] [b] pos) (tst (b2 eqD fa fb)) := mt_cmp (fun X on => by rw [← on.K]; exact opr_or op_eq (op_eqD (on_u on))) ops_eq ha hb hm
theorem mt_ne (ha : ME G c a fa) (hb : ME G c b fb) (hm : behindInMarks .NotEq b = false := by first | exact nomark _ | rfl) : MT G c (.Compare a [.NotEq] [b] pos) (tst (b2 neD fa fb)) := mt_cmp (fun X on => by rw [← on.K]; exact opr_or op_ne (op_neD (on_u on))) ops_ne ha hb hm
theorem mt_is (ha : ME G c a fa) (hb : ME G c b fb) (hm : behindInMarks .Is b = false := by first | exact nomark _ | rfl) : MT G c (.Compare a [.Is] [b] pos) (tst (b2 isN fa fb)) := mt_cmp (fun X on => op_isN) ops_isN ha hb hm
theorem mt_isnot (ha : ME G c a fa) (hb : ME G c b fb) (hm : behindInMarks .IsNot b = false := by first | exact nomark _ | rfl) : MT G c (.Compare a [.IsNot] [b] pos) (tst (b2 notN fa fb)) := mt_cmp (fun X on => op_notN) ops_notN ha hb hm
/-! built-ins, by name -/
theorem me_len (hg : GlS c.sc "len") (hm : G.mg "len" = none) (ha : MA G c (e :: es) fs) (he : ∀ env, starEach (e :: es) env = (false, eval e env) :: starEach es env := by intro _; rfl) (hpl : ∀ env, (backTo pos (starEach es env)).any (·.1) = false := by intro _; rfl) : ME G c (.Call (.Name "len" p) (e :: es) [] pos) (bi lenD fs) :=
  me_bi (r := rLen2 G.K) (fun X on => by rw [← on.K]; exact call_len2) bis_len hg hm boot_len ha (by decide) (by decide) he hpl
theorem me_abs (hg : GlS c.sc "abs") (hm : G.mg "abs" = none) (ha : MA G c (e :: es) fs) (he : ∀ env, starEach (e :: es) env = (false, eval e env) :: starEach es env := by intro _; rfl) (hpl : ∀ env, (backTo pos (starEach es env)).any (·.1) = false := by intro _; rfl) : ME G c (.Call (.Name "abs" p) (e :: es) [] pos) (bi absD fs) :=
  me_bi (fun X on => call_abs) bis_abs hg hm boot_abs ha (by decide) (by decide) he hpl
theorem me_intc (hg : GlS c.sc "int") (hm : G.mg "int" = none) (ha : MA G c (e :: es) fs) (he : ∀ env, starEach (e :: es) env = (false, eval e env) :: starEach es env := by intro _; rfl) (hpl : ∀ env, (backTo pos (starEach es env)).any (·.1) = false := by intro _; rfl) : ME G c (.Call (.Name "int" p) (e :: es) [] pos) (bi intD fs) :=
  me_biT (fun X on => call_int1) bis_int hg hm boot_int ha (by decide) (by decide) he hpl
theorem me_minc (hc : c.calm = true) (hg : GlS c.sc "min") (hm : G.mg "min" = none) (ha : MA G c (e :: es) fs) (he : ∀ env, starEach (e :: es) env = (false, eval e env) :: starEach es env := by intro _; rfl) (hpl : ∀ env, (backTo pos (starEach es env)).any (·.1) = false := by intro _; rfl) : ME G c (.Call (.Name "min" p) (e :: es) [] pos) (bi minD fs) :=
  me_bi (r := rMin2 G.K) (fun X on => by rw [← on.K]; exact call_minA (on.cm hc)) bis_min hg hm boot_min ha (by decide) (by decide) he hpl
theorem me_maxc (hc : c.calm = true) (hg : GlS c.sc "max") (hm : G.mg "max" = none) (ha : MA G c (e :: es) fs) (he : ∀ env, starEach (e :: es) env = (false, eval e env) :: starEach es env := by intro _; rfl) (hpl : ∀ env, (backTo pos (starEach es env)).any (·.1) = false := by intro _; rfl) : ME G c (.Call (.Name "max" p) (e :: es) [] pos) (bi maxD fs) :=
  me_bi (r := rMax2 G.K) (fun X on => by rw [← on.K]; exact call_maxA (on.cm hc)) bis_max hg hm boot_max ha (by decide) (by decide) he hpl
theorem me_sum (hc : c.calm = true) (hg : GlS c.sc "sum") (hm : G.mg "sum" = none) (ha : MA G c (e :: es) fs) (he : ∀ env, starEach (e :: es) env = (false, eval e env) :: starEach es env := by intro _; rfl) (hpl : ∀ env, (backTo pos (starEach es env)).any (·.1) = false := by intro _; rfl) : ME G c (.Call (.Name "sum" p) (e :: es) [] pos) (bi sumD fs) :=
  me_bi (r := rSum2 G.K) (fun X on => by rw [← on.K]; exact call_sumA (on.cm hc)) bis_sum hg hm boot_sum ha (by decide) (by decide) he hpl
theorem me_divmod (hg : GlS c.sc "divmod") (hm : G.mg "divmod" = none) (ha : MA G c (e :: es) fs) (he : ∀ env, starEach (e :: es) env = (false, eval e env) :: starEach es env := by intro _; rfl) (hpl : ∀ env, (backTo pos (starEach es env)).any (·.1) = false := by intro _; rfl) : ME G c (.Call (.Name "divmod" p) (e :: es) [] pos) (bi divD fs) :=
  me_bi (fun X on => call_divmod) bis_div hg hm boot_divmod ha (by decide) (by decide) he hpl
theorem me_tuple (hg : GlS c.sc "tuple") (hm : G.mg "tuple" = none) (ha : MA G c (e :: es) fs) (he : ∀ env, starEach (e :: es) env = (false, eval e env) :: starEach es env := by intro _; rfl) (hpl : ∀ env, (backTo pos (starEach es env)).any (·.1) = false := by intro _; rfl) : ME G c (.Call (.Name "tuple" p) (e :: es) [] pos) (bi tupD fs) :=
  me_biT (r := fun xs H Q => ∃ p ys, xs = [.ref p] ∧ ((SqL G.K H p ys ∧ ∀ l, H l = none → Q (.ref l) (upd H l (.tup ys))) ∨ (SqT G.K H p ys ∧ Q (.ref p) H))) (fun X on => by rw [← on.K]; exact call_tuple_of) bis_tup hg hm boot_tuple ha (by decide) (by decide) he hpl
theorem ml_list (hg : GlS c.sc "list") (hm : G.mg "list" = none) (ha : MA G c (e :: es) fs) (he : ∀ env, starEach (e :: es) env = (false, eval e env) :: starEach es env := by intro _; rfl) (hpl : ∀ env, (backTo pos (starEach es env)).any (·.1) = false := by intro _; rfl) : ML G c (.Call (.Name "list" p) (e :: es) [] pos) (biL lstD fs) :=
  ml_biT (r := fun xs H Q => ∃ p ys, xs = [.ref p] ∧ (SqL G.K H p ys ∨ SqT G.K H p ys) ∧ ∀ l, H l = none → Q (.ref l) (upd H l (.lst ys))) (fun X on => by rw [← on.K]; exact call_list_of) bil_lst hg hm boot_list ha (by decide) (by decide) he hpl
theorem me_isinst (hg : GlS c.sc "isinstance") (hm : G.mg "isinstance" = none) (ha : MA G c (e :: es) fs) (he : ∀ env, starEach (e :: es) env = (false, eval e env) :: starEach es env := by intro _; rfl) (hpl : ∀ env, (backTo pos (starEach es env)).any (·.1) = false := by intro _; rfl) : ME G c (.Call (.Name "isinstance" p) (e :: es) [] pos) (bi isiD fs) :=
  me_bi (r := rIsi G.K) (fun X on => by rw [← on.K]; exact call_isi) bis_isi hg hm boot_isinstance ha (by decide) (by decide) he hpl
theorem me_repr (hg : GlS c.sc "repr") (hm : G.mg "repr" = none) (ha : MA G c (e :: es) fs) (he : ∀ env, starEach (e :: es) env = (false, eval e env) :: starEach es env := by intro _; rfl) (hpl : ∀ env, (backTo pos (starEach es env)).any (·.1) = false := by intro _; rfl) : ME G c (.Call (.Name "repr" p) (e :: es) [] pos) (bi reprD fs) :=
  me_bi (r := rReprD G.K) (fun X on => by rw [← on.K]; exact call_reprD on.gd (on_u on)) bis_repr hg hm boot_repr ha (by decide) (by decide) he hpl
end
theorem zip_one {f : Str} {vs : List V} (hv : vs.length = [f].length) : ([f].zip vs).lookup f = vs[0]? := by
  match vs, hv with
  | [v], _ => simp [List.lookup]
/-! ### defs as the head tells them -/
section
variable {G : Gx} {n k : Nat} {x : Str} {pr : Arguments} {body : List Stmt} {scope : Scope} {N ps : List Str} {b : St}
theorem df_of (hex : G.ex = none) (U : ∃ fd, FunD G.K x x pr body scope [] [] (G.cn n) fd) (S : FnScope N ps scope)
    (hb : ∀ (nm ql : Str) (bd : List Stmt) (scp : Scope) (kV doc pm : Value) (an : Option Addr) (cdv ct : Value) (us : List Value), us.length = ps.length → bindArgs (PySem.W.fnOf nm ql pr bd scp .none kV doc pm an cdv ct) ⟨us, []⟩ = pure (ps.zip us))
    (hm : ∀ cdv : Value, (∀ (oc : Value) (od : Option Addr) (fd : FuncData) (osl : Array (Option Value)), G.K.lookup (G.cn n) = some ⟨oc, od, .func fd, osl⟩ → fd.code = cdv) → PySem.W.codeIn G.K cdv x = true → MSs G (.dfn N scope k false x cdv) body b) : Df G (k + 1) n pr ps (fn N.length ps.length b) := by
  obtain ⟨fd, U⟩ := U
  obtain ⟨oc, od, dV, kV, doc, pm, an, cdv, ct, osl, rfl, lk, hcd, hdV, _⟩ := U.ex
  obtain rfl : dV = .none := by
    rcases hdV with ⟨_, h⟩ | ⟨h, _⟩
    · exact h
    · exact absurd rfl h
  refine ⟨x, x, body, scope, kV, doc, pm, cdv, ct, an, fn_g hex lk hcd S (hm cdv (fun oc' od' fd' osl' e => ?_) hcd), U.kp, .all fun us hl => hb _ _ _ _ _ _ _ _ _ _ us hl, fun ws g h => fn_len ws g h⟩
  rw [lk] at e
  cases e
  rfl
theorem dft_of {a : Str} {bT : (List Cell → Fo) → St} (U : ∃ fd, FunD G.K x x pr body scope [] [] (G.cn n) fd) (S : FnScope N [a] scope)
    (hb : ∀ (nm ql : Str) (bd : List Stmt) (scp : Scope) (kV doc pm : Value) (an : Option Addr) (cdv ct : Value) (us : List Value), us.length = [a].length → bindArgs (PySem.W.fnOf nm ql pr bd scp .none kV doc pm an cdv ct) ⟨us, []⟩ = pure ([a].zip us))
    (hm : ∀ (cdv : Value) (t : Th) (T : List Cell → Fo), t.T = T → MSs (G.wi none (some t)) (.dfn N scope k true x cdv) body (bT T)) : DfT G k n x (fnT N.length bT) := by
  obtain ⟨fd, U⟩ := U
  obtain ⟨oc, od, dV, kV, doc, pm, an, cdv, ct, osl, rfl, lk, hcd, hdV, _⟩ := U.ex
  obtain rfl : dV = .none := by
    rcases hdV with ⟨_, h⟩ | ⟨h, _⟩
    · exact h
    · exact absurd rfl h
  exact ⟨pr, body, scope, .none, kV, doc, pm, cdv, ct, oc, an, od, osl, N, a, bT, U.kp, lk, hcd, .all fun us hl => hb _ _ _ _ _ _ _ _ _ _ us hl, S, rfl, hm cdv⟩
end
end Mn
set_option Elab.async false
set_option linter.all false
set_option maxRecDepth 100000
set_option maxHeartbeats 1000000
/-! M28: x, y = a, b by a tuple. -/
namespace Mn
open PySem PySem.Spec PyProof.Rows L2
section
variable {G : Gx} {c : Cf} {pos : Pos}
theorem ms_par3c {i j l : Nat} {x y z : Str} {p q r : Expr} {fp fq fr : M W} {px py pz pt : Pos} {kt k2 pt2} (hc : c.calm = true) (hi : c.N[i]? = some x) (hj : c.N[j]? = some y) (hl : c.N[l]? = some z) (hx : Sto c x) (hy : Sto c y) (hz : Sto c z)
    (ha : MA G c [p, q, r] (args [fp, fq, fr])) (hs : ∀ env, env.scope = c.sc → swapsWithSole [.Tuple [.Name x px, .Name y py, .Name z pz] kt pt] (.Tuple [p, q, r] k2 pt2) pos.line env = pure false := by intro _ _; rfl)
    (hw : swappedStores [.Tuple [.Name x px, .Name y py, .Name z pz] kt pt] (.Tuple [p, q, r] k2 pt2) (env0 c.sc) = pure none) :
    MS G c (.Assign [.Tuple [.Name x px, .Name y py, .Name z pz] kt pt] (.Tuple [p, q, r] k2 pt2) pos) (par [i, j, l] (args [fp, fq, fr])) := fun X on Wx tk => by
  have nd : X.N.Nodup := by rw [on.N]; exact on.nd
  refine (ps_asg (pe_tup (ha X on Wx tk)) (pg_tup (n := 3) (on.cm hc) (pgs_cons (pg_name (i := i) nd (by rw [on.N]; exact hi) (hx.loc on) (hx.fn on)) (pgs_cons (pg_name (i := j) nd (by rw [on.N]; exact hj) (hy.loc on) (hy.fn on)) (pgs_cons (pg_name (i := l) nd (by rw [on.N]; exact hl) (hz.loc on) (hz.fn on)) pgs_nil (by rfl)) (by rfl)) (by rfl)) (by rfl) (by rfl)) (hs _ on.sc) (by rw [swapped0, on.sc]; exact hw) (by rfl)).imp fun D σ H h => ?_
  obtain ⟨wd, s, sr, h⟩ := h
  refine ⟨wd, s, sr, (RsS.bd (rel := rA G) h).imp fun xs H1 ⟨wd1, s1, ws, _, _, sr1, r1, h1⟩ => ?_⟩
  match ws, r1, h1 with
  | [], _, h1 => exact h1.elim
  | [_], _, h1 => exact h1.elim
  | [_, _], _, h1 => exact h1.elim
  | _ :: _ :: _ :: _ :: _, _, h1 =>
    have h1 := h1
    simp at h1
    exact h1.elim
  | [w1, w2, w3], r1, h1 =>
    have r1 : RWs G wd1 [w1, w2, w3] xs := r1
    simp only [RWs] at r1
    obtain ⟨v1, _, rfl, a1, v2, _, rfl, a2, v3, _, rfl, a3, rfl⟩ := r1
    refine ⟨by simp [sizeLine_eq], fun a ha => ⟨a, _, rfl, SqT.of upd_same, rfl, v1, _, rfl, v2, _, rfl, v3, _, rfl, rfl, ?_⟩⟩
    have N : New wd1.F H1 wd1.F (upd H1 a (.tup [v1, v2, v3])) := ⟨Le.refl _, sr1.le.trans (Le.new ha), Le.new ha, (fun b e n => absurd e n), fun _ _ h => h⟩
    have sr2 := sr1.new N
    exact RsS.nx_now (RsS.step N.stp h1) (((sr2.store a1 i).store a2 j).store a3 l)
theorem ms_par2c {i j : Nat} {x y : Str} {p q : Expr} {fp fq : M W} {px py pt : Pos} {kt k2 pt2} (hc : c.calm = true) (hi : c.N[i]? = some x) (hj : c.N[j]? = some y) (hx : Sto c x) (hy : Sto c y)
    (ha : MA G c [p, q] (args [fp, fq])) (hs : ∀ env, env.scope = c.sc → swapsWithSole [.Tuple [.Name x px, .Name y py] kt pt] (.Tuple [p, q] k2 pt2) pos.line env = pure false := by intro _ _; rfl)
    (hw : swappedStores [.Tuple [.Name x px, .Name y py] kt pt] (.Tuple [p, q] k2 pt2) (env0 c.sc) = pure none) :
    MS G c (.Assign [.Tuple [.Name x px, .Name y py] kt pt] (.Tuple [p, q] k2 pt2) pos) (par [i, j] (args [fp, fq])) := fun X on Wx tk => by
  have nd : X.N.Nodup := by rw [on.N]; exact on.nd
  refine (ps_asg (pe_tup (ha X on Wx tk)) (pg_tup (n := 2) (on.cm hc) (pgs_cons (pg_name (i := i) nd (by rw [on.N]; exact hi) (hx.loc on) (hx.fn on)) (pgs_cons (pg_name (i := j) nd (by rw [on.N]; exact hj) (hy.loc on) (hy.fn on)) pgs_nil (by rfl)) (by rfl)) (by rfl) (by rfl)) (hs _ on.sc) (by rw [swapped0, on.sc]; exact hw) (by rfl)).imp fun D σ H h => ?_
  obtain ⟨wd, s, sr, h⟩ := h
  refine ⟨wd, s, sr, (RsS.bd (rel := rA G) h).imp fun xs H1 ⟨wd1, s1, ws, _, _, sr1, r1, h1⟩ => ?_⟩
  match ws, r1, h1 with
  | [], _, h1 => exact h1.elim
  | [_], _, h1 => exact h1.elim
  | _ :: _ :: _ :: _, _, h1 =>
    have h1 := h1
    simp at h1
    exact h1.elim
  | [w1, w2], r1, h1 =>
    have r1 : RWs G wd1 [w1, w2] xs := r1
    simp only [RWs] at r1
    obtain ⟨v1, _, rfl, a1, v2, _, rfl, a2, rfl⟩ := r1
    refine ⟨by simp [sizeLine_eq], fun a ha => ⟨a, _, rfl, SqT.of upd_same, rfl, v1, _, rfl, v2, _, rfl, rfl, ?_⟩⟩
    have N : New wd1.F H1 wd1.F (upd H1 a (.tup [v1, v2])) := ⟨Le.refl _, sr1.le.trans (Le.new ha), Le.new ha, (fun b e n => absurd e n), fun _ _ h => h⟩
    have sr2 := sr1.new N
    exact RsS.nx_now (RsS.step N.stp h1) ((sr2.store a1 i).store a2 j)
end
end Mn
set_option Elab.async false
set_option linter.all false
set_option maxRecDepth 100000
set_option maxHeartbeats 1000000
/-! M29: the head: what the top leaves, told once. -/
namespace Mn
open PySem PySem.Spec PyProof.Rows L2 LamX He PySem.W
/-- the making of an error class, as the text has it -/
structure InD where
  cls : Str
  name : Str
  qual : Str
  params : Arguments
  body : List Stmt
  scope : Scope
  fld : Str
abbrev InW : Type := Option (Str × Str × Arguments × FuncBody × Scope × Addr × List Str × Addr)
def iniA (K : Frag) (x : Str) : Addr := ma K (ga K x) "__init__"
def inW (K : Frag) (x : Str) : InW := match K.lookup (iniA K x) with
  | some ⟨_, _, .func fd, _⟩ => some (fd.name, fd.qualname, fd.params, fd.body, fd.scope, fd.globals, fd.closure.map (·.1), fd.builtins)
  | _ => none
def InD.val (d : InD) : InW := some (d.name, d.qual, d.params, .stmts d.body, d.scope, mainGlobals, ["__class__"], builtinsNs)
abbrev AlY : Type := AlX × List InW
def kOf (n : Nat) (g : Addr → Option Obj) : Frag := frT g (asD g n ++ [cStatics])
def obsY (n : Nat) (fa : List Fa) (fn : List DefD) (tf : List Defn) (ex : Frag → Bool) (ins : List InD) (g : Addr → Option Obj) : AlY :=
  ((obsT fa fn [] (kOf n g), ex (kOf n g) && tabsB g tf (kOf n g)), ins.map fun d => inW (kOf n g) d.cls)
def valY (fn : List DefD) (ins : List InD) (w : World) : AlY := (valX fn [] w, ins.map InD.val)
structure SaysY (fa : List Fa) (fn : List DefD) (tf : List Defn) (ex : Frag → Bool) (ins : List InD) (w : World) (h : Heap) (K : Frag) : Prop where
  x : SaysX fa fn [] tf ex w h K
  i : ins.map (fun d => inW K d.cls) = ins.map InD.val
theorem saysY_of {n : Nat} {fa : List Fa} {fn : List DefD} {tf : List Defn} {ex : Frag → Bool} {ins : List InD} {w : World} {h : Heap} (e : obsY n fa fn tf ex ins h.get? = valY fn ins w) : SaysY fa fn tf ex ins w h (kOf n h.get?) := by
  have e1 : obsT fa fn [] (kOf n h.get?) = valT fn [] w := congrArg (fun z : AlY => z.1.1) e
  have e2 : (ex (kOf n h.get?) && tabsB h.get? tf (kOf n h.get?)) = true := congrArg (fun z : AlY => z.1.2) e
  have e3 : ins.map (fun d => inW (kOf n h.get?) d.cls) = ins.map InD.val := congrArg (fun z : AlY => z.2) e
  obtain ⟨h1, h2⟩ := ba e2
  have key : ∀ p ∈ tf, codeHdIn (kOf n h.get?) (cT (kOf n h.get?) p).1 (cT (kOf n h.get?) p).2 = true ∧ ∃ o, h.get? (cT (kOf n h.get?) p).2 = some o ∧ emptyTab o = true := fun p hp => by
    obtain ⟨h3, h4⟩ := ba (List.all_eq_true.mp h2 p hp)
    refine ⟨h3, ?_⟩
    cases q : h.get? (cT (kOf n h.get?) p).2 with
    | none => rw [q] at h4; cases h4
    | some o => rw [q] at h4; exact ⟨o, rfl, h4⟩
  refine ⟨⟨e1, h1, fun p hp => (key p hp).1, fun p hp => ?_, fun p hp => ?_⟩, e3⟩
  · obtain ⟨_, o, q, z⟩ := key p hp; exact frT_none q z
  · obtain ⟨_, o, q, z⟩ := key p hp; rw [q, emptyTab_eq z]
def hookY (n : Nat) (fa : List Fa) (fn : List DefD) (tf : List Defn) (ex : Frag → Bool) (ins : List InD) : Hook where
  α := AlY
  obs := fun s => obsY n fa fn tf ex ins s.heap.get?
  val := fun w => valY fn ins w
  says := fun w h => ∃ K : Frag, K.In h ∧ SaysY fa fn tf ex ins w h K
  of := fun _ _ e => ⟨_, frT_in, saysY_of e⟩
  keeps := fun _ _ _ ⟨K, hK, c⟩ k => ⟨K, Frag.In.keeps hK k, ⟨⟨c.x.t, c.x.more, c.x.hd, c.x.out, fun p hp => k _ _ (c.x.empty p hp)⟩, c.i⟩⟩
theorem obsY_eq {n : Nat} {fa : List Fa} {fn : List DefD} {tf : List Defn} {ex : Frag → Bool} {ins : List InD} {g : Addr → Option Obj} {s : Shared} (h : ∀ a, g a = s.heap.get? a) : obsY n fa fn tf ex ins g = (hookY n fa fn tf ex ins).obs s := by
  have e : g = s.heap.get? := funext h
  rw [e] <;> rfl
/-! ### what is asked of an error class, as one Bool -/
def oexB (K : Frag) (C : Addr) : Bool := match K.lookup C with
  | some ⟨.type t, _, .cls cd, sl⟩ => t == "type" && (match cd.mro, sl.toList with
    | .ref C' :: bm, [_, _, _, _, some (.builtin n), _] => C' == C && n == "ValueError.__new__" && !cd.hasDel && cd.hasDict && HandSPX.refsVE bm
    | _, _ => false)
  | _ => false
def excCB (K : Frag) (D : Addr) : Bool := decide (findIn K (.ref D) "__getattribute__" = some (some (.builtin "BaseException.__getattribute__"))) && decide (findIn K (.ref D) "__getattr__" = some none) && decide (subIn K (.ref D) (.type "BaseException") = some true) && hasDictIn K D &&
  decide (findIn K (.ref D) "__class__" = some (some (.builtin "object.__class__"))) && decide (specialIn K (.builtin "object.__class__") "__get__" = some (some (.builtin "getset_descriptor.__get__"))) && decide (takesIn K (.builtin "object.__class__") = some true) && decide (mroIn K D (.type "object") = some true)
theorem excCB_ok {K : Frag} {D : Addr} (h : excCB K D = true) : ExcC K D := by
  unfold excCB at h
  simp only [Bool.and_eq_true, decide_eq_true_eq] at h
  obtain ⟨⟨⟨⟨⟨⟨⟨h1, h2⟩, h3⟩, h4⟩, h5⟩, h6⟩, h7⟩, h8⟩ := h
  exact ⟨h1, h2, h3, h4, h5, h6, h7, h8⟩
/-- the making's code and cell -/
def iniB (K : Frag) (file : Str) (x qual : Str) : Bool := match K.lookup (iniA K x) with
  | some ⟨_, _, .func fd, _⟩ => (match fd.defaults with | .none => true | _ => false) && codeIn K fd.code qual && (match fd.code with
      | .ref cda => (match K.lookup cda with
        | some ⟨_, _, .fields vs, _⟩ => (match (vs[2]? : Option Value) with | some (.str f _) => file == f | _ => false)
        | _ => false)
      | _ => false) && (match fd.closure with
      | [(_, cc)] => (match K.lookup cc with | some ⟨_, _, .cell (some (.ref C)), _⟩ => C == ga K x | _ => false)
      | _ => false)
  | _ => false
def errB (K : Frag) (file : Str) (x qual fld : Str) : Bool :=
  oexB K (ga K x) && decide (findIn K (.ref (ga K x)) "__setattr__" = some (some (.builtin "object.__setattr__"))) && decide (subIn K (.ref (ga K x)) (.type "BaseException") = some true) && decide (typeIn K (.ref (ga K x)) = some (.type "type")) && keepIn K (.ref (ga K x)) &&
  decide (findIn K (.ref (ga K x)) "__init__" = some (some (.ref (iniA K x)))) && decide (typeIn K (.ref (iniA K x)) = some (.type "function")) && decide (findIn K (.ref (ga K x)) fld = some none) && decide (mroIn K (ga K x) (.ref (ga K x)) = some true) &&
  decide (ks_superIn K (ga K x) (ga K x) "__init__" = some (some (.builtin "ValueError.__init__"))) && decide (subIn K (.ref (ga K x)) (.type "ValueError") = some true) && decide (nsIn K cStatics "thirdparty.any" = some none) && iniB K file x qual && xfB K (ga K x) && excCB K (ga K x)
theorem oexB_ok {K : Frag} {C : Addr} (h : oexB K C = true) : ∃ nm q N bs bm sn sub ab col dd k0 k1 k2 k3 k5, K.lookup C = some (excClassObj nm q C N bs bm true sn sub ab col dd k0 k1 k2 k3 k5 "ValueError.__new__") ∧ HandSPX.refsVE bm = true := by
  unfold oexB at h
  split at h
  · rename_i t dd cd sl ho
    rw [Bool.and_eq_true] at h
    obtain ⟨h0, h⟩ := h
    split at h
    · rename_i C' bm k0 k1 k2 k3 n k5 hm hs
      simp only [Bool.and_eq_true, beq_iff_eq, Bool.not_eq_true'] at h h0
      obtain ⟨⟨⟨⟨h1, h2⟩, h3⟩, h4⟩, h5⟩ := h
      obtain ⟨nm, bs, mro, ns, qn, hd, sn, sub, ab, col, del⟩ := cd
      dsimp only at hm h3 h4
      subst hm h3 h4 h1 h2 h0
      have hsl : sl = #[k0, k1, k2, k3, some (.builtin "ValueError.__new__"), k5] := by
        obtain ⟨l⟩ := sl
        simp only at hs
        rw [hs]
      subst hsl
      exact ⟨nm, qn, ns, bs, bm, sn, sub, ab, col, dd, k0, k1, k2, k3, k5, ho, h5⟩
    · cases h
  · cases h
end Mn
set_option Elab.async false
set_option linter.all false
set_option maxRecDepth 100000
set_option maxHeartbeats 1000000
/-! M30: an error class as the head tells it. -/
namespace Mn
open PySem PySem.Spec PyProof.Rows L2 LamX He PySem.W
theorem inW_ok {K : Frag} {x : Str} {d : InD} (h : inW K x = d.val) : ∃ (oc : Value) (od : Option Addr) (osl : Array (Option Value)) (dV kV doc pm ct cdv : Value) (an : Option Addr) (cc : Addr), K.lookup (iniA K x) = some ⟨oc, od, .func (ksFn d.name d.qual d.params d.body d.scope dV kV doc pm an cdv ct cc), osl⟩ := by
  unfold inW at h
  split at h
  · rename_i oc od fd osl hl
    have h := Option.some.inj h
    obtain ⟨nm, qn, pr, bd, sc, gl, cl, dV, kV, doc, pm, an, cd, ct, bn⟩ := fd
    simp only [Prod.mk.injEq] at h
    obtain ⟨h1, h2, h3, h4, h5, h6, h7, h8⟩ := h
    subst h1 h2 h3 h4 h5 h6 h8
    match cl, h7 with
    | [(y, cc)], h7 =>
      obtain rfl : y = "__class__" := by simpa using h7
      exact ⟨oc, od, osl, dV, kV, doc, pm, ct, cd, an, cc, hl⟩
    | [], h7 => simp at h7
    | _ :: _ :: _, h7 => simp at h7
  · cases h
theorem iniB_ok {K : Frag} {file x qual : Str} {oc : Value} {od : Option Addr} {osl : Array (Option Value)} {fd : FuncData} {y : Str} {cc : Addr} (hl : K.lookup (iniA K x) = some ⟨oc, od, .func fd, osl⟩) (hc : fd.closure = [(y, cc)]) (h : iniB K file x qual = true) :
    fd.defaults = .none ∧ codeIn K fd.code qual = true ∧ (∃ cda ccl cdd vs ccs f tf, fd.code = .ref cda ∧ K.lookup cda = some ⟨ccl, cdd, .fields vs, ccs⟩ ∧ vs[2]? = some (.str f tf) ∧ (file == f) = true) ∧ ∃ cl cld csl, K.lookup cc = some ⟨cl, cld, .cell (some (.ref (ga K x))), csl⟩ := by
  unfold iniB at h
  rw [hl] at h
  simp only [hc] at h
  obtain ⟨h, h3⟩ := ba h
  obtain ⟨h1, h2⟩ := ba h
  obtain ⟨h0, h1⟩ := ba h1
  refine ⟨?_, h1, ?_, ?_⟩
  · split at h0
    · assumption
    · cases h0
  · split at h2
    · rename_i cda e
      split at h2
      · rename_i ccl cdd vs ccs e2
        split at h2
        · rename_i f tf e3
          exact ⟨_, _, _, _, _, _, _, e, e2, e3, h2⟩
        · cases h2
      · cases h2
    · cases h2
  · split at h3
    · rename_i cl cld C csl e
      obtain rfl : C = ga K x := beq_iff_eq.mp h3
      exact ⟨_, _, _, e⟩
    · cases h3
structure ErrOk (K : Frag) (C fI : Addr) (fld : Str) : Prop where
  T : OexC K C
  init : findIn K (.ref C) "__init__" = some (some (.ref fI))
  fun_ : typeIn K (.ref fI) = some (.type "function")
  hno : findIn K (.ref C) fld = some none
  mro : mroIn K C (.ref C) = some true
  sup : ks_superIn K C C "__init__" = some (some (.builtin "ValueError.__init__"))
  sub : subIn K (.ref C) (.type "ValueError") = some true
  thp : nsIn K cStatics "thirdparty.any" = some none
  xf : XfC K C
  xc : ExcC K C
theorem errB_ok {K : Frag} {file x qual fld : Str} (h : errB K file x qual fld = true) : ErrOk K (ga K x) (iniA K x) fld ∧ iniB K file x qual = true := by
  unfold errB at h
  simp only [Bool.and_eq_true, decide_eq_true_eq] at h
  obtain ⟨⟨⟨⟨⟨⟨⟨⟨⟨⟨⟨⟨⟨⟨h1, h2⟩, h3⟩, h4⟩, h5⟩, h6⟩, h7⟩, h8⟩, h9⟩, h10⟩, h11⟩, h12⟩, h13⟩, h14⟩, h15⟩ := h
  exact ⟨⟨⟨oexB_ok h1, h2, h3, h4, h5⟩, h6, h7, h8, h9, h10, h11, h12, xfB_ok h14, excCB_ok h15⟩, h13⟩
theorem mkr_of {K : Frag} {P : Program} {x : Str} {d : InD} {a1 a2 : Arg} {p0 p1 p2 p3 p4 q1 q2 q3 q4 : Pos} (hB : errB K P.main.file x d.qual d.fld = true) (hW : inW K x = d.val)
    (hN : d.name = "__init__") (hP : d.params = { posonlyargs := [], args := [a1, a2], vararg := none, kwonlyargs := [], kw_defaults := [], kwarg := none, defaults := [] })
    (hBd : d.body = [.Expr (.Call (.Attribute (.Call (.Name "super" p0) [] [] p1) "__init__" p2) [.Name a2.arg p3] [] p4) p4, .Assign [.Attribute (.Name a1.arg q1) d.fld q2] (.Name a2.arg q3) q4])
    (top : (P.main.scope.names.lookup ("super" : Str)).isSome = false)
    (hs : d.scope.kind = .function ∧ d.scope.isCoroutine = false ∧ d.scope.isGenerator = false ∧ d.scope.names = [(a1.arg, .local), (a2.arg, .local), ("__class__", .free), ("super", .globalImplicit)] ∧ (a1.arg == a2.arg) = false ∧ (a1.arg == ("__debug__" : Str)) = false ∧ (a1.arg == ("__classdict__" : Str)) = false ∧ (a2.arg == ("__debug__" : Str)) = false ∧ (a2.arg == ("__classdict__" : Str)) = false ∧ (a2.arg == ("super" : Str)) = false ∧ (a1.arg == ("super" : Str)) = false ∧ (a2.arg == ("__class__" : Str)) = false ∧ (a1.arg == ("__class__" : Str)) = false)
    (hsw : ∀ env, swapsWith (.Name a2.arg q3) (some (.Attribute (.Name a1.arg q1) d.fld q2)) q4.line env = pure false)
    (heq : ∀ env : Env, eval (.Call (.Attribute (.Call (.Name "super" p0) [] [] p1) "__init__" p2) [.Name a2.arg p3] [] p4) env = (do
      let ov ← attributeBase (.Call (.Name "super" p0) [] [] p1) "__init__" env (eval (.Call (.Name "super" p0) [] [] p1) env)
      standAt p2.atName
      let (f, first) ← holding [ov] (getMethod ov "__init__" (plainOf (.Call (.Name "super" p0) [] [] p1) env))
      callWith p4 f first (backTo p4 (starEach [.Name a2.arg p3] env)) []))
    (hbA : ∀ (kV doc pm cdv ct : Value) (an : Option Addr) (cc : Addr) (u1 u2 : Value), bindArgs (ksFn d.name d.qual d.params d.body d.scope .none kV doc pm an cdv ct cc) ⟨[u1, u2], []⟩ = pure [(a1.arg, u1), (a2.arg, u2)]) :
    ErrOk K (ga K x) (iniA K x) d.fld ∧ Mkr K P (ga K x) (iniA K x) d.fld := by
  obtain ⟨E, hI⟩ := errB_ok hB
  obtain ⟨oc, od, osl, dV, kV, doc, pm, ct, cdv, an, cc, hl⟩ := inW_ok hW
  obtain ⟨hdV, hcd, ⟨cda, ccl, cdd, vs, ccs, f, tf, e1, e2, e3, e4⟩, cl, cld, csl, e5⟩ := iniB_ok hl rfl hI
  obtain ⟨cls, nm, ql, pr, bd, sc, fl⟩ := d
  dsimp only at hN hP hBd hs hsw hl hbA hdV hcd e1 E hI ⊢
  subst hN hP hBd e1 hdV
  obtain ⟨s1, s2, s3, s4, s5, s6, s7, s8, s9, s10, s11, s12, s13⟩ := hs
  exact ⟨E, E.T, E.init, E.fun_, E.hno, E.mro, E.sup, E.sub, E.thp, top, ql, a1, a2, p0, p1, p2, p3, p4, q1, q2, q3, q4, sc, .none, kV, doc, pm, ct, oc, ccl, cl, an, od, cdd, cld, osl, ccs, csl, cc, cda, vs, f, tf,
    hl, hcd, e2, e3, e4, e5, s1, s2, s3, s4, s5, s6, s7, s8, s9, s10, s11, s12, s13, hsw, heq, fun u1 u2 => hbA kV doc pm (.ref cda) ct an cc u1 u2⟩
end Mn
set_option Elab.async false
set_option linter.all false
set_option maxRecDepth 100000
set_option maxHeartbeats 1000000
/-! M31: the law's own function; tables. -/
namespace Mn
open PySem PySem.Spec PyProof.Rows L2 LamX He
section
variable {G : Gx} {n k : Nat} {x : Str} {pr : Arguments} {body : List Stmt} {scope : Scope} {N ps : List Str} {b : St}
theorem fg_of (hex : G.ex = none) {fd : FuncData} (U : FunD G.K x x pr body scope [] [] (G.cn n) fd) (S : FnScope N ps scope)
    (hm : ∀ cdv : Value, (∀ (oc : Value) (od : Option Addr) (fd : FuncData) (osl : Array (Option Value)), G.K.lookup (G.cn n) = some ⟨oc, od, .func fd, osl⟩ → fd.code = cdv) → PySem.W.codeIn G.K cdv x = true → MSs G (.dfn N scope k false x cdv) body b) : FnG G (k + 1) (G.cn n) fd ps (spF G ps.length (fn N.length ps.length b)) := by
  obtain ⟨oc, od, dV, kV, doc, pm, an, cdv, ct, osl, rfl, lk, hcd, hdV, _⟩ := U.ex
  refine fn_g hex lk hcd S (hm cdv (fun oc' od' fd' osl' e => ?_) hcd)
  rw [lk] at e
  cases e
  rfl
end
/-- the words of a lambda's table -/
def tW (K : PySem.W.Frag) (p : Defn) : Addr × Str := ((cT K p).2, p.1 ++ ".<locals>." ++ "<lambda>")
theorem nd_inj {α β : Type} {f : α → β} : ∀ {l : List α}, (l.map f).Nodup → ∀ {p q : α}, p ∈ l → q ∈ l → f p = f q → p = q
  | [], _, _, _, h, _, _ => by cases h
  | a :: l, h, p, q, hp, hq, e => by
    rw [List.map_cons, List.nodup_cons] at h
    obtain ⟨h1, h2⟩ := h
    rcases List.mem_cons.mp hp with e1 | hp1
    · rcases List.mem_cons.mp hq with e2 | hq1
      · rw [e1, e2]
      · rw [e1] at e
        exact absurd (List.mem_map.mpr ⟨q, hq1, e.symm⟩) h1
    · rcases List.mem_cons.mp hq with e2 | hq1
      · rw [e2] at e
        exact absurd (List.mem_map.mpr ⟨p, hp1, e⟩) h1
      · exact nd_inj h2 hp1 hq1 e
theorem t_of {K : PySem.W.Frag} {base : Heap} {mg : Str → Option Value} {tf : List Defn} {x : Str} {pr : Arguments} {body : List Stmt} {scope : Scope} {f : Addr} (hn : (tf.map fun p => (cT K p).2).Nodup) (hm : (x, none) ∈ tf) (hf : f = fAd K (x, none)) (U : ∃ fd, FunD K x x pr body scope [] [] f fd)
    (hT : ∀ p ∈ tf.map (cT K), TabB base mg p.1 p.2) (cdv : Value) (hc : ∀ (oc : Value) (od : Option Addr) (fd : FuncData) (osl : Array (Option Value)), K.lookup f = some ⟨oc, od, .func fd, osl⟩ → fd.code = cdv) :
    ∃ cA P, TabB base mg cA P ∧ cdv = .ref cA ∧ (P, x ++ ".<locals>." ++ "<lambda>") ∈ tf.map (tW K) ∧ ∀ p ∈ tf.map (tW K), p.1 = P → p.2 = x ++ ".<locals>." ++ "<lambda>" := by
  obtain ⟨fd, U⟩ := U
  obtain ⟨oc, od, dV, kV, doc, pm, an, cdv', ct, osl, rfl, lk, hcd, _, _⟩ := U.ex
  obtain ⟨c, rfl⟩ := He.codeIn_ref hcd
  have e := hc _ _ _ _ lk
  subst hf
  have ec : codeOf K (x, none) = c := codeOf_eq lk rfl
  refine ⟨(cT K (x, none)).1, (cT K (x, none)).2, hT _ (List.mem_map.mpr ⟨_, hm, rfl⟩), ?_, List.mem_map.mpr ⟨_, hm, rfl⟩, fun p hp q => ?_⟩
  · rw [← e]
    show Value.ref c = Value.ref (codeOf K (x, none))
    rw [ec]
  · obtain ⟨p', hp', rfl⟩ := List.mem_map.mp hp
    have := nd_inj (f := fun p => (cT K p).2) hn hp' hm q
    rw [this]
    rfl
end Mn
set_option Elab.async false
set_option linter.all false
set_option maxRecDepth 100000
set_option maxHeartbeats 1000000
/-! M32: how the plain functions run: words for the mathematics. -/
namespace Mn
open PySem
theorem bnd_ok {α β : Type} {f : M α} {k : α → M β} {s s1 : Sx} {a : α} (h : f s = .ok a s1) : bnd f k s = k a s1 := by unfold bnd; rw [h]
theorem seq_nx {a b : St} {s s1 : Sx} (h : a s = .ok .nx s1) : seq a b s = b s1 := by unfold seq; rw [bnd_ok h]
theorem seq_rt {a b : St} {s s1 : Sx} {w : W} (h : a s = .ok (.rt w) s1) : seq a b s = .ok (.rt w) s1 := by unfold seq; rw [bnd_ok h]; rfl
theorem seq_exc {a b : St} {s s1 : Sx} {x : Exn} (h : a s = .exc x s1) : seq a b s = .exc x s1 := by unfold seq bnd; rw [h]
theorem ex_ok {a : M W} {s s1 : Sx} {w : W} (h : a s = .ok w s1) : ex a s = .ok .nx s1 := by unfold ex; rw [bnd_ok h]; rfl
theorem ex_exc {a : M W} {s s1 : Sx} {x : Exn} (h : a s = .exc x s1) : ex a s = .exc x s1 := by unfold ex bnd; rw [h]
theorem rt_ok {a : M W} {s s1 : Sx} {w : W} (h : a s = .ok w s1) : rt a s = .ok (.rt w) s1 := by unfold rt; rw [bnd_ok h]; rfl
theorem st_ok {g : Tg} {a : M W} {s s1 s2 : Sx} {w : W} (h : a s = .ok w s1) (hg : g w s1 = some s2) : st g a s = .ok .nx s2 := by unfold st; rw [bnd_ok h]; unfold bnd asg; rw [hg]; rfl
theorem ifS_t {t : M Bool} {a b : St} {s s1 : Sx} (h : t s = .ok true s1) : ifS t a b s = a s1 := by unfold ifS; rw [bnd_ok h]; rfl
theorem ifS_f {t : M Bool} {a b : St} {s s1 : Sx} (h : t s = .ok false s1) : ifS t a b s = b s1 := by unfold ifS; rw [bnd_ok h]; rfl
theorem cl_ok {F : Fn} {a : M (List W)} {s s1 s2 : Sx} {ws vs : List W} {w : W} {g : List Cell} (h : a s = .ok ws s1) (h1 : toAs ws s1 = .ok vs s2) (hF : F vs s2.g = .ok w g) : cl F a s = .ok w { s2 with g := g } := by
  unfold cl; rw [bnd_ok h, bnd_ok h1, hF]
theorem cl_exc {F : Fn} {a : M (List W)} {s s1 s2 : Sx} {ws vs : List W} {x : Exn} {g : List Cell} (h : a s = .ok ws s1) (h1 : toAs ws s1 = .ok vs s2) (hF : F vs s2.g = .exc x g) : cl F a s = .exc x { s2 with g := g } := by
  unfold cl; rw [bnd_ok h, bnd_ok h1, hF]
theorem tst_ok {a : M W} {s s1 : Sx} {b : Bool} (h : a s = .ok (.d (.bl b)) s1) : tst a s = .ok b s1 := by unfold tst; rw [bnd_ok h]; rfl
theorem frz_ok {f : M (List W)} {s s1 s2 : Sx} {ws : List W} {ds : List D} (h : f s = .ok ws s1) (h1 : toDs ws s1 = .ok ds s2) : frz f s = .ok (.d (.lst ds)) s2 := by unfold frz; rw [bnd_ok h, bnd_ok h1]; rfl
theorem toDs_d (s : Sx) : ∀ ds : List D, toDs (ds.map W.d) s = .ok ds s
  | [] => rfl
  | x :: r => by
    show bnd (toD (.d x)) _ s = _
    rw [bnd_ok (show toD (.d x) s = .ok x s from rfl), bnd_ok (toDs_d s r)]; rfl
theorem toAs_d (s : Sx) : ∀ ds : List D, toAs (ds.map W.d) s = .ok (ds.map W.d) s
  | [] => rfl
  | x :: r => by
    show bnd (toA (.d x)) _ s = _
    rw [bnd_ok (show toA (.d x) s = .ok (.d x) s from rfl), bnd_ok (toAs_d s r)]; rfl
theorem frz_d {f : M (List W)} {s s1 : Sx} {ds : List D} (h : f s = .ok (ds.map W.d) s1) : frz f s = .ok (.d (.lst ds)) s1 := frz_ok h (toDs_d s1 ds)
theorem orT_f {a b : M Bool} {s s1 : Sx} (h : a s = .ok false s1) : orT a b s = b s1 := by unfold orT; rw [bnd_ok h]; rfl
theorem orT_t {a b : M Bool} {s s1 : Sx} (h : a s = .ok true s1) : orT a b s = .ok true s1 := by unfold orT; rw [bnd_ok h]; rfl
theorem andT_t {a b : M Bool} {s s1 : Sx} (h : a s = .ok true s1) : andT a b s = b s1 := by unfold andT; rw [bnd_ok h]; rfl
theorem andT_f {a b : M Bool} {s s1 : Sx} (h : a s = .ok false s1) : andT a b s = .ok false s1 := by unfold andT; rw [bnd_ok h]; rfl
theorem notT_ok {a : M Bool} {s s1 : Sx} {c : Bool} (h : a s = .ok c s1) : notT a s = .ok (!c) s1 := by unfold notT; rw [bnd_ok h]; rfl
theorem fn_run {n p : Nat} {b : St} {ws : List W} {g : List Cell} (h : ws.length = p) : fn n p b ws g = fo (b ⟨ws.map some ++ List.replicate (n - p) none, [], g⟩) := by unfold fn; rw [if_pos h]
theorem ite_t {t : M Bool} {a b : M W} {s s1 : Sx} (h : t s = .ok true s1) : ite t a b s = a s1 := by unfold ite; rw [bnd_ok h]; rfl
theorem ite_f {t : M Bool} {a b : M W} {s s1 : Sx} (h : t s = .ok false s1) : ite t a b s = b s1 := by unfold ite; rw [bnd_ok h]; rfl
theorem tst_dec {a : M W} {s s1 : Sx} {p : Prop} [Decidable p] (h : tst a s = .ok (decide p) s1) (hp : p) : tst a s = .ok true s1 := by rw [h, decide_eq_true hp]
theorem tst_not {a : M W} {s s1 : Sx} {p : Prop} [Decidable p] (h : tst a s = .ok (decide p) s1) (hp : ¬ p) : tst a s = .ok false s1 := by rw [h, decide_eq_false hp]
/-! the same, goal by goal -/
theorem r_seq {a b : St} {s s1 : Sx} {r : Out Fl} (h : a s = .ok .nx s1) (h2 : b s1 = r) : seq a b s = r := (seq_nx h).trans h2
theorem r_ift {t : M Bool} {a b : St} {s s1 : Sx} {r : Out Fl} (h : t s = .ok true s1) (h2 : a s1 = r) : ifS t a b s = r := (ifS_t h).trans h2
theorem r_iff {t : M Bool} {a b : St} {s s1 : Sx} {r : Out Fl} (h : t s = .ok false s1) (h2 : b s1 = r) : ifS t a b s = r := (ifS_f h).trans h2
theorem r_orf {a b : M Bool} {s s1 : Sx} {r : Out Bool} (h : a s = .ok false s1) (h2 : b s1 = r) : orT a b s = r := (orT_f h).trans h2
theorem r_andt {a b : M Bool} {s s1 : Sx} {r : Out Bool} (h : a s = .ok true s1) (h2 : b s1 = r) : andT a b s = r := (andT_t h).trans h2
theorem r_cl {F : Fn} {a : M (List W)} {s s2 : Sx} {vs : List W} {w : W} {g : List Cell} (h : bnd a toAs s = .ok vs s2) (hF : F vs s2.g = .ok w g) : cl F a s = .ok w { s2 with g := g } := by
  have e : cl F a s = bnd (bnd a toAs) (fun vs s => match F vs s.g with
    | .ok w g => .ok w { s with g := g }
    | .exc x g => .exc x { s with g := g }
    | .stuck => .stuck) s := by rw [bnd_assoc]; rfl
  rw [e, bnd_ok h, hF]
theorem bi_ok {o : List D → Option D} {a : M (List W)} {s s1 : Sx} {ws : List W} {xs : List D} {z : D} (h : a s = .ok ws s1) (h1 : pks s1 ws = some xs) (h2 : o xs = some z) : bi o a s = .ok (.d z) s1 := by unfold bi; rw [bnd_ok h]; simp only [h1, h2]
theorem b2_ok {o : D → D → Option D} {a b : M W} {s s1 s2 : Sx} {w v : W} {x y z : D} (h : a s = .ok w s1) (h1 : b s1 = .ok v s2) (hx : pk s2 w = some x) (hy : pk s2 v = some y) (h2 : o x y = some z) : b2 o a b s = .ok (.d z) s2 := by unfold b2; rw [bnd_ok h, bnd_ok h1]; simp only [hx, hy, h2]
theorem args_cons {a : M W} {r : List (M W)} {s s1 s2 : Sx} {w : W} {ws : List W} (h : a s = .ok w s1) (h1 : args r s1 = .ok ws s2) : args (a :: r) s = .ok (w :: ws) s2 := by
  show bnd a _ s = _
  rw [bnd_ok h, bnd_ok h1]; rfl
theorem args_nil {s : Sx} : args [] s = .ok [] s := rfl
theorem tup_ok {a : M (List W)} {s s1 : Sx} {ds : List D} (h : a s = .ok (ds.map W.d) s1) (hl : ds.length ≤ 16777216) : tup a s = .ok (.d (.tup ds)) s1 := by
  unfold tup
  rw [bnd_ok h, bnd_ok (show fits (ds.map W.d) s1 = .ok () s1 by unfold fits; rw [if_pos (by simpa using hl)]), bnd_ok (toDs_d s1 ds)]; rfl
theorem r_bnd {α β : Type} {f : M α} {k : α → M β} {s s1 : Sx} {a : α} {r : Out β} (h : f s = .ok a s1) (h2 : k a s1 = r) : bnd f k s = r := (bnd_ok h).trans h2
/-! ### loops -/
theorem loop_run {g : Tg} {b : St} (S : Nat → Sx) : ∀ (xs : List D) (i : Nat), (∀ (j : Nat) (x : D), xs[j]? = some x → ∃ s1, g (.d x) (S (i + j)) = some s1 ∧ b s1 = .ok .nx (S (i + j + 1))) → loop g b xs (S i) = .ok .nx (S (i + xs.length))
  | [], i, _ => rfl
  | x :: xs, i, h => by
    obtain ⟨s1, h1, h2⟩ := h 0 x rfl
    show bnd (asg g (.d x)) _ (S i) = _
    have h1' : g (.d x) (S i) = some s1 := h1
    rw [bnd_ok (show asg g (.d x) (S i) = .ok () s1 by unfold asg; rw [h1']), bnd_ok h2]
    show loop g b xs (S (i + 0 + 1)) = _
    rw [loop_run S xs (i + 0 + 1) fun j y hy => by
      obtain ⟨s2, h3, h4⟩ := h (j + 1) y hy
      exact ⟨s2, by rw [show i + 0 + 1 + j = i + (j + 1) by omega]; exact h3, by rw [show i + 0 + 1 + j + 1 = i + (j + 1) + 1 by omega]; exact h4⟩]
    rw [show i + 0 + 1 + xs.length = i + (x :: xs).length by simp; omega]
theorem upTo_len : ∀ (n : Nat) (lo : Int), (upTo lo n).length = n
  | 0, _ => rfl
  | n + 1, lo => by simp [upTo, upTo_len n]
theorem upTo_at : ∀ (n : Nat) (lo : Int) (j : Nat) (x : D), (upTo lo n)[j]? = some x → j < n ∧ x = .int (lo + j)
  | 0, _, j, x, h => by simp [upTo] at h
  | n + 1, lo, 0, x, h => by simp [upTo] at h; exact ⟨by omega, by rw [← h]; simp⟩
  | n + 1, lo, j + 1, x, h => by
    have h : (upTo (lo + 1) n)[j]? = some x := by simpa [upTo] using h
    obtain ⟨h1, h2⟩ := upTo_at n (lo + 1) j x h
    refine ⟨by omega, ?_⟩
    rw [h2]; congr 1; push_cast; omega
theorem forS_run {it : M (List D)} {g : Tg} {b : St} {s : Sx} {xs : List D} (S : Nat → Sx) (hit : it s = .ok xs (S 0)) (h : ∀ (j : Nat) (x : D), xs[j]? = some x → ∃ s1, g (.d x) (S j) = some s1 ∧ b s1 = .ok .nx (S (j + 1))) : forS it g b s = .ok .nx (S xs.length) := by
  unfold forS
  rw [bnd_ok hit]
  have := loop_run S xs 0 (fun j x e => by simpa using h j x e)
  simpa using this
theorem rng1_run {a : M (List W)} {s s1 : Sx} {n : Int} (h : a s = .ok [.d (.int n)] s1) (hs : small n = true) : itR rng1 a s = .ok (upTo 0 n.toNat) s1 := by
  unfold itR; rw [bnd_ok h]
  show (match rng1 [.int n] with | some z => Out.ok z s1 | none => .stuck) = _
  simp [rng1, hs]
theorem rng2_run {a : M (List W)} {s s1 : Sx} {m n : Int} (h : a s = .ok [.d (.int m), .d (.int n)] s1) (h1 : small m = true) (h2 : small n = true) : itR rng2 a s = .ok (upTo m (n - m).toNat) s1 := by
  unfold itR; rw [bnd_ok h]
  show (match rng2 [.int m, .int n] with | some z => Out.ok z s1 | none => .stuck) = _
  simp [rng2, h1, h2]
/-! ### comprehensions -/
theorem lcGo_run {e0 : List (Option W)} {g : Tg} {c : M Bool} {f : M W} {l gg : List Cell} (p : D → Bool) (y : D → D) : ∀ (xs acc : List D) (e : List (Option W)),
    (∀ x ∈ xs, ∃ e1, g (.d x) ⟨e0, l, gg⟩ = some ⟨e1, l, gg⟩ ∧ c ⟨e1, l, gg⟩ = .ok (p x) ⟨e1, l, gg⟩ ∧ (p x = true → bnd f toD ⟨e1, l, gg⟩ = .ok (y x) ⟨e1, l, gg⟩)) → acc.length + xs.length ≤ 16777216 →
    ∃ e', lcGo e0 g c f xs acc ⟨e, l, gg⟩ = .ok (acc ++ (xs.filter p).map y) ⟨e', l, gg⟩
  | [], acc, e, _, _ => ⟨e, by simp [lcGo, pur]⟩
  | x :: xs, acc, e, h, hl => by
    obtain ⟨e1, h1, h2, h3⟩ := h x (List.mem_cons_self ..)
    have hr := fun y hy => h y (List.mem_cons_of_mem _ hy)
    simp only [List.length_cons] at hl
    unfold lcGo
    simp only [h1, h2]
    by_cases hp : p x = true
    · simp only [hp, if_true, h3 hp]
      rw [if_pos (by omega)]
      obtain ⟨e', q⟩ := lcGo_run p y xs (acc ++ [y x]) e1 hr (by simp; omega)
      exact ⟨e', by rw [q]; simp [List.filter_cons, hp]⟩
    · simp only [hp, if_false]
      obtain ⟨e', q⟩ := lcGo_run p y xs acc e1 hr (by omega)
      exact ⟨e', by rw [if_neg (by simp), q]; simp [List.filter_cons, hp]⟩
theorem lc_run {vs : List Nat} {it : M (List D)} {g : Tg} {c : M Bool} {f : M W} {s s1 : Sx} {xs : List D} (p : D → Bool) (y : D → D) (hit : it s = .ok xs s1)
    (h : ∀ x ∈ xs, ∃ e1, g (.d x) ⟨wip s1.e vs, s1.l, s1.g⟩ = some ⟨e1, s1.l, s1.g⟩ ∧ c ⟨e1, s1.l, s1.g⟩ = .ok (p x) ⟨e1, s1.l, s1.g⟩ ∧ (p x = true → bnd f toD ⟨e1, s1.l, s1.g⟩ = .ok (y x) ⟨e1, s1.l, s1.g⟩)) (hl : xs.length ≤ 16777216) :
    lc vs it g c f s = .ok (((xs.filter p).map y).map W.d) s1 := by
  unfold lc
  rw [bnd_ok hit]
  obtain ⟨e', q⟩ := lcGo_run p y xs [] s1.e h (by simpa using hl)
  have q : lcGo (wip s1.e vs) g c f xs [] s1 = _ := q
  rw [q]; rfl
theorem lcGo2_run {e0 : List (Option W)} {g g1 : Tg} {c c1 : M Bool} {vs1 : List Nat} {it1 : M (List D)} {f : M W} {l gg : List Cell} (p : D → Bool) (zs : D → List D) (p1 : D → D → Bool) (y : D → D → D) (N : Nat) : ∀ (xs acc : List D) (e : List (Option W)),
    (∀ x ∈ xs, ∃ e1, g (.d x) ⟨e0, l, gg⟩ = some ⟨e1, l, gg⟩ ∧ c ⟨e1, l, gg⟩ = .ok (p x) ⟨e1, l, gg⟩ ∧ (p x = true → it1 ⟨e1, l, gg⟩ = .ok (zs x) ⟨e1, l, gg⟩ ∧ (zs x).length ≤ N ∧
      ∀ z ∈ zs x, ∃ e2, g1 (.d z) ⟨wip e1 vs1, l, gg⟩ = some ⟨e2, l, gg⟩ ∧ c1 ⟨e2, l, gg⟩ = .ok (p1 x z) ⟨e2, l, gg⟩ ∧ (p1 x z = true → bnd f toD ⟨e2, l, gg⟩ = .ok (y x z) ⟨e2, l, gg⟩))) → acc.length + xs.length * N ≤ 16777216 →
    ∃ e', lcGo2 e0 g c vs1 it1 g1 c1 f xs acc ⟨e, l, gg⟩ = .ok (acc ++ (xs.filter p).flatMap fun x => ((zs x).filter (p1 x)).map (y x)) ⟨e', l, gg⟩
  | [], acc, e, _, _ => ⟨e, by simp [lcGo2, pur]⟩
  | x :: xs, acc, e, h, hl => by
    obtain ⟨e1, h1, h2, h3⟩ := h x (List.mem_cons_self ..)
    have hr := fun y hy => h y (List.mem_cons_of_mem _ hy)
    simp only [List.length_cons, Nat.succ_mul] at hl
    unfold lcGo2
    simp only [h1, h2]
    by_cases hp : p x = true
    · obtain ⟨h4, h5, h6⟩ := h3 hp
      obtain ⟨e3, q3⟩ := lcGo_run (p1 x) (y x) (zs x) acc e1 h6 (by omega)
      have q3' : lcGo (wip e1 vs1) g1 c1 f (zs x) acc ⟨e1, l, gg⟩ = _ := q3
      simp only [hp, if_true, h4, q3']
      have hf : ((zs x).filter (p1 x)).length ≤ (zs x).length := List.length_filter_le ..
      obtain ⟨e', q⟩ := lcGo2_run p zs p1 y N xs (acc ++ ((zs x).filter (p1 x)).map (y x)) e3 hr (by simp; omega)
      exact ⟨e', by rw [q]; simp [List.filter_cons, hp]⟩
    · simp only [hp, if_false]
      obtain ⟨e', q⟩ := lcGo2_run p zs p1 y N xs acc e1 hr (by omega)
      exact ⟨e', by rw [if_neg (by simp), q]; simp [List.filter_cons, hp]⟩
theorem lc2_run {vs : List Nat} {it : M (List D)} {g g1 : Tg} {c c1 : M Bool} {vs1 : List Nat} {it1 : M (List D)} {f : M W} {s s1 : Sx} {xs : List D} (p : D → Bool) (zs : D → List D) (p1 : D → D → Bool) (y : D → D → D) (N : Nat) (hit : it s = .ok xs s1)
    (h : ∀ x ∈ xs, ∃ e1, g (.d x) ⟨wip s1.e vs, s1.l, s1.g⟩ = some ⟨e1, s1.l, s1.g⟩ ∧ c ⟨e1, s1.l, s1.g⟩ = .ok (p x) ⟨e1, s1.l, s1.g⟩ ∧ (p x = true → it1 ⟨e1, s1.l, s1.g⟩ = .ok (zs x) ⟨e1, s1.l, s1.g⟩ ∧ (zs x).length ≤ N ∧
      ∀ z ∈ zs x, ∃ e2, g1 (.d z) ⟨wip e1 vs1, s1.l, s1.g⟩ = some ⟨e2, s1.l, s1.g⟩ ∧ c1 ⟨e2, s1.l, s1.g⟩ = .ok (p1 x z) ⟨e2, s1.l, s1.g⟩ ∧ (p1 x z = true → bnd f toD ⟨e2, s1.l, s1.g⟩ = .ok (y x z) ⟨e2, s1.l, s1.g⟩))) (hl : xs.length * N ≤ 16777216) :
    lc2 vs it g c vs1 it1 g1 c1 f s = .ok (((xs.filter p).flatMap fun x => ((zs x).filter (p1 x)).map (y x)).map W.d) s1 := by
  unfold lc2
  rw [bnd_ok hit]
  obtain ⟨e', q⟩ := lcGo2_run p zs p1 y N xs [] s1.e h (by simpa using hl)
  have q : lcGo2 (wip s1.e vs) g c vs1 it1 g1 c1 f xs [] s1 = _ := q
  rw [q]; rfl
end Mn
set_option Elab.async false
set_option linter.all false
set_option maxRecDepth 100000
set_option maxHeartbeats 1000000
/-! M33: words by which the plain functions are run by simp (printed by mk33.py). -/
namespace Mn
open PySem
def ob {α β : Type} (o : Out α) (k : α → M β) : Out β := match o with
  | .ok a s => k a s
  | .exc x s => .exc x s
  | .stuck => .stuck
/-- out of an option -/
def oz {α β : Type} (o : Option α) (k : α → Out β) : Out β := match o with | some a => k a | none => .stuck
section
variable {α β : Type}
theorem ob_ok (a : α) (s : Sx) (k : α → M β) : ob (.ok a s) k = k a s := rfl
theorem ob_exc (x : Exn) (s : Sx) (k : α → M β) : ob (.exc x s) k = .exc x s := rfl
theorem ob_stuck (k : α → M β) : ob (.stuck : Out α) k = .stuck := rfl
theorem ob_ite (p : Prop) [Decidable p] (a b : Out α) (k : α → M β) : ob (if p then a else b) k = if p then ob a k else ob b k := by split <;> rfl
theorem oz_some (a : α) (k : α → Out β) : oz (some a) k = k a := rfl
theorem oz_none (k : α → Out β) : oz none k = .stuck := rfl
theorem oz_ite (p : Prop) [Decidable p] (a b : Option α) (k : α → Out β) : oz (if p then a else b) k = if p then oz a k else oz b k := by split <;> rfl
theorem bnd_ob (f : M α) (k : α → M β) (s : Sx) : bnd f k s = ob (f s) k := rfl
theorem ap_ite {γ : Type} (p : Prop) [Decidable p] (a b : γ → β) (s : γ) : (if p then a else b) s = if p then a s else b s := by split <;> rfl
theorem pur_ap (a : α) (s : Sx) : pur a s = .ok a s := rfl
theorem opt_ap (o : Option α) (s : Sx) : opt o s = oz o fun a => .ok a s := by cases o <;> rfl
theorem nth0 (x : α) (r : List α) : nth (x :: r) 0 = some x := rfl
theorem nthS (x : α) (r : List α) (n : Nat) : nth (x :: r) (n + 1) = nth r n := rfl
theorem upAt0 (x : α) (r : List α) (y : α) : upAt (x :: r) 0 y = y :: r := rfl
theorem upAtS (x : α) (r : List α) (n : Nat) (y : α) : upAt (x :: r) (n + 1) y = x :: upAt r n y := rfl
end
theorem vr_ap (i : Nat) (s : Sx) : vr i s = match nth s.e i with | some (some w) => .ok w s | _ => .stuck := rfl
theorem cs_ap (x : D) (s : Sx) : cs x s = .ok (.d x) s := rfl

def k_u1 (o : D → Option D) (w : W) (s : Sx) : Out W := oz (pk s w) fun x => oz (o x) fun z => .ok (.d z) s
theorem k_u1_ap (o : D → Option D) (w : W) (s : Sx) : k_u1 o w s = oz (pk s w) fun x => oz (o x) fun z => .ok (.d z) s := rfl
theorem u1_ob (o : D → Option D) (a : M W) (s : Sx) : u1 o a s = ob (a s) (k_u1 o) := by
  unfold u1; rw [bnd_ob]; congr 1; funext w s
  show _ = oz (pk s w) _
  cases pk s w with
  | none => rfl
  | some x => show _ = oz (o x) _; dsimp only; cases o x <;> rfl
def k_b2y (o : D → D → Option D) (w : W) (v : W) (s : Sx) : Out W := oz (pk s w) fun x => oz (pk s v) fun y => oz (o x y) fun z => .ok (.d z) s
theorem k_b2y_ap (o : D → D → Option D) (w : W) (v : W) (s : Sx) : k_b2y o w v s = oz (pk s w) fun x => oz (pk s v) fun y => oz (o x y) fun z => .ok (.d z) s := rfl
def k_b2 (o : D → D → Option D) (b : M W) (w : W) (s : Sx) : Out W := ob (b s) (k_b2y o w)
theorem k_b2_ap (o : D → D → Option D) (b : M W) (w : W) (s : Sx) : k_b2 o b w s = ob (b s) (k_b2y o w) := rfl
theorem b2_ob (o : D → D → Option D) (a b : M W) (s : Sx) : b2 o a b s = ob (a s) (k_b2 o b) := by
  unfold b2; rw [bnd_ob]; congr 1; funext w s
  show _ = ob (b s) _
  rw [bnd_ob]; congr 1; funext v s
  show _ = oz (pk s w) _
  cases pk s w with
  | none => rfl
  | some x =>
    show _ = oz (pk s v) _
    dsimp only
    cases pk s v with
    | none => rfl
    | some y => show _ = oz (o x y) _; dsimp only; cases o x y <;> rfl
def k_b2Ly (o : D → D → Option (List D)) (w : W) (v : W) (s : Sx) : Out (List W) := oz (pk s w) fun x => oz (pk s v) fun y => oz (o x y) fun z => .ok (z.map W.d) s
theorem k_b2Ly_ap (o : D → D → Option (List D)) (w : W) (v : W) (s : Sx) : k_b2Ly o w v s = oz (pk s w) fun x => oz (pk s v) fun y => oz (o x y) fun z => .ok (z.map W.d) s := rfl
def k_b2L (o : D → D → Option (List D)) (b : M W) (w : W) (s : Sx) : Out (List W) := ob (b s) (k_b2Ly o w)
theorem k_b2L_ap (o : D → D → Option (List D)) (b : M W) (w : W) (s : Sx) : k_b2L o b w s = ob (b s) (k_b2Ly o w) := rfl
theorem b2L_ob (o : D → D → Option (List D)) (a b : M W) (s : Sx) : b2L o a b s = ob (a s) (k_b2L o b) := by
  unfold b2L; rw [bnd_ob]; congr 1; funext w s
  show _ = ob (b s) _
  rw [bnd_ob]; congr 1; funext v s
  show _ = oz (pk s w) _
  cases pk s w with
  | none => rfl
  | some x =>
    show _ = oz (pk s v) _
    dsimp only
    cases pk s v with
    | none => rfl
    | some y => show _ = oz (o x y) _; dsimp only; cases o x y <;> rfl
theorem args0 (s : Sx) : args [] s = .ok [] s := rfl
def k_argc (x : W) (xs : List W) (s : Sx) : Out (List W) := .ok (x :: xs) s
theorem k_argc_ap (x : W) (xs : List W) (s : Sx) : k_argc x xs s = .ok (x :: xs) s := rfl
def k_args (r : List (M W)) (x : W) (s : Sx) : Out (List W) := ob (args r s) (k_argc x)
theorem k_args_ap (r : List (M W)) (x : W) (s : Sx) : k_args r x s = ob (args r s) (k_argc x) := rfl
theorem argsS (a : M W) (r : List (M W)) (s : Sx) : args (a :: r) s = ob (a s) (k_args r) := rfl
def k_bi (o : List D → Option D) (ws : List W) (s : Sx) : Out W := oz (pks s ws) fun xs => oz (o xs) fun z => .ok (.d z) s
theorem k_bi_ap (o : List D → Option D) (ws : List W) (s : Sx) : k_bi o ws s = oz (pks s ws) fun xs => oz (o xs) fun z => .ok (.d z) s := rfl
theorem bi_ob (o : List D → Option D) (a : M (List W)) (s : Sx) : bi o a s = ob (a s) (k_bi o) := by
  unfold bi; rw [bnd_ob]; congr 1; funext ws s
  show _ = oz (pks s ws) _
  cases pks s ws with
  | none => rfl
  | some x => show _ = oz (o x) _; dsimp only; cases o x <;> rfl
def k_biL (o : List D → Option (List D)) (ws : List W) (s : Sx) : Out (List W) := oz (pks s ws) fun xs => oz (o xs) fun z => .ok (z.map W.d) s
theorem k_biL_ap (o : List D → Option (List D)) (ws : List W) (s : Sx) : k_biL o ws s = oz (pks s ws) fun xs => oz (o xs) fun z => .ok (z.map W.d) s := rfl
theorem biL_ob (o : List D → Option (List D)) (a : M (List W)) (s : Sx) : biL o a s = ob (a s) (k_biL o) := by
  unfold biL; rw [bnd_ob]; congr 1; funext ws s
  show _ = oz (pks s ws) _
  cases pks s ws with
  | none => rfl
  | some x => show _ = oz (o x) _; dsimp only; cases o x <;> rfl
theorem tst_ob (a : M W) (s : Sx) : tst a s = ob (a s) bool := rfl
theorem bool_bl (b : Bool) (s : Sx) : bool (.d (.bl b)) s = .ok b s := rfl
def k_andT (b : M Bool) (c : Bool) (s : Sx) : Out Bool := if c = true then b s else .ok false s
theorem k_andT_ap (b : M Bool) (c : Bool) (s : Sx) : k_andT b c s = if c = true then b s else .ok false s := rfl
def k_orT (b : M Bool) (c : Bool) (s : Sx) : Out Bool := if c = true then .ok true s else b s
theorem k_orT_ap (b : M Bool) (c : Bool) (s : Sx) : k_orT b c s = if c = true then .ok true s else b s := rfl
def k_notT  (c : Bool) (s : Sx) : Out Bool := .ok (!c) s
theorem k_notT_ap  (c : Bool) (s : Sx) : k_notT  c s = .ok (!c) s := rfl
theorem andT_ob (a b : M Bool) (s : Sx) : andT a b s = ob (a s) (k_andT b) := by
  unfold andT; rw [bnd_ob]; congr 1; funext c s; rw [ap_ite]; rfl
theorem orT_ob (a b : M Bool) (s : Sx) : orT a b s = ob (a s) (k_orT b) := by
  unfold orT; rw [bnd_ob]; congr 1; funext c s; rw [ap_ite]; rfl
theorem notT_ob (a : M Bool) (s : Sx) : notT a s = ob (a s) k_notT := rfl
def k_andB (b : M W) (c : Bool) (s : Sx) : Out W := if c = true then b s else .ok (.d (.bl false)) s
theorem k_andB_ap (b : M W) (c : Bool) (s : Sx) : k_andB b c s = if c = true then b s else .ok (.d (.bl false)) s := rfl
def k_andV (b : M W) (w : W) (s : Sx) : Out W := ob (bool w s) (k_andB b)
theorem k_andV_ap (b : M W) (w : W) (s : Sx) : k_andV b w s = ob (bool w s) (k_andB b) := rfl
def k_orB (b : M W) (c : Bool) (s : Sx) : Out W := if c = true then .ok (.d (.bl true)) s else b s
theorem k_orB_ap (b : M W) (c : Bool) (s : Sx) : k_orB b c s = if c = true then .ok (.d (.bl true)) s else b s := rfl
def k_orV (b : M W) (w : W) (s : Sx) : Out W := ob (bool w s) (k_orB b)
theorem k_orV_ap (b : M W) (w : W) (s : Sx) : k_orV b w s = ob (bool w s) (k_orB b) := rfl
def k_notB  (c : Bool) (s : Sx) : Out W := .ok (.d (.bl (!c))) s
theorem k_notB_ap  (c : Bool) (s : Sx) : k_notB  c s = .ok (.d (.bl (!c))) s := rfl
def k_notV  (w : W) (s : Sx) : Out W := ob (bool w s) k_notB
theorem k_notV_ap  (w : W) (s : Sx) : k_notV  w s = ob (bool w s) k_notB := rfl
theorem andV_ob (a b : M W) (s : Sx) : andV a b s = ob (a s) (k_andV b) := by
  unfold andV tst; rw [bnd_ob, bnd_ob]
  cases a s with
  | ok w s => simp only [ob_ok, k_andV_ap]; congr 1; funext c s; rw [ap_ite]; rfl
  | exc => rfl
  | stuck => rfl
theorem orV_ob (a b : M W) (s : Sx) : orV a b s = ob (a s) (k_orV b) := by
  unfold orV tst; rw [bnd_ob, bnd_ob]
  cases a s with
  | ok w s => simp only [ob_ok, k_orV_ap]; congr 1; funext c s; rw [ap_ite]; rfl
  | exc => rfl
  | stuck => rfl
theorem notV_ob (a : M W) (s : Sx) : notV a s = ob (a s) k_notV := by
  unfold notV tst; rw [bnd_ob, bnd_ob]
  cases a s <;> rfl
def k_ite (a : M W) (b : M W) (c : Bool) (s : Sx) : Out W := if c = true then a s else b s
theorem k_ite_ap (a : M W) (b : M W) (c : Bool) (s : Sx) : k_ite a b c s = if c = true then a s else b s := rfl
def k_ifS (a : St) (b : St) (c : Bool) (s : Sx) : Out Fl := if c = true then a s else b s
theorem k_ifS_ap (a : St) (b : St) (c : Bool) (s : Sx) : k_ifS a b c s = if c = true then a s else b s := rfl
theorem ite_ob (t : M Bool) (a b : M W) (s : Sx) : ite t a b s = ob (t s) (k_ite a b) := by
  unfold ite; rw [bnd_ob]; congr 1; funext c s; rw [ap_ite]; rfl
theorem ifS_ob (t : M Bool) (a b : St) (s : Sx) : ifS t a b s = ob (t s) (k_ifS a b) := by
  unfold ifS; rw [bnd_ob]; congr 1; funext c s; rw [ap_ite]; rfl
theorem skip_ap (s : Sx) : skip s = .ok .nx s := rfl
/-- go on behind a statement -/
def sq (o : Out Fl) (b : St) : Out Fl := match o with
  | .ok .nx s => b s
  | o => o
theorem sq_nx (s : Sx) (b : St) : sq (.ok .nx s) b = b s := rfl
theorem sq_rt (w : W) (s : Sx) (b : St) : sq (.ok (.rt w) s) b = .ok (.rt w) s := rfl
theorem sq_bk (s : Sx) (b : St) : sq (.ok .bk s) b = .ok .bk s := rfl
theorem sq_ct (s : Sx) (b : St) : sq (.ok .ct s) b = .ok .ct s := rfl
theorem sq_exc (x : Exn) (s : Sx) (b : St) : sq (.exc x s) b = .exc x s := rfl
theorem sq_stuck (b : St) : sq .stuck b = .stuck := rfl
theorem sq_ite (p : Prop) [Decidable p] (a c : Out Fl) (b : St) : sq (if p then a else c) b = if p then sq a b else sq c b := by split <;> rfl
theorem seq_sq (a b : St) (s : Sx) : seq a b s = sq (a s) b := by
  unfold seq; rw [bnd_ob]
  cases a s with
  | ok f s => cases f <;> rfl
  | exc => rfl
  | stuck => rfl
def k_ex  (w : W) (s : Sx) : Out Fl := .ok .nx s
theorem k_ex_ap  (w : W) (s : Sx) : k_ex  w s = .ok .nx s := rfl
def k_rt  (w : W) (s : Sx) : Out Fl := .ok (.rt w) s
theorem k_rt_ap  (w : W) (s : Sx) : k_rt  w s = .ok (.rt w) s := rfl
theorem ex_ob (a : M W) (s : Sx) : ex a s = ob (a s) k_ex := rfl
theorem rt_ob (a : M W) (s : Sx) : rt a s = ob (a s) k_rt := rfl
/-- into a target -/
def pt (g : Tg) (w : W) (s : Sx) : Out Fl := oz (g w s) fun s1 => .ok .nx s1
theorem st_ob (g : Tg) (a : M W) (s : Sx) : st g a s = ob (a s) (pt g) := by
  unfold st; rw [bnd_ob]; congr 1; funext w s; rw [bnd_ob]; unfold asg pt; cases g w s <;> rfl
theorem pt_n (i : Nat) (w : W) (e : List (Option W)) (l g : List Cell) : pt (tN i) w ⟨e, l, g⟩ = .ok .nx ⟨upAt e i (some w), l, g⟩ := rfl
theorem pt_t (ts : List Tg) (xs : List D) (s : Sx) : pt (tT ts) (.d (.tup xs)) s = oz (tGo ts xs s) fun s1 => .ok .nx s1 := rfl
theorem pt_tu (ts : List Tg) (xs : List D) (s : Sx) : pt (tT ts) (.d (.tun xs)) s = oz (tGo ts xs s) fun s1 => .ok .nx s1 := rfl
theorem tGo0 (s : Sx) : tGo [] [] s = some s := rfl
theorem tGoS (i : Nat) (ts : List Tg) (x : D) (xs : List D) (e : List (Option W)) (l g : List Cell) : tGo (tN i :: ts) (x :: xs) ⟨e, l, g⟩ = tGo ts xs ⟨upAt e i (some (.d x)), l, g⟩ := rfl
theorem tGoT (ts1 ts : List Tg) (ys xs : List D) (s : Sx) : tGo (tT ts1 :: ts) (.tup ys :: xs) s = match tGo ts1 ys s with | some s1 => tGo ts xs s1 | none => none := rfl
def k_mktup  (xs : List D) (s : Sx) : Out W := .ok (.d (.tup xs)) s
theorem k_mktup_ap  (xs : List D) (s : Sx) : k_mktup  xs s = .ok (.d (.tup xs)) s := rfl
def k_mklst  (xs : List D) (s : Sx) : Out W := .ok (.d (.lst xs)) s
theorem k_mklst_ap  (xs : List D) (s : Sx) : k_mklst  xs s = .ok (.d (.lst xs)) s := rfl
def k_tup  (ws : List W) (s : Sx) : Out W := if ws.length ≤ 16777216 then ob (toDs ws s) k_mktup else .stuck
theorem k_tup_ap  (ws : List W) (s : Sx) : k_tup  ws s = if ws.length ≤ 16777216 then ob (toDs ws s) k_mktup else .stuck := rfl
def k_dsp  (ws : List W) (s : Sx) : Out (List W) := if ws.length ≤ 16777216 then .ok ws s else .stuck
theorem k_dsp_ap  (ws : List W) (s : Sx) : k_dsp  ws s = if ws.length ≤ 16777216 then .ok ws s else .stuck := rfl
def k_frz  (ws : List W) (s : Sx) : Out W := ob (toDs ws s) k_mklst
theorem k_frz_ap  (ws : List W) (s : Sx) : k_frz  ws s = ob (toDs ws s) k_mklst := rfl
def k_own  (ws : List W) (s : Sx) : Out W := .ok (.l s.l.length) ⟨s.e, s.l ++ [.m ws], s.g⟩
theorem k_own_ap  (ws : List W) (s : Sx) : k_own  ws s = .ok (.l s.l.length) ⟨s.e, s.l ++ [.m ws], s.g⟩ := rfl
def k_glo  (ws : List W) (s : Sx) : Out W := if noL ws = true then .ok (.g s.g.length) ⟨s.e, s.l, s.g ++ [.m ws]⟩ else .stuck
theorem k_glo_ap  (ws : List W) (s : Sx) : k_glo  ws s = if noL ws = true then .ok (.g s.g.length) ⟨s.e, s.l, s.g ++ [.m ws]⟩ else .stuck := rfl
theorem tup_ob (a : M (List W)) (s : Sx) : tup a s = ob (a s) k_tup := by
  unfold tup; rw [bnd_ob]; congr 1; funext ws s; rw [bnd_ob, k_tup_ap]; unfold fits
  by_cases h : ws.length ≤ 16777216
  · rw [if_pos h, if_pos h, ob_ok, bnd_ob]; rfl
  · rw [if_neg h, if_neg h]; rfl
theorem dsp_ob (a : M (List W)) (s : Sx) : dsp a s = ob (a s) k_dsp := by
  unfold dsp; rw [bnd_ob]; congr 1; funext ws s; rw [bnd_ob, k_dsp_ap]; unfold fits
  by_cases h : ws.length ≤ 16777216
  · rw [if_pos h, if_pos h, ob_ok]; rfl
  · rw [if_neg h, if_neg h]; rfl
theorem frz_ob (a : M (List W)) (s : Sx) : frz a s = ob (a s) k_frz := rfl
theorem own_ob (a : M (List W)) (s : Sx) : Mn.own a s = ob (a s) k_own := rfl
theorem glo_ob (a : M (List W)) (s : Sx) : glo a s = ob (a s) k_glo := rfl
theorem toDs0 (s : Sx) : toDs [] s = .ok [] s := rfl
def k_dc (x : D) (xs : List D) (s : Sx) : Out (List D) := .ok (x :: xs) s
theorem k_dc_ap (x : D) (xs : List D) (s : Sx) : k_dc x xs s = .ok (x :: xs) s := rfl
def k_ds (r : List W) (x : D) (s : Sx) : Out (List D) := ob (toDs r s) (k_dc x)
theorem k_ds_ap (r : List W) (x : D) (s : Sx) : k_ds r x s = ob (toDs r s) (k_dc x) := rfl
theorem toDsS (w : W) (r : List W) (s : Sx) : toDs (w :: r) s = ob (toD w s) (k_ds r) := rfl
theorem toD_d (x : D) (s : Sx) : toD (.d x) s = .ok x s := rfl
theorem toAs0 (s : Sx) : toAs [] s = .ok [] s := rfl
def k_as (r : List W) (x : W) (s : Sx) : Out (List W) := ob (toAs r s) (k_argc x)
theorem k_as_ap (r : List W) (x : W) (s : Sx) : k_as r x s = ob (toAs r s) (k_argc x) := rfl
def k_wd  (x : D) (s : Sx) : Out W := .ok (.d x) s
theorem k_wd_ap  (x : D) (s : Sx) : k_wd  x s = .ok (.d x) s := rfl
theorem toAsS (w : W) (r : List W) (s : Sx) : toAs (w :: r) s = ob (toA w s) (k_as r) := rfl
theorem toA_d (x : D) (s : Sx) : toA (.d x) s = .ok (.d x) s := rfl
theorem toA_g (n : Nat) (s : Sx) : toA (.g n) s = .ok (.g n) s := rfl
theorem toA_l (n : Nat) (s : Sx) : toA (.l n) s = ob (toD (.l n) s) k_wd := rfl
/-- behind a call -/
def fx (o : Fo) (s : Sx) : Out W := match o with
  | .ok w g => .ok w ⟨s.e, s.l, g⟩
  | .exc x g => .exc x ⟨s.e, s.l, g⟩
  | .stuck => .stuck
theorem fx_ok (w : W) (g : List Cell) (s : Sx) : fx (.ok w g) s = .ok w ⟨s.e, s.l, g⟩ := rfl
theorem fx_exc (x : Exn) (g : List Cell) (s : Sx) : fx (.exc x g) s = .exc x ⟨s.e, s.l, g⟩ := rfl
theorem fx_ite (p : Prop) [Decidable p] (a b : Fo) (s : Sx) : fx (if p then a else b) s = if p then fx a s else fx b s := by split <;> rfl
def k_call (F : Fn) (vs : List W) (s : Sx) : Out W := fx (F vs s.g) s
theorem k_call_ap (F : Fn) (vs : List W) (s : Sx) : k_call F vs s = fx (F vs s.g) s := rfl
def k_cl (F : Fn) (ws : List W) (s : Sx) : Out W := ob (toAs ws s) (k_call F)
theorem k_cl_ap (F : Fn) (ws : List W) (s : Sx) : k_cl F ws s = ob (toAs ws s) (k_call F) := rfl
theorem cl_ob (F : Fn) (a : M (List W)) (s : Sx) : cl F a s = ob (a s) (k_cl F) := by
  unfold cl; rw [bnd_ob]; congr 1
theorem fo_ite (p : Prop) [Decidable p] (a b : Out Fl) : fo (if p then a else b) = if p then fo a else fo b := by split <;> rfl
theorem fo_nx (s : Sx) : fo (.ok .nx s) = .ok (.d .non) s.g := rfl
theorem fo_rtd (x : D) (s : Sx) : fo (.ok (.rt (.d x)) s) = .ok (.d x) s.g := rfl
theorem fo_rtg (n : Nat) (s : Sx) : fo (.ok (.rt (.g n)) s) = .ok (.g n) s.g := rfl
theorem fo_exc (x : Exn) (s : Sx) : fo (.exc x s) = .exc x s.g := rfl
theorem fo_stuck : fo .stuck = .stuck := rfl
def intI {β : Type} (v : W) (k : Int → Out β) : Out β := match v with | .d (.int i) => k i | _ => .stuck
theorem intI_int {β : Type} (i : Int) (k : Int → Out β) : intI (.d (.int i)) k = k i := rfl
def k_suby (w : W) (v : W) (s : Sx) : Out W := intI v fun k => oz (items s w) fun ws => oz (ixd ws.length k) fun j => oz (nth ws j) fun x => .ok x s
theorem k_suby_ap (w : W) (v : W) (s : Sx) : k_suby w v s = intI v fun k => oz (items s w) fun ws => oz (ixd ws.length k) fun j => oz (nth ws j) fun x => .ok x s := rfl
def k_sub (i : M W) (w : W) (s : Sx) : Out W := ob (i s) (k_suby w)
theorem k_sub_ap (i : M W) (w : W) (s : Sx) : k_sub i w s = ob (i s) (k_suby w) := rfl
theorem sub_ob (o i : M W) (s : Sx) : sub o i s = ob (o s) (k_sub i) := by
  unfold sub; rw [bnd_ob]; congr 1; funext w s
  show _ = ob (i s) _
  rw [bnd_ob]; congr 1; funext v s
  show _ = intI v _
  cases v with
  | d x =>
    cases x with
    | int k =>
      show _ = oz (items s w) _
      cases items s w with
      | none => rfl
      | some ws =>
        show _ = oz (ixd ws.length k) _
        dsimp only
        cases ixd ws.length k with
        | none => rfl
        | some j => show _ = oz (nth ws j) _; dsimp only; cases nth ws j <;> rfl
    | _ => rfl
  | _ => rfl
theorem chkL_ap (w : W) (s : Sx) : chkL w s = oz (lstAt s w) fun _ => .ok () s := by unfold chkL; cases lstAt s w <;> rfl
def k_appx (w : W) (x : W) (s : Sx) : Out W := oz (lstAt s w) fun ws => if ws.length < 16777216 then oz (lstPut w (ws ++ [x]) s) fun s1 => .ok (.d .non) s1 else .stuck
theorem k_appx_ap (w : W) (x : W) (s : Sx) : k_appx w x s = oz (lstAt s w) fun ws => if ws.length < 16777216 then oz (lstPut w (ws ++ [x]) s) fun s1 => .ok (.d .non) s1 else .stuck := rfl
def k_appv (w : W) (v : W) (s : Sx) : Out W := ob (toA v s) (k_appx w)
theorem k_appv_ap (w : W) (v : W) (s : Sx) : k_appv w v s = ob (toA v s) (k_appx w) := rfl
def k_appc (a : M W) (w : W) (u : Unit) (s : Sx) : Out W := ob (a s) (k_appv w)
theorem k_appc_ap (a : M W) (w : W) (u : Unit) (s : Sx) : k_appc a w u s = ob (a s) (k_appv w) := rfl
def k_app (a : M W) (w : W) (s : Sx) : Out W := ob (chkL w s) (k_appc a w)
theorem k_app_ap (a : M W) (w : W) (s : Sx) : k_app a w s = ob (chkL w s) (k_appc a w) := rfl
theorem app_ob (o a : M W) (s : Sx) : app o a s = ob (o s) (k_app a) := by
  unfold app itm; rw [bnd_ob]; congr 1; funext w s
  show _ = ob (chkL w s) _
  rw [bnd_ob]; congr 1; funext u s
  show _ = ob (a s) _
  rw [bnd_ob]; congr 1; funext v s
  show _ = ob (toA v s) _
  rw [bnd_ob]; congr 1; funext x s
  show _ = oz (lstAt s w) _
  cases lstAt s w with
  | none => rfl
  | some ws =>
    show _ = if ws.length < 16777216 then oz (lstPut w (ws ++ [x]) s) _ else _
    dsimp only
    split
    · cases lstPut w (ws ++ [x]) s <;> rfl
    · rfl
def k_pop  (w : W) (s : Sx) : Out W := oz (lstAt s w) fun ws => oz ws.getLast? fun x => oz (lstPut w ws.dropLast s) fun s1 => .ok x s1
theorem k_pop_ap  (w : W) (s : Sx) : k_pop  w s = oz (lstAt s w) fun ws => oz ws.getLast? fun x => oz (lstPut w ws.dropLast s) fun s1 => .ok x s1 := rfl
theorem pop_ob (o : M W) (s : Sx) : pop o s = ob (o s) k_pop := by
  unfold pop; rw [bnd_ob]; congr 1; funext w s
  show _ = oz (lstAt s w) _
  cases lstAt s w with
  | none => rfl
  | some ws =>
    show _ = oz ws.getLast? _
    dsimp only
    cases ws.getLast? with
    | none => rfl
    | some x => show _ = oz (lstPut w ws.dropLast s) _; dsimp only; cases lstPut w ws.dropLast s <;> rfl
def k_popAv (w : W) (v : W) (s : Sx) : Out W := intI v fun i => oz (lstAt s w) fun ws => if ws.length ≤ 16777216 then oz (ixd ws.length i) fun k => oz (nth ws k) fun x => oz (lstPut w (ws.eraseIdx k) s) fun s1 => .ok x s1 else .stuck
theorem k_popAv_ap (w : W) (v : W) (s : Sx) : k_popAv w v s = intI v fun i => oz (lstAt s w) fun ws => if ws.length ≤ 16777216 then oz (ixd ws.length i) fun k => oz (nth ws k) fun x => oz (lstPut w (ws.eraseIdx k) s) fun s1 => .ok x s1 else .stuck := rfl
def k_popAc (a : M W) (w : W) (u : Unit) (s : Sx) : Out W := ob (a s) (k_popAv w)
theorem k_popAc_ap (a : M W) (w : W) (u : Unit) (s : Sx) : k_popAc a w u s = ob (a s) (k_popAv w) := rfl
def k_popA (a : M W) (w : W) (s : Sx) : Out W := ob (chkL w s) (k_popAc a w)
theorem k_popA_ap (a : M W) (w : W) (s : Sx) : k_popA a w s = ob (chkL w s) (k_popAc a w) := rfl
theorem popAt_ob (o a : M W) (s : Sx) : popAt o a s = ob (o s) (k_popA a) := by
  unfold popAt; rw [bnd_ob]; congr 1; funext w s
  show _ = ob (chkL w s) _
  rw [bnd_ob]; congr 1; funext u s
  show _ = ob (a s) _
  rw [bnd_ob]; congr 1; funext v s
  show _ = intI v _
  cases v with
  | d x =>
    cases x with
    | int k =>
      show _ = oz (lstAt s w) _
      cases lstAt s w with
      | none => rfl
      | some ws =>
        show _ = if ws.length ≤ 16777216 then oz (ixd ws.length k) _ else _
        dsimp only
        split
        · cases ixd ws.length k with
          | none => rfl
          | some j =>
            show _ = oz (nth ws j) _
            dsimp only
            cases nth ws j with
            | none => rfl
            | some x => show _ = oz (lstPut w (ws.eraseIdx j) s) _; dsimp only; cases lstPut w (ws.eraseIdx j) s <;> rfl
        · rfl
    | _ => rfl
  | _ => rfl
def k_setv (x : W) (w : W) (v : W) (s : Sx) : Out Fl := intI v fun k => oz (lstAt s w) fun ws => oz (ixd ws.length k) fun j => oz (lstPut w (upAt ws j x) s) fun s1 => .ok .nx s1
theorem k_setv_ap (x : W) (w : W) (v : W) (s : Sx) : k_setv x w v s = intI v fun k => oz (lstAt s w) fun ws => oz (ixd ws.length k) fun j => oz (lstPut w (upAt ws j x) s) fun s1 => .ok .nx s1 := rfl
def k_seti (i : M W) (x : W) (w : W) (s : Sx) : Out Fl := ob (i s) (k_setv x w)
theorem k_seti_ap (i : M W) (x : W) (w : W) (s : Sx) : k_seti i x w s = ob (i s) (k_setv x w) := rfl
def k_seto (o : M W) (i : M W) (x : W) (s : Sx) : Out Fl := ob (o s) (k_seti i x)
theorem k_seto_ap (o : M W) (i : M W) (x : W) (s : Sx) : k_seto o i x s = ob (o s) (k_seti i x) := rfl
def k_set (o : M W) (i : M W) (w : W) (s : Sx) : Out Fl := ob (toA w s) (k_seto o i)
theorem k_set_ap (o : M W) (i : M W) (w : W) (s : Sx) : k_set o i w s = ob (toA w s) (k_seto o i) := rfl
theorem setS_ob (a o i : M W) (s : Sx) : setS a o i s = ob (a s) (k_set o i) := by
  unfold setS itm; rw [bnd_ob]; congr 1; funext w0 s
  show _ = ob (toA w0 s) _
  rw [bnd_ob]; congr 1; funext x s
  show _ = ob (o s) _
  rw [bnd_ob]; congr 1; funext w s
  show _ = ob (i s) _
  rw [bnd_ob]; congr 1; funext v s
  show _ = intI v _
  cases v with
  | d y =>
    cases y with
    | int k =>
      show _ = oz (lstAt s w) _
      cases lstAt s w with
      | none => rfl
      | some ws =>
        show _ = oz (ixd ws.length k) _
        dsimp only
        cases ixd ws.length k with
        | none => rfl
        | some j => show _ = oz (lstPut w (upAt ws j x) s) _; dsimp only; cases lstPut w (upAt ws j x) s <;> rfl
    | _ => rfl
  | _ => rfl
def k_par (is : List Nat) (ws : List W) (s : Sx) : Out Fl := if ws.length = is.length then .ok .nx ⟨(is.zip ws).foldl (fun e p => upAt e p.1 (some p.2)) s.e, s.l, s.g⟩ else .stuck
theorem k_par_ap (is : List Nat) (ws : List W) (s : Sx) : k_par is ws s = if ws.length = is.length then .ok .nx ⟨(is.zip ws).foldl (fun e p => upAt e p.1 (some p.2)) s.e, s.l, s.g⟩ else .stuck := rfl
theorem par_ob (is : List Nat) (a : M (List W)) (s : Sx) : par is a s = ob (a s) (k_par is) := rfl
theorem forS_ob (it : M (List D)) (g : Tg) (b : St) (s : Sx) : forS it g b s = ob (it s) (loop g b) := rfl
def k_seqD  (x : D) (s : Sx) : Out (List D) := oz (seqD x) fun xs => .ok xs s
theorem k_seqD_ap  (x : D) (s : Sx) : k_seqD  x s = oz (seqD x) fun xs => .ok xs s := rfl
def k_itS  (w : W) (s : Sx) : Out (List D) := ob (toD w s) k_seqD
theorem k_itS_ap  (w : W) (s : Sx) : k_itS  w s = ob (toD w s) k_seqD := rfl
def k_itR (o : List D → Option (List D)) (ws : List W) (s : Sx) : Out (List D) := oz (pks s ws) fun xs => oz (o xs) fun z => .ok z s
theorem k_itR_ap (o : List D → Option (List D)) (ws : List W) (s : Sx) : k_itR o ws s = oz (pks s ws) fun xs => oz (o xs) fun z => .ok z s := rfl
theorem itS_ob (a : M W) (s : Sx) : itS a s = ob (a s) k_itS := by
  unfold itS; rw [bnd_ob]; congr 1
theorem itR_ob (o : List D → Option (List D)) (a : M (List W)) (s : Sx) : itR o a s = ob (a s) (k_itR o) := by
  unfold itR; rw [bnd_ob]; congr 1; funext ws s
  show _ = oz (pks s ws) _
  cases pks s ws with
  | none => rfl
  | some x => show _ = oz (o x) _; dsimp only; cases o x <;> rfl
/-- one turn of a loop is over -/
def lp (o : Out Fl) (k : St) : Out Fl := match o with
  | .ok .nx s => k s
  | .ok .ct s => k s
  | .ok .bk s => .ok .nx s
  | o => o
theorem loop0 (g : Tg) (b : St) (s : Sx) : loop g b [] s = .ok .nx s := rfl
theorem loopS (g : Tg) (b : St) (x : D) (xs : List D) (s : Sx) : loop g b (x :: xs) s = lp (sq (pt g (.d x) s) b) (loop g b xs) := by
  show bnd (asg g (.d x)) _ s = _
  rw [bnd_ob]; unfold asg pt
  cases g (.d x) s with
  | none => rfl
  | some s1 =>
    rw [ob_ok, bnd_ob]
    show ob (b s1) _ = lp (b s1) _
    cases b s1 with
    | ok f s => cases f <;> rfl
    | exc => rfl
    | stuck => rfl
theorem lp_nx (s : Sx) (k : St) : lp (.ok .nx s) k = k s := rfl
theorem lp_ct (s : Sx) (k : St) : lp (.ok .ct s) k = k s := rfl
theorem lp_bk (s : Sx) (k : St) : lp (.ok .bk s) k = .ok .nx s := rfl
theorem lp_rt (w : W) (s : Sx) (k : St) : lp (.ok (.rt w) s) k = .ok (.rt w) s := rfl
theorem lp_exc (x : Exn) (s : Sx) (k : St) : lp (.exc x s) k = .exc x s := rfl
theorem lp_stuck (k : St) : lp .stuck k = .stuck := rfl
theorem lp_ite (p : Prop) [Decidable p] (a b : Out Fl) (k : St) : lp (if p then a else b) k = if p then lp a k else lp b k := by split <;> rfl
def k_whl (b : St) (r : St) (c : Bool) (s : Sx) : Out Fl := if c = true then lp (b s) r else .ok .nx s
theorem k_whl_ap (b : St) (r : St) (c : Bool) (s : Sx) : k_whl b r c s = if c = true then lp (b s) r else .ok .nx s := rfl
theorem whlS (t : M Bool) (b : St) (n : Nat) (s : Sx) : whl t b (n + 1) s = ob (t s) (k_whl b (whl t b n)) := by
  show bnd t _ s = _
  rw [bnd_ob]; congr 1; funext c s; rw [ap_ite, bnd_ob, k_whl_ap]
  by_cases h : c = true
  · rw [if_pos h, if_pos h]
    cases b s with
    | ok f s => cases f <;> rfl
    | exc => rfl
    | stuck => rfl
  · rw [if_neg h, if_neg h]; rfl
theorem fn_run2 (n p : Nat) (b : St) (ws : List W) (g : List Cell) (h : ws.length = p) : fn n p b ws g = fo (b ⟨ws.map some ++ List.replicate (n - p) none, [], g⟩) := fn_run h
theorem items_l (n : Nat) (s : Sx) : items s (.l n) = (match nth s.l n with | some (.m ws) => some ws | some (.f ds) => some (ds.map W.d) | _ => none) := rfl
theorem items_g (n : Nat) (s : Sx) : items s (.g n) = (match nth s.g n with | some (.m ws) => some ws | _ => none) := rfl
theorem items_t (xs : List D) (s : Sx) : items s (.d (.tup xs)) = some (xs.map W.d) := rfl
theorem items_u (xs : List D) (s : Sx) : items s (.d (.tun xs)) = some (xs.map W.d) := rfl
theorem items_d (xs : List D) (s : Sx) : items s (.d (.lst xs)) = some (xs.map W.d) := rfl
theorem pk_d (x : D) (s : Sx) : pk s (.d x) = some (nrm x) := rfl
theorem pks0 (s : Sx) : pks s [] = some [] := rfl
theorem pksS (s : Sx) (w : W) (r : List W) : pks s (w :: r) = (match pk s w with | some x => (match pks s r with | some xs => some (x :: xs) | none => none) | none => none) := rfl
theorem pk_l' (n : Nat) (s : Sx) : pk s (.l n) = (match nth s.l n with
    | some (.m ws) => (match allD ws with | some ds => some (.lst ds) | none => none)
    | some (.f ds) => some (.lst ds)
    | _ => none) := rfl
theorem pk_g (n : Nat) (s : Sx) : pk s (.g n) = (match nth s.g n with
    | some (.m ws) => (match allD ws with | some ds => some (.lst ds) | none => none)
    | _ => none) := rfl
theorem fn_ap (n p : Nat) (b : St) (ws : List W) (g : List Cell) : fn n p b ws g = if ws.length = p then fo (b ⟨ws.map some ++ List.replicate (n - p) none, [], g⟩) else .stuck := rfl
theorem oz_map {α γ β : Type} (o : Option α) (f : α → γ) (k : γ → Out β) : oz (o.map f) k = oz o fun a => k (f a) := by cases o <;> rfl
theorem nth_mapW {α β : Type} (f : α → β) : ∀ (l : List α) (j : Nat), nth (l.map f) j = (nth l j).map f
  | [], _ => rfl
  | _ :: _, 0 => rfl
  | _ :: r, j + 1 => nth_mapW f r j
theorem nth_len {α : Type} (x : α) : ∀ (l : List α), nth (l ++ [x]) l.length = some x
  | [] => rfl
  | _ :: r => nth_len x r
/-! thunks and refusals -/
theorem lamc_fx (F : (List Cell → Fo) → List Cell → Fo) (f : M W) (s : Sx) : lamc F f s = fx (F (lamT (capt s) f) s.g) s := by
  unfold lamc fx; cases F (lamT (capt s) f) s.g <;> rfl
/-- behind a lambda's body -/
def lt (o : Out W) : Fo := match o with
  | .ok w s => (match toA w s with | .ok v s1 => .ok v s1.g | _ => .stuck)
  | .exc x s => .exc x s.g
  | .stuck => .stuck
theorem lamT_ap (e : List (Option W)) (f : M W) (g : List Cell) : lamT e f g = lt (f ⟨e, [], g⟩) := rfl
theorem lt_okd (x : D) (s : Sx) : lt (.ok (.d x) s) = .ok (.d x) s.g := rfl
theorem lt_exc (x : Exn) (s : Sx) : lt (.exc x s) = .exc x s.g := rfl
theorem thk_ap (T : List Cell → Fo) (e : List (Option W)) (l g : List Cell) : thk T 0 ⟨some .t :: e, l, g⟩ = fx (T g) ⟨some .t :: e, l, g⟩ := by
  show (match T g with | .ok w g => Out.ok w _ | .exc x g => .exc x _ | .stuck => .stuck) = _
  unfold fx; cases T g <;> rfl
def ty (o : Out Fl) (sb : Nat → Nat → Option Bool) (hs : List Hd) : Out Fl := match o with
  | .exc x s1 => hdl sb hs x s1
  | o => o
theorem tryS_ty (sb : Nat → Nat → Option Bool) (b : St) (hs : List Hd) (s : Sx) : tryS sb b hs s = ty (b s) sb hs := rfl
theorem ty_ok (f : Fl) (s : Sx) (sb : Nat → Nat → Option Bool) (hs : List Hd) : ty (.ok f s) sb hs = .ok f s := rfl
theorem ty_exc (x : Exn) (s : Sx) (sb : Nat → Nat → Option Bool) (hs : List Hd) : ty (.exc x s) sb hs = hdl sb hs x s := rfl
theorem ty_stuck (sb : Nat → Nat → Option Bool) (hs : List Hd) : ty .stuck sb hs = .stuck := rfl
def k_clK (F : Fn) (js : List Nat) (ws : List W) (s : Sx) : Out W := oz (reord ws js) fun us => ob (toAs us s) (k_call F)
theorem k_clK_ap (F : Fn) (js : List Nat) (ws : List W) (s : Sx) : k_clK F js ws s = oz (reord ws js) fun us => ob (toAs us s) (k_call F) := rfl
theorem clK_fx (F : Fn) (js : List Nat) (a : M (List W)) (s : Sx) : clK F js a s = ob (a s) (k_clK F js) := by
  unfold clK; rw [bnd_ob]; congr 1; funext ws s
  show _ = oz (reord ws js) _
  cases reord ws js with
  | none => rfl
  | some us => rfl
end Mn
set_option Elab.async false
set_option linter.all false
set_option maxRecDepth 100000
set_option maxHeartbeats 1000000
/-! M34: equality of plain values; more words for running. -/
namespace Mn
open PySem
mutual
def okD : Nat → D → Bool
  | _, .non => true
  | _, .bl _ => true
  | _, .int _ => true
  | _, .str x => PyData.canLay0 (.str x)
  | n, .tup xs => match n with | 0 => false | n + 1 => okDs n xs
  | n, .lst xs => match n with | 0 => false | n + 1 => okDs n xs
  | _, .con _ => false
  | _, .ty _ => false
  | _, .obj _ _ => false
  | _, .tun _ => false
def okDs : Nat → List D → Bool
  | _, [] => true
  | n, x :: xs => okD n x && okDs n xs
end
mutual
def eqvD : D → D → Bool
  | .non, y => (match y with | .non => true | _ => false)
  | .bl a, y => (match y with | .bl b => a == b | .int j => (if a then 1 else 0) == j | _ => false)
  | .int i, y => (match y with | .bl b => i == (if b then 1 else 0) | .int j => i == j | _ => false)
  | .str x, y => (match y with | .str z => x == z | _ => false)
  | .lst xs, y => (match y with | .lst ys => eqvDs xs ys | _ => false)
  | .tup xs, y => (match y with | .tup ys => eqvDs xs ys | _ => false)
  | .con _, _ => false
  | .ty _, _ => false
  | .obj _ _, _ => false
  | .tun _, _ => false
def eqvDs : List D → List D → Bool
  | [], ys => (match ys with | [] => true | _ => false)
  | x :: xs, ys => (match ys with | y :: ys => eqvD x y && eqvDs xs ys | [] => false)
end
mutual
theorem toP_ok : ∀ (n : Nat) (x : D), okD n x = true → ∃ d, toP x = some d ∧ d.canLay0 = true ∧ d.depth ≤ n
  | n, .non, _ => ⟨_, rfl, rfl, by simp [PyData.depth]⟩
  | n, .bl _, _ => ⟨_, rfl, rfl, by simp [PyData.depth]⟩
  | n, .int _, _ => ⟨_, rfl, rfl, by simp [PyData.depth]⟩
  | n, .str x, h => ⟨_, rfl, by simpa only [okD] using h, by simp [PyData.depth]⟩
  | 0, .tup xs, h => by simp [okD] at h
  | 0, .lst xs, h => by simp [okD] at h
  | n + 1, .tup xs, h => by
    obtain ⟨ds, e, h1, h2⟩ := toPs_ok n xs (by simpa only [okD] using h)
    exact ⟨.tuple ds, by simp only [toP, e], by simpa only [PyData.canLay0] using h1, by simp only [PyData.depth]; omega⟩
  | n + 1, .lst xs, h => by
    obtain ⟨ds, e, h1, h2⟩ := toPs_ok n xs (by simpa only [okD] using h)
    exact ⟨.list ds, by simp only [toP, e], by simpa only [PyData.canLay0] using h1, by simp only [PyData.depth]; omega⟩
  | _, .con _, h => by simp [okD] at h
  | _, .ty _, h => by simp [okD] at h
  | _, .obj _ _, h => by simp [okD] at h
  | _, .tun _, h => by simp [okD] at h
theorem toPs_ok : ∀ (n : Nat) (xs : List D), okDs n xs = true → ∃ ds, toPs xs = some ds ∧ PyData.canLayAll0 ds = true ∧ PyData.depthAll ds ≤ n
  | n, [], _ => ⟨[], rfl, rfl, by simp [PyData.depthAll]⟩
  | n, x :: xs, h => by
    have h' : okD n x = true ∧ okDs n xs = true := by simpa only [okDs, Bool.and_eq_true] using h
    obtain ⟨d, e, h1, h2⟩ := toP_ok n x h'.1
    obtain ⟨ds, e', h3, h4⟩ := toPs_ok n xs h'.2
    exact ⟨d :: ds, by simp only [toPs, e, e'], by simp only [PyData.canLayAll0, h1, h3, Bool.and_self], by simp only [PyData.depthAll]; omega⟩
end
end Mn
set_option Elab.async false
set_option linter.all false
set_option maxRecDepth 100000
set_option maxHeartbeats 1000000
/-! M35: equality, continued. -/
namespace Mn
open PySem
mutual
theorem eqv_eq : ∀ (x : D) (d e : PyData) (y : D) (n : Nat), okD n y = true → toP x = some d → toP y = some e → (∀ xs, x ≠ .tun xs) → okD n x = true → PyData.eqv d e = eqvD x y
  | .non, d, e, y, n, hy, h1, h2, _, _ => by
    cases h1
    cases y <;> simp only [toP] at h2 <;> (try split at h2) <;> cases h2 <;> simp [PyData.eqv, eqvD, okD] at hy ⊢
  | .bl a, d, e, y, n, hy, h1, h2, _, _ => by
    cases h1
    cases y <;> simp only [toP] at h2 <;> (try split at h2) <;> cases h2 <;> simp [PyData.eqv, eqvD, okD] at hy ⊢
  | .int a, d, e, y, n, hy, h1, h2, _, _ => by
    cases h1
    cases y <;> simp only [toP] at h2 <;> (try split at h2) <;> cases h2 <;> simp [PyData.eqv, eqvD, okD] at hy ⊢
  | .str a, d, e, y, n, hy, h1, h2, _, _ => by
    cases h1
    cases y <;> simp only [toP] at h2 <;> (try split at h2) <;> cases h2 <;> simp [PyData.eqv, eqvD, okD] at hy ⊢
  | .tup xs, d, e, y, n, hy, h1, h2, _, hx => by
    simp only [toP] at h1
    split at h1
    · rename_i ds q
      cases h1
      match n, hx with
      | n + 1, hx =>
      cases y <;> simp only [toP] at h2 <;> (try split at h2) <;> cases h2 <;> (try simp [PyData.eqv, eqvD, okD] at hy ⊢)
      rename_i ys _ es q2
      exact eqvs_eq xs ds es ys n hy q q2 (by simpa only [okD] using hx)
    · cases h1
  | .lst xs, d, e, y, n, hy, h1, h2, _, hx => by
    simp only [toP] at h1
    split at h1
    · rename_i ds q
      cases h1
      match n, hx with
      | n + 1, hx =>
      cases y <;> simp only [toP] at h2 <;> (try split at h2) <;> cases h2 <;> (try simp [PyData.eqv, eqvD, okD] at hy ⊢)
      rename_i ys _ es q2
      exact eqvs_eq xs ds es ys n hy q q2 (by simpa only [okD] using hx)
    · cases h1
  | .con _, d, e, y, n, hy, h1, h2, _, _ => by simp [toP] at h1
  | .ty _, d, e, y, n, hy, h1, h2, _, _ => by simp [toP] at h1
  | .obj _ _, d, e, y, n, hy, h1, h2, _, _ => by simp [toP] at h1
  | .tun xs, d, e, y, n, hy, h1, h2, h3, _ => absurd rfl (h3 xs)
theorem eqvs_eq : ∀ (xs : List D) (ds es : List PyData) (ys : List D) (n : Nat), okDs n ys = true → toPs xs = some ds → toPs ys = some es → okDs n xs = true → PyData.eqvAll ds es = eqvDs xs ys
  | [], ds, es, ys, n, hy, h1, h2, hx => by
    cases h1
    cases ys with
    | nil => cases h2; simp [PyData.eqvAll, eqvDs]
    | cons y ys =>
      simp only [toPs] at h2
      split at h2
      · split at h2
        · cases h2; simp [PyData.eqvAll, eqvDs]
        · cases h2
      · cases h2
  | x :: xs, ds, es, ys, n, hy, h1, h2, hx => by
    simp only [toPs] at h1
    split at h1
    · rename_i d q
      split at h1
      · rename_i ds' q'
        cases h1
        have hx' : okD n x = true ∧ okDs n xs = true := by simpa only [okDs, Bool.and_eq_true] using hx
        cases ys with
        | nil => cases h2; simp [PyData.eqvAll, eqvDs]
        | cons y ys =>
          simp only [toPs] at h2
          have hy' : okD n y = true ∧ okDs n ys = true := by simpa only [okDs, Bool.and_eq_true] using hy
          split at h2
          · rename_i e r
            split at h2
            · rename_i es' r'
              cases h2
              simp only [PyData.eqvAll, eqvDs]
              rw [eqv_eq x d e y n hy'.1 q r (fun zs z => by rw [z] at hx'; simp [okD] at hx') hx'.1, eqvs_eq xs ds' es' ys n hy'.2 q' r' hx'.2]
            · cases h2
          · cases h2
      · cases h1
    · cases h1
end
theorem okD_tun {n : Nat} {x : D} (h : okD n x = true) : ∀ xs, x ≠ .tun xs := fun xs z => by rw [z] at h; simp [okD] at h
theorem eqD_ok0 {n : Nat} {x y : D} (hx : okD n x = true) (hy : okD n y = true) (hn : n ≤ 64) : eqD0 x y = some (.bl (eqvD x y)) := by
  obtain ⟨d, e, h1, h2⟩ := toP_ok n x hx
  obtain ⟨d', e', h1', h2'⟩ := toP_ok n y hy
  unfold eqD0 SeqAt.shaped
  simp only [e, e', h1, h1', Bool.true_and, decide_eq_true (Nat.le_trans h2 hn), decide_eq_true (Nat.le_trans h2' hn), if_true, Bool.and_self]
  rw [eqv_eq x d d' y n hy e e' (okD_tun hx) hx]
theorem neD_ok0 {n : Nat} {x y : D} (hx : okD n x = true) (hy : okD n y = true) (hn : n ≤ 64) : neD0 x y = some (.bl (!eqvD x y)) := by
  obtain ⟨d, e, h1, h2⟩ := toP_ok n x hx
  obtain ⟨d', e', h1', h2'⟩ := toP_ok n y hy
  unfold neD0 SeqAt.shaped
  simp only [e, e', h1, h1', Bool.true_and, decide_eq_true (Nat.le_trans h2 hn), decide_eq_true (Nat.le_trans h2' hn), if_true, Bool.and_self]
  rw [eqv_eq x d d' y n hy e e' (okD_tun hx) hx]
theorem eqD_ok {n : Nat} {x y : D} (hx : okD n x = true) (hy : okD n y = true) (hn : n ≤ 64) : eqD x y = some (.bl (eqvD x y)) := by
  unfold eqD
  split
  · rename_i b q
    obtain ⟨i, j, rfl, rfl, rfl⟩ := strP_some q
    simp only [eqvD]; rfl
  · exact eqD_ok0 hx hy hn
theorem neD_ok {n : Nat} {x y : D} (hx : okD n x = true) (hy : okD n y = true) (hn : n ≤ 64) : neD x y = some (.bl (!eqvD x y)) := by
  unfold neD
  split
  · rename_i b q
    obtain ⟨i, j, rfl, rfl, rfl⟩ := strP_some q
    simp only [eqvD]; rfl
  · exact neD_ok0 hx hy hn
theorem eqD_ss (a b : Str) : eqD (.str a) (.str b) = some (.bl (decide (a = b))) := rfl
theorem neD_ss (a b : Str) : neD (.str a) (.str b) = some (.bl (!decide (a = b))) := rfl
theorem eqD_ii (a b : Int) : eqD (.int a) (.int b) = some (.bl (decide (a = b))) := (eqD_ok (n := 0) rfl rfl (by decide)).trans (by simp only [eqvD]; rfl)
theorem neD_ii (a b : Int) : neD (.int a) (.int b) = some (.bl (decide (a ≠ b))) := (neD_ok (n := 0) rfl rfl (by decide)).trans (by
  simp only [eqvD]; by_cases h : a = b <;> simp [h])
mutual
theorem okD_up : ∀ (n m : Nat) (x : D), n ≤ m → okD n x = true → okD m x = true
  | _, _, .non, _, _ => by simp [okD]
  | _, _, .bl _, _, _ => by simp [okD]
  | _, _, .int _, _, _ => by simp [okD]
  | _, _, .str _, _, h => by simpa only [okD] using h
  | n + 1, m + 1, .tup xs, l, h => by simp only [okD] at h ⊢; exact okDs_up n m xs (by omega) h
  | n + 1, m + 1, .lst xs, l, h => by simp only [okD] at h ⊢; exact okDs_up n m xs (by omega) h
  | 0, _, .tup _, _, h => by simp [okD] at h
  | 0, _, .lst _, _, h => by simp [okD] at h
  | _ + 1, 0, .tup _, l, _ => by omega
  | _ + 1, 0, .lst _, l, _ => by omega
  | _, _, .con _, _, h => by simp [okD] at h
  | _, _, .ty _, _, h => by simp [okD] at h
  | _, _, .obj _ _, _, h => by simp [okD] at h
  | _, _, .tun _, _, h => by simp [okD] at h
theorem okDs_up : ∀ (n m : Nat) (xs : List D), n ≤ m → okDs n xs = true → okDs m xs = true
  | _, _, [], _, _ => by simp [okDs]
  | n, m, x :: xs, l, h => by
    simp only [okDs, Bool.and_eq_true] at h ⊢
    exact ⟨okD_up n m x l h.1, okDs_up n m xs l h.2⟩
end
theorem okDs_all {n : Nat} : ∀ {xs : List D}, okDs n xs = true ↔ ∀ x ∈ xs, okD n x = true
  | [] => by simp [okDs]
  | x :: xs => by simp [okDs, okDs_all (xs := xs)]
theorem okD_ints (n : Nat) (cs : List Int) : okD (n + 1) (.lst (cs.map D.int)) = true := by
  simp only [okD]
  exact okDs_all.mpr fun x hx => by obtain ⟨i, _, rfl⟩ := List.mem_map.mp hx; simp [okD]
theorem okD_intsT (n : Nat) (cs : List Int) : okD (n + 1) (.tup (cs.map D.int)) = true := by
  simp only [okD]
  exact okDs_all.mpr fun x hx => by obtain ⟨i, _, rfl⟩ := List.mem_map.mp hx; simp [okD]
theorem eqvDs_ints : ∀ as bs : List Int, eqvDs (as.map D.int) (bs.map D.int) = decide (as = bs)
  | [], [] => by simp [eqvDs]
  | [], _ :: _ => by simp [eqvDs]
  | _ :: _, [] => by simp [eqvDs]
  | a :: as, b :: bs => by
    have e : (a == b) = decide (a = b) := rfl
    simp [eqvDs, eqvD, eqvDs_ints as bs, e]
mutual
theorem eqvD_refl : ∀ (n : Nat) (x : D), okD n x = true → eqvD x x = true
  | _, .non, _ => by simp [eqvD]
  | _, .bl _, _ => by simp [eqvD]
  | _, .int _, _ => by simp [eqvD]
  | _, .str _, _ => by simp [eqvD]
  | n + 1, .tup xs, h => by simp only [okD] at h; simp only [eqvD]; exact eqvDs_refl n xs h
  | n + 1, .lst xs, h => by simp only [okD] at h; simp only [eqvD]; exact eqvDs_refl n xs h
  | 0, .tup _, h => by simp [okD] at h
  | 0, .lst _, h => by simp [okD] at h
  | _, .con _, h => by simp [okD] at h
  | _, .ty _, h => by simp [okD] at h
  | _, .obj _ _, h => by simp [okD] at h
  | _, .tun _, h => by simp [okD] at h
theorem eqvDs_refl : ∀ (n : Nat) (xs : List D), okDs n xs = true → eqvDs xs xs = true
  | _, [], _ => by simp [eqvDs]
  | n, x :: xs, h => by
    simp only [okDs, Bool.and_eq_true] at h
    simp only [eqvDs, eqvD_refl n x h.1, eqvDs_refl n xs h.2, Bool.and_self]
end
/-- a list is not empty -/
theorem neD_nil {n : Nat} {xs : List D} (h : okDs n xs = true) (hn : n < 64) : neD (.lst xs) (.lst []) = some (.bl (decide (xs ≠ []))) := by
  rw [neD_ok (n := n + 1) (by simpa only [okD] using h) (by simp [okD, okDs]) hn]
  cases xs <;> simp [eqvD, eqvDs]
theorem eqD_nil {n : Nat} {xs : List D} (h : okDs n xs = true) (hn : n < 64) : eqD (.lst xs) (.lst []) = some (.bl (decide (xs = []))) := by
  rw [eqD_ok (n := n + 1) (by simpa only [okD] using h) (by simp [okD, okDs]) hn]
  cases xs <;> simp [eqvD, eqvDs]
theorem okDs_ints (n : Nat) (cs : List Int) : okDs n (cs.map D.int) = true := okDs_all.mpr fun x hx => by obtain ⟨i, _, rfl⟩ := List.mem_map.mp hx; simp [okD]
end Mn
set_option Elab.async false
set_option linter.all false
set_option maxRecDepth 100000
set_option maxHeartbeats 1000000
/-! M36: still more words; how a law draws. -/
namespace Mn
open PySem
theorem ixd_0 (n : Nat) : ixd (n + 1) 0 = some 0 := by unfold ixd; rw [if_pos (by omega), if_pos (by omega)]; rfl
theorem ixd_1 (n : Nat) : ixd (n + 1 + 1) 1 = some 1 := by unfold ixd; rw [if_pos (by omega), if_pos (by omega)]; rfl
theorem ixd_2 (n : Nat) : ixd (n + 1 + 1 + 1) 2 = some 2 := by unfold ixd; rw [if_pos (by omega), if_pos (by omega)]; rfl
theorem ixd_3 (n : Nat) : ixd (n + 1 + 1 + 1 + 1) 3 = some 3 := by unfold ixd; rw [if_pos (by omega), if_pos (by omega)]; rfl
theorem lt_ii (a b : Int) : ltD (.int a) (.int b) = some (.bl (decide (a < b))) := rfl
theorem le_ii (a b : Int) : leD (.int a) (.int b) = some (.bl (decide (a ≤ b))) := rfl
theorem gt_ii (a b : Int) : gtD (.int a) (.int b) = some (.bl (decide (b < a))) := rfl
theorem ge_ii (a b : Int) : geD (.int a) (.int b) = some (.bl (decide (b ≤ a))) := rfl
theorem add_ii (a b : Int) : addD (.int a) (.int b) = some (.int (a + b)) := rfl
theorem sub_ii (a b : Int) : subD (.int a) (.int b) = some (.int (a - b)) := rfl
theorem neg_i (a : Int) : negD (.int a) = some (.int (-a)) := rfl
theorem ixd_last (n : Nat) : ixd n (-1) = if n = 0 then none else some (n - 1) := by
  unfold ixd
  rw [if_neg (by omega)]
  by_cases h : n = 0
  · rw [if_pos h, if_neg (by omega)]
  · rw [if_neg h, if_pos (by omega)]; congr 1; omega
theorem ixd_in {n : Nat} {i : Int} (h : 0 ≤ i) (h1 : i < n) : ixd n i = some i.toNat := by unfold ixd; rw [if_pos h, if_pos h1]
theorem noL_map : ∀ ds : List D, noL (ds.map W.d) = true
  | [] => rfl
  | x :: r => noL_map r
def HG (cs : List Int) (st : Int) (rest : List Cell) : List Cell := .m ((cs.map D.int).map W.d) :: .m [.g 0, .d (.int st)] :: rest
def tD : M Bool := andT (tst (b2 neD (sub (vr 0) (cs (.int 0))) (frz (dsp (args []))))) (tst (b2 eqD (sub (sub (vr 0) (cs (.int 0))) (u1 negD (cs (.int 1)))) (cs (.int 0))))
def bD : St := ex (pop (sub (vr 0) (cs (.int 0))))
def DE0 (m : Int) (x : Option W) (g : List Cell) : Sx := ⟨[some (.g 1), some (.d (.int m)), x], [], g⟩
theorem tD_nil {m st : Int} {rest : List Cell} {x : Option W} : tD (DE0 m x (HG [] st rest)) = .ok false (DE0 m x (HG [] st rest)) := by
  unfold tD DE0 HG
  simp only [ob_ok, ob_exc, ob_stuck, ob_ite, oz_some, oz_none, oz_ite, bnd_ob, ap_ite, pur_ap, opt_ap, nth0, nthS, upAt0, upAtS, vr_ap, cs_ap, u1_ob, b2_ob, b2L_ob, args0, argsS, bi_ob, biL_ob, tst_ob, bool_bl, andT_ob, orT_ob, notT_ob, andV_ob, orV_ob, notV_ob, ite_ob, ifS_ob, skip_ap, sq_nx, sq_rt, sq_bk, sq_ct, sq_exc, sq_stuck, sq_ite, seq_sq, ex_ob, rt_ob, st_ob, pt_n, pt_t, pt_tu, tGo0, tGoS, tup_ob, dsp_ob, frz_ob, own_ob, glo_ob, toDs0, toDsS, toD_d, toAs0, toAsS, toA_d, toA_g, fx_ok, fx_exc, fx_ite, cl_ob, fo_ite, fo_nx, fo_rtd, fo_rtg, fo_exc, fo_stuck, intI_int, sub_ob, chkL_ap, app_ob, pop_ob, popAt_ob, setS_ob, par_ob, forS_ob, itS_ob, itR_ob, lp_nx, lp_ct, lp_bk, lp_rt, lp_exc, lp_stuck, lp_ite, pk_d, pks0, pksS, items_t, items_u, items_d, nrm, lstAt, lstPut, pk_l', pk_g, items_l, items_g, allD_map, allD, fn_ap, oz_map, nth_mapW, List.length_map, ixd_0, ixd_1, ixd_2, ixd_3, lamc_fx, capt, lamT_ap, lt_okd, lt_exc, thk_ap, tryS_ty, ty_ok, ty_stuck, eqD_ii, neD_ii, eqD_ss, neD_ss, lt_ii, le_ii, gt_ii, ge_ii, add_ii, sub_ii, neg_i, List.map_cons, List.map_nil, List.length_cons, List.length_nil, List.zip_cons_cons, List.zip_nil_right, List.zip_nil_left, List.foldl_cons, List.foldl_nil, List.replicate, List.cons_append, List.nil_append, Nat.reduceAdd, Nat.reduceSub, Nat.reduceLeDiff, Nat.reduceLT, Int.reduceLT, Int.reduceLE, Int.reduceAdd, Int.reduceSub, Int.reduceNeg, Int.reduceMul, Bool.not_true, Bool.not_false, decide_eq_true_eq, Bool.not_eq_true', decide_eq_false_iff_not, if_true, if_false, reduceIte, Nat.zero_le, true_and, and_true, seqD, k_u1_ap, k_b2y_ap, k_b2_ap, k_b2Ly_ap, k_b2L_ap, k_argc_ap, k_args_ap, k_bi_ap, k_biL_ap, k_andT_ap, k_orT_ap, k_notT_ap, k_andB_ap, k_andV_ap, k_orB_ap, k_orV_ap, k_notB_ap, k_notV_ap, k_ite_ap, k_ifS_ap, k_ex_ap, k_rt_ap, k_mktup_ap, k_mklst_ap, k_tup_ap, k_dsp_ap, k_frz_ap, k_own_ap, k_glo_ap, k_dc_ap, k_ds_ap, k_as_ap, k_wd_ap, k_call_ap, k_cl_ap, k_suby_ap, k_sub_ap, k_appx_ap, k_appv_ap, k_appc_ap, k_app_ap, k_pop_ap, k_popAv_ap, k_popAc_ap, k_popA_ap, k_setv_ap, k_seti_ap, k_seto_ap, k_set_ap, k_par_ap, k_seqD_ap, k_itS_ap, k_itR_ap, k_whl_ap, k_clK_ap, neD_nil (n := 0) (xs := []) rfl (by decide), ne_eq, not_true, Bool.false_eq_true, decide_false]
theorem tD_one {m st c : Int} {cs : List Int} {rest : List Cell} {x : Option W} : tD (DE0 m x (HG (cs ++ [c]) st rest)) = .ok (decide (c = 0)) (DE0 m x (HG (cs ++ [c]) st rest)) := by
  unfold tD DE0 HG
  have h1 : List.map D.int (cs ++ [c]) ≠ [] := by simp
  simp only [ob_ok, ob_exc, ob_stuck, ob_ite, oz_some, oz_none, oz_ite, bnd_ob, ap_ite, pur_ap, opt_ap, nth0, nthS, upAt0, upAtS, vr_ap, cs_ap, u1_ob, b2_ob, b2L_ob, args0, argsS, bi_ob, biL_ob, tst_ob, bool_bl, andT_ob, orT_ob, notT_ob, andV_ob, orV_ob, notV_ob, ite_ob, ifS_ob, skip_ap, sq_nx, sq_rt, sq_bk, sq_ct, sq_exc, sq_stuck, sq_ite, seq_sq, ex_ob, rt_ob, st_ob, pt_n, pt_t, pt_tu, tGo0, tGoS, tup_ob, dsp_ob, frz_ob, own_ob, glo_ob, toDs0, toDsS, toD_d, toAs0, toAsS, toA_d, toA_g, fx_ok, fx_exc, fx_ite, cl_ob, fo_ite, fo_nx, fo_rtd, fo_rtg, fo_exc, fo_stuck, intI_int, sub_ob, chkL_ap, app_ob, pop_ob, popAt_ob, setS_ob, par_ob, forS_ob, itS_ob, itR_ob, lp_nx, lp_ct, lp_bk, lp_rt, lp_exc, lp_stuck, lp_ite, pk_d, pks0, pksS, items_t, items_u, items_d, nrm, lstAt, lstPut, pk_l', pk_g, items_l, items_g, allD_map, allD, fn_ap, oz_map, nth_mapW, List.length_map, ixd_0, ixd_1, ixd_2, ixd_3, lamc_fx, capt, lamT_ap, lt_okd, lt_exc, thk_ap, tryS_ty, ty_ok, ty_stuck, eqD_ii, neD_ii, eqD_ss, neD_ss, lt_ii, le_ii, gt_ii, ge_ii, add_ii, sub_ii, neg_i, List.map_cons, List.map_nil, List.length_cons, List.length_nil, List.zip_cons_cons, List.zip_nil_right, List.zip_nil_left, List.foldl_cons, List.foldl_nil, List.replicate, List.cons_append, List.nil_append, Nat.reduceAdd, Nat.reduceSub, Nat.reduceLeDiff, Nat.reduceLT, Int.reduceLT, Int.reduceLE, Int.reduceAdd, Int.reduceSub, Int.reduceNeg, Int.reduceMul, Bool.not_true, Bool.not_false, decide_eq_true_eq, Bool.not_eq_true', decide_eq_false_iff_not, if_true, if_false, reduceIte, Nat.zero_le, true_and, and_true, seqD, k_u1_ap, k_b2y_ap, k_b2_ap, k_b2Ly_ap, k_b2L_ap, k_argc_ap, k_args_ap, k_bi_ap, k_biL_ap, k_andT_ap, k_orT_ap, k_notT_ap, k_andB_ap, k_andV_ap, k_orB_ap, k_orV_ap, k_notB_ap, k_notV_ap, k_ite_ap, k_ifS_ap, k_ex_ap, k_rt_ap, k_mktup_ap, k_mklst_ap, k_tup_ap, k_dsp_ap, k_frz_ap, k_own_ap, k_glo_ap, k_dc_ap, k_ds_ap, k_as_ap, k_wd_ap, k_call_ap, k_cl_ap, k_suby_ap, k_sub_ap, k_appx_ap, k_appv_ap, k_appc_ap, k_app_ap, k_pop_ap, k_popAv_ap, k_popAc_ap, k_popA_ap, k_setv_ap, k_seti_ap, k_seto_ap, k_set_ap, k_par_ap, k_seqD_ap, k_itS_ap, k_itR_ap, k_whl_ap, k_clK_ap, neD_nil (okDs_ints 0 (cs ++ [c])) (by decide), ixd_last]
  rw [if_pos h1, if_neg (by simp), show (cs ++ [c]).length - 1 = cs.length by simp]
  simp only [ob_ok, ob_exc, ob_stuck, ob_ite, oz_some, oz_none, oz_ite, bnd_ob, ap_ite, pur_ap, opt_ap, nth0, nthS, upAt0, upAtS, vr_ap, cs_ap, u1_ob, b2_ob, b2L_ob, args0, argsS, bi_ob, biL_ob, tst_ob, bool_bl, andT_ob, orT_ob, notT_ob, andV_ob, orV_ob, notV_ob, ite_ob, ifS_ob, skip_ap, sq_nx, sq_rt, sq_bk, sq_ct, sq_exc, sq_stuck, sq_ite, seq_sq, ex_ob, rt_ob, st_ob, pt_n, pt_t, pt_tu, tGo0, tGoS, tup_ob, dsp_ob, frz_ob, own_ob, glo_ob, toDs0, toDsS, toD_d, toAs0, toAsS, toA_d, toA_g, fx_ok, fx_exc, fx_ite, cl_ob, fo_ite, fo_nx, fo_rtd, fo_rtg, fo_exc, fo_stuck, intI_int, sub_ob, chkL_ap, app_ob, pop_ob, popAt_ob, setS_ob, par_ob, forS_ob, itS_ob, itR_ob, lp_nx, lp_ct, lp_bk, lp_rt, lp_exc, lp_stuck, lp_ite, pk_d, pks0, pksS, items_t, items_u, items_d, nrm, lstAt, lstPut, pk_l', pk_g, items_l, items_g, allD_map, allD, fn_ap, oz_map, nth_mapW, List.length_map, ixd_0, ixd_1, ixd_2, ixd_3, lamc_fx, capt, lamT_ap, lt_okd, lt_exc, thk_ap, tryS_ty, ty_ok, ty_stuck, eqD_ii, neD_ii, eqD_ss, neD_ss, lt_ii, le_ii, gt_ii, ge_ii, add_ii, sub_ii, neg_i, List.map_cons, List.map_nil, List.length_cons, List.length_nil, List.zip_cons_cons, List.zip_nil_right, List.zip_nil_left, List.foldl_cons, List.foldl_nil, List.replicate, List.cons_append, List.nil_append, Nat.reduceAdd, Nat.reduceSub, Nat.reduceLeDiff, Nat.reduceLT, Int.reduceLT, Int.reduceLE, Int.reduceAdd, Int.reduceSub, Int.reduceNeg, Int.reduceMul, Bool.not_true, Bool.not_false, decide_eq_true_eq, Bool.not_eq_true', decide_eq_false_iff_not, if_true, if_false, reduceIte, Nat.zero_le, true_and, and_true, seqD, k_u1_ap, k_b2y_ap, k_b2_ap, k_b2Ly_ap, k_b2L_ap, k_argc_ap, k_args_ap, k_bi_ap, k_biL_ap, k_andT_ap, k_orT_ap, k_notT_ap, k_andB_ap, k_andV_ap, k_orB_ap, k_orV_ap, k_notB_ap, k_notV_ap, k_ite_ap, k_ifS_ap, k_ex_ap, k_rt_ap, k_mktup_ap, k_mklst_ap, k_tup_ap, k_dsp_ap, k_frz_ap, k_own_ap, k_glo_ap, k_dc_ap, k_ds_ap, k_as_ap, k_wd_ap, k_call_ap, k_cl_ap, k_suby_ap, k_sub_ap, k_appx_ap, k_appv_ap, k_appc_ap, k_app_ap, k_pop_ap, k_popAv_ap, k_popAc_ap, k_popA_ap, k_setv_ap, k_seti_ap, k_seto_ap, k_set_ap, k_par_ap, k_seqD_ap, k_itS_ap, k_itR_ap, k_whl_ap, k_clK_ap, nth_len]
theorem bD_one {m st c : Int} {cs : List Int} {rest : List Cell} {x : Option W} : bD (DE0 m x (HG (cs ++ [c]) st rest)) = .ok .nx (DE0 m x (HG cs st rest)) := by
  unfold bD DE0 HG
  simp only [ob_ok, ob_exc, ob_stuck, ob_ite, oz_some, oz_none, oz_ite, bnd_ob, ap_ite, pur_ap, opt_ap, nth0, nthS, upAt0, upAtS, vr_ap, cs_ap, u1_ob, b2_ob, b2L_ob, args0, argsS, bi_ob, biL_ob, tst_ob, bool_bl, andT_ob, orT_ob, notT_ob, andV_ob, orV_ob, notV_ob, ite_ob, ifS_ob, skip_ap, sq_nx, sq_rt, sq_bk, sq_ct, sq_exc, sq_stuck, sq_ite, seq_sq, ex_ob, rt_ob, st_ob, pt_n, pt_t, pt_tu, tGo0, tGoS, tup_ob, dsp_ob, frz_ob, own_ob, glo_ob, toDs0, toDsS, toD_d, toAs0, toAsS, toA_d, toA_g, fx_ok, fx_exc, fx_ite, cl_ob, fo_ite, fo_nx, fo_rtd, fo_rtg, fo_exc, fo_stuck, intI_int, sub_ob, chkL_ap, app_ob, pop_ob, popAt_ob, setS_ob, par_ob, forS_ob, itS_ob, itR_ob, lp_nx, lp_ct, lp_bk, lp_rt, lp_exc, lp_stuck, lp_ite, pk_d, pks0, pksS, items_t, items_u, items_d, nrm, lstAt, lstPut, pk_l', pk_g, items_l, items_g, allD_map, allD, fn_ap, oz_map, nth_mapW, List.length_map, ixd_0, ixd_1, ixd_2, ixd_3, lamc_fx, capt, lamT_ap, lt_okd, lt_exc, thk_ap, tryS_ty, ty_ok, ty_stuck, eqD_ii, neD_ii, eqD_ss, neD_ss, lt_ii, le_ii, gt_ii, ge_ii, add_ii, sub_ii, neg_i, List.map_cons, List.map_nil, List.length_cons, List.length_nil, List.zip_cons_cons, List.zip_nil_right, List.zip_nil_left, List.foldl_cons, List.foldl_nil, List.replicate, List.cons_append, List.nil_append, Nat.reduceAdd, Nat.reduceSub, Nat.reduceLeDiff, Nat.reduceLT, Int.reduceLT, Int.reduceLE, Int.reduceAdd, Int.reduceSub, Int.reduceNeg, Int.reduceMul, Bool.not_true, Bool.not_false, decide_eq_true_eq, Bool.not_eq_true', decide_eq_false_iff_not, if_true, if_false, reduceIte, Nat.zero_le, true_and, and_true, seqD, k_u1_ap, k_b2y_ap, k_b2_ap, k_b2Ly_ap, k_b2L_ap, k_argc_ap, k_args_ap, k_bi_ap, k_biL_ap, k_andT_ap, k_orT_ap, k_notT_ap, k_andB_ap, k_andV_ap, k_orB_ap, k_orV_ap, k_notB_ap, k_notV_ap, k_ite_ap, k_ifS_ap, k_ex_ap, k_rt_ap, k_mktup_ap, k_mklst_ap, k_tup_ap, k_dsp_ap, k_frz_ap, k_own_ap, k_glo_ap, k_dc_ap, k_ds_ap, k_as_ap, k_wd_ap, k_call_ap, k_cl_ap, k_suby_ap, k_sub_ap, k_appx_ap, k_appv_ap, k_appc_ap, k_app_ap, k_pop_ap, k_popAv_ap, k_popAc_ap, k_popA_ap, k_setv_ap, k_seti_ap, k_seto_ap, k_set_ap, k_par_ap, k_seqD_ap, k_itS_ap, k_itR_ap, k_whl_ap, k_clK_ap, List.map_append, List.getLast?_concat, List.dropLast_concat, noL_map]
theorem whl_draw {m st : Int} {rest : List Cell} {x : Option W} : ∀ (n : Nat) (cs : List Int) (f : Nat), cs.length = n → n < f → ∃ cs', whl tD bD f (DE0 m x (HG cs st rest)) = .ok .nx (DE0 m x (HG cs' st rest)) ∧ cs'.length ≤ cs.length ∧ ∀ c ∈ cs', c ∈ cs
  | 0, cs, f + 1, h, _ => by
    obtain rfl := List.eq_nil_of_length_eq_zero h
    exact ⟨[], by rw [whlS, tD_nil]; rfl, Nat.le_refl _, fun _ h => h⟩
  | n + 1, cs, f + 1, h, hf => by
    rcases List.eq_nil_or_concat cs with rfl | ⟨cs0, c, rfl⟩
    · simp at h
    · rw [List.concat_eq_append] at h ⊢
      by_cases hc : c = 0
      · obtain ⟨cs', e, h1, h2⟩ := whl_draw n cs0 f (by simpa using h) (by omega)
        refine ⟨cs', ?_, by simp; omega, fun c h => by simp [h2 c h]⟩
        rw [whlS, tD_one, decide_eq_true hc, ob_ok, k_whl_ap, if_pos rfl, bD_one]; exact e
      · refine ⟨cs0 ++ [c], ?_, Nat.le_refl _, fun _ h => h⟩
        rw [whlS, tD_one, decide_eq_false hc, ob_ok, k_whl_ap, if_neg (by decide)]
def drawB (a c : Int) : St := seq (whl tD bD 100) (seq (ifS (tst (b2 neD (sub (vr 0) (cs (.int 0))) (frz (dsp (args []))))) (seq (st (tN 2) (pop (sub (vr 0) (cs (.int 0))))) (seq (ex (app (sub (vr 0) (cs (.int 0))) (b2 fdivD (vr 2) (vr 1)))) (rt (b2 modD (bi intD (args [vr 2])) (vr 1))))) (skip)) (seq (setS (b2 modD (bi intD (args [b2 addD (b2 mulD (sub (vr 0) (cs (.int 1))) (cs (.int a))) (cs (.int c))])) (cs (.int 2147483647))) (vr 0) (cs (.int 1))) (rt (b2 modD (bi intD (args [b2 fdivD (sub (vr 0) (cs (.int 1))) (cs (.int 32))])) (vr 1)))))
theorem mul_few {a b : Int} (h : few b = true) : mulD (.int a) (.int b) = some (.int (a * b)) := by
  unfold mulD; dsimp only; rw [h, Bool.or_true, if_pos rfl]
theorem mod_pos {a b : Int} (h : 0 < b) : modD (.int a) (.int b) = some (.int (a % b)) := by unfold modD; dsimp only; rw [if_pos h]
theorem div_pos {a b : Int} (h : 0 < b) (h1 : b < 1073741824) : fdivD (.int a) (.int b) = some (.int (a / b)) := by unfold fdivD; dsimp only; rw [if_pos h, if_pos h1]
/-- a heap of draws -/
def HOk (rest g : List Cell) : Prop := ∃ (cs : List Int) (st : Int), g = HG cs st rest ∧ cs.length ≤ 63
theorem draw_run {a c m : Int} {rest g : List Cell} (ha : few a = true) (hg : HOk rest g) (h0 : 0 < m) (h1 : m < 1073741824) : ∃ x g', fn 3 2 (drawB a c) [.g 1, .d (.int m)] g = .ok (.d (.int x)) g' ∧ 0 ≤ x ∧ x < m ∧ HOk rest g' := by
  obtain ⟨cs, st, rfl, hl⟩ := hg
  obtain ⟨cs', e, h2, h3⟩ := whl_draw (m := m) (st := st) (rest := rest) (x := none) cs.length cs 100 rfl (by omega)
  unfold drawB
  rw [fn_run2 _ _ _ _ _ (by rfl)]
  rw [seq_sq, show (⟨[W.g 1, W.d (.int m)].map some ++ List.replicate (3 - 2) none, [], HG cs st rest⟩ : Sx) = DE0 m none (HG cs st rest) from rfl, e, sq_nx]
  rcases List.eq_nil_or_concat cs' with rfl | ⟨cs0, c0, rfl⟩
  · refine ⟨(st * a + c) % 2147483647 / 32 % m, HG [] ((st * a + c) % 2147483647) rest, ?_, Int.emod_nonneg _ (by omega), Int.emod_lt_of_pos _ h0, [], _, rfl, by simp⟩
    unfold DE0 HG
    simp only [ob_ok, ob_exc, ob_stuck, ob_ite, oz_some, oz_none, oz_ite, bnd_ob, ap_ite, pur_ap, opt_ap, nth0, nthS, upAt0, upAtS, vr_ap, cs_ap, u1_ob, b2_ob, b2L_ob, args0, argsS, bi_ob, biL_ob, tst_ob, bool_bl, andT_ob, orT_ob, notT_ob, andV_ob, orV_ob, notV_ob, ite_ob, ifS_ob, skip_ap, sq_nx, sq_rt, sq_bk, sq_ct, sq_exc, sq_stuck, sq_ite, seq_sq, ex_ob, rt_ob, st_ob, pt_n, pt_t, pt_tu, tGo0, tGoS, tup_ob, dsp_ob, frz_ob, own_ob, glo_ob, toDs0, toDsS, toD_d, toAs0, toAsS, toA_d, toA_g, fx_ok, fx_exc, fx_ite, cl_ob, fo_ite, fo_nx, fo_rtd, fo_rtg, fo_exc, fo_stuck, intI_int, sub_ob, chkL_ap, app_ob, pop_ob, popAt_ob, setS_ob, par_ob, forS_ob, itS_ob, itR_ob, lp_nx, lp_ct, lp_bk, lp_rt, lp_exc, lp_stuck, lp_ite, pk_d, pks0, pksS, items_t, items_u, items_d, nrm, lstAt, lstPut, pk_l', pk_g, items_l, items_g, allD_map, allD, fn_ap, oz_map, nth_mapW, List.length_map, ixd_0, ixd_1, ixd_2, ixd_3, lamc_fx, capt, lamT_ap, lt_okd, lt_exc, thk_ap, tryS_ty, ty_ok, ty_stuck, eqD_ii, neD_ii, eqD_ss, neD_ss, lt_ii, le_ii, gt_ii, ge_ii, add_ii, sub_ii, neg_i, List.map_cons, List.map_nil, List.length_cons, List.length_nil, List.zip_cons_cons, List.zip_nil_right, List.zip_nil_left, List.foldl_cons, List.foldl_nil, List.replicate, List.cons_append, List.nil_append, Nat.reduceAdd, Nat.reduceSub, Nat.reduceLeDiff, Nat.reduceLT, Int.reduceLT, Int.reduceLE, Int.reduceAdd, Int.reduceSub, Int.reduceNeg, Int.reduceMul, Bool.not_true, Bool.not_false, decide_eq_true_eq, Bool.not_eq_true', decide_eq_false_iff_not, if_true, if_false, reduceIte, Nat.zero_le, true_and, and_true, seqD, k_u1_ap, k_b2y_ap, k_b2_ap, k_b2Ly_ap, k_b2L_ap, k_argc_ap, k_args_ap, k_bi_ap, k_biL_ap, k_andT_ap, k_orT_ap, k_notT_ap, k_andB_ap, k_andV_ap, k_orB_ap, k_orV_ap, k_notB_ap, k_notV_ap, k_ite_ap, k_ifS_ap, k_ex_ap, k_rt_ap, k_mktup_ap, k_mklst_ap, k_tup_ap, k_dsp_ap, k_frz_ap, k_own_ap, k_glo_ap, k_dc_ap, k_ds_ap, k_as_ap, k_wd_ap, k_call_ap, k_cl_ap, k_suby_ap, k_sub_ap, k_appx_ap, k_appv_ap, k_appc_ap, k_app_ap, k_pop_ap, k_popAv_ap, k_popAc_ap, k_popA_ap, k_setv_ap, k_seti_ap, k_seto_ap, k_set_ap, k_par_ap, k_seqD_ap, k_itS_ap, k_itR_ap, k_whl_ap, k_clK_ap, neD_nil (n := 0) (xs := []) rfl (by decide), ne_eq, not_true, Bool.false_eq_true, decide_false, mul_few ha, mod_pos h0, mod_pos (show (0:Int) < 2147483647 by decide), div_pos (show (0:Int) < 32 by decide) (by decide), intD, noL]
  · rw [List.concat_eq_append] at h2 h3 ⊢
    refine ⟨c0 % m, HG (cs0 ++ [c0 / m]) st rest, ?_, Int.emod_nonneg _ (by omega), Int.emod_lt_of_pos _ h0, _, _, rfl, by simp at h2 ⊢; omega⟩
    have h4 : List.map D.int (cs0 ++ [c0]) ≠ [] := by simp
    have h5 : cs0.length < 16777216 := by simp at h2; omega
    have h6 : (List.map W.d (List.map D.int (cs0 ++ [c0]))).getLast? = some (.d (.int c0)) := by simp
    have h7 : (List.map W.d (List.map D.int (cs0 ++ [c0]))).dropLast = List.map W.d (List.map D.int cs0) := by simp
    have h8 : List.map W.d (List.map D.int (cs0 ++ [c0 / m])) = List.map W.d (List.map D.int cs0) ++ [.d (.int (c0 / m))] := by simp
    have h9 : noL (List.map W.d (List.map D.int cs0) ++ [.d (.int (c0 / m))]) = true := by rw [← h8]; exact noL_map _
    unfold DE0 HG
    simp only [ob_ok, ob_exc, ob_stuck, ob_ite, oz_some, oz_none, oz_ite, bnd_ob, ap_ite, pur_ap, opt_ap, nth0, nthS, upAt0, upAtS, vr_ap, cs_ap, u1_ob, b2_ob, b2L_ob, args0, argsS, bi_ob, biL_ob, tst_ob, bool_bl, andT_ob, orT_ob, notT_ob, andV_ob, orV_ob, notV_ob, ite_ob, ifS_ob, skip_ap, sq_nx, sq_rt, sq_bk, sq_ct, sq_exc, sq_stuck, sq_ite, seq_sq, ex_ob, rt_ob, st_ob, pt_n, pt_t, pt_tu, tGo0, tGoS, tup_ob, dsp_ob, frz_ob, own_ob, glo_ob, toDs0, toDsS, toD_d, toAs0, toAsS, toA_d, toA_g, fx_ok, fx_exc, fx_ite, cl_ob, fo_ite, fo_nx, fo_rtd, fo_rtg, fo_exc, fo_stuck, intI_int, sub_ob, chkL_ap, app_ob, pop_ob, popAt_ob, setS_ob, par_ob, forS_ob, itS_ob, itR_ob, lp_nx, lp_ct, lp_bk, lp_rt, lp_exc, lp_stuck, lp_ite, pk_d, pks0, pksS, items_t, items_u, items_d, nrm, lstAt, lstPut, pk_l', pk_g, items_l, items_g, allD_map, allD, fn_ap, oz_map, nth_mapW, List.length_map, ixd_0, ixd_1, ixd_2, ixd_3, lamc_fx, capt, lamT_ap, lt_okd, lt_exc, thk_ap, tryS_ty, ty_ok, ty_stuck, eqD_ii, neD_ii, eqD_ss, neD_ss, lt_ii, le_ii, gt_ii, ge_ii, add_ii, sub_ii, neg_i, List.map_cons, List.map_nil, List.length_cons, List.length_nil, List.zip_cons_cons, List.zip_nil_right, List.zip_nil_left, List.foldl_cons, List.foldl_nil, List.replicate, List.cons_append, List.nil_append, Nat.reduceAdd, Nat.reduceSub, Nat.reduceLeDiff, Nat.reduceLT, Int.reduceLT, Int.reduceLE, Int.reduceAdd, Int.reduceSub, Int.reduceNeg, Int.reduceMul, Bool.not_true, Bool.not_false, decide_eq_true_eq, Bool.not_eq_true', decide_eq_false_iff_not, if_true, if_false, reduceIte, Nat.zero_le, true_and, and_true, seqD, k_u1_ap, k_b2y_ap, k_b2_ap, k_b2Ly_ap, k_b2L_ap, k_argc_ap, k_args_ap, k_bi_ap, k_biL_ap, k_andT_ap, k_orT_ap, k_notT_ap, k_andB_ap, k_andV_ap, k_orB_ap, k_orV_ap, k_notB_ap, k_notV_ap, k_ite_ap, k_ifS_ap, k_ex_ap, k_rt_ap, k_mktup_ap, k_mklst_ap, k_tup_ap, k_dsp_ap, k_frz_ap, k_own_ap, k_glo_ap, k_dc_ap, k_ds_ap, k_as_ap, k_wd_ap, k_call_ap, k_cl_ap, k_suby_ap, k_sub_ap, k_appx_ap, k_appv_ap, k_appc_ap, k_app_ap, k_pop_ap, k_popAv_ap, k_popAc_ap, k_popA_ap, k_setv_ap, k_seti_ap, k_seto_ap, k_set_ap, k_par_ap, k_seqD_ap, k_itS_ap, k_itR_ap, k_whl_ap, k_clK_ap, neD_nil (okDs_ints 0 (cs0 ++ [c0])) (by decide), h4, ne_eq, not_false_eq_true, decide_true, h6, h7, h8, h9, noL_map, div_pos h0 h1, mod_pos h0, h5, intD]
end Mn
set_option Elab.async false
set_option linter.all false
set_option maxRecDepth 100000
set_option maxHeartbeats 1000000
/-! M37: the source of draws. -/
namespace Mn
open PySem
def heapB (seed a c : Int) : St := seq (par [1, 2] (args [frz (lc [3] (itS (frz (sliL (vr 0) (none) (some (cs (.int 60)))))) (tN 3) (pur true) (b2 addD (b2 mulD (cs (.int 2)) (bi absD (args [vr 3]))) (bi intD (args [b2 ltD (vr 3) (cs (.int 0))])))), cs (.int seed)])) (seq (forS (itS (vr 1)) (tN 3) (st (tN 2) (b2 modD (bi intD (args [b2 addD (b2 addD (b2 mulD (vr 2) (cs (.int a))) (b2 modD (bi intD (args [vr 3])) (cs (.int 2147483563)))) (cs (.int c))])) (cs (.int 2147483647))))) (rt (glo (dsp (args [glo (revL (frz (lc [3] (itS (vr 1)) (tN 3) (tst (b2 geD (vr 3) (b2 powD (cs (.int 10)) (cs (.int 18))))) (vr 3)))), vr 2])))))
def k_slTo (k : Int) (w : W) (s : Sx) : Out (List W) := oz (pk s w) fun x => oz (slL none (some k) x) fun ys => .ok (ys.map W.d) s
theorem k_slTo_ap (k : Int) (w : W) (s : Sx) : k_slTo k w s = oz (pk s w) fun x => oz (slL none (some k) x) fun ys => .ok (ys.map W.d) s := rfl
theorem sliL_to (a : M W) (k : Int) (s : Sx) : sliL a none (some (cs (.int k))) s = ob (a s) (k_slTo k) := by
  unfold sliL
  rw [bnd_ob]; congr 1; funext w s
  show (match pk s w with | some x => (match slL none (some k) x with | some ys => Out.ok (ys.map W.d) s | none => .stuck) | none => .stuck) = oz (pk s w) _
  cases pk s w with
  | none => rfl
  | some x => show _ = oz (slL none (some k) x) _; dsimp only; cases slL none (some k) x <;> rfl
def k_rev (w : W) (s : Sx) : Out (List W) := oz (pk s w) fun x => match x with | .lst xs => .ok (xs.reverse.map W.d) s | _ => .stuck
theorem k_rev_ap (w : W) (s : Sx) : k_rev w s = oz (pk s w) fun x => match x with | .lst xs => .ok (xs.reverse.map W.d) s | _ => .stuck := rfl
theorem revL_ob (a : M W) (s : Sx) : revL a s = ob (a s) k_rev := by
  unfold revL; rw [bnd_ob]; congr 1; funext w s
  show _ = oz (pk s w) _
  cases pk s w with
  | none => rfl
  | some x => cases x <;> rfl
def dbl (i : Int) : Int := 2 * (if i < 0 then -i else i) + (if i < 0 then 1 else 0)
theorem toDs_run (ds : List D) (s : Sx) : toDs (ds.map W.d) s = .ok ds s := toDs_d s ds
theorem toAs_run (ds : List D) (s : Sx) : toAs (ds.map W.d) s = .ok (ds.map W.d) s := toAs_d s ds
theorem dbl_lc {e0 e1 e2 : Option W} {g : List Cell} (is : List Int) (it : M (List D)) (h : it ⟨[e0, e1, e2, none], [], g⟩ = .ok (is.map D.int) ⟨[e0, e1, e2, none], [], g⟩) (hl : is.length ≤ 63) :
    lc [3] it (tN 3) (pur true) (b2 addD (b2 mulD (cs (.int 2)) (bi absD (args [vr 3]))) (bi intD (args [b2 ltD (vr 3) (cs (.int 0))]))) ⟨[e0, e1, e2, none], [], g⟩ = .ok (((is.map dbl).map D.int).map W.d) ⟨[e0, e1, e2, none], [], g⟩ := by
  have e := lc_run (vs := [3]) (g := tN 3) (c := pur true) (f := b2 addD (b2 mulD (cs (.int 2)) (bi absD (args [vr 3]))) (bi intD (args [b2 ltD (vr 3) (cs (.int 0))]))) (fun _ => true) (fun x => match x with | .int i => .int (dbl i) | _ => .non) h (fun x hx => ?_) (by simp; omega)
  · rw [List.filter_eq_self.mpr fun _ _ => rfl] at e
    rw [e]; congr 2
    simp [List.map_map, Function.comp_def]
  · obtain ⟨i, _, rfl⟩ := List.mem_map.mp hx
    refine ⟨[e0, e1, e2, some (.d (.int i))], rfl, rfl, fun _ => ?_⟩
    have hf : mulD (.int 2) (.int (if i < 0 then -i else i)) = some (.int (2 * (if i < 0 then -i else i))) := by unfold mulD few; rfl
    simp only [ob_ok, ob_exc, ob_stuck, ob_ite, oz_some, oz_none, oz_ite, bnd_ob, ap_ite, pur_ap, opt_ap, nth0, nthS, upAt0, upAtS, vr_ap, cs_ap, u1_ob, b2_ob, b2L_ob, args0, argsS, bi_ob, biL_ob, tst_ob, bool_bl, andT_ob, orT_ob, notT_ob, andV_ob, orV_ob, notV_ob, ite_ob, ifS_ob, skip_ap, sq_nx, sq_rt, sq_bk, sq_ct, sq_exc, sq_stuck, sq_ite, seq_sq, ex_ob, rt_ob, st_ob, pt_n, pt_t, pt_tu, tGo0, tGoS, tup_ob, dsp_ob, frz_ob, own_ob, glo_ob, toDs0, toDsS, toD_d, toAs0, toAsS, toA_d, toA_g, fx_ok, fx_exc, fx_ite, cl_ob, fo_ite, fo_nx, fo_rtd, fo_rtg, fo_exc, fo_stuck, intI_int, sub_ob, chkL_ap, app_ob, pop_ob, popAt_ob, setS_ob, par_ob, forS_ob, itS_ob, itR_ob, lp_nx, lp_ct, lp_bk, lp_rt, lp_exc, lp_stuck, lp_ite, pk_d, pks0, pksS, items_t, items_u, items_d, nrm, lstAt, lstPut, pk_l', pk_g, items_l, items_g, allD_map, allD, fn_ap, oz_map, nth_mapW, List.length_map, ixd_0, ixd_1, ixd_2, ixd_3, lamc_fx, capt, lamT_ap, lt_okd, lt_exc, thk_ap, tryS_ty, ty_ok, ty_stuck, eqD_ii, neD_ii, eqD_ss, neD_ss, lt_ii, le_ii, gt_ii, ge_ii, add_ii, sub_ii, neg_i, List.map_cons, List.map_nil, List.length_cons, List.length_nil, List.zip_cons_cons, List.zip_nil_right, List.zip_nil_left, List.foldl_cons, List.foldl_nil, List.replicate, List.cons_append, List.nil_append, Nat.reduceAdd, Nat.reduceSub, Nat.reduceLeDiff, Nat.reduceLT, Int.reduceLT, Int.reduceLE, Int.reduceAdd, Int.reduceSub, Int.reduceNeg, Int.reduceMul, Bool.not_true, Bool.not_false, decide_eq_true_eq, Bool.not_eq_true', decide_eq_false_iff_not, if_true, if_false, reduceIte, Nat.zero_le, true_and, and_true, seqD, k_u1_ap, k_b2y_ap, k_b2_ap, k_b2Ly_ap, k_b2L_ap, k_argc_ap, k_args_ap, k_bi_ap, k_biL_ap, k_andT_ap, k_orT_ap, k_notT_ap, k_andB_ap, k_andV_ap, k_orB_ap, k_orV_ap, k_notB_ap, k_notV_ap, k_ite_ap, k_ifS_ap, k_ex_ap, k_rt_ap, k_mktup_ap, k_mklst_ap, k_tup_ap, k_dsp_ap, k_frz_ap, k_own_ap, k_glo_ap, k_dc_ap, k_ds_ap, k_as_ap, k_wd_ap, k_call_ap, k_cl_ap, k_suby_ap, k_sub_ap, k_appx_ap, k_appv_ap, k_appc_ap, k_app_ap, k_pop_ap, k_popAv_ap, k_popAc_ap, k_popA_ap, k_setv_ap, k_seti_ap, k_seto_ap, k_set_ap, k_par_ap, k_seqD_ap, k_itS_ap, k_itR_ap, k_whl_ap, k_clK_ap, absD, hf, intD]
    unfold dbl
    by_cases h : i < 0 <;> simp [h]
theorem big_lc {e0 e1 e2 : Option W} {g : List Cell} (is : List Int) (hl : is.length ≤ 63) :
    lc [3] (itS (vr 1)) (tN 3) (tst (b2 geD (vr 3) (b2 powD (cs (.int 10)) (cs (.int 18))))) (vr 3) ⟨[e0, some (.d (.lst (is.map D.int))), e1, e2], [], g⟩ = .ok ((((is.filter fun i => decide (10 ^ 18 ≤ i))).map D.int).map W.d) ⟨[e0, some (.d (.lst (is.map D.int))), e1, e2], [], g⟩ := by
  have e := lc_run (vs := [3]) (it := itS (vr 1)) (g := tN 3) (c := tst (b2 geD (vr 3) (b2 powD (cs (.int 10)) (cs (.int 18))))) (f := vr 3) (s := ⟨[e0, some (.d (.lst (is.map D.int))), e1, e2], [], g⟩) (s1 := ⟨[e0, some (.d (.lst (is.map D.int))), e1, e2], [], g⟩) (xs := is.map D.int) (fun x => match x with | .int i => decide (10 ^ 18 ≤ i) | _ => false) (fun x => x) rfl (fun x hx => ?_) (by simp; omega)
  · rw [e]; congr 2
    simp [List.filter_map, Function.comp_def]
  · obtain ⟨i, _, rfl⟩ := List.mem_map.mp hx
    refine ⟨[e0, some (.d (.lst (is.map D.int))), e1, some (.d (.int i))], rfl, ?_, fun _ => rfl⟩
    have hp : powD (.int 10) (.int 18) = some (.int (10 ^ 18)) := rfl
    simp only [ob_ok, ob_exc, ob_stuck, ob_ite, oz_some, oz_none, oz_ite, bnd_ob, ap_ite, pur_ap, opt_ap, nth0, nthS, upAt0, upAtS, vr_ap, cs_ap, u1_ob, b2_ob, b2L_ob, args0, argsS, bi_ob, biL_ob, tst_ob, bool_bl, andT_ob, orT_ob, notT_ob, andV_ob, orV_ob, notV_ob, ite_ob, ifS_ob, skip_ap, sq_nx, sq_rt, sq_bk, sq_ct, sq_exc, sq_stuck, sq_ite, seq_sq, ex_ob, rt_ob, st_ob, pt_n, pt_t, pt_tu, tGo0, tGoS, tup_ob, dsp_ob, frz_ob, own_ob, glo_ob, toDs0, toDsS, toD_d, toAs0, toAsS, toA_d, toA_g, fx_ok, fx_exc, fx_ite, cl_ob, fo_ite, fo_nx, fo_rtd, fo_rtg, fo_exc, fo_stuck, intI_int, sub_ob, chkL_ap, app_ob, pop_ob, popAt_ob, setS_ob, par_ob, forS_ob, itS_ob, itR_ob, lp_nx, lp_ct, lp_bk, lp_rt, lp_exc, lp_stuck, lp_ite, pk_d, pks0, pksS, items_t, items_u, items_d, nrm, lstAt, lstPut, pk_l', pk_g, items_l, items_g, allD_map, allD, fn_ap, oz_map, nth_mapW, List.length_map, ixd_0, ixd_1, ixd_2, ixd_3, lamc_fx, capt, lamT_ap, lt_okd, lt_exc, thk_ap, tryS_ty, ty_ok, ty_stuck, eqD_ii, neD_ii, eqD_ss, neD_ss, lt_ii, le_ii, gt_ii, ge_ii, add_ii, sub_ii, neg_i, List.map_cons, List.map_nil, List.length_cons, List.length_nil, List.zip_cons_cons, List.zip_nil_right, List.zip_nil_left, List.foldl_cons, List.foldl_nil, List.replicate, List.cons_append, List.nil_append, Nat.reduceAdd, Nat.reduceSub, Nat.reduceLeDiff, Nat.reduceLT, Int.reduceLT, Int.reduceLE, Int.reduceAdd, Int.reduceSub, Int.reduceNeg, Int.reduceMul, Bool.not_true, Bool.not_false, decide_eq_true_eq, Bool.not_eq_true', decide_eq_false_iff_not, if_true, if_false, reduceIte, Nat.zero_le, true_and, and_true, seqD, k_u1_ap, k_b2y_ap, k_b2_ap, k_b2Ly_ap, k_b2L_ap, k_argc_ap, k_args_ap, k_bi_ap, k_biL_ap, k_andT_ap, k_orT_ap, k_notT_ap, k_andB_ap, k_andV_ap, k_orB_ap, k_orV_ap, k_notB_ap, k_notV_ap, k_ite_ap, k_ifS_ap, k_ex_ap, k_rt_ap, k_mktup_ap, k_mklst_ap, k_tup_ap, k_dsp_ap, k_frz_ap, k_own_ap, k_glo_ap, k_dc_ap, k_ds_ap, k_as_ap, k_wd_ap, k_call_ap, k_cl_ap, k_suby_ap, k_sub_ap, k_appx_ap, k_appv_ap, k_appc_ap, k_app_ap, k_pop_ap, k_popAv_ap, k_popAc_ap, k_popA_ap, k_setv_ap, k_seti_ap, k_seto_ap, k_set_ap, k_par_ap, k_seqD_ap, k_itS_ap, k_itR_ap, k_whl_ap, k_clK_ap, hp]
theorem stir_loop {a c : Int} (ha : few a = true) {e0 e1 : Option W} {g : List Cell} : ∀ (is : List Int) (st : Int) (e3 : Option W), ∃ st' e3', loop (tN 3) (Mn.st (tN 2) (b2 modD (bi intD (args [b2 addD (b2 addD (b2 mulD (vr 2) (cs (.int a))) (b2 modD (bi intD (args [vr 3])) (cs (.int 2147483563)))) (cs (.int c))])) (cs (.int 2147483647)))) (is.map D.int) ⟨[e0, e1, some (.d (.int st)), e3], [], g⟩ = .ok .nx ⟨[e0, e1, some (.d (.int st')), e3'], [], g⟩
  | [], st, e3 => ⟨st, e3, rfl⟩
  | i :: is, st, e3 => by
    obtain ⟨st', e3', h⟩ := stir_loop ha is ((st * a + i % 2147483563 + c) % 2147483647) (some (.d (.int i)))
    refine ⟨st', e3', ?_⟩
    rw [List.map_cons, loopS]
    simp only [ob_ok, ob_exc, ob_stuck, ob_ite, oz_some, oz_none, oz_ite, bnd_ob, ap_ite, pur_ap, opt_ap, nth0, nthS, upAt0, upAtS, vr_ap, cs_ap, u1_ob, b2_ob, b2L_ob, args0, argsS, bi_ob, biL_ob, tst_ob, bool_bl, andT_ob, orT_ob, notT_ob, andV_ob, orV_ob, notV_ob, ite_ob, ifS_ob, skip_ap, sq_nx, sq_rt, sq_bk, sq_ct, sq_exc, sq_stuck, sq_ite, seq_sq, ex_ob, rt_ob, st_ob, pt_n, pt_t, pt_tu, tGo0, tGoS, tup_ob, dsp_ob, frz_ob, own_ob, glo_ob, toDs0, toDsS, toD_d, toAs0, toAsS, toA_d, toA_g, fx_ok, fx_exc, fx_ite, cl_ob, fo_ite, fo_nx, fo_rtd, fo_rtg, fo_exc, fo_stuck, intI_int, sub_ob, chkL_ap, app_ob, pop_ob, popAt_ob, setS_ob, par_ob, forS_ob, itS_ob, itR_ob, lp_nx, lp_ct, lp_bk, lp_rt, lp_exc, lp_stuck, lp_ite, pk_d, pks0, pksS, items_t, items_u, items_d, nrm, lstAt, lstPut, pk_l', pk_g, items_l, items_g, allD_map, allD, fn_ap, oz_map, nth_mapW, List.length_map, ixd_0, ixd_1, ixd_2, ixd_3, lamc_fx, capt, lamT_ap, lt_okd, lt_exc, thk_ap, tryS_ty, ty_ok, ty_stuck, eqD_ii, neD_ii, eqD_ss, neD_ss, lt_ii, le_ii, gt_ii, ge_ii, add_ii, sub_ii, neg_i, List.map_cons, List.map_nil, List.length_cons, List.length_nil, List.zip_cons_cons, List.zip_nil_right, List.zip_nil_left, List.foldl_cons, List.foldl_nil, List.replicate, List.cons_append, List.nil_append, Nat.reduceAdd, Nat.reduceSub, Nat.reduceLeDiff, Nat.reduceLT, Int.reduceLT, Int.reduceLE, Int.reduceAdd, Int.reduceSub, Int.reduceNeg, Int.reduceMul, Bool.not_true, Bool.not_false, decide_eq_true_eq, Bool.not_eq_true', decide_eq_false_iff_not, if_true, if_false, reduceIte, Nat.zero_le, true_and, and_true, seqD, k_u1_ap, k_b2y_ap, k_b2_ap, k_b2Ly_ap, k_b2L_ap, k_argc_ap, k_args_ap, k_bi_ap, k_biL_ap, k_andT_ap, k_orT_ap, k_notT_ap, k_andB_ap, k_andV_ap, k_orB_ap, k_orV_ap, k_notB_ap, k_notV_ap, k_ite_ap, k_ifS_ap, k_ex_ap, k_rt_ap, k_mktup_ap, k_mklst_ap, k_tup_ap, k_dsp_ap, k_frz_ap, k_own_ap, k_glo_ap, k_dc_ap, k_ds_ap, k_as_ap, k_wd_ap, k_call_ap, k_cl_ap, k_suby_ap, k_sub_ap, k_appx_ap, k_appv_ap, k_appc_ap, k_app_ap, k_pop_ap, k_popAv_ap, k_popAc_ap, k_popA_ap, k_setv_ap, k_seti_ap, k_seto_ap, k_set_ap, k_par_ap, k_seqD_ap, k_itS_ap, k_itR_ap, k_whl_ap, k_clK_ap, mul_few ha, mod_pos (show (0:Int) < 2147483647 by decide), mod_pos (show (0:Int) < 2147483563 by decide), intD]
    exact h
theorem heap_run {seed a c : Int} (ha : few a = true) (ns : List Int) (hn : ns.length ≤ 63) : ∃ g, fn 4 1 (heapB seed a c) [.d (.lst (ns.map D.int))] [] = .ok (.g 1) g ∧ HOk [] g := by
  have h1 := dbl_lc (e0 := some (.d (.lst (ns.map D.int)))) (e1 := none) (e2 := none) (g := []) (ns.take 60) (itS (frz (sliL (vr 0) none (some (cs (.int 60)))))) (by
    have hs : slL none (some 60) (.lst (ns.map D.int)) = some ((ns.take 60).map D.int) := by
      show some (cutL (ns.map D.int) none (some 60)) = _
      unfold cutL cutI
      simp [← List.map_take]
      rcases Nat.le_total ns.length 60 with h | h
      · rw [Nat.min_eq_right h, List.take_length, List.take_of_length_le h]
      · rw [Nat.min_eq_left h]
    simp only [ob_ok, ob_exc, ob_stuck, ob_ite, oz_some, oz_none, oz_ite, bnd_ob, ap_ite, pur_ap, opt_ap, nth0, nthS, upAt0, upAtS, vr_ap, cs_ap, u1_ob, b2_ob, b2L_ob, args0, argsS, bi_ob, biL_ob, tst_ob, bool_bl, andT_ob, orT_ob, notT_ob, andV_ob, orV_ob, notV_ob, ite_ob, ifS_ob, skip_ap, sq_nx, sq_rt, sq_bk, sq_ct, sq_exc, sq_stuck, sq_ite, seq_sq, ex_ob, rt_ob, st_ob, pt_n, pt_t, pt_tu, tGo0, tGoS, tup_ob, dsp_ob, frz_ob, own_ob, glo_ob, toDs0, toDsS, toD_d, toAs0, toAsS, toA_d, toA_g, fx_ok, fx_exc, fx_ite, cl_ob, fo_ite, fo_nx, fo_rtd, fo_rtg, fo_exc, fo_stuck, intI_int, sub_ob, chkL_ap, app_ob, pop_ob, popAt_ob, setS_ob, par_ob, forS_ob, itS_ob, itR_ob, lp_nx, lp_ct, lp_bk, lp_rt, lp_exc, lp_stuck, lp_ite, pk_d, pks0, pksS, items_t, items_u, items_d, nrm, lstAt, lstPut, pk_l', pk_g, items_l, items_g, allD_map, allD, fn_ap, oz_map, nth_mapW, List.length_map, ixd_0, ixd_1, ixd_2, ixd_3, lamc_fx, capt, lamT_ap, lt_okd, lt_exc, thk_ap, tryS_ty, ty_ok, ty_stuck, eqD_ii, neD_ii, eqD_ss, neD_ss, lt_ii, le_ii, gt_ii, ge_ii, add_ii, sub_ii, neg_i, List.map_cons, List.map_nil, List.length_cons, List.length_nil, List.zip_cons_cons, List.zip_nil_right, List.zip_nil_left, List.foldl_cons, List.foldl_nil, List.replicate, List.cons_append, List.nil_append, Nat.reduceAdd, Nat.reduceSub, Nat.reduceLeDiff, Nat.reduceLT, Int.reduceLT, Int.reduceLE, Int.reduceAdd, Int.reduceSub, Int.reduceNeg, Int.reduceMul, Bool.not_true, Bool.not_false, decide_eq_true_eq, Bool.not_eq_true', decide_eq_false_iff_not, if_true, if_false, reduceIte, Nat.zero_le, true_and, and_true, seqD, k_u1_ap, k_b2y_ap, k_b2_ap, k_b2Ly_ap, k_b2L_ap, k_argc_ap, k_args_ap, k_bi_ap, k_biL_ap, k_andT_ap, k_orT_ap, k_notT_ap, k_andB_ap, k_andV_ap, k_orB_ap, k_orV_ap, k_notB_ap, k_notV_ap, k_ite_ap, k_ifS_ap, k_ex_ap, k_rt_ap, k_mktup_ap, k_mklst_ap, k_tup_ap, k_dsp_ap, k_frz_ap, k_own_ap, k_glo_ap, k_dc_ap, k_ds_ap, k_as_ap, k_wd_ap, k_call_ap, k_cl_ap, k_suby_ap, k_sub_ap, k_appx_ap, k_appv_ap, k_appc_ap, k_app_ap, k_pop_ap, k_popAv_ap, k_popAc_ap, k_popA_ap, k_setv_ap, k_seti_ap, k_seto_ap, k_set_ap, k_par_ap, k_seqD_ap, k_itS_ap, k_itR_ap, k_whl_ap, k_clK_ap, sliL_to, k_slTo_ap, hs, toDs_run]) (by simp; omega)
  obtain ⟨st', e3', h2⟩ := stir_loop (a := a) (c := c) ha (e0 := some (.d (.lst (ns.map D.int)))) (e1 := some (.d (.lst (((ns.take 60).map dbl).map D.int)))) (g := []) ((ns.take 60).map dbl) seed none
  have h3 := big_lc (e0 := some (.d (.lst (ns.map D.int)))) (e1 := some (.d (.int st'))) (e2 := e3') (g := []) ((ns.take 60).map dbl) (by simp; omega)
  refine ⟨HG (((ns.take 60).map dbl).filter fun i => decide (10 ^ 18 ≤ i)).reverse st' [], ?_, _, _, rfl, ?_⟩
  · unfold heapB HG
    simp only [ob_ok, ob_exc, ob_stuck, ob_ite, oz_some, oz_none, oz_ite, bnd_ob, ap_ite, pur_ap, opt_ap, nth0, nthS, upAt0, upAtS, vr_ap, cs_ap, u1_ob, b2_ob, b2L_ob, args0, argsS, bi_ob, biL_ob, tst_ob, bool_bl, andT_ob, orT_ob, notT_ob, andV_ob, orV_ob, notV_ob, ite_ob, ifS_ob, skip_ap, sq_nx, sq_rt, sq_bk, sq_ct, sq_exc, sq_stuck, sq_ite, seq_sq, ex_ob, rt_ob, st_ob, pt_n, pt_t, pt_tu, tGo0, tGoS, tup_ob, dsp_ob, frz_ob, own_ob, glo_ob, toDs0, toDsS, toD_d, toAs0, toAsS, toA_d, toA_g, fx_ok, fx_exc, fx_ite, cl_ob, fo_ite, fo_nx, fo_rtd, fo_rtg, fo_exc, fo_stuck, intI_int, sub_ob, chkL_ap, app_ob, pop_ob, popAt_ob, setS_ob, par_ob, forS_ob, itS_ob, itR_ob, lp_nx, lp_ct, lp_bk, lp_rt, lp_exc, lp_stuck, lp_ite, pk_d, pks0, pksS, items_t, items_u, items_d, nrm, lstAt, lstPut, pk_l', pk_g, items_l, items_g, allD_map, allD, fn_ap, oz_map, nth_mapW, List.length_map, ixd_0, ixd_1, ixd_2, ixd_3, lamc_fx, capt, lamT_ap, lt_okd, lt_exc, thk_ap, tryS_ty, ty_ok, ty_stuck, eqD_ii, neD_ii, eqD_ss, neD_ss, lt_ii, le_ii, gt_ii, ge_ii, add_ii, sub_ii, neg_i, List.map_cons, List.map_nil, List.length_cons, List.length_nil, List.zip_cons_cons, List.zip_nil_right, List.zip_nil_left, List.foldl_cons, List.foldl_nil, List.replicate, List.cons_append, List.nil_append, Nat.reduceAdd, Nat.reduceSub, Nat.reduceLeDiff, Nat.reduceLT, Int.reduceLT, Int.reduceLE, Int.reduceAdd, Int.reduceSub, Int.reduceNeg, Int.reduceMul, Bool.not_true, Bool.not_false, decide_eq_true_eq, Bool.not_eq_true', decide_eq_false_iff_not, if_true, if_false, reduceIte, Nat.zero_le, true_and, and_true, seqD, k_u1_ap, k_b2y_ap, k_b2_ap, k_b2Ly_ap, k_b2L_ap, k_argc_ap, k_args_ap, k_bi_ap, k_biL_ap, k_andT_ap, k_orT_ap, k_notT_ap, k_andB_ap, k_andV_ap, k_orB_ap, k_orV_ap, k_notB_ap, k_notV_ap, k_ite_ap, k_ifS_ap, k_ex_ap, k_rt_ap, k_mktup_ap, k_mklst_ap, k_tup_ap, k_dsp_ap, k_frz_ap, k_own_ap, k_glo_ap, k_dc_ap, k_ds_ap, k_as_ap, k_wd_ap, k_call_ap, k_cl_ap, k_suby_ap, k_sub_ap, k_appx_ap, k_appv_ap, k_appc_ap, k_app_ap, k_pop_ap, k_popAv_ap, k_popAc_ap, k_popA_ap, k_setv_ap, k_seti_ap, k_seto_ap, k_set_ap, k_par_ap, k_seqD_ap, k_itS_ap, k_itR_ap, k_whl_ap, k_clK_ap, h1, h2, h3, toDs_run, revL_ob, k_rev_ap, noL_map, noL, List.map_reverse]
    rw [← List.map_reverse, noL_map, if_pos rfl]
  · rw [List.length_reverse]
    exact Nat.le_trans (List.length_filter_le ..) (by simp; omega)
end Mn
set_option Elab.async false
set_option linter.all false
set_option maxRecDepth 100000
set_option maxHeartbeats 1000000
/-! M38: texts of values are of some length. -/
namespace Mn
open PySem PyProof.Rows PySem.StrLaws
def szI (i : Int) : Nat := i.natAbs.log2 + 2
mutual
def szD : D → Nat
  | .non => 4
  | .bl _ => 5
  | .int i => szI i
  | .str x => 2 + 10 * x.length
  | .tup xs => szDs xs + 3
  | .lst xs => szDs xs + 3
  | .con _ => 0
  | .ty _ => 0
  | .obj _ _ => 0
  | .tun _ => 0
def szDs : List D → Nat
  | [] => 0
  | x :: xs => szD x + 2 + szDs xs
end
mutual
def shwD : D → Bool
  | .non => true
  | .bl _ => true
  | .int i => decide (i.natAbs.log2 < 1920)
  | .str _ => true
  | .tup xs => shwDs xs
  | .lst xs => shwDs xs
  | .con _ => true
  | .ty _ => true
  | .obj _ _ => true
  | .tun _ => true
def shwDs : List D → Bool
  | [] => true
  | x :: xs => shwD x && shwDs xs
end
theorem int_len (i : Int) : (Str.ofString (toString i)).length ≤ szI i := by
  have hd : (Nat.toDigits 10 i.natAbs).length ≤ i.natAbs.log2 + 1 := digits10_le (by omega) (Nat.lt_of_lt_of_le Nat.lt_log2_self (Nat.pow_le_pow_left (by decide) _))
  unfold szI
  cases i with
  | ofNat m =>
    rw [text_ofNat]
    show (((Nat.toDigits 10 m).map Char.toNat).toArray).size ≤ _
    simp only [List.size_toArray, List.length_map]
    rw [show (Int.ofNat m).natAbs = m from rfl] at hd ⊢
    omega
  | negSucc m =>
    have e : (toString (Int.negSucc m)) = "-" ++ Nat.repr (m + 1) := rfl
    have e2 : (Nat.repr (m + 1)).toList = Nat.toDigits 10 (m + 1) := by simp [Nat.repr]
    rw [e, Str.ofString_eq_toList]
    show (_ : Array Nat).size ≤ _
    simp only [List.size_toArray, List.length_map, String.toList_append, List.length_append, e2]
    simp only [Int.natAbs_negSucc, Nat.succ_eq_add_one] at hd ⊢
    have : ("-" : String).toList.length = 1 := rfl
    omega
theorem textFrom_le : ∀ (ts : List Str) (k : Nat) (acc : Str), (textFrom k acc ts).length ≤ acc.length + piled ts
  | [], k, acc => by simp [textFrom, piled_nil]
  | t :: ts, k, acc => by
    have ih := textFrom_le ts (k + 1) (acc ++ (if k > 0 then ", " else "" : String) ++ t)
    have e : (acc ++ (if k > 0 then ", " else "" : String) ++ t).length = acc.length + (if k > 0 then 2 else 0) + t.length := by
      rw [strLen_append, strLen_append]
      split <;> rfl
    rw [e] at ih
    show (textFrom (k + 1) _ ts).length ≤ _
    rw [piled_cons]
    have : (if k > 0 then 2 else 0 : Nat) ≤ 2 := by split <;> decide
    omega
theorem listText_le (ts : List Str) : (listText ts).length ≤ piled ts + 3 := by
  unfold listText
  rw [strLen_append]
  have := textFrom_le ts 0 "["
  have e1 : ((("[" : String) : Str)).length = 1 := rfl
  have e2 : ((("]" : String) : Str)).length = 1 := rfl
  omega
theorem tupleText_le (ts : List Str) : (tupleText ts).length ≤ piled ts + 3 := by
  unfold tupleText
  rw [strLen_append, strLen_append]
  have e1 : ((("(" : String) : Str)).length = 1 := rfl
  have e3 : (((if ts.length == 1 then ",)" else ")" : String) : Str)).length ≤ 2 := by split <;> decide
  cases ts with
  | nil =>
    have e2 : (Str.join ", " []).length = 0 := rfl
    rw [piled_nil]; omega
  | cons t r =>
    have := join_length_add (t :: r) (by simp)
    omega
theorem str_len {x : Str} (h : PyData.strOk x = true) : (reprText x).length ≤ 2 + 10 * x.length := by
  have h' : ∀ c ∈ x.cps.toList, c < 16 ^ 8 := fun c hc => by
    have := Array.all_eq_true'.mp h c (by simpa using hc)
    have := of_decide_eq_true this
    omega
  unfold reprText
  show (Array.push _ _).size ≤ _
  rw [Array.size_push, ← Array.foldl_toList]
  have := foldl_repr_len (reprQuote x) x.cps.toList #[reprQuote x] h'
  have e : x.length = x.cps.toList.length := by simp [Str.length]
  simp at this
  rw [e]; simp; omega
mutual
theorem shown_ok : ∀ (n : Nat) (x : D) (d : PyData), okD n x = true → toP x = some d → shwD x = true → d.showable = true ∧ d.shown.length ≤ szD x
  | n, .non, d, _, e, _ => by cases e; exact ⟨rfl, by decide⟩
  | n, .bl b, d, _, e, _ => by cases e; exact ⟨rfl, by cases b <;> decide⟩
  | n, .int i, d, _, e, h => by
    cases e
    refine ⟨by simpa only [PyData.showable, shwD] using h, ?_⟩
    simp only [PyData.shown, szD]
    exact int_len i
  | n, .str x, d, h, e, _ => by
    cases e
    refine ⟨rfl, ?_⟩
    simp only [PyData.shown, szD]
    exact str_len (by simpa only [okD, PyData.canLay0] using h)
  | 0, .tup xs, d, h, _, _ => by simp [okD] at h
  | 0, .lst xs, d, h, _, _ => by simp [okD] at h
  | n + 1, .tup xs, d, h, e, hs => by
    simp only [toP] at e
    split at e
    · rename_i ds q
      cases e
      obtain ⟨h1, h2⟩ := showns_ok n xs ds (by simpa only [okD] using h) q (by simpa only [shwD] using hs)
      refine ⟨by simpa only [PyData.showable] using h1, ?_⟩
      simp only [PyData.shown, szD]
      have := tupleText_le (PyData.shownAll ds)
      omega
    · cases e
  | n + 1, .lst xs, d, h, e, hs => by
    simp only [toP] at e
    split at e
    · rename_i ds q
      cases e
      obtain ⟨h1, h2⟩ := showns_ok n xs ds (by simpa only [okD] using h) q (by simpa only [shwD] using hs)
      refine ⟨by simpa only [PyData.showable] using h1, ?_⟩
      simp only [PyData.shown, szD]
      have := listText_le (PyData.shownAll ds)
      omega
    · cases e
  | _, .con _, d, h, _, _ => by simp [okD] at h
  | _, .ty _, d, h, _, _ => by simp [okD] at h
  | _, .obj _ _, d, h, _, _ => by simp [okD] at h
  | _, .tun _, d, h, _, _ => by simp [okD] at h
theorem showns_ok : ∀ (n : Nat) (xs : List D) (ds : List PyData), okDs n xs = true → toPs xs = some ds → shwDs xs = true → PyData.showableAll ds = true ∧ piled (PyData.shownAll ds) ≤ szDs xs
  | n, [], ds, _, e, _ => by cases e; exact ⟨rfl, by simp [PyData.shownAll, piled_nil]⟩
  | n, x :: xs, ds, h, e, hs => by
    simp only [toPs] at e
    split at e
    · rename_i d q
      split at e
      · rename_i ds' q'
        cases e
        simp only [okDs, shwDs, Bool.and_eq_true] at h hs
        obtain ⟨a1, a2⟩ := shown_ok n x d h.1 q hs.1
        obtain ⟨b1, b2⟩ := showns_ok n xs ds' h.2 q' hs.2
        refine ⟨by simp only [PyData.showableAll, a1, b1, Bool.and_self], ?_⟩
        simp only [PyData.shownAll, piled_cons, szDs]
        omega
      · cases e
    · cases e
end
/-- the text of a value -/
theorem repr_ok {n : Nat} {x : D} (h : okD n x = true) (hn : n ≤ 60) (hq : isSeq x = true) (hs : shwD x = true) (hz : szD x ≤ 16777216) : ∃ s, reprD [x] = some (.str s) := by
  obtain ⟨d, e, h1, h2⟩ := toP_ok n x h
  obtain ⟨s1, s2⟩ := shown_ok n x d h e hs
  refine ⟨d.shown, ?_⟩
  have hd := PyData.hasDict_of_canLay d h1
  simp only [reprD, e]
  rw [hq, s1, hd, decide_eq_true (Nat.le_trans h2 hn), decide_eq_true (Nat.le_trans s2 hz)]
  rfl
end Mn
set_option Elab.async false
set_option linter.all false
set_option maxRecDepth 100000
set_option maxHeartbeats 4000000
namespace Mn
open PySem PySem.Spec PyProof.Rows L2
theorem kw2 {fd : FuncData} {ps : List Str} {k0 k1 : Str} (h : ∀ w0 w1 : Value, True) : True := trivial
def top (i : Nat) : Stmt := PySem.Challenge.pw_saidatonce_k43_whole_best_and_worst_cuts.main.body.getD i (.Pass ⟨0, 0, 0, 0⟩)
/-- what the head must tell -/
structure Fx (G : Gx) : Prop where
  ex : G.ex = none
  th : G.th = none
  b_abs : G.mg "abs" = none
  b_bool : G.mg "bool" = none
  b_divmod : G.mg "divmod" = none
  b_int : G.mg "int" = none
  b_isinstance : G.mg "isinstance" = none
  b_len : G.mg "len" = none
  b_max : G.mg "max" = none
  b_min : G.mg "min" = none
  b_range : G.mg "range" = none
  b_repr : G.mg "repr" = none
  b_sum : G.mg "sum" = none
  b_super : G.mg "super" = none
  b_tuple : G.mg "tuple" = none
  g_law_heap : G.mg "_law_heap" = some (.ref (G.cn 17))
  u_law_heap : ∃ fd, FunD G.K "_law_heap" "_law_heap" (defArgs (top 17)) (defBody (top 17)) (defScope (top 17)) [] [] (G.cn 17) fd
  g_is_integer : G.mg "is_integer" = some (.ref (G.cn 5))
  u_is_integer : ∃ fd, FunD G.K "is_integer" "is_integer" (defArgs (top 5)) (defBody (top 5)) (defScope (top 5)) [] [] (G.cn 5) fd
  g_is_number : G.mg "is_number" = some (.ref (G.cn 6))
  u_is_number : ∃ fd, FunD G.K "is_number" "is_number" (defArgs (top 6)) (defBody (top 6)) (defScope (top 6)) [] [] (G.cn 6) fd
  g_need_number : G.mg "need_number" = some (.ref (G.cn 7))
  u_need_number : ∃ fd, FunD G.K "need_number" "need_number" (defArgs (top 7)) (defBody (top 7)) (defScope (top 7)) [] [] (G.cn 7) fd
  g_check_cut : G.mg "check_cut" = some (.ref (G.cn 11))
  u_check_cut : ∃ fd, FunD G.K "check_cut" "check_cut" (defArgs (top 11)) (defBody (top 11)) (defScope (top 11)) [] [] (G.cn 11) fd
  g_best_cut : G.mg "best_cut" = some (.ref (G.cn 14))
  u_best_cut : ∃ fd, FunD G.K "best_cut" "best_cut" (defArgs (top 14)) (defBody (top 14)) (defScope (top 14)) [] [] (G.cn 14) fd
  g_worst_cut : G.mg "worst_cut" = some (.ref (G.cn 15))
  u_worst_cut : ∃ fd, FunD G.K "worst_cut" "worst_cut" (defArgs (top 15)) (defBody (top 15)) (defScope (top 15)) [] [] (G.cn 15) fd
  g_count_cuts : G.mg "count_cuts" = some (.ref (G.cn 12))
  u_count_cuts : ∃ fd, FunD G.K "count_cuts" "count_cuts" (defArgs (top 12)) (defBody (top 12)) (defScope (top 12)) [] [] (G.cn 12) fd
  g_all_cuts : G.mg "all_cuts" = some (.ref (G.cn 13))
  u_all_cuts : ∃ fd, FunD G.K "all_cuts" "all_cuts" (defArgs (top 13)) (defBody (top 13)) (defScope (top 13)) [] [] (G.cn 13) fd
  g_law_told : G.mg "_law_told" = some (.ref (G.cn 22))
  u_law_told : ∃ fd, FunD G.K "_law_told" "_law_told" (defArgs (top 22)) (defBody (top 22)) (defScope (top 22)) [] [] (G.cn 22) fd
  g_law_bad_right : G.mg "_law_bad_right" = some (.ref (G.cn 31))
  u_law_bad_right : ∃ fd, FunD G.K "_law_bad_right" "_law_bad_right" (defArgs (top 31)) (defBody (top 31)) (defScope (top 31)) [] [] (G.cn 31) fd
  g_law_draw : G.mg "_law_draw" = some (.ref (G.cn 18))
  u_law_draw : ∃ fd, FunD G.K "_law_draw" "_law_draw" (defArgs (top 18)) (defBody (top 18)) (defScope (top 18)) [] [] (G.cn 18) fd
  g_law_pick : G.mg "_law_pick" = some (.ref (G.cn 19))
  u_law_pick : ∃ fd, FunD G.K "_law_pick" "_law_pick" (defArgs (top 19)) (defBody (top 19)) (defScope (top 19)) [] [] (G.cn 19) fd
  g_law_count : G.mg "_law_count" = some (.ref (G.cn 24))
  u_law_count : ∃ fd, FunD G.K "_law_count" "_law_count" (defArgs (top 24)) (defBody (top 24)) (defScope (top 24)) [] [] (G.cn 24) fd
  g_law_cuts : G.mg "_law_cuts" = some (.ref (G.cn 23))
  u_law_cuts : ∃ fd, FunD G.K "_law_cuts" "_law_cuts" (defArgs (top 23)) (defBody (top 23)) (defScope (top 23)) [] [] (G.cn 23) fd
  g_law_all_right : G.mg "_law_all_right" = some (.ref (G.cn 28))
  u_law_all_right : ∃ fd, FunD G.K "_law_all_right" "_law_all_right" (defArgs (top 28)) (defBody (top 28)) (defScope (top 28)) [] [] (G.cn 28) fd
  g_law_is_cut : G.mg "_law_is_cut" = some (.ref (G.cn 25))
  u_law_is_cut : ∃ fd, FunD G.K "_law_is_cut" "_law_is_cut" (defArgs (top 25)) (defBody (top 25)) (defScope (top 25)) [] [] (G.cn 25) fd
  g_law_reaches : G.mg "_law_reaches" = some (.ref (G.cn 21))
  u_law_reaches : ∃ fd, FunD G.K "_law_reaches" "_law_reaches" (defArgs (top 21)) (defBody (top 21)) (defScope (top 21)) [] [] (G.cn 21) fd
  g_law_least : G.mg "_law_least" = some (.ref (G.cn 26))
  u_law_least : ∃ fd, FunD G.K "_law_least" "_law_least" (defArgs (top 26)) (defBody (top 26)) (defScope (top 26)) [] [] (G.cn 26) fd
  g_law_greatest : G.mg "_law_greatest" = some (.ref (G.cn 27))
  u_law_greatest : ∃ fd, FunD G.K "_law_greatest" "_law_greatest" (defArgs (top 27)) (defBody (top 27)) (defScope (top 27)) [] [] (G.cn 27) fd
  g_law_ends_right : G.mg "_law_ends_right" = some (.ref (G.cn 29))
  u_law_ends_right : ∃ fd, FunD G.K "_law_ends_right" "_law_ends_right" (defArgs (top 29)) (defBody (top 29)) (defScope (top 29)) [] [] (G.cn 29) fd
  g_law_small_right : G.mg "_law_small_right" = some (.ref (G.cn 30))
  u_law_small_right : ∃ fd, FunD G.K "_law_small_right" "_law_small_right" (defArgs (top 30)) (defBody (top 30)) (defScope (top 30)) [] [] (G.cn 30) fd
  g_law : G.mg "law" = some (.ref (G.cn 32))
  u_law : ∃ fd, FunD G.K "law" "law" (defArgs (top 32)) (defBody (top 32)) (defScope (top 32)) [] [] (G.cn 32) fd
  i_MOST_BATCHES : ∃ t, G.mg "MOST_BATCHES" = some (.int 60 t)
  i_MOST_CUTS : ∃ t, G.mg "MOST_CUTS" = some (.int 500 t)
  g_InvalidNumber : G.mg "InvalidNumber" = some (.ref (G.cn 2))
  g_Refused : G.mg "Refused" = some (.ref (G.cn 3))
  fl_InvalidNumber : G.fl 2 = ([("word" : Str)] : List Str)
  mk_InvalidNumber : ∃ fI, Mkr G.K G.P (G.cn 2) fI "word"
  xf_InvalidNumber : XfC G.K (G.cn 2)
  xc_InvalidNumber : ExcC G.K (G.cn 2)
  nf_InvalidNumber : PySem.W.findIn G.K (.ref (G.cn 2)) "word" = some none
  em_InvalidNumber_InvalidNumber : PySem.W.exmOne G.K (.ref (G.cn 2)) (.ref (G.cn 2)) = some true
  ki_InvalidNumber_InvalidNumber : PySem.W.kitOne G.K (.ref (G.cn 2)) (.ref (G.cn 2)) = some true
  em_InvalidNumber_Refused : PySem.W.exmOne G.K (.ref (G.cn 2)) (.ref (G.cn 3)) = some false
  ki_InvalidNumber_Refused : PySem.W.kitOne G.K (.ref (G.cn 2)) (.ref (G.cn 3)) = some false
  fl_Refused : G.fl 3 = ([("word" : Str)] : List Str)
  mk_Refused : ∃ fI, Mkr G.K G.P (G.cn 3) fI "word"
  xf_Refused : XfC G.K (G.cn 3)
  xc_Refused : ExcC G.K (G.cn 3)
  nf_Refused : PySem.W.findIn G.K (.ref (G.cn 3)) "word" = some none
  em_Refused_InvalidNumber : PySem.W.exmOne G.K (.ref (G.cn 3)) (.ref (G.cn 2)) = some false
  ki_Refused_InvalidNumber : PySem.W.kitOne G.K (.ref (G.cn 3)) (.ref (G.cn 2)) = some false
  em_Refused_Refused : PySem.W.exmOne G.K (.ref (G.cn 3)) (.ref (G.cn 3)) = some true
  ki_Refused_Refused : PySem.W.kitOne G.K (.ref (G.cn 3)) (.ref (G.cn 3)) = some true
  t_law_bad_right : ∀ cdv : Value, (∀ (oc : Value) (od : Option Addr) (fd : FuncData) (osl : Array (Option Value)), G.K.lookup (G.cn 31) = some ⟨oc, od, .func fd, osl⟩ → fd.code = cdv) → ∃ cA P, LamX.TabB G.base G.mg cA P ∧ cdv = .ref cA ∧ (P, ("_law_bad_right" : Str) ++ ".<locals>." ++ "<lambda>") ∈ G.T ∧ ∀ p ∈ G.T, p.1 = P → p.2 = ("_law_bad_right" : Str) ++ ".<locals>." ++ "<lambda>"
  t_law_all_right : ∀ cdv : Value, (∀ (oc : Value) (od : Option Addr) (fd : FuncData) (osl : Array (Option Value)), G.K.lookup (G.cn 28) = some ⟨oc, od, .func fd, osl⟩ → fd.code = cdv) → ∃ cA P, LamX.TabB G.base G.mg cA P ∧ cdv = .ref cA ∧ (P, ("_law_all_right" : Str) ++ ".<locals>." ++ "<lambda>") ∈ G.T ∧ ∀ p ∈ G.T, p.1 = P → p.2 = ("_law_all_right" : Str) ++ ".<locals>." ++ "<lambda>"
def sbT (k n : Nat) : Option Bool := match n with
  | 2 => (match k with | 2 => some true | 3 => some false | _ => none)
  | 3 => (match k with | 2 => some false | 3 => some true | _ => none)
  | _ => none
theorem sb_2 {G : Gx} (H : Fx G) (k : Nat) (b : Bool) (h : sbT k 2 = some b) : PySem.W.exmOne G.K (.ref (G.cn k)) (.ref (G.cn 2)) = some b := by
  simp only [sbT] at h
  split at h
  · cases h; exact H.em_InvalidNumber_InvalidNumber
  · cases h; exact H.em_Refused_InvalidNumber
  · cases h
def kt_2 (k : Nat) : Option Bool := match k with | 2 => some true | 3 => some false | _ => none
theorem kx_2 {G : Gx} (H : Fx G) {e : Option (Addr × Nat × Addr)} {t : Option Th} (k : Nat) (b : Bool) (h : kt_2 k = some b) : ExcC (G.wi e t).K ((G.wi e t).cn k) ∧ PySem.W.kitOne (G.wi e t).K (.ref ((G.wi e t).cn k)) (.ref ((G.wi e t).cn 2)) = some b := by
  simp only [kt_2] at h
  split at h
  · cases h; exact ⟨H.xc_InvalidNumber, H.ki_InvalidNumber_InvalidNumber⟩
  · cases h; exact ⟨H.xc_Refused, H.ki_Refused_InvalidNumber⟩
  · cases h
theorem sb_3 {G : Gx} (H : Fx G) (k : Nat) (b : Bool) (h : sbT k 3 = some b) : PySem.W.exmOne G.K (.ref (G.cn k)) (.ref (G.cn 3)) = some b := by
  simp only [sbT] at h
  split at h
  · cases h; exact H.em_InvalidNumber_Refused
  · cases h; exact H.em_Refused_Refused
  · cases h
def kt_3 (k : Nat) : Option Bool := match k with | 2 => some false | 3 => some true | _ => none
theorem kx_3 {G : Gx} (H : Fx G) {e : Option (Addr × Nat × Addr)} {t : Option Th} (k : Nat) (b : Bool) (h : kt_3 k = some b) : ExcC (G.wi e t).K ((G.wi e t).cn k) ∧ PySem.W.kitOne (G.wi e t).K (.ref ((G.wi e t).cn k)) (.ref ((G.wi e t).cn 3)) = some b := by
  simp only [kt_3] at h
  split at h
  · cases h; exact ⟨H.xc_InvalidNumber, H.ki_InvalidNumber_Refused⟩
  · cases h; exact ⟨H.xc_Refused, H.ki_Refused_Refused⟩
  · cases h
def fls_word (k : Nat) : Option Nat := match k with | 2 => some 0 | 3 => some 0 | _ => none
theorem hx_word {G : Gx} (H : Fx G) {e : Option (Addr × Nat × Addr)} {t : Option Th} (k j : Nat) (h : fls_word k = some j) : XfC (G.wi e t).K ((G.wi e t).cn k) ∧ PySem.W.findIn (G.wi e t).K (.ref ((G.wi e t).cn k)) "word" = some none ∧ ∀ vs : List V, vs.length = ((G.wi e t).fl k).length → (((G.wi e t).fl k).zip vs).lookup ("word" : Str) = vs[j]? := by
  simp only [fls_word] at h
  split at h
  · cases h; refine ⟨H.xf_InvalidNumber, H.nf_InvalidNumber, fun vs hv => ?_⟩; rw [show (G.wi e t).fl 2 = _ from H.fl_InvalidNumber] at hv ⊢; exact zip_one hv
  · cases h; refine ⟨H.xf_Refused, H.nf_Refused, fun vs hv => ?_⟩; rw [show (G.wi e t).fl 3 = _ from H.fl_Refused] at hv ⊢; exact zip_one hv
  · cases h
def b_law_heap : St := seq (par [1, 2] (args [frz (lc [3] (itS (frz (sliL (vr 0) (none) (some (cs (.int 60)))))) (tN 3) (pur true) (b2 addD (b2 mulD (cs (.int 2)) (bi absD (args [vr 3]))) (bi intD (args [b2 ltD (vr 3) (cs (.int 0))])))), cs (.int 61253)])) (seq (forS (itS (vr 1)) (tN 3) (st (tN 2) (b2 modD (bi intD (args [b2 addD (b2 addD (b2 mulD (vr 2) (cs (.int 69621))) (b2 modD (bi intD (args [vr 3])) (cs (.int 2147483563)))) (cs (.int 29))])) (cs (.int 2147483647))))) (rt (glo (dsp (args [glo (revL (frz (lc [3] (itS (vr 1)) (tN 3) (tst (b2 geD (vr 3) (b2 powD (cs (.int 10)) (cs (.int 18))))) (vr 3)))), vr 2])))))
def F_law_heap : Fn := fn 4 1 b_law_heap
theorem ms_law_heap {G : Gx} (H : Fx G) {cdv : Value} : MSs G (.dfn ["_law_script", "_law_cells", "_law_stir", "_law_cell"] (defScope (top 17)) 0 false "_law_heap" cdv) (defBody (top 17)) b_law_heap := by
  exact mss_cons (ms_par2 (by rfl) (by rfl) (by rfl) (by decide) (by rfl) (by rfl) (ma_cons (me_frz (ml_lc (own := [("_law_cell", 3)]) (by rfl) (mi_seq (me_frz (ml_slL (me_vr (by rfl) (vis_by (by rfl))) (mo_none) (mo_some (me_int))))) (by rfl) (mg_name (by rfl) (sto_by (by rfl))) (mts_nil) (me_add (me_mul (me_int) (me_abs (gl_by (by rfl)) H.b_abs (ma_cons (me_vr (by rfl) (vis_by (by rfl))) (ma_nil)))) (me_intc (gl_by (by rfl)) H.b_int (ma_cons (me_lt (me_vr (by rfl) (vis_by (by rfl))) (me_int)) (ma_nil)))) (by rfl))) (ma_cons (me_int) (ma_nil))) (by rfl)) (mss_cons (ms_for (by rfl) (mi_seq (me_vr (by rfl) (vis_by (by rfl)))) (mg_name (by rfl) (sto_by (by rfl))) (mss_one (ms_st (me_mod (me_intc (gl_by (by rfl)) H.b_int (ma_cons (me_add (me_add (me_mul (me_vr (by rfl) (vis_by (by rfl))) (me_int)) (me_mod (me_intc (gl_by (by rfl)) H.b_int (ma_cons (me_vr (by rfl) (vis_by (by rfl))) (ma_nil))) (me_int))) (me_int)) (ma_nil))) (me_int)) (mg_name (by rfl) (sto_by (by rfl)))))) (mss_one (ms_ret (me_glo (ml_dsp (ma_cons (me_glo (ml_rev (me_frz (ml_lc (own := [("_law_cell", 3)]) (by rfl) (mi_seq (me_vr (by rfl) (vis_by (by rfl)))) (by rfl) (mg_name (by rfl) (sto_by (by rfl))) (mts_one (mt_ge (me_vr (by rfl) (vis_by (by rfl))) (me_pow (me_int) (me_int)))) (me_vr (by rfl) (vis_by (by rfl))) (by rfl))))) (ma_cons (me_vr (by rfl) (vis_by (by rfl))) (ma_nil))))))))
theorem df_law_heap {G : Gx} (H : Fx G) : Df G 1 17 (defArgs (top 17)) ["_law_script"] F_law_heap := df_of H.ex H.u_law_heap (N := ["_law_script", "_law_cells", "_law_stir", "_law_cell"]) ⟨rfl, rfl, rfl, by decide +kernel, rfl, by decide +kernel, by decide +kernel⟩ (fun _ _ _ _ _ _ _ _ _ _ us hl => match us, hl with | [_], _ => rfl) (fun cdv _ _ => ms_law_heap H)
def b_is_integer : St := rt (andV (bi isiD (args [vr 0, cs (.ty "int")])) (notV (bi isiD (args [vr 0, cs (.ty "bool")]))))
def F_is_integer : Fn := fn 1 1 b_is_integer
theorem ms_is_integer {G : Gx} (H : Fx G) {cdv : Value} : MSs G (.dfn ["value"] (defScope (top 5)) 0 false "is_integer" cdv) (defBody (top 5)) b_is_integer := by
  exact mss_one (ms_ret (me_and (me_isinst (gl_by (by rfl)) H.b_isinstance (ma_cons (me_vr (by rfl) (vis_by (by rfl))) (ma_cons (me_ty (gl_by (by rfl)) H.b_int boot_int) (ma_nil)))) (me_one (me_not (me_isinst (gl_by (by rfl)) H.b_isinstance (ma_cons (me_vr (by rfl) (vis_by (by rfl))) (ma_cons (me_ty (gl_by (by rfl)) H.b_bool boot_bool) (ma_nil))))))))
theorem df_is_integer {G : Gx} (H : Fx G) : Df G 1 5 (defArgs (top 5)) ["value"] F_is_integer := df_of H.ex H.u_is_integer (N := ["value"]) ⟨rfl, rfl, rfl, by decide +kernel, rfl, by decide +kernel, by decide +kernel⟩ (fun _ _ _ _ _ _ _ _ _ _ us hl => match us, hl with | [_], _ => rfl) (fun cdv _ _ => ms_is_integer H)
def b_is_number : St := rt (andV (cl F_is_integer (args [vr 0])) (b2 geD (vr 0) (cs (.int 0))))
def F_is_number : Fn := fn 1 1 b_is_number
theorem ms_is_number {G : Gx} (H : Fx G) {cdv : Value} : MSs G (.dfn ["value"] (defScope (top 6)) 1 false "is_number" cdv) (defBody (top 6)) b_is_number := by
  exact mss_one (ms_ret (me_and (me_cl (df_is_integer H) (by rfl) (Nat.le_of_ble_eq_true rfl) (gl_by (by rfl)) H.g_is_integer (ma_cons (me_vr (by rfl) (vis_by (by rfl))) (ma_nil))) (me_one (me_ge (me_vr (by rfl) (vis_by (by rfl))) (me_int)))))
theorem df_is_number {G : Gx} (H : Fx G) : Df G 2 6 (defArgs (top 6)) ["value"] F_is_number := df_of H.ex H.u_is_number (N := ["value"]) ⟨rfl, rfl, rfl, by decide +kernel, rfl, by decide +kernel, by decide +kernel⟩ (fun _ _ _ _ _ _ _ _ _ _ us hl => match us, hl with | [_], _ => rfl) (fun cdv _ _ => ms_is_number H)
def b_need_number : St := ifS (orT (notT (tst (cl F_is_number (args [vr 0])))) (orT (tst (b2 ltD (vr 0) (vr 1))) (andT (tst (b2 notN (vr 2) (cs .non))) (tst (b2 gtD (vr 0) (vr 2)))))) (rais 2 (args [vr 3])) (skip)
def F_need_number : Fn := fn 4 4 b_need_number
theorem ms_need_number {G : Gx} (H : Fx G) {cdv : Value} : MSs G (.dfn ["value", "least", "most", "word"] (defScope (top 7)) 2 false "need_number" cdv) (defBody (top 7)) b_need_number := by
  exact mss_one (ms_if (mt_w (mw_or (mt_not (mt_val (me_cl (df_is_number H) (by rfl) (Nat.le_of_ble_eq_true rfl) (gl_by (by rfl)) H.g_is_number (ma_cons (me_vr (by rfl) (vis_by (by rfl))) (ma_nil))))) (mw_or (mt_lt (me_vr (by rfl) (vis_by (by rfl))) (me_vr (by rfl) (vis_by (by rfl)))) (mw_or1 (mt_w (mw_and (mt_isnot (me_vr (by rfl) (vis_by (by rfl))) (me_non)) (mw_and1 (mt_gt (me_vr (by rfl) (vis_by (by rfl))) (me_vr (by rfl) (vis_by (by rfl))))))))))) (mss_one (ms_raise (H.mk_InvalidNumber.choose_spec) H.fl_InvalidNumber H.b_super (by rfl) (gl_by (by rfl)) H.g_InvalidNumber (Nat.le_of_ble_eq_true rfl) (ma_cons (me_vr (by rfl) (vis_by (by rfl))) (ma_nil)))) (mss_nil))
theorem df_need_number {G : Gx} (H : Fx G) : Df G 3 7 (defArgs (top 7)) ["value", "least", "most", "word"] F_need_number := df_of H.ex H.u_need_number (N := ["value", "least", "most", "word"]) ⟨rfl, rfl, rfl, by decide +kernel, rfl, by decide +kernel, by decide +kernel⟩ (fun _ _ _ _ _ _ _ _ _ _ us hl => match us, hl with | [_, _, _, _], _ => rfl) (fun cdv _ _ => ms_need_number H)
def b_check_cut : St := seq (ex (cl F_need_number (args [vr 0, cs (.int 1), cs (.int 60), cs (.str "orders")]))) (ex (cl F_need_number (args [vr 1, cs (.int 1), vr 0, cs (.str "many")])))
def F_check_cut : Fn := fn 2 2 b_check_cut
theorem ms_check_cut {G : Gx} (H : Fx G) {cdv : Value} : MSs G (.dfn ["orders", "many"] (defScope (top 11)) 3 false "check_cut" cdv) (defBody (top 11)) b_check_cut := by
  exact mss_cons (ms_expr (me_cl (df_need_number H) (by rfl) (Nat.le_of_ble_eq_true rfl) (gl_by (by rfl)) H.g_need_number (ma_cons (me_vr (by rfl) (vis_by (by rfl))) (ma_cons (me_int) (ma_cons (me_globI (gl_by (by rfl)) H.i_MOST_BATCHES) (ma_cons (me_str) (ma_nil))))))) (mss_one (ms_expr (me_cl (df_need_number H) (by rfl) (Nat.le_of_ble_eq_true rfl) (gl_by (by rfl)) H.g_need_number (ma_cons (me_vr (by rfl) (vis_by (by rfl))) (ma_cons (me_int) (ma_cons (me_vr (by rfl) (vis_by (by rfl))) (ma_cons (me_str) (ma_nil))))))))
theorem df_check_cut {G : Gx} (H : Fx G) : Df G 4 11 (defArgs (top 11)) ["orders", "many"] F_check_cut := df_of H.ex H.u_check_cut (N := ["orders", "many"]) ⟨rfl, rfl, rfl, by decide +kernel, rfl, by decide +kernel, by decide +kernel⟩ (fun _ _ _ _ _ _ _ _ _ _ us hl => match us, hl with | [_, _], _ => rfl) (fun cdv _ _ => ms_check_cut H)
def b_best_cut : St := seq (ex (cl F_check_cut (args [vr 0, vr 1]))) (seq (ifS (tst (b2 eqD (vr 1) (cs (.int 1)))) (rt (tup (args [vr 0]))) (skip)) (rt (b2 addD (tup (args [cs (.int 1), b2 addD (b2 subD (vr 0) (vr 1)) (cs (.int 1))])) (b2 mulD (tup (args [cs (.int 1)])) (b2 subD (vr 1) (cs (.int 2)))))))
def F_best_cut : Fn := fn 2 2 b_best_cut
theorem ms_best_cut {G : Gx} (H : Fx G) {cdv : Value} : MSs G (.dfn ["orders", "many"] (defScope (top 14)) 4 false "best_cut" cdv) (defBody (top 14)) b_best_cut := by
  exact mss_cons (ms_expr (me_cl (df_check_cut H) (by rfl) (Nat.le_of_ble_eq_true rfl) (gl_by (by rfl)) H.g_check_cut (ma_cons (me_vr (by rfl) (vis_by (by rfl))) (ma_cons (me_vr (by rfl) (vis_by (by rfl))) (ma_nil))))) (mss_cons (ms_if (mt_eq (me_vr (by rfl) (vis_by (by rfl))) (me_int)) (mss_one (ms_ret (me_tup (ma_cons (me_vr (by rfl) (vis_by (by rfl))) (ma_nil))))) (mss_nil)) (mss_one (ms_ret (me_add (me_tup (ma_cons (me_int) (ma_cons (me_add (me_min (me_vr (by rfl) (vis_by (by rfl))) (me_vr (by rfl) (vis_by (by rfl)))) (me_int)) (ma_nil)))) (me_mul (me_tup (ma_cons (me_int) (ma_nil))) (me_min (me_vr (by rfl) (vis_by (by rfl))) (me_int)))))))
theorem df_best_cut {G : Gx} (H : Fx G) : Df G 5 14 (defArgs (top 14)) ["orders", "many"] F_best_cut := df_of H.ex H.u_best_cut (N := ["orders", "many"]) ⟨rfl, rfl, rfl, by decide +kernel, rfl, by decide +kernel, by decide +kernel⟩ (fun _ _ _ _ _ _ _ _ _ _ us hl => match us, hl with | [_, _], _ => rfl) (fun cdv _ _ => ms_best_cut H)
def b_worst_cut : St := seq (ex (cl F_check_cut (args [vr 0, vr 1]))) (seq (st (tT [tN 2, tN 3]) (bi divD (args [vr 0, vr 1]))) (rt (b2 addN (b2 mulD (tup (args [b2 addN (vr 2) (cs (.int 1))])) (vr 3)) (b2 mulD (tup (args [vr 2])) (b2 subD (vr 1) (vr 3))))))
def F_worst_cut : Fn := fn 4 2 b_worst_cut
theorem ms_worst_cut {G : Gx} (H : Fx G) {cdv : Value} : MSs G (.dfn ["orders", "many", "size", "more"] (defScope (top 15)) 4 false "worst_cut" cdv) (defBody (top 15)) b_worst_cut := by
  exact mss_cons (ms_expr (me_cl (df_check_cut H) (by rfl) (Nat.le_of_ble_eq_true rfl) (gl_by (by rfl)) H.g_check_cut (ma_cons (me_vr (by rfl) (vis_by (by rfl))) (ma_cons (me_vr (by rfl) (vis_by (by rfl))) (ma_nil))))) (mss_cons (ms_st (me_divmod (gl_by (by rfl)) H.b_divmod (ma_cons (me_vr (by rfl) (vis_by (by rfl))) (ma_cons (me_vr (by rfl) (vis_by (by rfl))) (ma_nil)))) (mg_tup (by rfl) (mgs_cons (mg_name (by rfl) (sto_by (by rfl))) (mgs_cons (mg_name (by rfl) (sto_by (by rfl))) (mgs_nil))))) (mss_one (ms_ret (me_addN (me_mul (me_tup (ma_cons (me_addN (me_vr (by rfl) (vis_by (by rfl))) (me_int)) (ma_nil))) (me_vr (by rfl) (vis_by (by rfl)))) (me_mul (me_tup (ma_cons (me_vr (by rfl) (vis_by (by rfl))) (ma_nil))) (me_min (me_vr (by rfl) (vis_by (by rfl))) (me_vr (by rfl) (vis_by (by rfl)))))))))
theorem df_worst_cut {G : Gx} (H : Fx G) : Df G 5 15 (defArgs (top 15)) ["orders", "many"] F_worst_cut := df_of H.ex H.u_worst_cut (N := ["orders", "many", "size", "more"]) ⟨rfl, rfl, rfl, by decide +kernel, rfl, by decide +kernel, by decide +kernel⟩ (fun _ _ _ _ _ _ _ _ _ _ us hl => match us, hl with | [_, _], _ => rfl) (fun cdv _ _ => ms_worst_cut H)
def b_count_cuts : St := seq (par [2, 3] (args [cs (.int 1), bi minD (args [b2 subD (vr 1) (cs (.int 1)), b2 subD (vr 0) (vr 1)])])) (seq (forS (itR rng1 (args [vr 3])) (tN 4) (seq (st (tN 2) (b2 fdivD (b2 mulD (vr 2) (b2 subD (b2 subD (vr 0) (cs (.int 1))) (vr 4))) (b2 addD (vr 4) (cs (.int 1))))) (ifS (tst (b2 gtD (vr 2) (cs (.int 500)))) (pur .bk) (skip)))) (rt (vr 2)))
def F_count_cuts : Fn := fn 5 2 b_count_cuts
theorem ms_count_cuts {G : Gx} (H : Fx G) {cdv : Value} : MSs G (.dfn ["orders", "many", "found", "least", "at"] (defScope (top 12)) 0 false "count_cuts" cdv) (defBody (top 12)) b_count_cuts := by
  exact mss_cons (ms_par2 (by rfl) (by rfl) (by rfl) (by decide) (by rfl) (by rfl) (ma_cons (me_int) (ma_cons (me_minc (by rfl) (gl_by (by rfl)) H.b_min (ma_cons (me_min (me_vr (by rfl) (vis_by (by rfl))) (me_int)) (ma_cons (me_min (me_vr (by rfl) (vis_by (by rfl))) (me_vr (by rfl) (vis_by (by rfl)))) (ma_nil)))) (ma_nil))) (by rfl)) (mss_cons (ms_for (by rfl) (mi_rng1 (gl_by (by rfl)) H.b_range (ma_cons (me_vr (by rfl) (vis_by (by rfl))) (ma_nil))) (mg_name (by rfl) (sto_by (by rfl))) (mss_cons (ms_st (me_fdiv (me_mul (me_vr (by rfl) (vis_by (by rfl))) (me_min (me_min (me_vr (by rfl) (vis_by (by rfl))) (me_int)) (me_vr (by rfl) (vis_by (by rfl))))) (me_add (me_vr (by rfl) (vis_by (by rfl))) (me_int))) (mg_name (by rfl) (sto_by (by rfl)))) (mss_one (ms_if (mt_gt (me_vr (by rfl) (vis_by (by rfl))) (me_globI (gl_by (by rfl)) H.i_MOST_CUTS)) (mss_one (ms_break)) (mss_nil))))) (mss_one (ms_ret (me_vr (by rfl) (vis_by (by rfl))))))
theorem df_count_cuts {G : Gx} (H : Fx G) : Df G 1 12 (defArgs (top 12)) ["orders", "many"] F_count_cuts := df_of H.ex H.u_count_cuts (N := ["orders", "many", "found", "least", "at"]) ⟨rfl, rfl, rfl, by decide +kernel, rfl, by decide +kernel, by decide +kernel⟩ (fun _ _ _ _ _ _ _ _ _ _ us hl => match us, hl with | [_, _], _ => rfl) (fun cdv _ _ => ms_count_cuts H)
def b_all_cuts : St := seq (ex (cl F_check_cut (args [vr 0, vr 1]))) (seq (ifS (tst (b2 gtD (cl F_count_cuts (args [vr 0, vr 1])) (cs (.int 500)))) (rais 3 (args [cs (.str "size")])) (skip)) (seq (st (tN 2) (frz (dsp (args [tup (args [])])))) (seq (forS (itR rng1 (args [vr 1])) (tN 3) (seq (st (tN 4) (b2 subD (b2 subD (vr 1) (vr 3)) (cs (.int 1)))) (seq (st (tN 5) (frz (lc [6] (itS (vr 2)) (tN 6) (pur true) (tup (args [vr 6, b2 subD (b2 subD (vr 0) (bi sumD (args [vr 6]))) (vr 4)]))))) (st (tN 2) (frz (lc2 [6, 7, 8] (itS (vr 5)) (tT [tN 6, tN 7]) (pur true) [8] (itR rng2 (args [ite (tst (b2 gtD (vr 4) (cs (.int 0)))) (cs (.int 1)) (vr 7), b2 addD (vr 7) (cs (.int 1))])) (tN 8) (pur true) (b2 addD (vr 6) (tup (args [vr 8]))))))))) (rt (bi tupD (args [vr 2]))))))
def F_all_cuts : Fn := fn 9 2 b_all_cuts
theorem ms_all_cuts {G : Gx} (H : Fx G) {cdv : Value} : MSs G (.dfn ["orders", "many", "found", "at", "left", "rooms", "cut", "most", "size"] (defScope (top 13)) 4 false "all_cuts" cdv) (defBody (top 13)) b_all_cuts := by
  exact mss_cons (ms_expr (me_cl (df_check_cut H) (by rfl) (Nat.le_of_ble_eq_true rfl) (gl_by (by rfl)) H.g_check_cut (ma_cons (me_vr (by rfl) (vis_by (by rfl))) (ma_cons (me_vr (by rfl) (vis_by (by rfl))) (ma_nil))))) (mss_cons (ms_if (mt_gt (me_cl (df_count_cuts H) (by rfl) (Nat.le_of_ble_eq_true rfl) (gl_by (by rfl)) H.g_count_cuts (ma_cons (me_vr (by rfl) (vis_by (by rfl))) (ma_cons (me_vr (by rfl) (vis_by (by rfl))) (ma_nil)))) (me_globI (gl_by (by rfl)) H.i_MOST_CUTS)) (mss_one (ms_raise (H.mk_Refused.choose_spec) H.fl_Refused H.b_super (by rfl) (gl_by (by rfl)) H.g_Refused (Nat.le_of_ble_eq_true rfl) (ma_cons (me_str) (ma_nil)))) (mss_nil)) (mss_cons (ms_st (me_frz (ml_dsp (ma_cons (me_tup (ma_nil)) (ma_nil)))) (mg_name (by rfl) (sto_by (by rfl)))) (mss_cons (ms_for (by rfl) (mi_rng1 (gl_by (by rfl)) H.b_range (ma_cons (me_vr (by rfl) (vis_by (by rfl))) (ma_nil))) (mg_name (by rfl) (sto_by (by rfl))) (mss_cons (ms_st (me_min (me_min (me_vr (by rfl) (vis_by (by rfl))) (me_vr (by rfl) (vis_by (by rfl)))) (me_int)) (mg_name (by rfl) (sto_by (by rfl)))) (mss_cons (ms_setLc (own := [("cut", 6)]) (i := 5) how_frz (by rfl) (by rfl) (by rfl) (by rfl) (by rfl) (by rfl) (mi_seq (me_vr (by rfl) (vis_by (by rfl)))) (by rfl) (mg_name (by rfl) (sto_by (by rfl))) (mts_nil) (me_tup (ma_cons (me_vr (by rfl) (vis_by (by rfl))) (ma_cons (me_min (me_min (me_vr (by rfl) (vis_by (by rfl))) (me_sum (by rfl) (gl_by (by rfl)) H.b_sum (ma_cons (me_vr (by rfl) (vis_by (by rfl))) (ma_nil)))) (me_vr (by rfl) (vis_by (by rfl)))) (ma_nil)))) (by rfl)) (mss_one (ms_setLc2 (own := [("cut", 6), ("most", 7), ("size", 8)]) (vs1 := [8]) (i := 2) how_frz (by rfl) (by rfl) (by rfl) (by rfl) (by rfl) (by rfl) (mi_seq (me_vr (by rfl) (vis_by (by rfl)))) (by rfl) (mg_tup (by rfl) (mgs_cons (mg_name (by rfl) (sto_by (by rfl))) (mgs_cons (mg_name (by rfl) (sto_by (by rfl))) (mgs_nil)))) (mts_nil) (mi_rng2 (gl_by (by rfl)) H.b_range (ma_cons (me_ite (mt_gt (me_vr (by rfl) (vis_by (by rfl))) (me_int)) (me_int) (me_vr (by rfl) (vis_by (by rfl)))) (ma_cons (me_add (me_vr (by rfl) (vis_by (by rfl))) (me_int)) (ma_nil)))) (mg_name (by rfl) (sto_by (by rfl))) (mts_nil) (me_add (me_vr (by rfl) (vis_by (by rfl))) (me_tup (ma_cons (me_vr (by rfl) (vis_by (by rfl))) (ma_nil)))) (by rfl) (by rfl) (by rfl)))))) (mss_one (ms_ret (me_tuple (gl_by (by rfl)) H.b_tuple (ma_cons (me_vr (by rfl) (vis_by (by rfl))) (ma_nil))))))))
theorem df_all_cuts {G : Gx} (H : Fx G) : Df G 5 13 (defArgs (top 13)) ["orders", "many"] F_all_cuts := df_of H.ex H.u_all_cuts (N := ["orders", "many", "found", "at", "left", "rooms", "cut", "most", "size"]) ⟨rfl, rfl, rfl, by decide +kernel, rfl, by decide +kernel, by decide +kernel⟩ (fun _ _ _ _ _ _ _ _ _ _ us hl => match us, hl with | [_, _], _ => rfl) (fun cdv _ _ => ms_all_cuts H)
def b_law_told (T : List Cell → Fo) : St := tryS sbT (rt (tup (args [cs (.str "told"), thk T 0]))) [⟨3, some 1, rt (tup (args [cs (.str "refused"), fldE fls_word (vr 1), isE kt_2 (vr 1)]))⟩, ⟨2, some 1, rt (tup (args [cs (.str "number"), fldE fls_word (vr 1)]))⟩]
def F_law_told : (List Cell → Fo) → List Cell → Fo := fnT 2 b_law_told
theorem ms_law_told {G : Gx} (H : Fx G) {k : Nat} {cdv : Value} (t : Th) (T : List Cell → Fo) (ht : t.T = T) : MSs (G.wi none (some t)) (.dfn ["_law_deed", "error"] (defScope (top 22)) k true "_law_told" cdv) (defBody (top 22)) (b_law_told T) := by
  have hT : ∀ t2, (G.wi none (some t)).th = some t2 → t2.T = T := fun t2 h2 => by cases h2; exact ht
  exact mss_one (ms_try (by rfl) (by rfl) (by rfl) (mss_one (ms_ret (me_tup (ma_cons (me_str) (ma_cons (me_thk rfl hT (by rfl) (vis_by (by rfl))) (ma_nil)))))) (MH.named (gl_by (by rfl)) H.g_Refused (by decide) (by rfl) (by rfl) (sb_3 (G := G) H) (fun _ => mss_one (ms_ret (me_tup (ma_cons (me_str) (ma_cons (me_fldE rfl (me_vr (by rfl) (vis_by (by rfl))) (hx_word H)) (ma_cons (me_isE rfl (me_vr (by rfl) (vis_by (by rfl))) (gl_by (by rfl)) H.b_isinstance (gl_by (by rfl)) H.g_InvalidNumber (kx_2 H) (z := fun _ => .stuck)) (ma_nil))))))) (MH.named (gl_by (by rfl)) H.g_InvalidNumber (by decide) (by rfl) (by rfl) (sb_2 (G := G) H) (fun _ => mss_one (ms_ret (me_tup (ma_cons (me_str) (ma_cons (me_fldE rfl (me_vr (by rfl) (vis_by (by rfl))) (hx_word H)) (ma_nil)))))) (MH.nil))))
theorem dt_law_told {G : Gx} (H : Fx G) (k : Nat) : DfT G k 22 "_law_told" F_law_told := dft_of H.u_law_told (N := ["_law_deed", "error"]) (a := "_law_deed") (bT := b_law_told) ⟨rfl, rfl, rfl, by decide +kernel, rfl, by decide +kernel, by decide +kernel⟩ (fun _ _ _ _ _ _ _ _ _ _ us hl => match us, hl with | [_], _ => rfl) (fun cdv t T ht => ms_law_told H t T ht)
def T_law_bad_right (n : Nat) : Option Fn := match n with | 13 => some F_all_cuts | 14 => some F_best_cut | 15 => some F_worst_cut | _ => none
theorem T_law_bad_right_ok {G : Gx} (H : Fx G) {K : Nat} (hK : 5 ≤ K) (n : Nat) (F : Fn) (h : T_law_bad_right n = some F) : ∃ k pr ps, k ≤ K ∧ Df G k n pr ps F := by
  simp only [T_law_bad_right] at h
  split at h
  · cases h; exact ⟨_, _, _, Nat.le_trans (by decide) hK, df_all_cuts H⟩
  · cases h; exact ⟨_, _, _, Nat.le_trans (by decide) hK, df_best_cut H⟩
  · cases h; exact ⟨_, _, _, Nat.le_trans (by decide) hK, df_worst_cut H⟩
  · cases h
def b_law_bad_right : St := seq (forS (itS (frz (dsp (args [cs (.con 13), cs (.con 14), cs (.con 15)])))) (tN 2) (seq (forS (itS (frz (dsp (args [cs (.int 0), cs (.int 61), b2 subD (cs (.int 0)) (cs (.int 1)), cs (.bl true), cs .non, cs (.str "2"), tup (args [cs (.int 3)]), frz (dsp (args [cs (.int 1)]))])))) (tN 3) (seq (ifS (tst (b2 neD (lamc F_law_told (clv T_law_bad_right 2 (args [vr 3, cs (.int 1)]))) (tup (args [cs (.str "number"), cs (.str "orders")])))) (rt (cs (.bl false))) (skip)) (ifS (tst (b2 neD (lamc F_law_told (clv T_law_bad_right 2 (args [vr 3, cs .non]))) (tup (args [cs (.str "number"), cs (.str "orders")])))) (rt (cs (.bl false))) (skip)))) (forS (itS (frz (dsp (args [cs (.int 0), b2 addD (vr 0) (cs (.int 1)), b2 subD (cs (.int 0)) (cs (.int 1)), cs (.bl true), cs .non, cs (.str "1"), tup (args [cs (.int 1)]), frz (dsp (args [cs (.int 2)])), cs (.int 100)])))) (tN 3) (ifS (tst (b2 neD (lamc F_law_told (clv T_law_bad_right 2 (args [vr 0, vr 3]))) (tup (args [cs (.str "number"), cs (.str "many")])))) (rt (cs (.bl false))) (skip))))) (rt (cs (.bl true)))
def F_law_bad_right : Fn := fn 4 2 b_law_bad_right
theorem ms_law_bad_right {G : Gx} (H : Fx G) {cdv : Value} (hcd : ∀ (oc : Value) (od : Option Addr) (fd : FuncData) (osl : Array (Option Value)), G.K.lookup (G.cn 31) = some ⟨oc, od, .func fd, osl⟩ → fd.code = cdv) : MSs G (.dfn ["_law_orders", "_law_many", "_law_deed", "_law_value"] (defScope (top 31)) 7 false "_law_bad_right" cdv) (defBody (top 31)) b_law_bad_right := by
  have htb := H.t_law_bad_right cdv hcd
  exact mss_cons (ms_for (by rfl) (mi_seq (me_frz (ml_dsp (ma_cons (me_globC (gl_by (by rfl)) H.g_all_cuts) (ma_cons (me_globC (gl_by (by rfl)) H.g_best_cut) (ma_cons (me_globC (gl_by (by rfl)) H.g_worst_cut) (ma_nil))))))) (mg_name (by rfl) (sto_by (by rfl))) (mss_cons (ms_for (by rfl) (mi_seq (me_frz (ml_dsp (ma_cons (me_int) (ma_cons (me_int) (ma_cons (me_min (me_int) (me_int)) (ma_cons (me_bl) (ma_cons (me_non) (ma_cons (me_str) (ma_cons (me_tup (ma_cons (me_int) (ma_nil))) (ma_cons (me_frz (ml_dsp (ma_cons (me_int) (ma_nil)))) (ma_nil)))))))))))) (mg_name (by rfl) (sto_by (by rfl))) (mss_cons (ms_if (mt_ne (me_lam (k := 5) (dt_law_told H 6) H.th (by rfl) (by rfl) (Nat.le_of_ble_eq_true rfl) (gl_by (by rfl)) H.g_law_told (htb) (LamX.lamS_by (by rfl)) (by intro _; rfl) (by intro _ _ _ _ _; rfl) (me_clv (T_law_bad_right_ok H (Nat.le_of_ble_eq_true rfl)) (by rfl) (by rfl) (vis_by (by rfl)) (ma_cons (me_vr (by rfl) (vis_by (by rfl))) (ma_cons (me_int) (ma_nil))))) (me_tup (ma_cons (me_str) (ma_cons (me_str) (ma_nil))))) (mss_one (ms_ret (me_bl))) (mss_nil)) (mss_one (ms_if (mt_ne (me_lam (k := 5) (dt_law_told H 6) H.th (by rfl) (by rfl) (Nat.le_of_ble_eq_true rfl) (gl_by (by rfl)) H.g_law_told (htb) (LamX.lamS_by (by rfl)) (by intro _; rfl) (by intro _ _ _ _ _; rfl) (me_clv (T_law_bad_right_ok H (Nat.le_of_ble_eq_true rfl)) (by rfl) (by rfl) (vis_by (by rfl)) (ma_cons (me_vr (by rfl) (vis_by (by rfl))) (ma_cons (me_non) (ma_nil))))) (me_tup (ma_cons (me_str) (ma_cons (me_str) (ma_nil))))) (mss_one (ms_ret (me_bl))) (mss_nil))))) (mss_one (ms_for (by rfl) (mi_seq (me_frz (ml_dsp (ma_cons (me_int) (ma_cons (me_add (me_vr (by rfl) (vis_by (by rfl))) (me_int)) (ma_cons (me_min (me_int) (me_int)) (ma_cons (me_bl) (ma_cons (me_non) (ma_cons (me_str) (ma_cons (me_tup (ma_cons (me_int) (ma_nil))) (ma_cons (me_frz (ml_dsp (ma_cons (me_int) (ma_nil)))) (ma_cons (me_int) (ma_nil))))))))))))) (mg_name (by rfl) (sto_by (by rfl))) (mss_one (ms_if (mt_ne (me_lam (k := 5) (dt_law_told H 6) H.th (by rfl) (by rfl) (Nat.le_of_ble_eq_true rfl) (gl_by (by rfl)) H.g_law_told (htb) (LamX.lamS_by (by rfl)) (by intro _; rfl) (by intro _ _ _ _ _; rfl) (me_clv (T_law_bad_right_ok H (Nat.le_of_ble_eq_true rfl)) (by rfl) (by rfl) (vis_by (by rfl)) (ma_cons (me_vr (by rfl) (vis_by (by rfl))) (ma_cons (me_vr (by rfl) (vis_by (by rfl))) (ma_nil))))) (me_tup (ma_cons (me_str) (ma_cons (me_str) (ma_nil))))) (mss_one (ms_ret (me_bl))) (mss_nil))))))) (mss_one (ms_ret (me_bl)))
theorem df_law_bad_right {G : Gx} (H : Fx G) : Df G 8 31 (defArgs (top 31)) ["_law_orders", "_law_many"] F_law_bad_right := df_of H.ex H.u_law_bad_right (N := ["_law_orders", "_law_many", "_law_deed", "_law_value"]) ⟨rfl, rfl, rfl, by decide +kernel, rfl, by decide +kernel, by decide +kernel⟩ (fun _ _ _ _ _ _ _ _ _ _ us hl => match us, hl with | [_, _], _ => rfl) (fun cdv hcd _ => ms_law_bad_right H hcd)
def b_law_draw : St := seq (whl (andT (tst (b2 neD (sub (vr 0) (cs (.int 0))) (frz (dsp (args []))))) (tst (b2 eqD (sub (sub (vr 0) (cs (.int 0))) (u1 negD (cs (.int 1)))) (cs (.int 0))))) (ex (pop (sub (vr 0) (cs (.int 0))))) 100) (seq (ifS (tst (b2 neD (sub (vr 0) (cs (.int 0))) (frz (dsp (args []))))) (seq (st (tN 2) (pop (sub (vr 0) (cs (.int 0))))) (seq (ex (app (sub (vr 0) (cs (.int 0))) (b2 fdivD (vr 2) (vr 1)))) (rt (b2 modD (bi intD (args [vr 2])) (vr 1))))) (skip)) (seq (setS (b2 modD (bi intD (args [b2 addD (b2 mulD (sub (vr 0) (cs (.int 1))) (cs (.int 48271))) (cs (.int 17))])) (cs (.int 2147483647))) (vr 0) (cs (.int 1))) (rt (b2 modD (bi intD (args [b2 fdivD (sub (vr 0) (cs (.int 1))) (cs (.int 32))])) (vr 1)))))
def F_law_draw : Fn := fn 3 2 b_law_draw
theorem ms_law_draw {G : Gx} (H : Fx G) {cdv : Value} : MSs G (.dfn ["_law_heap_here", "_law_many", "_law_rest"] (defScope (top 18)) 0 false "_law_draw" cdv) (defBody (top 18)) b_law_draw := by
  exact mss_cons (ms_while (mt_w (mw_and (mt_ne (me_sub (me_vr (by rfl) (vis_by (by rfl))) (me_int)) (me_frz (ml_dsp (ma_nil)))) (mw_and1 (mt_eq (me_sub (me_sub (me_vr (by rfl) (vis_by (by rfl))) (me_int)) (me_neg (me_int))) (me_int))))) (mss_one (ms_expr (me_pop (me_sub (me_vr (by rfl) (vis_by (by rfl))) (me_int)))))) (mss_cons (ms_if (mt_ne (me_sub (me_vr (by rfl) (vis_by (by rfl))) (me_int)) (me_frz (ml_dsp (ma_nil)))) (mss_cons (ms_st (me_pop (me_sub (me_vr (by rfl) (vis_by (by rfl))) (me_int))) (mg_name (by rfl) (sto_by (by rfl)))) (mss_cons (ms_expr (me_app (me_sub (me_vr (by rfl) (vis_by (by rfl))) (me_int)) (me_fdiv (me_vr (by rfl) (vis_by (by rfl))) (me_vr (by rfl) (vis_by (by rfl)))))) (mss_one (ms_ret (me_mod (me_intc (gl_by (by rfl)) H.b_int (ma_cons (me_vr (by rfl) (vis_by (by rfl))) (ma_nil))) (me_vr (by rfl) (vis_by (by rfl)))))))) (mss_nil)) (mss_cons (ms_setS (me_mod (me_intc (gl_by (by rfl)) H.b_int (ma_cons (me_add (me_mul (me_sub (me_vr (by rfl) (vis_by (by rfl))) (me_int)) (me_int)) (me_int)) (ma_nil))) (me_int)) (me_vr (by rfl) (vis_by (by rfl))) (me_int)) (mss_one (ms_ret (me_mod (me_intc (gl_by (by rfl)) H.b_int (ma_cons (me_fdiv (me_sub (me_vr (by rfl) (vis_by (by rfl))) (me_int)) (me_int)) (ma_nil))) (me_vr (by rfl) (vis_by (by rfl))))))))
theorem df_law_draw {G : Gx} (H : Fx G) : Df G 1 18 (defArgs (top 18)) ["_law_heap_here", "_law_many"] F_law_draw := df_of H.ex H.u_law_draw (N := ["_law_heap_here", "_law_many", "_law_rest"]) ⟨rfl, rfl, rfl, by decide +kernel, rfl, by decide +kernel, by decide +kernel⟩ (fun _ _ _ _ _ _ _ _ _ _ us hl => match us, hl with | [_, _], _ => rfl) (fun cdv _ _ => ms_law_draw H)
def b_law_pick : St := rt (sub (vr 1) (cl F_law_draw (args [vr 0, bi lenD (args [vr 1])])))
def F_law_pick : Fn := fn 2 2 b_law_pick
theorem ms_law_pick {G : Gx} (H : Fx G) {cdv : Value} : MSs G (.dfn ["_law_heap_here", "_law_some"] (defScope (top 19)) 1 false "_law_pick" cdv) (defBody (top 19)) b_law_pick := by
  exact mss_one (ms_ret (me_sub (me_vr (by rfl) (vis_by (by rfl))) (me_cl (df_law_draw H) (by rfl) (Nat.le_of_ble_eq_true rfl) (gl_by (by rfl)) H.g_law_draw (ma_cons (me_vr (by rfl) (vis_by (by rfl))) (ma_cons (me_len (gl_by (by rfl)) H.b_len (ma_cons (me_vr (by rfl) (vis_by (by rfl))) (ma_nil))) (ma_nil))))))
theorem df_law_pick {G : Gx} (H : Fx G) : Df G 2 19 (defArgs (top 19)) ["_law_heap_here", "_law_some"] F_law_pick := df_of H.ex H.u_law_pick (N := ["_law_heap_here", "_law_some"]) ⟨rfl, rfl, rfl, by decide +kernel, rfl, by decide +kernel, by decide +kernel⟩ (fun _ _ _ _ _ _ _ _ _ _ us hl => match us, hl with | [_, _], _ => rfl) (fun cdv _ _ => ms_law_pick H)
def b_law_count : St := seq (st (tN 2) (frz (dsp (args [cs (.int 1)])))) (seq (forS (itR rng1 (args [b2 subD (vr 0) (cs (.int 1))])) (tN 3) (st (tN 2) (frz (b2L catL (frz (b2L catL (frz (dsp (args [cs (.int 1)]))) (frz (lc [4] (itR rng1 (args [b2 subD (bi lenD (args [vr 2])) (cs (.int 1))])) (tN 4) (pur true) (b2 addD (sub (vr 2) (vr 4)) (sub (vr 2) (b2 addD (vr 4) (cs (.int 1))))))))) (frz (dsp (args [cs (.int 1)]))))))) (rt (sub (vr 2) (b2 subD (vr 1) (cs (.int 1))))))
def F_law_count : Fn := fn 5 2 b_law_count
theorem ms_law_count {G : Gx} (H : Fx G) {cdv : Value} : MSs G (.dfn ["_law_orders", "_law_many", "_law_row", "_law_at", "_law_place"] (defScope (top 24)) 0 false "_law_count" cdv) (defBody (top 24)) b_law_count := by
  exact mss_cons (ms_st (me_frz (ml_dsp (ma_cons (me_int) (ma_nil)))) (mg_name (by rfl) (sto_by (by rfl)))) (mss_cons (ms_for (by rfl) (mi_rng1 (gl_by (by rfl)) H.b_range (ma_cons (me_min (me_vr (by rfl) (vis_by (by rfl))) (me_int)) (ma_nil))) (mg_name (by rfl) (sto_by (by rfl))) (mss_one (ms_st (me_frz (ml_cat (me_frz (ml_cat (me_frz (ml_dsp (ma_cons (me_int) (ma_nil)))) (me_frz (ml_lc (own := [("_law_place", 4)]) (by rfl) (mi_rng1 (gl_by (by rfl)) H.b_range (ma_cons (me_min (me_len (gl_by (by rfl)) H.b_len (ma_cons (me_vr (by rfl) (vis_by (by rfl))) (ma_nil))) (me_int)) (ma_nil))) (by rfl) (mg_name (by rfl) (sto_by (by rfl))) (mts_nil) (me_add (me_sub (me_vr (by rfl) (vis_by (by rfl))) (me_vr (by rfl) (vis_by (by rfl)))) (me_sub (me_vr (by rfl) (vis_by (by rfl))) (me_add (me_vr (by rfl) (vis_by (by rfl))) (me_int)))) (by rfl))))) (me_frz (ml_dsp (ma_cons (me_int) (ma_nil)))))) (mg_name (by rfl) (sto_by (by rfl)))))) (mss_one (ms_ret (me_sub (me_vr (by rfl) (vis_by (by rfl))) (me_min (me_vr (by rfl) (vis_by (by rfl))) (me_int))))))
theorem df_law_count {G : Gx} (H : Fx G) : Df G 1 24 (defArgs (top 24)) ["_law_orders", "_law_many"] F_law_count := df_of H.ex H.u_law_count (N := ["_law_orders", "_law_many", "_law_row", "_law_at", "_law_place"]) ⟨rfl, rfl, rfl, by decide +kernel, rfl, by decide +kernel, by decide +kernel⟩ (fun _ _ _ _ _ _ _ _ _ _ us hl => match us, hl with | [_, _], _ => rfl) (fun cdv _ _ => ms_law_count H)
def b_law_cuts : St := seq (st (tN 2) (frz (dsp (args [frz (dsp (args []))])))) (seq (forS (itR rng1 (args [b2 subD (vr 1) (cs (.int 1))])) (tN 3) (seq (st (tN 4) (frz (dsp (args [])))) (seq (forS (itS (vr 2)) (tN 5) (seq (st (tN 6) (ite (tst (b2 neD (vr 5) (frz (dsp (args []))))) (b2 addD (sub (vr 5) (u1 negD (cs (.int 1)))) (cs (.int 1))) (cs (.int 1)))) (st (tN 4) (frz (b2L catL (vr 4) (frz (lc [9] (itR rng2 (args [vr 6, b2 addD (b2 addD (b2 subD (vr 0) (vr 1)) (vr 3)) (cs (.int 2))])) (tN 9) (pur true) (frz (b2L catL (vr 5) (frz (dsp (args [vr 9])))))))))))) (st (tN 2) (vr 4))))) (seq (st (tN 7) (Mn.own (dsp (args [])))) (seq (forS (itS (vr 2)) (tN 5) (seq (st (tN 8) (frz (b2L catL (frz (b2L catL (frz (dsp (args [cs (.int 0)]))) (vr 5))) (frz (dsp (args [vr 0])))))) (ex (app (vr 7) (bi tupD (args [frz (lc [3] (itR rng1 (args [vr 1])) (tN 3) (pur true) (b2 subD (sub (vr 8) (b2 addD (vr 3) (cs (.int 1)))) (sub (vr 8) (vr 3))))])))))) (rt (vr 7)))))
def F_law_cuts : Fn := fn 10 2 b_law_cuts
theorem ms_law_cuts {G : Gx} (H : Fx G) {cdv : Value} : MSs G (.dfn ["_law_orders", "_law_many", "_law_found", "_law_at", "_law_grown", "_law_row", "_law_begin", "_law_cuts_here", "_law_ends", "_law_gap"] (defScope (top 23)) 0 false "_law_cuts" cdv) (defBody (top 23)) b_law_cuts := by
  exact mss_cons (ms_st (me_frz (ml_dsp (ma_cons (me_frz (ml_dsp (ma_nil))) (ma_nil)))) (mg_name (by rfl) (sto_by (by rfl)))) (mss_cons (ms_for (by rfl) (mi_rng1 (gl_by (by rfl)) H.b_range (ma_cons (me_min (me_vr (by rfl) (vis_by (by rfl))) (me_int)) (ma_nil))) (mg_name (by rfl) (sto_by (by rfl))) (mss_cons (ms_st (me_frz (ml_dsp (ma_nil))) (mg_name (by rfl) (sto_by (by rfl)))) (mss_cons (ms_for (by rfl) (mi_seq (me_vr (by rfl) (vis_by (by rfl)))) (mg_name (by rfl) (sto_by (by rfl))) (mss_cons (ms_st (me_ite (mt_ne (me_vr (by rfl) (vis_by (by rfl))) (me_frz (ml_dsp (ma_nil)))) (me_add (me_sub (me_vr (by rfl) (vis_by (by rfl))) (me_neg (me_int))) (me_int)) (me_int)) (mg_name (by rfl) (sto_by (by rfl)))) (mss_one (ms_st (me_frz (ml_cat (me_vr (by rfl) (vis_by (by rfl))) (me_frz (ml_lc (own := [("_law_gap", 9)]) (by rfl) (mi_rng2 (gl_by (by rfl)) H.b_range (ma_cons (me_vr (by rfl) (vis_by (by rfl))) (ma_cons (me_add (me_add (me_min (me_vr (by rfl) (vis_by (by rfl))) (me_vr (by rfl) (vis_by (by rfl)))) (me_vr (by rfl) (vis_by (by rfl)))) (me_int)) (ma_nil)))) (by rfl) (mg_name (by rfl) (sto_by (by rfl))) (mts_nil) (me_frz (ml_cat (me_vr (by rfl) (vis_by (by rfl))) (me_frz (ml_dsp (ma_cons (me_vr (by rfl) (vis_by (by rfl))) (ma_nil)))))) (by rfl))))) (mg_name (by rfl) (sto_by (by rfl))))))) (mss_one (ms_st (me_vr (by rfl) (vis_by (by rfl))) (mg_name (by rfl) (sto_by (by rfl)))))))) (mss_cons (ms_st (me_own (ml_dsp (ma_nil))) (mg_name (by rfl) (sto_by (by rfl)))) (mss_cons (ms_for (by rfl) (mi_seq (me_vr (by rfl) (vis_by (by rfl)))) (mg_name (by rfl) (sto_by (by rfl))) (mss_cons (ms_st (me_frz (ml_cat (me_frz (ml_cat (me_frz (ml_dsp (ma_cons (me_int) (ma_nil)))) (me_vr (by rfl) (vis_by (by rfl))))) (me_frz (ml_dsp (ma_cons (me_vr (by rfl) (vis_by (by rfl))) (ma_nil)))))) (mg_name (by rfl) (sto_by (by rfl)))) (mss_one (ms_expr (me_app (me_vr (by rfl) (vis_by (by rfl))) (me_tuple (gl_by (by rfl)) H.b_tuple (ma_cons (me_frz (ml_lc (own := [("_law_at", 3)]) (by rfl) (mi_rng1 (gl_by (by rfl)) H.b_range (ma_cons (me_vr (by rfl) (vis_by (by rfl))) (ma_nil))) (by rfl) (mg_name (by rfl) (sto_by (by rfl))) (mts_nil) (me_min (me_sub (me_vr (by rfl) (vis_by (by rfl))) (me_add (me_vr (by rfl) (vis_by (by rfl))) (me_int))) (me_sub (me_vr (by rfl) (vis_by (by rfl))) (me_vr (by rfl) (vis_by (by rfl))))) (by rfl))) (ma_nil)))))))) (mss_one (ms_ret (me_vr (by rfl) (vis_by (by rfl))))))))
theorem df_law_cuts {G : Gx} (H : Fx G) : Df G 1 23 (defArgs (top 23)) ["_law_orders", "_law_many"] F_law_cuts := df_of H.ex H.u_law_cuts (N := ["_law_orders", "_law_many", "_law_found", "_law_at", "_law_grown", "_law_row", "_law_begin", "_law_cuts_here", "_law_ends", "_law_gap"]) ⟨rfl, rfl, rfl, by decide +kernel, rfl, by decide +kernel, by decide +kernel⟩ (fun _ _ _ _ _ _ _ _ _ _ us hl => match us, hl with | [_, _], _ => rfl) (fun cdv _ _ => ms_law_cuts H)
def b_law_all_right : St := seq (st (tN 2) (lamc F_law_told (cl F_all_cuts (args [vr 0, vr 1])))) (seq (ifS (tst (b2 gtD (cl F_law_count (args [vr 0, vr 1])) (cs (.int 500)))) (rt (b2 eqD (vr 2) (tup (args [cs (.str "refused"), cs (.str "size"), cs (.bl false)])))) (skip)) (rt (andV (b2 eqD (bi reprD (args [vr 2])) (bi reprD (args [tup (args [cs (.str "told"), bi tupD (args [cl F_law_cuts (args [vr 0, vr 1])])])]))) (b2 eqD (clK F_all_cuts [1, 0] (args [vr 1, vr 0])) (sub (vr 2) (cs (.int 1)))))))
def F_law_all_right : Fn := fn 3 2 b_law_all_right
theorem ms_law_all_right {G : Gx} (H : Fx G) {cdv : Value} (hcd : ∀ (oc : Value) (od : Option Addr) (fd : FuncData) (osl : Array (Option Value)), G.K.lookup (G.cn 28) = some ⟨oc, od, .func fd, osl⟩ → fd.code = cdv) : MSs G (.dfn ["_law_orders", "_law_many", "_law_told_here"] (defScope (top 28)) 7 false "_law_all_right" cdv) (defBody (top 28)) b_law_all_right := by
  have htb := H.t_law_all_right cdv hcd
  exact mss_cons (ms_st (me_lam (k := 5) (dt_law_told H 6) H.th (by rfl) (by rfl) (Nat.le_of_ble_eq_true rfl) (gl_by (by rfl)) H.g_law_told (htb) (LamX.lamS_by (by rfl)) (by intro _; rfl) (by intro _ _ _ _ _; rfl) (me_cl (df_all_cuts H) (by rfl) (Nat.le_of_ble_eq_true rfl) (gl_by (by rfl)) H.g_all_cuts (ma_cons (me_vr (by rfl) (vis_by (by rfl))) (ma_cons (me_vr (by rfl) (vis_by (by rfl))) (ma_nil))))) (mg_name (by rfl) (sto_by (by rfl)))) (mss_cons (ms_if (mt_gt (me_cl (df_law_count H) (by rfl) (Nat.le_of_ble_eq_true rfl) (gl_by (by rfl)) H.g_law_count (ma_cons (me_vr (by rfl) (vis_by (by rfl))) (ma_cons (me_vr (by rfl) (vis_by (by rfl))) (ma_nil)))) (me_int)) (mss_one (ms_ret (me_eq (me_vr (by rfl) (vis_by (by rfl))) (me_tup (ma_cons (me_str) (ma_cons (me_str) (ma_cons (me_bl) (ma_nil)))))))) (mss_nil)) (mss_one (ms_ret (me_and (me_eq (me_repr (gl_by (by rfl)) H.b_repr (ma_cons (me_vr (by rfl) (vis_by (by rfl))) (ma_nil))) (me_repr (gl_by (by rfl)) H.b_repr (ma_cons (me_tup (ma_cons (me_str) (ma_cons (me_tuple (gl_by (by rfl)) H.b_tuple (ma_cons (me_cl (df_law_cuts H) (by rfl) (Nat.le_of_ble_eq_true rfl) (gl_by (by rfl)) H.g_law_cuts (ma_cons (me_vr (by rfl) (vis_by (by rfl))) (ma_cons (me_vr (by rfl) (vis_by (by rfl))) (ma_nil)))) (ma_nil))) (ma_nil)))) (ma_nil)))) (me_one (me_eq (me_clK (js := [1, 0]) (ks := ["many", "orders"]) (df_all_cuts H) (by rfl) (Nat.le_of_ble_eq_true rfl) (gl_by (by rfl)) H.g_all_cuts (pks_cons (me_vr (by rfl) (vis_by (by rfl))) (pks_cons (me_vr (by rfl) (vis_by (by rfl))) (pks_nil))) (by intro _ _ _ _ _ _ _ _ _ _ ws us h; rcases ws with _ | ⟨w0, _ | ⟨w1, r⟩⟩ <;> simp only [reord, nth] at h <;> first | (cases h; rfl) | cases h)) (me_sub (me_vr (by rfl) (vis_by (by rfl))) (me_int))))))))
theorem df_law_all_right {G : Gx} (H : Fx G) : Df G 8 28 (defArgs (top 28)) ["_law_orders", "_law_many"] F_law_all_right := df_of H.ex H.u_law_all_right (N := ["_law_orders", "_law_many", "_law_told_here"]) ⟨rfl, rfl, rfl, by decide +kernel, rfl, by decide +kernel, by decide +kernel⟩ (fun _ _ _ _ _ _ _ _ _ _ us hl => match us, hl with | [_, _], _ => rfl) (fun cdv hcd _ => ms_law_all_right H hcd)
def b_law_is_cut : St := seq (ifS (orT (notT (tst (bi isiD (args [vr 0, cs (.ty "tuple")])))) (tst (b2 neD (bi lenD (args [vr 0])) (vr 2)))) (rt (cs (.bl false))) (skip)) (seq (forS (itS (vr 0)) (tN 3) (ifS (orT (notT (tst (bi isiD (args [vr 3, cs (.ty "int")])))) (orT (tst (bi isiD (args [vr 3, cs (.ty "bool")]))) (tst (b2 ltD (vr 3) (cs (.int 1)))))) (rt (cs (.bl false))) (skip))) (rt (b2 eqD (bi sumD (args [vr 0])) (vr 1))))
def F_law_is_cut : Fn := fn 4 3 b_law_is_cut
theorem ms_law_is_cut {G : Gx} (H : Fx G) {cdv : Value} : MSs G (.dfn ["_law_value", "_law_orders", "_law_many", "_law_size"] (defScope (top 25)) 0 false "_law_is_cut" cdv) (defBody (top 25)) b_law_is_cut := by
  exact mss_cons (ms_if (mt_w (mw_or (mt_not (mt_val (me_isinst (gl_by (by rfl)) H.b_isinstance (ma_cons (me_vr (by rfl) (vis_by (by rfl))) (ma_cons (me_ty (gl_by (by rfl)) H.b_tuple boot_tuple) (ma_nil)))))) (mw_or1 (mt_ne (me_len (gl_by (by rfl)) H.b_len (ma_cons (me_vr (by rfl) (vis_by (by rfl))) (ma_nil))) (me_vr (by rfl) (vis_by (by rfl))))))) (mss_one (ms_ret (me_bl))) (mss_nil)) (mss_cons (ms_for (by rfl) (mi_seq (me_vr (by rfl) (vis_by (by rfl)))) (mg_name (by rfl) (sto_by (by rfl))) (mss_one (ms_if (mt_w (mw_or (mt_not (mt_val (me_isinst (gl_by (by rfl)) H.b_isinstance (ma_cons (me_vr (by rfl) (vis_by (by rfl))) (ma_cons (me_ty (gl_by (by rfl)) H.b_int boot_int) (ma_nil)))))) (mw_or (mt_val (me_isinst (gl_by (by rfl)) H.b_isinstance (ma_cons (me_vr (by rfl) (vis_by (by rfl))) (ma_cons (me_ty (gl_by (by rfl)) H.b_bool boot_bool) (ma_nil))))) (mw_or1 (mt_lt (me_vr (by rfl) (vis_by (by rfl))) (me_int)))))) (mss_one (ms_ret (me_bl))) (mss_nil)))) (mss_one (ms_ret (me_eq (me_sum (by rfl) (gl_by (by rfl)) H.b_sum (ma_cons (me_vr (by rfl) (vis_by (by rfl))) (ma_nil))) (me_vr (by rfl) (vis_by (by rfl)))))))
theorem df_law_is_cut {G : Gx} (H : Fx G) : Df G 1 25 (defArgs (top 25)) ["_law_value", "_law_orders", "_law_many"] F_law_is_cut := df_of H.ex H.u_law_is_cut (N := ["_law_value", "_law_orders", "_law_many", "_law_size"]) ⟨rfl, rfl, rfl, by decide +kernel, rfl, by decide +kernel, by decide +kernel⟩ (fun _ _ _ _ _ _ _ _ _ _ us hl => match us, hl with | [_, _, _], _ => rfl) (fun cdv _ _ => ms_law_is_cut H)
def b_law_reaches : St := seq (ifS (tst (b2 eqD (vr 0) (tup (args [])))) (rt (tup (args [cs (.int 1), cs (.int 0)]))) (skip)) (seq (st (tN 1) (cs (.int 1))) (seq (forS (itS (sliT (vr 0) (some (cs (.int 1))) (none))) (tN 2) (st (tN 1) (b2 mulD (vr 1) (b2 addD (vr 2) (cs (.int 1)))))) (rt (tup (args [b2 mulD (vr 1) (b2 addD (sub (vr 0) (cs (.int 0))) (cs (.int 1))), b2 mulD (sub (vr 0) (cs (.int 0))) (vr 1)])))))
def F_law_reaches : Fn := fn 3 1 b_law_reaches
theorem ms_law_reaches {G : Gx} (H : Fx G) {cdv : Value} : MSs G (.dfn ["_law_batches", "_law_walks", "_law_size"] (defScope (top 21)) 0 false "_law_reaches" cdv) (defBody (top 21)) b_law_reaches := by
  exact mss_cons (ms_if (mt_eq (me_vr (by rfl) (vis_by (by rfl))) (me_tup (ma_nil))) (mss_one (ms_ret (me_tup (ma_cons (me_int) (ma_cons (me_int) (ma_nil)))))) (mss_nil)) (mss_cons (ms_st (me_int) (mg_name (by rfl) (sto_by (by rfl)))) (mss_cons (ms_for (by rfl) (mi_seq (me_slT (me_vr (by rfl) (vis_by (by rfl))) (mo_some (me_int)) (mo_none))) (mg_name (by rfl) (sto_by (by rfl))) (mss_one (ms_st (me_mul (me_vr (by rfl) (vis_by (by rfl))) (me_add (me_vr (by rfl) (vis_by (by rfl))) (me_int))) (mg_name (by rfl) (sto_by (by rfl)))))) (mss_one (ms_ret (me_tup (ma_cons (me_mul (me_vr (by rfl) (vis_by (by rfl))) (me_add (me_sub (me_vr (by rfl) (vis_by (by rfl))) (me_int)) (me_int))) (ma_cons (me_mul (me_sub (me_vr (by rfl) (vis_by (by rfl))) (me_int)) (me_vr (by rfl) (vis_by (by rfl)))) (ma_nil))))))))
theorem df_law_reaches {G : Gx} (H : Fx G) : Df G 1 21 (defArgs (top 21)) ["_law_batches"] F_law_reaches := df_of H.ex H.u_law_reaches (N := ["_law_batches", "_law_walks", "_law_size"]) ⟨rfl, rfl, rfl, by decide +kernel, rfl, by decide +kernel, by decide +kernel⟩ (fun _ _ _ _ _ _ _ _ _ _ us hl => match us, hl with | [_], _ => rfl) (fun cdv _ _ => ms_law_reaches H)
def b_law_least : St := seq (st (tN 2) (Mn.own (b2L catL (frz (dsp (args [cs .non]))) (frz (lc [8] (itR rng2 (args [cs (.int 1), b2 addD (vr 0) (cs (.int 1))])) (tN 8) (pur true) (b2 addD (vr 8) (cs (.int 1)))))))) (seq (st (tN 3) (Mn.own (b2L catL (frz (dsp (args [cs .non]))) (frz (lc [8] (itR rng2 (args [cs (.int 1), b2 addD (vr 0) (cs (.int 1))])) (tN 8) (pur true) (vr 8)))))) (seq (forS (itR rng1 (args [b2 subD (vr 1) (cs (.int 1))])) (tN 4) (seq (par [5, 2, 3] (args [vr 2, Mn.own (dsp (args [cs .non])), Mn.own (dsp (args [cs .non]))])) (forS (itR rng2 (args [cs (.int 1), b2 addD (vr 0) (cs (.int 1))])) (tN 6) (seq (st (tN 7) (frz (lc [8] (itR rng2 (args [cs (.int 1), vr 6])) (tN 8) (tst (b2 notN (sub (vr 5) (b2 subD (vr 6) (vr 8))) (cs .non))) (vr 8)))) (seq (ex (app (vr 2) (ite (tst (b2 neD (vr 7) (frz (dsp (args []))))) (bi minD (args [frz (lc [8] (itS (vr 7)) (tN 8) (pur true) (b2 mulD (b2 addD (vr 8) (cs (.int 1))) (sub (vr 5) (b2 subD (vr 6) (vr 8)))))])) (cs .non)))) (ex (app (vr 3) (ite (tst (b2 neD (vr 7) (frz (dsp (args []))))) (bi minD (args [frz (lc [8] (itS (vr 7)) (tN 8) (pur true) (b2 mulD (vr 8) (sub (vr 5) (b2 subD (vr 6) (vr 8)))))])) (cs .non))))))))) (rt (tup (args [sub (vr 2) (vr 0), sub (vr 3) (vr 0)])))))
def F_law_least : Fn := fn 9 2 b_law_least
theorem ms_law_least {G : Gx} (H : Fx G) {cdv : Value} : MSs G (.dfn ["_law_orders", "_law_many", "_law_walks", "_law_rings", "_law_at", "_law_later", "_law_count_here", "_law_some", "_law_size"] (defScope (top 26)) 0 false "_law_least" cdv) (defBody (top 26)) b_law_least := by
  exact mss_cons (ms_st (me_own (ml_cat (me_frz (ml_dsp (ma_cons (me_non) (ma_nil)))) (me_frz (ml_lc (own := [("_law_size", 8)]) (by rfl) (mi_rng2 (gl_by (by rfl)) H.b_range (ma_cons (me_int) (ma_cons (me_add (me_vr (by rfl) (vis_by (by rfl))) (me_int)) (ma_nil)))) (by rfl) (mg_name (by rfl) (sto_by (by rfl))) (mts_nil) (me_add (me_vr (by rfl) (vis_by (by rfl))) (me_int)) (by rfl))))) (mg_name (by rfl) (sto_by (by rfl)))) (mss_cons (ms_st (me_own (ml_cat (me_frz (ml_dsp (ma_cons (me_non) (ma_nil)))) (me_frz (ml_lc (own := [("_law_size", 8)]) (by rfl) (mi_rng2 (gl_by (by rfl)) H.b_range (ma_cons (me_int) (ma_cons (me_add (me_vr (by rfl) (vis_by (by rfl))) (me_int)) (ma_nil)))) (by rfl) (mg_name (by rfl) (sto_by (by rfl))) (mts_nil) (me_vr (by rfl) (vis_by (by rfl))) (by rfl))))) (mg_name (by rfl) (sto_by (by rfl)))) (mss_cons (ms_for (by rfl) (mi_rng1 (gl_by (by rfl)) H.b_range (ma_cons (me_min (me_vr (by rfl) (vis_by (by rfl))) (me_int)) (ma_nil))) (mg_name (by rfl) (sto_by (by rfl))) (mss_cons (ms_par3c (by rfl) (by rfl) (by rfl) (by rfl) (sto_by (by rfl)) (sto_by (by rfl)) (sto_by (by rfl)) (ma_cons (me_vr (by rfl) (vis_by (by rfl))) (ma_cons (me_own (ml_dsp (ma_cons (me_non) (ma_nil)))) (ma_cons (me_own (ml_dsp (ma_cons (me_non) (ma_nil)))) (ma_nil)))) (by intro _ _; rfl) (by rfl)) (mss_one (ms_for (by rfl) (mi_rng2 (gl_by (by rfl)) H.b_range (ma_cons (me_int) (ma_cons (me_add (me_vr (by rfl) (vis_by (by rfl))) (me_int)) (ma_nil)))) (mg_name (by rfl) (sto_by (by rfl))) (mss_cons (ms_setLc (own := [("_law_size", 8)]) (i := 7) how_frz (by rfl) (by rfl) (by rfl) (by rfl) (by rfl) (by rfl) (mi_rng2 (gl_by (by rfl)) H.b_range (ma_cons (me_int) (ma_cons (me_vr (by rfl) (vis_by (by rfl))) (ma_nil)))) (by rfl) (mg_name (by rfl) (sto_by (by rfl))) (mts_one (mt_isnot (me_sub (me_vr (by rfl) (vis_by (by rfl))) (me_min (me_vr (by rfl) (vis_by (by rfl))) (me_vr (by rfl) (vis_by (by rfl))))) (me_non))) (me_vr (by rfl) (vis_by (by rfl))) (by rfl)) (mss_cons (ms_expr (me_app (me_vr (by rfl) (vis_by (by rfl))) (me_ite (mt_ne (me_vr (by rfl) (vis_by (by rfl))) (me_frz (ml_dsp (ma_nil)))) (me_minc (by rfl) (gl_by (by rfl)) H.b_min (ma_cons (me_frz (ml_lc (own := [("_law_size", 8)]) (by rfl) (mi_seq (me_vr (by rfl) (vis_by (by rfl)))) (by rfl) (mg_name (by rfl) (sto_by (by rfl))) (mts_nil) (me_mul (me_add (me_vr (by rfl) (vis_by (by rfl))) (me_int)) (me_sub (me_vr (by rfl) (vis_by (by rfl))) (me_min (me_vr (by rfl) (vis_by (by rfl))) (me_vr (by rfl) (vis_by (by rfl)))))) (by rfl))) (ma_nil))) (me_non)))) (mss_one (ms_expr (me_app (me_vr (by rfl) (vis_by (by rfl))) (me_ite (mt_ne (me_vr (by rfl) (vis_by (by rfl))) (me_frz (ml_dsp (ma_nil)))) (me_minc (by rfl) (gl_by (by rfl)) H.b_min (ma_cons (me_frz (ml_lc (own := [("_law_size", 8)]) (by rfl) (mi_seq (me_vr (by rfl) (vis_by (by rfl)))) (by rfl) (mg_name (by rfl) (sto_by (by rfl))) (mts_nil) (me_mul (me_vr (by rfl) (vis_by (by rfl))) (me_sub (me_vr (by rfl) (vis_by (by rfl))) (me_min (me_vr (by rfl) (vis_by (by rfl))) (me_vr (by rfl) (vis_by (by rfl)))))) (by rfl))) (ma_nil))) (me_non))))))))))) (mss_one (ms_ret (me_tup (ma_cons (me_sub (me_vr (by rfl) (vis_by (by rfl))) (me_vr (by rfl) (vis_by (by rfl)))) (ma_cons (me_sub (me_vr (by rfl) (vis_by (by rfl))) (me_vr (by rfl) (vis_by (by rfl)))) (ma_nil))))))))
theorem df_law_least {G : Gx} (H : Fx G) : Df G 1 26 (defArgs (top 26)) ["_law_orders", "_law_many"] F_law_least := df_of H.ex H.u_law_least (N := ["_law_orders", "_law_many", "_law_walks", "_law_rings", "_law_at", "_law_later", "_law_count_here", "_law_some", "_law_size"]) ⟨rfl, rfl, rfl, by decide +kernel, rfl, by decide +kernel, by decide +kernel⟩ (fun _ _ _ _ _ _ _ _ _ _ us hl => match us, hl with | [_, _], _ => rfl) (fun cdv _ _ => ms_law_least H)
def b_law_greatest : St := seq (st (tN 2) (Mn.own (b2L catL (frz (dsp (args [cs .non]))) (frz (lc [8] (itR rng2 (args [cs (.int 1), b2 addD (vr 0) (cs (.int 1))])) (tN 8) (pur true) (b2 addD (vr 8) (cs (.int 1)))))))) (seq (st (tN 3) (Mn.own (b2L catL (frz (dsp (args [cs .non]))) (frz (lc [8] (itR rng2 (args [cs (.int 1), b2 addD (vr 0) (cs (.int 1))])) (tN 8) (pur true) (vr 8)))))) (seq (forS (itR rng1 (args [b2 subD (vr 1) (cs (.int 1))])) (tN 4) (seq (par [5, 2, 3] (args [vr 2, Mn.own (dsp (args [cs .non])), Mn.own (dsp (args [cs .non]))])) (forS (itR rng2 (args [cs (.int 1), b2 addD (vr 0) (cs (.int 1))])) (tN 6) (seq (st (tN 7) (frz (lc [8] (itR rng2 (args [cs (.int 1), vr 6])) (tN 8) (tst (b2 notN (sub (vr 5) (b2 subD (vr 6) (vr 8))) (cs .non))) (vr 8)))) (seq (ex (app (vr 2) (ite (tst (b2 neD (vr 7) (frz (dsp (args []))))) (bi maxD (args [frz (lc [8] (itS (vr 7)) (tN 8) (pur true) (b2 mulD (b2 addD (vr 8) (cs (.int 1))) (sub (vr 5) (b2 subD (vr 6) (vr 8)))))])) (cs .non)))) (ex (app (vr 3) (ite (tst (b2 neD (vr 7) (frz (dsp (args []))))) (bi maxD (args [frz (lc [8] (itS (vr 7)) (tN 8) (pur true) (b2 mulD (vr 8) (sub (vr 5) (b2 subD (vr 6) (vr 8)))))])) (cs .non))))))))) (rt (tup (args [sub (vr 2) (vr 0), sub (vr 3) (vr 0)])))))
def F_law_greatest : Fn := fn 9 2 b_law_greatest
theorem ms_law_greatest {G : Gx} (H : Fx G) {cdv : Value} : MSs G (.dfn ["_law_orders", "_law_many", "_law_walks", "_law_rings", "_law_at", "_law_later", "_law_count_here", "_law_some", "_law_size"] (defScope (top 27)) 0 false "_law_greatest" cdv) (defBody (top 27)) b_law_greatest := by
  exact mss_cons (ms_st (me_own (ml_cat (me_frz (ml_dsp (ma_cons (me_non) (ma_nil)))) (me_frz (ml_lc (own := [("_law_size", 8)]) (by rfl) (mi_rng2 (gl_by (by rfl)) H.b_range (ma_cons (me_int) (ma_cons (me_add (me_vr (by rfl) (vis_by (by rfl))) (me_int)) (ma_nil)))) (by rfl) (mg_name (by rfl) (sto_by (by rfl))) (mts_nil) (me_add (me_vr (by rfl) (vis_by (by rfl))) (me_int)) (by rfl))))) (mg_name (by rfl) (sto_by (by rfl)))) (mss_cons (ms_st (me_own (ml_cat (me_frz (ml_dsp (ma_cons (me_non) (ma_nil)))) (me_frz (ml_lc (own := [("_law_size", 8)]) (by rfl) (mi_rng2 (gl_by (by rfl)) H.b_range (ma_cons (me_int) (ma_cons (me_add (me_vr (by rfl) (vis_by (by rfl))) (me_int)) (ma_nil)))) (by rfl) (mg_name (by rfl) (sto_by (by rfl))) (mts_nil) (me_vr (by rfl) (vis_by (by rfl))) (by rfl))))) (mg_name (by rfl) (sto_by (by rfl)))) (mss_cons (ms_for (by rfl) (mi_rng1 (gl_by (by rfl)) H.b_range (ma_cons (me_min (me_vr (by rfl) (vis_by (by rfl))) (me_int)) (ma_nil))) (mg_name (by rfl) (sto_by (by rfl))) (mss_cons (ms_par3c (by rfl) (by rfl) (by rfl) (by rfl) (sto_by (by rfl)) (sto_by (by rfl)) (sto_by (by rfl)) (ma_cons (me_vr (by rfl) (vis_by (by rfl))) (ma_cons (me_own (ml_dsp (ma_cons (me_non) (ma_nil)))) (ma_cons (me_own (ml_dsp (ma_cons (me_non) (ma_nil)))) (ma_nil)))) (by intro _ _; rfl) (by rfl)) (mss_one (ms_for (by rfl) (mi_rng2 (gl_by (by rfl)) H.b_range (ma_cons (me_int) (ma_cons (me_add (me_vr (by rfl) (vis_by (by rfl))) (me_int)) (ma_nil)))) (mg_name (by rfl) (sto_by (by rfl))) (mss_cons (ms_setLc (own := [("_law_size", 8)]) (i := 7) how_frz (by rfl) (by rfl) (by rfl) (by rfl) (by rfl) (by rfl) (mi_rng2 (gl_by (by rfl)) H.b_range (ma_cons (me_int) (ma_cons (me_vr (by rfl) (vis_by (by rfl))) (ma_nil)))) (by rfl) (mg_name (by rfl) (sto_by (by rfl))) (mts_one (mt_isnot (me_sub (me_vr (by rfl) (vis_by (by rfl))) (me_min (me_vr (by rfl) (vis_by (by rfl))) (me_vr (by rfl) (vis_by (by rfl))))) (me_non))) (me_vr (by rfl) (vis_by (by rfl))) (by rfl)) (mss_cons (ms_expr (me_app (me_vr (by rfl) (vis_by (by rfl))) (me_ite (mt_ne (me_vr (by rfl) (vis_by (by rfl))) (me_frz (ml_dsp (ma_nil)))) (me_maxc (by rfl) (gl_by (by rfl)) H.b_max (ma_cons (me_frz (ml_lc (own := [("_law_size", 8)]) (by rfl) (mi_seq (me_vr (by rfl) (vis_by (by rfl)))) (by rfl) (mg_name (by rfl) (sto_by (by rfl))) (mts_nil) (me_mul (me_add (me_vr (by rfl) (vis_by (by rfl))) (me_int)) (me_sub (me_vr (by rfl) (vis_by (by rfl))) (me_min (me_vr (by rfl) (vis_by (by rfl))) (me_vr (by rfl) (vis_by (by rfl)))))) (by rfl))) (ma_nil))) (me_non)))) (mss_one (ms_expr (me_app (me_vr (by rfl) (vis_by (by rfl))) (me_ite (mt_ne (me_vr (by rfl) (vis_by (by rfl))) (me_frz (ml_dsp (ma_nil)))) (me_maxc (by rfl) (gl_by (by rfl)) H.b_max (ma_cons (me_frz (ml_lc (own := [("_law_size", 8)]) (by rfl) (mi_seq (me_vr (by rfl) (vis_by (by rfl)))) (by rfl) (mg_name (by rfl) (sto_by (by rfl))) (mts_nil) (me_mul (me_vr (by rfl) (vis_by (by rfl))) (me_sub (me_vr (by rfl) (vis_by (by rfl))) (me_min (me_vr (by rfl) (vis_by (by rfl))) (me_vr (by rfl) (vis_by (by rfl)))))) (by rfl))) (ma_nil))) (me_non))))))))))) (mss_one (ms_ret (me_tup (ma_cons (me_sub (me_vr (by rfl) (vis_by (by rfl))) (me_vr (by rfl) (vis_by (by rfl)))) (ma_cons (me_sub (me_vr (by rfl) (vis_by (by rfl))) (me_vr (by rfl) (vis_by (by rfl)))) (ma_nil))))))))
theorem df_law_greatest {G : Gx} (H : Fx G) : Df G 1 27 (defArgs (top 27)) ["_law_orders", "_law_many"] F_law_greatest := df_of H.ex H.u_law_greatest (N := ["_law_orders", "_law_many", "_law_walks", "_law_rings", "_law_at", "_law_later", "_law_count_here", "_law_some", "_law_size"]) ⟨rfl, rfl, rfl, by decide +kernel, rfl, by decide +kernel, by decide +kernel⟩ (fun _ _ _ _ _ _ _ _ _ _ us hl => match us, hl with | [_, _], _ => rfl) (fun cdv _ _ => ms_law_greatest H)
def b_law_ends_right : St := seq (par [2, 3] (args [cl F_best_cut (args [vr 0, vr 1]), cl F_worst_cut (args [vr 0, vr 1])])) (seq (ifS (orT (notT (tst (cl F_law_is_cut (args [vr 2, vr 0, vr 1])))) (notT (tst (cl F_law_is_cut (args [vr 3, vr 0, vr 1]))))) (rt (cs (.bl false))) (skip)) (seq (ifS (orT (tst (b2 neD (cl F_law_reaches (args [vr 2])) (cl F_law_least (args [vr 0, vr 1])))) (tst (b2 neD (cl F_law_reaches (args [vr 3])) (cl F_law_greatest (args [vr 0, vr 1]))))) (rt (cs (.bl false))) (skip)) (rt (andV (b2 eqD (clK F_best_cut [1, 0] (args [vr 1, vr 0])) (vr 2)) (b2 eqD (clK F_worst_cut [1, 0] (args [vr 1, vr 0])) (vr 3))))))
def F_law_ends_right : Fn := fn 4 2 b_law_ends_right
theorem ms_law_ends_right {G : Gx} (H : Fx G) {cdv : Value} : MSs G (.dfn ["_law_orders", "_law_many", "_law_best", "_law_worst"] (defScope (top 29)) 5 false "_law_ends_right" cdv) (defBody (top 29)) b_law_ends_right := by
  exact mss_cons (ms_par2 (by rfl) (by rfl) (by rfl) (by decide) (by rfl) (by rfl) (ma_cons (me_cl (df_best_cut H) (by rfl) (Nat.le_of_ble_eq_true rfl) (gl_by (by rfl)) H.g_best_cut (ma_cons (me_vr (by rfl) (vis_by (by rfl))) (ma_cons (me_vr (by rfl) (vis_by (by rfl))) (ma_nil)))) (ma_cons (me_cl (df_worst_cut H) (by rfl) (Nat.le_of_ble_eq_true rfl) (gl_by (by rfl)) H.g_worst_cut (ma_cons (me_vr (by rfl) (vis_by (by rfl))) (ma_cons (me_vr (by rfl) (vis_by (by rfl))) (ma_nil)))) (ma_nil))) (by rfl)) (mss_cons (ms_if (mt_w (mw_or (mt_not (mt_val (me_cl (df_law_is_cut H) (by rfl) (Nat.le_of_ble_eq_true rfl) (gl_by (by rfl)) H.g_law_is_cut (ma_cons (me_vr (by rfl) (vis_by (by rfl))) (ma_cons (me_vr (by rfl) (vis_by (by rfl))) (ma_cons (me_vr (by rfl) (vis_by (by rfl))) (ma_nil))))))) (mw_or1 (mt_not (mt_val (me_cl (df_law_is_cut H) (by rfl) (Nat.le_of_ble_eq_true rfl) (gl_by (by rfl)) H.g_law_is_cut (ma_cons (me_vr (by rfl) (vis_by (by rfl))) (ma_cons (me_vr (by rfl) (vis_by (by rfl))) (ma_cons (me_vr (by rfl) (vis_by (by rfl))) (ma_nil)))))))))) (mss_one (ms_ret (me_bl))) (mss_nil)) (mss_cons (ms_if (mt_w (mw_or (mt_ne (me_cl (df_law_reaches H) (by rfl) (Nat.le_of_ble_eq_true rfl) (gl_by (by rfl)) H.g_law_reaches (ma_cons (me_vr (by rfl) (vis_by (by rfl))) (ma_nil))) (me_cl (df_law_least H) (by rfl) (Nat.le_of_ble_eq_true rfl) (gl_by (by rfl)) H.g_law_least (ma_cons (me_vr (by rfl) (vis_by (by rfl))) (ma_cons (me_vr (by rfl) (vis_by (by rfl))) (ma_nil))))) (mw_or1 (mt_ne (me_cl (df_law_reaches H) (by rfl) (Nat.le_of_ble_eq_true rfl) (gl_by (by rfl)) H.g_law_reaches (ma_cons (me_vr (by rfl) (vis_by (by rfl))) (ma_nil))) (me_cl (df_law_greatest H) (by rfl) (Nat.le_of_ble_eq_true rfl) (gl_by (by rfl)) H.g_law_greatest (ma_cons (me_vr (by rfl) (vis_by (by rfl))) (ma_cons (me_vr (by rfl) (vis_by (by rfl))) (ma_nil)))))))) (mss_one (ms_ret (me_bl))) (mss_nil)) (mss_one (ms_ret (me_and (me_eq (me_clK (js := [1, 0]) (ks := ["many", "orders"]) (df_best_cut H) (by rfl) (Nat.le_of_ble_eq_true rfl) (gl_by (by rfl)) H.g_best_cut (pks_cons (me_vr (by rfl) (vis_by (by rfl))) (pks_cons (me_vr (by rfl) (vis_by (by rfl))) (pks_nil))) (by intro _ _ _ _ _ _ _ _ _ _ ws us h; rcases ws with _ | ⟨w0, _ | ⟨w1, r⟩⟩ <;> simp only [reord, nth] at h <;> first | (cases h; rfl) | cases h)) (me_vr (by rfl) (vis_by (by rfl)))) (me_one (me_eq (me_clK (js := [1, 0]) (ks := ["many", "orders"]) (df_worst_cut H) (by rfl) (Nat.le_of_ble_eq_true rfl) (gl_by (by rfl)) H.g_worst_cut (pks_cons (me_vr (by rfl) (vis_by (by rfl))) (pks_cons (me_vr (by rfl) (vis_by (by rfl))) (pks_nil))) (by intro _ _ _ _ _ _ _ _ _ _ ws us h; rcases ws with _ | ⟨w0, _ | ⟨w1, r⟩⟩ <;> simp only [reord, nth] at h <;> first | (cases h; rfl) | cases h)) (me_vr (by rfl) (vis_by (by rfl))))))))))
theorem df_law_ends_right {G : Gx} (H : Fx G) : Df G 6 29 (defArgs (top 29)) ["_law_orders", "_law_many"] F_law_ends_right := df_of H.ex H.u_law_ends_right (N := ["_law_orders", "_law_many", "_law_best", "_law_worst"]) ⟨rfl, rfl, rfl, by decide +kernel, rfl, by decide +kernel, by decide +kernel⟩ (fun _ _ _ _ _ _ _ _ _ _ us hl => match us, hl with | [_, _], _ => rfl) (fun cdv _ _ => ms_law_ends_right H)
def b_law_small_right : St := seq (par [2, 3] (args [cl F_law_reaches (args [cl F_best_cut (args [vr 0, vr 1])]), cl F_law_reaches (args [cl F_worst_cut (args [vr 0, vr 1])])])) (seq (forS (itS (cl F_all_cuts (args [vr 0, vr 1]))) (tN 4) (seq (st (tT [tN 5, tN 6]) (cl F_law_reaches (args [vr 4]))) (seq (ifS (orT (tst (b2 ltD (vr 5) (sub (vr 2) (cs (.int 0))))) (orT (tst (b2 ltD (vr 6) (sub (vr 2) (cs (.int 1))))) (orT (tst (b2 gtD (vr 5) (sub (vr 3) (cs (.int 0))))) (tst (b2 gtD (vr 6) (sub (vr 3) (cs (.int 1)))))))) (rt (cs (.bl false))) (skip)) (forS (itR rng1 (args [b2 subD (vr 1) (cs (.int 1))])) (tN 7) (seq (st (tN 8) (cl F_law_reaches (args [b2 addD (b2 addD (sliT (vr 4) (none) (some (vr 7))) (tup (args [b2 addD (sub (vr 4) (vr 7)) (sub (vr 4) (b2 addD (vr 7) (cs (.int 1))))]))) (sliT (vr 4) (some (b2 addD (vr 7) (cs (.int 2)))) (none))]))) (ifS (orT (tst (b2 gtD (sub (vr 8) (cs (.int 0))) (vr 5))) (tst (b2 gtD (sub (vr 8) (cs (.int 1))) (vr 6)))) (rt (cs (.bl false))) (skip))))))) (rt (cs (.bl true))))
def F_law_small_right : Fn := fn 9 2 b_law_small_right
theorem ms_law_small_right {G : Gx} (H : Fx G) {cdv : Value} : MSs G (.dfn ["_law_orders", "_law_many", "_law_least_here", "_law_greatest_here", "_law_cut", "_law_walks", "_law_rings", "_law_at", "_law_joined"] (defScope (top 30)) 5 false "_law_small_right" cdv) (defBody (top 30)) b_law_small_right := by
  exact mss_cons (ms_par2 (by rfl) (by rfl) (by rfl) (by decide) (by rfl) (by rfl) (ma_cons (me_cl (df_law_reaches H) (by rfl) (Nat.le_of_ble_eq_true rfl) (gl_by (by rfl)) H.g_law_reaches (ma_cons (me_cl (df_best_cut H) (by rfl) (Nat.le_of_ble_eq_true rfl) (gl_by (by rfl)) H.g_best_cut (ma_cons (me_vr (by rfl) (vis_by (by rfl))) (ma_cons (me_vr (by rfl) (vis_by (by rfl))) (ma_nil)))) (ma_nil))) (ma_cons (me_cl (df_law_reaches H) (by rfl) (Nat.le_of_ble_eq_true rfl) (gl_by (by rfl)) H.g_law_reaches (ma_cons (me_cl (df_worst_cut H) (by rfl) (Nat.le_of_ble_eq_true rfl) (gl_by (by rfl)) H.g_worst_cut (ma_cons (me_vr (by rfl) (vis_by (by rfl))) (ma_cons (me_vr (by rfl) (vis_by (by rfl))) (ma_nil)))) (ma_nil))) (ma_nil))) (by rfl)) (mss_cons (ms_for (by rfl) (mi_seq (me_cl (df_all_cuts H) (by rfl) (Nat.le_of_ble_eq_true rfl) (gl_by (by rfl)) H.g_all_cuts (ma_cons (me_vr (by rfl) (vis_by (by rfl))) (ma_cons (me_vr (by rfl) (vis_by (by rfl))) (ma_nil))))) (mg_name (by rfl) (sto_by (by rfl))) (mss_cons (ms_st (me_cl (df_law_reaches H) (by rfl) (Nat.le_of_ble_eq_true rfl) (gl_by (by rfl)) H.g_law_reaches (ma_cons (me_vr (by rfl) (vis_by (by rfl))) (ma_nil))) (mg_tup (by rfl) (mgs_cons (mg_name (by rfl) (sto_by (by rfl))) (mgs_cons (mg_name (by rfl) (sto_by (by rfl))) (mgs_nil))))) (mss_cons (ms_if (mt_w (mw_or (mt_lt (me_vr (by rfl) (vis_by (by rfl))) (me_sub (me_vr (by rfl) (vis_by (by rfl))) (me_int))) (mw_or (mt_lt (me_vr (by rfl) (vis_by (by rfl))) (me_sub (me_vr (by rfl) (vis_by (by rfl))) (me_int))) (mw_or (mt_gt (me_vr (by rfl) (vis_by (by rfl))) (me_sub (me_vr (by rfl) (vis_by (by rfl))) (me_int))) (mw_or1 (mt_gt (me_vr (by rfl) (vis_by (by rfl))) (me_sub (me_vr (by rfl) (vis_by (by rfl))) (me_int)))))))) (mss_one (ms_ret (me_bl))) (mss_nil)) (mss_one (ms_for (by rfl) (mi_rng1 (gl_by (by rfl)) H.b_range (ma_cons (me_min (me_vr (by rfl) (vis_by (by rfl))) (me_int)) (ma_nil))) (mg_name (by rfl) (sto_by (by rfl))) (mss_cons (ms_st (me_cl (df_law_reaches H) (by rfl) (Nat.le_of_ble_eq_true rfl) (gl_by (by rfl)) H.g_law_reaches (ma_cons (me_add (me_add (me_slT (me_vr (by rfl) (vis_by (by rfl))) (mo_none) (mo_some (me_vr (by rfl) (vis_by (by rfl))))) (me_tup (ma_cons (me_add (me_sub (me_vr (by rfl) (vis_by (by rfl))) (me_vr (by rfl) (vis_by (by rfl)))) (me_sub (me_vr (by rfl) (vis_by (by rfl))) (me_add (me_vr (by rfl) (vis_by (by rfl))) (me_int)))) (ma_nil)))) (me_slT (me_vr (by rfl) (vis_by (by rfl))) (mo_some (me_add (me_vr (by rfl) (vis_by (by rfl))) (me_int))) (mo_none))) (ma_nil))) (mg_name (by rfl) (sto_by (by rfl)))) (mss_one (ms_if (mt_w (mw_or (mt_gt (me_sub (me_vr (by rfl) (vis_by (by rfl))) (me_int)) (me_vr (by rfl) (vis_by (by rfl)))) (mw_or1 (mt_gt (me_sub (me_vr (by rfl) (vis_by (by rfl))) (me_int)) (me_vr (by rfl) (vis_by (by rfl))))))) (mss_one (ms_ret (me_bl))) (mss_nil))))))))) (mss_one (ms_ret (me_bl))))
theorem df_law_small_right {G : Gx} (H : Fx G) : Df G 6 30 (defArgs (top 30)) ["_law_orders", "_law_many"] F_law_small_right := df_of H.ex H.u_law_small_right (N := ["_law_orders", "_law_many", "_law_least_here", "_law_greatest_here", "_law_cut", "_law_walks", "_law_rings", "_law_at", "_law_joined"]) ⟨rfl, rfl, rfl, by decide +kernel, rfl, by decide +kernel, by decide +kernel⟩ (fun _ _ _ _ _ _ _ _ _ _ us hl => match us, hl with | [_, _], _ => rfl) (fun cdv _ _ => ms_law_small_right H)
def b_law : St := seq (st (tN 1) (cl F_law_heap (args [vr 0]))) (seq (forS (itR rng1 (args [cs (.int 3)])) (tN 2) (seq (st (tN 3) (b2 addD (cs (.int 1)) (cl F_law_draw (args [vr 1, sub (frz (dsp (args [cs (.int 6), cs (.int 10), cs (.int 17)]))) (vr 2)])))) (seq (st (tN 4) (b2 addD (cs (.int 1)) (cl F_law_draw (args [vr 1, vr 3])))) (seq (ifS (orT (notT (tst (cl F_law_all_right (args [vr 3, vr 4])))) (notT (tst (cl F_law_ends_right (args [vr 3, vr 4]))))) (rt (cs (.bl false))) (skip)) (ifS (andT (tst (b2 eqD (vr 2) (cs (.int 0)))) (notT (tst (cl F_law_small_right (args [vr 3, vr 4]))))) (rt (cs (.bl false))) (skip)))))) (seq (forS (itS (frz (dsp (args [tup (args [cs (.int 60), cl F_law_pick (args [vr 1, frz (dsp (args [cs (.int 1), cs (.int 2), cs (.int 59), cs (.int 60)]))])]), tup (args [cs (.int 12), cl F_law_pick (args [vr 1, frz (dsp (args [cs (.int 4), cs (.int 5), cs (.int 6), cs (.int 7), cs (.int 8)]))])]), tup (args [cs (.int 33), cs (.int 3)]), tup (args [cs (.int 34), cs (.int 3)])])))) (tT [tN 3, tN 4]) (ifS (notT (tst (cl F_law_all_right (args [vr 3, vr 4])))) (rt (cs (.bl false))) (skip))) (seq (par [5, 6] (args [cl F_best_cut (args [cs (.int 60), cs (.int 31)]), cl F_worst_cut (args [cs (.int 60), cs (.int 31)])])) (seq (ifS (orT (notT (tst (cl F_law_is_cut (args [vr 5, cs (.int 60), cs (.int 31)])))) (notT (tst (cl F_law_is_cut (args [vr 6, cs (.int 60), cs (.int 31)]))))) (rt (cs (.bl false))) (skip)) (seq (ifS (orT (tst (b2 neD (cl F_law_reaches (args [vr 5])) (tup (args [b2 mulD (cs (.int 31)) (cs (.int 1073741824)), b2 mulD (cs (.int 31)) (cs (.int 536870912))])))) (orT (tst (b2 neD (cnt (vr 6) (cs (.int 2))) (cs (.int 29)))) (orT (tst (b2 neD (cnt (vr 6) (cs (.int 1))) (cs (.int 2)))) (tst (b2 neD (sub (vr 6) (cs (.int 0))) (cs (.int 2))))))) (rt (cs (.bl false))) (skip)) (seq (ifS (notT (tst (cl F_law_bad_right (args [b2 addD (cs (.int 1)) (cl F_law_draw (args [vr 1, cs (.int 60)])), cs (.int 1)])))) (rt (cs (.bl false))) (skip)) (rt (andV (b2 eqD (cl F_best_cut (args [cs (.int 5), cs (.int 2)])) (tup (args [cs (.int 1), cs (.int 4)]))) (andV (b2 eqD (cl F_worst_cut (args [cs (.int 5), cs (.int 2)])) (tup (args [cs (.int 3), cs (.int 2)]))) (b2 eqD (cl F_all_cuts (args [cs (.int 4), cs (.int 2)])) (tup (args [tup (args [cs (.int 1), cs (.int 3)]), tup (args [cs (.int 2), cs (.int 2)]), tup (args [cs (.int 3), cs (.int 1)])]))))))))))))
def F_law : Fn := fn 7 1 b_law
theorem ms_law {G : Gx} (H : Fx G) {cdv : Value} : MSs G (.dfn ["_law_script", "_law_heap_here", "_law_turn", "_law_orders", "_law_many", "_law_best", "_law_worst"] (defScope (top 32)) 8 false "law" cdv) (defBody (top 32)) b_law := by
  exact mss_cons (ms_st (me_cl (df_law_heap H) (by rfl) (Nat.le_of_ble_eq_true rfl) (gl_by (by rfl)) H.g_law_heap (ma_cons (me_vr (by rfl) (vis_by (by rfl))) (ma_nil))) (mg_name (by rfl) (sto_by (by rfl)))) (mss_cons (ms_for (by rfl) (mi_rng1 (gl_by (by rfl)) H.b_range (ma_cons (me_int) (ma_nil))) (mg_name (by rfl) (sto_by (by rfl))) (mss_cons (ms_st (me_add (me_int) (me_cl (df_law_draw H) (by rfl) (Nat.le_of_ble_eq_true rfl) (gl_by (by rfl)) H.g_law_draw (ma_cons (me_vr (by rfl) (vis_by (by rfl))) (ma_cons (me_sub (me_frz (ml_dsp (ma_cons (me_int) (ma_cons (me_int) (ma_cons (me_int) (ma_nil)))))) (me_vr (by rfl) (vis_by (by rfl)))) (ma_nil))))) (mg_name (by rfl) (sto_by (by rfl)))) (mss_cons (ms_st (me_add (me_int) (me_cl (df_law_draw H) (by rfl) (Nat.le_of_ble_eq_true rfl) (gl_by (by rfl)) H.g_law_draw (ma_cons (me_vr (by rfl) (vis_by (by rfl))) (ma_cons (me_vr (by rfl) (vis_by (by rfl))) (ma_nil))))) (mg_name (by rfl) (sto_by (by rfl)))) (mss_cons (ms_if (mt_w (mw_or (mt_not (mt_val (me_cl (df_law_all_right H) (by rfl) (Nat.le_of_ble_eq_true rfl) (gl_by (by rfl)) H.g_law_all_right (ma_cons (me_vr (by rfl) (vis_by (by rfl))) (ma_cons (me_vr (by rfl) (vis_by (by rfl))) (ma_nil)))))) (mw_or1 (mt_not (mt_val (me_cl (df_law_ends_right H) (by rfl) (Nat.le_of_ble_eq_true rfl) (gl_by (by rfl)) H.g_law_ends_right (ma_cons (me_vr (by rfl) (vis_by (by rfl))) (ma_cons (me_vr (by rfl) (vis_by (by rfl))) (ma_nil))))))))) (mss_one (ms_ret (me_bl))) (mss_nil)) (mss_one (ms_if (mt_w (mw_and (mt_eq (me_vr (by rfl) (vis_by (by rfl))) (me_int)) (mw_and1 (mt_not (mt_val (me_cl (df_law_small_right H) (by rfl) (Nat.le_of_ble_eq_true rfl) (gl_by (by rfl)) H.g_law_small_right (ma_cons (me_vr (by rfl) (vis_by (by rfl))) (ma_cons (me_vr (by rfl) (vis_by (by rfl))) (ma_nil))))))))) (mss_one (ms_ret (me_bl))) (mss_nil))))))) (mss_cons (ms_for (by rfl) (mi_seq (me_frz (ml_dsp (ma_cons (me_tup (ma_cons (me_int) (ma_cons (me_cl (df_law_pick H) (by rfl) (Nat.le_of_ble_eq_true rfl) (gl_by (by rfl)) H.g_law_pick (ma_cons (me_vr (by rfl) (vis_by (by rfl))) (ma_cons (me_frz (ml_dsp (ma_cons (me_int) (ma_cons (me_int) (ma_cons (me_int) (ma_cons (me_int) (ma_nil))))))) (ma_nil)))) (ma_nil)))) (ma_cons (me_tup (ma_cons (me_int) (ma_cons (me_cl (df_law_pick H) (by rfl) (Nat.le_of_ble_eq_true rfl) (gl_by (by rfl)) H.g_law_pick (ma_cons (me_vr (by rfl) (vis_by (by rfl))) (ma_cons (me_frz (ml_dsp (ma_cons (me_int) (ma_cons (me_int) (ma_cons (me_int) (ma_cons (me_int) (ma_cons (me_int) (ma_nil)))))))) (ma_nil)))) (ma_nil)))) (ma_cons (me_tup (ma_cons (me_int) (ma_cons (me_int) (ma_nil)))) (ma_cons (me_tup (ma_cons (me_int) (ma_cons (me_int) (ma_nil)))) (ma_nil)))))))) (mg_tup (by rfl) (mgs_cons (mg_name (by rfl) (sto_by (by rfl))) (mgs_cons (mg_name (by rfl) (sto_by (by rfl))) (mgs_nil)))) (mss_one (ms_if (mt_not (mt_val (me_cl (df_law_all_right H) (by rfl) (Nat.le_of_ble_eq_true rfl) (gl_by (by rfl)) H.g_law_all_right (ma_cons (me_vr (by rfl) (vis_by (by rfl))) (ma_cons (me_vr (by rfl) (vis_by (by rfl))) (ma_nil)))))) (mss_one (ms_ret (me_bl))) (mss_nil)))) (mss_cons (ms_par2 (by rfl) (by rfl) (by rfl) (by decide) (by rfl) (by rfl) (ma_cons (me_cl (df_best_cut H) (by rfl) (Nat.le_of_ble_eq_true rfl) (gl_by (by rfl)) H.g_best_cut (ma_cons (me_int) (ma_cons (me_int) (ma_nil)))) (ma_cons (me_cl (df_worst_cut H) (by rfl) (Nat.le_of_ble_eq_true rfl) (gl_by (by rfl)) H.g_worst_cut (ma_cons (me_int) (ma_cons (me_int) (ma_nil)))) (ma_nil))) (by rfl)) (mss_cons (ms_if (mt_w (mw_or (mt_not (mt_val (me_cl (df_law_is_cut H) (by rfl) (Nat.le_of_ble_eq_true rfl) (gl_by (by rfl)) H.g_law_is_cut (ma_cons (me_vr (by rfl) (vis_by (by rfl))) (ma_cons (me_int) (ma_cons (me_int) (ma_nil))))))) (mw_or1 (mt_not (mt_val (me_cl (df_law_is_cut H) (by rfl) (Nat.le_of_ble_eq_true rfl) (gl_by (by rfl)) H.g_law_is_cut (ma_cons (me_vr (by rfl) (vis_by (by rfl))) (ma_cons (me_int) (ma_cons (me_int) (ma_nil)))))))))) (mss_one (ms_ret (me_bl))) (mss_nil)) (mss_cons (ms_if (mt_w (mw_or (mt_ne (me_cl (df_law_reaches H) (by rfl) (Nat.le_of_ble_eq_true rfl) (gl_by (by rfl)) H.g_law_reaches (ma_cons (me_vr (by rfl) (vis_by (by rfl))) (ma_nil))) (me_tup (ma_cons (me_mul (me_int) (me_int)) (ma_cons (me_mul (me_int) (me_int)) (ma_nil))))) (mw_or (mt_ne (me_cnt (me_vr (by rfl) (vis_by (by rfl))) (me_int)) (me_int)) (mw_or (mt_ne (me_cnt (me_vr (by rfl) (vis_by (by rfl))) (me_int)) (me_int)) (mw_or1 (mt_ne (me_sub (me_vr (by rfl) (vis_by (by rfl))) (me_int)) (me_int))))))) (mss_one (ms_ret (me_bl))) (mss_nil)) (mss_cons (ms_if (mt_not (mt_val (me_cl (df_law_bad_right H) (by rfl) (Nat.le_of_ble_eq_true rfl) (gl_by (by rfl)) H.g_law_bad_right (ma_cons (me_add (me_int) (me_cl (df_law_draw H) (by rfl) (Nat.le_of_ble_eq_true rfl) (gl_by (by rfl)) H.g_law_draw (ma_cons (me_vr (by rfl) (vis_by (by rfl))) (ma_cons (me_int) (ma_nil))))) (ma_cons (me_int) (ma_nil)))))) (mss_one (ms_ret (me_bl))) (mss_nil)) (mss_one (ms_ret (me_and (me_eq (me_cl (df_best_cut H) (by rfl) (Nat.le_of_ble_eq_true rfl) (gl_by (by rfl)) H.g_best_cut (ma_cons (me_int) (ma_cons (me_int) (ma_nil)))) (me_tup (ma_cons (me_int) (ma_cons (me_int) (ma_nil))))) (me_and (me_eq (me_cl (df_worst_cut H) (by rfl) (Nat.le_of_ble_eq_true rfl) (gl_by (by rfl)) H.g_worst_cut (ma_cons (me_int) (ma_cons (me_int) (ma_nil)))) (me_tup (ma_cons (me_int) (ma_cons (me_int) (ma_nil))))) (me_one (me_eq (me_cl (df_all_cuts H) (by rfl) (Nat.le_of_ble_eq_true rfl) (gl_by (by rfl)) H.g_all_cuts (ma_cons (me_int) (ma_cons (me_int) (ma_nil)))) (me_tup (ma_cons (me_tup (ma_cons (me_int) (ma_cons (me_int) (ma_nil)))) (ma_cons (me_tup (ma_cons (me_int) (ma_cons (me_int) (ma_nil)))) (ma_cons (me_tup (ma_cons (me_int) (ma_cons (me_int) (ma_nil)))) (ma_nil)))))))))))))))))
theorem df_law {G : Gx} (H : Fx G) : Df G 9 32 (defArgs (top 32)) ["_law_script"] F_law := df_of H.ex H.u_law (N := ["_law_script", "_law_heap_here", "_law_turn", "_law_orders", "_law_many", "_law_best", "_law_worst"]) ⟨rfl, rfl, rfl, by decide +kernel, rfl, by decide +kernel, by decide +kernel⟩ (fun _ _ _ _ _ _ _ _ _ _ us hl => match us, hl with | [_], _ => rfl) (fun cdv _ _ => ms_law H)
end Mn
set_option Elab.async false
set_option linter.all false
set_option maxRecDepth 100000
set_option maxHeartbeats 0
namespace Mn
open PySem PySem.Spec PyProof.Rows L2 LamX He
def nm (n : Nat) : Str := match n with
  | 17 => "_law_heap"
  | 5 => "is_integer"
  | 6 => "is_number"
  | 7 => "need_number"
  | 11 => "check_cut"
  | 14 => "best_cut"
  | 15 => "worst_cut"
  | 12 => "count_cuts"
  | 13 => "all_cuts"
  | 22 => "_law_told"
  | 31 => "_law_bad_right"
  | 18 => "_law_draw"
  | 19 => "_law_pick"
  | 24 => "_law_count"
  | 23 => "_law_cuts"
  | 28 => "_law_all_right"
  | 25 => "_law_is_cut"
  | 21 => "_law_reaches"
  | 26 => "_law_least"
  | 27 => "_law_greatest"
  | 29 => "_law_ends_right"
  | 30 => "_law_small_right"
  | 32 => "law"
  | 2 => "InvalidNumber"
  | 3 => "Refused"
  | _ => "law"
def flT (n : Nat) : List Str := match n with
  | 2 => ["word"]
  | 3 => ["word"]
  | _ => []
def tfH : List Defn := [("_law_bad_right", none), ("_law_all_right", none)]
def inSt (st : Stmt) : Stmt := match st with | .ClassDef _ _ _ body _ _ _ _ _ _ _ => body.getD 0 (.Pass ⟨0, 0, 0, 0⟩) | _ => .Pass ⟨0, 0, 0, 0⟩
def iD_InvalidNumber : InD := ⟨"InvalidNumber", "__init__", "InvalidNumber.__init__", defArgs (inSt (top 2)), defBody (inSt (top 2)), defScope (inSt (top 2)), "word"⟩
def iD_Refused : InD := ⟨"Refused", "__init__", "Refused.__init__", defArgs (inSt (top 3)), defBody (inSt (top 3)), defScope (inSt (top 3)), "word"⟩
def insH : List InD := [iD_InvalidNumber, iD_Refused]
def dD_law_heap : DefD := ⟨("_law_heap", none), "_law_heap", "_law_heap", defArgs (top 17), defBody (top 17), defScope (top 17), [], []⟩
def dD_is_integer : DefD := ⟨("is_integer", none), "is_integer", "is_integer", defArgs (top 5), defBody (top 5), defScope (top 5), [], []⟩
def dD_is_number : DefD := ⟨("is_number", none), "is_number", "is_number", defArgs (top 6), defBody (top 6), defScope (top 6), [], []⟩
def dD_need_number : DefD := ⟨("need_number", none), "need_number", "need_number", defArgs (top 7), defBody (top 7), defScope (top 7), [], []⟩
def dD_check_cut : DefD := ⟨("check_cut", none), "check_cut", "check_cut", defArgs (top 11), defBody (top 11), defScope (top 11), [], []⟩
def dD_best_cut : DefD := ⟨("best_cut", none), "best_cut", "best_cut", defArgs (top 14), defBody (top 14), defScope (top 14), [], []⟩
def dD_worst_cut : DefD := ⟨("worst_cut", none), "worst_cut", "worst_cut", defArgs (top 15), defBody (top 15), defScope (top 15), [], []⟩
def dD_count_cuts : DefD := ⟨("count_cuts", none), "count_cuts", "count_cuts", defArgs (top 12), defBody (top 12), defScope (top 12), [], []⟩
def dD_all_cuts : DefD := ⟨("all_cuts", none), "all_cuts", "all_cuts", defArgs (top 13), defBody (top 13), defScope (top 13), [], []⟩
def dD_law_told : DefD := ⟨("_law_told", none), "_law_told", "_law_told", defArgs (top 22), defBody (top 22), defScope (top 22), [], []⟩
def dD_law_bad_right : DefD := ⟨("_law_bad_right", none), "_law_bad_right", "_law_bad_right", defArgs (top 31), defBody (top 31), defScope (top 31), [], []⟩
def dD_law_draw : DefD := ⟨("_law_draw", none), "_law_draw", "_law_draw", defArgs (top 18), defBody (top 18), defScope (top 18), [], []⟩
def dD_law_pick : DefD := ⟨("_law_pick", none), "_law_pick", "_law_pick", defArgs (top 19), defBody (top 19), defScope (top 19), [], []⟩
def dD_law_count : DefD := ⟨("_law_count", none), "_law_count", "_law_count", defArgs (top 24), defBody (top 24), defScope (top 24), [], []⟩
def dD_law_cuts : DefD := ⟨("_law_cuts", none), "_law_cuts", "_law_cuts", defArgs (top 23), defBody (top 23), defScope (top 23), [], []⟩
def dD_law_all_right : DefD := ⟨("_law_all_right", none), "_law_all_right", "_law_all_right", defArgs (top 28), defBody (top 28), defScope (top 28), [], []⟩
def dD_law_is_cut : DefD := ⟨("_law_is_cut", none), "_law_is_cut", "_law_is_cut", defArgs (top 25), defBody (top 25), defScope (top 25), [], []⟩
def dD_law_reaches : DefD := ⟨("_law_reaches", none), "_law_reaches", "_law_reaches", defArgs (top 21), defBody (top 21), defScope (top 21), [], []⟩
def dD_law_least : DefD := ⟨("_law_least", none), "_law_least", "_law_least", defArgs (top 26), defBody (top 26), defScope (top 26), [], []⟩
def dD_law_greatest : DefD := ⟨("_law_greatest", none), "_law_greatest", "_law_greatest", defArgs (top 27), defBody (top 27), defScope (top 27), [], []⟩
def dD_law_ends_right : DefD := ⟨("_law_ends_right", none), "_law_ends_right", "_law_ends_right", defArgs (top 29), defBody (top 29), defScope (top 29), [], []⟩
def dD_law_small_right : DefD := ⟨("_law_small_right", none), "_law_small_right", "_law_small_right", defArgs (top 30), defBody (top 30), defScope (top 30), [], []⟩
def dD_law : DefD := ⟨("law", none), "law", "law", defArgs (top 32), defBody (top 32), defScope (top 32), [], []⟩
def fnH : List DefD := [dD_law_heap, dD_is_integer, dD_is_number, dD_need_number, dD_check_cut, dD_best_cut, dD_worst_cut, dD_count_cuts, dD_all_cuts, dD_law_told, dD_law_bad_right, dD_law_draw, dD_law_pick, dD_law_count, dD_law_cuts, dD_law_all_right, dD_law_is_cut, dD_law_reaches, dD_law_least, dD_law_greatest, dD_law_ends_right, dD_law_small_right, dD_law]
def faH : List Fa := [.glo "_law_heap", .glo "is_integer", .glo "is_number", .glo "need_number", .glo "check_cut", .glo "best_cut", .glo "worst_cut", .glo "count_cuts", .glo "all_cuts", .glo "_law_told", .glo "_law_bad_right", .glo "_law_draw", .glo "_law_pick", .glo "_law_count", .glo "_law_cuts", .glo "_law_all_right", .glo "_law_is_cut", .glo "_law_reaches", .glo "_law_least", .glo "_law_greatest", .glo "_law_ends_right", .glo "_law_small_right", .glo "law", .glo "InvalidNumber", .glo "Refused", .int "MOST_BATCHES" 60, .int "MOST_CUTS" 500, .free "abs", .free "bool", .free "divmod", .free "int", .free "isinstance", .free "len", .free "max", .free "min", .free "range", .free "repr", .free "sum", .free "super", .free "tuple", .exm "InvalidNumber" "InvalidNumber" true, .exm "InvalidNumber" "Refused" false, .exm "Refused" "InvalidNumber" false, .exm "Refused" "Refused" true]
def exH (K : PySem.W.Frag) : Bool := errB K PySem.Challenge.pw_saidatonce_k43_whole_best_and_worst_cuts.main.file "InvalidNumber" "InvalidNumber.__init__" "word" && (errB K PySem.Challenge.pw_saidatonce_k43_whole_best_and_worst_cuts.main.file "Refused" "Refused.__init__" "word" && (decide (PySem.W.kitOne K (.ref (ga K "InvalidNumber")) (.ref (ga K "InvalidNumber")) = some true) && (decide (PySem.W.kitOne K (.ref (ga K "InvalidNumber")) (.ref (ga K "Refused")) = some false) && (decide (PySem.W.kitOne K (.ref (ga K "Refused")) (.ref (ga K "InvalidNumber")) = some false) && (decide (PySem.W.kitOne K (.ref (ga K "Refused")) (.ref (ga K "Refused")) = some true) && (decide ((tfH.map fun p => (cT K p).2).Nodup)))))))
abbrev RH : PySem.W.OpenRow := PySem.W.OpenLaw.row PySem.Challenge.rw_saidatonce_k43_whole_best_and_worst_cuts
abbrev hkH : PySem.W.Hook := hookY 4 faH fnH tfH exH insH
def obH (s : PySem.W.SharedT) : AlY := obsY 4 faH fnH tfH exH insH (HandSHeadRun.getT s)
theorem obH_eq (s : PySem.W.SharedT) : obH s = hkH.obs s.abs := obsY_eq (HandSHeadRun.getT_eq s)
def looseH0 : List Str := ["HourError", "InvalidNumber", "Refused", "is_integer", "is_number", "need_number", "MOST_BATCHES", "MOST_CUTS", "check_cut", "count_cuts", "all_cuts", "best_cut", "worst_cut", "_law_heap", "_law_draw", "_law_pick", "_law_mixed", "_law_reaches", "_law_told", "_law_cuts", "_law_count", "_law_is_cut", "_law_least", "_law_greatest", "_law_all_right", "_law_ends_right", "_law_small_right", "_law_bad_right"]
def looseH : List Str := looseH0
theorem runH (w : World) : HandSHeadRun.RunEq RH (PySem.W.view RH.prog [32]) hkH obH 6000 looseH w := by
  intro os
  kernel_rfl
theorem er_InvalidNumber {K : PySem.W.Frag} (hB : errB K PySem.Challenge.pw_saidatonce_k43_whole_best_and_worst_cuts.main.file "InvalidNumber" "InvalidNumber.__init__" "word" = true) (hW : inW K "InvalidNumber" = iD_InvalidNumber.val) : ErrOk K (ga K "InvalidNumber") (iniA K "InvalidNumber") "word" ∧ Mkr K PySem.Challenge.pw_saidatonce_k43_whole_best_and_worst_cuts (ga K "InvalidNumber") (iniA K "InvalidNumber") "word" :=
  mkr_of (d := iD_InvalidNumber) hB hW rfl rfl rfl rfl ⟨rfl, rfl, rfl, rfl, by decide, by decide, by decide, by decide, by decide, by decide, by decide, by decide, by decide⟩ (fun _ => rfl) (fun _ => rfl) (fun _ _ _ _ _ _ _ _ _ => rfl)
theorem er_Refused {K : PySem.W.Frag} (hB : errB K PySem.Challenge.pw_saidatonce_k43_whole_best_and_worst_cuts.main.file "Refused" "Refused.__init__" "word" = true) (hW : inW K "Refused" = iD_Refused.val) : ErrOk K (ga K "Refused") (iniA K "Refused") "word" ∧ Mkr K PySem.Challenge.pw_saidatonce_k43_whole_best_and_worst_cuts (ga K "Refused") (iniA K "Refused") "word" :=
  mkr_of (d := iD_Refused) hB hW rfl rfl rfl rfl ⟨rfl, rfl, rfl, rfl, by decide, by decide, by decide, by decide, by decide, by decide, by decide, by decide, by decide⟩ (fun _ => rfl) (fun _ => rfl) (fun _ _ _ _ _ _ _ _ _ => rfl)
abbrev GH (P : Program) (w : World) (K : PySem.W.Frag) (mg : Str → Option Value) (base : Heap) : Gx := { P := P, w := w, K := K, mg := mg, base := base, T := tfH.map (tW K), cn := fun n => ga K (nm n), fl := flT }
theorem fxH {w : World} {K : PySem.W.Frag} {h h0 base : Heap} {mg : Str → Option Value} (X : K.In h) (N : h.Ns mainGlobals mg) (c : SaysY faH fnH tfH exH insH w h0 K) (hT : ∀ p ∈ tfH.map (cT K), TabB base mg p.1 p.2) : Fx (GH PySem.Challenge.pw_saidatonce_k43_whole_best_and_worst_cuts w K mg base) := by
  have d := c.x.t.d
  have m0 : (errB K PySem.Challenge.pw_saidatonce_k43_whole_best_and_worst_cuts.main.file "InvalidNumber" "InvalidNumber.__init__" "word" && (errB K PySem.Challenge.pw_saidatonce_k43_whole_best_and_worst_cuts.main.file "Refused" "Refused.__init__" "word" && (decide (PySem.W.kitOne K (.ref (ga K "InvalidNumber")) (.ref (ga K "InvalidNumber")) = some true) && (decide (PySem.W.kitOne K (.ref (ga K "InvalidNumber")) (.ref (ga K "Refused")) = some false) && (decide (PySem.W.kitOne K (.ref (ga K "Refused")) (.ref (ga K "InvalidNumber")) = some false) && (decide (PySem.W.kitOne K (.ref (ga K "Refused")) (.ref (ga K "Refused")) = some true) && (decide ((tfH.map fun p => (cT K p).2).Nodup)))))))) = true := c.x.more
  obtain ⟨x0, m1⟩ := ba m0
  obtain ⟨x1, m2⟩ := ba m1
  obtain ⟨x2, m3⟩ := ba m2
  obtain ⟨x3, m4⟩ := ba m3
  obtain ⟨x4, m5⟩ := ba m4
  obtain ⟨x5, m6⟩ := ba m5
  have x6 := m6
  have i0 : inW K "InvalidNumber" = iD_InvalidNumber.val := Option.some.inj (congrArg (fun l : List InW => l[0]?) c.i)
  obtain ⟨e0, r0⟩ := er_InvalidNumber x0 i0
  have i1 : inW K "Refused" = iD_Refused.val := Option.some.inj (congrArg (fun l : List InW => l[1]?) c.i)
  obtain ⟨e1, r1⟩ := er_Refused x1 i1
  have u0 : ∃ fd, FunD K "_law_heap" "_law_heap" (defArgs (top 17)) (defBody (top 17)) (defScope (top 17)) [] [] (ga K "_law_heap") fd := d.def_ 0 (d := dD_law_heap) rfl
  have u1 : ∃ fd, FunD K "is_integer" "is_integer" (defArgs (top 5)) (defBody (top 5)) (defScope (top 5)) [] [] (ga K "is_integer") fd := d.def_ 1 (d := dD_is_integer) rfl
  have u2 : ∃ fd, FunD K "is_number" "is_number" (defArgs (top 6)) (defBody (top 6)) (defScope (top 6)) [] [] (ga K "is_number") fd := d.def_ 2 (d := dD_is_number) rfl
  have u3 : ∃ fd, FunD K "need_number" "need_number" (defArgs (top 7)) (defBody (top 7)) (defScope (top 7)) [] [] (ga K "need_number") fd := d.def_ 3 (d := dD_need_number) rfl
  have u4 : ∃ fd, FunD K "check_cut" "check_cut" (defArgs (top 11)) (defBody (top 11)) (defScope (top 11)) [] [] (ga K "check_cut") fd := d.def_ 4 (d := dD_check_cut) rfl
  have u5 : ∃ fd, FunD K "best_cut" "best_cut" (defArgs (top 14)) (defBody (top 14)) (defScope (top 14)) [] [] (ga K "best_cut") fd := d.def_ 5 (d := dD_best_cut) rfl
  have u6 : ∃ fd, FunD K "worst_cut" "worst_cut" (defArgs (top 15)) (defBody (top 15)) (defScope (top 15)) [] [] (ga K "worst_cut") fd := d.def_ 6 (d := dD_worst_cut) rfl
  have u7 : ∃ fd, FunD K "count_cuts" "count_cuts" (defArgs (top 12)) (defBody (top 12)) (defScope (top 12)) [] [] (ga K "count_cuts") fd := d.def_ 7 (d := dD_count_cuts) rfl
  have u8 : ∃ fd, FunD K "all_cuts" "all_cuts" (defArgs (top 13)) (defBody (top 13)) (defScope (top 13)) [] [] (ga K "all_cuts") fd := d.def_ 8 (d := dD_all_cuts) rfl
  have u9 : ∃ fd, FunD K "_law_told" "_law_told" (defArgs (top 22)) (defBody (top 22)) (defScope (top 22)) [] [] (ga K "_law_told") fd := d.def_ 9 (d := dD_law_told) rfl
  have u10 : ∃ fd, FunD K "_law_bad_right" "_law_bad_right" (defArgs (top 31)) (defBody (top 31)) (defScope (top 31)) [] [] (ga K "_law_bad_right") fd := d.def_ 10 (d := dD_law_bad_right) rfl
  have u11 : ∃ fd, FunD K "_law_draw" "_law_draw" (defArgs (top 18)) (defBody (top 18)) (defScope (top 18)) [] [] (ga K "_law_draw") fd := d.def_ 11 (d := dD_law_draw) rfl
  have u12 : ∃ fd, FunD K "_law_pick" "_law_pick" (defArgs (top 19)) (defBody (top 19)) (defScope (top 19)) [] [] (ga K "_law_pick") fd := d.def_ 12 (d := dD_law_pick) rfl
  have u13 : ∃ fd, FunD K "_law_count" "_law_count" (defArgs (top 24)) (defBody (top 24)) (defScope (top 24)) [] [] (ga K "_law_count") fd := d.def_ 13 (d := dD_law_count) rfl
  have u14 : ∃ fd, FunD K "_law_cuts" "_law_cuts" (defArgs (top 23)) (defBody (top 23)) (defScope (top 23)) [] [] (ga K "_law_cuts") fd := d.def_ 14 (d := dD_law_cuts) rfl
  have u15 : ∃ fd, FunD K "_law_all_right" "_law_all_right" (defArgs (top 28)) (defBody (top 28)) (defScope (top 28)) [] [] (ga K "_law_all_right") fd := d.def_ 15 (d := dD_law_all_right) rfl
  have u16 : ∃ fd, FunD K "_law_is_cut" "_law_is_cut" (defArgs (top 25)) (defBody (top 25)) (defScope (top 25)) [] [] (ga K "_law_is_cut") fd := d.def_ 16 (d := dD_law_is_cut) rfl
  have u17 : ∃ fd, FunD K "_law_reaches" "_law_reaches" (defArgs (top 21)) (defBody (top 21)) (defScope (top 21)) [] [] (ga K "_law_reaches") fd := d.def_ 17 (d := dD_law_reaches) rfl
  have u18 : ∃ fd, FunD K "_law_least" "_law_least" (defArgs (top 26)) (defBody (top 26)) (defScope (top 26)) [] [] (ga K "_law_least") fd := d.def_ 18 (d := dD_law_least) rfl
  have u19 : ∃ fd, FunD K "_law_greatest" "_law_greatest" (defArgs (top 27)) (defBody (top 27)) (defScope (top 27)) [] [] (ga K "_law_greatest") fd := d.def_ 19 (d := dD_law_greatest) rfl
  have u20 : ∃ fd, FunD K "_law_ends_right" "_law_ends_right" (defArgs (top 29)) (defBody (top 29)) (defScope (top 29)) [] [] (ga K "_law_ends_right") fd := d.def_ 20 (d := dD_law_ends_right) rfl
  have u21 : ∃ fd, FunD K "_law_small_right" "_law_small_right" (defArgs (top 30)) (defBody (top 30)) (defScope (top 30)) [] [] (ga K "_law_small_right") fd := d.def_ 21 (d := dD_law_small_right) rfl
  have u22 : ∃ fd, FunD K "law" "law" (defArgs (top 32)) (defBody (top 32)) (defScope (top 32)) [] [] (ga K "law") fd := d.def_ 22 (d := dD_law) rfl
  have hn : (tfH.map fun p => (cT K p).2).Nodup := of_decide_eq_true x6
  exact {
    ex := rfl
    th := rfl
    g_law_heap := glo_ok X N (d.fact 0 (f := .glo "_law_heap") rfl)
    g_is_integer := glo_ok X N (d.fact 1 (f := .glo "is_integer") rfl)
    g_is_number := glo_ok X N (d.fact 2 (f := .glo "is_number") rfl)
    g_need_number := glo_ok X N (d.fact 3 (f := .glo "need_number") rfl)
    g_check_cut := glo_ok X N (d.fact 4 (f := .glo "check_cut") rfl)
    g_best_cut := glo_ok X N (d.fact 5 (f := .glo "best_cut") rfl)
    g_worst_cut := glo_ok X N (d.fact 6 (f := .glo "worst_cut") rfl)
    g_count_cuts := glo_ok X N (d.fact 7 (f := .glo "count_cuts") rfl)
    g_all_cuts := glo_ok X N (d.fact 8 (f := .glo "all_cuts") rfl)
    g_law_told := glo_ok X N (d.fact 9 (f := .glo "_law_told") rfl)
    g_law_bad_right := glo_ok X N (d.fact 10 (f := .glo "_law_bad_right") rfl)
    g_law_draw := glo_ok X N (d.fact 11 (f := .glo "_law_draw") rfl)
    g_law_pick := glo_ok X N (d.fact 12 (f := .glo "_law_pick") rfl)
    g_law_count := glo_ok X N (d.fact 13 (f := .glo "_law_count") rfl)
    g_law_cuts := glo_ok X N (d.fact 14 (f := .glo "_law_cuts") rfl)
    g_law_all_right := glo_ok X N (d.fact 15 (f := .glo "_law_all_right") rfl)
    g_law_is_cut := glo_ok X N (d.fact 16 (f := .glo "_law_is_cut") rfl)
    g_law_reaches := glo_ok X N (d.fact 17 (f := .glo "_law_reaches") rfl)
    g_law_least := glo_ok X N (d.fact 18 (f := .glo "_law_least") rfl)
    g_law_greatest := glo_ok X N (d.fact 19 (f := .glo "_law_greatest") rfl)
    g_law_ends_right := glo_ok X N (d.fact 20 (f := .glo "_law_ends_right") rfl)
    g_law_small_right := glo_ok X N (d.fact 21 (f := .glo "_law_small_right") rfl)
    g_law := glo_ok X N (d.fact 22 (f := .glo "law") rfl)
    g_InvalidNumber := glo_ok X N (d.fact 23 (f := .glo "InvalidNumber") rfl)
    g_Refused := glo_ok X N (d.fact 24 (f := .glo "Refused") rfl)
    i_MOST_BATCHES := int_ok X N (d.fact 25 (f := .int "MOST_BATCHES" 60) rfl)
    i_MOST_CUTS := int_ok X N (d.fact 26 (f := .int "MOST_CUTS" 500) rfl)
    b_abs := free_ok X N (d.fact 27 (f := .free "abs") rfl)
    b_bool := free_ok X N (d.fact 28 (f := .free "bool") rfl)
    b_divmod := free_ok X N (d.fact 29 (f := .free "divmod") rfl)
    b_int := free_ok X N (d.fact 30 (f := .free "int") rfl)
    b_isinstance := free_ok X N (d.fact 31 (f := .free "isinstance") rfl)
    b_len := free_ok X N (d.fact 32 (f := .free "len") rfl)
    b_max := free_ok X N (d.fact 33 (f := .free "max") rfl)
    b_min := free_ok X N (d.fact 34 (f := .free "min") rfl)
    b_range := free_ok X N (d.fact 35 (f := .free "range") rfl)
    b_repr := free_ok X N (d.fact 36 (f := .free "repr") rfl)
    b_sum := free_ok X N (d.fact 37 (f := .free "sum") rfl)
    b_super := free_ok X N (d.fact 38 (f := .free "super") rfl)
    b_tuple := free_ok X N (d.fact 39 (f := .free "tuple") rfl)
    em_InvalidNumber_InvalidNumber := exm_ok (d.fact 40 (f := .exm "InvalidNumber" "InvalidNumber" true) rfl)
    em_InvalidNumber_Refused := exm_ok (d.fact 41 (f := .exm "InvalidNumber" "Refused" false) rfl)
    em_Refused_InvalidNumber := exm_ok (d.fact 42 (f := .exm "Refused" "InvalidNumber" false) rfl)
    em_Refused_Refused := exm_ok (d.fact 43 (f := .exm "Refused" "Refused" true) rfl)
    u_law_heap := u0
    u_is_integer := u1
    u_is_number := u2
    u_need_number := u3
    u_check_cut := u4
    u_best_cut := u5
    u_worst_cut := u6
    u_count_cuts := u7
    u_all_cuts := u8
    u_law_told := u9
    u_law_bad_right := u10
    u_law_draw := u11
    u_law_pick := u12
    u_law_count := u13
    u_law_cuts := u14
    u_law_all_right := u15
    u_law_is_cut := u16
    u_law_reaches := u17
    u_law_least := u18
    u_law_greatest := u19
    u_law_ends_right := u20
    u_law_small_right := u21
    u_law := u22
    fl_InvalidNumber := rfl
    mk_InvalidNumber := ⟨_, r0⟩
    xf_InvalidNumber := e0.xf
    xc_InvalidNumber := e0.xc
    nf_InvalidNumber := e0.hno
    fl_Refused := rfl
    mk_Refused := ⟨_, r1⟩
    xf_Refused := e1.xf
    xc_Refused := e1.xc
    nf_Refused := e1.hno
    ki_InvalidNumber_InvalidNumber := of_decide_eq_true x2
    ki_InvalidNumber_Refused := of_decide_eq_true x3
    ki_Refused_InvalidNumber := of_decide_eq_true x4
    ki_Refused_Refused := of_decide_eq_true x5
    t_law_bad_right := fun cdv hc => t_of (x := "_law_bad_right") hn (by decide) rfl u10 hT cdv hc
    t_law_all_right := fun cdv hc => t_of (x := "_law_all_right") hn (by decide) rfl u15 hT cdv hc
  }
end Mn
set_option Elab.async false
set_option linter.all false
set_option maxRecDepth 100000
set_option maxHeartbeats 0
namespace Mn
open PySem PySem.Spec PyProof.Rows L2 LamX He
theorem fg_law {G : Gx} (H : Fx G) {fd : FuncData} (U : FunD G.K "law" "law" (defArgs (top 32)) (defBody (top 32)) (defScope (top 32)) [] [] (G.cn 32) fd) : FnG G 9 (G.cn 32) fd ["_law_script"] (spF G 1 F_law) :=
  fg_of H.ex U (N := ["_law_script", "_law_heap_here", "_law_turn", "_law_orders", "_law_many", "_law_best", "_law_worst"]) ⟨rfl, rfl, rfl, by decide +kernel, rfl, by decide +kernel, by decide +kernel⟩ (fun cdv _ _ => ms_law H)
theorem lawH (hF : ∀ ns : List Int, ns.length ≤ 63 → (∀ z ∈ ns, Builtin.Int.intBits z ≤ 1048576) → ∃ g, F_law [.d (.lst (ns.map D.int))] [] = .ok (.d (.bl true)) g) {w : World} {mg : Str → Option Value} {f : Addr} {h : Heap} (Y : hkH.says w h) (N : h.Ns mainGlobals mg) (hf : mg "law" = some (.ref f)) :
    ∃ K : PySem.W.Frag, K.In h ∧ LawG PySem.Challenge.rw_saidatonce_k43_whole_best_and_worst_cuts w K 9 63 "_law_script" mg f h := by
  obtain ⟨K, X, c⟩ := Y
  obtain ⟨fd, U⟩ := c.x.t.d.def_ 22 (d := dD_law) rfl
  have e := hf.symm.trans (He.glo_ok X N (c.x.t.d.fact 22 (f := .glo "law") rfl))
  cases e
  have b := FunD.bindsA (ps := ["_law_script"]) U fun _ _ _ _ _ _ us hl => match us, hl with | [_], _ => rfl
  refine ⟨K, X, fd, tfH.map (cT K), tfH.map (tW K), fun n => ga K (nm n), flT, F_law, fun p hp => ?_, fun p hp => ?_, fun p hp => ?_, fun s u => b s [u] rfl, fun p hp => ?_, hF, fun base X1 N1 hT => ?_⟩
  · obtain ⟨p', hp', rfl⟩ := List.mem_map.mp hp; exact c.x.empty p' hp'
  · obtain ⟨p', hp', rfl⟩ := List.mem_map.mp hp; exact c.x.out p' hp'
  · obtain ⟨p', hp', rfl⟩ := List.mem_map.mp hp; exact PySem.W.codeHd_of_K X (c.x.hd p' hp')
  · obtain ⟨p', hp', rfl⟩ := List.mem_map.mp hp; exact ⟨_, List.mem_map.mpr ⟨p', hp', rfl⟩, rfl⟩
  · exact fg_law (G := GH PySem.Challenge.pw_saidatonce_k43_whole_best_and_worst_cuts w K mg base) (fxH X1 N1 c hT) U
end Mn
open PySem PySem.W PySem.Calls PyProof.Rows
theorem holdsH (hF : ∀ ns : List Int, ns.length ≤ 63 → (∀ z ∈ ns, Builtin.Int.intBits z ≤ 1048576) → ∃ g, Mn.F_law [.d (.lst (ns.map Mn.D.int))] [] = .ok (.d (.bl true)) g) : PySem.Challenge.rw_saidatonce_k43_whole_best_and_worst_cuts.Holds := by
  w_on; o_law
  refine HandSHeadRun.head_any (r := OpenLaw.row PySem.Challenge.rw_saidatonce_k43_whole_best_and_worst_cuts) (q := view (OpenLaw.row PySem.Challenge.rw_saidatonce_k43_whole_best_and_worst_cuts).prog [32]) (H := Mn.hkH) (ob := Mn.obH) (M := 6000) (loose := Mn.looseH) (d := HandSHeadRun.topDef (OpenLaw.row PySem.Challenge.rw_saidatonce_k43_whole_best_and_worst_cuts).prog 32) (kwd := []) Mn.obH_eq
    (by kernel_rfl) (fun s => by kernel_rfl) Mn.runH (by kernel_rfl) (by kernel_rfl) (by kernel_rfl) (by rfl) (by first | assumption | decide +kernel) (by decide +kernel) ⟨rfl, rfl, rfl, rfl, rfl, by decide +kernel⟩ ?hw ?hc
  case hw => w_witness2
  case hc =>
    refine Mn.walkG (l := PySem.Challenge.rw_saidatonce_k43_whole_best_and_worst_cuts) (n := 63) (k := 9) (x := "_law_script") rfl (by decide) (by kernel_rfl) ⟨rfl, by decide, by decide⟩ fun w mg fa h Y N hf => ?_
    have e : (HandSHeadRun.topDef (OpenLaw.row PySem.Challenge.rw_saidatonce_k43_whole_best_and_worst_cuts).prog 32).name = ("law" : PySem.Str) := by kernel_rfl
    rw [e] at hf
    exact Mn.lawH hF Y N hf
set_option Elab.async false
set_option linter.all false
set_option maxRecDepth 100000
set_option maxHeartbeats 1000000
namespace Mn
open PySem
theorem isn_run {v : Int} {g : List Cell} (h : 0 ≤ v) : F_is_number [.d (.int v)] g = .ok (.d (.bl true)) g := by
  have e : F_is_number [.d (.int v)] g = .ok (.d (.bl (decide (0 ≤ v)))) g := rfl
  rw [e, decide_eq_true h]
theorem need_run {v a b : Int} {x : Str} {g : List Cell} (h0 : 0 ≤ v) (h1 : a ≤ v) (h2 : v ≤ b) : F_need_number [.d (.int v), .d (.int a), .d (.int b), .d (.str x)] g = .ok (.d .non) g := by
  have h : b_need_number ⟨[some (.d (.int v)), some (.d (.int a)), some (.d (.int b)), some (.d (.str x))], [], g⟩ = .ok .nx ⟨[some (.d (.int v)), some (.d (.int a)), some (.d (.int b)), some (.d (.str x))], [], g⟩ := by
    refine r_iff (s1 := ⟨[some (.d (.int v)), some (.d (.int a)), some (.d (.int b)), some (.d (.str x))], [], g⟩) ?_ rfl
    refine r_orf (s1 := ⟨[some (.d (.int v)), some (.d (.int a)), some (.d (.int b)), some (.d (.str x))], [], g⟩) ?_ ?_
    · exact notT_ok (c := true) (tst_ok (r_cl (vs := [.d (.int v)]) (s2 := ⟨[some (.d (.int v)), some (.d (.int a)), some (.d (.int b)), some (.d (.str x))], [], g⟩) rfl (isn_run h0)))
    refine r_orf (s1 := ⟨[some (.d (.int v)), some (.d (.int a)), some (.d (.int b)), some (.d (.str x))], [], g⟩) (tst_not (p := v < a) rfl (by omega)) ?_
    exact r_andt (s1 := ⟨[some (.d (.int v)), some (.d (.int a)), some (.d (.int b)), some (.d (.str x))], [], g⟩) rfl (tst_not (p := b < v) rfl (by omega))
  exact congrArg fo h
theorem check_run {o m : Int} {g : List Cell} (h1 : 1 ≤ o) (h2 : o ≤ 60) (h3 : 1 ≤ m) (h4 : m ≤ o) : F_check_cut [.d (.int o), .d (.int m)] g = .ok (.d .non) g := by
  have h : b_check_cut ⟨[some (.d (.int o)), some (.d (.int m))], [], g⟩ = .ok .nx ⟨[some (.d (.int o)), some (.d (.int m))], [], g⟩ := by
    refine r_seq (s1 := ⟨[some (.d (.int o)), some (.d (.int m))], [], g⟩) (ex_ok (r_cl (vs := [.d (.int o), .d (.int 1), .d (.int 60), .d (.str "orders")]) (s2 := ⟨[some (.d (.int o)), some (.d (.int m))], [], g⟩) rfl (need_run (by omega) h1 h2))) ?_
    exact ex_ok (r_cl (vs := [.d (.int m), .d (.int 1), .d (.int o), .d (.str "many")]) (s2 := ⟨[some (.d (.int o)), some (.d (.int m))], [], g⟩) rfl (need_run (by omega) h3 h4))
  exact congrArg fo h
end Mn
set_option Elab.async false
set_option linter.all false
set_option maxRecDepth 100000
set_option maxHeartbeats 1000000
namespace Mn
open PySem
def rowOf : D → List D | .tup xs => xs | _ => []
def sumT (x : D) : Int := match intsD (rowOf x) with | some ns => sumI ns | none => 0
def lo1 (left most : Int) : Int := if 0 < left then 1 else most
def rmY (o left : Int) (x : D) : D := .tup [x, .int (o - sumT x - left)]
def rmX : D → D | .tup [x, _] => x | _ => .non
def rmM : D → Int | .tup [_, .int m] => m | _ => 0
def stF (o left : Int) (f : List D) : List D := (f.map (rmY o left)).flatMap fun r => (upTo (lo1 left (rmM r)) (rmM r + 1 - lo1 left (rmM r)).toNat).map fun z => .tup (rowOf (rmX r) ++ [z])
def rowB (o left : Int) (x : D) : Bool := match x with
  | .tup xs => (intsD xs).isSome && decide (xs.length ≤ 100) && decide (-1000 ≤ o - sumT x - left) && decide (o - sumT x - left ≤ 1000)
  | _ => false
def stB (o left : Int) (f : List D) : Bool := decide (f.length ≤ 4096) && f.all (rowB o left)
def AE (o m : Int) (f : List D) (a l r : Option W) (g : List Cell) : Sx := ⟨[some (.d (.int o)), some (.d (.int m)), some (.d (.lst f)), a, l, r, none, none, none], [], g⟩
def rms : M (List W) := lc [6] (itS (vr 2)) (tN 6) (pur true) (tup (args [vr 6, b2 subD (b2 subD (vr 0) (bi sumD (args [vr 6]))) (vr 4)]))
def grw : M (List W) := lc2 [6, 7, 8] (itS (vr 5)) (tT [tN 6, tN 7]) (pur true) [8] (itR rng2 (args [ite (tst (b2 gtD (vr 4) (cs (.int 0)))) (cs (.int 1)) (vr 7), b2 addD (vr 7) (cs (.int 1))])) (tN 8) (pur true) (b2 addD (vr 6) (tup (args [vr 8])))
theorem rms_run {o m left : Int} {f : List D} {a r : Option W} {g : List Cell} (h : stB o left f = true) : rms (AE o m f a (some (.d (.int left))) r g) = .ok ((f.map (rmY o left)).map W.d) (AE o m f a (some (.d (.int left))) r g) := by
  obtain ⟨h1, h2⟩ := Bool.and_eq_true_iff.mp h
  have e := lc_run (vs := [6]) (g := tN 6) (c := pur true) (f := tup (args [vr 6, b2 subD (b2 subD (vr 0) (bi sumD (args [vr 6]))) (vr 4)])) (it := itS (vr 2)) (s := AE o m f a (some (.d (.int left))) r g) (s1 := AE o m f a (some (.d (.int left))) r g) (xs := f) (fun _ => true) (rmY o left) rfl (fun x hx => ?_) (Nat.le_trans (of_decide_eq_true h1) (by decide))
  · rw [show f.filter (fun _ => true) = f from List.filter_eq_self.mpr fun _ _ => rfl] at e
    exact e
  · have hr := List.all_eq_true.mp h2 x hx
    refine ⟨[some (.d (.int o)), some (.d (.int m)), some (.d (.lst f)), a, some (.d (.int left)), r, some (.d x), none, none], rfl, rfl, fun _ => ?_⟩
    match x, hr with
    | .tup xs, hr =>
      simp only [rowB, Bool.and_eq_true] at hr
      obtain ⟨ns, hn⟩ := Option.isSome_iff_exists.mp hr.1.1.1
      have hs : sumT (.tup xs) = sumI ns := by simp [sumT, rowOf, hn]
      have e1 : bi sumD (args [vr 6]) ⟨[some (.d (.int o)), some (.d (.int m)), some (.d (.lst f)), a, some (.d (.int left)), r, some (.d (.tup xs)), none, none], [], g⟩ = .ok (.d (.int (sumI ns))) ⟨[some (.d (.int o)), some (.d (.int m)), some (.d (.lst f)), a, some (.d (.int left)), r, some (.d (.tup xs)), none, none], [], g⟩ :=
        bi_ok (ws := [.d (.tup xs)]) (xs := [.tup xs]) rfl rfl (by simp [sumD, hn])
      have e2 : b2 subD (b2 subD (vr 0) (bi sumD (args [vr 6]))) (vr 4) ⟨[some (.d (.int o)), some (.d (.int m)), some (.d (.lst f)), a, some (.d (.int left)), r, some (.d (.tup xs)), none, none], [], g⟩ = .ok (.d (.int (o - sumI ns - left))) ⟨[some (.d (.int o)), some (.d (.int m)), some (.d (.lst f)), a, some (.d (.int left)), r, some (.d (.tup xs)), none, none], [], g⟩ :=
        b2_ok (w := .d (.int (o - sumI ns))) (v := .d (.int left)) (x := .int (o - sumI ns)) (y := .int left) (b2_ok (w := .d (.int o)) (v := .d (.int (sumI ns))) (x := .int o) (y := .int (sumI ns)) rfl e1 rfl rfl rfl) rfl rfl rfl rfl
      refine r_bnd (a := .d (.tup [.tup xs, .int (o - sumI ns - left)])) (tup_ok (ds := [.tup xs, .int (o - sumI ns - left)]) (args_cons (w := .d (.tup xs)) (ws := [.d (.int (o - sumI ns - left))]) rfl (args_cons (ws := []) e2 rfl)) (by simp)) ?_
      show Out.ok _ _ = Out.ok _ _
      rw [rmY, hs]
      rfl
theorem smallI {i : Int} (h1 : -100000 ≤ i) (h2 : i ≤ 100000) : small i = true := by
  unfold small
  rw [decide_eq_true (by omega), decide_eq_true (by omega)]; rfl
theorem grw_run {o m left : Int} {f : List D} {a : Option W} {g : List Cell} (h : stB o left f = true) : grw (AE o m f a (some (.d (.int left))) (some (.d (.lst (f.map (rmY o left))))) g) = .ok ((stF o left f).map W.d) (AE o m f a (some (.d (.int left))) (some (.d (.lst (f.map (rmY o left))))) g) := by
  obtain ⟨h1, h2⟩ := Bool.and_eq_true_iff.mp h
  have hl : f.length ≤ 4096 := of_decide_eq_true h1
  have e := lc2_run (vs := [6, 7, 8]) (g := tT [tN 6, tN 7]) (c := pur true) (vs1 := [8]) (it1 := itR rng2 (args [ite (tst (b2 gtD (vr 4) (cs (.int 0)))) (cs (.int 1)) (vr 7), b2 addD (vr 7) (cs (.int 1))])) (g1 := tN 8) (c1 := pur true) (f := b2 addD (vr 6) (tup (args [vr 8])))
    (it := itS (vr 5)) (s := AE o m f a (some (.d (.int left))) (some (.d (.lst (f.map (rmY o left))))) g) (s1 := AE o m f a (some (.d (.int left))) (some (.d (.lst (f.map (rmY o left))))) g) (xs := f.map (rmY o left))
    (fun _ => true) (fun r => upTo (lo1 left (rmM r)) (rmM r + 1 - lo1 left (rmM r)).toNat) (fun _ _ => true) (fun r z => .tup (rowOf (rmX r) ++ [z])) 2010 rfl (fun x hx => ?_) (by rw [List.length_map]; omega)
  · rw [show (f.map (rmY o left)).filter (fun _ => true) = f.map (rmY o left) from List.filter_eq_self.mpr fun _ _ => rfl] at e
    refine e.trans ?_
    show Out.ok _ _ = Out.ok _ _
    congr 2
    unfold stF
    congr 1
    funext r
    rw [List.filter_eq_self.mpr fun _ _ => rfl]
  · obtain ⟨x, hx0, rfl⟩ := List.mem_map.mp hx
    have hr := List.all_eq_true.mp h2 x hx0
    clear hx hx0
    match x, hr with
    | .tup xs, hr =>
      simp only [rowB, Bool.and_eq_true, decide_eq_true_eq] at hr
      obtain ⟨⟨⟨h3, h4⟩, h5⟩, h6⟩ := hr
      generalize hq : o - sumT (.tup xs) - left = q at h5 h6
      have hy : rmY o left (.tup xs) = .tup [.tup xs, .int q] := by rw [rmY, hq]
      rw [hy]
      refine ⟨[some (.d (.int o)), some (.d (.int m)), some (.d (.lst f)), a, some (.d (.int left)), some (.d (.lst (f.map (rmY o left)))), some (.d (.tup xs)), some (.d (.int q)), none], rfl, rfl, fun _ => ⟨?_, ?_, fun z hz => ?_⟩⟩
      · refine rng2_run (m := lo1 left q) (n := q + 1) (args_cons (s1 := ⟨[some (.d (.int o)), some (.d (.int m)), some (.d (.lst f)), a, some (.d (.int left)), some (.d (.lst (f.map (rmY o left)))), some (.d (.tup xs)), some (.d (.int q)), none], [], g⟩) (w := .d (.int (lo1 left q))) (ws := [.d (.int (q + 1))]) ?_ rfl) (smallI ?_ ?_) (smallI (by omega) (by omega))
        · unfold lo1
          by_cases hlt : 0 < left
          · rw [if_pos hlt]
            exact (ite_t (tst_dec (p := 0 < left) rfl hlt)).trans rfl
          · rw [if_neg hlt]
            exact (ite_f (tst_not (p := 0 < left) rfl hlt)).trans rfl
        · unfold lo1; split <;> omega
        · unfold lo1; split <;> omega
      · show (upTo (lo1 left q) (q + 1 - lo1 left q).toNat).length ≤ 2010
        rw [upTo_len]; unfold lo1; split <;> omega
      · refine ⟨[some (.d (.int o)), some (.d (.int m)), some (.d (.lst f)), a, some (.d (.int left)), some (.d (.lst (f.map (rmY o left)))), some (.d (.tup xs)), some (.d (.int q)), some (.d z)], rfl, rfl, fun _ => ?_⟩
        have hz : ∃ i, z = .int i := by
          obtain ⟨j, hj, e⟩ := List.mem_iff_getElem.mp hz
          exact ⟨_, (upTo_at _ _ j z (by rw [List.getElem?_eq_getElem hj, e])).2⟩
        obtain ⟨i, rfl⟩ := hz
        exact r_bnd (s1 := ⟨[some (.d (.int o)), some (.d (.int m)), some (.d (.lst f)), a, some (.d (.int left)), some (.d (.lst (f.map (rmY o left)))), some (.d (.tup xs)), some (.d (.int q)), some (.d (.int i))], [], g⟩) (a := .d (.tup (xs ++ [.int i]))) (b2_ok (s1 := ⟨[some (.d (.int o)), some (.d (.int m)), some (.d (.lst f)), a, some (.d (.int left)), some (.d (.lst (f.map (rmY o left)))), some (.d (.tup xs)), some (.d (.int q)), some (.d (.int i))], [], g⟩) (w := .d (.tup xs)) (v := .d (.tup [.int i])) (x := .tup xs) (y := .tup [.int i]) rfl (tup_ok (ds := [.int i]) rfl (by simp)) rfl rfl (by simp only [addD, List.length_cons, List.length_nil]; rw [if_pos (by omega)])) rfl
end Mn
set_option Elab.async false
set_option linter.all false
set_option maxRecDepth 100000
set_option maxHeartbeats 1000000
namespace Mn
open PySem
def fnd (o m : Int) : Nat → List D
  | 0 => [.tup []]
  | j + 1 => stF o (m - j - 1) (fnd o m j)
def AS (o m : Int) (g : List Cell) : Nat → Sx
  | 0 => AE o m [.tup []] none none none g
  | j + 1 => AE o m (fnd o m (j + 1)) (some (.d (.int j))) (some (.d (.int (m - j - 1)))) (some (.d (.lst ((fnd o m j).map (rmY o (m - j - 1)))))) g
def fndB (o m : Int) : Bool := (List.range m.toNat).all fun j => stB o (m - j - 1) (fnd o m j)
theorem AS_f (o m : Int) (g : List Cell) : ∀ j, ∃ a l r, AS o m g j = AE o m (fnd o m j) a l r g
  | 0 => ⟨_, _, _, rfl⟩
  | _ + 1 => ⟨_, _, _, rfl⟩
theorem all_run {o m c : Int} {g : List Cell} (h1 : 1 ≤ o) (h2 : o ≤ 60) (h3 : 1 ≤ m) (h4 : m ≤ o) (hc : F_count_cuts [.d (.int o), .d (.int m)] g = .ok (.d (.int c)) g) (hc2 : c ≤ 500) (hB : fndB o m = true) : F_all_cuts [.d (.int o), .d (.int m)] g = .ok (.d (.tup (fnd o m m.toNat))) g := by
  have A0 : Sx := ⟨[some (.d (.int o)), some (.d (.int m)), none, none, none, none, none, none, none], [], g⟩
  have h : b_all_cuts ⟨[some (.d (.int o)), some (.d (.int m)), none, none, none, none, none, none, none], [], g⟩ = .ok (.rt (.d (.tup (fnd o m m.toNat)))) (AS o m g m.toNat) := by
    refine r_seq (s1 := ⟨[some (.d (.int o)), some (.d (.int m)), none, none, none, none, none, none, none], [], g⟩) (ex_ok (r_cl (vs := [.d (.int o), .d (.int m)]) (s2 := ⟨[some (.d (.int o)), some (.d (.int m)), none, none, none, none, none, none, none], [], g⟩) rfl (check_run h1 h2 h3 h4))) ?_
    refine r_seq (s1 := ⟨[some (.d (.int o)), some (.d (.int m)), none, none, none, none, none, none, none], [], g⟩) (r_iff (s1 := ⟨[some (.d (.int o)), some (.d (.int m)), none, none, none, none, none, none, none], [], g⟩) ?_ rfl) ?_
    · refine tst_not (p := 500 < c) (tst_ok (b2_ok (w := .d (.int c)) (v := .d (.int 500)) (x := .int c) (y := .int 500) (r_cl (vs := [.d (.int o), .d (.int m)]) (s2 := ⟨[some (.d (.int o)), some (.d (.int m)), none, none, none, none, none, none, none], [], g⟩) rfl hc) rfl rfl rfl rfl)) (by omega)
    refine r_seq (s1 := AS o m g 0) rfl ?_
    refine r_seq (s1 := AS o m g m.toNat) ?_ ?_
    · have e := forS_run (it := itR rng1 (args [vr 1])) (g := tN 3) (b := seq (st (tN 4) (b2 subD (b2 subD (vr 1) (vr 3)) (cs (.int 1)))) (seq (st (tN 5) (frz rms)) (st (tN 2) (frz grw)))) (s := AS o m g 0) (xs := upTo 0 m.toNat) (AS o m g) (rng1_run rfl (smallI (by omega) (by omega))) (fun j x hx => ?_)
      · rw [upTo_len] at e
        exact e
      · obtain ⟨hj, rfl⟩ := upTo_at _ _ _ _ hx
        rw [Int.zero_add]
        obtain ⟨a, l, r, hs⟩ := AS_f o m g j
        have hb := List.all_eq_true.mp hB j (List.mem_range.mpr hj)
        refine ⟨AE o m (fnd o m j) (some (.d (.int j))) l r g, by rw [hs]; rfl, ?_⟩
        refine r_seq (s1 := AE o m (fnd o m j) (some (.d (.int j))) (some (.d (.int (m - j - 1)))) r g) rfl ?_
        refine r_seq (st_ok (frz_d (rms_run hb)) (show tN 5 _ _ = some (AE o m (fnd o m j) (some (.d (.int j))) (some (.d (.int (m - j - 1)))) (some (.d (.lst ((fnd o m j).map (rmY o (m - j - 1)))))) g) from rfl)) ?_
        exact st_ok (frz_d (grw_run hb)) rfl
    · obtain ⟨a, l, r, hs⟩ := AS_f o m g m.toNat
      rw [hs]
      rfl
  have e := congrArg fo h
  refine e.trans ?_
  obtain ⟨a, l, r, hs⟩ := AS_f o m g m.toNat
  rw [hs]
  rfl
theorem all_no {o m c : Int} {g : List Cell} (h1 : 1 ≤ o) (h2 : o ≤ 60) (h3 : 1 ≤ m) (h4 : m ≤ o) (hc : F_count_cuts [.d (.int o), .d (.int m)] g = .ok (.d (.int c)) g) (hc2 : 500 < c) : F_all_cuts [.d (.int o), .d (.int m)] g = .exc ⟨3, [.str "size"]⟩ g := by
  have h : b_all_cuts ⟨[some (.d (.int o)), some (.d (.int m)), none, none, none, none, none, none, none], [], g⟩ = .exc ⟨3, [.str "size"]⟩ ⟨[some (.d (.int o)), some (.d (.int m)), none, none, none, none, none, none, none], [], g⟩ := by
    refine r_seq (s1 := ⟨[some (.d (.int o)), some (.d (.int m)), none, none, none, none, none, none, none], [], g⟩) (ex_ok (r_cl (vs := [.d (.int o), .d (.int m)]) (s2 := ⟨[some (.d (.int o)), some (.d (.int m)), none, none, none, none, none, none, none], [], g⟩) rfl (check_run h1 h2 h3 h4))) ?_
    refine seq_exc (r_ift (s1 := ⟨[some (.d (.int o)), some (.d (.int m)), none, none, none, none, none, none, none], [], g⟩) ?_ rfl)
    refine tst_dec (p := 500 < c) (tst_ok (b2_ok (w := .d (.int c)) (v := .d (.int 500)) (x := .int c) (y := .int 500) (r_cl (vs := [.d (.int o), .d (.int m)]) (s2 := ⟨[some (.d (.int o)), some (.d (.int m)), none, none, none, none, none, none, none], [], g⟩) rfl hc) rfl rfl rfl rfl)) (by omega)
  exact congrArg fo h
end Mn
set_option Elab.async false
set_option linter.all false
set_option maxRecDepth 100000
set_option maxHeartbeats 1000000
namespace Mn
open PySem
def lOf : D → List D | .lst xs => xs | _ => []
/-- where a row's next gap begins -/
def bgI (x : D) : Int := match x with
  | .lst xs => (match neD (.lst xs) (.lst []) with
    | some (.bl true) => (match xs.getLast? with | some (.int i) => i + 1 | _ => 0)
    | _ => 1)
  | _ => 0
def bgB (x : D) : Bool := match x with
  | .lst xs => (match neD (.lst xs) (.lst []) with
    | some (.bl true) => (match ixd xs.length (-1) with
      | some j => (match nth xs j with | some (.int i) => decide (-100 ≤ i) && decide (i ≤ 100) && decide (bgI (.lst xs) = i + 1) | _ => false)
      | _ => false)
    | some (.bl false) => true
    | _ => false) && decide (xs.length ≤ 100)
  | _ => false
def grR (o m : Int) (j : Nat) (x : D) : List D := (upTo (bgI x) (o - m + j + 2 - bgI x).toNat).map fun z => .lst (lOf x ++ [z])
def gr (o m : Int) (j : Nat) (f : List D) : List D := f.flatMap (grR o m j)
def grB (o m : Int) (j : Nat) (f : List D) : Bool := f.all bgB && decide (f.length ≤ 2000)
/-- e: 0 orders, 1 many, 2 found, 3 at, 4 grown, 5 row, 6 begin, 7 cuts_here, 8 ends, 9 gap -/
def CE (o m : Int) (f at_ gw rw bg : Option W) (g : List Cell) : Sx := ⟨[some (.d (.int o)), some (.d (.int m)), f, at_, gw, rw, bg, none, none, none], [], g⟩
def bgT : M W := ite (tst (b2 neD (vr 5) (frz (dsp (args []))))) (b2 addD (sub (vr 5) (u1 negD (cs (.int 1)))) (cs (.int 1))) (cs (.int 1))
theorem nth_map {α β : Type} (f : α → β) : ∀ (l : List α) (j : Nat), nth (l.map f) j = (nth l j).map f
  | [], _ => rfl
  | _ :: _, 0 => rfl
  | _ :: r, j + 1 => nth_map f r j
theorem bgT_run {o m : Int} {f at_ gw bg : Option W} {g : List Cell} {x : D} (h : bgB x = true) : bgT (CE o m f at_ gw (some (.d x)) bg g) = .ok (.d (.int (bgI x))) (CE o m f at_ gw (some (.d x)) bg g) ∧ -100 ≤ bgI x ∧ bgI x ≤ 101 ∧ ∃ xs, x = .lst xs ∧ xs.length ≤ 100 := by
  match x, h with
  | .lst xs, h =>
    obtain ⟨h, hl⟩ := Bool.and_eq_true_iff.mp (show ((match neD (.lst xs) (.lst []) with
      | some (.bl true) => (match ixd xs.length (-1) with
        | some j => (match nth xs j with | some (.int i) => decide (-100 ≤ i) && decide (i ≤ 100) && decide (bgI (.lst xs) = i + 1) | _ => false)
        | _ => false)
      | some (.bl false) => true
      | _ => false) && decide (xs.length ≤ 100)) = true from h)
    have hl := of_decide_eq_true hl
    split at h
    · rename_i q
      split at h
      · rename_i j hj
        split at h
        · rename_i i hi
          simp only [Bool.and_eq_true, decide_eq_true_eq] at h
          obtain ⟨⟨h1, h2⟩, h3⟩ := h
          refine ⟨?_, by omega, by omega, xs, rfl, hl⟩
          refine (ite_t (s1 := CE o m f at_ gw (some (.d (.lst xs))) bg g) (tst_ok (b2_ok (s1 := CE o m f at_ gw (some (.d (.lst xs))) bg g) (w := .d (.lst xs)) (v := .d (.lst [])) (x := .lst xs) (y := .lst []) rfl rfl rfl rfl q))).trans ?_
          rw [h3]
          refine b2_ok (s1 := CE o m f at_ gw (some (.d (.lst xs))) bg g) (w := .d (.int i)) (v := .d (.int 1)) (x := .int i) (y := .int 1) ?_ rfl rfl rfl rfl
          refine r_bnd (s1 := CE o m f at_ gw (some (.d (.lst xs))) bg g) (a := .d (.lst xs)) rfl (r_bnd (s1 := CE o m f at_ gw (some (.d (.lst xs))) bg g) (a := .d (.int (-1))) rfl ?_)
          show (match some (xs.map W.d) with
            | some ws => (match ixd ws.length (-1) with
              | some j => (match nth ws j with | some x => Out.ok x (CE o m f at_ gw (some (.d (.lst xs))) bg g) | none => .stuck)
              | none => .stuck)
            | none => .stuck) = _
          simp only [List.length_map, hj, nth_map, hi, Option.map]
        · cases h
      · cases h
    · rename_i q
      have e : bgI (.lst xs) = 1 := by unfold bgI; simp only [q]
      refine ⟨?_, by omega, by omega, xs, rfl, hl⟩
      rw [e]
      exact (ite_f (s1 := CE o m f at_ gw (some (.d (.lst xs))) bg g) (tst_ok (b2_ok (s1 := CE o m f at_ gw (some (.d (.lst xs))) bg g) (w := .d (.lst xs)) (v := .d (.lst [])) (x := .lst xs) (y := .lst []) rfl rfl rfl rfl q))).trans rfl
    · cases h
end Mn
set_option Elab.async false
set_option linter.all false
set_option maxRecDepth 100000
set_option maxHeartbeats 1000000
namespace Mn
open PySem
theorem loop_inv {g : Tg} {b : St} (P : Nat → Sx → Prop) : ∀ (xs : List D) (i : Nat) (s : Sx), P i s → (∀ (j : Nat) (x : D) (s : Sx), xs[j]? = some x → P (i + j) s → ∃ s1 s2, g (.d x) s = some s1 ∧ b s1 = .ok .nx s2 ∧ P (i + j + 1) s2) → ∃ s', loop g b xs s = .ok .nx s' ∧ P (i + xs.length) s'
  | [], i, s, h0, _ => ⟨s, rfl, h0⟩
  | x :: xs, i, s, h0, h => by
    obtain ⟨s1, s2, h1, h2, h3⟩ := h 0 x s rfl h0
    obtain ⟨s', q, p⟩ := loop_inv P xs (i + 1) s2 h3 fun j y t hy hp => by
      obtain ⟨t1, t2, q1, q2, q3⟩ := h (j + 1) y t hy (by rw [show i + (j + 1) = i + 1 + j by omega]; exact hp)
      exact ⟨t1, t2, q1, q2, by rw [show i + 1 + j + 1 = i + (j + 1) + 1 by omega]; exact q3⟩
    refine ⟨s', ?_, by rw [show i + (x :: xs).length = i + 1 + xs.length by simp; omega]; exact p⟩
    show bnd (asg g (.d x)) _ s = _
    rw [bnd_ok (show asg g (.d x) s = .ok () s1 by unfold asg; rw [h1]), bnd_ok h2]
    exact q
theorem forS_inv {it : M (List D)} {g : Tg} {b : St} {s s0 : Sx} {xs : List D} (P : Nat → Sx → Prop) (hit : it s = .ok xs s0) (h0 : P 0 s0) (h : ∀ (j : Nat) (x : D) (s : Sx), xs[j]? = some x → P j s → ∃ s1 s2, g (.d x) s = some s1 ∧ b s1 = .ok .nx s2 ∧ P (j + 1) s2) : ∃ s', forS it g b s = .ok .nx s' ∧ P xs.length s' := by
  unfold forS
  rw [bnd_ok hit]
  obtain ⟨s', q, p⟩ := loop_inv P xs 0 s0 h0 fun j x t e hp => by simpa using h j x t e (by simpa using hp)
  exact ⟨s', q, by simpa using p⟩
theorem b2L_ok {o : D → D → Option (List D)} {a b : M W} {s s1 s2 : Sx} {w v : W} {x y : D} {z : List D} (h : a s = .ok w s1) (h1 : b s1 = .ok v s2) (hx : pk s2 w = some x) (hy : pk s2 v = some y) (h2 : o x y = some z) : b2L o a b s = .ok (z.map W.d) s2 := by unfold b2L; rw [bnd_ok h, bnd_ok h1]; simp only [hx, hy, h2]
def grS : St := seq (st (tN 6) bgT) (st (tN 4) (frz (b2L catL (vr 4) (frz (lc [9] (itR rng2 (args [vr 6, b2 addD (b2 addD (b2 subD (vr 0) (vr 1)) (vr 3)) (cs (.int 2))])) (tN 9) (pur true) (frz (b2L catL (vr 5) (frz (dsp (args [vr 9]))))))))))
theorem grR_len {o m : Int} {j : Nat} {x : D} : (grR o m j x).length = (o - m + j + 2 - bgI x).toNat := by rw [grR, List.length_map, upTo_len]
theorem grS_run {o m : Int} {j : Nat} {f bg : Option W} {acc : List D} {g : List Cell} {x : D} (ho : 0 ≤ o ∧ o ≤ 60 ∧ 0 ≤ m ∧ m ≤ 60 ∧ j ≤ 60) (hb : bgB x = true) (hl : acc.length ≤ 1000000) :
    grS (CE o m f (some (.d (.int j))) (some (.d (.lst acc))) (some (.d x)) bg g) = .ok .nx (CE o m f (some (.d (.int j))) (some (.d (.lst (acc ++ grR o m j x)))) (some (.d x)) (some (.d (.int (bgI x)))) g) := by
  obtain ⟨ho1, ho2, ho3, ho4, ho5⟩ := ho
  obtain ⟨h1, h2, h3, xs, rfl, h4⟩ := bgT_run (o := o) (m := m) (f := f) (at_ := some (.d (.int j))) (gw := some (.d (.lst acc))) (bg := bg) (g := g) hb
  refine r_seq (s1 := CE o m f (some (.d (.int j))) (some (.d (.lst acc))) (some (.d (.lst xs))) (some (.d (.int (bgI (.lst xs))))) g) (st_ok h1 rfl) ?_
  have e := lc_run (vs := [9]) (it := itR rng2 (args [vr 6, b2 addD (b2 addD (b2 subD (vr 0) (vr 1)) (vr 3)) (cs (.int 2))])) (g := tN 9) (c := pur true) (f := frz (b2L catL (vr 5) (frz (dsp (args [vr 9]))))) (s := CE o m f (some (.d (.int j))) (some (.d (.lst acc))) (some (.d (.lst xs))) (some (.d (.int (bgI (.lst xs))))) g) (s1 := CE o m f (some (.d (.int j))) (some (.d (.lst acc))) (some (.d (.lst xs))) (some (.d (.int (bgI (.lst xs))))) g)
    (xs := upTo (bgI (.lst xs)) (o - m + j + 2 - bgI (.lst xs)).toNat) (fun _ => true) (fun z => .lst (xs ++ [z])) (rng2_run rfl (smallI (by omega) (by omega)) (smallI (by omega) (by omega))) (fun z hz => ?_) (by rw [upTo_len]; omega)
  · rw [List.filter_eq_self.mpr fun _ _ => rfl] at e
    refine st_ok (frz_d (b2L_ok (s1 := CE o m f (some (.d (.int j))) (some (.d (.lst acc))) (some (.d (.lst xs))) (some (.d (.int (bgI (.lst xs))))) g) (w := .d (.lst acc)) (x := .lst acc) (y := .lst (grR o m j (.lst xs))) (z := acc ++ grR o m j (.lst xs)) rfl (frz_d e) rfl rfl ?_)) rfl
    show (if acc.length + (grR o m j (.lst xs)).length ≤ 16777216 then some (acc ++ grR o m j (.lst xs)) else none) = _
    rw [grR_len, if_pos (by omega)]
  · refine ⟨[some (.d (.int o)), some (.d (.int m)), f, some (.d (.int j)), some (.d (.lst acc)), some (.d (.lst xs)), some (.d (.int (bgI (.lst xs)))), none, none, some (.d z)], rfl, rfl, fun _ => ?_⟩
    have hz : ∃ i, z = .int i := by
      obtain ⟨j, hj, e⟩ := List.mem_iff_getElem.mp hz
      exact ⟨_, (upTo_at _ _ j z (by rw [List.getElem?_eq_getElem hj, e])).2⟩
    obtain ⟨i, rfl⟩ := hz
    refine r_bnd (s1 := ⟨[some (.d (.int o)), some (.d (.int m)), f, some (.d (.int j)), some (.d (.lst acc)), some (.d (.lst xs)), some (.d (.int (bgI (.lst xs)))), none, none, some (.d (.int i))], [], g⟩) (a := .d (.lst (xs ++ [.int i]))) (frz_d (ds := xs ++ [.int i]) (b2L_ok (s1 := ⟨[some (.d (.int o)), some (.d (.int m)), f, some (.d (.int j)), some (.d (.lst acc)), some (.d (.lst xs)), some (.d (.int (bgI (.lst xs)))), none, none, some (.d (.int i))], [], g⟩) (w := .d (.lst xs)) (v := .d (.lst [.int i])) (x := .lst xs) (y := .lst [.int i]) rfl rfl rfl rfl ?_)) rfl
    show (if xs.length + [D.int i].length ≤ 16777216 then some (xs ++ [.int i]) else none) = _
    rw [if_pos (by simp; omega)]
end Mn
set_option Elab.async false
set_option linter.all false
set_option maxRecDepth 100000
set_option maxHeartbeats 1000000
namespace Mn
open PySem
/-- one turn of the outer loop -/
def grT : St := seq (st (tN 4) (frz (dsp (args [])))) (seq (forS (itS (vr 2)) (tN 5) grS) (st (tN 2) (vr 4)))
theorem gr_take {o m : Int} {j : Nat} {f : List D} {i : Nat} {x : D} (h : f[i]? = some x) : gr o m j (f.take (i + 1)) = gr o m j (f.take i) ++ grR o m j x := by
  unfold gr
  rw [List.take_add_one, h, List.flatMap_append]
  simp
theorem grT_run {o m : Int} {j : Nat} {f : List D} {at_ gw rw bg : Option W} {g : List Cell} (ho : 0 ≤ o ∧ o ≤ 60 ∧ 0 ≤ m ∧ m ≤ 60 ∧ j ≤ 60) (hB : grB o m j f = true) :
    ∃ gw' rw' bg', grT (CE o m (some (.d (.lst f))) (some (.d (.int j))) gw rw bg g) = .ok .nx (CE o m (some (.d (.lst (gr o m j f)))) (some (.d (.int j))) gw' rw' bg' g) := by
  obtain ⟨hb, hl⟩ := Bool.and_eq_true_iff.mp hB
  have hl := of_decide_eq_true hl
  obtain ⟨s', q, p1, rw', bg', p2⟩ := forS_inv (it := itS (vr 2)) (g := tN 5) (b := grS) (s := CE o m (some (.d (.lst f))) (some (.d (.int j))) (some (.d (.lst []))) rw bg g) (s0 := CE o m (some (.d (.lst f))) (some (.d (.int j))) (some (.d (.lst []))) rw bg g) (xs := f)
    (fun i s => (gr o m j (f.take i)).length ≤ i * 300 ∧ ∃ rw bg, s = CE o m (some (.d (.lst f))) (some (.d (.int j))) (some (.d (.lst (gr o m j (f.take i))))) rw bg g) rfl ⟨by simp [gr], rw, bg, by simp [gr]⟩
    fun i x s hx ⟨h1, rw, bg, hs⟩ => by
      subst hs
      have hi : i < f.length := by
        rcases Nat.lt_or_ge i f.length with h | h
        · exact h
        · rw [List.getElem?_eq_none h] at hx; cases hx
      have hbx := List.all_eq_true.mp hb x (List.mem_of_getElem? hx)
      refine ⟨CE o m (some (.d (.lst f))) (some (.d (.int j))) (some (.d (.lst (gr o m j (f.take i))))) (some (.d x)) bg g, _, rfl, grS_run ho hbx (by omega), ?_, _, _, by rw [gr_take hx]⟩
      obtain ⟨_, b1, b2, _⟩ := bgT_run (o := o) (m := m) (f := none) (at_ := none) (gw := none) (bg := none) (g := []) hbx
      rw [gr_take hx, List.length_append, grR_len]
      omega
  refine ⟨some (.d (.lst (gr o m j f))), rw', bg', ?_⟩
  rw [List.take_length] at p2
  refine r_seq (s1 := CE o m (some (.d (.lst f))) (some (.d (.int j))) (some (.d (.lst []))) rw bg g) rfl ?_
  refine r_seq q ?_
  rw [p2]
  rfl
/-- the rows behind j turns -/
def lrow (o m : Int) : Nat → List D
  | 0 => [.lst []]
  | j + 1 => gr o m j (lrow o m j)
def lrowB (o m : Int) : Bool := (List.range (m - 1).toNat).all fun j => grB o m j (lrow o m j)
theorem rows_run {o m : Int} {g : List Cell} (ho : 0 ≤ o ∧ o ≤ 60 ∧ 1 ≤ m ∧ m ≤ 60) (hB : lrowB o m = true) :
    ∃ at' gw' rw' bg', forS (itR rng1 (args [b2 subD (vr 1) (cs (.int 1))])) (tN 3) grT (CE o m (some (.d (.lst [.lst []]))) none none none none g) = .ok .nx (CE o m (some (.d (.lst (lrow o m (m - 1).toNat)))) at' gw' rw' bg' g) := by
  obtain ⟨s', q, a, gw', rw', bg', p⟩ := forS_inv (it := itR rng1 (args [b2 subD (vr 1) (cs (.int 1))])) (g := tN 3) (b := grT) (s := CE o m (some (.d (.lst [.lst []]))) none none none none g) (s0 := CE o m (some (.d (.lst [.lst []]))) none none none none g) (xs := upTo 0 (m - 1).toNat)
    (fun i s => ∃ a gw rw bg, s = CE o m (some (.d (.lst (lrow o m i)))) a gw rw bg g) (rng1_run rfl (smallI (by omega) (by omega))) ⟨_, _, _, _, rfl⟩
    fun i x s hx ⟨a, gw, rw, bg, hs⟩ => by
      subst hs
      obtain ⟨hi, rfl⟩ := upTo_at _ _ _ _ hx
      rw [Int.zero_add]
      obtain ⟨gw', rw', bg', e⟩ := grT_run (o := o) (m := m) (j := i) (f := lrow o m i) (at_ := a) (gw := gw) (rw := rw) (bg := bg) (g := g) ⟨ho.1, ho.2.1, by omega, ho.2.2.2, by omega⟩ (List.all_eq_true.mp hB i (List.mem_range.mpr hi))
      exact ⟨_, _, rfl, e, _, _, _, _, rfl⟩
  rw [upTo_len] at p
  exact ⟨a, gw', rw', bg', by rw [q, p]⟩
end Mn
set_option Elab.async false
set_option linter.all false
set_option maxRecDepth 100000
set_option maxHeartbeats 1000000
namespace Mn
open PySem
def endsL (o : Int) (x : D) : List D := .int 0 :: (lOf x ++ [.int o])
def dif (es : List D) (z : D) : D := match z with
  | .int i => (match nth es (i.toNat + 1), nth es i.toNat with | some (.int a), some (.int b) => .int (a - b) | _, _ => .non)
  | _ => .non
def cutOf (o m : Int) (x : D) : D := .tup ((upTo 0 m.toNat).map (dif (endsL o x)))
def isI : D → Bool | .int _ => true | _ => false
def cutB (m : Int) (x : D) : Bool := match x with | .lst xs => xs.all isI && decide ((xs.length : Int) + 1 = m) | _ => false
/-- the closing loop: 2 found, 3 at, 5 row, 7 the own list, 8 ends -/
def DE (o m : Int) (f a gw rw bg en : Option W) (acc : List D) (g : List Cell) : Sx := ⟨[some (.d (.int o)), some (.d (.int m)), f, a, gw, rw, bg, some (.l 0), en, none], [.m (acc.map W.d)], g⟩
theorem ixd_pos {n j : Nat} (h : j < n) : ixd n (j : Int) = some j := by
  unfold ixd
  rw [if_pos (by omega), if_pos (by omega)]
  simp
theorem at_int : ∀ {es : List D} {j : Nat}, es.all isI = true → j < es.length → ∃ i, nth es j = some (.int i)
  | [], j, _, h => by simp at h
  | x :: r, 0, h, _ => by
    have := (Bool.and_eq_true_iff.mp (show (isI x && r.all isI) = true from h)).1
    match x, this with
    | .int i, _ => exact ⟨i, rfl⟩
  | x :: r, j + 1, h, hj => at_int (es := r) (Bool.and_eq_true_iff.mp (show (isI x && r.all isI) = true from h)).2 (by simpa using hj)
end Mn
set_option Elab.async false
set_option linter.all false
set_option maxRecDepth 100000
set_option maxHeartbeats 1000000
namespace Mn
open PySem
theorem sub_d {a b : M W} {s : Sx} {es : List D} {x : D} {k : Int} {j : Nat} (h : a s = .ok (.d (.lst es)) s) (h1 : b s = .ok (.d (.int k)) s) (h2 : ixd es.length k = some j) (h3 : nth es j = some x) : sub a b s = .ok (.d x) s := by
  refine r_bnd h (r_bnd h1 ?_)
  show (match some (es.map W.d) with
    | some ws => (match ixd ws.length k with
      | some j => (match nth ws j with | some x => Out.ok x s | none => .stuck)
      | none => .stuck)
    | none => .stuck) = _
  simp only [List.length_map, h2, nth_map, h3, Option.map]
theorem dif_run {o m : Int} {f a gw rw bg : Option W} {es acc : List D} {g : List Cell} (hm : 0 ≤ m ∧ m ≤ 60) (hE : es.all isI = true) (hl : (es.length : Int) = m + 1) :
    frz (lc [3] (itR rng1 (args [vr 1])) (tN 3) (pur true) (b2 subD (sub (vr 8) (b2 addD (vr 3) (cs (.int 1)))) (sub (vr 8) (vr 3)))) (DE o m f a gw rw bg (some (.d (.lst es))) acc g) = .ok (.d (.lst ((upTo 0 m.toNat).map (dif es)))) (DE o m f a gw rw bg (some (.d (.lst es))) acc g) := by
  have e := lc_run (vs := [3]) (it := itR rng1 (args [vr 1])) (g := tN 3) (c := pur true) (f := b2 subD (sub (vr 8) (b2 addD (vr 3) (cs (.int 1)))) (sub (vr 8) (vr 3))) (s := DE o m f a gw rw bg (some (.d (.lst es))) acc g) (s1 := DE o m f a gw rw bg (some (.d (.lst es))) acc g) (xs := upTo 0 m.toNat) (fun _ => true) (dif es) (rng1_run rfl (smallI (by omega) (by omega))) (fun z hz => ?_) (by rw [upTo_len]; omega)
  · rw [List.filter_eq_self.mpr fun _ _ => rfl] at e
    exact frz_d e
  · obtain ⟨j, hj, q⟩ := List.mem_iff_getElem.mp hz
    obtain ⟨hj2, rfl⟩ := upTo_at _ _ j z (by rw [List.getElem?_eq_getElem hj, q])
    rw [Int.zero_add]
    obtain ⟨x1, n1⟩ := at_int hE (j := j + 1) (by omega)
    obtain ⟨x0, n0⟩ := at_int hE (j := j) (by omega)
    refine ⟨[some (.d (.int o)), some (.d (.int m)), f, some (.d (.int j)), gw, rw, bg, some (.l 0), some (.d (.lst es)), none], rfl, rfl, fun _ => ?_⟩
    have ed : dif es (.int j) = .int (x1 - x0) := by simp [dif, n1, n0]
    rw [ed]
    refine r_bnd (a := .d (.int (x1 - x0))) (s1 := ⟨[some (.d (.int o)), some (.d (.int m)), f, some (.d (.int j)), gw, rw, bg, some (.l 0), some (.d (.lst es)), none], [.m (acc.map W.d)], g⟩) (b2_ok (s1 := ⟨[some (.d (.int o)), some (.d (.int m)), f, some (.d (.int j)), gw, rw, bg, some (.l 0), some (.d (.lst es)), none], [.m (acc.map W.d)], g⟩) (w := .d (.int x1)) (v := .d (.int x0)) (x := .int x1) (y := .int x0) (sub_d (es := es) (k := (j : Int) + 1) (j := j + 1) rfl rfl ?_ n1) (sub_d (es := es) (k := (j : Int)) (j := j) rfl rfl (ixd_pos (by omega)) n0) rfl rfl rfl) rfl
    have := ixd_pos (n := es.length) (j := j + 1) (by omega)
    simpa using this
end Mn
set_option Elab.async false
set_option linter.all false
set_option maxRecDepth 100000
set_option maxHeartbeats 1000000
namespace Mn
open PySem
def clS : St := seq (st (tN 8) (frz (b2L catL (frz (b2L catL (frz (dsp (args [cs (.int 0)]))) (vr 5))) (frz (dsp (args [vr 0])))))) (ex (app (vr 7) (bi tupD (args [frz (lc [3] (itR rng1 (args [vr 1])) (tN 3) (pur true) (b2 subD (sub (vr 8) (b2 addD (vr 3) (cs (.int 1)))) (sub (vr 8) (vr 3))))]))))
theorem clS_run {o m : Int} {f a gw bg en : Option W} {acc : List D} {g : List Cell} {x : D} (hm : 0 ≤ m ∧ m ≤ 60) (hx : cutB m x = true) (hl : acc.length < 100000) :
    clS (DE o m f a gw (some (.d x)) bg en acc g) = .ok .nx (DE o m f a gw (some (.d x)) bg (some (.d (.lst (endsL o x)))) (acc ++ [cutOf o m x]) g) := by
  match x, hx with
  | .lst xs, hx =>
    obtain ⟨h1, h2⟩ := Bool.and_eq_true_iff.mp (show (xs.all isI && decide ((xs.length : Int) + 1 = m)) = true from hx)
    have h2 := of_decide_eq_true h2
    have e1 : frz (b2L catL (frz (dsp (args [cs (.int 0)]))) (vr 5)) (DE o m f a gw (some (.d (.lst xs))) bg en acc g) = .ok (.d (.lst (.int 0 :: xs))) (DE o m f a gw (some (.d (.lst xs))) bg en acc g) :=
      frz_d (b2L_ok (s1 := DE o m f a gw (some (.d (.lst xs))) bg en acc g) (w := .d (.lst [.int 0])) (v := .d (.lst xs)) (x := .lst [.int 0]) (y := .lst xs) (z := .int 0 :: xs) rfl rfl rfl rfl (by
        show (if [D.int 0].length + xs.length ≤ 16777216 then some ([.int 0] ++ xs) else none) = _
        rw [if_pos (by simp; omega)]; rfl))
    have e2 : frz (b2L catL (frz (b2L catL (frz (dsp (args [cs (.int 0)]))) (vr 5))) (frz (dsp (args [vr 0])))) (DE o m f a gw (some (.d (.lst xs))) bg en acc g) = .ok (.d (.lst (endsL o (.lst xs)))) (DE o m f a gw (some (.d (.lst xs))) bg en acc g) :=
      frz_d (b2L_ok (s1 := DE o m f a gw (some (.d (.lst xs))) bg en acc g) (w := .d (.lst (.int 0 :: xs))) (v := .d (.lst [.int o])) (x := .lst (.int 0 :: xs)) (y := .lst [.int o]) (z := endsL o (.lst xs)) e1 rfl rfl rfl (by
        show (if (D.int 0 :: xs).length + [D.int o].length ≤ 16777216 then some ((.int 0 :: xs) ++ [.int o]) else none) = _
        rw [if_pos (by simp; omega)]; rfl))
    refine r_seq (s1 := DE o m f a gw (some (.d (.lst xs))) bg (some (.d (.lst (endsL o (.lst xs))))) acc g) (st_ok e2 rfl) ?_
    have hE : (endsL o (.lst xs)).all isI = true := by simp [endsL, lOf, isI, List.all_append, h1]
    have hL : ((endsL o (.lst xs)).length : Int) = m + 1 := by simp [endsL, lOf]; omega
    have e3 := dif_run (o := o) (m := m) (f := f) (a := a) (gw := gw) (rw := some (.d (.lst xs))) (bg := bg) (es := endsL o (.lst xs)) (acc := acc) (g := g) hm hE hL
    have e4 : bi tupD (args [frz (lc [3] (itR rng1 (args [vr 1])) (tN 3) (pur true) (b2 subD (sub (vr 8) (b2 addD (vr 3) (cs (.int 1)))) (sub (vr 8) (vr 3))))]) (DE o m f a gw (some (.d (.lst xs))) bg (some (.d (.lst (endsL o (.lst xs))))) acc g) = .ok (.d (cutOf o m (.lst xs))) (DE o m f a gw (some (.d (.lst xs))) bg (some (.d (.lst (endsL o (.lst xs))))) acc g) :=
      bi_ok (args_cons e3 rfl) rfl rfl
    refine ex_ok (w := .d .non) ?_
    refine r_bnd (s1 := DE o m f a gw (some (.d (.lst xs))) bg (some (.d (.lst (endsL o (.lst xs))))) acc g) (a := .l 0) rfl (r_bnd (a := ()) (s1 := DE o m f a gw (some (.d (.lst xs))) bg (some (.d (.lst (endsL o (.lst xs))))) acc g) rfl (r_bnd e4 (r_bnd (a := .d (cutOf o m (.lst xs))) (s1 := DE o m f a gw (some (.d (.lst xs))) bg (some (.d (.lst (endsL o (.lst xs))))) acc g) rfl ?_)))
    show (if (acc.map W.d).length < 16777216 then Out.ok (W.d .non) _ else .stuck) = _
    rw [if_pos (by simp; omega)]
    simp [DE, upAt]
end Mn
set_option Elab.async false
set_option linter.all false
set_option maxRecDepth 100000
set_option maxHeartbeats 1000000
namespace Mn
open PySem
theorem cuts_run {o m : Int} {g : List Cell} (ho : 0 ≤ o ∧ o ≤ 60 ∧ 1 ≤ m ∧ m ≤ 60) (hB : lrowB o m = true) (hC : (lrow o m (m - 1).toNat).all (cutB m) = true) (hl : (lrow o m (m - 1).toNat).length ≤ 2000) :
    F_law_cuts [.d (.int o), .d (.int m)] g = .ok (.d (.lst ((lrow o m (m - 1).toNat).map (cutOf o m)))) g := by
  obtain ⟨a, gw, rw, bg, q⟩ := rows_run (o := o) (m := m) (g := g) ho hB
  generalize hR : lrow o m (m - 1).toNat = R at hC hl q
  obtain ⟨s', q2, rw', en', p⟩ := forS_inv (it := itS (vr 2)) (g := tN 5) (b := clS) (s := DE o m (some (.d (.lst R))) a gw rw bg none [] g) (s0 := DE o m (some (.d (.lst R))) a gw rw bg none [] g) (xs := R)
    (fun i s => ∃ rw en, s = DE o m (some (.d (.lst R))) a gw rw bg en ((R.take i).map (cutOf o m)) g) rfl ⟨_, _, rfl⟩
    fun i x s hx ⟨rw, en, hs⟩ => by
      subst hs
      have hx2 := List.all_eq_true.mp hC x (List.mem_of_getElem? hx)
      refine ⟨DE o m (some (.d (.lst R))) a gw (some (.d x)) bg en ((R.take i).map (cutOf o m)) g, _, rfl, clS_run (by omega) hx2 (by simp; omega), some (.d x), some (.d (.lst (endsL o x))), ?_⟩
      rw [List.take_add_one, hx]
      simp
  rw [List.take_length] at p
  have h : b_law_cuts ⟨[some (.d (.int o)), some (.d (.int m)), none, none, none, none, none, none, none, none], [], g⟩ = .ok (.rt (.l 0)) (DE o m (some (.d (.lst R))) a gw rw' bg en' (R.map (cutOf o m)) g) := by
    refine r_seq (s1 := CE o m (some (.d (.lst [.lst []]))) none none none none g) rfl (r_seq q (r_seq (s1 := DE o m (some (.d (.lst R))) a gw rw bg none [] g) rfl (r_seq q2 ?_)))
    rw [p]
    rfl
  have e := congrArg fo h
  refine e.trans ?_
  show (match toA (.l 0) (DE o m (some (.d (.lst R))) a gw rw' bg en' (R.map (cutOf o m)) g) with | .ok v s1 => Fo.ok v s1.g | _ => .stuck) = _
  have ha : ∀ l : List D, allD (l.map W.d) = some l := fun l => by
    induction l with
    | nil => rfl
    | cons x l ih => simp [allD, ih]
  have e5 : toD (.l 0) (DE o m (some (.d (.lst R))) a gw rw' bg en' (R.map (cutOf o m)) g) = .ok (.lst (R.map (cutOf o m))) { (DE o m (some (.d (.lst R))) a gw rw' bg en' (R.map (cutOf o m)) g) with l := [.f (R.map (cutOf o m))] } := by
    show (match allD ((R.map (cutOf o m)).map W.d) with | some ds => Out.ok (D.lst ds) _ | none => .stuck) = _
    rw [ha]
    rfl
  show (match bnd (toD (.l 0)) (fun x => pur (.d x)) (DE o m (some (.d (.lst R))) a gw rw' bg en' (R.map (cutOf o m)) g) with | .ok v s1 => Fo.ok v s1.g | _ => .stuck) = _
  rw [bnd_ok e5]
  rfl
end Mn
set_option Elab.async false
set_option linter.all false
set_option maxRecDepth 100000
set_option maxHeartbeats 1000000
namespace Mn
open PySem
theorem lc_int {v : Nat} {it : M (List D)} {c : M Bool} {f : M W} {s : Sx} (is : List Int) (p : Int → Bool) (y : Int → D) (hit : it s = .ok (is.map D.int) s)
    (h : ∀ i ∈ is, c ⟨upAt (upAt s.e v none) v (some (.d (.int i))), s.l, s.g⟩ = .ok (p i) ⟨upAt (upAt s.e v none) v (some (.d (.int i))), s.l, s.g⟩ ∧ (p i = true → bnd f toD ⟨upAt (upAt s.e v none) v (some (.d (.int i))), s.l, s.g⟩ = .ok (y i) ⟨upAt (upAt s.e v none) v (some (.d (.int i))), s.l, s.g⟩)) (hl : is.length ≤ 16777216) :
    lc [v] it (tN v) c f s = .ok (((is.filter p).map y).map W.d) s := by
  have e := lc_run (vs := [v]) (g := tN v) (c := c) (f := f) (fun x => match x with | .int i => p i | _ => false) (fun x => match x with | .int i => y i | _ => .non) hit (fun x hx => ?_) (by simpa using hl)
  · rw [e]; congr 2
    simp [List.filter_map, Function.comp_def]
  · obtain ⟨i, hi, rfl⟩ := List.mem_map.mp hx
    exact ⟨_, rfl, (h i hi).1, (h i hi).2⟩
def op : Option Int → D
  | none => .non
  | some i => .int i
theorem nth_upAt {α : Type} : ∀ (l : List α) (i j : Nat) (y : α), nth (upAt l i y) j = if i = j then (nth l j).map fun _ => y else nth l j
  | [], i, j, y => by simp [upAt, nth]
  | x :: r, 0, 0, y => rfl
  | x :: r, 0, j + 1, y => by simp [upAt, nth]
  | x :: r, i + 1, 0, y => by simp [upAt, nth]
  | x :: r, i + 1, j + 1, y => by simp [upAt, nth, nth_upAt r i j y]
theorem upAt_len {α : Type} : ∀ (l : List α) (i : Nat) (y : α), (upAt l i y).length = l.length
  | [], _, _ => rfl
  | _ :: _, 0, _ => rfl
  | _ :: r, i + 1, y => by simp [upAt, upAt_len r i y]
def iot (lo : Int) : Nat → List Int
  | 0 => []
  | n + 1 => lo :: iot (lo + 1) n
theorem upTo_iot : ∀ (n : Nat) (lo : Int), upTo lo n = (iot lo n).map D.int
  | 0, _ => rfl
  | n + 1, lo => by simp [upTo, iot, upTo_iot n]
theorem iot_len : ∀ (n : Nat) (lo : Int), (iot lo n).length = n
  | 0, _ => rfl
  | n + 1, lo => by simp [iot, iot_len n]
theorem iot_mem : ∀ (n : Nat) (lo i : Int), i ∈ iot lo n ↔ lo ≤ i ∧ i < lo + n
  | 0, lo, i => by simp [iot]
  | n + 1, lo, i => by simp only [iot, List.mem_cons, iot_mem n (lo + 1) i]; omega
def at_ (lt : List (Option Int)) (i : Int) : Option Int := lt.getD i.toNat none
def szs (lt : List (Option Int)) (c : Int) : List Int := (iot 1 (c - 1).toNat).filter fun s => (at_ lt (c - s)).isSome
def val (lt : List (Option Int)) (f : Int → Int) (c s : Int) : Int := f s * (at_ lt (c - s)).getD 0
def ent (mn : Int → List Int → Int) (f : Int → Int) (lt : List (Option Int)) (c : Int) : Option Int := match (szs lt c).map (val lt f c) with | [] => none | n :: ns => some (mn n ns)
def lc1 : M (List W) := lc [8] (itR rng2 (args [cs (.int 1), vr 6])) (tN 8) (tst (b2 notN (sub (vr 5) (b2 subD (vr 6) (vr 8))) (cs .non))) (vr 8)
def lc2_ : M (List W) := lc [8] (itS (vr 7)) (tN 8) (pur true) (b2 mulD (b2 addD (vr 8) (cs (.int 1))) (sub (vr 5) (b2 subD (vr 6) (vr 8))))
def lc3_ : M (List W) := lc [8] (itS (vr 7)) (tN 8) (pur true) (b2 mulD (vr 8) (sub (vr 5) (b2 subD (vr 6) (vr 8))))
section
variable {o m : Int} {a b k : Nat} {at' w7 w8 : Option W} {c : Int} {l g : List Cell} {lt : List (Option Int)}
def LE (o m : Int) (a b k : Nat) (at' w7 : Option W) (c : Int) (l g : List Cell) : Sx := ⟨[some (.d (.int o)), some (.d (.int m)), some (.l a), some (.l b), at', some (.l k), some (.d (.int c)), w7, none], l, g⟩
theorem nth_lt {α : Type} {x : α} : ∀ (l : List α) (i : Nat), nth l i = some x → i < l.length
  | y :: r, 0, _ => by simp
  | y :: r, i + 1, h => by have := nth_lt r i h; simp; omega
theorem at_nth {lt : List (Option Int)} {i : Int} (h0 : 0 ≤ i) (h1 : i < lt.length) : nth lt i.toNat = some (at_ lt i) := by
  unfold at_
  rw [nth_eq, List.getD_eq_getElem?_getD, List.getElem?_eq_getElem (show i.toNat < lt.length by omega)]
  rfl
theorem lc1_run (hk : nth l k = some (.m ((lt.map op).map W.d))) (h1 : 1 ≤ c) (h2 : c ≤ lt.length) (h3 : c ≤ 100) :
    lc1 (LE o m a b k at' w7 c l g) = .ok (((szs lt c).map D.int).map W.d) (LE o m a b k at' w7 c l g) := by
  refine lc_int (v := 8) (s := LE o m a b k at' w7 c l g) (iot 1 (c - 1).toNat) (fun s => (at_ lt (c - s)).isSome) D.int ?_ (fun i hi => ?_) (by rw [iot_len]; omega)
  · unfold LE
    have hr : rng2 [.int 1, .int c] = some (upTo 1 (c - 1).toNat) := by unfold rng2; dsimp only; rw [smallI (by omega) (by omega), smallI (by omega) (by omega)]; rfl
    simp only [ob_ok, ob_exc, ob_stuck, ob_ite, oz_some, oz_none, oz_ite, bnd_ob, ap_ite, pur_ap, opt_ap, nth0, nthS, upAt0, upAtS, vr_ap, cs_ap, u1_ob, b2_ob, b2L_ob, args0, argsS, bi_ob, biL_ob, tst_ob, bool_bl, andT_ob, orT_ob, notT_ob, andV_ob, orV_ob, notV_ob, ite_ob, ifS_ob, skip_ap, sq_nx, sq_rt, sq_bk, sq_ct, sq_exc, sq_stuck, sq_ite, seq_sq, ex_ob, rt_ob, st_ob, pt_n, pt_t, pt_tu, tGo0, tGoS, tup_ob, dsp_ob, frz_ob, own_ob, glo_ob, toDs0, toDsS, toD_d, toAs0, toAsS, toA_d, toA_g, fx_ok, fx_exc, fx_ite, cl_ob, fo_ite, fo_nx, fo_rtd, fo_rtg, fo_exc, fo_stuck, intI_int, sub_ob, chkL_ap, app_ob, pop_ob, popAt_ob, setS_ob, par_ob, forS_ob, itS_ob, itR_ob, lp_nx, lp_ct, lp_bk, lp_rt, lp_exc, lp_stuck, lp_ite, pk_d, pks0, pksS, items_t, items_u, items_d, nrm, lstAt, lstPut, pk_l', pk_g, items_l, items_g, allD_map, allD, fn_ap, oz_map, nth_mapW, List.length_map, ixd_0, ixd_1, ixd_2, ixd_3, lamc_fx, capt, lamT_ap, lt_okd, lt_exc, thk_ap, tryS_ty, ty_ok, ty_stuck, eqD_ii, neD_ii, eqD_ss, neD_ss, lt_ii, le_ii, gt_ii, ge_ii, add_ii, sub_ii, neg_i, List.map_cons, List.map_nil, List.length_cons, List.length_nil, List.zip_cons_cons, List.zip_nil_right, List.zip_nil_left, List.foldl_cons, List.foldl_nil, List.replicate, List.cons_append, List.nil_append, Nat.reduceAdd, Nat.reduceSub, Nat.reduceLeDiff, Nat.reduceLT, Int.reduceLT, Int.reduceLE, Int.reduceAdd, Int.reduceSub, Int.reduceNeg, Int.reduceMul, Bool.not_true, Bool.not_false, decide_eq_true_eq, Bool.not_eq_true', decide_eq_false_iff_not, if_true, if_false, reduceIte, Nat.zero_le, true_and, and_true, seqD, k_u1_ap, k_b2y_ap, k_b2_ap, k_b2Ly_ap, k_b2L_ap, k_argc_ap, k_args_ap, k_bi_ap, k_biL_ap, k_andT_ap, k_orT_ap, k_notT_ap, k_andB_ap, k_andV_ap, k_orB_ap, k_orV_ap, k_notB_ap, k_notV_ap, k_ite_ap, k_ifS_ap, k_ex_ap, k_rt_ap, k_mktup_ap, k_mklst_ap, k_tup_ap, k_dsp_ap, k_frz_ap, k_own_ap, k_glo_ap, k_dc_ap, k_ds_ap, k_as_ap, k_wd_ap, k_call_ap, k_cl_ap, k_suby_ap, k_sub_ap, k_appx_ap, k_appv_ap, k_appc_ap, k_app_ap, k_pop_ap, k_popAv_ap, k_popAc_ap, k_popA_ap, k_setv_ap, k_seti_ap, k_seto_ap, k_set_ap, k_par_ap, k_seqD_ap, k_itS_ap, k_itR_ap, k_whl_ap, k_clK_ap, hr, upTo_iot]
  · rw [iot_mem] at hi
    unfold LE
    have hx : ixd lt.length (c - i) = some (c - i).toNat := ixd_in (by omega) (by omega)
    have hn := at_nth (lt := lt) (i := c - i) (by omega) (by omega)
    constructor
    · cases q : at_ lt (c - i) with
      | none => simp only [ob_ok, ob_exc, ob_stuck, ob_ite, oz_some, oz_none, oz_ite, bnd_ob, ap_ite, pur_ap, opt_ap, nth0, nthS, upAt0, upAtS, vr_ap, cs_ap, u1_ob, b2_ob, b2L_ob, args0, argsS, bi_ob, biL_ob, tst_ob, bool_bl, andT_ob, orT_ob, notT_ob, andV_ob, orV_ob, notV_ob, ite_ob, ifS_ob, skip_ap, sq_nx, sq_rt, sq_bk, sq_ct, sq_exc, sq_stuck, sq_ite, seq_sq, ex_ob, rt_ob, st_ob, pt_n, pt_t, pt_tu, tGo0, tGoS, tup_ob, dsp_ob, frz_ob, own_ob, glo_ob, toDs0, toDsS, toD_d, toAs0, toAsS, toA_d, toA_g, fx_ok, fx_exc, fx_ite, cl_ob, fo_ite, fo_nx, fo_rtd, fo_rtg, fo_exc, fo_stuck, intI_int, sub_ob, chkL_ap, app_ob, pop_ob, popAt_ob, setS_ob, par_ob, forS_ob, itS_ob, itR_ob, lp_nx, lp_ct, lp_bk, lp_rt, lp_exc, lp_stuck, lp_ite, pk_d, pks0, pksS, items_t, items_u, items_d, nrm, lstAt, lstPut, pk_l', pk_g, items_l, items_g, allD_map, allD, fn_ap, oz_map, nth_mapW, List.length_map, ixd_0, ixd_1, ixd_2, ixd_3, lamc_fx, capt, lamT_ap, lt_okd, lt_exc, thk_ap, tryS_ty, ty_ok, ty_stuck, eqD_ii, neD_ii, eqD_ss, neD_ss, lt_ii, le_ii, gt_ii, ge_ii, add_ii, sub_ii, neg_i, List.map_cons, List.map_nil, List.length_cons, List.length_nil, List.zip_cons_cons, List.zip_nil_right, List.zip_nil_left, List.foldl_cons, List.foldl_nil, List.replicate, List.cons_append, List.nil_append, Nat.reduceAdd, Nat.reduceSub, Nat.reduceLeDiff, Nat.reduceLT, Int.reduceLT, Int.reduceLE, Int.reduceAdd, Int.reduceSub, Int.reduceNeg, Int.reduceMul, Bool.not_true, Bool.not_false, decide_eq_true_eq, Bool.not_eq_true', decide_eq_false_iff_not, if_true, if_false, reduceIte, Nat.zero_le, true_and, and_true, seqD, k_u1_ap, k_b2y_ap, k_b2_ap, k_b2Ly_ap, k_b2L_ap, k_argc_ap, k_args_ap, k_bi_ap, k_biL_ap, k_andT_ap, k_orT_ap, k_notT_ap, k_andB_ap, k_andV_ap, k_orB_ap, k_orV_ap, k_notB_ap, k_notV_ap, k_ite_ap, k_ifS_ap, k_ex_ap, k_rt_ap, k_mktup_ap, k_mklst_ap, k_tup_ap, k_dsp_ap, k_frz_ap, k_own_ap, k_glo_ap, k_dc_ap, k_ds_ap, k_as_ap, k_wd_ap, k_call_ap, k_cl_ap, k_suby_ap, k_sub_ap, k_appx_ap, k_appv_ap, k_appc_ap, k_app_ap, k_pop_ap, k_popAv_ap, k_popAc_ap, k_popA_ap, k_setv_ap, k_seti_ap, k_seto_ap, k_set_ap, k_par_ap, k_seqD_ap, k_itS_ap, k_itR_ap, k_whl_ap, k_clK_ap, hk, hx, hn, q, op, notN, isNone, Option.isSome]
      | some z => simp only [ob_ok, ob_exc, ob_stuck, ob_ite, oz_some, oz_none, oz_ite, bnd_ob, ap_ite, pur_ap, opt_ap, nth0, nthS, upAt0, upAtS, vr_ap, cs_ap, u1_ob, b2_ob, b2L_ob, args0, argsS, bi_ob, biL_ob, tst_ob, bool_bl, andT_ob, orT_ob, notT_ob, andV_ob, orV_ob, notV_ob, ite_ob, ifS_ob, skip_ap, sq_nx, sq_rt, sq_bk, sq_ct, sq_exc, sq_stuck, sq_ite, seq_sq, ex_ob, rt_ob, st_ob, pt_n, pt_t, pt_tu, tGo0, tGoS, tup_ob, dsp_ob, frz_ob, own_ob, glo_ob, toDs0, toDsS, toD_d, toAs0, toAsS, toA_d, toA_g, fx_ok, fx_exc, fx_ite, cl_ob, fo_ite, fo_nx, fo_rtd, fo_rtg, fo_exc, fo_stuck, intI_int, sub_ob, chkL_ap, app_ob, pop_ob, popAt_ob, setS_ob, par_ob, forS_ob, itS_ob, itR_ob, lp_nx, lp_ct, lp_bk, lp_rt, lp_exc, lp_stuck, lp_ite, pk_d, pks0, pksS, items_t, items_u, items_d, nrm, lstAt, lstPut, pk_l', pk_g, items_l, items_g, allD_map, allD, fn_ap, oz_map, nth_mapW, List.length_map, ixd_0, ixd_1, ixd_2, ixd_3, lamc_fx, capt, lamT_ap, lt_okd, lt_exc, thk_ap, tryS_ty, ty_ok, ty_stuck, eqD_ii, neD_ii, eqD_ss, neD_ss, lt_ii, le_ii, gt_ii, ge_ii, add_ii, sub_ii, neg_i, List.map_cons, List.map_nil, List.length_cons, List.length_nil, List.zip_cons_cons, List.zip_nil_right, List.zip_nil_left, List.foldl_cons, List.foldl_nil, List.replicate, List.cons_append, List.nil_append, Nat.reduceAdd, Nat.reduceSub, Nat.reduceLeDiff, Nat.reduceLT, Int.reduceLT, Int.reduceLE, Int.reduceAdd, Int.reduceSub, Int.reduceNeg, Int.reduceMul, Bool.not_true, Bool.not_false, decide_eq_true_eq, Bool.not_eq_true', decide_eq_false_iff_not, if_true, if_false, reduceIte, Nat.zero_le, true_and, and_true, seqD, k_u1_ap, k_b2y_ap, k_b2_ap, k_b2Ly_ap, k_b2L_ap, k_argc_ap, k_args_ap, k_bi_ap, k_biL_ap, k_andT_ap, k_orT_ap, k_notT_ap, k_andB_ap, k_andV_ap, k_orB_ap, k_orV_ap, k_notB_ap, k_notV_ap, k_ite_ap, k_ifS_ap, k_ex_ap, k_rt_ap, k_mktup_ap, k_mklst_ap, k_tup_ap, k_dsp_ap, k_frz_ap, k_own_ap, k_glo_ap, k_dc_ap, k_ds_ap, k_as_ap, k_wd_ap, k_call_ap, k_cl_ap, k_suby_ap, k_sub_ap, k_appx_ap, k_appv_ap, k_appc_ap, k_app_ap, k_pop_ap, k_popAv_ap, k_popAc_ap, k_popA_ap, k_setv_ap, k_seti_ap, k_seto_ap, k_set_ap, k_par_ap, k_seqD_ap, k_itS_ap, k_itR_ap, k_whl_ap, k_clK_ap, hk, hx, hn, q, op, notN, isNone, Option.isSome]
    · intro _; rfl
theorem szs_mem {c i : Int} (h : i ∈ szs lt c) : 1 ≤ i ∧ i < c ∧ ∃ z, at_ lt (c - i) = some z := by
  unfold szs at h
  rw [List.mem_filter, iot_mem] at h
  exact ⟨h.1.1, by omega, Option.isSome_iff_exists.mp h.2⟩
theorem szs_len {c : Int} : (szs lt c).length ≤ (c - 1).toNat := Nat.le_trans (List.length_filter_le ..) (by rw [iot_len]; exact Nat.le_refl _)
theorem few_s {i : Int} (h1 : 0 ≤ i) (h2 : i ≤ 1000) : few i = true := by
  unfold few; rw [decide_eq_true (by omega), decide_eq_true (by omega)]; rfl
theorem few_mul {a b : Int} (h : few a = true) : mulD (.int a) (.int b) = some (.int (a * b)) := by
  unfold mulD; dsimp only; rw [h, Bool.true_or, if_pos rfl]
theorem lc2_run' (hk : nth l k = some (.m ((lt.map op).map W.d))) (h1 : 1 ≤ c) (h2 : c ≤ lt.length) (h3 : c ≤ 100) :
    lc2_ (LE o m a b k at' (some (.d (.lst ((szs lt c).map D.int)))) c l g) = .ok ((((szs lt c).map (val lt (· + 1) c)).map D.int).map W.d) (LE o m a b k at' (some (.d (.lst ((szs lt c).map D.int)))) c l g) := by
  have e := lc_int (v := 8) (it := itS (vr 7)) (c := pur true) (f := b2 mulD (b2 addD (vr 8) (cs (.int 1))) (sub (vr 5) (b2 subD (vr 6) (vr 8)))) (s := LE o m a b k at' (some (.d (.lst ((szs lt c).map D.int)))) c l g) (szs lt c) (fun _ => true) (fun s => .int (val lt (· + 1) c s)) rfl (fun i hi => ?_) (by have := szs_len (lt := lt) (c := c); omega)
  · rw [List.filter_eq_self.mpr fun _ _ => rfl] at e
    rw [lc2_, e]; simp [List.map_map, Function.comp_def]
  · obtain ⟨hi1, hi2, z, hz⟩ := szs_mem hi
    refine ⟨rfl, fun _ => ?_⟩
    unfold LE
    have hx : ixd lt.length (c - i) = some (c - i).toNat := ixd_in (by omega) (by omega)
    have hn := at_nth (lt := lt) (i := c - i) (by omega) (by omega)
    simp only [ob_ok, ob_exc, ob_stuck, ob_ite, oz_some, oz_none, oz_ite, bnd_ob, ap_ite, pur_ap, opt_ap, nth0, nthS, upAt0, upAtS, vr_ap, cs_ap, u1_ob, b2_ob, b2L_ob, args0, argsS, bi_ob, biL_ob, tst_ob, bool_bl, andT_ob, orT_ob, notT_ob, andV_ob, orV_ob, notV_ob, ite_ob, ifS_ob, skip_ap, sq_nx, sq_rt, sq_bk, sq_ct, sq_exc, sq_stuck, sq_ite, seq_sq, ex_ob, rt_ob, st_ob, pt_n, pt_t, pt_tu, tGo0, tGoS, tup_ob, dsp_ob, frz_ob, own_ob, glo_ob, toDs0, toDsS, toD_d, toAs0, toAsS, toA_d, toA_g, fx_ok, fx_exc, fx_ite, cl_ob, fo_ite, fo_nx, fo_rtd, fo_rtg, fo_exc, fo_stuck, intI_int, sub_ob, chkL_ap, app_ob, pop_ob, popAt_ob, setS_ob, par_ob, forS_ob, itS_ob, itR_ob, lp_nx, lp_ct, lp_bk, lp_rt, lp_exc, lp_stuck, lp_ite, pk_d, pks0, pksS, items_t, items_u, items_d, nrm, lstAt, lstPut, pk_l', pk_g, items_l, items_g, allD_map, allD, fn_ap, oz_map, nth_mapW, List.length_map, ixd_0, ixd_1, ixd_2, ixd_3, lamc_fx, capt, lamT_ap, lt_okd, lt_exc, thk_ap, tryS_ty, ty_ok, ty_stuck, eqD_ii, neD_ii, eqD_ss, neD_ss, lt_ii, le_ii, gt_ii, ge_ii, add_ii, sub_ii, neg_i, List.map_cons, List.map_nil, List.length_cons, List.length_nil, List.zip_cons_cons, List.zip_nil_right, List.zip_nil_left, List.foldl_cons, List.foldl_nil, List.replicate, List.cons_append, List.nil_append, Nat.reduceAdd, Nat.reduceSub, Nat.reduceLeDiff, Nat.reduceLT, Int.reduceLT, Int.reduceLE, Int.reduceAdd, Int.reduceSub, Int.reduceNeg, Int.reduceMul, Bool.not_true, Bool.not_false, decide_eq_true_eq, Bool.not_eq_true', decide_eq_false_iff_not, if_true, if_false, reduceIte, Nat.zero_le, true_and, and_true, seqD, k_u1_ap, k_b2y_ap, k_b2_ap, k_b2Ly_ap, k_b2L_ap, k_argc_ap, k_args_ap, k_bi_ap, k_biL_ap, k_andT_ap, k_orT_ap, k_notT_ap, k_andB_ap, k_andV_ap, k_orB_ap, k_orV_ap, k_notB_ap, k_notV_ap, k_ite_ap, k_ifS_ap, k_ex_ap, k_rt_ap, k_mktup_ap, k_mklst_ap, k_tup_ap, k_dsp_ap, k_frz_ap, k_own_ap, k_glo_ap, k_dc_ap, k_ds_ap, k_as_ap, k_wd_ap, k_call_ap, k_cl_ap, k_suby_ap, k_sub_ap, k_appx_ap, k_appv_ap, k_appc_ap, k_app_ap, k_pop_ap, k_popAv_ap, k_popAc_ap, k_popA_ap, k_setv_ap, k_seti_ap, k_seto_ap, k_set_ap, k_par_ap, k_seqD_ap, k_itS_ap, k_itR_ap, k_whl_ap, k_clK_ap, hk, hx, hn, hz, op, few_mul (few_s (show 0 ≤ i + 1 by omega) (by omega)), val, Option.getD]
theorem lc3_run' (hk : nth l k = some (.m ((lt.map op).map W.d))) (h1 : 1 ≤ c) (h2 : c ≤ lt.length) (h3 : c ≤ 100) :
    lc3_ (LE o m a b k at' (some (.d (.lst ((szs lt c).map D.int)))) c l g) = .ok ((((szs lt c).map (val lt id c)).map D.int).map W.d) (LE o m a b k at' (some (.d (.lst ((szs lt c).map D.int)))) c l g) := by
  have e := lc_int (v := 8) (it := itS (vr 7)) (c := pur true) (f := b2 mulD (vr 8) (sub (vr 5) (b2 subD (vr 6) (vr 8)))) (s := LE o m a b k at' (some (.d (.lst ((szs lt c).map D.int)))) c l g) (szs lt c) (fun _ => true) (fun s => .int (val lt id c s)) rfl (fun i hi => ?_) (by have := szs_len (lt := lt) (c := c); omega)
  · rw [List.filter_eq_self.mpr fun _ _ => rfl] at e
    rw [lc3_, e]; simp [List.map_map, Function.comp_def]
  · obtain ⟨hi1, hi2, z, hz⟩ := szs_mem hi
    refine ⟨rfl, fun _ => ?_⟩
    unfold LE
    have hx : ixd lt.length (c - i) = some (c - i).toNat := ixd_in (by omega) (by omega)
    have hn := at_nth (lt := lt) (i := c - i) (by omega) (by omega)
    simp only [ob_ok, ob_exc, ob_stuck, ob_ite, oz_some, oz_none, oz_ite, bnd_ob, ap_ite, pur_ap, opt_ap, nth0, nthS, upAt0, upAtS, vr_ap, cs_ap, u1_ob, b2_ob, b2L_ob, args0, argsS, bi_ob, biL_ob, tst_ob, bool_bl, andT_ob, orT_ob, notT_ob, andV_ob, orV_ob, notV_ob, ite_ob, ifS_ob, skip_ap, sq_nx, sq_rt, sq_bk, sq_ct, sq_exc, sq_stuck, sq_ite, seq_sq, ex_ob, rt_ob, st_ob, pt_n, pt_t, pt_tu, tGo0, tGoS, tup_ob, dsp_ob, frz_ob, own_ob, glo_ob, toDs0, toDsS, toD_d, toAs0, toAsS, toA_d, toA_g, fx_ok, fx_exc, fx_ite, cl_ob, fo_ite, fo_nx, fo_rtd, fo_rtg, fo_exc, fo_stuck, intI_int, sub_ob, chkL_ap, app_ob, pop_ob, popAt_ob, setS_ob, par_ob, forS_ob, itS_ob, itR_ob, lp_nx, lp_ct, lp_bk, lp_rt, lp_exc, lp_stuck, lp_ite, pk_d, pks0, pksS, items_t, items_u, items_d, nrm, lstAt, lstPut, pk_l', pk_g, items_l, items_g, allD_map, allD, fn_ap, oz_map, nth_mapW, List.length_map, ixd_0, ixd_1, ixd_2, ixd_3, lamc_fx, capt, lamT_ap, lt_okd, lt_exc, thk_ap, tryS_ty, ty_ok, ty_stuck, eqD_ii, neD_ii, eqD_ss, neD_ss, lt_ii, le_ii, gt_ii, ge_ii, add_ii, sub_ii, neg_i, List.map_cons, List.map_nil, List.length_cons, List.length_nil, List.zip_cons_cons, List.zip_nil_right, List.zip_nil_left, List.foldl_cons, List.foldl_nil, List.replicate, List.cons_append, List.nil_append, Nat.reduceAdd, Nat.reduceSub, Nat.reduceLeDiff, Nat.reduceLT, Int.reduceLT, Int.reduceLE, Int.reduceAdd, Int.reduceSub, Int.reduceNeg, Int.reduceMul, Bool.not_true, Bool.not_false, decide_eq_true_eq, Bool.not_eq_true', decide_eq_false_iff_not, if_true, if_false, reduceIte, Nat.zero_le, true_and, and_true, seqD, k_u1_ap, k_b2y_ap, k_b2_ap, k_b2Ly_ap, k_b2L_ap, k_argc_ap, k_args_ap, k_bi_ap, k_biL_ap, k_andT_ap, k_orT_ap, k_notT_ap, k_andB_ap, k_andV_ap, k_orB_ap, k_orV_ap, k_notB_ap, k_notV_ap, k_ite_ap, k_ifS_ap, k_ex_ap, k_rt_ap, k_mktup_ap, k_mklst_ap, k_tup_ap, k_dsp_ap, k_frz_ap, k_own_ap, k_glo_ap, k_dc_ap, k_ds_ap, k_as_ap, k_wd_ap, k_call_ap, k_cl_ap, k_suby_ap, k_sub_ap, k_appx_ap, k_appv_ap, k_appc_ap, k_app_ap, k_pop_ap, k_popAv_ap, k_popAc_ap, k_popA_ap, k_setv_ap, k_seti_ap, k_seto_ap, k_set_ap, k_par_ap, k_seqD_ap, k_itS_ap, k_itR_ap, k_whl_ap, k_clK_ap, hk, hx, hn, hz, op, few_mul (few_s (show 0 ≤ i by omega) (by omega)), val, Option.getD, id]
/-- the least or the greatest of a list -/
def Ag (mD : List D → Option D) (mn : Int → List Int → Int) : Prop := ∀ (n : Int) (ns : List Int), mD [.lst ((n :: ns).map D.int)] = some (.int (mn n ns))
theorem intsD_map : ∀ ns : List Int, intsD (ns.map D.int) = some ns
  | [] => rfl
  | n :: ns => by simp [intsD, intsD_map ns]
theorem ag_min : Ag minD leastI := fun n ns => by
  have := intsD_map (n :: ns)
  simp only [minD, this]
theorem ag_max : Ag maxD mostI := fun n ns => by
  have := intsD_map (n :: ns)
  simp only [maxD, this]
def cS (mD : List D → Option D) : St := seq (Mn.st (tN 7) (frz lc1)) (seq (ex (app (vr 2) (ite (tst (b2 neD (vr 7) (frz (dsp (args []))))) (bi mD (args [frz lc2_])) (cs .non)))) (ex (app (vr 3) (ite (tst (b2 neD (vr 7) (frz (dsp (args []))))) (bi mD (args [frz lc3_])) (cs .non)))))
theorem agg {mD mn} (hm : Ag mD mn) {f : Int → Int} {c : Int} (hne : szs lt c ≠ []) : mD [.lst (((szs lt c).map (val lt f c)).map D.int)] = some (op (ent mn f lt c)) := by
  unfold ent
  cases q : (szs lt c).map (val lt f c) with
  | nil => simp at q; exact absurd q hne
  | cons n ns => exact hm n ns
theorem ent_nil {mn} {f : Int → Int} {c : Int} (h : szs lt c = []) : ent mn f lt c = none := by unfold ent; rw [h]; rfl
theorem cS_run {mD mn} (hm : Ag mD mn) {A B : List D} (hk : nth l k = some (.m ((lt.map op).map W.d))) (ha : nth l a = some (.m (A.map W.d))) (hb : nth l b = some (.m (B.map W.d))) (hab : a ≠ b) (hka : a ≠ k) (hkb : b ≠ k)
    (hA : A.length < 1000) (hB : B.length < 1000) (h1 : 1 ≤ c) (h2 : c ≤ lt.length) (h3 : c ≤ 100) :
    cS mD (LE o m a b k at' w7 c l g) = .ok .nx (LE o m a b k at' (some (.d (.lst ((szs lt c).map D.int)))) c (upAt (upAt l a (.m ((A ++ [op (ent mn (· + 1) lt c)]).map W.d))) b (.m ((B ++ [op (ent mn id lt c)]).map W.d))) g) := by
  have e1 := lc1_run (o := o) (m := m) (a := a) (b := b) (at' := at') (w7 := w7) (g := g) hk h1 h2 h3
  have hA' : A.length < 16777216 := by omega
  have hB' : B.length < 16777216 := by omega
  have hk' : nth (upAt l a (.m ((A.map W.d) ++ [.d (op (ent mn (· + 1) lt c))]))) k = some (.m ((lt.map op).map W.d)) := by rw [nth_upAt, if_neg hka]; exact hk
  have hb' : nth (upAt l a (.m ((A.map W.d) ++ [.d (op (ent mn (· + 1) lt c))]))) b = some (.m (B.map W.d)) := by rw [nth_upAt, if_neg hab]; exact hb
  have e2 := lc2_run' (o := o) (m := m) (a := a) (b := b) (at' := at') (g := g) hk h1 h2 h3
  have e3 := lc3_run' (o := o) (m := m) (a := a) (b := b) (at' := at') (g := g) hk' h1 h2 h3
  unfold LE at e1 e2 e3 ⊢
  unfold cS
  by_cases hne : szs lt c = []
  · simp only [hne, List.map_nil] at e1 e2 e3
    have n1 := ent_nil (mn := mn) (f := (· + 1)) hne
    have n2 := ent_nil (mn := mn) (f := id) hne
    simp only [n1, op] at hb'
    simp only [ob_ok, ob_exc, ob_stuck, ob_ite, oz_some, oz_none, oz_ite, bnd_ob, ap_ite, pur_ap, opt_ap, nth0, nthS, upAt0, upAtS, vr_ap, cs_ap, u1_ob, b2_ob, b2L_ob, args0, argsS, bi_ob, biL_ob, tst_ob, bool_bl, andT_ob, orT_ob, notT_ob, andV_ob, orV_ob, notV_ob, ite_ob, ifS_ob, skip_ap, sq_nx, sq_rt, sq_bk, sq_ct, sq_exc, sq_stuck, sq_ite, seq_sq, ex_ob, rt_ob, st_ob, pt_n, pt_t, pt_tu, tGo0, tGoS, tup_ob, dsp_ob, frz_ob, own_ob, glo_ob, toDs0, toDsS, toD_d, toAs0, toAsS, toA_d, toA_g, fx_ok, fx_exc, fx_ite, cl_ob, fo_ite, fo_nx, fo_rtd, fo_rtg, fo_exc, fo_stuck, intI_int, sub_ob, chkL_ap, app_ob, pop_ob, popAt_ob, setS_ob, par_ob, forS_ob, itS_ob, itR_ob, lp_nx, lp_ct, lp_bk, lp_rt, lp_exc, lp_stuck, lp_ite, pk_d, pks0, pksS, items_t, items_u, items_d, nrm, lstAt, lstPut, pk_l', pk_g, items_l, items_g, allD_map, allD, fn_ap, oz_map, nth_mapW, List.length_map, ixd_0, ixd_1, ixd_2, ixd_3, lamc_fx, capt, lamT_ap, lt_okd, lt_exc, thk_ap, tryS_ty, ty_ok, ty_stuck, eqD_ii, neD_ii, eqD_ss, neD_ss, lt_ii, le_ii, gt_ii, ge_ii, add_ii, sub_ii, neg_i, List.map_cons, List.map_nil, List.length_cons, List.length_nil, List.zip_cons_cons, List.zip_nil_right, List.zip_nil_left, List.foldl_cons, List.foldl_nil, List.replicate, List.cons_append, List.nil_append, Nat.reduceAdd, Nat.reduceSub, Nat.reduceLeDiff, Nat.reduceLT, Int.reduceLT, Int.reduceLE, Int.reduceAdd, Int.reduceSub, Int.reduceNeg, Int.reduceMul, Bool.not_true, Bool.not_false, decide_eq_true_eq, Bool.not_eq_true', decide_eq_false_iff_not, if_true, if_false, reduceIte, Nat.zero_le, true_and, and_true, seqD, k_u1_ap, k_b2y_ap, k_b2_ap, k_b2Ly_ap, k_b2L_ap, k_argc_ap, k_args_ap, k_bi_ap, k_biL_ap, k_andT_ap, k_orT_ap, k_notT_ap, k_andB_ap, k_andV_ap, k_orB_ap, k_orV_ap, k_notB_ap, k_notV_ap, k_ite_ap, k_ifS_ap, k_ex_ap, k_rt_ap, k_mktup_ap, k_mklst_ap, k_tup_ap, k_dsp_ap, k_frz_ap, k_own_ap, k_glo_ap, k_dc_ap, k_ds_ap, k_as_ap, k_wd_ap, k_call_ap, k_cl_ap, k_suby_ap, k_sub_ap, k_appx_ap, k_appv_ap, k_appc_ap, k_app_ap, k_pop_ap, k_popAv_ap, k_popAc_ap, k_popA_ap, k_setv_ap, k_seti_ap, k_seto_ap, k_set_ap, k_par_ap, k_seqD_ap, k_itS_ap, k_itR_ap, k_whl_ap, k_clK_ap, e1, toDs_run, neD_nil (n := 0) (xs := []) rfl (by decide), ne_eq, not_true, Bool.false_eq_true, decide_false, ha, hb', hA', hB', n1, n2, hne, List.map_append, op]
  · have g1 := agg hm (f := (· + 1)) hne
    have g2 := agg hm (f := id) hne
    have hne' : (szs lt c).map D.int ≠ [] := by simpa using hne
    simp only [ob_ok, ob_exc, ob_stuck, ob_ite, oz_some, oz_none, oz_ite, bnd_ob, ap_ite, pur_ap, opt_ap, nth0, nthS, upAt0, upAtS, vr_ap, cs_ap, u1_ob, b2_ob, b2L_ob, args0, argsS, bi_ob, biL_ob, tst_ob, bool_bl, andT_ob, orT_ob, notT_ob, andV_ob, orV_ob, notV_ob, ite_ob, ifS_ob, skip_ap, sq_nx, sq_rt, sq_bk, sq_ct, sq_exc, sq_stuck, sq_ite, seq_sq, ex_ob, rt_ob, st_ob, pt_n, pt_t, pt_tu, tGo0, tGoS, tup_ob, dsp_ob, frz_ob, own_ob, glo_ob, toDs0, toDsS, toD_d, toAs0, toAsS, toA_d, toA_g, fx_ok, fx_exc, fx_ite, cl_ob, fo_ite, fo_nx, fo_rtd, fo_rtg, fo_exc, fo_stuck, intI_int, sub_ob, chkL_ap, app_ob, pop_ob, popAt_ob, setS_ob, par_ob, forS_ob, itS_ob, itR_ob, lp_nx, lp_ct, lp_bk, lp_rt, lp_exc, lp_stuck, lp_ite, pk_d, pks0, pksS, items_t, items_u, items_d, nrm, lstAt, lstPut, pk_l', pk_g, items_l, items_g, allD_map, allD, fn_ap, oz_map, nth_mapW, List.length_map, ixd_0, ixd_1, ixd_2, ixd_3, lamc_fx, capt, lamT_ap, lt_okd, lt_exc, thk_ap, tryS_ty, ty_ok, ty_stuck, eqD_ii, neD_ii, eqD_ss, neD_ss, lt_ii, le_ii, gt_ii, ge_ii, add_ii, sub_ii, neg_i, List.map_cons, List.map_nil, List.length_cons, List.length_nil, List.zip_cons_cons, List.zip_nil_right, List.zip_nil_left, List.foldl_cons, List.foldl_nil, List.replicate, List.cons_append, List.nil_append, Nat.reduceAdd, Nat.reduceSub, Nat.reduceLeDiff, Nat.reduceLT, Int.reduceLT, Int.reduceLE, Int.reduceAdd, Int.reduceSub, Int.reduceNeg, Int.reduceMul, Bool.not_true, Bool.not_false, decide_eq_true_eq, Bool.not_eq_true', decide_eq_false_iff_not, if_true, if_false, reduceIte, Nat.zero_le, true_and, and_true, seqD, k_u1_ap, k_b2y_ap, k_b2_ap, k_b2Ly_ap, k_b2L_ap, k_argc_ap, k_args_ap, k_bi_ap, k_biL_ap, k_andT_ap, k_orT_ap, k_notT_ap, k_andB_ap, k_andV_ap, k_orB_ap, k_orV_ap, k_notB_ap, k_notV_ap, k_ite_ap, k_ifS_ap, k_ex_ap, k_rt_ap, k_mktup_ap, k_mklst_ap, k_tup_ap, k_dsp_ap, k_frz_ap, k_own_ap, k_glo_ap, k_dc_ap, k_ds_ap, k_as_ap, k_wd_ap, k_call_ap, k_cl_ap, k_suby_ap, k_sub_ap, k_appx_ap, k_appv_ap, k_appc_ap, k_app_ap, k_pop_ap, k_popAv_ap, k_popAc_ap, k_popA_ap, k_setv_ap, k_seti_ap, k_seto_ap, k_set_ap, k_par_ap, k_seqD_ap, k_itS_ap, k_itR_ap, k_whl_ap, k_clK_ap, e1, e2, e3, toDs_run, neD_nil (okDs_ints 0 (szs lt c)) (by decide), ne_eq, hne', not_false_eq_true, decide_true, ha, hb', hA', hB', g1, g2, List.map_append]
theorem in_run {mD mn} (hm : Ag mD mn) (hab : a ≠ b) (hka : a ≠ k) (hkb : b ≠ k) : ∀ (n : Nat) (c : Int) (A B : List D) (l : List Cell) (w6 w7 : Option W), nth l k = some (.m ((lt.map op).map W.d)) → nth l a = some (.m (A.map W.d)) → nth l b = some (.m (B.map W.d)) → A.length + n < 1000 → B.length + n < 1000 → 1 ≤ c → c + n ≤ lt.length + 1 → c + n ≤ 100 →
    ∃ w6' w7' l', loop (tN 6) (cS mD) (upTo c n) ⟨[some (.d (.int o)), some (.d (.int m)), some (.l a), some (.l b), at', some (.l k), w6, w7, none], l, g⟩ = .ok .nx ⟨[some (.d (.int o)), some (.d (.int m)), some (.l a), some (.l b), at', some (.l k), w6', w7', none], l', g⟩ ∧
      nth l' a = some (.m ((A ++ (iot c n).map fun c => op (ent mn (· + 1) lt c)).map W.d)) ∧ nth l' b = some (.m ((B ++ (iot c n).map fun c => op (ent mn id lt c)).map W.d)) ∧ l'.length = l.length
  | 0, c, A, B, l, w6, w7, hk, ha, hb, _, _, _, _, _ => ⟨w6, w7, l, rfl, by simpa [iot] using ha, by simpa [iot] using hb, rfl⟩
  | n + 1, c, A, B, l, w6, w7, hk, ha, hb, hA, hB, h1, h2, h3 => by
    have e := cS_run (o := o) (m := m) (at' := at') (w7 := w7) (g := g) hm hk ha hb hab hka hkb (by omega) (by omega) h1 (by omega) (by omega)
    obtain ⟨w6', w7', l', q, p1, p2, p3⟩ := in_run hm hab hka hkb n (c + 1) (A ++ [op (ent mn (· + 1) lt c)]) (B ++ [op (ent mn id lt c)]) (upAt (upAt l a (.m ((A ++ [op (ent mn (· + 1) lt c)]).map W.d))) b (.m ((B ++ [op (ent mn id lt c)]).map W.d))) (some (.d (.int c))) (some (.d (.lst ((szs lt c).map D.int))))
      (by rw [nth_upAt, if_neg hkb, nth_upAt, if_neg hka]; exact hk) (by rw [nth_upAt, if_neg (Ne.symm hab), nth_upAt, if_pos rfl, ha]; rfl) (by rw [nth_upAt, if_pos rfl, nth_upAt, if_neg hab, hb]; rfl) (by simp; omega) (by simp; omega) (by omega) (by omega) (by omega)
    refine ⟨w6', w7', l', ?_, by simpa [iot] using p1, by simpa [iot] using p2, by rw [p3, upAt_len, upAt_len]⟩
    rw [upTo, loopS]
    unfold LE at e
    simp only [ob_ok, ob_exc, ob_stuck, ob_ite, oz_some, oz_none, oz_ite, bnd_ob, ap_ite, pur_ap, opt_ap, nth0, nthS, upAt0, upAtS, vr_ap, cs_ap, u1_ob, b2_ob, b2L_ob, args0, argsS, bi_ob, biL_ob, tst_ob, bool_bl, andT_ob, orT_ob, notT_ob, andV_ob, orV_ob, notV_ob, ite_ob, ifS_ob, skip_ap, sq_nx, sq_rt, sq_bk, sq_ct, sq_exc, sq_stuck, sq_ite, seq_sq, ex_ob, rt_ob, st_ob, pt_n, pt_t, pt_tu, tGo0, tGoS, tup_ob, dsp_ob, frz_ob, own_ob, glo_ob, toDs0, toDsS, toD_d, toAs0, toAsS, toA_d, toA_g, fx_ok, fx_exc, fx_ite, cl_ob, fo_ite, fo_nx, fo_rtd, fo_rtg, fo_exc, fo_stuck, intI_int, sub_ob, chkL_ap, app_ob, pop_ob, popAt_ob, setS_ob, par_ob, forS_ob, itS_ob, itR_ob, lp_nx, lp_ct, lp_bk, lp_rt, lp_exc, lp_stuck, lp_ite, pk_d, pks0, pksS, items_t, items_u, items_d, nrm, lstAt, lstPut, pk_l', pk_g, items_l, items_g, allD_map, allD, fn_ap, oz_map, nth_mapW, List.length_map, ixd_0, ixd_1, ixd_2, ixd_3, lamc_fx, capt, lamT_ap, lt_okd, lt_exc, thk_ap, tryS_ty, ty_ok, ty_stuck, eqD_ii, neD_ii, eqD_ss, neD_ss, lt_ii, le_ii, gt_ii, ge_ii, add_ii, sub_ii, neg_i, List.map_cons, List.map_nil, List.length_cons, List.length_nil, List.zip_cons_cons, List.zip_nil_right, List.zip_nil_left, List.foldl_cons, List.foldl_nil, List.replicate, List.cons_append, List.nil_append, Nat.reduceAdd, Nat.reduceSub, Nat.reduceLeDiff, Nat.reduceLT, Int.reduceLT, Int.reduceLE, Int.reduceAdd, Int.reduceSub, Int.reduceNeg, Int.reduceMul, Bool.not_true, Bool.not_false, decide_eq_true_eq, Bool.not_eq_true', decide_eq_false_iff_not, if_true, if_false, reduceIte, Nat.zero_le, true_and, and_true, seqD, k_u1_ap, k_b2y_ap, k_b2_ap, k_b2Ly_ap, k_b2L_ap, k_argc_ap, k_args_ap, k_bi_ap, k_biL_ap, k_andT_ap, k_orT_ap, k_notT_ap, k_andB_ap, k_andV_ap, k_orB_ap, k_orV_ap, k_notB_ap, k_notV_ap, k_ite_ap, k_ifS_ap, k_ex_ap, k_rt_ap, k_mktup_ap, k_mklst_ap, k_tup_ap, k_dsp_ap, k_frz_ap, k_own_ap, k_glo_ap, k_dc_ap, k_ds_ap, k_as_ap, k_wd_ap, k_call_ap, k_cl_ap, k_suby_ap, k_sub_ap, k_appx_ap, k_appv_ap, k_appc_ap, k_app_ap, k_pop_ap, k_popAv_ap, k_popAc_ap, k_popA_ap, k_setv_ap, k_seti_ap, k_seto_ap, k_set_ap, k_par_ap, k_seqD_ap, k_itS_ap, k_itR_ap, k_whl_ap, k_clK_ap, e, q]
/-- the row behind one -/
def rowE (mn : Int → List Int → Int) (o : Int) (f : Int → Int) (lt : List (Option Int)) : List (Option Int) := none :: (iot 1 o.toNat).map (ent mn f lt)
def outS (mD : List D → Option D) : St := seq (par [5, 2, 3] (args [vr 2, Mn.own (dsp (args [cs .non])), Mn.own (dsp (args [cs .non]))])) (forS (itR rng2 (args [cs (.int 1), b2 addD (vr 0) (cs (.int 1))])) (tN 6) (cS mD))
theorem nth_app1 {α : Type} {y : α} : ∀ (l r : List α) (i : Nat), nth l i = some y → nth (l ++ r) i = some y
  | x :: l, r, 0, h => h
  | x :: l, r, i + 1, h => nth_app1 l r i h
theorem nth_app2 {α : Type} : ∀ (l r : List α) (i : Nat), nth (l ++ r) (l.length + i) = nth r i
  | [], r, i => by simp
  | x :: l, r, i => by rw [show (x :: l).length + i = (l.length + i) + 1 by simp; omega]; exact nth_app2 l r i
def OE (o : Int) (m : Int) (a b : Nat) (at' w5 w6 w7 : Option W) (l g : List Cell) : Sx := ⟨[some (.d (.int o)), some (.d (.int m)), some (.l a), some (.l b), at', w5, w6, w7, none], l, g⟩
theorem outS_run {mD mn} {o : Int} (hm : Ag mD mn) {w5 w6 : Option W} (ha : nth l a = some (.m ((lt.map op).map W.d))) (hl : (lt.length : Int) = o + 1) (ho : 0 ≤ o ∧ o ≤ 60) :
    ∃ a' b' w5' w6' w7' l', outS mD (OE o m a b at' w5 w6 w7 l g) = .ok .nx (OE o m a' b' at' w5' w6' w7' l' g) ∧ nth l' a' = some (.m (((rowE mn o (· + 1) lt).map op).map W.d)) ∧ nth l' b' = some (.m (((rowE mn o id lt).map op).map W.d)) := by
  have hr : rng2 [.int 1, .int (o + 1)] = some (upTo 1 (o + 1 - 1).toNat) := by unfold rng2; dsimp only; rw [smallI (by omega) (by omega), smallI (by omega) (by omega)]; rfl
  have hoo : (o + 1 - 1).toNat = o.toNat := by omega
  have hla := nth_lt l a ha
  obtain ⟨w6', w7', l', q, p1, p2, _⟩ := in_run (o := o) (m := m) (at' := at') (g := g) (a := l.length) (b := l.length + 1) (k := a) (lt := lt) hm (by omega) (by omega) (by omega) o.toNat 1 [.non] [.non] (l ++ [.m [.d .non]] ++ [.m [.d .non]]) w6 w7
    (nth_app1 _ _ _ (nth_app1 _ _ _ ha)) (nth_app1 _ _ _ (nth_app2 l _ 0)) (by have := nth_app2 (l ++ [Cell.m [.d .non]]) [Cell.m [.d .non]] 0; rw [List.length_append] at this; exact this) (by simp; omega) (by simp; omega) (by omega) (by omega) (by omega)
  refine ⟨l.length, l.length + 1, some (.l a), w6', w7', l', ?_, ?_, ?_⟩
  · unfold OE outS
    simp only [ob_ok, ob_exc, ob_stuck, ob_ite, oz_some, oz_none, oz_ite, bnd_ob, ap_ite, pur_ap, opt_ap, nth0, nthS, upAt0, upAtS, vr_ap, cs_ap, u1_ob, b2_ob, b2L_ob, args0, argsS, bi_ob, biL_ob, tst_ob, bool_bl, andT_ob, orT_ob, notT_ob, andV_ob, orV_ob, notV_ob, ite_ob, ifS_ob, skip_ap, sq_nx, sq_rt, sq_bk, sq_ct, sq_exc, sq_stuck, sq_ite, seq_sq, ex_ob, rt_ob, st_ob, pt_n, pt_t, pt_tu, tGo0, tGoS, tup_ob, dsp_ob, frz_ob, own_ob, glo_ob, toDs0, toDsS, toD_d, toAs0, toAsS, toA_d, toA_g, fx_ok, fx_exc, fx_ite, cl_ob, fo_ite, fo_nx, fo_rtd, fo_rtg, fo_exc, fo_stuck, intI_int, sub_ob, chkL_ap, app_ob, pop_ob, popAt_ob, setS_ob, par_ob, forS_ob, itS_ob, itR_ob, lp_nx, lp_ct, lp_bk, lp_rt, lp_exc, lp_stuck, lp_ite, pk_d, pks0, pksS, items_t, items_u, items_d, nrm, lstAt, lstPut, pk_l', pk_g, items_l, items_g, allD_map, allD, fn_ap, oz_map, nth_mapW, List.length_map, ixd_0, ixd_1, ixd_2, ixd_3, lamc_fx, capt, lamT_ap, lt_okd, lt_exc, thk_ap, tryS_ty, ty_ok, ty_stuck, eqD_ii, neD_ii, eqD_ss, neD_ss, lt_ii, le_ii, gt_ii, ge_ii, add_ii, sub_ii, neg_i, List.map_cons, List.map_nil, List.length_cons, List.length_nil, List.zip_cons_cons, List.zip_nil_right, List.zip_nil_left, List.foldl_cons, List.foldl_nil, List.replicate, List.cons_append, List.nil_append, Nat.reduceAdd, Nat.reduceSub, Nat.reduceLeDiff, Nat.reduceLT, Int.reduceLT, Int.reduceLE, Int.reduceAdd, Int.reduceSub, Int.reduceNeg, Int.reduceMul, Bool.not_true, Bool.not_false, decide_eq_true_eq, Bool.not_eq_true', decide_eq_false_iff_not, if_true, if_false, reduceIte, Nat.zero_le, true_and, and_true, seqD, k_u1_ap, k_b2y_ap, k_b2_ap, k_b2Ly_ap, k_b2L_ap, k_argc_ap, k_args_ap, k_bi_ap, k_biL_ap, k_andT_ap, k_orT_ap, k_notT_ap, k_andB_ap, k_andV_ap, k_orB_ap, k_orV_ap, k_notB_ap, k_notV_ap, k_ite_ap, k_ifS_ap, k_ex_ap, k_rt_ap, k_mktup_ap, k_mklst_ap, k_tup_ap, k_dsp_ap, k_frz_ap, k_own_ap, k_glo_ap, k_dc_ap, k_ds_ap, k_as_ap, k_wd_ap, k_call_ap, k_cl_ap, k_suby_ap, k_sub_ap, k_appx_ap, k_appv_ap, k_appc_ap, k_app_ap, k_pop_ap, k_popAv_ap, k_popAc_ap, k_popA_ap, k_setv_ap, k_seti_ap, k_seto_ap, k_set_ap, k_par_ap, k_seqD_ap, k_itS_ap, k_itR_ap, k_whl_ap, k_clK_ap, hr, hoo, q, List.length_append]
  · rw [p1]; simp [rowE, op]
  · rw [p2]; simp [rowE, op]
/-- rows of walks and of closed walks behind so many turns -/
def rwW (mn : Int → List Int → Int) (o : Int) : Nat → List (Option Int)
  | 0 => none :: (iot 1 o.toNat).map fun s => some (s + 1)
  | j + 1 => rowE mn o (· + 1) (rwW mn o j)
def rwR (mn : Int → List Int → Int) (o : Int) : Nat → List (Option Int)
  | 0 => none :: (iot 1 o.toNat).map fun s => some s
  | j + 1 => rowE mn o id (rwW mn o j)
theorem rwW_len (mn) (o : Int) (h : 0 ≤ o) : ∀ j, ((rwW mn o j).length : Int) = o + 1
  | 0 => by simp [rwW, iot_len]; omega
  | j + 1 => by simp [rwW, rowE, iot_len]; omega
theorem rwR_len (mn) (o : Int) (h : 0 ≤ o) : ∀ j, ((rwR mn o j).length : Int) = o + 1
  | 0 => by simp [rwR, iot_len]; omega
  | j + 1 => by simp [rwR, rowE, iot_len]; omega
theorem outs_run {mD mn} {o : Int} (hm : Ag mD mn) (ho : 0 ≤ o ∧ o ≤ 60) : ∀ (n j : Nat) (lo : Int) (a b : Nat) (at' w5 w6 w7 : Option W) (l : List Cell), nth l a = some (.m (((rwW mn o j).map op).map W.d)) → nth l b = some (.m (((rwR mn o j).map op).map W.d)) →
    ∃ a' b' at'' w5' w6' w7' l', loop (tN 4) (outS mD) (upTo lo n) (OE o m a b at' w5 w6 w7 l g) = .ok .nx (OE o m a' b' at'' w5' w6' w7' l' g) ∧ nth l' a' = some (.m (((rwW mn o (j + n)).map op).map W.d)) ∧ nth l' b' = some (.m (((rwR mn o (j + n)).map op).map W.d))
  | 0, j, lo, a, b, at', w5, w6, w7, l, ha, hb => ⟨a, b, at', w5, w6, w7, l, rfl, ha, hb⟩
  | n + 1, j, lo, a, b, at', w5, w6, w7, l, ha, hb => by
    obtain ⟨a1, b1, v5, v6, v7, l1, q, p1, p2⟩ := outS_run (m := m) (b := b) (at' := some (.d (.int lo))) (w5 := w5) (w6 := w6) (w7 := w7) (g := g) hm ha (rwW_len mn o ho.1 j) ho
    obtain ⟨a', b', at'', w5', w6', w7', l', q', p1', p2'⟩ := outs_run hm ho n (j + 1) (lo + 1) a1 b1 (some (.d (.int lo))) v5 v6 v7 l1 p1 p2
    refine ⟨a', b', at'', w5', w6', w7', l', ?_, by rw [show j + (n + 1) = j + 1 + n by omega]; exact p1', by rw [show j + (n + 1) = j + 1 + n by omega]; exact p2'⟩
    rw [upTo, loopS]
    have e : pt (tN 4) (.d (.int lo)) (OE o m a b at' w5 w6 w7 l g) = .ok .nx (OE o m a b (some (.d (.int lo))) w5 w6 w7 l g) := rfl
    rw [e, sq_nx, q, lp_nx, q']
def lgB (mD : List D → Option D) : St := seq (st (tN 2) (Mn.own (b2L catL (frz (dsp (args [cs .non]))) (frz (lc [8] (itR rng2 (args [cs (.int 1), b2 addD (vr 0) (cs (.int 1))])) (tN 8) (pur true) (b2 addD (vr 8) (cs (.int 1)))))))) (seq (st (tN 3) (Mn.own (b2L catL (frz (dsp (args [cs .non]))) (frz (lc [8] (itR rng2 (args [cs (.int 1), b2 addD (vr 0) (cs (.int 1))])) (tN 8) (pur true) (vr 8)))))) (seq (forS (itR rng1 (args [b2 subD (vr 1) (cs (.int 1))])) (tN 4) (outS mD)) (rt (tup (args [sub (vr 2) (vr 0), sub (vr 3) (vr 0)])))))
theorem catL_few {xs ys : List D} (h : xs.length + ys.length ≤ 1000) : catL (.lst xs) (.lst ys) = some (xs ++ ys) := by unfold catL; dsimp only; rw [if_pos (by omega)]
theorem lg_run {mD mn} {o : Int} (hm : Ag mD mn) (ho : 1 ≤ o ∧ o ≤ 60) (hmm : 1 ≤ m ∧ m ≤ 60) : fn 9 2 (lgB mD) [.d (.int o), .d (.int m)] g = .ok (.d (.tup [op (at_ (rwW mn o (m - 1).toNat) o), op (at_ (rwR mn o (m - 1).toNat) o)])) g := by
  have hr : rng2 [.int 1, .int (o + 1)] = some ((iot 1 o.toNat).map D.int) := by unfold rng2; dsimp only; rw [smallI (by omega) (by omega), smallI (by omega) (by omega), show (o + 1 - 1).toNat = o.toNat by omega, upTo_iot]; rfl
  have hr1 : rng1 [.int (m - 1)] = some (upTo 0 (m - 1).toNat) := by unfold rng1; dsimp only; rw [smallI (by omega) (by omega)]; rfl
  have i1 : ∀ (x2 x3 : Option W) (l : List Cell), lc [8] (itR rng2 (args [cs (.int 1), b2 addD (vr 0) (cs (.int 1))])) (tN 8) (pur true) (b2 addD (vr 8) (cs (.int 1))) ⟨[some (.d (.int o)), some (.d (.int m)), x2, x3, none, none, none, none, none], l, g⟩ = .ok ((((iot 1 o.toNat).map fun s => some (s + 1)).map op).map W.d) ⟨[some (.d (.int o)), some (.d (.int m)), x2, x3, none, none, none, none, none], l, g⟩ := fun x2 x3 l => by
    have e := lc_int (v := 8) (it := itR rng2 (args [cs (.int 1), b2 addD (vr 0) (cs (.int 1))])) (c := pur true) (f := b2 addD (vr 8) (cs (.int 1))) (s := ⟨[some (.d (.int o)), some (.d (.int m)), x2, x3, none, none, none, none, none], l, g⟩) (iot 1 o.toNat) (fun _ => true) (fun s => .int (s + 1)) (by simp only [ob_ok, ob_exc, ob_stuck, ob_ite, oz_some, oz_none, oz_ite, bnd_ob, ap_ite, pur_ap, opt_ap, nth0, nthS, upAt0, upAtS, vr_ap, cs_ap, u1_ob, b2_ob, b2L_ob, args0, argsS, bi_ob, biL_ob, tst_ob, bool_bl, andT_ob, orT_ob, notT_ob, andV_ob, orV_ob, notV_ob, ite_ob, ifS_ob, skip_ap, sq_nx, sq_rt, sq_bk, sq_ct, sq_exc, sq_stuck, sq_ite, seq_sq, ex_ob, rt_ob, st_ob, pt_n, pt_t, pt_tu, tGo0, tGoS, tup_ob, dsp_ob, frz_ob, own_ob, glo_ob, toDs0, toDsS, toD_d, toAs0, toAsS, toA_d, toA_g, fx_ok, fx_exc, fx_ite, cl_ob, fo_ite, fo_nx, fo_rtd, fo_rtg, fo_exc, fo_stuck, intI_int, sub_ob, chkL_ap, app_ob, pop_ob, popAt_ob, setS_ob, par_ob, forS_ob, itS_ob, itR_ob, lp_nx, lp_ct, lp_bk, lp_rt, lp_exc, lp_stuck, lp_ite, pk_d, pks0, pksS, items_t, items_u, items_d, nrm, lstAt, lstPut, pk_l', pk_g, items_l, items_g, allD_map, allD, fn_ap, oz_map, nth_mapW, List.length_map, ixd_0, ixd_1, ixd_2, ixd_3, lamc_fx, capt, lamT_ap, lt_okd, lt_exc, thk_ap, tryS_ty, ty_ok, ty_stuck, eqD_ii, neD_ii, eqD_ss, neD_ss, lt_ii, le_ii, gt_ii, ge_ii, add_ii, sub_ii, neg_i, List.map_cons, List.map_nil, List.length_cons, List.length_nil, List.zip_cons_cons, List.zip_nil_right, List.zip_nil_left, List.foldl_cons, List.foldl_nil, List.replicate, List.cons_append, List.nil_append, Nat.reduceAdd, Nat.reduceSub, Nat.reduceLeDiff, Nat.reduceLT, Int.reduceLT, Int.reduceLE, Int.reduceAdd, Int.reduceSub, Int.reduceNeg, Int.reduceMul, Bool.not_true, Bool.not_false, decide_eq_true_eq, Bool.not_eq_true', decide_eq_false_iff_not, if_true, if_false, reduceIte, Nat.zero_le, true_and, and_true, seqD, k_u1_ap, k_b2y_ap, k_b2_ap, k_b2Ly_ap, k_b2L_ap, k_argc_ap, k_args_ap, k_bi_ap, k_biL_ap, k_andT_ap, k_orT_ap, k_notT_ap, k_andB_ap, k_andV_ap, k_orB_ap, k_orV_ap, k_notB_ap, k_notV_ap, k_ite_ap, k_ifS_ap, k_ex_ap, k_rt_ap, k_mktup_ap, k_mklst_ap, k_tup_ap, k_dsp_ap, k_frz_ap, k_own_ap, k_glo_ap, k_dc_ap, k_ds_ap, k_as_ap, k_wd_ap, k_call_ap, k_cl_ap, k_suby_ap, k_sub_ap, k_appx_ap, k_appv_ap, k_appc_ap, k_app_ap, k_pop_ap, k_popAv_ap, k_popAc_ap, k_popA_ap, k_setv_ap, k_seti_ap, k_seto_ap, k_set_ap, k_par_ap, k_seqD_ap, k_itS_ap, k_itR_ap, k_whl_ap, k_clK_ap, hr]) (fun i hi => ⟨rfl, fun _ => by simp only [ob_ok, ob_exc, ob_stuck, ob_ite, oz_some, oz_none, oz_ite, bnd_ob, ap_ite, pur_ap, opt_ap, nth0, nthS, upAt0, upAtS, vr_ap, cs_ap, u1_ob, b2_ob, b2L_ob, args0, argsS, bi_ob, biL_ob, tst_ob, bool_bl, andT_ob, orT_ob, notT_ob, andV_ob, orV_ob, notV_ob, ite_ob, ifS_ob, skip_ap, sq_nx, sq_rt, sq_bk, sq_ct, sq_exc, sq_stuck, sq_ite, seq_sq, ex_ob, rt_ob, st_ob, pt_n, pt_t, pt_tu, tGo0, tGoS, tup_ob, dsp_ob, frz_ob, own_ob, glo_ob, toDs0, toDsS, toD_d, toAs0, toAsS, toA_d, toA_g, fx_ok, fx_exc, fx_ite, cl_ob, fo_ite, fo_nx, fo_rtd, fo_rtg, fo_exc, fo_stuck, intI_int, sub_ob, chkL_ap, app_ob, pop_ob, popAt_ob, setS_ob, par_ob, forS_ob, itS_ob, itR_ob, lp_nx, lp_ct, lp_bk, lp_rt, lp_exc, lp_stuck, lp_ite, pk_d, pks0, pksS, items_t, items_u, items_d, nrm, lstAt, lstPut, pk_l', pk_g, items_l, items_g, allD_map, allD, fn_ap, oz_map, nth_mapW, List.length_map, ixd_0, ixd_1, ixd_2, ixd_3, lamc_fx, capt, lamT_ap, lt_okd, lt_exc, thk_ap, tryS_ty, ty_ok, ty_stuck, eqD_ii, neD_ii, eqD_ss, neD_ss, lt_ii, le_ii, gt_ii, ge_ii, add_ii, sub_ii, neg_i, List.map_cons, List.map_nil, List.length_cons, List.length_nil, List.zip_cons_cons, List.zip_nil_right, List.zip_nil_left, List.foldl_cons, List.foldl_nil, List.replicate, List.cons_append, List.nil_append, Nat.reduceAdd, Nat.reduceSub, Nat.reduceLeDiff, Nat.reduceLT, Int.reduceLT, Int.reduceLE, Int.reduceAdd, Int.reduceSub, Int.reduceNeg, Int.reduceMul, Bool.not_true, Bool.not_false, decide_eq_true_eq, Bool.not_eq_true', decide_eq_false_iff_not, if_true, if_false, reduceIte, Nat.zero_le, true_and, and_true, seqD, k_u1_ap, k_b2y_ap, k_b2_ap, k_b2Ly_ap, k_b2L_ap, k_argc_ap, k_args_ap, k_bi_ap, k_biL_ap, k_andT_ap, k_orT_ap, k_notT_ap, k_andB_ap, k_andV_ap, k_orB_ap, k_orV_ap, k_notB_ap, k_notV_ap, k_ite_ap, k_ifS_ap, k_ex_ap, k_rt_ap, k_mktup_ap, k_mklst_ap, k_tup_ap, k_dsp_ap, k_frz_ap, k_own_ap, k_glo_ap, k_dc_ap, k_ds_ap, k_as_ap, k_wd_ap, k_call_ap, k_cl_ap, k_suby_ap, k_sub_ap, k_appx_ap, k_appv_ap, k_appc_ap, k_app_ap, k_pop_ap, k_popAv_ap, k_popAc_ap, k_popA_ap, k_setv_ap, k_seti_ap, k_seto_ap, k_set_ap, k_par_ap, k_seqD_ap, k_itS_ap, k_itR_ap, k_whl_ap, k_clK_ap]⟩) (by rw [iot_len]; omega)
    rw [List.filter_eq_self.mpr fun _ _ => rfl] at e
    rw [e]; simp [List.map_map, Function.comp_def, op]
  have i2 : ∀ (x2 x3 : Option W) (l : List Cell), lc [8] (itR rng2 (args [cs (.int 1), b2 addD (vr 0) (cs (.int 1))])) (tN 8) (pur true) (vr 8) ⟨[some (.d (.int o)), some (.d (.int m)), x2, x3, none, none, none, none, none], l, g⟩ = .ok ((((iot 1 o.toNat).map fun s => some s).map op).map W.d) ⟨[some (.d (.int o)), some (.d (.int m)), x2, x3, none, none, none, none, none], l, g⟩ := fun x2 x3 l => by
    have e := lc_int (v := 8) (it := itR rng2 (args [cs (.int 1), b2 addD (vr 0) (cs (.int 1))])) (c := pur true) (f := vr 8) (s := ⟨[some (.d (.int o)), some (.d (.int m)), x2, x3, none, none, none, none, none], l, g⟩) (iot 1 o.toNat) (fun _ => true) (fun s => .int s) (by simp only [ob_ok, ob_exc, ob_stuck, ob_ite, oz_some, oz_none, oz_ite, bnd_ob, ap_ite, pur_ap, opt_ap, nth0, nthS, upAt0, upAtS, vr_ap, cs_ap, u1_ob, b2_ob, b2L_ob, args0, argsS, bi_ob, biL_ob, tst_ob, bool_bl, andT_ob, orT_ob, notT_ob, andV_ob, orV_ob, notV_ob, ite_ob, ifS_ob, skip_ap, sq_nx, sq_rt, sq_bk, sq_ct, sq_exc, sq_stuck, sq_ite, seq_sq, ex_ob, rt_ob, st_ob, pt_n, pt_t, pt_tu, tGo0, tGoS, tup_ob, dsp_ob, frz_ob, own_ob, glo_ob, toDs0, toDsS, toD_d, toAs0, toAsS, toA_d, toA_g, fx_ok, fx_exc, fx_ite, cl_ob, fo_ite, fo_nx, fo_rtd, fo_rtg, fo_exc, fo_stuck, intI_int, sub_ob, chkL_ap, app_ob, pop_ob, popAt_ob, setS_ob, par_ob, forS_ob, itS_ob, itR_ob, lp_nx, lp_ct, lp_bk, lp_rt, lp_exc, lp_stuck, lp_ite, pk_d, pks0, pksS, items_t, items_u, items_d, nrm, lstAt, lstPut, pk_l', pk_g, items_l, items_g, allD_map, allD, fn_ap, oz_map, nth_mapW, List.length_map, ixd_0, ixd_1, ixd_2, ixd_3, lamc_fx, capt, lamT_ap, lt_okd, lt_exc, thk_ap, tryS_ty, ty_ok, ty_stuck, eqD_ii, neD_ii, eqD_ss, neD_ss, lt_ii, le_ii, gt_ii, ge_ii, add_ii, sub_ii, neg_i, List.map_cons, List.map_nil, List.length_cons, List.length_nil, List.zip_cons_cons, List.zip_nil_right, List.zip_nil_left, List.foldl_cons, List.foldl_nil, List.replicate, List.cons_append, List.nil_append, Nat.reduceAdd, Nat.reduceSub, Nat.reduceLeDiff, Nat.reduceLT, Int.reduceLT, Int.reduceLE, Int.reduceAdd, Int.reduceSub, Int.reduceNeg, Int.reduceMul, Bool.not_true, Bool.not_false, decide_eq_true_eq, Bool.not_eq_true', decide_eq_false_iff_not, if_true, if_false, reduceIte, Nat.zero_le, true_and, and_true, seqD, k_u1_ap, k_b2y_ap, k_b2_ap, k_b2Ly_ap, k_b2L_ap, k_argc_ap, k_args_ap, k_bi_ap, k_biL_ap, k_andT_ap, k_orT_ap, k_notT_ap, k_andB_ap, k_andV_ap, k_orB_ap, k_orV_ap, k_notB_ap, k_notV_ap, k_ite_ap, k_ifS_ap, k_ex_ap, k_rt_ap, k_mktup_ap, k_mklst_ap, k_tup_ap, k_dsp_ap, k_frz_ap, k_own_ap, k_glo_ap, k_dc_ap, k_ds_ap, k_as_ap, k_wd_ap, k_call_ap, k_cl_ap, k_suby_ap, k_sub_ap, k_appx_ap, k_appv_ap, k_appc_ap, k_app_ap, k_pop_ap, k_popAv_ap, k_popAc_ap, k_popA_ap, k_setv_ap, k_seti_ap, k_seto_ap, k_set_ap, k_par_ap, k_seqD_ap, k_itS_ap, k_itR_ap, k_whl_ap, k_clK_ap, hr]) (fun i hi => ⟨rfl, fun _ => by simp only [ob_ok, ob_exc, ob_stuck, ob_ite, oz_some, oz_none, oz_ite, bnd_ob, ap_ite, pur_ap, opt_ap, nth0, nthS, upAt0, upAtS, vr_ap, cs_ap, u1_ob, b2_ob, b2L_ob, args0, argsS, bi_ob, biL_ob, tst_ob, bool_bl, andT_ob, orT_ob, notT_ob, andV_ob, orV_ob, notV_ob, ite_ob, ifS_ob, skip_ap, sq_nx, sq_rt, sq_bk, sq_ct, sq_exc, sq_stuck, sq_ite, seq_sq, ex_ob, rt_ob, st_ob, pt_n, pt_t, pt_tu, tGo0, tGoS, tup_ob, dsp_ob, frz_ob, own_ob, glo_ob, toDs0, toDsS, toD_d, toAs0, toAsS, toA_d, toA_g, fx_ok, fx_exc, fx_ite, cl_ob, fo_ite, fo_nx, fo_rtd, fo_rtg, fo_exc, fo_stuck, intI_int, sub_ob, chkL_ap, app_ob, pop_ob, popAt_ob, setS_ob, par_ob, forS_ob, itS_ob, itR_ob, lp_nx, lp_ct, lp_bk, lp_rt, lp_exc, lp_stuck, lp_ite, pk_d, pks0, pksS, items_t, items_u, items_d, nrm, lstAt, lstPut, pk_l', pk_g, items_l, items_g, allD_map, allD, fn_ap, oz_map, nth_mapW, List.length_map, ixd_0, ixd_1, ixd_2, ixd_3, lamc_fx, capt, lamT_ap, lt_okd, lt_exc, thk_ap, tryS_ty, ty_ok, ty_stuck, eqD_ii, neD_ii, eqD_ss, neD_ss, lt_ii, le_ii, gt_ii, ge_ii, add_ii, sub_ii, neg_i, List.map_cons, List.map_nil, List.length_cons, List.length_nil, List.zip_cons_cons, List.zip_nil_right, List.zip_nil_left, List.foldl_cons, List.foldl_nil, List.replicate, List.cons_append, List.nil_append, Nat.reduceAdd, Nat.reduceSub, Nat.reduceLeDiff, Nat.reduceLT, Int.reduceLT, Int.reduceLE, Int.reduceAdd, Int.reduceSub, Int.reduceNeg, Int.reduceMul, Bool.not_true, Bool.not_false, decide_eq_true_eq, Bool.not_eq_true', decide_eq_false_iff_not, if_true, if_false, reduceIte, Nat.zero_le, true_and, and_true, seqD, k_u1_ap, k_b2y_ap, k_b2_ap, k_b2Ly_ap, k_b2L_ap, k_argc_ap, k_args_ap, k_bi_ap, k_biL_ap, k_andT_ap, k_orT_ap, k_notT_ap, k_andB_ap, k_andV_ap, k_orB_ap, k_orV_ap, k_notB_ap, k_notV_ap, k_ite_ap, k_ifS_ap, k_ex_ap, k_rt_ap, k_mktup_ap, k_mklst_ap, k_tup_ap, k_dsp_ap, k_frz_ap, k_own_ap, k_glo_ap, k_dc_ap, k_ds_ap, k_as_ap, k_wd_ap, k_call_ap, k_cl_ap, k_suby_ap, k_sub_ap, k_appx_ap, k_appv_ap, k_appc_ap, k_app_ap, k_pop_ap, k_popAv_ap, k_popAc_ap, k_popA_ap, k_setv_ap, k_seti_ap, k_seto_ap, k_set_ap, k_par_ap, k_seqD_ap, k_itS_ap, k_itR_ap, k_whl_ap, k_clK_ap]⟩) (by rw [iot_len]; omega)
    rw [List.filter_eq_self.mpr fun _ _ => rfl] at e
    rw [e]; simp [List.map_map, Function.comp_def, op]
  obtain ⟨a', b', at', w5, w6, w7, l', q, p1, p2⟩ := outs_run (m := m) (g := g) hm (by omega) (m - 1).toNat 0 0 0 1 none none none none [.m (((rwW mn o 0).map op).map W.d), .m (((rwR mn o 0).map op).map W.d)] rfl rfl
  rw [Nat.zero_add] at p1 p2
  have c1 := catL_few (xs := [.non]) (ys := ((iot 1 o.toNat).map fun s => some (s + 1)).map op) (by simp [iot_len]; omega)
  have c2 := catL_few (xs := [.non]) (ys := ((iot 1 o.toNat).map fun s => some s).map op) (by simp [iot_len]; omega)
  have lw := rwW_len mn o (by omega) (m - 1).toNat
  have lr := rwR_len mn o (by omega) (m - 1).toNat
  have x1 : ixd (rwW mn o (m - 1).toNat).length o = some o.toNat := ixd_in (by omega) (by omega)
  have x2 : ixd (rwR mn o (m - 1).toNat).length o = some o.toNat := ixd_in (by omega) (by omega)
  have n1 := at_nth (lt := rwW mn o (m - 1).toNat) (i := o) (by omega) (by omega)
  have n2 := at_nth (lt := rwR mn o (m - 1).toNat) (i := o) (by omega) (by omega)
  unfold OE rwW rwR at q
  simp only [List.map_cons, op] at q c1 c2
  unfold lgB
  simp only [ob_ok, ob_exc, ob_stuck, ob_ite, oz_some, oz_none, oz_ite, bnd_ob, ap_ite, pur_ap, opt_ap, nth0, nthS, upAt0, upAtS, vr_ap, cs_ap, u1_ob, b2_ob, b2L_ob, args0, argsS, bi_ob, biL_ob, tst_ob, bool_bl, andT_ob, orT_ob, notT_ob, andV_ob, orV_ob, notV_ob, ite_ob, ifS_ob, skip_ap, sq_nx, sq_rt, sq_bk, sq_ct, sq_exc, sq_stuck, sq_ite, seq_sq, ex_ob, rt_ob, st_ob, pt_n, pt_t, pt_tu, tGo0, tGoS, tup_ob, dsp_ob, frz_ob, own_ob, glo_ob, toDs0, toDsS, toD_d, toAs0, toAsS, toA_d, toA_g, fx_ok, fx_exc, fx_ite, cl_ob, fo_ite, fo_nx, fo_rtd, fo_rtg, fo_exc, fo_stuck, intI_int, sub_ob, chkL_ap, app_ob, pop_ob, popAt_ob, setS_ob, par_ob, forS_ob, itS_ob, itR_ob, lp_nx, lp_ct, lp_bk, lp_rt, lp_exc, lp_stuck, lp_ite, pk_d, pks0, pksS, items_t, items_u, items_d, nrm, lstAt, lstPut, pk_l', pk_g, items_l, items_g, allD_map, allD, fn_ap, oz_map, nth_mapW, List.length_map, ixd_0, ixd_1, ixd_2, ixd_3, lamc_fx, capt, lamT_ap, lt_okd, lt_exc, thk_ap, tryS_ty, ty_ok, ty_stuck, eqD_ii, neD_ii, eqD_ss, neD_ss, lt_ii, le_ii, gt_ii, ge_ii, add_ii, sub_ii, neg_i, List.map_cons, List.map_nil, List.length_cons, List.length_nil, List.zip_cons_cons, List.zip_nil_right, List.zip_nil_left, List.foldl_cons, List.foldl_nil, List.replicate, List.cons_append, List.nil_append, Nat.reduceAdd, Nat.reduceSub, Nat.reduceLeDiff, Nat.reduceLT, Int.reduceLT, Int.reduceLE, Int.reduceAdd, Int.reduceSub, Int.reduceNeg, Int.reduceMul, Bool.not_true, Bool.not_false, decide_eq_true_eq, Bool.not_eq_true', decide_eq_false_iff_not, if_true, if_false, reduceIte, Nat.zero_le, true_and, and_true, seqD, k_u1_ap, k_b2y_ap, k_b2_ap, k_b2Ly_ap, k_b2L_ap, k_argc_ap, k_args_ap, k_bi_ap, k_biL_ap, k_andT_ap, k_orT_ap, k_notT_ap, k_andB_ap, k_andV_ap, k_orB_ap, k_orV_ap, k_notB_ap, k_notV_ap, k_ite_ap, k_ifS_ap, k_ex_ap, k_rt_ap, k_mktup_ap, k_mklst_ap, k_tup_ap, k_dsp_ap, k_frz_ap, k_own_ap, k_glo_ap, k_dc_ap, k_ds_ap, k_as_ap, k_wd_ap, k_call_ap, k_cl_ap, k_suby_ap, k_sub_ap, k_appx_ap, k_appv_ap, k_appc_ap, k_app_ap, k_pop_ap, k_popAv_ap, k_popAc_ap, k_popA_ap, k_setv_ap, k_seti_ap, k_seto_ap, k_set_ap, k_par_ap, k_seqD_ap, k_itS_ap, k_itR_ap, k_whl_ap, k_clK_ap, i1, i2, c1, c2, hr1, toDs_run, q, p1, p2, x1, x2, n1, n2]
end
end Mn
set_option Elab.async false
set_option linter.all false
set_option maxRecDepth 100000
set_option maxHeartbeats 1000000
namespace Mn
open PySem
/-! ### numbers of cuts -/
def gi (r : List Int) (i : Int) : Int := r.getD i.toNat 0
def nxr (r : List Int) : List Int := 1 :: ((iot 0 (r.length - 1)).map fun p => gi r p + gi r (p + 1)) ++ [1]
def rws : Nat → List Int → List Int
  | 0, r => r
  | n + 1, r => rws n (nxr r)
theorem nxr_len (r : List Int) (h : 1 ≤ r.length) : (nxr r).length = r.length + 1 := by simp [nxr, iot_len]; omega
theorem gi_nth {r : List Int} {i : Int} (h0 : 0 ≤ i) (h1 : i < r.length) : nth r i.toNat = some (gi r i) := by
  unfold gi
  rw [nth_eq, List.getD_eq_getElem?_getD, List.getElem?_eq_getElem (show i.toNat < r.length by omega)]
  rfl
def cntS : St := st (tN 2) (frz (b2L catL (frz (b2L catL (frz (dsp (args [cs (.int 1)]))) (frz (lc [4] (itR rng1 (args [b2 subD (bi lenD (args [vr 2])) (cs (.int 1))])) (tN 4) (pur true) (b2 addD (sub (vr 2) (vr 4)) (sub (vr 2) (b2 addD (vr 4) (cs (.int 1))))))))) (frz (dsp (args [cs (.int 1)])))))
theorem rng1_ok {n : Int} (h0 : -1 ≤ n) (h : n ≤ 10000) : rng1 [.int n] = some (upTo 0 n.toNat) := by unfold rng1; dsimp only; rw [smallI (by omega) (by omega)]; rfl
theorem cntS_run {o m : Int} {x3 : Option W} {g : List Cell} {r : List Int} (h1 : 1 ≤ r.length) (h2 : r.length ≤ 100) :
    cntS ⟨[some (.d (.int o)), some (.d (.int m)), some (.d (.lst (r.map D.int))), x3, none], [], g⟩ = .ok .nx ⟨[some (.d (.int o)), some (.d (.int m)), some (.d (.lst ((nxr r).map D.int))), x3, none], [], g⟩ := by
  have hr := rng1_ok (n := (r.length : Int) - 1) (by omega) (by omega)
  have e := lc_int (v := 4) (it := itR rng1 (args [b2 subD (bi lenD (args [vr 2])) (cs (.int 1))])) (c := pur true) (f := b2 addD (sub (vr 2) (vr 4)) (sub (vr 2) (b2 addD (vr 4) (cs (.int 1)))))
    (s := ⟨[some (.d (.int o)), some (.d (.int m)), some (.d (.lst (r.map D.int))), x3, none], [], g⟩) (iot 0 (r.length - 1)) (fun _ => true) (fun p => .int (gi r p + gi r (p + 1))) (by
      generalize hn : (r.length : Int) - 1 = n at hr
      have hl : lenD [.lst (r.map D.int)] = some (.int (n + 1)) := by unfold lenD; dsimp only; rw [List.length_map]; congr 2; omega
      have hm : n + 1 - 1 = n := by omega
      simp only [ob_ok, ob_exc, ob_stuck, ob_ite, oz_some, oz_none, oz_ite, bnd_ob, ap_ite, pur_ap, opt_ap, nth0, nthS, upAt0, upAtS, vr_ap, cs_ap, u1_ob, b2_ob, b2L_ob, args0, argsS, bi_ob, biL_ob, tst_ob, bool_bl, andT_ob, orT_ob, notT_ob, andV_ob, orV_ob, notV_ob, ite_ob, ifS_ob, skip_ap, sq_nx, sq_rt, sq_bk, sq_ct, sq_exc, sq_stuck, sq_ite, seq_sq, ex_ob, rt_ob, st_ob, pt_n, pt_t, pt_tu, tGo0, tGoS, tup_ob, dsp_ob, frz_ob, own_ob, glo_ob, toDs0, toDsS, toD_d, toAs0, toAsS, toA_d, toA_g, fx_ok, fx_exc, fx_ite, cl_ob, fo_ite, fo_nx, fo_rtd, fo_rtg, fo_exc, fo_stuck, intI_int, sub_ob, chkL_ap, app_ob, pop_ob, popAt_ob, setS_ob, par_ob, forS_ob, itS_ob, itR_ob, lp_nx, lp_ct, lp_bk, lp_rt, lp_exc, lp_stuck, lp_ite, pk_d, pks0, pksS, items_t, items_u, items_d, nrm, lstAt, lstPut, pk_l', pk_g, items_l, items_g, allD_map, allD, fn_ap, oz_map, nth_mapW, List.length_map, ixd_0, ixd_1, ixd_2, ixd_3, lamc_fx, capt, lamT_ap, lt_okd, lt_exc, thk_ap, tryS_ty, ty_ok, ty_stuck, eqD_ii, neD_ii, eqD_ss, neD_ss, lt_ii, le_ii, gt_ii, ge_ii, add_ii, sub_ii, neg_i, List.map_cons, List.map_nil, List.length_cons, List.length_nil, List.zip_cons_cons, List.zip_nil_right, List.zip_nil_left, List.foldl_cons, List.foldl_nil, List.replicate, List.cons_append, List.nil_append, Nat.reduceAdd, Nat.reduceSub, Nat.reduceLeDiff, Nat.reduceLT, Int.reduceLT, Int.reduceLE, Int.reduceAdd, Int.reduceSub, Int.reduceNeg, Int.reduceMul, Bool.not_true, Bool.not_false, decide_eq_true_eq, Bool.not_eq_true', decide_eq_false_iff_not, if_true, if_false, reduceIte, Nat.zero_le, true_and, and_true, seqD, k_u1_ap, k_b2y_ap, k_b2_ap, k_b2Ly_ap, k_b2L_ap, k_argc_ap, k_args_ap, k_bi_ap, k_biL_ap, k_andT_ap, k_orT_ap, k_notT_ap, k_andB_ap, k_andV_ap, k_orB_ap, k_orV_ap, k_notB_ap, k_notV_ap, k_ite_ap, k_ifS_ap, k_ex_ap, k_rt_ap, k_mktup_ap, k_mklst_ap, k_tup_ap, k_dsp_ap, k_frz_ap, k_own_ap, k_glo_ap, k_dc_ap, k_ds_ap, k_as_ap, k_wd_ap, k_call_ap, k_cl_ap, k_suby_ap, k_sub_ap, k_appx_ap, k_appv_ap, k_appc_ap, k_app_ap, k_pop_ap, k_popAv_ap, k_popAc_ap, k_popA_ap, k_setv_ap, k_seti_ap, k_seto_ap, k_set_ap, k_par_ap, k_seqD_ap, k_itS_ap, k_itR_ap, k_whl_ap, k_clK_ap, hl, hm, hr, upTo_iot]
      rw [show n.toNat = r.length - 1 by omega]) (fun i hi => by
      rw [iot_mem] at hi
      refine ⟨rfl, fun _ => ?_⟩
      have x0 : ixd r.length i = some i.toNat := ixd_in (by omega) (by omega)
      have x1 : ixd r.length (i + 1) = some (i + 1).toNat := ixd_in (by omega) (by omega)
      have n0 := gi_nth (r := r) (i := i) (by omega) (by omega)
      have n1 := gi_nth (r := r) (i := i + 1) (by omega) (by omega)
      simp only [ob_ok, ob_exc, ob_stuck, ob_ite, oz_some, oz_none, oz_ite, bnd_ob, ap_ite, pur_ap, opt_ap, nth0, nthS, upAt0, upAtS, vr_ap, cs_ap, u1_ob, b2_ob, b2L_ob, args0, argsS, bi_ob, biL_ob, tst_ob, bool_bl, andT_ob, orT_ob, notT_ob, andV_ob, orV_ob, notV_ob, ite_ob, ifS_ob, skip_ap, sq_nx, sq_rt, sq_bk, sq_ct, sq_exc, sq_stuck, sq_ite, seq_sq, ex_ob, rt_ob, st_ob, pt_n, pt_t, pt_tu, tGo0, tGoS, tup_ob, dsp_ob, frz_ob, own_ob, glo_ob, toDs0, toDsS, toD_d, toAs0, toAsS, toA_d, toA_g, fx_ok, fx_exc, fx_ite, cl_ob, fo_ite, fo_nx, fo_rtd, fo_rtg, fo_exc, fo_stuck, intI_int, sub_ob, chkL_ap, app_ob, pop_ob, popAt_ob, setS_ob, par_ob, forS_ob, itS_ob, itR_ob, lp_nx, lp_ct, lp_bk, lp_rt, lp_exc, lp_stuck, lp_ite, pk_d, pks0, pksS, items_t, items_u, items_d, nrm, lstAt, lstPut, pk_l', pk_g, items_l, items_g, allD_map, allD, fn_ap, oz_map, nth_mapW, List.length_map, ixd_0, ixd_1, ixd_2, ixd_3, lamc_fx, capt, lamT_ap, lt_okd, lt_exc, thk_ap, tryS_ty, ty_ok, ty_stuck, eqD_ii, neD_ii, eqD_ss, neD_ss, lt_ii, le_ii, gt_ii, ge_ii, add_ii, sub_ii, neg_i, List.map_cons, List.map_nil, List.length_cons, List.length_nil, List.zip_cons_cons, List.zip_nil_right, List.zip_nil_left, List.foldl_cons, List.foldl_nil, List.replicate, List.cons_append, List.nil_append, Nat.reduceAdd, Nat.reduceSub, Nat.reduceLeDiff, Nat.reduceLT, Int.reduceLT, Int.reduceLE, Int.reduceAdd, Int.reduceSub, Int.reduceNeg, Int.reduceMul, Bool.not_true, Bool.not_false, decide_eq_true_eq, Bool.not_eq_true', decide_eq_false_iff_not, if_true, if_false, reduceIte, Nat.zero_le, true_and, and_true, seqD, k_u1_ap, k_b2y_ap, k_b2_ap, k_b2Ly_ap, k_b2L_ap, k_argc_ap, k_args_ap, k_bi_ap, k_biL_ap, k_andT_ap, k_orT_ap, k_notT_ap, k_andB_ap, k_andV_ap, k_orB_ap, k_orV_ap, k_notB_ap, k_notV_ap, k_ite_ap, k_ifS_ap, k_ex_ap, k_rt_ap, k_mktup_ap, k_mklst_ap, k_tup_ap, k_dsp_ap, k_frz_ap, k_own_ap, k_glo_ap, k_dc_ap, k_ds_ap, k_as_ap, k_wd_ap, k_call_ap, k_cl_ap, k_suby_ap, k_sub_ap, k_appx_ap, k_appv_ap, k_appc_ap, k_app_ap, k_pop_ap, k_popAv_ap, k_popAc_ap, k_popA_ap, k_setv_ap, k_seti_ap, k_seto_ap, k_set_ap, k_par_ap, k_seqD_ap, k_itS_ap, k_itR_ap, k_whl_ap, k_clK_ap, x0, x1, n0, n1]) (by rw [iot_len]; omega)
  rw [List.filter_eq_self.mpr fun _ _ => rfl] at e
  have c1 := catL_few (xs := [.int 1]) (ys := (iot 0 (r.length - 1)).map fun p => .int (gi r p + gi r (p + 1))) (by simp [iot_len]; omega)
  have c2 := catL_few (xs := [.int 1] ++ (iot 0 (r.length - 1)).map fun p => .int (gi r p + gi r (p + 1))) (ys := [.int 1]) (by simp [iot_len]; omega)
  simp only [List.cons_append, List.nil_append] at c1 c2
  unfold cntS
  simp only [ob_ok, ob_exc, ob_stuck, ob_ite, oz_some, oz_none, oz_ite, bnd_ob, ap_ite, pur_ap, opt_ap, nth0, nthS, upAt0, upAtS, vr_ap, cs_ap, u1_ob, b2_ob, b2L_ob, args0, argsS, bi_ob, biL_ob, tst_ob, bool_bl, andT_ob, orT_ob, notT_ob, andV_ob, orV_ob, notV_ob, ite_ob, ifS_ob, skip_ap, sq_nx, sq_rt, sq_bk, sq_ct, sq_exc, sq_stuck, sq_ite, seq_sq, ex_ob, rt_ob, st_ob, pt_n, pt_t, pt_tu, tGo0, tGoS, tup_ob, dsp_ob, frz_ob, own_ob, glo_ob, toDs0, toDsS, toD_d, toAs0, toAsS, toA_d, toA_g, fx_ok, fx_exc, fx_ite, cl_ob, fo_ite, fo_nx, fo_rtd, fo_rtg, fo_exc, fo_stuck, intI_int, sub_ob, chkL_ap, app_ob, pop_ob, popAt_ob, setS_ob, par_ob, forS_ob, itS_ob, itR_ob, lp_nx, lp_ct, lp_bk, lp_rt, lp_exc, lp_stuck, lp_ite, pk_d, pks0, pksS, items_t, items_u, items_d, nrm, lstAt, lstPut, pk_l', pk_g, items_l, items_g, allD_map, allD, fn_ap, oz_map, nth_mapW, List.length_map, ixd_0, ixd_1, ixd_2, ixd_3, lamc_fx, capt, lamT_ap, lt_okd, lt_exc, thk_ap, tryS_ty, ty_ok, ty_stuck, eqD_ii, neD_ii, eqD_ss, neD_ss, lt_ii, le_ii, gt_ii, ge_ii, add_ii, sub_ii, neg_i, List.map_cons, List.map_nil, List.length_cons, List.length_nil, List.zip_cons_cons, List.zip_nil_right, List.zip_nil_left, List.foldl_cons, List.foldl_nil, List.replicate, List.cons_append, List.nil_append, Nat.reduceAdd, Nat.reduceSub, Nat.reduceLeDiff, Nat.reduceLT, Int.reduceLT, Int.reduceLE, Int.reduceAdd, Int.reduceSub, Int.reduceNeg, Int.reduceMul, Bool.not_true, Bool.not_false, decide_eq_true_eq, Bool.not_eq_true', decide_eq_false_iff_not, if_true, if_false, reduceIte, Nat.zero_le, true_and, and_true, seqD, k_u1_ap, k_b2y_ap, k_b2_ap, k_b2Ly_ap, k_b2L_ap, k_argc_ap, k_args_ap, k_bi_ap, k_biL_ap, k_andT_ap, k_orT_ap, k_notT_ap, k_andB_ap, k_andV_ap, k_orB_ap, k_orV_ap, k_notB_ap, k_notV_ap, k_ite_ap, k_ifS_ap, k_ex_ap, k_rt_ap, k_mktup_ap, k_mklst_ap, k_tup_ap, k_dsp_ap, k_frz_ap, k_own_ap, k_glo_ap, k_dc_ap, k_ds_ap, k_as_ap, k_wd_ap, k_call_ap, k_cl_ap, k_suby_ap, k_sub_ap, k_appx_ap, k_appv_ap, k_appc_ap, k_app_ap, k_pop_ap, k_popAv_ap, k_popAc_ap, k_popA_ap, k_setv_ap, k_seti_ap, k_seto_ap, k_set_ap, k_par_ap, k_seqD_ap, k_itS_ap, k_itR_ap, k_whl_ap, k_clK_ap, e, toDs_run, c1, c2]
  simp [nxr, List.map_map, Function.comp_def]
theorem cnt_loop {o m : Int} {g : List Cell} : ∀ (n : Nat) (lo : Int) (r : List Int) (x3 : Option W), 1 ≤ r.length → r.length + n ≤ 100 →
    ∃ x3', loop (tN 3) cntS (upTo lo n) ⟨[some (.d (.int o)), some (.d (.int m)), some (.d (.lst (r.map D.int))), x3, none], [], g⟩ = .ok .nx ⟨[some (.d (.int o)), some (.d (.int m)), some (.d (.lst ((rws n r).map D.int))), x3', none], [], g⟩
  | 0, lo, r, x3, _, _ => ⟨x3, rfl⟩
  | n + 1, lo, r, x3, h1, h2 => by
    have hl := nxr_len r h1
    obtain ⟨x3', q⟩ := cnt_loop (o := o) (m := m) (g := g) n (lo + 1) (nxr r) (some (.d (.int lo))) (by omega) (by omega)
    refine ⟨x3', ?_⟩
    rw [upTo, loopS]
    simp only [ob_ok, ob_exc, ob_stuck, ob_ite, oz_some, oz_none, oz_ite, bnd_ob, ap_ite, pur_ap, opt_ap, nth0, nthS, upAt0, upAtS, vr_ap, cs_ap, u1_ob, b2_ob, b2L_ob, args0, argsS, bi_ob, biL_ob, tst_ob, bool_bl, andT_ob, orT_ob, notT_ob, andV_ob, orV_ob, notV_ob, ite_ob, ifS_ob, skip_ap, sq_nx, sq_rt, sq_bk, sq_ct, sq_exc, sq_stuck, sq_ite, seq_sq, ex_ob, rt_ob, st_ob, pt_n, pt_t, pt_tu, tGo0, tGoS, tup_ob, dsp_ob, frz_ob, own_ob, glo_ob, toDs0, toDsS, toD_d, toAs0, toAsS, toA_d, toA_g, fx_ok, fx_exc, fx_ite, cl_ob, fo_ite, fo_nx, fo_rtd, fo_rtg, fo_exc, fo_stuck, intI_int, sub_ob, chkL_ap, app_ob, pop_ob, popAt_ob, setS_ob, par_ob, forS_ob, itS_ob, itR_ob, lp_nx, lp_ct, lp_bk, lp_rt, lp_exc, lp_stuck, lp_ite, pk_d, pks0, pksS, items_t, items_u, items_d, nrm, lstAt, lstPut, pk_l', pk_g, items_l, items_g, allD_map, allD, fn_ap, oz_map, nth_mapW, List.length_map, ixd_0, ixd_1, ixd_2, ixd_3, lamc_fx, capt, lamT_ap, lt_okd, lt_exc, thk_ap, tryS_ty, ty_ok, ty_stuck, eqD_ii, neD_ii, eqD_ss, neD_ss, lt_ii, le_ii, gt_ii, ge_ii, add_ii, sub_ii, neg_i, List.map_cons, List.map_nil, List.length_cons, List.length_nil, List.zip_cons_cons, List.zip_nil_right, List.zip_nil_left, List.foldl_cons, List.foldl_nil, List.replicate, List.cons_append, List.nil_append, Nat.reduceAdd, Nat.reduceSub, Nat.reduceLeDiff, Nat.reduceLT, Int.reduceLT, Int.reduceLE, Int.reduceAdd, Int.reduceSub, Int.reduceNeg, Int.reduceMul, Bool.not_true, Bool.not_false, decide_eq_true_eq, Bool.not_eq_true', decide_eq_false_iff_not, if_true, if_false, reduceIte, Nat.zero_le, true_and, and_true, seqD, k_u1_ap, k_b2y_ap, k_b2_ap, k_b2Ly_ap, k_b2L_ap, k_argc_ap, k_args_ap, k_bi_ap, k_biL_ap, k_andT_ap, k_orT_ap, k_notT_ap, k_andB_ap, k_andV_ap, k_orB_ap, k_orV_ap, k_notB_ap, k_notV_ap, k_ite_ap, k_ifS_ap, k_ex_ap, k_rt_ap, k_mktup_ap, k_mklst_ap, k_tup_ap, k_dsp_ap, k_frz_ap, k_own_ap, k_glo_ap, k_dc_ap, k_ds_ap, k_as_ap, k_wd_ap, k_call_ap, k_cl_ap, k_suby_ap, k_sub_ap, k_appx_ap, k_appv_ap, k_appc_ap, k_app_ap, k_pop_ap, k_popAv_ap, k_popAc_ap, k_popA_ap, k_setv_ap, k_seti_ap, k_seto_ap, k_set_ap, k_par_ap, k_seqD_ap, k_itS_ap, k_itR_ap, k_whl_ap, k_clK_ap, cntS_run h1 (show r.length ≤ 100 by omega), q]
    rfl
theorem rws_len : ∀ (n : Nat) (r : List Int), 1 ≤ r.length → (rws n r).length = r.length + n
  | 0, r, _ => rfl
  | n + 1, r, h => by rw [rws, rws_len n (nxr r) (by rw [nxr_len r h]; omega), nxr_len r h]; omega
def cval (o m : Int) : Int := gi (rws (o - 1).toNat [1]) (m - 1)
theorem count_run {o m : Int} {g : List Cell} (h1 : 1 ≤ o) (h2 : o ≤ 60) (h3 : 1 ≤ m) (h4 : m ≤ o) : F_law_count [.d (.int o), .d (.int m)] g = .ok (.d (.int (cval o m))) g := by
  have hr := rng1_ok (n := o - 1) (by omega) (by omega)
  obtain ⟨x3', q⟩ := cnt_loop (o := o) (m := m) (g := g) (o - 1).toNat 0 [1] none (by simp) (by simp; omega)
  have hl := rws_len (o - 1).toNat [1] (by simp)
  simp only [List.length_cons, List.length_nil] at hl
  have x0 : ixd (rws (o - 1).toNat [1]).length (m - 1) = some (m - 1).toNat := ixd_in (by omega) (by omega)
  have n0 := gi_nth (r := rws (o - 1).toNat [1]) (i := m - 1) (by omega) (by omega)
  simp only [List.map_cons, List.map_nil] at q
  show fn 5 2 (seq (st (tN 2) (frz (dsp (args [cs (.int 1)])))) (seq (forS (itR rng1 (args [b2 subD (vr 0) (cs (.int 1))])) (tN 3) cntS) (rt (sub (vr 2) (b2 subD (vr 1) (cs (.int 1))))))) _ g = _
  unfold cval
  simp only [ob_ok, ob_exc, ob_stuck, ob_ite, oz_some, oz_none, oz_ite, bnd_ob, ap_ite, pur_ap, opt_ap, nth0, nthS, upAt0, upAtS, vr_ap, cs_ap, u1_ob, b2_ob, b2L_ob, args0, argsS, bi_ob, biL_ob, tst_ob, bool_bl, andT_ob, orT_ob, notT_ob, andV_ob, orV_ob, notV_ob, ite_ob, ifS_ob, skip_ap, sq_nx, sq_rt, sq_bk, sq_ct, sq_exc, sq_stuck, sq_ite, seq_sq, ex_ob, rt_ob, st_ob, pt_n, pt_t, pt_tu, tGo0, tGoS, tup_ob, dsp_ob, frz_ob, own_ob, glo_ob, toDs0, toDsS, toD_d, toAs0, toAsS, toA_d, toA_g, fx_ok, fx_exc, fx_ite, cl_ob, fo_ite, fo_nx, fo_rtd, fo_rtg, fo_exc, fo_stuck, intI_int, sub_ob, chkL_ap, app_ob, pop_ob, popAt_ob, setS_ob, par_ob, forS_ob, itS_ob, itR_ob, lp_nx, lp_ct, lp_bk, lp_rt, lp_exc, lp_stuck, lp_ite, pk_d, pks0, pksS, items_t, items_u, items_d, nrm, lstAt, lstPut, pk_l', pk_g, items_l, items_g, allD_map, allD, fn_ap, oz_map, nth_mapW, List.length_map, ixd_0, ixd_1, ixd_2, ixd_3, lamc_fx, capt, lamT_ap, lt_okd, lt_exc, thk_ap, tryS_ty, ty_ok, ty_stuck, eqD_ii, neD_ii, eqD_ss, neD_ss, lt_ii, le_ii, gt_ii, ge_ii, add_ii, sub_ii, neg_i, List.map_cons, List.map_nil, List.length_cons, List.length_nil, List.zip_cons_cons, List.zip_nil_right, List.zip_nil_left, List.foldl_cons, List.foldl_nil, List.replicate, List.cons_append, List.nil_append, Nat.reduceAdd, Nat.reduceSub, Nat.reduceLeDiff, Nat.reduceLT, Int.reduceLT, Int.reduceLE, Int.reduceAdd, Int.reduceSub, Int.reduceNeg, Int.reduceMul, Bool.not_true, Bool.not_false, decide_eq_true_eq, Bool.not_eq_true', decide_eq_false_iff_not, if_true, if_false, reduceIte, Nat.zero_le, true_and, and_true, seqD, k_u1_ap, k_b2y_ap, k_b2_ap, k_b2Ly_ap, k_b2L_ap, k_argc_ap, k_args_ap, k_bi_ap, k_biL_ap, k_andT_ap, k_orT_ap, k_notT_ap, k_andB_ap, k_andV_ap, k_orB_ap, k_orV_ap, k_notB_ap, k_notV_ap, k_ite_ap, k_ifS_ap, k_ex_ap, k_rt_ap, k_mktup_ap, k_mklst_ap, k_tup_ap, k_dsp_ap, k_frz_ap, k_own_ap, k_glo_ap, k_dc_ap, k_ds_ap, k_as_ap, k_wd_ap, k_call_ap, k_cl_ap, k_suby_ap, k_sub_ap, k_appx_ap, k_appv_ap, k_appc_ap, k_app_ap, k_pop_ap, k_popAv_ap, k_popAc_ap, k_popA_ap, k_setv_ap, k_seti_ap, k_seto_ap, k_set_ap, k_par_ap, k_seqD_ap, k_itS_ap, k_itR_ap, k_whl_ap, k_clK_ap, hr, q, x0, n0]
end Mn
set_option Elab.async false
set_option linter.all false
set_option maxRecDepth 100000
set_option maxHeartbeats 1000000
namespace Mn
open PySem
theorem told_ok {T : List Cell → Fo} {g g' : List Cell} {x : D} (h : T g = .ok (.d x) g') : F_law_told T g = .ok (.d (.tup [.str "told", x])) g' := by
  unfold F_law_told fnT b_law_told
  simp only [ob_ok, ob_exc, ob_stuck, ob_ite, oz_some, oz_none, oz_ite, bnd_ob, ap_ite, pur_ap, opt_ap, nth0, nthS, upAt0, upAtS, vr_ap, cs_ap, u1_ob, b2_ob, b2L_ob, args0, argsS, bi_ob, biL_ob, tst_ob, bool_bl, andT_ob, orT_ob, notT_ob, andV_ob, orV_ob, notV_ob, ite_ob, ifS_ob, skip_ap, sq_nx, sq_rt, sq_bk, sq_ct, sq_exc, sq_stuck, sq_ite, seq_sq, ex_ob, rt_ob, st_ob, pt_n, pt_t, pt_tu, tGo0, tGoS, tup_ob, dsp_ob, frz_ob, own_ob, glo_ob, toDs0, toDsS, toD_d, toAs0, toAsS, toA_d, toA_g, fx_ok, fx_exc, fx_ite, cl_ob, fo_ite, fo_nx, fo_rtd, fo_rtg, fo_exc, fo_stuck, intI_int, sub_ob, chkL_ap, app_ob, pop_ob, popAt_ob, setS_ob, par_ob, forS_ob, itS_ob, itR_ob, lp_nx, lp_ct, lp_bk, lp_rt, lp_exc, lp_stuck, lp_ite, pk_d, pks0, pksS, items_t, items_u, items_d, nrm, lstAt, lstPut, pk_l', pk_g, items_l, items_g, allD_map, allD, fn_ap, oz_map, nth_mapW, List.length_map, ixd_0, ixd_1, ixd_2, ixd_3, lamc_fx, capt, lamT_ap, lt_okd, lt_exc, thk_ap, tryS_ty, ty_ok, ty_stuck, eqD_ii, neD_ii, eqD_ss, neD_ss, lt_ii, le_ii, gt_ii, ge_ii, add_ii, sub_ii, neg_i, List.map_cons, List.map_nil, List.length_cons, List.length_nil, List.zip_cons_cons, List.zip_nil_right, List.zip_nil_left, List.foldl_cons, List.foldl_nil, List.replicate, List.cons_append, List.nil_append, Nat.reduceAdd, Nat.reduceSub, Nat.reduceLeDiff, Nat.reduceLT, Int.reduceLT, Int.reduceLE, Int.reduceAdd, Int.reduceSub, Int.reduceNeg, Int.reduceMul, Bool.not_true, Bool.not_false, decide_eq_true_eq, Bool.not_eq_true', decide_eq_false_iff_not, if_true, if_false, reduceIte, Nat.zero_le, true_and, and_true, seqD, k_u1_ap, k_b2y_ap, k_b2_ap, k_b2Ly_ap, k_b2L_ap, k_argc_ap, k_args_ap, k_bi_ap, k_biL_ap, k_andT_ap, k_orT_ap, k_notT_ap, k_andB_ap, k_andV_ap, k_orB_ap, k_orV_ap, k_notB_ap, k_notV_ap, k_ite_ap, k_ifS_ap, k_ex_ap, k_rt_ap, k_mktup_ap, k_mklst_ap, k_tup_ap, k_dsp_ap, k_frz_ap, k_own_ap, k_glo_ap, k_dc_ap, k_ds_ap, k_as_ap, k_wd_ap, k_call_ap, k_cl_ap, k_suby_ap, k_sub_ap, k_appx_ap, k_appv_ap, k_appc_ap, k_app_ap, k_pop_ap, k_popAv_ap, k_popAc_ap, k_popA_ap, k_setv_ap, k_seti_ap, k_seto_ap, k_set_ap, k_par_ap, k_seqD_ap, k_itS_ap, k_itR_ap, k_whl_ap, k_clK_ap, h]
theorem told_ref {T : List Cell → Fo} {g g' : List Cell} {w : Str} (h : T g = .exc ⟨3, [.str w]⟩ g') : F_law_told T g = .ok (.d (.tup [.str "refused", .str w, .bl false])) g' := by
  unfold F_law_told fnT b_law_told
  simp only [ob_ok, ob_exc, ob_stuck, ob_ite, oz_some, oz_none, oz_ite, bnd_ob, ap_ite, pur_ap, opt_ap, nth0, nthS, upAt0, upAtS, vr_ap, cs_ap, u1_ob, b2_ob, b2L_ob, args0, argsS, bi_ob, biL_ob, tst_ob, bool_bl, andT_ob, orT_ob, notT_ob, andV_ob, orV_ob, notV_ob, ite_ob, ifS_ob, skip_ap, sq_nx, sq_rt, sq_bk, sq_ct, sq_exc, sq_stuck, sq_ite, seq_sq, ex_ob, rt_ob, st_ob, pt_n, pt_t, pt_tu, tGo0, tGoS, tup_ob, dsp_ob, frz_ob, own_ob, glo_ob, toDs0, toDsS, toD_d, toAs0, toAsS, toA_d, toA_g, fx_ok, fx_exc, fx_ite, cl_ob, fo_ite, fo_nx, fo_rtd, fo_rtg, fo_exc, fo_stuck, intI_int, sub_ob, chkL_ap, app_ob, pop_ob, popAt_ob, setS_ob, par_ob, forS_ob, itS_ob, itR_ob, lp_nx, lp_ct, lp_bk, lp_rt, lp_exc, lp_stuck, lp_ite, pk_d, pks0, pksS, items_t, items_u, items_d, nrm, lstAt, lstPut, pk_l', pk_g, items_l, items_g, allD_map, allD, fn_ap, oz_map, nth_mapW, List.length_map, ixd_0, ixd_1, ixd_2, ixd_3, lamc_fx, capt, lamT_ap, lt_okd, lt_exc, thk_ap, tryS_ty, ty_ok, ty_stuck, eqD_ii, neD_ii, eqD_ss, neD_ss, lt_ii, le_ii, gt_ii, ge_ii, add_ii, sub_ii, neg_i, List.map_cons, List.map_nil, List.length_cons, List.length_nil, List.zip_cons_cons, List.zip_nil_right, List.zip_nil_left, List.foldl_cons, List.foldl_nil, List.replicate, List.cons_append, List.nil_append, Nat.reduceAdd, Nat.reduceSub, Nat.reduceLeDiff, Nat.reduceLT, Int.reduceLT, Int.reduceLE, Int.reduceAdd, Int.reduceSub, Int.reduceNeg, Int.reduceMul, Bool.not_true, Bool.not_false, decide_eq_true_eq, Bool.not_eq_true', decide_eq_false_iff_not, if_true, if_false, reduceIte, Nat.zero_le, true_and, and_true, seqD, k_u1_ap, k_b2y_ap, k_b2_ap, k_b2Ly_ap, k_b2L_ap, k_argc_ap, k_args_ap, k_bi_ap, k_biL_ap, k_andT_ap, k_orT_ap, k_notT_ap, k_andB_ap, k_andV_ap, k_orB_ap, k_orV_ap, k_notB_ap, k_notV_ap, k_ite_ap, k_ifS_ap, k_ex_ap, k_rt_ap, k_mktup_ap, k_mklst_ap, k_tup_ap, k_dsp_ap, k_frz_ap, k_own_ap, k_glo_ap, k_dc_ap, k_ds_ap, k_as_ap, k_wd_ap, k_call_ap, k_cl_ap, k_suby_ap, k_sub_ap, k_appx_ap, k_appv_ap, k_appc_ap, k_app_ap, k_pop_ap, k_popAv_ap, k_popAc_ap, k_popA_ap, k_setv_ap, k_seti_ap, k_seto_ap, k_set_ap, k_par_ap, k_seqD_ap, k_itS_ap, k_itR_ap, k_whl_ap, k_clK_ap, h]
  rfl
theorem told_num {T : List Cell → Fo} {g g' : List Cell} {w : Str} (h : T g = .exc ⟨2, [.str w]⟩ g') : F_law_told T g = .ok (.d (.tup [.str "number", .str w])) g' := by
  unfold F_law_told fnT b_law_told
  simp only [ob_ok, ob_exc, ob_stuck, ob_ite, oz_some, oz_none, oz_ite, bnd_ob, ap_ite, pur_ap, opt_ap, nth0, nthS, upAt0, upAtS, vr_ap, cs_ap, u1_ob, b2_ob, b2L_ob, args0, argsS, bi_ob, biL_ob, tst_ob, bool_bl, andT_ob, orT_ob, notT_ob, andV_ob, orV_ob, notV_ob, ite_ob, ifS_ob, skip_ap, sq_nx, sq_rt, sq_bk, sq_ct, sq_exc, sq_stuck, sq_ite, seq_sq, ex_ob, rt_ob, st_ob, pt_n, pt_t, pt_tu, tGo0, tGoS, tup_ob, dsp_ob, frz_ob, own_ob, glo_ob, toDs0, toDsS, toD_d, toAs0, toAsS, toA_d, toA_g, fx_ok, fx_exc, fx_ite, cl_ob, fo_ite, fo_nx, fo_rtd, fo_rtg, fo_exc, fo_stuck, intI_int, sub_ob, chkL_ap, app_ob, pop_ob, popAt_ob, setS_ob, par_ob, forS_ob, itS_ob, itR_ob, lp_nx, lp_ct, lp_bk, lp_rt, lp_exc, lp_stuck, lp_ite, pk_d, pks0, pksS, items_t, items_u, items_d, nrm, lstAt, lstPut, pk_l', pk_g, items_l, items_g, allD_map, allD, fn_ap, oz_map, nth_mapW, List.length_map, ixd_0, ixd_1, ixd_2, ixd_3, lamc_fx, capt, lamT_ap, lt_okd, lt_exc, thk_ap, tryS_ty, ty_ok, ty_stuck, eqD_ii, neD_ii, eqD_ss, neD_ss, lt_ii, le_ii, gt_ii, ge_ii, add_ii, sub_ii, neg_i, List.map_cons, List.map_nil, List.length_cons, List.length_nil, List.zip_cons_cons, List.zip_nil_right, List.zip_nil_left, List.foldl_cons, List.foldl_nil, List.replicate, List.cons_append, List.nil_append, Nat.reduceAdd, Nat.reduceSub, Nat.reduceLeDiff, Nat.reduceLT, Int.reduceLT, Int.reduceLE, Int.reduceAdd, Int.reduceSub, Int.reduceNeg, Int.reduceMul, Bool.not_true, Bool.not_false, decide_eq_true_eq, Bool.not_eq_true', decide_eq_false_iff_not, if_true, if_false, reduceIte, Nat.zero_le, true_and, and_true, seqD, k_u1_ap, k_b2y_ap, k_b2_ap, k_b2Ly_ap, k_b2L_ap, k_argc_ap, k_args_ap, k_bi_ap, k_biL_ap, k_andT_ap, k_orT_ap, k_notT_ap, k_andB_ap, k_andV_ap, k_orB_ap, k_orV_ap, k_notB_ap, k_notV_ap, k_ite_ap, k_ifS_ap, k_ex_ap, k_rt_ap, k_mktup_ap, k_mklst_ap, k_tup_ap, k_dsp_ap, k_frz_ap, k_own_ap, k_glo_ap, k_dc_ap, k_ds_ap, k_as_ap, k_wd_ap, k_call_ap, k_cl_ap, k_suby_ap, k_sub_ap, k_appx_ap, k_appv_ap, k_appc_ap, k_app_ap, k_pop_ap, k_popAv_ap, k_popAc_ap, k_popA_ap, k_setv_ap, k_seti_ap, k_seto_ap, k_set_ap, k_par_ap, k_seqD_ap, k_itS_ap, k_itR_ap, k_whl_ap, k_clK_ap, h]
  rfl
def tI : D → Option (List Int) | .tup xs => intsD xs | _ => none
def tIs : List D → Option (List (List Int))
  | [] => some []
  | x :: xs => match tI x with | some n => (match tIs xs with | some r => some (n :: r) | none => none) | none => none
theorem intsD_eq : ∀ {xs : List D} {ns : List Int}, intsD xs = some ns → xs = ns.map D.int
  | [], ns, h => by cases h; rfl
  | .int i :: r, ns, h => by
    simp only [intsD] at h
    split at h
    · rename_i ms q; cases h; rw [List.map_cons, ← intsD_eq q]
    · cases h
theorem tI_eq {x : D} {ns : List Int} (h : tI x = some ns) : x = .tup (ns.map D.int) := by
  cases x <;> simp only [tI] at h <;> try cases h
  rw [intsD_eq h]
theorem tIs_eq : ∀ {xs : List D} {l : List (List Int)}, tIs xs = some l → xs = l.map fun ns => .tup (ns.map D.int)
  | [], l, h => by cases h; rfl
  | x :: xs, l, h => by
    simp only [tIs] at h
    split at h
    · rename_i n q
      split at h
      · rename_i r q2; cases h; rw [List.map_cons, ← tIs_eq q2, ← tI_eq q]
      · cases h
    · cases h
/-- all that is wanted of a pair for all cuts -/
def chk (o m : Int) : Bool := if 500 < cval o m then true else
  match tIs (fnd o m m.toNat), tIs ((lrow o m (m - 1).toNat).map (cutOf o m)) with
  | some a, some b => decide (a = b) && fndB o m && lrowB o m && (lrow o m (m - 1).toNat).all (cutB m) && decide ((lrow o m (m - 1).toNat).length ≤ 2000) && okD 3 (.tup [.str "told", .tup (fnd o m m.toNat)]) && shwD (.tup [.str "told", .tup (fnd o m m.toNat)]) && decide (szD (.tup [.str "told", .tup (fnd o m m.toNat)]) ≤ 16777216)
  | _, _ => false
def pairs : List (Int × Int) := ((List.range 17).flatMap fun o => (List.range (o + 1)).map fun (m : Nat) => (((o + 1 : Nat) : Int), ((m + 1 : Nat) : Int))) ++ [(60, 1), (60, 2), (60, 59), (60, 60), (33, 3), (34, 3)]
/-- the number that the program counts -/
def pcnt (o m : Int) : Int := match F_count_cuts [.d (.int o), .d (.int m)] [] with | .ok (.d (.int c)) _ => c | _ => -1
end Mn
set_option Elab.async false
set_option linter.all false
set_option maxRecDepth 100000
set_option maxHeartbeats 1000000
namespace Mn
open PySem
def tt (r : List Int) : D := .tup (r.map D.int)
def ll (r : List Int) : D := .lst (r.map D.int)
/-! ### rows of the program -/
def fndT (o m : Int) : Nat → List (List Int)
  | 0 => [[]]
  | j + 1 => (fndT o m j).flatMap fun r => (iot (lo1 (m - j - 1) (o - sumI r - (m - j - 1))) (o - sumI r - (m - j - 1) + 1 - lo1 (m - j - 1) (o - sumI r - (m - j - 1))).toNat).map fun z => r ++ [z]
theorem sumT_tt (r : List Int) : sumT (tt r) = sumI r := by simp [sumT, tt, rowOf, intsD_map]
theorem fnd_eq (o m : Int) : ∀ j, fnd o m j = (fndT o m j).map tt
  | 0 => rfl
  | j + 1 => by
    simp only [fnd, stF, fndT, fnd_eq o m j, List.map_map, List.flatMap_map, List.map_flatMap]
    congr 1
    funext r
    simp only [Function.comp, rmY, rmM, rmX, sumT_tt, upTo_iot, List.map_map]
    congr 1
    funext z
    simp [Function.comp, tt, rowOf]
def rowBT (o left : Int) (r : List Int) : Bool := decide (r.length ≤ 100) && decide (-1000 ≤ o - sumI r - left) && decide (o - sumI r - left ≤ 1000)
def fndBT (o m : Int) : Bool := (List.range m.toNat).all fun (j : Nat) => decide ((fndT o m j).length ≤ 4096) && (fndT o m j).all (rowBT o (m - j - 1))
theorem fndB_of {o m : Int} (h : fndBT o m = true) : fndB o m = true := by
  unfold fndB
  unfold fndBT at h
  rw [List.all_eq_true] at h ⊢
  intro j hj
  have h1 := Bool.and_eq_true_iff.mp (h j hj)
  unfold stB
  rw [fnd_eq, List.length_map, List.all_map, Bool.and_eq_true]
  refine ⟨h1.1, ?_⟩
  rw [List.all_eq_true]
  intro r hr
  have h2 := List.all_eq_true.mp h1.2 r hr
  simp only [rowBT, Bool.and_eq_true] at h2
  simp only [decide_eq_true_eq] at h2
  have e : rowB o (m - j - 1) (tt r) = ((intsD (r.map D.int)).isSome && decide ((r.map D.int).length ≤ 100) && decide (-1000 ≤ o - sumT (tt r) - (m - j - 1)) && decide (o - sumT (tt r) - (m - j - 1) ≤ 1000)) := rfl
  show rowB o (m - j - 1) (tt r) = true
  rw [e, intsD_map, List.length_map]
  simp only [sumT_tt, Bool.and_eq_true, decide_eq_true_eq]
  exact ⟨⟨⟨rfl, h2.1.1⟩, h2.1.2⟩, h2.2⟩
/-! ### rows of the law -/
def bgT' (r : List Int) : Int := match r.getLast? with | some i => i + 1 | none => 1
def lrowT (o m : Int) : Nat → List (List Int)
  | 0 => [[]]
  | j + 1 => (lrowT o m j).flatMap fun r => (iot (bgT' r) (o - m + j + 2 - bgT' r).toNat).map fun z => r ++ [z]
theorem ne_nil (r : List Int) : neD (ll r) (.lst []) = some (.bl (decide (r ≠ []))) := by
  have := neD_nil (n := 0) (xs := r.map D.int) (okDs_ints 0 r) (by decide)
  rw [ll, this]; simp
theorem bgI_ll (r : List Int) : bgI (ll r) = bgT' r := by
  have h := ne_nil r
  unfold ll at h ⊢
  unfold bgI
  simp only [h]
  rcases List.eq_nil_or_concat r with rfl | ⟨r', i, rfl⟩
  · rfl
  · rw [List.concat_eq_append, decide_eq_true (by simp)]
    simp [bgT']
theorem lrow_eq (o m : Int) : ∀ j, lrow o m j = (lrowT o m j).map ll
  | 0 => rfl
  | j + 1 => by
    simp only [lrow, gr, grR, lrowT, lrow_eq o m j, List.flatMap_map, List.map_flatMap]
    congr 1
    funext r
    simp only [bgI_ll, upTo_iot, List.map_map]
    congr 1
    funext z
    simp [Function.comp, ll, lOf]
def okA (r : List Int) : Prop := r.length ≤ 60 ∧ ∀ i ∈ r, -60 ≤ i ∧ i ≤ 60
def okR (r : List Int) : Bool := decide (r.length ≤ 60) && r.all fun i => decide (0 ≤ i) && decide (i ≤ 60)
theorem bgB_of {r : List Int} (h : okR r = true) : bgB (ll r) = true := by
  simp only [okR, Bool.and_eq_true, decide_eq_true_eq, List.all_eq_true] at h
  have hn := ne_nil r
  have hb := bgI_ll r
  unfold ll at hn hb ⊢
  unfold bgB
  simp only [hn, hb]
  rcases List.eq_nil_or_concat r with rfl | ⟨r', i, rfl⟩
  · simp
  · rw [List.concat_eq_append] at h ⊢
    have hi := h.2 i (by simp)
    rw [decide_eq_true (show r' ++ [i] ≠ [] by simp)]
    simp only [ixd_last, List.length_map, List.length_append, List.length_cons, List.length_nil]
    rw [if_neg (by omega)]
    simp only [List.map_append, List.map_cons, List.map_nil]
    have e : nth (r'.map D.int ++ [D.int i]) (r'.length + (0 + 1) - 1) = some (.int i) := by
      have := nth_len (D.int i) (r'.map D.int)
      rw [List.length_map] at this
      exact this
    rw [e]
    have h1 := h.1
    simp only [List.length_append, List.length_cons, List.length_nil] at h1
    simp [bgT']
    omega
def lrowBT (o m : Int) : Bool := (List.range (m - 1).toNat).all fun j => (lrowT o m j).all okR && decide ((lrowT o m j).length ≤ 2000)
theorem lrowB_of {o m : Int} (h : lrowBT o m = true) : lrowB o m = true := by
  unfold lrowB
  unfold lrowBT at h
  rw [List.all_eq_true] at h ⊢
  intro j hj
  have h1 := Bool.and_eq_true_iff.mp (h j hj)
  unfold grB
  rw [lrow_eq, List.length_map, List.all_map, Bool.and_eq_true]
  exact ⟨List.all_eq_true.mpr fun r hr => bgB_of (List.all_eq_true.mp h1.1 r hr), h1.2⟩
/-! ### the cuts of rows -/
def cuT (o m : Int) (r : List Int) : List Int := (iot 0 m.toNat).map fun i => gi (0 :: (r ++ [o])) (i + 1) - gi (0 :: (r ++ [o])) i
theorem cutOf_ll {o m : Int} {r : List Int} (hm : (r.length : Int) + 1 = m) : cutOf o m (ll r) = tt (cuT o m r) := by
  unfold cutOf tt cuT
  rw [upTo_iot, List.map_map, List.map_map]
  congr 1
  refine List.map_congr_left fun i hi => ?_
  rw [iot_mem] at hi
  have e : endsL o (ll r) = (0 :: (r ++ [o])).map D.int := by simp [endsL, ll, lOf]
  have hl : (0 :: (r ++ [o])).length = r.length + 2 := by simp
  have n1 := gi_nth (r := 0 :: (r ++ [o])) (i := i + 1) (by omega) (by omega)
  have n0 := gi_nth (r := 0 :: (r ++ [o])) (i := i) (by omega) (by omega)
  have ei : (i + 1).toNat = i.toNat + 1 := by omega
  rw [ei] at n1
  simp only [Function.comp, e, dif, nth_mapW, n1, n0, Option.map]
theorem isI_map (r : List Int) : (r.map D.int).all isI = true := by
  rw [List.all_eq_true]; intro x hx; obtain ⟨i, _, rfl⟩ := List.mem_map.mp hx; rfl
theorem cutB_ll {m : Int} {r : List Int} (hm : (r.length : Int) + 1 = m) : cutB m (ll r) = true := by
  simp only [cutB, ll, isI_map, List.length_map, hm, Bool.true_and, decide_true]
/-! ### both rows are one -/
def psum : Int → List Int → List Int
  | _, [] => []
  | a, z :: r => (a + z) :: psum (a + z) r
theorem psum_app : ∀ (r : List Int) (a z : Int), psum a (r ++ [z]) = psum a r ++ [a + sumI r + z]
  | [], a, z => by simp [psum, sumI]
  | y :: r, a, z => by
    simp only [List.cons_append, psum, psum_app r (a + y) z, sumI]
    rw [show a + y + sumI r + z = a + (y + sumI r) + z by omega]
theorem psum_last : ∀ (r : List Int) (a : Int), bgT' (psum a r) = if r = [] then 1 else a + sumI r + 1 := fun r a => by
  rcases List.eq_nil_or_concat r with rfl | ⟨r', z, rfl⟩
  · rfl
  · rw [List.concat_eq_append, psum_app, if_neg (by simp)]
    have hs : ∀ (l : List Int), sumI (l ++ [z]) = sumI l + z := fun l => by
      induction l with
      | nil => simp [sumI]
      | cons y l ih => simp only [List.cons_append, sumI, ih]; omega
    simp [bgT', hs]; omega
theorem psum_bg (r : List Int) : bgT' (psum 0 r) = sumI r + 1 := by
  rw [psum_last]
  split
  · rename_i h; subst h; simp [sumI]
  · omega
theorem iot_shift (b : Int) : ∀ (n : Nat) (a : Int), iot (a + b) n = (iot a n).map fun z => b + z
  | 0, _ => rfl
  | n + 1, a => by
    have := iot_shift b n (a + 1)
    simp only [iot, List.map_cons]
    rw [show a + b + 1 = a + 1 + b by omega, this, show a + b = b + a by omega]
theorem lrowT_psum {o m : Int} : ∀ (j : Nat), (j : Int) + 1 ≤ m → lrowT o m j = (fndT o m j).map (psum 0)
  | 0, _ => rfl
  | j + 1, h => by
    have ih := lrowT_psum (o := o) (m := m) j (by omega)
    have hlo : ∀ q, lo1 (m - j - 1) q = 1 := fun q => by unfold lo1; rw [if_pos (by omega)]
    simp only [lrowT, fndT, ih, List.flatMap_map, List.map_flatMap, hlo]
    congr 1
    funext r
    rw [psum_bg, show sumI r + 1 = 1 + sumI r by omega, iot_shift, List.map_map, List.map_map]
    rw [show (o - m + ↑j + 2 - (1 + sumI r)).toNat = (o - sumI r - (m - ↑j - 1) + 1 - 1).toNat by omega]
    congr 1
    funext z
    simp [Function.comp, psum_app]
/-! ### rows turned round, with their sums -/
def stepR (o m : Int) (j : Nat) (f : List (Int × List Int)) : List (Int × List Int) := f.flatMap fun p => (iot (lo1 (m - j - 1) (o - p.1 - (m - j - 1))) (o - p.1 - (m - j - 1) + 1 - lo1 (m - j - 1) (o - p.1 - (m - j - 1))).toNat).map fun z => (p.1 + z, z :: p.2)
def fndR (o m : Int) : Nat → List (Int × List Int)
  | 0 => [(0, [])]
  | j + 1 => stepR o m j (fndR o m j)
theorem sumI_app (z : Int) : ∀ l : List Int, sumI (l ++ [z]) = sumI l + z
  | [] => by simp [sumI]
  | y :: l => by simp only [List.cons_append, sumI, sumI_app z l]; omega
theorem fndR_ok (o m : Int) : ∀ j, fndT o m j = (fndR o m j).map (fun p => p.2.reverse) ∧ ∀ p ∈ fndR o m j, p.1 = sumI p.2.reverse ∧ p.2.length = j
  | 0 => ⟨rfl, fun p hp => by simp [fndR] at hp; subst hp; simp [sumI]⟩
  | j + 1 => by
    obtain ⟨e, h⟩ := fndR_ok o m j
    refine ⟨?_, fun p hp => ?_⟩
    · simp only [fndT, fndR, stepR, e, List.flatMap_map, List.map_flatMap, List.map_map]
      have key : ∀ (f : List (Int × List Int)), (∀ p ∈ f, p.1 = sumI p.2.reverse ∧ p.2.length = j) → (f.flatMap fun a => (iot (lo1 (m - j - 1) (o - sumI a.2.reverse - (m - j - 1))) (o - sumI a.2.reverse - (m - j - 1) + 1 - lo1 (m - j - 1) (o - sumI a.2.reverse - (m - j - 1))).toNat).map fun z => a.2.reverse ++ [z]) =
          f.flatMap fun a => (iot (lo1 (m - j - 1) (o - a.1 - (m - j - 1))) (o - a.1 - (m - j - 1) + 1 - lo1 (m - j - 1) (o - a.1 - (m - j - 1))).toNat).map ((fun p => p.2.reverse) ∘ fun z => (a.1 + z, z :: a.2)) := fun f hf => by
        induction f with
        | nil => rfl
        | cons p f ih =>
          simp only [List.flatMap_cons]
          rw [ih fun q hq => hf q (List.mem_cons_of_mem _ hq), ← (hf p (List.mem_cons_self ..)).1]
          congr 2
          funext z
          simp
      exact key _ h
    · simp only [fndR, stepR, List.mem_flatMap, List.mem_map] at hp
      obtain ⟨a, ha, z, _, rfl⟩ := hp
      obtain ⟨h1, h2⟩ := h a ha
      simp only [List.reverse_cons, sumI_app, List.length_cons]
      exact ⟨by rw [h1], by omega⟩
def okS (f : List (Int × List Int)) : Bool := decide (f.length ≤ 2000) && f.all fun p => decide (0 ≤ p.1) && decide (p.1 ≤ 60)
def goR (o m : Int) : Nat → Nat → List (Int × List Int) → Bool
  | 0, _, f => okS f
  | n + 1, j, f => okS f && goR o m n (j + 1) (stepR o m j f)
theorem goR_ok {o m : Int} : ∀ (n j : Nat), goR o m n j (fndR o m j) = true → ∀ i, i ≤ n → okS (fndR o m (j + i)) = true
  | 0, j, h, i, hi => by
    obtain rfl : i = 0 := by omega
    exact h
  | n + 1, j, h, 0, _ => (Bool.and_eq_true_iff.mp h).1
  | n + 1, j, h, i + 1, hi => by
    have := goR_ok n (j + 1) (Bool.and_eq_true_iff.mp h).2 i (by omega)
    rw [show j + (i + 1) = j + 1 + i by omega]; exact this
/-- all that is wanted of a pair for all cuts, of numbers alone -/
def chkT (o m : Int) : Bool := if 500 < cval o m then true else goR o m m.toNat 0 [(0, [])]
/-! ### texts -/
theorem szI_le {i : Int} (h0 : -60 ≤ i) (h1 : i ≤ 60) : szI i ≤ 8 := by
  unfold szI
  have : i.natAbs < 2 ^ 6 := by omega
  by_cases hz : i.natAbs = 0
  · rw [hz]; decide
  · have := (Nat.log2_lt hz).mpr (show i.natAbs < 2 ^ 6 by omega); omega
theorem szDs_ints : ∀ {r : List Int}, (∀ i ∈ r, -60 ≤ i ∧ i ≤ 60) → szDs (r.map D.int) ≤ 10 * r.length ∧ shwDs (r.map D.int) = true
  | [], _ => by simp [szDs, shwDs]
  | i :: r, h => by
    obtain ⟨a, b⟩ := szDs_ints (r := r) fun j hj => h j (List.mem_cons_of_mem _ hj)
    obtain ⟨h0, h1⟩ := h i (List.mem_cons_self ..)
    have := szI_le h0 h1
    have hs : i.natAbs.log2 < 1920 := by unfold szI at this; omega
    simp only [List.map_cons, szDs, shwDs, szD, shwD, b, Bool.and_true, List.length_cons]
    exact ⟨by omega, decide_eq_true hs⟩
theorem szDs_rows : ∀ {l : List (List Int)}, (∀ r ∈ l, okA r) → szDs (l.map tt) ≤ 605 * l.length ∧ shwDs (l.map tt) = true
  | [], _ => by simp [szDs, shwDs]
  | r :: l, h => by
    obtain ⟨a, b⟩ := szDs_rows (l := l) fun s hs => h s (List.mem_cons_of_mem _ hs)
    have h1 := h r (List.mem_cons_self ..)
    obtain ⟨c, d⟩ := szDs_ints (r := r) h1.2
    simp only [List.map_cons, szDs, shwDs, b, Bool.and_true, List.length_cons]
    have e1 : szD (tt r) = szDs (r.map D.int) + 3 := by simp only [tt, szD]
    have e2 : shwD (tt r) = true := by simp only [tt, shwD, d]
    rw [e1, e2]
    have := h1.1
    exact ⟨by omega, rfl⟩
theorem okDs_rows (l : List (List Int)) : okDs 1 (l.map tt) = true := okDs_all.mpr fun x hx => by
  obtain ⟨r, _, rfl⟩ := List.mem_map.mp hx; exact okD_intsT 0 r
theorem tIs_map : ∀ l : List (List Int), tIs (l.map tt) = some l
  | [] => rfl
  | r :: l => by simp only [List.map_cons, tIs, tIs_map l]; unfold tt; simp [tI, intsD_map]
theorem psum_gi : ∀ (r : List Int) (a o : Int) (i : Nat), i ≤ r.length → gi (a :: (psum a r ++ [o])) i = a + sumI (r.take i)
  | r, a, o, 0, _ => by simp [gi, sumI]
  | z :: r, a, o, i + 1, h => by
    have ih := psum_gi r (a + z) o i (by simpa using h)
    simp only [gi, psum, List.cons_append, List.take_succ_cons, sumI] at ih ⊢
    have e : ((i + 1 : Nat) : Int).toNat = (i : Int).toNat + 1 := by omega
    rw [e, List.getD_cons_succ, ih]; omega
theorem psum_len : ∀ (r : List Int) (a : Int), (psum a r).length = r.length
  | [], _ => rfl
  | z :: r, a => by simp [psum, psum_len r]
theorem gi_last (l : List Int) (o : Int) : gi (l ++ [o]) l.length = o := by
  unfold gi; simp
theorem take_sum (r : List Int) (i : Nat) (z : Int) (h : r[i]? = some z) : sumI (r.take (i + 1)) = sumI (r.take i) + z := by
  rw [List.take_add_one, h]; exact sumI_app z _
theorem iot_get : ∀ (n : Nat) (a : Int) (i : Nat), i < n → (iot a n)[i]? = some (a + i)
  | n + 1, a, 0, _ => by simp [iot]
  | n + 1, a, i + 1, h => by simp only [iot, List.getElem?_cons_succ, iot_get n (a + 1) i (by omega)]; congr 1; push_cast; omega
theorem cuT_psum {o m : Int} {r : List Int} (hm : (r.length : Int) + 1 = m) : cuT o m (psum 0 r) = r ++ [o - sumI r] := by
  apply List.ext_getElem?
  intro i
  unfold cuT
  rw [List.getElem?_map, show m.toNat = r.length + 1 by omega]
  by_cases hi : i < r.length + 1
  · rw [iot_get _ _ _ hi]
    simp only [Option.map, Int.zero_add]
    by_cases h2 : i < r.length
    · have e1 := psum_gi r 0 o (i + 1) (by omega)
      have e0 := psum_gi r 0 o i (by omega)
      rw [show ((i : Nat) : Int) + 1 = ((i + 1 : Nat) : Int) by push_cast; rfl, e1, e0, List.getElem?_append_left h2, List.getElem?_eq_getElem h2, take_sum r i _ (List.getElem?_eq_getElem h2)]
      congr 1; omega
    · obtain rfl : i = r.length := by omega
      have e0 := psum_gi r 0 o r.length (by omega)
      have el : gi ((0 :: psum 0 r) ++ [o]) ((0 :: psum 0 r).length) = o := gi_last _ o
      rw [List.length_cons, psum_len] at el
      rw [show ((r.length : Nat) : Int) + 1 = ((r.length + 1 : Nat) : Int) by push_cast; rfl, e0, show gi (0 :: (psum 0 r ++ [o])) ((r.length + 1 : Nat) : Int) = o from el, List.getElem?_append_right (by omega), List.take_length]
      simp
  · have hn : (iot 0 (r.length + 1))[i]? = none := by rw [List.getElem?_eq_none]; rw [iot_len]; omega
    rw [hn, List.getElem?_eq_none (by simp; omega)]; rfl
section
variable {o m : Int}
structure Fac (o m : Int) (j : Nat) : Prop where
  len : (fndT o m j).length ≤ 2000
  sum : ∀ r ∈ fndT o m j, 0 ≤ sumI r ∧ sumI r ≤ 60 ∧ r.length = j
theorem fac_of (h : goR o m m.toNat 0 [(0, [])] = true) (j : Nat) (hj : j ≤ m.toNat) : Fac o m j := by
  have h1 := goR_ok m.toNat 0 h j hj
  rw [Nat.zero_add] at h1
  obtain ⟨h2, h3⟩ := Bool.and_eq_true_iff.mp h1
  obtain ⟨e, k⟩ := fndR_ok o m j
  refine ⟨by rw [e, List.length_map]; exact of_decide_eq_true h2, fun r hr => ?_⟩
  rw [e] at hr
  obtain ⟨p, hp, rfl⟩ := List.mem_map.mp hr
  have h4 := List.all_eq_true.mp h3 p hp
  simp only [Bool.and_eq_true, decide_eq_true_eq] at h4
  obtain ⟨k1, k2⟩ := k p hp
  exact ⟨by rw [← k1]; exact h4.1, by rw [← k1]; exact h4.2, by rw [List.length_reverse]; exact k2⟩
theorem rows_in (h : ∀ j, j ≤ m.toNat → Fac o m j) : ∀ j, j ≤ m.toNat → ∀ r ∈ fndT o m j, (∀ x ∈ psum 0 r, 0 ≤ x ∧ x ≤ 60) ∧ ∀ i ∈ r, -60 ≤ i ∧ i ≤ 60
  | 0, _, r, hr => by simp [fndT] at hr; subst hr; simp [psum]
  | j + 1, hj, r, hr => by
    have f1 := (h (j + 1) hj).sum r hr
    simp only [fndT, List.mem_flatMap, List.mem_map] at hr
    obtain ⟨r', hr', z, _, rfl⟩ := hr
    obtain ⟨a, b⟩ := rows_in h j (by omega) r' hr'
    have f0 := (h j (by omega)).sum r' hr'
    rw [sumI_app] at f1
    refine ⟨fun x hx => ?_, fun i hi => ?_⟩
    · rw [psum_app] at hx
      rcases List.mem_append.mp hx with hx | hx
      · exact a x hx
      · simp at hx; subst hx; omega
    · rcases List.mem_append.mp hi with hi | hi
      · exact b i hi
      · simp at hi; subst hi; omega
theorem chk_of (ho : 1 ≤ o ∧ o ≤ 60 ∧ 1 ≤ m ∧ m ≤ 60) (h : chkT o m = true) : chk o m = true := by
  unfold chkT at h
  unfold chk
  by_cases hc : 500 < cval o m
  · rw [if_pos hc]
  · rw [if_neg hc] at h ⊢
    have fac := fac_of h
    have rin := rows_in fac
    have h3 : fndBT o m = true := by
      unfold fndBT
      rw [List.all_eq_true]
      intro j hj
      rw [List.mem_range] at hj
      have f := fac j (by omega)
      rw [Bool.and_eq_true, decide_eq_true_eq, List.all_eq_true]
      refine ⟨by have := f.len; omega, fun r hr => ?_⟩
      have := f.sum r hr
      simp only [rowBT, Bool.and_eq_true, decide_eq_true_eq]
      omega
    have lq : ∀ j : Nat, (j : Int) + 1 ≤ m → ((lrowT o m j).all okR && decide ((lrowT o m j).length ≤ 2000)) = true := fun j hj => by
      have f := fac j (by omega)
      rw [lrowT_psum j hj, Bool.and_eq_true, decide_eq_true_eq, List.length_map, List.all_eq_true]
      refine ⟨fun r hr => ?_, f.len⟩
      obtain ⟨r', hr', rfl⟩ := List.mem_map.mp hr
      have := (f.sum r' hr').2.2
      simp only [okR, Bool.and_eq_true, decide_eq_true_eq, List.all_eq_true, psum_len]
      exact ⟨by omega, (rin j (by omega) r' hr').1⟩
    have h4 : lrowBT o m = true := by
      unfold lrowBT
      rw [List.all_eq_true]
      intro j hj
      rw [List.mem_range] at hj
      exact lq j (by omega)
    have hm1 : ((m - 1).toNat : Int) + 1 = m := by omega
    have f1 := fac (m - 1).toNat (by omega)
    have el := lrowT_psum (o := o) (m := m) (m - 1).toNat (by omega)
    have h5 : ∀ r ∈ lrowT o m (m - 1).toNat, (r.length : Int) + 1 = m := fun r hr => by
      rw [el] at hr
      obtain ⟨r', hr', rfl⟩ := List.mem_map.mp hr
      rw [psum_len, (f1.sum r' hr').2.2]; exact hm1
    have h6 : (lrowT o m (m - 1).toNat).length ≤ 2000 := by rw [el, List.length_map]; exact f1.len
    have h1 : fndT o m m.toNat = (lrowT o m (m - 1).toNat).map (cuT o m) := by
      rw [show m.toNat = (m - 1).toNat + 1 by omega, el, List.map_map, fndT]
      have key : ∀ (f : List (List Int)), (∀ r ∈ f, (r.length : Int) + 1 = m) → (f.flatMap fun r => (iot (lo1 (m - ((m - 1).toNat : Int) - 1) (o - sumI r - (m - ((m - 1).toNat : Int) - 1))) (o - sumI r - (m - ((m - 1).toNat : Int) - 1) + 1 - lo1 (m - ((m - 1).toNat : Int) - 1) (o - sumI r - (m - ((m - 1).toNat : Int) - 1))).toNat).map fun z => r ++ [z]) = f.map (cuT o m ∘ psum 0) := fun f hf => by
        induction f with
        | nil => rfl
        | cons r f ih =>
          rw [List.flatMap_cons, ih fun q hq => hf q (List.mem_cons_of_mem _ hq), List.map_cons]
          have hl := hf r (List.mem_cons_self ..)
          have e0 : m - ((m - 1).toNat : Int) - 1 = 0 := by omega
          rw [e0, Int.sub_zero]
          have e1 : lo1 0 (o - sumI r) = o - sumI r := by unfold lo1; rw [if_neg (by omega)]
          rw [e1, show (o - sumI r + 1 - (o - sumI r)).toNat = 1 by omega]
          simp only [iot, List.map_cons, List.map_nil, Function.comp, cuT_psum hl]
          rfl
      exact key _ fun r hr => by rw [(f1.sum r hr).2.2]; exact hm1
    have fm := fac m.toNat (Nat.le_refl _)
    have e1 : fnd o m m.toNat = (fndT o m m.toNat).map tt := fnd_eq o m _
    have e2 : (lrow o m (m - 1).toNat).map (cutOf o m) = ((lrowT o m (m - 1).toNat).map (cuT o m)).map tt := by
      rw [lrow_eq, List.map_map, List.map_map]
      exact List.map_congr_left fun r hr => cutOf_ll (h5 r hr)
    obtain ⟨z1, z2⟩ := szDs_rows (l := fndT o m m.toNat) fun r hr => ⟨by rw [(fm.sum r hr).2.2]; omega, (rin m.toNat (Nat.le_refl _) r hr).2⟩
    have hlen := fm.len
    have st : szD (.str "told") = 42 := by decide
    have so : okD 2 (.str "told") = true := by decide +kernel
    rw [e1, e2, tIs_map, tIs_map]
    simp only [Bool.and_eq_true, decide_eq_true_eq]
    refine ⟨⟨⟨⟨⟨⟨⟨h1, fndB_of h3⟩, lrowB_of h4⟩, ?_⟩, by rw [lrow_eq, List.length_map]; exact h6⟩, ?_⟩, ?_⟩, ?_⟩
    · rw [lrow_eq, List.all_map, List.all_eq_true]; exact fun r hr => cutB_ll (h5 r hr)
    · have so' : (PyData.str "told").canLay0 = true := by simpa only [okD] using so
      simp only [okD, okDs, so', okDs_rows, Bool.and_self]
    · simp only [shwD, shwDs, z2, Bool.and_self]
    · simp only [szD, szDs] at st ⊢; omega
end

end Mn
set_option Elab.async false
set_option linter.all false
set_option maxRecDepth 100000
set_option maxHeartbeats 1000000
namespace Mn
open PySem
theorem pcnt_all (g : List Cell) : pairs.map (fun p => F_count_cuts [.d (.int p.1), .d (.int p.2)] g) = pairs.map fun p => .ok (.d (.int (pcnt p.1 p.2))) g := by kernel_rfl
theorem pcnt_same : (pairs.all fun p => decide (500 < pcnt p.1 p.2) == decide (500 < cval p.1 p.2)) = true := by decide +kernel
end Mn
set_option Elab.async false
set_option linter.all false
set_option maxRecDepth 100000
set_option maxHeartbeats 1000000
namespace Mn
open PySem
def rowT (o : Nat) : Bool := (List.range (o + 1)).all fun (m : Nat) => chkT ((o + 1 : Nat) : Int) ((m + 1 : Nat) : Int)
theorem rowT_0 : rowT 0 = true := by decide +kernel
theorem rowT_1 : rowT 1 = true := by decide +kernel
theorem rowT_2 : rowT 2 = true := by decide +kernel
theorem rowT_3 : rowT 3 = true := by decide +kernel
theorem rowT_4 : rowT 4 = true := by decide +kernel
theorem rowT_5 : rowT 5 = true := by decide +kernel
theorem rowT_6 : rowT 6 = true := by decide +kernel
theorem rowT_7 : rowT 7 = true := by decide +kernel
theorem rowT_8 : rowT 8 = true := by decide +kernel
theorem rowT_9 : rowT 9 = true := by decide +kernel
theorem rowT_10 : rowT 10 = true := by decide +kernel
theorem rowT_11 : rowT 11 = true := by decide +kernel
theorem rowT_12 : rowT 12 = true := by decide +kernel
theorem rowT_13 : rowT 13 = true := by decide +kernel
theorem rowT_14 : rowT 14 = true := by decide +kernel
theorem rowT_15 : rowT 15 = true := by decide +kernel
theorem rowT_16 : rowT 16 = true := by decide +kernel
theorem spT_60_1 : chkT 60 1 = true := by decide +kernel
theorem spT_60_2 : chkT 60 2 = true := by decide +kernel
theorem spT_60_59 : chkT 60 59 = true := by decide +kernel
theorem spT_60_60 : chkT 60 60 = true := by decide +kernel
theorem spT_33_3 : chkT 33 3 = true := by decide +kernel
theorem spT_34_3 : chkT 34 3 = true := by decide +kernel
theorem rowT_all : ∀ o, o < 17 → rowT o = true
  | 0, _ => rowT_0
  | 1, _ => rowT_1
  | 2, _ => rowT_2
  | 3, _ => rowT_3
  | 4, _ => rowT_4
  | 5, _ => rowT_5
  | 6, _ => rowT_6
  | 7, _ => rowT_7
  | 8, _ => rowT_8
  | 9, _ => rowT_9
  | 10, _ => rowT_10
  | 11, _ => rowT_11
  | 12, _ => rowT_12
  | 13, _ => rowT_13
  | 14, _ => rowT_14
  | 15, _ => rowT_15
  | 16, _ => rowT_16
  | n + 17, h => by omega
theorem chk_all : (pairs.all fun p => chk p.1 p.2) = true := by
  rw [List.all_eq_true]
  intro p hp
  unfold pairs at hp
  rcases List.mem_append.mp hp with hp | hp
  · obtain ⟨o, ho, hp⟩ := List.mem_flatMap.mp hp
    obtain ⟨m, hm, rfl⟩ := List.mem_map.mp hp
    rw [List.mem_range] at ho hm
    exact chk_of (by dsimp only; omega) (List.all_eq_true.mp (rowT_all o ho) m (List.mem_range.mpr hm))
  · simp only [List.mem_cons, List.not_mem_nil, or_false] at hp
    rcases hp with rfl | rfl | rfl | rfl | rfl | rfl
    · exact chk_of (by decide) spT_60_1
    · exact chk_of (by decide) spT_60_2
    · exact chk_of (by decide) spT_60_59
    · exact chk_of (by decide) spT_60_60
    · exact chk_of (by decide) spT_33_3
    · exact chk_of (by decide) spT_34_3
end Mn
set_option Elab.async false
set_option linter.all false
set_option maxRecDepth 100000
set_option maxHeartbeats 1000000
namespace Mn
open PySem
theorem pair_of {o m : Int} (h1 : 1 ≤ o) (h2 : o ≤ 17) (h3 : 1 ≤ m) (h4 : m ≤ o) : (o, m) ∈ pairs := by
  unfold pairs
  refine List.mem_append_left _ (List.mem_flatMap.mpr ⟨(o - 1).toNat, List.mem_range.mpr (by omega), List.mem_map.mpr ⟨(m - 1).toNat, List.mem_range.mpr (by omega), ?_⟩⟩)
  rw [Prod.mk.injEq]; omega
theorem pcnt_run {o m : Int} (h : (o, m) ∈ pairs) (g : List Cell) : F_count_cuts [.d (.int o), .d (.int m)] g = .ok (.d (.int (pcnt o m))) g := by
  have := pcnt_all g
  exact List.map_inj_left.mp this (o, m) h
theorem ar_run {o m : Int} (h : (o, m) ∈ pairs) (h1 : 1 ≤ o) (h2 : o ≤ 60) (h3 : 1 ≤ m) (h4 : m ≤ o) (g : List Cell) : F_law_all_right [.d (.int o), .d (.int m)] g = .ok (.d (.bl true)) g := by
  have hp := pcnt_run h g
  have hc := count_run (g := g) h1 h2 h3 h4
  have hs := List.all_eq_true.mp pcnt_same (o, m) h
  have hk := List.all_eq_true.mp chk_all (o, m) h
  simp only [beq_iff_eq, decide_eq_decide] at hs
  unfold F_law_all_right b_law_all_right
  by_cases hb : 500 < cval o m
  · have ha := all_no h1 h2 h3 h4 hp (hs.mpr hb)
    have ht : F_law_told (lamT [some (.d (.int o)), some (.d (.int m)), none] (cl F_all_cuts (args [vr 0, vr 1]))) g = _ := told_ref (w := "size") (g' := g) (by simp only [ob_ok, ob_exc, ob_stuck, ob_ite, oz_some, oz_none, oz_ite, bnd_ob, ap_ite, pur_ap, opt_ap, nth0, nthS, upAt0, upAtS, vr_ap, cs_ap, u1_ob, b2_ob, b2L_ob, args0, argsS, bi_ob, biL_ob, tst_ob, bool_bl, andT_ob, orT_ob, notT_ob, andV_ob, orV_ob, notV_ob, ite_ob, ifS_ob, skip_ap, sq_nx, sq_rt, sq_bk, sq_ct, sq_exc, sq_stuck, sq_ite, seq_sq, ex_ob, rt_ob, st_ob, pt_n, pt_t, pt_tu, tGo0, tGoS, tup_ob, dsp_ob, frz_ob, own_ob, glo_ob, toDs0, toDsS, toD_d, toAs0, toAsS, toA_d, toA_g, fx_ok, fx_exc, fx_ite, cl_ob, fo_ite, fo_nx, fo_rtd, fo_rtg, fo_exc, fo_stuck, intI_int, sub_ob, chkL_ap, app_ob, pop_ob, popAt_ob, setS_ob, par_ob, forS_ob, itS_ob, itR_ob, lp_nx, lp_ct, lp_bk, lp_rt, lp_exc, lp_stuck, lp_ite, pk_d, pks0, pksS, items_t, items_u, items_d, nrm, lstAt, lstPut, pk_l', pk_g, items_l, items_g, allD_map, allD, fn_ap, oz_map, nth_mapW, List.length_map, ixd_0, ixd_1, ixd_2, ixd_3, lamc_fx, capt, lamT_ap, lt_okd, lt_exc, thk_ap, tryS_ty, ty_ok, ty_stuck, eqD_ii, neD_ii, eqD_ss, neD_ss, lt_ii, le_ii, gt_ii, ge_ii, add_ii, sub_ii, neg_i, List.map_cons, List.map_nil, List.length_cons, List.length_nil, List.zip_cons_cons, List.zip_nil_right, List.zip_nil_left, List.foldl_cons, List.foldl_nil, List.replicate, List.cons_append, List.nil_append, Nat.reduceAdd, Nat.reduceSub, Nat.reduceLeDiff, Nat.reduceLT, Int.reduceLT, Int.reduceLE, Int.reduceAdd, Int.reduceSub, Int.reduceNeg, Int.reduceMul, Bool.not_true, Bool.not_false, decide_eq_true_eq, Bool.not_eq_true', decide_eq_false_iff_not, if_true, if_false, reduceIte, Nat.zero_le, true_and, and_true, seqD, k_u1_ap, k_b2y_ap, k_b2_ap, k_b2Ly_ap, k_b2L_ap, k_argc_ap, k_args_ap, k_bi_ap, k_biL_ap, k_andT_ap, k_orT_ap, k_notT_ap, k_andB_ap, k_andV_ap, k_orB_ap, k_orV_ap, k_notB_ap, k_notV_ap, k_ite_ap, k_ifS_ap, k_ex_ap, k_rt_ap, k_mktup_ap, k_mklst_ap, k_tup_ap, k_dsp_ap, k_frz_ap, k_own_ap, k_glo_ap, k_dc_ap, k_ds_ap, k_as_ap, k_wd_ap, k_call_ap, k_cl_ap, k_suby_ap, k_sub_ap, k_appx_ap, k_appv_ap, k_appc_ap, k_app_ap, k_pop_ap, k_popAv_ap, k_popAc_ap, k_popA_ap, k_setv_ap, k_seti_ap, k_seto_ap, k_set_ap, k_par_ap, k_seqD_ap, k_itS_ap, k_itR_ap, k_whl_ap, k_clK_ap, ha])
    have he : eqD (.tup [.str "refused", .str "size", .bl false]) (.tup [.str "refused", .str "size", .bl false]) = some (.bl true) := by kernel_rfl
    simp only [ob_ok, ob_exc, ob_stuck, ob_ite, oz_some, oz_none, oz_ite, bnd_ob, ap_ite, pur_ap, opt_ap, nth0, nthS, upAt0, upAtS, vr_ap, cs_ap, u1_ob, b2_ob, b2L_ob, args0, argsS, bi_ob, biL_ob, tst_ob, bool_bl, andT_ob, orT_ob, notT_ob, andV_ob, orV_ob, notV_ob, ite_ob, ifS_ob, skip_ap, sq_nx, sq_rt, sq_bk, sq_ct, sq_exc, sq_stuck, sq_ite, seq_sq, ex_ob, rt_ob, st_ob, pt_n, pt_t, pt_tu, tGo0, tGoS, tup_ob, dsp_ob, frz_ob, own_ob, glo_ob, toDs0, toDsS, toD_d, toAs0, toAsS, toA_d, toA_g, fx_ok, fx_exc, fx_ite, cl_ob, fo_ite, fo_nx, fo_rtd, fo_rtg, fo_exc, fo_stuck, intI_int, sub_ob, chkL_ap, app_ob, pop_ob, popAt_ob, setS_ob, par_ob, forS_ob, itS_ob, itR_ob, lp_nx, lp_ct, lp_bk, lp_rt, lp_exc, lp_stuck, lp_ite, pk_d, pks0, pksS, items_t, items_u, items_d, nrm, lstAt, lstPut, pk_l', pk_g, items_l, items_g, allD_map, allD, fn_ap, oz_map, nth_mapW, List.length_map, ixd_0, ixd_1, ixd_2, ixd_3, lamc_fx, capt, lamT_ap, lt_okd, lt_exc, thk_ap, tryS_ty, ty_ok, ty_stuck, eqD_ii, neD_ii, eqD_ss, neD_ss, lt_ii, le_ii, gt_ii, ge_ii, add_ii, sub_ii, neg_i, List.map_cons, List.map_nil, List.length_cons, List.length_nil, List.zip_cons_cons, List.zip_nil_right, List.zip_nil_left, List.foldl_cons, List.foldl_nil, List.replicate, List.cons_append, List.nil_append, Nat.reduceAdd, Nat.reduceSub, Nat.reduceLeDiff, Nat.reduceLT, Int.reduceLT, Int.reduceLE, Int.reduceAdd, Int.reduceSub, Int.reduceNeg, Int.reduceMul, Bool.not_true, Bool.not_false, decide_eq_true_eq, Bool.not_eq_true', decide_eq_false_iff_not, if_true, if_false, reduceIte, Nat.zero_le, true_and, and_true, seqD, k_u1_ap, k_b2y_ap, k_b2_ap, k_b2Ly_ap, k_b2L_ap, k_argc_ap, k_args_ap, k_bi_ap, k_biL_ap, k_andT_ap, k_orT_ap, k_notT_ap, k_andB_ap, k_andV_ap, k_orB_ap, k_orV_ap, k_notB_ap, k_notV_ap, k_ite_ap, k_ifS_ap, k_ex_ap, k_rt_ap, k_mktup_ap, k_mklst_ap, k_tup_ap, k_dsp_ap, k_frz_ap, k_own_ap, k_glo_ap, k_dc_ap, k_ds_ap, k_as_ap, k_wd_ap, k_call_ap, k_cl_ap, k_suby_ap, k_sub_ap, k_appx_ap, k_appv_ap, k_appc_ap, k_app_ap, k_pop_ap, k_popAv_ap, k_popAc_ap, k_popA_ap, k_setv_ap, k_seti_ap, k_seto_ap, k_set_ap, k_par_ap, k_seqD_ap, k_itS_ap, k_itR_ap, k_whl_ap, k_clK_ap, ht, hc, hb, decide_true, he]
  · have hb' : ¬ (500 < pcnt o m) := fun z => hb (hs.mp z)
    simp only [chk, if_neg hb] at hk
    split at hk
    · rename_i a b qa qb
      simp only [Bool.and_eq_true, decide_eq_true_eq] at hk
      obtain ⟨⟨⟨⟨⟨⟨⟨k1, k2⟩, k3⟩, k4⟩, k5⟩, k6⟩, k7⟩, k8⟩ := hk
      have ha := all_run (g := g) h1 h2 h3 h4 hp (by omega) k2
      have hl := cuts_run (o := o) (m := m) (g := g) (by omega) k3 k4 k5
      have e1 := tIs_eq qa
      have e2 := tIs_eq qb
      rw [k1, ← e2] at e1
      rw [← e1] at hl
      have ht : F_law_told (lamT [some (.d (.int o)), some (.d (.int m)), none] (cl F_all_cuts (args [vr 0, vr 1]))) g = _ := told_ok (x := .tup (fnd o m m.toNat)) (g' := g) (by simp only [ob_ok, ob_exc, ob_stuck, ob_ite, oz_some, oz_none, oz_ite, bnd_ob, ap_ite, pur_ap, opt_ap, nth0, nthS, upAt0, upAtS, vr_ap, cs_ap, u1_ob, b2_ob, b2L_ob, args0, argsS, bi_ob, biL_ob, tst_ob, bool_bl, andT_ob, orT_ob, notT_ob, andV_ob, orV_ob, notV_ob, ite_ob, ifS_ob, skip_ap, sq_nx, sq_rt, sq_bk, sq_ct, sq_exc, sq_stuck, sq_ite, seq_sq, ex_ob, rt_ob, st_ob, pt_n, pt_t, pt_tu, tGo0, tGoS, tup_ob, dsp_ob, frz_ob, own_ob, glo_ob, toDs0, toDsS, toD_d, toAs0, toAsS, toA_d, toA_g, fx_ok, fx_exc, fx_ite, cl_ob, fo_ite, fo_nx, fo_rtd, fo_rtg, fo_exc, fo_stuck, intI_int, sub_ob, chkL_ap, app_ob, pop_ob, popAt_ob, setS_ob, par_ob, forS_ob, itS_ob, itR_ob, lp_nx, lp_ct, lp_bk, lp_rt, lp_exc, lp_stuck, lp_ite, pk_d, pks0, pksS, items_t, items_u, items_d, nrm, lstAt, lstPut, pk_l', pk_g, items_l, items_g, allD_map, allD, fn_ap, oz_map, nth_mapW, List.length_map, ixd_0, ixd_1, ixd_2, ixd_3, lamc_fx, capt, lamT_ap, lt_okd, lt_exc, thk_ap, tryS_ty, ty_ok, ty_stuck, eqD_ii, neD_ii, eqD_ss, neD_ss, lt_ii, le_ii, gt_ii, ge_ii, add_ii, sub_ii, neg_i, List.map_cons, List.map_nil, List.length_cons, List.length_nil, List.zip_cons_cons, List.zip_nil_right, List.zip_nil_left, List.foldl_cons, List.foldl_nil, List.replicate, List.cons_append, List.nil_append, Nat.reduceAdd, Nat.reduceSub, Nat.reduceLeDiff, Nat.reduceLT, Int.reduceLT, Int.reduceLE, Int.reduceAdd, Int.reduceSub, Int.reduceNeg, Int.reduceMul, Bool.not_true, Bool.not_false, decide_eq_true_eq, Bool.not_eq_true', decide_eq_false_iff_not, if_true, if_false, reduceIte, Nat.zero_le, true_and, and_true, seqD, k_u1_ap, k_b2y_ap, k_b2_ap, k_b2Ly_ap, k_b2L_ap, k_argc_ap, k_args_ap, k_bi_ap, k_biL_ap, k_andT_ap, k_orT_ap, k_notT_ap, k_andB_ap, k_andV_ap, k_orB_ap, k_orV_ap, k_notB_ap, k_notV_ap, k_ite_ap, k_ifS_ap, k_ex_ap, k_rt_ap, k_mktup_ap, k_mklst_ap, k_tup_ap, k_dsp_ap, k_frz_ap, k_own_ap, k_glo_ap, k_dc_ap, k_ds_ap, k_as_ap, k_wd_ap, k_call_ap, k_cl_ap, k_suby_ap, k_sub_ap, k_appx_ap, k_appv_ap, k_appc_ap, k_app_ap, k_pop_ap, k_popAv_ap, k_popAc_ap, k_popA_ap, k_setv_ap, k_seti_ap, k_seto_ap, k_set_ap, k_par_ap, k_seqD_ap, k_itS_ap, k_itR_ap, k_whl_ap, k_clK_ap, ha])
      obtain ⟨s, hr⟩ := repr_ok k6 (by decide) rfl k7 k8
      have k9 : okD 3 (.tup (fnd o m m.toNat)) = true := by
        simp only [okD, okDs, Bool.and_eq_true] at k6
        exact okD_up 2 3 _ (by decide) (by simpa only [okD] using k6.2.1)
      have he := (eqD_ok k9 k9 (by decide)).trans (by rw [eqvD_refl 3 _ k9])
      simp only [ob_ok, ob_exc, ob_stuck, ob_ite, oz_some, oz_none, oz_ite, bnd_ob, ap_ite, pur_ap, opt_ap, nth0, nthS, upAt0, upAtS, vr_ap, cs_ap, u1_ob, b2_ob, b2L_ob, args0, argsS, bi_ob, biL_ob, tst_ob, bool_bl, andT_ob, orT_ob, notT_ob, andV_ob, orV_ob, notV_ob, ite_ob, ifS_ob, skip_ap, sq_nx, sq_rt, sq_bk, sq_ct, sq_exc, sq_stuck, sq_ite, seq_sq, ex_ob, rt_ob, st_ob, pt_n, pt_t, pt_tu, tGo0, tGoS, tup_ob, dsp_ob, frz_ob, own_ob, glo_ob, toDs0, toDsS, toD_d, toAs0, toAsS, toA_d, toA_g, fx_ok, fx_exc, fx_ite, cl_ob, fo_ite, fo_nx, fo_rtd, fo_rtg, fo_exc, fo_stuck, intI_int, sub_ob, chkL_ap, app_ob, pop_ob, popAt_ob, setS_ob, par_ob, forS_ob, itS_ob, itR_ob, lp_nx, lp_ct, lp_bk, lp_rt, lp_exc, lp_stuck, lp_ite, pk_d, pks0, pksS, items_t, items_u, items_d, nrm, lstAt, lstPut, pk_l', pk_g, items_l, items_g, allD_map, allD, fn_ap, oz_map, nth_mapW, List.length_map, ixd_0, ixd_1, ixd_2, ixd_3, lamc_fx, capt, lamT_ap, lt_okd, lt_exc, thk_ap, tryS_ty, ty_ok, ty_stuck, eqD_ii, neD_ii, eqD_ss, neD_ss, lt_ii, le_ii, gt_ii, ge_ii, add_ii, sub_ii, neg_i, List.map_cons, List.map_nil, List.length_cons, List.length_nil, List.zip_cons_cons, List.zip_nil_right, List.zip_nil_left, List.foldl_cons, List.foldl_nil, List.replicate, List.cons_append, List.nil_append, Nat.reduceAdd, Nat.reduceSub, Nat.reduceLeDiff, Nat.reduceLT, Int.reduceLT, Int.reduceLE, Int.reduceAdd, Int.reduceSub, Int.reduceNeg, Int.reduceMul, Bool.not_true, Bool.not_false, decide_eq_true_eq, Bool.not_eq_true', decide_eq_false_iff_not, if_true, if_false, reduceIte, Nat.zero_le, true_and, and_true, seqD, k_u1_ap, k_b2y_ap, k_b2_ap, k_b2Ly_ap, k_b2L_ap, k_argc_ap, k_args_ap, k_bi_ap, k_biL_ap, k_andT_ap, k_orT_ap, k_notT_ap, k_andB_ap, k_andV_ap, k_orB_ap, k_orV_ap, k_notB_ap, k_notV_ap, k_ite_ap, k_ifS_ap, k_ex_ap, k_rt_ap, k_mktup_ap, k_mklst_ap, k_tup_ap, k_dsp_ap, k_frz_ap, k_own_ap, k_glo_ap, k_dc_ap, k_ds_ap, k_as_ap, k_wd_ap, k_call_ap, k_cl_ap, k_suby_ap, k_sub_ap, k_appx_ap, k_appv_ap, k_appc_ap, k_app_ap, k_pop_ap, k_popAv_ap, k_popAc_ap, k_popA_ap, k_setv_ap, k_seti_ap, k_seto_ap, k_set_ap, k_par_ap, k_seqD_ap, k_itS_ap, k_itR_ap, k_whl_ap, k_clK_ap, ht, hc, hb, decide_false, Bool.false_eq_true, hr, hl, tupD, ha, he, clK_fx, reord, decide_true]
    · cases hk
end Mn
set_option Elab.async false
set_option linter.all false
set_option maxRecDepth 100000
set_option maxHeartbeats 1000000
namespace Mn
open PySem
def smalls : List (Int × Int) := (List.range 6).flatMap fun o => (List.range (o + 1)).map fun (m : Nat) => (((o + 1 : Nat) : Int), ((m + 1 : Nat) : Int))
theorem small_all (g : List Cell) : smalls.map (fun p => F_law_small_right [.d (.int p.1), .d (.int p.2)] g) = smalls.map fun p => .ok (.d (.bl true)) g := by kernel_rfl
end Mn
set_option Elab.async false
set_option linter.all false
set_option maxRecDepth 100000
set_option maxHeartbeats 1000000
namespace Mn
open PySem
theorem bad_0 (g : List Cell) : (iot 1 5).map (fun (p : Int) => F_law_bad_right [.d (.int p), .d (.int 1)] g) = (iot 1 5).map fun (p : Int) => .ok (.d (.bl true)) g := by kernel_rfl
theorem bad_1 (g : List Cell) : (iot 6 5).map (fun (p : Int) => F_law_bad_right [.d (.int p), .d (.int 1)] g) = (iot 6 5).map fun (p : Int) => .ok (.d (.bl true)) g := by kernel_rfl
theorem bad_2 (g : List Cell) : (iot 11 5).map (fun (p : Int) => F_law_bad_right [.d (.int p), .d (.int 1)] g) = (iot 11 5).map fun (p : Int) => .ok (.d (.bl true)) g := by kernel_rfl
theorem bad_3 (g : List Cell) : (iot 16 5).map (fun (p : Int) => F_law_bad_right [.d (.int p), .d (.int 1)] g) = (iot 16 5).map fun (p : Int) => .ok (.d (.bl true)) g := by kernel_rfl
theorem bad_4 (g : List Cell) : (iot 21 5).map (fun (p : Int) => F_law_bad_right [.d (.int p), .d (.int 1)] g) = (iot 21 5).map fun (p : Int) => .ok (.d (.bl true)) g := by kernel_rfl
theorem bad_5 (g : List Cell) : (iot 26 5).map (fun (p : Int) => F_law_bad_right [.d (.int p), .d (.int 1)] g) = (iot 26 5).map fun (p : Int) => .ok (.d (.bl true)) g := by kernel_rfl
theorem bad_6 (g : List Cell) : (iot 31 5).map (fun (p : Int) => F_law_bad_right [.d (.int p), .d (.int 1)] g) = (iot 31 5).map fun (p : Int) => .ok (.d (.bl true)) g := by kernel_rfl
theorem bad_7 (g : List Cell) : (iot 36 5).map (fun (p : Int) => F_law_bad_right [.d (.int p), .d (.int 1)] g) = (iot 36 5).map fun (p : Int) => .ok (.d (.bl true)) g := by kernel_rfl
theorem bad_8 (g : List Cell) : (iot 41 5).map (fun (p : Int) => F_law_bad_right [.d (.int p), .d (.int 1)] g) = (iot 41 5).map fun (p : Int) => .ok (.d (.bl true)) g := by kernel_rfl
theorem bad_9 (g : List Cell) : (iot 46 5).map (fun (p : Int) => F_law_bad_right [.d (.int p), .d (.int 1)] g) = (iot 46 5).map fun (p : Int) => .ok (.d (.bl true)) g := by kernel_rfl
theorem bad_10 (g : List Cell) : (iot 51 5).map (fun (p : Int) => F_law_bad_right [.d (.int p), .d (.int 1)] g) = (iot 51 5).map fun (p : Int) => .ok (.d (.bl true)) g := by kernel_rfl
theorem bad_11 (g : List Cell) : (iot 56 5).map (fun (p : Int) => F_law_bad_right [.d (.int p), .d (.int 1)] g) = (iot 56 5).map fun (p : Int) => .ok (.d (.bl true)) g := by kernel_rfl
end Mn
set_option Elab.async false
set_option linter.all false
set_option maxRecDepth 100000
set_option maxHeartbeats 1000000
namespace Mn
open PySem
/-! ### the best and the worst cut -/
def prS : List (Int × Int) := (List.range 17).flatMap fun o => (List.range (o + 1)).map fun (m : Nat) => (((o + 1 : Nat) : Int), ((m + 1 : Nat) : Int))
def dOf : Fo → D | .ok (.d x) _ => x | _ => .non
def bestD (o m : Int) : D := dOf (F_best_cut [.d (.int o), .d (.int m)] [])
def worstD (o m : Int) : D := dOf (F_worst_cut [.d (.int o), .d (.int m)] [])
theorem best_all (g : List Cell) : prS.map (fun p => F_best_cut [.d (.int p.1), .d (.int p.2)] g) = prS.map fun p => .ok (.d (bestD p.1 p.2)) g := by kernel_rfl
theorem worst_all (g : List Cell) : prS.map (fun p => F_worst_cut [.d (.int p.1), .d (.int p.2)] g) = prS.map fun p => .ok (.d (worstD p.1 p.2)) g := by kernel_rfl
theorem iscut_b (g : List Cell) : prS.map (fun p => F_law_is_cut [.d (bestD p.1 p.2), .d (.int p.1), .d (.int p.2)] g) = prS.map fun p => .ok (.d (.bl true)) g := by kernel_rfl
theorem iscut_w (g : List Cell) : prS.map (fun p => F_law_is_cut [.d (worstD p.1 p.2), .d (.int p.1), .d (.int p.2)] g) = prS.map fun p => .ok (.d (.bl true)) g := by kernel_rfl
def reD (x : D) : D := dOf (F_law_reaches [.d x] [])
theorem reach_b (g : List Cell) : prS.map (fun p => F_law_reaches [.d (bestD p.1 p.2)] g) = prS.map fun p => .ok (.d (reD (bestD p.1 p.2))) g := by kernel_rfl
theorem reach_w (g : List Cell) : prS.map (fun p => F_law_reaches [.d (worstD p.1 p.2)] g) = prS.map fun p => .ok (.d (reD (worstD p.1 p.2))) g := by kernel_rfl
end Mn
set_option Elab.async false
set_option linter.all false
set_option maxRecDepth 100000
set_option maxHeartbeats 1000000
namespace Mn
open PySem
/-! ### both ends of the cuts -/
def opP (a b : Option Int) : D := .tup [op a, op b]
theorem least_same : (prS.all fun p => okD 3 (reD (bestD p.1 p.2)) && eqvD (reD (bestD p.1 p.2)) (opP (at_ (rwW leastI p.1 (p.2 - 1).toNat) p.1) (at_ (rwR leastI p.1 (p.2 - 1).toNat) p.1))) = true := by decide +kernel
theorem most_same : (prS.all fun p => okD 3 (reD (worstD p.1 p.2)) && eqvD (reD (worstD p.1 p.2)) (opP (at_ (rwW mostI p.1 (p.2 - 1).toNat) p.1) (at_ (rwR mostI p.1 (p.2 - 1).toNat) p.1))) = true := by decide +kernel
theorem nrm_ok : (prS.all fun p => okD 3 (nrm (bestD p.1 p.2)) && okD 3 (nrm (worstD p.1 p.2))) = true := by decide +kernel
theorem prS_of {o m : Int} (h1 : 1 ≤ o) (h2 : o ≤ 17) (h3 : 1 ≤ m) (h4 : m ≤ o) : (o, m) ∈ prS := by
  unfold prS
  refine List.mem_flatMap.mpr ⟨(o - 1).toNat, List.mem_range.mpr (by omega), List.mem_map.mpr ⟨(m - 1).toNat, List.mem_range.mpr (by omega), ?_⟩⟩
  rw [Prod.mk.injEq]; omega
theorem op_ok (n : Nat) (a : Option Int) : okD n (op a) = true := by cases a <;> simp [op, okD]
theorem er_run {o m : Int} (h1 : 1 ≤ o) (h2 : o ≤ 17) (h3 : 1 ≤ m) (h4 : m ≤ o) (g : List Cell) : F_law_ends_right [.d (.int o), .d (.int m)] g = .ok (.d (.bl true)) g := by
  have hp := prS_of h1 h2 h3 h4
  have hb := List.map_inj_left.mp (best_all g) (o, m) hp
  have hw := List.map_inj_left.mp (worst_all g) (o, m) hp
  have ib := List.map_inj_left.mp (iscut_b g) (o, m) hp
  have iw := List.map_inj_left.mp (iscut_w g) (o, m) hp
  have rb := List.map_inj_left.mp (reach_b g) (o, m) hp
  have rw' := List.map_inj_left.mp (reach_w g) (o, m) hp
  have ls := List.all_eq_true.mp least_same (o, m) hp
  have ms := List.all_eq_true.mp most_same (o, m) hp
  have ns := List.all_eq_true.mp nrm_ok (o, m) hp
  simp only [Bool.and_eq_true] at ls ms ns hb hw ib iw rb rw'
  have hl : F_law_least [.d (.int o), .d (.int m)] g = .ok (.d (opP (at_ (rwW leastI o (m - 1).toNat) o) (at_ (rwR leastI o (m - 1).toNat) o))) g := lg_run ag_min (by omega) (by omega)
  have hm : F_law_greatest [.d (.int o), .d (.int m)] g = .ok (.d (opP (at_ (rwW mostI o (m - 1).toNat) o) (at_ (rwR mostI o (m - 1).toNat) o))) g := lg_run ag_max (by omega) (by omega)
  generalize at_ (rwW leastI o (m - 1).toNat) o = l1 at ls hl
  generalize at_ (rwR leastI o (m - 1).toNat) o = l2 at ls hl
  generalize at_ (rwW mostI o (m - 1).toNat) o = m1 at ms hm
  generalize at_ (rwR mostI o (m - 1).toNat) o = m2 at ms hm
  generalize bestD o m = B at *
  generalize worstD o m = Wc at *
  generalize reD B = rB at *
  generalize reD Wc = rW at *
  have o1 : ∀ a b, okD 3 (opP a b) = true := fun a b => by simp [opP, okD, okDs, op_ok]
  have e1 := (neD_ok ls.1 (o1 l1 l2) (by decide)).trans (by rw [ls.2])
  have e2 := (neD_ok ms.1 (o1 m1 m2) (by decide)).trans (by rw [ms.2])
  have e3 := (eqD_ok ns.1 ns.1 (by decide)).trans (by rw [eqvD_refl 3 _ ns.1])
  have e4 := (eqD_ok ns.2 ns.2 (by decide)).trans (by rw [eqvD_refl 3 _ ns.2])
  have k1 : nrm rB = rB := by cases rB <;> first | rfl | (simp [okD] at ls)
  have k2 : nrm rW = rW := by cases rW <;> first | rfl | (simp [okD] at ms)
  have k3 : ∀ a b, nrm (opP a b) = opP a b := fun a b => rfl
  unfold F_law_ends_right b_law_ends_right
  simp only [k_u1_ap, k_b2y_ap, k_b2_ap, k_b2Ly_ap, k_b2L_ap, k_argc_ap, k_args_ap, k_bi_ap, k_biL_ap, k_andT_ap, k_orT_ap, k_notT_ap, k_andB_ap, k_andV_ap, k_orB_ap, k_orV_ap, k_notB_ap, k_notV_ap, k_ite_ap, k_ifS_ap, k_ex_ap, k_rt_ap, k_mktup_ap, k_mklst_ap, k_tup_ap, k_dsp_ap, k_frz_ap, k_own_ap, k_glo_ap, k_dc_ap, k_ds_ap, k_as_ap, k_wd_ap, k_call_ap, k_cl_ap, k_suby_ap, k_sub_ap, k_appx_ap, k_appv_ap, k_appc_ap, k_app_ap, k_pop_ap, k_popAv_ap, k_popAc_ap, k_popA_ap, k_setv_ap, k_seti_ap, k_seto_ap, k_set_ap, k_par_ap, k_seqD_ap, k_itS_ap, k_itR_ap, k_whl_ap, k_clK_ap, fn_ap, clK_fx, reord, ob_ok, ob_exc, ob_stuck, ob_ite, oz_some, seq_sq, par_ob, argsS, args0, cl_ob, vr_ap, nth0, nthS, List.map_cons, List.map_nil, List.length_cons, List.length_nil, List.replicate, toAsS, toAs0, toA_d, fx_ok, hb, hw, List.cons_append, List.nil_append, List.zip_cons_cons, List.zip_nil_right, List.foldl_cons, List.foldl_nil, upAt0, upAtS, Nat.reduceAdd, Nat.reduceSub, Nat.reduceLeDiff, Nat.reduceLT, if_true, reduceIte, sq_nx, ifS_ob, orT_ob, notT_ob, tst_ob, ib, iw, bool_bl, Bool.not_true, Bool.false_eq_true, if_false, skip_ap, b2_ob, rb, rw', hl, hm, pk_d, k1, k2, k3, e1, e2, rt_ob, andV_ob, e3, e4, sq_rt, fo_rtd]
end Mn
set_option Elab.async false
set_option linter.all false
set_option maxRecDepth 100000
set_option maxHeartbeats 2000000
namespace Mn
open PySem
theorem draw43 {m : Int} {g : List Cell} (hg : HOk [] g) (h0 : 0 < m) (h1 : m < 1073741824) : ∃ x g', F_law_draw [.g 1, .d (.int m)] g = .ok (.d (.int x)) g' ∧ 0 ≤ x ∧ x < m ∧ HOk [] g' := draw_run (a := 48271) (c := 17) (by decide) hg h0 h1
theorem pick43 {xs : List Int} {g : List Cell} (hg : HOk [] g) (h0 : 0 < xs.length) (h1 : xs.length < 1000) : ∃ x g', F_law_pick [.g 1, .d (.lst (xs.map D.int))] g = .ok (.d (.int x)) g' ∧ x ∈ xs ∧ HOk [] g' := by
  obtain ⟨i, g', e, h2, h3, h4⟩ := draw43 (m := xs.length) hg (by omega) (by omega)
  have hx : ixd xs.length i = some i.toNat := ixd_in h2 h3
  have hn := gi_nth (r := xs) h2 h3
  refine ⟨gi xs i, g', ?_, ?_, h4⟩
  · unfold F_law_pick b_law_pick
    have hl : lenD [.lst (xs.map D.int)] = some (.int xs.length) := by unfold lenD; dsimp only; rw [List.length_map]
    simp only [ob_ok, ob_exc, ob_stuck, ob_ite, oz_some, oz_none, oz_ite, bnd_ob, ap_ite, pur_ap, opt_ap, nth0, nthS, upAt0, upAtS, vr_ap, cs_ap, u1_ob, b2_ob, b2L_ob, args0, argsS, bi_ob, biL_ob, tst_ob, bool_bl, andT_ob, orT_ob, notT_ob, andV_ob, orV_ob, notV_ob, ite_ob, ifS_ob, skip_ap, sq_nx, sq_rt, sq_bk, sq_ct, sq_exc, sq_stuck, sq_ite, seq_sq, ex_ob, rt_ob, st_ob, pt_n, pt_t, pt_tu, tGo0, tGoS, tup_ob, dsp_ob, frz_ob, own_ob, glo_ob, toDs0, toDsS, toD_d, toAs0, toAsS, toA_d, toA_g, fx_ok, fx_exc, fx_ite, cl_ob, fo_ite, fo_nx, fo_rtd, fo_rtg, fo_exc, fo_stuck, intI_int, sub_ob, chkL_ap, app_ob, pop_ob, popAt_ob, setS_ob, par_ob, forS_ob, itS_ob, itR_ob, lp_nx, lp_ct, lp_bk, lp_rt, lp_exc, lp_stuck, lp_ite, pk_d, pks0, pksS, items_t, items_u, items_d, nrm, lstAt, lstPut, pk_l', pk_g, items_l, items_g, allD_map, allD, fn_ap, oz_map, nth_mapW, List.length_map, ixd_0, ixd_1, ixd_2, ixd_3, lamc_fx, capt, lamT_ap, lt_okd, lt_exc, thk_ap, tryS_ty, ty_ok, ty_stuck, eqD_ii, neD_ii, eqD_ss, neD_ss, lt_ii, le_ii, gt_ii, ge_ii, add_ii, sub_ii, neg_i, List.map_cons, List.map_nil, List.length_cons, List.length_nil, List.zip_cons_cons, List.zip_nil_right, List.zip_nil_left, List.foldl_cons, List.foldl_nil, List.replicate, List.cons_append, List.nil_append, Nat.reduceAdd, Nat.reduceSub, Nat.reduceLeDiff, Nat.reduceLT, Int.reduceLT, Int.reduceLE, Int.reduceAdd, Int.reduceSub, Int.reduceNeg, Int.reduceMul, Bool.not_true, Bool.not_false, decide_eq_true_eq, Bool.not_eq_true', decide_eq_false_iff_not, if_true, if_false, reduceIte, Nat.zero_le, true_and, and_true, seqD, k_u1_ap, k_b2y_ap, k_b2_ap, k_b2Ly_ap, k_b2L_ap, k_argc_ap, k_args_ap, k_bi_ap, k_biL_ap, k_andT_ap, k_orT_ap, k_notT_ap, k_andB_ap, k_andV_ap, k_orB_ap, k_orV_ap, k_notB_ap, k_notV_ap, k_ite_ap, k_ifS_ap, k_ex_ap, k_rt_ap, k_mktup_ap, k_mklst_ap, k_tup_ap, k_dsp_ap, k_frz_ap, k_own_ap, k_glo_ap, k_dc_ap, k_ds_ap, k_as_ap, k_wd_ap, k_call_ap, k_cl_ap, k_suby_ap, k_sub_ap, k_appx_ap, k_appv_ap, k_appc_ap, k_app_ap, k_pop_ap, k_popAv_ap, k_popAc_ap, k_popA_ap, k_setv_ap, k_seti_ap, k_seto_ap, k_set_ap, k_par_ap, k_seqD_ap, k_itS_ap, k_itR_ap, k_whl_ap, k_clK_ap, hl, e, hx, hn]
  · rw [nth_eq] at hn
    exact List.mem_of_getElem? hn
def turnS : St := seq (st (tN 3) (b2 addD (cs (.int 1)) (cl F_law_draw (args [vr 1, sub (frz (dsp (args [cs (.int 6), cs (.int 10), cs (.int 17)]))) (vr 2)])))) (seq (st (tN 4) (b2 addD (cs (.int 1)) (cl F_law_draw (args [vr 1, vr 3])))) (seq (ifS (orT (notT (tst (cl F_law_all_right (args [vr 3, vr 4])))) (notT (tst (cl F_law_ends_right (args [vr 3, vr 4]))))) (rt (cs (.bl false))) (skip)) (ifS (andT (tst (b2 eqD (vr 2) (cs (.int 0)))) (notT (tst (cl F_law_small_right (args [vr 3, vr 4]))))) (rt (cs (.bl false))) (skip))))
theorem smalls_of {o m : Int} (h1 : 1 ≤ o) (h2 : o ≤ 6) (h3 : 1 ≤ m) (h4 : m ≤ o) : (o, m) ∈ smalls := by
  unfold smalls
  refine List.mem_flatMap.mpr ⟨(o - 1).toNat, List.mem_range.mpr (by omega), List.mem_map.mpr ⟨(m - 1).toNat, List.mem_range.mpr (by omega), ?_⟩⟩
  rw [Prod.mk.injEq]; omega
theorem turn_run {s : D} {t k : Int} {x3 x4 : Option W} {g : List Cell} (hg : HOk [] g) {j : Nat} (ht : ixd 3 t = some j) (hj : nth [W.d (D.int 6), W.d (D.int 10), W.d (D.int 17)] j = some (.d (.int k)))
    (hk : 1 ≤ k ∧ k ≤ 17) (ht0 : t = 0 → k ≤ 6) : ∃ x3' x4' g', turnS ⟨[some (.d s), some (.g 1), some (.d (.int t)), x3, x4, none, none], [], g⟩ = .ok .nx ⟨[some (.d s), some (.g 1), some (.d (.int t)), x3', x4', none, none], [], g'⟩ ∧ HOk [] g' := by
  obtain ⟨o, g1, e1, p1, p2, hg1⟩ := draw43 (m := k) hg (by omega) (by omega)
  obtain ⟨m, g2, e2, p3, p4, hg2⟩ := draw43 (m := 1 + o) hg1 (by omega) (by omega)
  have a1 := ar_run (pair_of (o := 1 + o) (m := 1 + m) (by omega) (by omega) (by omega) (by omega)) (by omega) (by omega) (by omega) (by omega) g2
  have a2 := er_run (o := 1 + o) (m := 1 + m) (by omega) (by omega) (by omega) (by omega) g2
  refine ⟨some (.d (.int (1 + o))), some (.d (.int (1 + m))), g2, ?_, hg2⟩
  unfold turnS
  by_cases hz : t = 0
  · have a3 := List.map_inj_left.mp (small_all g2) (1 + o, 1 + m) (smalls_of (by omega) (by have := ht0 hz; omega) (by omega) (by omega))
    simp only at a3
    simp only [ob_ok, ob_exc, ob_stuck, ob_ite, oz_some, oz_none, oz_ite, bnd_ob, ap_ite, pur_ap, opt_ap, nth0, nthS, upAt0, upAtS, vr_ap, cs_ap, u1_ob, b2_ob, b2L_ob, args0, argsS, bi_ob, biL_ob, tst_ob, bool_bl, andT_ob, orT_ob, notT_ob, andV_ob, orV_ob, notV_ob, ite_ob, ifS_ob, skip_ap, sq_nx, sq_rt, sq_bk, sq_ct, sq_exc, sq_stuck, sq_ite, seq_sq, ex_ob, rt_ob, st_ob, pt_n, pt_t, pt_tu, tGo0, tGoS, tup_ob, dsp_ob, frz_ob, own_ob, glo_ob, toDs0, toDsS, toD_d, toAs0, toAsS, toA_d, toA_g, fx_ok, fx_exc, fx_ite, cl_ob, fo_ite, fo_nx, fo_rtd, fo_rtg, fo_exc, fo_stuck, intI_int, sub_ob, chkL_ap, app_ob, pop_ob, popAt_ob, setS_ob, par_ob, forS_ob, itS_ob, itR_ob, lp_nx, lp_ct, lp_bk, lp_rt, lp_exc, lp_stuck, lp_ite, pk_d, pks0, pksS, items_t, items_u, items_d, nrm, lstAt, lstPut, pk_l', pk_g, items_l, items_g, allD_map, allD, fn_ap, oz_map, nth_mapW, List.length_map, ixd_0, ixd_1, ixd_2, ixd_3, lamc_fx, capt, lamT_ap, lt_okd, lt_exc, thk_ap, tryS_ty, ty_ok, ty_stuck, eqD_ii, neD_ii, eqD_ss, neD_ss, lt_ii, le_ii, gt_ii, ge_ii, add_ii, sub_ii, neg_i, List.map_cons, List.map_nil, List.length_cons, List.length_nil, List.zip_cons_cons, List.zip_nil_right, List.zip_nil_left, List.foldl_cons, List.foldl_nil, List.replicate, List.cons_append, List.nil_append, Nat.reduceAdd, Nat.reduceSub, Nat.reduceLeDiff, Nat.reduceLT, Int.reduceLT, Int.reduceLE, Int.reduceAdd, Int.reduceSub, Int.reduceNeg, Int.reduceMul, Bool.not_true, Bool.not_false, decide_eq_true_eq, Bool.not_eq_true', decide_eq_false_iff_not, if_true, if_false, reduceIte, Nat.zero_le, true_and, and_true, seqD, k_u1_ap, k_b2y_ap, k_b2_ap, k_b2Ly_ap, k_b2L_ap, k_argc_ap, k_args_ap, k_bi_ap, k_biL_ap, k_andT_ap, k_orT_ap, k_notT_ap, k_andB_ap, k_andV_ap, k_orB_ap, k_orV_ap, k_notB_ap, k_notV_ap, k_ite_ap, k_ifS_ap, k_ex_ap, k_rt_ap, k_mktup_ap, k_mklst_ap, k_tup_ap, k_dsp_ap, k_frz_ap, k_own_ap, k_glo_ap, k_dc_ap, k_ds_ap, k_as_ap, k_wd_ap, k_call_ap, k_cl_ap, k_suby_ap, k_sub_ap, k_appx_ap, k_appv_ap, k_appc_ap, k_app_ap, k_pop_ap, k_popAv_ap, k_popAc_ap, k_popA_ap, k_setv_ap, k_seti_ap, k_seto_ap, k_set_ap, k_par_ap, k_seqD_ap, k_itS_ap, k_itR_ap, k_whl_ap, k_clK_ap, ht, e1, e2, a1, a2, a3, hj, eq_true hz, decide_true, Bool.false_eq_true]
  · simp only [ob_ok, ob_exc, ob_stuck, ob_ite, oz_some, oz_none, oz_ite, bnd_ob, ap_ite, pur_ap, opt_ap, nth0, nthS, upAt0, upAtS, vr_ap, cs_ap, u1_ob, b2_ob, b2L_ob, args0, argsS, bi_ob, biL_ob, tst_ob, bool_bl, andT_ob, orT_ob, notT_ob, andV_ob, orV_ob, notV_ob, ite_ob, ifS_ob, skip_ap, sq_nx, sq_rt, sq_bk, sq_ct, sq_exc, sq_stuck, sq_ite, seq_sq, ex_ob, rt_ob, st_ob, pt_n, pt_t, pt_tu, tGo0, tGoS, tup_ob, dsp_ob, frz_ob, own_ob, glo_ob, toDs0, toDsS, toD_d, toAs0, toAsS, toA_d, toA_g, fx_ok, fx_exc, fx_ite, cl_ob, fo_ite, fo_nx, fo_rtd, fo_rtg, fo_exc, fo_stuck, intI_int, sub_ob, chkL_ap, app_ob, pop_ob, popAt_ob, setS_ob, par_ob, forS_ob, itS_ob, itR_ob, lp_nx, lp_ct, lp_bk, lp_rt, lp_exc, lp_stuck, lp_ite, pk_d, pks0, pksS, items_t, items_u, items_d, nrm, lstAt, lstPut, pk_l', pk_g, items_l, items_g, allD_map, allD, fn_ap, oz_map, nth_mapW, List.length_map, ixd_0, ixd_1, ixd_2, ixd_3, lamc_fx, capt, lamT_ap, lt_okd, lt_exc, thk_ap, tryS_ty, ty_ok, ty_stuck, eqD_ii, neD_ii, eqD_ss, neD_ss, lt_ii, le_ii, gt_ii, ge_ii, add_ii, sub_ii, neg_i, List.map_cons, List.map_nil, List.length_cons, List.length_nil, List.zip_cons_cons, List.zip_nil_right, List.zip_nil_left, List.foldl_cons, List.foldl_nil, List.replicate, List.cons_append, List.nil_append, Nat.reduceAdd, Nat.reduceSub, Nat.reduceLeDiff, Nat.reduceLT, Int.reduceLT, Int.reduceLE, Int.reduceAdd, Int.reduceSub, Int.reduceNeg, Int.reduceMul, Bool.not_true, Bool.not_false, decide_eq_true_eq, Bool.not_eq_true', decide_eq_false_iff_not, if_true, if_false, reduceIte, Nat.zero_le, true_and, and_true, seqD, k_u1_ap, k_b2y_ap, k_b2_ap, k_b2Ly_ap, k_b2L_ap, k_argc_ap, k_args_ap, k_bi_ap, k_biL_ap, k_andT_ap, k_orT_ap, k_notT_ap, k_andB_ap, k_andV_ap, k_orB_ap, k_orV_ap, k_notB_ap, k_notV_ap, k_ite_ap, k_ifS_ap, k_ex_ap, k_rt_ap, k_mktup_ap, k_mklst_ap, k_tup_ap, k_dsp_ap, k_frz_ap, k_own_ap, k_glo_ap, k_dc_ap, k_ds_ap, k_as_ap, k_wd_ap, k_call_ap, k_cl_ap, k_suby_ap, k_sub_ap, k_appx_ap, k_appv_ap, k_appc_ap, k_app_ap, k_pop_ap, k_popAv_ap, k_popAc_ap, k_popA_ap, k_setv_ap, k_seti_ap, k_seto_ap, k_set_ap, k_par_ap, k_seqD_ap, k_itS_ap, k_itR_ap, k_whl_ap, k_clK_ap, ht, e1, e2, a1, a2, hj, eq_false hz, decide_false, Bool.false_eq_true]
theorem turns_run {s : D} {g : List Cell} (hg : HOk [] g) : ∃ x3 x4 g', loop (tN 2) turnS [.int 0, .int 1, .int 2] ⟨[some (.d s), some (.g 1), none, none, none, none, none], [], g⟩ = .ok .nx ⟨[some (.d s), some (.g 1), some (.d (.int 2)), x3, x4, none, none], [], g'⟩ ∧ HOk [] g' := by
  obtain ⟨a3, a4, g1, e1, h1⟩ := turn_run (s := s) (t := 0) (k := 6) (x3 := none) (x4 := none) hg rfl rfl (by omega) (by omega)
  obtain ⟨b3, b4, g2, e2, h2⟩ := turn_run (s := s) (t := 1) (k := 10) (x3 := a3) (x4 := a4) h1 rfl rfl (by omega) (by omega)
  obtain ⟨c3, c4, g3, e3, h3⟩ := turn_run (s := s) (t := 2) (k := 17) (x3 := b3) (x4 := b4) h2 rfl rfl (by omega) (by omega)
  refine ⟨c3, c4, g3, ?_, h3⟩
  rw [loopS, pt_n, upAtS, upAtS, upAt0, sq_nx, e1, lp_nx, loopS, pt_n, upAtS, upAtS, upAt0, sq_nx, e2, lp_nx, loopS, pt_n, upAtS, upAtS, upAt0, sq_nx, e3, lp_nx, loop0]
def secS : St := forS (itS (frz (dsp (args [tup (args [cs (.int 60), cl F_law_pick (args [vr 1, frz (dsp (args [cs (.int 1), cs (.int 2), cs (.int 59), cs (.int 60)]))])]), tup (args [cs (.int 12), cl F_law_pick (args [vr 1, frz (dsp (args [cs (.int 4), cs (.int 5), cs (.int 6), cs (.int 7), cs (.int 8)]))])]), tup (args [cs (.int 33), cs (.int 3)]), tup (args [cs (.int 34), cs (.int 3)])])))) (tT [tN 3, tN 4]) (ifS (notT (tst (cl F_law_all_right (args [vr 3, vr 4])))) (rt (cs (.bl false))) (skip))
end Mn
set_option Elab.async false
set_option linter.all false
set_option maxRecDepth 100000
set_option maxHeartbeats 2000000
namespace Mn
open PySem
theorem few_in : ∀ p ∈ ([(60, 1), (60, 2), (60, 59), (60, 60), (33, 3), (34, 3)] : List (Int × Int)), p ∈ pairs := fun p h => by
  unfold pairs; exact List.mem_append_right _ h
theorem ar60 {a : Int} (h : a ∈ ([1, 2, 59, 60] : List Int)) (g : List Cell) : F_law_all_right [.d (.int 60), .d (.int a)] g = .ok (.d (.bl true)) g := by
  simp only [List.mem_cons, List.not_mem_nil, or_false] at h
  have hp : (60, a) ∈ pairs := few_in _ (by rcases h with rfl | rfl | rfl | rfl <;> simp)
  exact ar_run hp (by omega) (by omega) (by omega) (by omega) g
theorem ar12 {b : Int} (h : b ∈ ([4, 5, 6, 7, 8] : List Int)) (g : List Cell) : F_law_all_right [.d (.int 12), .d (.int b)] g = .ok (.d (.bl true)) g := by
  simp only [List.mem_cons, List.not_mem_nil, or_false] at h
  exact ar_run (pair_of (by omega) (by omega) (by omega) (by omega)) (by omega) (by omega) (by omega) (by omega) g
theorem ar33 (g : List Cell) : F_law_all_right [.d (.int 33), .d (.int 3)] g = .ok (.d (.bl true)) g := ar_run (few_in _ (by simp)) (by omega) (by omega) (by omega) (by omega) g
theorem ar34 (g : List Cell) : F_law_all_right [.d (.int 34), .d (.int 3)] g = .ok (.d (.bl true)) g := ar_run (few_in _ (by simp)) (by omega) (by omega) (by omega) (by omega) g
theorem sec_it {s : D} {x2 x3 x4 : Option W} {g : List Cell} (hg : HOk [] g) : ∃ a b g', itS (frz (dsp (args [tup (args [cs (.int 60), cl F_law_pick (args [vr 1, frz (dsp (args [cs (.int 1), cs (.int 2), cs (.int 59), cs (.int 60)]))])]), tup (args [cs (.int 12), cl F_law_pick (args [vr 1, frz (dsp (args [cs (.int 4), cs (.int 5), cs (.int 6), cs (.int 7), cs (.int 8)]))])]), tup (args [cs (.int 33), cs (.int 3)]), tup (args [cs (.int 34), cs (.int 3)])]))) ⟨[some (.d s), some (.g 1), x2, x3, x4, none, none], [], g⟩ = .ok [.tup [.int 60, .int a], .tup [.int 12, .int b], .tup [.int 33, .int 3], .tup [.int 34, .int 3]] ⟨[some (.d s), some (.g 1), x2, x3, x4, none, none], [], g'⟩ ∧ a ∈ ([1, 2, 59, 60] : List Int) ∧ b ∈ ([4, 5, 6, 7, 8] : List Int) ∧ HOk [] g' := by
  obtain ⟨a, g1, e1, h1, hg1⟩ := pick43 (xs := [1, 2, 59, 60]) hg (by decide) (by decide)
  obtain ⟨b, g2, e2, h2, hg2⟩ := pick43 (xs := [4, 5, 6, 7, 8]) hg1 (by decide) (by decide)
  simp only [List.map_cons, List.map_nil] at e1 e2
  refine ⟨a, b, g2, ?_, h1, h2, hg2⟩
  simp only [ob_ok, ob_exc, ob_stuck, ob_ite, oz_some, oz_none, oz_ite, bnd_ob, ap_ite, pur_ap, opt_ap, nth0, nthS, upAt0, upAtS, vr_ap, cs_ap, u1_ob, b2_ob, b2L_ob, args0, argsS, bi_ob, biL_ob, tst_ob, bool_bl, andT_ob, orT_ob, notT_ob, andV_ob, orV_ob, notV_ob, ite_ob, ifS_ob, skip_ap, sq_nx, sq_rt, sq_bk, sq_ct, sq_exc, sq_stuck, sq_ite, seq_sq, ex_ob, rt_ob, st_ob, pt_n, pt_t, pt_tu, tGo0, tGoS, tup_ob, dsp_ob, frz_ob, own_ob, glo_ob, toDs0, toDsS, toD_d, toAs0, toAsS, toA_d, toA_g, fx_ok, fx_exc, fx_ite, cl_ob, fo_ite, fo_nx, fo_rtd, fo_rtg, fo_exc, fo_stuck, intI_int, sub_ob, chkL_ap, app_ob, pop_ob, popAt_ob, setS_ob, par_ob, forS_ob, itS_ob, itR_ob, lp_nx, lp_ct, lp_bk, lp_rt, lp_exc, lp_stuck, lp_ite, pk_d, pks0, pksS, items_t, items_u, items_d, nrm, lstAt, lstPut, pk_l', pk_g, items_l, items_g, allD_map, allD, fn_ap, oz_map, nth_mapW, List.length_map, ixd_0, ixd_1, ixd_2, ixd_3, lamc_fx, capt, lamT_ap, lt_okd, lt_exc, thk_ap, tryS_ty, ty_ok, ty_stuck, eqD_ii, neD_ii, eqD_ss, neD_ss, lt_ii, le_ii, gt_ii, ge_ii, add_ii, sub_ii, neg_i, List.map_cons, List.map_nil, List.length_cons, List.length_nil, List.zip_cons_cons, List.zip_nil_right, List.zip_nil_left, List.foldl_cons, List.foldl_nil, List.replicate, List.cons_append, List.nil_append, Nat.reduceAdd, Nat.reduceSub, Nat.reduceLeDiff, Nat.reduceLT, Int.reduceLT, Int.reduceLE, Int.reduceAdd, Int.reduceSub, Int.reduceNeg, Int.reduceMul, Bool.not_true, Bool.not_false, decide_eq_true_eq, Bool.not_eq_true', decide_eq_false_iff_not, if_true, if_false, reduceIte, Nat.zero_le, true_and, and_true, seqD, k_u1_ap, k_b2y_ap, k_b2_ap, k_b2Ly_ap, k_b2L_ap, k_argc_ap, k_args_ap, k_bi_ap, k_biL_ap, k_andT_ap, k_orT_ap, k_notT_ap, k_andB_ap, k_andV_ap, k_orB_ap, k_orV_ap, k_notB_ap, k_notV_ap, k_ite_ap, k_ifS_ap, k_ex_ap, k_rt_ap, k_mktup_ap, k_mklst_ap, k_tup_ap, k_dsp_ap, k_frz_ap, k_own_ap, k_glo_ap, k_dc_ap, k_ds_ap, k_as_ap, k_wd_ap, k_call_ap, k_cl_ap, k_suby_ap, k_sub_ap, k_appx_ap, k_appv_ap, k_appc_ap, k_app_ap, k_pop_ap, k_popAv_ap, k_popAc_ap, k_popA_ap, k_setv_ap, k_seti_ap, k_seto_ap, k_set_ap, k_par_ap, k_seqD_ap, k_itS_ap, k_itR_ap, k_whl_ap, k_clK_ap, e1, e2]
theorem sec_step {s : D} {x2 x3 x4 : Option W} {g : List Cell} {o m : Int} {xs : List D} (hr : F_law_all_right [.d (.int o), .d (.int m)] g = .ok (.d (.bl true)) g) :
    loop (tT [tN 3, tN 4]) (ifS (notT (tst (cl F_law_all_right (args [vr 3, vr 4])))) (rt (cs (.bl false))) (skip)) (.tup [.int o, .int m] :: xs) ⟨[some (.d s), some (.g 1), x2, x3, x4, none, none], [], g⟩ = loop (tT [tN 3, tN 4]) (ifS (notT (tst (cl F_law_all_right (args [vr 3, vr 4])))) (rt (cs (.bl false))) (skip)) xs ⟨[some (.d s), some (.g 1), x2, some (.d (.int o)), some (.d (.int m)), none, none], [], g⟩ := by
  rw [loopS]
  simp only [ob_ok, ob_exc, ob_stuck, ob_ite, oz_some, oz_none, oz_ite, bnd_ob, ap_ite, pur_ap, opt_ap, nth0, nthS, upAt0, upAtS, vr_ap, cs_ap, u1_ob, b2_ob, b2L_ob, args0, argsS, bi_ob, biL_ob, tst_ob, bool_bl, andT_ob, orT_ob, notT_ob, andV_ob, orV_ob, notV_ob, ite_ob, ifS_ob, skip_ap, sq_nx, sq_rt, sq_bk, sq_ct, sq_exc, sq_stuck, sq_ite, seq_sq, ex_ob, rt_ob, st_ob, pt_n, pt_t, pt_tu, tGo0, tGoS, tup_ob, dsp_ob, frz_ob, own_ob, glo_ob, toDs0, toDsS, toD_d, toAs0, toAsS, toA_d, toA_g, fx_ok, fx_exc, fx_ite, cl_ob, fo_ite, fo_nx, fo_rtd, fo_rtg, fo_exc, fo_stuck, intI_int, sub_ob, chkL_ap, app_ob, pop_ob, popAt_ob, setS_ob, par_ob, forS_ob, itS_ob, itR_ob, lp_nx, lp_ct, lp_bk, lp_rt, lp_exc, lp_stuck, lp_ite, pk_d, pks0, pksS, items_t, items_u, items_d, nrm, lstAt, lstPut, pk_l', pk_g, items_l, items_g, allD_map, allD, fn_ap, oz_map, nth_mapW, List.length_map, ixd_0, ixd_1, ixd_2, ixd_3, lamc_fx, capt, lamT_ap, lt_okd, lt_exc, thk_ap, tryS_ty, ty_ok, ty_stuck, eqD_ii, neD_ii, eqD_ss, neD_ss, lt_ii, le_ii, gt_ii, ge_ii, add_ii, sub_ii, neg_i, List.map_cons, List.map_nil, List.length_cons, List.length_nil, List.zip_cons_cons, List.zip_nil_right, List.zip_nil_left, List.foldl_cons, List.foldl_nil, List.replicate, List.cons_append, List.nil_append, Nat.reduceAdd, Nat.reduceSub, Nat.reduceLeDiff, Nat.reduceLT, Int.reduceLT, Int.reduceLE, Int.reduceAdd, Int.reduceSub, Int.reduceNeg, Int.reduceMul, Bool.not_true, Bool.not_false, decide_eq_true_eq, Bool.not_eq_true', decide_eq_false_iff_not, if_true, if_false, reduceIte, Nat.zero_le, true_and, and_true, seqD, k_u1_ap, k_b2y_ap, k_b2_ap, k_b2Ly_ap, k_b2L_ap, k_argc_ap, k_args_ap, k_bi_ap, k_biL_ap, k_andT_ap, k_orT_ap, k_notT_ap, k_andB_ap, k_andV_ap, k_orB_ap, k_orV_ap, k_notB_ap, k_notV_ap, k_ite_ap, k_ifS_ap, k_ex_ap, k_rt_ap, k_mktup_ap, k_mklst_ap, k_tup_ap, k_dsp_ap, k_frz_ap, k_own_ap, k_glo_ap, k_dc_ap, k_ds_ap, k_as_ap, k_wd_ap, k_call_ap, k_cl_ap, k_suby_ap, k_sub_ap, k_appx_ap, k_appv_ap, k_appc_ap, k_app_ap, k_pop_ap, k_popAv_ap, k_popAc_ap, k_popA_ap, k_setv_ap, k_seti_ap, k_seto_ap, k_set_ap, k_par_ap, k_seqD_ap, k_itS_ap, k_itR_ap, k_whl_ap, k_clK_ap, hr, Bool.false_eq_true]
theorem sec_run {s : D} {x2 x3 x4 : Option W} {g : List Cell} (hg : HOk [] g) : ∃ g', secS ⟨[some (.d s), some (.g 1), x2, x3, x4, none, none], [], g⟩ = .ok .nx ⟨[some (.d s), some (.g 1), x2, some (.d (.int 34)), some (.d (.int 3)), none, none], [], g'⟩ ∧ HOk [] g' := by
  obtain ⟨a, b, g2, e, h1, h2, hg2⟩ := sec_it (s := s) (x2 := x2) (x3 := x3) (x4 := x4) hg
  refine ⟨g2, ?_, hg2⟩
  unfold secS
  rw [forS_ob, e, ob_ok, sec_step (ar60 h1 g2), sec_step (ar12 h2 g2), sec_step (ar33 g2), sec_step (ar34 g2), loop0]
end Mn
set_option Elab.async false
set_option linter.all false
set_option maxRecDepth 100000
set_option maxHeartbeats 2000000
namespace Mn
open PySem
theorem last_all (g : List Cell) : F_best_cut [.d (.int 60), .d (.int 31)] g = .ok (.d (bestD 60 31)) g ∧ F_worst_cut [.d (.int 60), .d (.int 31)] g = .ok (.d (worstD 60 31)) g ∧ F_law_is_cut [.d (bestD 60 31), .d (.int 60), .d (.int 31)] g = .ok (.d (.bl true)) g ∧ F_law_is_cut [.d (worstD 60 31), .d (.int 60), .d (.int 31)] g = .ok (.d (.bl true)) g ∧
    F_law_reaches [.d (bestD 60 31)] g = .ok (.d (.tup [.int (31 * 1073741824), .int (31 * 536870912)])) g := ⟨by kernel_rfl, by kernel_rfl, by kernel_rfl, by kernel_rfl, by kernel_rfl⟩
end Mn
set_option Elab.async false
set_option linter.all false
set_option maxRecDepth 100000
set_option maxHeartbeats 2000000
namespace Mn
open PySem
theorem bad_run {o : Int} (h1 : 1 ≤ o) (h2 : o ≤ 60) (g : List Cell) : F_law_bad_right [.d (.int o), .d (.int 1)] g = .ok (.d (.bl true)) g := by
  by_cases h_0 : o < 6
  · exact List.map_inj_left.mp (bad_0 g) o ((iot_mem 5 1 o).mpr (by omega))
  by_cases h_1 : o < 11
  · exact List.map_inj_left.mp (bad_1 g) o ((iot_mem 5 6 o).mpr (by omega))
  by_cases h_2 : o < 16
  · exact List.map_inj_left.mp (bad_2 g) o ((iot_mem 5 11 o).mpr (by omega))
  by_cases h_3 : o < 21
  · exact List.map_inj_left.mp (bad_3 g) o ((iot_mem 5 16 o).mpr (by omega))
  by_cases h_4 : o < 26
  · exact List.map_inj_left.mp (bad_4 g) o ((iot_mem 5 21 o).mpr (by omega))
  by_cases h_5 : o < 31
  · exact List.map_inj_left.mp (bad_5 g) o ((iot_mem 5 26 o).mpr (by omega))
  by_cases h_6 : o < 36
  · exact List.map_inj_left.mp (bad_6 g) o ((iot_mem 5 31 o).mpr (by omega))
  by_cases h_7 : o < 41
  · exact List.map_inj_left.mp (bad_7 g) o ((iot_mem 5 36 o).mpr (by omega))
  by_cases h_8 : o < 46
  · exact List.map_inj_left.mp (bad_8 g) o ((iot_mem 5 41 o).mpr (by omega))
  by_cases h_9 : o < 51
  · exact List.map_inj_left.mp (bad_9 g) o ((iot_mem 5 46 o).mpr (by omega))
  by_cases h_10 : o < 56
  · exact List.map_inj_left.mp (bad_10 g) o ((iot_mem 5 51 o).mpr (by omega))
  by_cases h_11 : o < 61
  · exact List.map_inj_left.mp (bad_11 g) o ((iot_mem 5 56 o).mpr (by omega))
  omega
end Mn
set_option Elab.async false
set_option linter.all false
set_option maxRecDepth 100000
set_option maxHeartbeats 2000000
namespace Mn
open PySem
def ZS (s : D) (x2 x3 x4 : Option W) (g : List Cell) : Sx := ⟨[some (.d s), some (.g 1), x2, x3, x4, some (.d (bestD 60 31)), some (.d (worstD 60 31))], [], g⟩
def tA : M Bool := orT (tst (b2 neD (cl F_law_reaches (args [vr 5])) (tup (args [b2 mulD (cs (.int 31)) (cs (.int 1073741824)), b2 mulD (cs (.int 31)) (cs (.int 536870912))])))) (orT (tst (b2 neD (cnt (vr 6) (cs (.int 2))) (cs (.int 29)))) (orT (tst (b2 neD (cnt (vr 6) (cs (.int 1))) (cs (.int 2)))) (tst (b2 neD (sub (vr 6) (cs (.int 0))) (cs (.int 2))))))
def tB : M W := andV (b2 eqD (cl F_best_cut (args [cs (.int 5), cs (.int 2)])) (tup (args [cs (.int 1), cs (.int 4)]))) (andV (b2 eqD (cl F_worst_cut (args [cs (.int 5), cs (.int 2)])) (tup (args [cs (.int 3), cs (.int 2)]))) (b2 eqD (cl F_all_cuts (args [cs (.int 4), cs (.int 2)])) (tup (args [tup (args [cs (.int 1), cs (.int 3)]), tup (args [cs (.int 2), cs (.int 2)]), tup (args [cs (.int 3), cs (.int 1)])]))))
def tC : M Bool := orT (notT (tst (cl F_law_is_cut (args [vr 5, cs (.int 60), cs (.int 31)])))) (notT (tst (cl F_law_is_cut (args [vr 6, cs (.int 60), cs (.int 31)]))))
theorem tA_run (s : D) (x2 x3 x4 : Option W) (g : List Cell) : tA (ZS s x2 x3 x4 g) = .ok false (ZS s x2 x3 x4 g) := by kernel_rfl
theorem tB_run (s : D) (x2 x3 x4 : Option W) (g : List Cell) : tB (ZS s x2 x3 x4 g) = .ok (.d (.bl true)) (ZS s x2 x3 x4 g) := by kernel_rfl
theorem tC_run (s : D) (x2 x3 x4 : Option W) (g : List Cell) : tC (ZS s x2 x3 x4 g) = .ok false (ZS s x2 x3 x4 g) := by kernel_rfl
def parS : St := par [5, 6] (args [cl F_best_cut (args [cs (.int 60), cs (.int 31)]), cl F_worst_cut (args [cs (.int 60), cs (.int 31)])])
theorem par_run (s : D) (x2 x3 x4 : Option W) (g : List Cell) : parS ⟨[some (.d s), some (.g 1), x2, x3, x4, none, none], [], g⟩ = .ok .nx (ZS s x2 x3 x4 g) := by kernel_rfl
def badS : St := ifS (notT (tst (cl F_law_bad_right (args [b2 addD (cs (.int 1)) (cl F_law_draw (args [vr 1, cs (.int 60)])), cs (.int 1)])))) (rt (cs (.bl false))) (skip)
theorem badS_run {s : D} {x2 x3 x4 : Option W} {g : List Cell} (hg : HOk [] g) : ∃ g', badS (ZS s x2 x3 x4 g) = .ok .nx (ZS s x2 x3 x4 g') := by
  obtain ⟨o, g1, e, p1, p2, _⟩ := draw43 (m := 60) hg (by decide) (by decide)
  have hb := bad_run (o := 1 + o) (by omega) (by omega) g1
  refine ⟨g1, ?_⟩
  unfold badS ZS
  generalize bestD 60 31 = B
  generalize worstD 60 31 = Wc
  simp only [ob_ok, ob_exc, ob_stuck, ob_ite, oz_some, oz_none, oz_ite, bnd_ob, ap_ite, pur_ap, opt_ap, nth0, nthS, upAt0, upAtS, vr_ap, cs_ap, u1_ob, b2_ob, b2L_ob, args0, argsS, bi_ob, biL_ob, tst_ob, bool_bl, andT_ob, orT_ob, notT_ob, andV_ob, orV_ob, notV_ob, ite_ob, ifS_ob, skip_ap, sq_nx, sq_rt, sq_bk, sq_ct, sq_exc, sq_stuck, sq_ite, seq_sq, ex_ob, rt_ob, st_ob, pt_n, pt_t, pt_tu, tGo0, tGoS, tup_ob, dsp_ob, frz_ob, own_ob, glo_ob, toDs0, toDsS, toD_d, toAs0, toAsS, toA_d, toA_g, fx_ok, fx_exc, fx_ite, cl_ob, fo_ite, fo_nx, fo_rtd, fo_rtg, fo_exc, fo_stuck, intI_int, sub_ob, chkL_ap, app_ob, pop_ob, popAt_ob, setS_ob, par_ob, forS_ob, itS_ob, itR_ob, lp_nx, lp_ct, lp_bk, lp_rt, lp_exc, lp_stuck, lp_ite, pk_d, pks0, pksS, items_t, items_u, items_d, nrm, lstAt, lstPut, pk_l', pk_g, items_l, items_g, allD_map, allD, fn_ap, oz_map, nth_mapW, List.length_map, ixd_0, ixd_1, ixd_2, ixd_3, lamc_fx, capt, lamT_ap, lt_okd, lt_exc, thk_ap, tryS_ty, ty_ok, ty_stuck, eqD_ii, neD_ii, eqD_ss, neD_ss, lt_ii, le_ii, gt_ii, ge_ii, add_ii, sub_ii, neg_i, List.map_cons, List.map_nil, List.length_cons, List.length_nil, List.zip_cons_cons, List.zip_nil_right, List.zip_nil_left, List.foldl_cons, List.foldl_nil, List.replicate, List.cons_append, List.nil_append, Nat.reduceAdd, Nat.reduceSub, Nat.reduceLeDiff, Nat.reduceLT, Int.reduceLT, Int.reduceLE, Int.reduceAdd, Int.reduceSub, Int.reduceNeg, Int.reduceMul, Bool.not_true, Bool.not_false, decide_eq_true_eq, Bool.not_eq_true', decide_eq_false_iff_not, if_true, if_false, reduceIte, Nat.zero_le, true_and, and_true, seqD, k_u1_ap, k_b2y_ap, k_b2_ap, k_b2Ly_ap, k_b2L_ap, k_argc_ap, k_args_ap, k_bi_ap, k_biL_ap, k_andT_ap, k_orT_ap, k_notT_ap, k_andB_ap, k_andV_ap, k_orB_ap, k_orV_ap, k_notB_ap, k_notV_ap, k_ite_ap, k_ifS_ap, k_ex_ap, k_rt_ap, k_mktup_ap, k_mklst_ap, k_tup_ap, k_dsp_ap, k_frz_ap, k_own_ap, k_glo_ap, k_dc_ap, k_ds_ap, k_as_ap, k_wd_ap, k_call_ap, k_cl_ap, k_suby_ap, k_sub_ap, k_appx_ap, k_appv_ap, k_appc_ap, k_app_ap, k_pop_ap, k_popAv_ap, k_popAc_ap, k_popA_ap, k_setv_ap, k_seti_ap, k_seto_ap, k_set_ap, k_par_ap, k_seqD_ap, k_itS_ap, k_itR_ap, k_whl_ap, k_clK_ap, e, hb, Bool.false_eq_true]
theorem law_run (ns : List Int) (hn : ns.length ≤ 63) : ∃ g, F_law [.d (.lst (ns.map D.int))] [] = .ok (.d (.bl true)) g := by
  obtain ⟨g0, e0, h0⟩ := heap_run (seed := 61253) (a := 69621) (c := 29) (by decide) ns hn
  have e0' : F_law_heap [.d (.lst (ns.map D.int))] [] = .ok (.g 1) g0 := e0
  obtain ⟨x3, x4, g1, e1, h1⟩ := turns_run (s := .lst (ns.map D.int)) h0
  obtain ⟨g2, e2, h2⟩ := sec_run (s := .lst (ns.map D.int)) (x2 := some (.d (.int 2))) (x3 := x3) (x4 := x4) h1
  obtain ⟨g3, e3⟩ := badS_run (s := .lst (ns.map D.int)) (x2 := some (.d (.int 2))) (x3 := some (.d (.int 34))) (x4 := some (.d (.int 3))) h2
  refine ⟨g3, ?_⟩
  show fn 7 1 (seq (st (tN 1) (cl F_law_heap (args [vr 0]))) (seq (forS (itR rng1 (args [cs (.int 3)])) (tN 2) turnS) (seq secS (seq parS (seq (ifS tC (rt (cs (.bl false))) skip) (seq (ifS tA (rt (cs (.bl false))) skip) (seq badS (rt tB)))))))) _ [] = _
  rw [fn_run2 _ _ _ _ _ (by rfl)]
  have s1 : (st (tN 1) (cl F_law_heap (args [vr 0]))) ⟨[W.d (.lst (ns.map D.int))].map some ++ List.replicate (7 - 1) none, [], []⟩ = .ok .nx ⟨[some (.d (.lst (ns.map D.int))), some (.g 1), none, none, none, none, none], [], g0⟩ := by simp only [ob_ok, ob_exc, ob_stuck, ob_ite, oz_some, oz_none, oz_ite, bnd_ob, ap_ite, pur_ap, opt_ap, nth0, nthS, upAt0, upAtS, vr_ap, cs_ap, u1_ob, b2_ob, b2L_ob, args0, argsS, bi_ob, biL_ob, tst_ob, bool_bl, andT_ob, orT_ob, notT_ob, andV_ob, orV_ob, notV_ob, ite_ob, ifS_ob, skip_ap, sq_nx, sq_rt, sq_bk, sq_ct, sq_exc, sq_stuck, sq_ite, seq_sq, ex_ob, rt_ob, st_ob, pt_n, pt_t, pt_tu, tGo0, tGoS, tup_ob, dsp_ob, frz_ob, own_ob, glo_ob, toDs0, toDsS, toD_d, toAs0, toAsS, toA_d, toA_g, fx_ok, fx_exc, fx_ite, cl_ob, fo_ite, fo_nx, fo_rtd, fo_rtg, fo_exc, fo_stuck, intI_int, sub_ob, chkL_ap, app_ob, pop_ob, popAt_ob, setS_ob, par_ob, forS_ob, itS_ob, itR_ob, lp_nx, lp_ct, lp_bk, lp_rt, lp_exc, lp_stuck, lp_ite, pk_d, pks0, pksS, items_t, items_u, items_d, nrm, lstAt, lstPut, pk_l', pk_g, items_l, items_g, allD_map, allD, fn_ap, oz_map, nth_mapW, List.length_map, ixd_0, ixd_1, ixd_2, ixd_3, lamc_fx, capt, lamT_ap, lt_okd, lt_exc, thk_ap, tryS_ty, ty_ok, ty_stuck, eqD_ii, neD_ii, eqD_ss, neD_ss, lt_ii, le_ii, gt_ii, ge_ii, add_ii, sub_ii, neg_i, List.map_cons, List.map_nil, List.length_cons, List.length_nil, List.zip_cons_cons, List.zip_nil_right, List.zip_nil_left, List.foldl_cons, List.foldl_nil, List.replicate, List.cons_append, List.nil_append, Nat.reduceAdd, Nat.reduceSub, Nat.reduceLeDiff, Nat.reduceLT, Int.reduceLT, Int.reduceLE, Int.reduceAdd, Int.reduceSub, Int.reduceNeg, Int.reduceMul, Bool.not_true, Bool.not_false, decide_eq_true_eq, Bool.not_eq_true', decide_eq_false_iff_not, if_true, if_false, reduceIte, Nat.zero_le, true_and, and_true, seqD, k_u1_ap, k_b2y_ap, k_b2_ap, k_b2Ly_ap, k_b2L_ap, k_argc_ap, k_args_ap, k_bi_ap, k_biL_ap, k_andT_ap, k_orT_ap, k_notT_ap, k_andB_ap, k_andV_ap, k_orB_ap, k_orV_ap, k_notB_ap, k_notV_ap, k_ite_ap, k_ifS_ap, k_ex_ap, k_rt_ap, k_mktup_ap, k_mklst_ap, k_tup_ap, k_dsp_ap, k_frz_ap, k_own_ap, k_glo_ap, k_dc_ap, k_ds_ap, k_as_ap, k_wd_ap, k_call_ap, k_cl_ap, k_suby_ap, k_sub_ap, k_appx_ap, k_appv_ap, k_appc_ap, k_app_ap, k_pop_ap, k_popAv_ap, k_popAc_ap, k_popA_ap, k_setv_ap, k_seti_ap, k_seto_ap, k_set_ap, k_par_ap, k_seqD_ap, k_itS_ap, k_itR_ap, k_whl_ap, k_clK_ap, e0']
  have s2 : forS (itR rng1 (args [cs (.int 3)])) (tN 2) turnS ⟨[some (.d (.lst (ns.map D.int))), some (.g 1), none, none, none, none, none], [], g0⟩ = .ok .nx ⟨[some (.d (.lst (ns.map D.int))), some (.g 1), some (.d (.int 2)), x3, x4, none, none], [], g1⟩ := by
    rw [forS_ob, show itR rng1 (args [cs (.int 3)]) ⟨[some (.d (.lst (ns.map D.int))), some (.g 1), none, none, none, none, none], [], g0⟩ = .ok [.int 0, .int 1, .int 2] ⟨[some (.d (.lst (ns.map D.int))), some (.g 1), none, none, none, none, none], [], g0⟩ from rfl, ob_ok]
    exact e1
  rw [seq_sq, s1, sq_nx, seq_sq, s2, sq_nx, seq_sq, e2, sq_nx, seq_sq, par_run, sq_nx, seq_sq, ifS_ob, tC_run, ob_ok, k_ifS_ap, if_neg (by decide), skip_ap, sq_nx, seq_sq, ifS_ob, tA_run, ob_ok, k_ifS_ap, if_neg (by decide), skip_ap, sq_nx, seq_sq, e3, sq_nx, rt_ob, tB_run, ob_ok, k_rt_ap, fo_rtd]
  rfl
end Mn
set_option maxRecDepth 100000 in
set_option maxHeartbeats 0 in
theorem PySem.Challenge.cw_saidatonce_k43_whole_best_and_worst_cuts_holds : PySem.Challenge.rw_saidatonce_k43_whole_best_and_worst_cuts.Holds := by
  exact holdsH fun ns hn _ => Mn.law_run ns hn
