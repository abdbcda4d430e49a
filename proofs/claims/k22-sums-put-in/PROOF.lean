import PyProof.Rows.All
import Wide.All
import OpenK.AllK
import Wide.FinOn
import HandS.ForMost
import KE.DataEq
import KE.DataCmp
import KE.SortData
import KE.SortKeyHeap
import HandS.Wide
import HandS.TupAny
import HandS.TupMul
import HandS.Style
import HandS.Steps
import HandS.IsInst
import HandS.Gcd
import HandS.Conv
import PyProof.WalksMore
import KE.KDictKeyed
import HandS.TupLen
import HandS.Dict
import HandS.Iter
import KE.GoesMore
import KE.GoesEnum
import KE.GoesZip
import PyProof.EnumMake
import HandS.Codes
import HandS.SortKw
import HandS.SetFor
import HandS.Flow
import HandS.EndBits
import PySem.Challenge.RW_keptsums_k22_sums_put_in_one_another
set_option Elab.async false
set_option linter.all false
set_option maxRecDepth 100000
set_option maxHeartbeats 8000000
/-! A0: a plain meaning for Python's constructs: environments of slots over PyData, with lists and dicts that are still owned by one slot. -/
namespace MP
open PySem

/-! ### data -/
/-- what a list or dict that is still being made holds -/
inductive Ct where
  | lst (xs : List PyData)
  | dct (kvs : List (List Int × PyData))
def kD (k : List Int) : PyData := .tuple (k.map .int)
def Ct.frz : Ct → PyData
  | .lst xs => .list xs
  | .dct kvs => .dict (kvs.map fun p => (kD p.1, p.2))
/-- a slot: nothing; data; data that was a slot's own; one's own; one's own, locked while it is walked -/
inductive Sl where
  | no
  | d (x : PyData)
  | e (x : PyData)
  | own (c : Ct)
  | lk (c : Ct)
abbrev En := List Sl
/-- an operand: data; a new list or dict; what a slot owns -/
inductive Op where
  | v (x : PyData)
  | o (c : Ct)
  | r (i : Nat)
/-- what is handed back -/
inductive Rv where
  | v (x : PyData)
  | o (c : Ct)
def Rv.op : Rv → Op
  | .v x => .v x
  | .o c => .o c
abbrev Orc := Nat → List Sl → Option (Rv × List Sl)
abbrev CE := En → Option (Op × En)
abbrev CT := En → Option (Bool × En)
abbrev CA := En → Option (List Op × En)
inductive Fl where
  | nx | bk | ct
  | rt (r : Rv)
abbrev CS := En → Option (Fl × En)

/-- an operand, looked at -/
def vw (e : En) : Op → Option PyData
  | .v x => some x
  | .o c => some c.frz
  | .r i => match e[i]? with
    | some (.own c) => some c.frz
    | some (.lk c) => some c.frz
    | some (.e x) => some x
    | some (.d x) => some x
    | _ => none
/-- the same, not of a locked one -/
def vx (e : En) : Op → Option PyData
  | .v x => some x
  | .o c => some c.frz
  | .r i => match e[i]? with
    | some (.own c) => some c.frz
    | some (.e x) => some x
    | some (.d x) => some x
    | _ => none
/-- an operand as data for good: what was owned is so no longer -/
def fz (e : En) : Op → Option (PyData × En)
  | .v x => some (x, e)
  | .o c => some (c.frz, e)
  | .r i => match e[i]? with
    | some (.own c) => some (c.frz, e.set i (.e c.frz))
    | some (.e x) => some (x, e)
    | some (.d x) => some (x, e)
    | _ => none

/-! ### expressions -/
def cN (i : Nat) : CE := fun e => match e[i]? with
  | some (.d x) => some (.v x, e)
  | some (.e x) => some (.v x, e)
  | some (.own _) => some (.r i, e)
  | some (.lk _) => some (.r i, e)
  | _ => none
def cK (x : PyData) : CE := fun e => some (.v x, e)
def c1 (g : PyData → Option Rv) (a : CE) : CE := fun e =>
  (a e).bind fun (x, e1) => (vw e1 x).bind fun d => (g d).bind fun r => some (r.op, e1)
def c2 (g : PyData → PyData → Option Rv) (a b : CE) : CE := fun e =>
  (a e).bind fun (x, e1) => (b e1).bind fun (y, e2) => (vw e2 x).bind fun d => (vw e2 y).bind fun d' => (g d d').bind fun r => some (r.op, e2)
def c2x (g : PyData → PyData → Option Rv) (a b : CE) : CE := fun e =>
  (a e).bind fun (x, e1) => (b e1).bind fun (y, e2) => (vx e2 x).bind fun d => (vx e2 y).bind fun d' => (g d d').bind fun r => some (r.op, e2)
def aNil : CA := fun e => some ([], e)
def aCons (a : CE) (r : CA) : CA := fun e => (a e).bind fun (x, e1) => (r e1).bind fun (xs, e2) => some (x :: xs, e2)
/-- all as data -/
def fNil : En → Option (List PyData × En) := fun e => some ([], e)
def fCons (a : CE) (r : En → Option (List PyData × En)) : En → Option (List PyData × En) := fun e =>
  (a e).bind fun (x, e1) => (fz e1 x).bind fun (d, e2) => (r e2).bind fun (ds, e3) => some (d :: ds, e3)
def szOk (n : Nat) : Bool := n ≤ 16777216
def cTup (f : En → Option (List PyData × En)) : CE := fun e => (f e).bind fun (ds, e1) => if szOk ds.length then some (.v (.tuple ds), e1) else none
def cLst (f : En → Option (List PyData × En)) : CE := fun e => (f e).bind fun (ds, e1) => if szOk ds.length then some (.o (.lst ds), e1) else none
def vws (e : En) : List Op → Option (List PyData)
  | [] => some []
  | x :: xs => (vw e x).bind fun d => (vws e xs).bind fun ds => some (d :: ds)
/-- a built-in by values -/
def cB (g : List PyData → Option Rv) (f : CA) : CE := fun e => (f e).bind fun (xs, e1) => (vws e1 xs).bind fun ds => (g ds).bind fun r => some (r.op, e1)
def cIf (t : CT) (a b : CE) : CE := fun e => (t e).bind fun (k, e1) => if k then a e1 else b e1
/-- a test as a value -/
def cTv (t : CT) : CE := fun e => (t e).bind fun (k, e1) => some (.v (.bool k), e1)
def cAndV (a b : CE) : CE := fun e => (a e).bind fun (x, e1) => match vw e1 x with
  | some (.bool true) => b e1
  | some (.bool false) => some (.v (.bool false), e1)
  | _ => none
def cOrV (a b : CE) : CE := fun e => (a e).bind fun (x, e1) => match vw e1 x with
  | some (.bool false) => b e1
  | some (.bool true) => some (.v (.bool true), e1)
  | _ => none
def cNotV (a : CE) : CE := fun e => (a e).bind fun (x, e1) => match vw e1 x with
  | some (.bool k) => some (.v (.bool !k), e1)
  | _ => none
/-! ### tests -/
def tV (a : CE) : CT := fun e => (a e).bind fun (x, e1) => match vw e1 x with
  | some (.bool k) => some (k, e1)
  | _ => none
def tAnd (a b : CT) : CT := fun e => (a e).bind fun (k, e1) => if k then b e1 else some (false, e1)
def tOr (a b : CT) : CT := fun e => (a e).bind fun (k, e1) => if k then some (true, e1) else b e1
def tNot (a : CT) : CT := fun e => (a e).bind fun (k, e1) => some (!k, e1)

/-! ### calls -/
/-- what an argument hands over -/
def argSl (e : En) : Op → Option Sl
  | .v x => some (.d x)
  | .o c => some (.own c)
  | .r i => match e[i]? with
    | some (.own c) => some (.own c)
    | some (.lk c) => some (.lk c)
    | some (.e x) => some (.d x)
    | some (.d x) => some (.d x)
    | _ => none
def argSls (e : En) : List Op → Option (List Sl)
  | [] => some []
  | x :: xs => (argSl e x).bind fun s => (argSls e xs).bind fun r => some (s :: r)
def refs : List Op → List Nat
  | [] => []
  | .r i :: xs => i :: refs xs
  | _ :: xs => refs xs
/-- the arguments behind the call -/
def putBack (e : En) : List Op → List Sl → Option En
  | [], [] => some e
  | .r i :: xs, s :: ss => match e[i]?, s with
    | some (.own _), .own c => putBack (e.set i (.own c)) xs ss
    | some (.own _), .e x => putBack (e.set i (.e x)) xs ss
    | some (.lk _), _ => putBack e xs ss
    | some (.e _), _ => putBack e xs ss
    | some (.d _), _ => putBack e xs ss
    | _, _ => none
  | .v _ :: xs, _ :: ss => putBack e xs ss
  | .o _ :: xs, _ :: ss => putBack e xs ss
  | _, _ => none
def cCall (fn : List Sl → Option (Rv × List Sl)) (f : CA) : CE := fun e =>
  (f e).bind fun (xs, e1) => if (refs xs).Nodup then (argSls e1 xs).bind fun ps => (fn ps).bind fun (r, ps') => (putBack e1 xs ps').bind fun e2 => some (r.op, e2) else none
/-- an argument as data for good -/
def cF (a : CE) : CE := fun e => (a e).bind fun (x, e1) => (fz e1 x).bind fun (d, e2) => some (.v d, e2)

/-! ### statements -/
def sNil : CS := fun e => some (.nx, e)
def sSeq (a b : CS) : CS := fun e => (a e).bind fun (f, e1) => match f with
  | .nx => b e1
  | _ => some (f, e1)
def sIf (t : CT) (a b : CS) : CS := fun e => (t e).bind fun (k, e1) => if k then a e1 else b e1
/-- a value as it is put into a slot -/
def stow (e : En) : Op → Option (Sl × En)
  | .v x => some (.d x, e)
  | .o c => some (.own c, e)
  | .r i => match e[i]? with
    | some (.own c) => some (.d c.frz, e.set i (.e c.frz))
    | some (.e x) => some (.d x, e)
    | some (.d x) => some (.d x, e)
    | _ => none
/-- may be overwritten: no parameter that is the caller's -/
def free (np : Nat) (e : En) (i : Nat) : Bool := if i < np then (match e[i]? with | some (.d _) => true | _ => false) else i < e.length
def sSet (np i : Nat) (a : CE) : CS := fun e => (a e).bind fun (x, e1) => (stow e1 x).bind fun (s, e2) => if free np e2 i then some (.nx, e2.set i s) else none
def sExp (a : CE) : CS := fun e => (a e).bind fun (_, e1) => some (.nx, e1)
def retv (np : Nat) (e : En) : Op → Option (Rv × En)
  | .v x => some (.v x, e)
  | .o c => some (.o c, e)
  | .r i => match e[i]? with
    | some (.own c) => if i < np then some (.v c.frz, e.set i (.e c.frz)) else some (.o c, e.set i .no)
    | some (.e x) => some (.v x, e)
    | some (.d x) => some (.v x, e)
    | _ => none
def sRet (np : Nat) (a : CE) : CS := fun e => (a e).bind fun (x, e1) => (retv np e1 x).bind fun (r, e2) => some (.rt r, e2)
def sRetN : CS := fun e => some (.rt (.v .none), e)

/-! ### loops -/
/-- what is walked: the items, the slots to lock -/
abbrev CI := En → Option (List PyData × List Nat × En)
def seqD : PyData → Option (List PyData)
  | .list xs => some xs
  | .tuple xs => some xs
  | _ => none
/-- the own slots among operands -/
def owns (e : En) : List Op → List Nat
  | [] => []
  | .r i :: xs => (match e[i]? with | some (.own _) => [i] | _ => []) ++ owns e xs
  | _ :: xs => owns e xs
def iE (a : CE) : CI := fun e => (a e).bind fun (x, e1) => (vw e1 x).bind fun d => (seqD d).bind fun xs => some (xs, owns e1 [x], e1)
def iEnum (a : CE) : CI := fun e => (a e).bind fun (x, e1) => (vw e1 x).bind fun d => (seqD d).bind fun xs => some ((xs.zipIdx).map (fun p => .tuple [.int p.2, p.1]), owns e1 [x], e1)
def iZip (a b : CE) : CI := fun e => (a e).bind fun (x, e1) => (b e1).bind fun (y, e2) => (vw e2 x).bind fun d => (seqD d).bind fun xs => (vw e2 y).bind fun d' => (seqD d').bind fun ys => if (owns e2 [x, y]).Nodup then
  some ((xs.zip ys).map (fun p => .tuple [p.1, p.2]), owns e2 [x, y], e2) else none
def rangeD (lo : Int) (n : Nat) (c : Int) : List PyData := (List.range n).map fun (k : Nat) => PyData.int (lo + k * c)
def small62 (i : Int) : Bool := decide (-4611686018427387904 ≤ i) && decide (i < 4611686018427387904)
def iRange1 (a : CE) : CI := fun e => (a e).bind fun (x, e1) => match vw e1 x with
  | some (.int j) => if small62 j then some (rangeD 0 j.toNat 1, [], e1) else none
  | _ => none
def iRange2 (a b : CE) : CI := fun e => (a e).bind fun (x, e1) => (b e1).bind fun (y, e2) => match vw e2 x, vw e2 y with
  | some (.int i), some (.int j) => if small62 i && small62 j then some (rangeD i (j - i).toNat 1, [], e2) else none
  | _, _ => none
/-- range(i, j, -1) -/
def iRange3 (a b c : CE) : CI := fun e => (a e).bind fun (x, e1) => (b e1).bind fun (y, e2) => (c e2).bind fun (z, e3) => match vw e3 x, vw e3 y, vw e3 z with
  | some (.int i), some (.int j), some (.int k) => if k = -1 && small62 i && small62 j then some (rangeD i (i - j).toNat (-1), [], e3) else none
  | _, _, _ => none
def lock : List Nat → En → En
  | [], e => e
  | i :: is, e => lock is (match e[i]? with | some (.own c) => e.set i (.lk c) | _ => e)
def unlock : List Nat → En → En
  | [], e => e
  | i :: is, e => unlock is (match e[i]? with | some (.lk c) => e.set i (.own c) | _ => e)
/-- a target -/
abbrev CG := PyData → En → Option En
def gN (np i : Nat) : CG := fun x e => if free np e i then some (e.set i (.d x)) else none
def gT : List CG → CG := fun gs x e => match x with
  | .tuple ds => if ds.length = gs.length then (gs.zip ds).foldl (fun o p => o.bind fun e => p.1 p.2 e) (some e) else none
  | _ => none
def forL (step : PyData → CS) : List PyData → CS
  | [], e => some (.nx, e)
  | x :: xs, e => (step x e).bind fun (f, e1) => match f with
    | .nx => forL step xs e1
    | .ct => forL step xs e1
    | .bk => some (.nx, e1)
    | .rt r => some (.rt r, e1)
def sFor (ci : CI) (g : CG) (body : CS) : CS := fun e => (ci e).bind fun (xs, wk, e1) => (forL (fun x e => (g x e).bind body) xs (lock wk e1)).bind fun (f, e2) => some (f, unlock wk e2)
def whileL (t : CT) (body : CS) : Nat → CS
  | 0, _ => none
  | n + 1, e => (t e).bind fun (k, e1) => if k then (body e1).bind fun (f, e2) => match f with
      | .nx => whileL t body n e2
      | .ct => whileL t body n e2
      | .bk => some (.nx, e2)
      | .rt r => some (.rt r, e2)
    else some (.nx, e1)
def sWhile (n : Nat) (t : CT) (body : CS) : CS := whileL t body n
/-! ### comprehensions -/
def wipeE : List Nat → En → En
  | [], e => e
  | v :: vs, e => (wipeE vs e).set v .no
/-- slots put back -/
def back : List Nat → En → En → En
  | [], _, e => e
  | v :: vs, e0, e => match e0[v]? with
    | some s => (back vs e0 e).set v s
    | none => back vs e0 e
def lcL (vs : List Nat) (g : CG) (t : CT) (a : CE) : List PyData → List PyData → En → Option (List PyData × En)
  | [], acc, e => some (acc, e)
  | x :: xs, acc, e => (g x e).bind fun e1 => (t e1).bind fun (k, e2) => if k then (a e2).bind fun (y, e3) => (fz e3 y).bind fun (d, e4) => if acc.length < 16777216 then lcL vs g t a xs (acc ++ [d]) (wipeE vs e4) else none
    else lcL vs g t a xs acc (wipeE vs e2)
/-- no slot among vs owns -/
def vsOk (e : En) (vs : List Nat) : Bool := vs.all fun v => match e[v]? with
  | some (.own _) => false
  | some (.lk _) => false
  | _ => true
def cLc (vs : List Nat) (ci : CI) (g : CG) (t : CT) (a : CE) : CE := fun e => (ci e).bind fun (xs, wk, e1) => if vsOk e1 vs then (lcL vs g t a xs [] (wipeE vs (lock wk e1))).bind fun (ds, e2) => some (.o (.lst ds), unlock wk (back vs e1 e2)) else none
def tYesT : CT := fun e => some (true, e)

/-- what the caller's own objects have become -/
def outs : List Sl → En → List Sl
  | .own _ :: ps, .own c :: e => .own c :: outs ps e
  | .own _ :: ps, .e x :: e => .e x :: outs ps e
  | _ :: ps, _ :: e => .no :: outs ps e
  | ps, [] => ps.map fun _ => .no
  | [], _ => []
/-- a def -/
def mkFn (np ns : Nat) (body : CS) : List Sl → Option (Rv × List Sl) := fun ps =>
  if ps.length = np then
    (body (ps ++ List.replicate (ns - np) .no)).bind fun (f, e) => match f with
      | .rt r => some (r, outs ps e)
      | .nx => some (.v .none, outs ps e)
      | _ => none
  else none
def callD (fns : Nat → Orc → List Sl → Option (Rv × List Sl)) : Nat → Orc
  | 0 => fun _ _ => none
  | n + 1 => fun i ps => fns i (callD fns n) ps
end MP

/-! A1: how the plain environments stand for the abstract heap. -/
namespace MP
open PySem PySem.Spec L2
open PyProof.Rows hiding St

/-! ### dicts whose keys are tuples of ints: a thing of our own, for a key may be a tuple of the module's -/
abbrev ikd (P : Program) (w : World) : HeapKind P w (List Int) := tupleKind (PySem.intKind P w)
abbrev XE := List Int × Addr × V
def XP (r : List XE) (xs : List (List Int × Addr × Value)) : Prop := Paired (fun (p : XE) (q : List Int × Addr × Value) => p.1 = q.1 ∧ p.2.1 = q.2.1 ∧ RelV p.2.2 q.2.2) r xs
def xdO (a : Addr) (r : List XE) : HO := .ext fun h => r.length ≤ sizeLine ∧ (a == sysModules) = false ∧ ∃ xs : List (List Int × Addr × Value), XP r xs ∧
  ∃ o es ep, h.get? a = some o ∧ o.ExactDict ∧ o.data = .dict es ep ∧ (∀ P w, es.toList = xs.map (entryOfKey (ikd P w))) ∧ (xs.map (·.1)).Nodup

/-! ### data on the abstract heap: all its lists, tuples, dicts are frozen (in F) or written in the module -/
mutual
inductive DV (K : PySem.W.Frag) (F : Addr → Prop) (H : Hp) : V → PyData → Prop
  | non : DV K F H .non .none
  | bl (b : Bool) : DV K F H (.bl b) (.bool b)
  | int (i : Int) : DV K F H (.int i) (.int i)
  | str (x : Str) : DV K F H (.str x) (.str x)
  | lst {a : Addr} {vs : List V} {ds : List PyData} : F a → H a = some (.lst vs) → DAll K F H vs ds → DV K F H (.ref a) (.list ds)
  | lstK {a : Addr} {vs : List V} {ds : List PyData} {o : Obj} {its : Array Value} {n : Nat} : K.lookup a = some o → o.cls = .type "list" → o.dict = none → o.data = .seq its n → its.size ≤ sizeLine → Vals vs its.toList →
      DAll K F H vs ds → DV K F H (.ref a) (.list ds)
  | tup {a : Addr} {vs : List V} {ds : List PyData} : F a → H a = some (.tup vs) → DAll K F H vs ds → DV K F H (.ref a) (.tuple ds)
  | tupK {a : Addr} {vs : List V} {ds : List PyData} {o : Obj} {its : Array Value} {n : Nat} : K.lookup a = some o → o.cls = .type "tuple" → o.data = .seq its n → its.size ≤ sizeLine → Vals vs its.toList →
      DAll K F H vs ds → DV K F H (.ref a) (.tuple ds)
  | dct {a : Addr} {r : List XE} {ks : List (PyData × PyData)} : F a → H a = some (xdO a r) → DKv K F H r ks → DV K F H (.ref a) (.dict ks)
inductive DAll (K : PySem.W.Frag) (F : Addr → Prop) (H : Hp) : List V → List PyData → Prop
  | nil : DAll K F H [] []
  | cons {v : V} {vs : List V} {d : PyData} {ds : List PyData} : DV K F H v d → DAll K F H vs ds → DAll K F H (v :: vs) (d :: ds)
inductive DKv (K : PySem.W.Frag) (F : Addr → Prop) (H : Hp) : List XE → List (PyData × PyData) → Prop
  | nil : DKv K F H [] []
  | cons {k : List Int} {b : Addr} {v : V} {r : List XE} {d : PyData} {ds : List (PyData × PyData)} : DV K F H (.ref b) (kD k) → DV K F H v d → DKv K F H r ds → DKv K F H ((k, b, v) :: r) ((kD k, d) :: ds)
end

/-- what is frozen stays -/
structure Keep (F : Addr → Prop) (H : Hp) (F' : Addr → Prop) (H' : Hp) : Prop where
  fr : ∀ a, F a → F' a
  at_ : ∀ a o, F a → H a = some o → H' a = some o
theorem Keep.refl (F : Addr → Prop) (H : Hp) : Keep F H F H := ⟨fun _ h => h, fun _ _ _ h => h⟩
theorem Keep.trans {F F1 F2 : Addr → Prop} {H H1 H2 : Hp} (a : Keep F H F1 H1) (b : Keep F1 H1 F2 H2) : Keep F H F2 H2 := ⟨fun c h => b.fr c (a.fr c h), fun c o h e => b.at_ c o (a.fr c h) (a.at_ c o h e)⟩
section
variable {K : PySem.W.Frag} {F F' : Addr → Prop} {H H' : Hp}
mutual
theorem DV.keep (k : Keep F H F' H') : ∀ {v : V} {d : PyData}, DV K F H v d → DV K F' H' v d
  | _, _, .non => .non
  | _, _, .bl b => .bl b
  | _, _, .int i => .int i
  | _, _, .str x => .str x
  | _, _, .lst f h a => .lst (k.fr _ f) (k.at_ _ _ f h) (DAll.keep k a)
  | _, _, .lstK l c d s z r a => .lstK l c d s z r (DAll.keep k a)
  | _, _, .tup f h a => .tup (k.fr _ f) (k.at_ _ _ f h) (DAll.keep k a)
  | _, _, .tupK l c s z r a => .tupK l c s z r (DAll.keep k a)
  | _, _, .dct f h a => .dct (k.fr _ f) (k.at_ _ _ f h) (DKv.keep k a)
theorem DAll.keep (k : Keep F H F' H') : ∀ {vs : List V} {ds : List PyData}, DAll K F H vs ds → DAll K F' H' vs ds
  | _, _, .nil => .nil
  | _, _, .cons a b => .cons (DV.keep k a) (DAll.keep k b)
theorem DKv.keep (k : Keep F H F' H') : ∀ {r : List XE} {ds : List (PyData × PyData)}, DKv K F H r ds → DKv K F' H' r ds
  | _, _, .nil => .nil
  | _, _, .cons z a b => .cons (DV.keep k z) (DV.keep k a) (DKv.keep k b)
end
theorem DAll.length : ∀ {vs : List V} {ds : List PyData}, DAll K F H vs ds → vs.length = ds.length
  | _, _, .nil => rfl
  | _, _, .cons _ b => by simp [DAll.length b]
theorem DKv.length : ∀ {r : List XE} {ds : List (PyData × PyData)}, DKv K F H r ds → r.length = ds.length
  | _, _, .nil => rfl
  | _, _, .cons _ _ b => by simp [DKv.length b]
theorem DAll.append : ∀ {vs ws : List V} {ds es : List PyData}, DAll K F H vs ds → DAll K F H ws es → DAll K F H (vs ++ ws) (ds ++ es)
  | _, _, _, _, .nil, h => h
  | _, _, _, _, .cons a b, h => .cons a (DAll.append b h)
theorem DAll.get : ∀ {vs : List V} {ds : List PyData} {i : Nat} {d : PyData}, DAll K F H vs ds → ds[i]? = some d → ∃ v, vs[i]? = some v ∧ DV K F H v d
  | _, _, _, _, .nil, e => by simp at e
  | _, _, 0, _, .cons a _, e => by simp at e; subst e; exact ⟨_, rfl, a⟩
  | _, _, i + 1, _, .cons _ b, e => by
    obtain ⟨v, h1, h2⟩ := DAll.get (i := i) b (by simpa using e)
    exact ⟨v, by simpa using h1, h2⟩
theorem DAll.getV : ∀ {vs : List V} {ds : List PyData} {i : Nat} {v : V}, DAll K F H vs ds → vs[i]? = some v → ∃ d, ds[i]? = some d ∧ DV K F H v d
  | _, _, _, _, .nil, e => by simp at e
  | _, _, 0, _, .cons a _, e => by simp at e; subst e; exact ⟨_, rfl, a⟩
  | _, _, i + 1, _, .cons _ b, e => by
    obtain ⟨v, h1, h2⟩ := DAll.getV (i := i) b (by simpa using e)
    exact ⟨v, by simpa using h1, h2⟩
theorem DAll.set : ∀ {vs : List V} {ds : List PyData} {i : Nat} {v : V} {d : PyData}, DAll K F H vs ds → DV K F H v d → DAll K F H (vs.set i v) (ds.set i d)
  | _, _, _, _, _, .nil, _ => .nil
  | _, _, 0, _, _, .cons _ b, h => .cons h b
  | _, _, i + 1, _, _, .cons a b, h => .cons a (DAll.set b h)
theorem DAll.take : ∀ {vs : List V} {ds : List PyData} (n : Nat), DAll K F H vs ds → DAll K F H (vs.take n) (ds.take n)
  | _, _, 0, _ => .nil
  | _, _, _ + 1, .nil => .nil
  | _, _, n + 1, .cons a b => .cons a (DAll.take n b)
theorem DAll.drop : ∀ {vs : List V} {ds : List PyData} (n : Nat), DAll K F H vs ds → DAll K F H (vs.drop n) (ds.drop n)
  | _, _, 0, h => h
  | _, _, _ + 1, .nil => .nil
  | _, _, n + 1, .cons _ b => DAll.drop n b
theorem DAll.reverse {vs : List V} {ds : List PyData} (h : DAll K F H vs ds) : DAll K F H vs.reverse ds.reverse := by
  induction h using DAll.rec (motive_1 := fun _ _ _ => True) (motive_3 := fun _ _ _ => True) with
  | nil => exact .nil
  | cons a _ _ ih => simp only [List.reverse_cons]; exact ih.append (.cons a .nil)
  | _ => intros; trivial
theorem DAll.eraseIdx : ∀ {vs : List V} {ds : List PyData} (i : Nat), DAll K F H vs ds → DAll K F H (vs.eraseIdx i) (ds.eraseIdx i)
  | _, _, _, .nil => .nil
  | _, _, 0, .cons _ b => b
  | _, _, i + 1, .cons a b => .cons a (DAll.eraseIdx i b)
theorem DAll.mapInt : ∀ {vs : List V} {ns : List Int}, DAll K F H vs (ns.map .int) → vs = ns.map V.int
  | _, [], h => by cases h; rfl
  | _, n :: ns, h => by
    cases h with
    | cons a b => cases a; rw [DAll.mapInt b]; rfl
theorem DAll.ofInt (ns : List Int) : DAll K F H (ns.map V.int) (ns.map .int) := by
  induction ns with
  | nil => exact .nil
  | cons n ns ih => exact .cons (.int n) ih
theorem DAll.mapBool : ∀ {vs : List V} {ns : List Bool}, DAll K F H vs (ns.map .bool) → vs = ns.map V.bl
  | _, [], h => by cases h; rfl
  | _, n :: ns, h => by
    cases h with
    | cons a b => cases a; rw [DAll.mapBool b]; rfl
end

/-! ### what an owned object holds -/
def OwnAt (K : PySem.W.Frag) (F : Addr → Prop) (H : Hp) (a : Addr) : Ct → Prop
  | .lst xs => ∃ vs, H a = some (.lst vs) ∧ DAll K F H vs xs
  | .dct kvs => ∃ r, H a = some (xdO a r) ∧ DKv K F H r (kvs.map fun p => (kD p.1, p.2))
/-- .. and may be locked -/
def LkAt (K : PySem.W.Frag) (F : Addr → Prop) (H : Hp) (a : Addr) : Ct → Prop
  | .lst xs => ∃ vs, Rd H a (.lst vs) ∧ DAll K F H vs xs
  | .dct kvs => ∃ r, Rd H a (xdO a r) ∧ DKv K F H r (kvs.map fun p => (kD p.1, p.2))
theorem OwnAt.lk {K : PySem.W.Frag} {F : Addr → Prop} {H : Hp} {a : Addr} : ∀ {c : Ct}, OwnAt K F H a c → LkAt K F H a c
  | .lst _, ⟨vs, h, d⟩ => ⟨vs, .inl h, d⟩
  | .dct _, ⟨r, h, d⟩ => ⟨r, .inl h, d⟩
theorem OwnAt.there {K : PySem.W.Frag} {F : Addr → Prop} {H : Hp} {a : Addr} : ∀ {c : Ct}, OwnAt K F H a c → H a ≠ none
  | .lst _, ⟨vs, h, d⟩ => by rw [h]; exact fun z => nomatch z
  | .dct _, ⟨r, h, d⟩ => by rw [h]; exact fun z => nomatch z
theorem LkAt.there {K : PySem.W.Frag} {F : Addr → Prop} {H : Hp} {a : Addr} : ∀ {c : Ct}, LkAt K F H a c → H a ≠ none
  | .lst _, ⟨vs, h, d⟩ => by rcases h with h | ⟨o, h⟩ <;> rw [h] <;> exact fun z => nomatch z
  | .dct _, ⟨vs, h, d⟩ => by rcases h with h | ⟨o, h⟩ <;> rw [h] <;> exact fun z => nomatch z
theorem OwnAt.keep {K : PySem.W.Frag} {F F' : Addr → Prop} {H H' : Hp} {a : Addr} (k : Keep F H F' H') (ha : ∀ o, H a = some o → H' a = some o) : ∀ {c : Ct}, OwnAt K F H a c → OwnAt K F' H' a c
  | .lst _, ⟨vs, h, d⟩ => ⟨vs, ha _ h, d.keep k⟩
  | .dct _, ⟨r, h, d⟩ => ⟨r, ha _ h, d.keep k⟩
theorem LkAt.keep {K : PySem.W.Frag} {F F' : Addr → Prop} {H H' : Hp} {a : Addr} (k : Keep F H F' H') (ha : ∀ o, H a = some o → H' a = some o) : ∀ {c : Ct}, LkAt K F H a c → LkAt K F' H' a c
  | .lst _, ⟨vs, h, d⟩ => ⟨vs, h.elim (fun h => .inl (ha _ h)) fun ⟨o, h⟩ => .inr ⟨o, ha _ h⟩, d.keep k⟩
  | .dct _, ⟨r, h, d⟩ => ⟨r, h.elim (fun h => .inl (ha _ h)) fun ⟨o, h⟩ => .inr ⟨o, ha _ h⟩, d.keep k⟩
/-- an owned object frozen -/
theorem OwnAt.frz {K : PySem.W.Frag} {F : Addr → Prop} {H : Hp} {a : Addr} (f : F a) : ∀ {c : Ct}, OwnAt K F H a c → DV K F H (.ref a) c.frz
  | .lst _, ⟨_, h, d⟩ => .lst f h d
  | .dct _, ⟨_, h, d⟩ => .dct f h d

/-! ### the environment on the abstract heap -/
/-- the object of an owning slot -/
def Ow (σ : St) (e : En) (a : Addr) : Prop := ∃ (i : Nat) (c : Ct), e[i]? = some (Sl.own c) ∧ σ[i]? = some (some (V.ref a))
/-- the object of a locked slot -/
def Lo (σ : St) (e : En) (a : Addr) : Prop := ∃ (i : Nat) (c : Ct), e[i]? = some (Sl.lk c) ∧ σ[i]? = some (some (V.ref a))
structure Rel (K : PySem.W.Frag) (H0 : Hp) (B F : Addr → Prop) (σ : St) (H : Hp) (e : En) : Prop where
  len : σ.length = e.length
  dom : ∀ a, F a → H a ≠ none
  dat : ∀ (i : Nat) (x : PyData), (e[i]? = some (Sl.d x) ∨ e[i]? = some (Sl.e x)) → ∃ v, σ[i]? = some (some v) ∧ DV K F H v x
  own : ∀ (i : Nat) (c : Ct), e[i]? = some (Sl.own c) → ∃ a, σ[i]? = some (some (V.ref a)) ∧ OwnAt K F H a c ∧ ¬ F a ∧ (H0 a = none ∨ B a)
  lk : ∀ (i : Nat) (c : Ct), e[i]? = some (Sl.lk c) → ∃ a, σ[i]? = some (some (V.ref a)) ∧ LkAt K F H a c ∧ ¬ F a
  inj : ∀ (i j : Nat) (a : Addr) (c c' : Ct), (e[i]? = some (Sl.own c) ∨ e[i]? = some (Sl.lk c)) → (e[j]? = some (Sl.own c') ∨ e[j]? = some (Sl.lk c')) → σ[i]? = some (some (V.ref a)) → σ[j]? = some (some (V.ref a)) → i = j
  frame : ∀ a o, H0 a = some o → ¬ B a → H a = some o
  fnew : ∀ a, F a → H a ≠ none
section
variable {K : PySem.W.Frag} {H0 : Hp} {B F : Addr → Prop} {σ : St} {H : Hp} {e : En}
theorem Rel.owNo (R : Rel K H0 B F σ H e) {a : Addr} (h : Ow σ e a) : ¬ F a := by
  obtain ⟨i, c, hi, hs⟩ := h
  obtain ⟨b, h1, _, h3, _⟩ := R.own i c hi
  rw [hs] at h1; cases h1; exact h3
theorem Rel.loSome (R : Rel K H0 B F σ H e) {a : Addr} (h : Lo σ e a) : H a ≠ none := by
  obtain ⟨i, c, hi, hs⟩ := h
  obtain ⟨b, h1, h2, _⟩ := R.lk i c hi
  rw [hs] at h1; cases h1; exact h2.there
theorem Rel.owSome (R : Rel K H0 B F σ H e) {a : Addr} (h : Ow σ e a) : H a ≠ none := by
  obtain ⟨i, c, hi, hs⟩ := h
  obtain ⟨b, h1, h2, _⟩ := R.own i c hi
  rw [hs] at h1; cases h1; exact h2.there
end
/-- a slot that holds something -/
def Liv (e : En) (i : Nat) : Prop := ∃ s : Sl, e[i]? = some s ∧ s ≠ Sl.no
/-- how a slot may turn within an expression -/
inductive SlLe : Sl → Sl → Prop
  | no : SlLe .no .no
  | d (x : PyData) : SlLe (.d x) (.d x)
  | e (x : PyData) : SlLe (.e x) (.e x)
  | own (c c' : Ct) : SlLe (.own c) (.own c')
  | frz (c : Ct) (x : PyData) : SlLe (.own c) (.e x)
  | lk (c : Ct) : SlLe (.lk c) (.lk c)
theorem SlLe.refl : ∀ s : Sl, SlLe s s
  | .no => .no
  | .d x => .d x
  | .e x => .e x
  | .own c => .own c c
  | .lk c => .lk c
theorem SlLe.trans {a b c : Sl} (h : SlLe a b) (k : SlLe b c) : SlLe a c := by
  cases h <;> cases k <;> constructor
structure Sls (e e' : En) : Prop where
  len : e.length = e'.length
  sl : ∀ (i : Nat) (s' : Sl), e'[i]? = some s' → ∃ s : Sl, e[i]? = some s ∧ SlLe s s'
theorem Sls.refl (e : En) : Sls e e := ⟨rfl, fun _ s h => ⟨s, h, .refl s⟩⟩
theorem Sls.trans {e e1 e2 : En} (a : Sls e e1) (b : Sls e1 e2) : Sls e e2 := ⟨a.len.trans b.len, fun i s h => by
  obtain ⟨s1, h1, k1⟩ := b.sl i s h
  obtain ⟨s2, h2, k2⟩ := a.sl i s1 h1
  exact ⟨s2, h2, k2.trans k1⟩⟩
theorem Sls.get {e e' : En} (a : Sls e e') {i : Nat} {s : Sl} (h : e[i]? = some s) : ∃ s' : Sl, e'[i]? = some s' ∧ SlLe s s' := by
  have hi : i < e'.length := by rw [← a.len]; exact (List.getElem?_eq_some_iff.mp h).1
  obtain ⟨s2, h2, k2⟩ := a.sl i _ (List.getElem?_eq_getElem hi)
  rw [h] at h2; cases h2
  exact ⟨_, List.getElem?_eq_getElem hi, k2⟩
theorem Sls.set {e : En} {i : Nat} {s s' : Sl} (h : e[i]? = some s) (k : SlLe s s') : Sls e (e.set i s') := ⟨by simp, fun j u hu => by
  by_cases hj : j = i
  · subst hj
    have hl : j < e.length := (List.getElem?_eq_some_iff.mp h).1
    rw [List.getElem?_set_self hl] at hu; cases hu
    exact ⟨s, h, k⟩
  · rw [List.getElem?_set_ne (Ne.symm hj)] at hu
    exact ⟨u, hu, .refl u⟩⟩
theorem Sls.liv {e e' : En} (a : Sls e e') {i : Nat} (h : Liv e i) : Liv e' i := by
  obtain ⟨s, h1, h2⟩ := h
  obtain ⟨s', h3, h4⟩ := a.get h1
  refine ⟨s', h3, fun z => ?_⟩
  subst z; cases h4; exact h2 rfl
theorem Sls.ow {σ : St} {e e' : En} (a : Sls e e') {p : Addr} (h : Ow σ e' p) : Ow σ e p := by
  obtain ⟨i, c, hi, hs⟩ := h
  obtain ⟨s, h1, h2⟩ := a.sl i _ hi
  cases h2 with
  | own c c' => exact ⟨i, c, h1, hs⟩
theorem Sls.lo {σ : St} {e e' : En} (a : Sls e e') {p : Addr} (h : Lo σ e' p) : Lo σ e p := by
  obtain ⟨i, c, hi, hs⟩ := h
  obtain ⟨s, h1, h2⟩ := a.sl i _ hi
  cases h2 with
  | lk c => exact ⟨i, _, h1, hs⟩
/-- from one state to the next, within an expression -/
structure Step (F : Addr → Prop) (H : Hp) (σ : St) (e : En) (F' : Addr → Prop) (H' : Hp) (e' : En) : Prop where
  sls : Sls e e'
  fr : ∀ a, F a → F' a
  at_ : ∀ a o, H a = some o → ¬ Ow σ e a → H' a = some o
  new : ∀ a, F' a → F a ∨ H a = none ∨ Ow σ e a
  dom : ∀ a, H a ≠ none → H' a ≠ none
section
variable {K : PySem.W.Frag} {H0 : Hp} {B F F' F1 F2 : Addr → Prop} {σ : St} {H H' H1 H2 : Hp} {e e' e1 e2 : En}
theorem Step.liv (s : Step F H σ e F' H' e') (i : Nat) (h : Liv e i) : Liv e' i := s.sls.liv h
theorem Step.ow (s : Step F H σ e F' H' e') (a : Addr) (h : Ow σ e' a) : Ow σ e a := s.sls.ow h
theorem Step.refl : Step F H σ e F H e := ⟨.refl e, fun _ h => h, fun _ _ h _ => h, fun _ h => .inl h, fun _ h => h⟩
theorem Step.trans (a : Step F H σ e F1 H1 e1) (b : Step F1 H1 σ e1 F2 H2 e2) : Step F H σ e F2 H2 e2 where
  sls := a.sls.trans b.sls
  fr := fun c h => b.fr c (a.fr c h)
  at_ := fun c o h n => b.at_ c o (a.at_ c o h n) fun z => n (a.ow c z)
  new := fun c h => by
    rcases b.new c h with h | h | h
    · exact a.new c h
    · by_cases z : H c = none
      · exact .inr (.inl z)
      · exact absurd h (a.dom c z)
    · exact .inr (.inr (a.ow c h))
  dom := fun c h => b.dom c (a.dom c h)
theorem Step.keep (R : Rel K H0 B F σ H e) (s : Step F H σ e F' H' e') : Keep F H F' H' := ⟨s.fr, fun a o f h => s.at_ a o h fun z => R.owNo z f⟩
/-- an object that is neither frozen nor owned stays so -/
theorem Step.notF (s : Step F H σ e F' H' e') {a : Addr} (h1 : ¬ F a) (h2 : H a ≠ none) (h3 : ¬ Ow σ e a) : ¬ F' a := fun z => by
  rcases s.new a z with z | z | z
  · exact h1 z
  · exact h2 z
  · exact h3 z
end

/-! ### operands -/
/-- the value of an operand; Hs: the heap at the start (a new object is new since then) -/
def OpRel (K : PySem.W.Frag) (F : Addr → Prop) (H : Hp) (σ : St) (e : En) (Hs : Hp) (v : V) : Op → Prop
  | .v x => DV K F H v x
  | .o c => ∃ p, v = .ref p ∧ OwnAt K F H p c ∧ ¬ F p ∧ Hs p = none ∧ ¬ Ow σ e p ∧ ¬ Lo σ e p
  | .r i => σ[i]? = some (some v) ∧ Liv e i
def RvRel (K : PySem.W.Frag) (F : Addr → Prop) (H : Hp) (Hs : Hp) (v : V) : Rv → Prop
  | .v x => DV K F H v x
  | .o c => ∃ p, v = .ref p ∧ OwnAt K F H p c ∧ ¬ F p ∧ Hs p = none
/-- read as data -/
def RV (K : PySem.W.Frag) (F : Addr → Prop) (H : Hp) (v : V) (d : PyData) : Prop :=
  DV K F H v d ∨ ∃ a c, v = .ref a ∧ LkAt K F H a c ∧ d = c.frz
/-- read as data, no lock on it -/
def RX (K : PySem.W.Frag) (F : Addr → Prop) (H : Hp) (v : V) (d : PyData) : Prop :=
  DV K F H v d ∨ ∃ a c, v = .ref a ∧ OwnAt K F H a c ∧ d = c.frz
theorem RX.rv {K : PySem.W.Frag} {F : Addr → Prop} {H : Hp} {v : V} {d : PyData} (h : RX K F H v d) : RV K F H v d := by
  rcases h with h | ⟨a, c, h1, h2, h3⟩
  · exact .inl h
  · exact .inr ⟨a, c, h1, h2.lk, h3⟩
section
variable {K : PySem.W.Frag} {H0 : Hp} {B F F' : Addr → Prop} {σ : St} {H H' Hs : Hp} {e e' : En}
theorem OpRel.vw (R : Rel K H0 B F σ H e) {v : V} : ∀ {op : Op} {d : PyData}, OpRel K F H σ e Hs v op → vw e op = some d → RV K F H v d
  | .v x, d, h, q => by
    have q : some x = some d := q
    cases q; exact .inl h
  | .o c, d, h, q => by
    have q : some c.frz = some d := q
    cases q
    obtain ⟨p, h1, h2, _⟩ := h
    exact .inr ⟨p, c, h1, h2.lk, rfl⟩
  | .r i, d, h, q => by
    obtain ⟨h1, _⟩ := h
    simp only [MP.vw] at q
    cases hi : e[i]? with
    | none => rw [hi] at q; cases q
    | some sl =>
      rw [hi] at q
      cases sl with
      | no => cases q
      | d x =>
        cases q
        obtain ⟨w, h3, h4⟩ := R.dat i _ (.inl hi)
        rw [h1] at h3; cases h3; exact .inl h4
      | e x =>
        cases q
        obtain ⟨w, h3, h4⟩ := R.dat i _ (.inr hi)
        rw [h1] at h3; cases h3; exact .inl h4
      | own c =>
        cases q
        obtain ⟨a, h3, h4, _⟩ := R.own i _ hi
        rw [h1] at h3; cases h3; exact .inr ⟨a, c, rfl, h4.lk, rfl⟩
      | lk c =>
        cases q
        obtain ⟨a, h3, h4, _⟩ := R.lk i _ hi
        rw [h1] at h3; cases h3; exact .inr ⟨a, c, rfl, h4, rfl⟩
theorem OpRel.vx (R : Rel K H0 B F σ H e) {v : V} : ∀ {op : Op} {d : PyData}, OpRel K F H σ e Hs v op → vx e op = some d → RX K F H v d
  | .v x, d, h, q => by
    have q : some x = some d := q
    cases q; exact .inl h
  | .o c, d, h, q => by
    have q : some c.frz = some d := q
    cases q
    obtain ⟨p, h1, h2, _⟩ := h
    exact .inr ⟨p, c, h1, h2, rfl⟩
  | .r i, d, h, q => by
    obtain ⟨h1, _⟩ := h
    simp only [MP.vx] at q
    cases hi : e[i]? with
    | none => rw [hi] at q; cases q
    | some sl =>
      rw [hi] at q
      cases sl with
      | no => cases q
      | d x =>
        cases q
        obtain ⟨w, h3, h4⟩ := R.dat i _ (.inl hi)
        rw [h1] at h3; cases h3; exact .inl h4
      | e x =>
        cases q
        obtain ⟨w, h3, h4⟩ := R.dat i _ (.inr hi)
        rw [h1] at h3; cases h3; exact .inl h4
      | own c =>
        cases q
        obtain ⟨a, h3, h4, _⟩ := R.own i _ hi
        rw [h1] at h3; cases h3; exact .inr ⟨a, c, rfl, h4, rfl⟩
      | lk c => cases q
/-- an operand, a step later -/
theorem OpRel.step (R : Rel K H0 B F σ H e) (s : Step F H σ e F' H' e') {v : V} : ∀ {op : Op}, OpRel K F H σ e Hs v op → OpRel K F' H' σ e' Hs v op
  | .v x, h => DV.keep (s.keep R) h
  | .o c, ⟨p, h1, h2, h3, h4, h5, h6⟩ => ⟨p, h1, h2.keep (s.keep R) fun o ho => s.at_ p o ho h5, s.notF h3 h2.there h5, h4, fun z => h5 (s.ow p z), fun z => h6 (s.sls.lo z)⟩
  | .r i, ⟨h1, h2⟩ => ⟨h1, s.liv i h2⟩
/-- new since an earlier start -/
theorem OpRel.back {Hr : Hp} {v : V} (k : ∀ a, Hs a = none → Hr a = none) : ∀ {op : Op}, OpRel K F H σ e Hs v op → OpRel K F H σ e Hr v op
  | .v x, h => h
  | .o c, ⟨p, h1, h2, h3, h4, h5⟩ => ⟨p, h1, h2, h3, k p h4, h5⟩
  | .r i, h => h
end

/-! ### only new things -/
structure Grow (F : Addr → Prop) (H : Hp) (F' : Addr → Prop) (H' : Hp) : Prop where
  fr : ∀ a, F a → F' a
  at_ : ∀ a o, H a = some o → H' a = some o
  new : ∀ a, F' a → F a ∨ H a = none
  dom : ∀ a, F' a → H' a ≠ none
theorem Grow.refl {F : Addr → Prop} {H : Hp} (d : ∀ a, F a → H a ≠ none) : Grow F H F H := ⟨fun _ h => h, fun _ _ h => h, fun _ h => .inl h, d⟩
theorem Grow.keep {F F' : Addr → Prop} {H H' : Hp} (g : Grow F H F' H') : Keep F H F' H' := ⟨g.fr, fun a o _ h => g.at_ a o h⟩
/-- a new object, frozen at once -/
theorem Grow.one {F : Addr → Prop} {H : Hp} {p : Addr} (d : ∀ a, F a → H a ≠ none) (hp : H p = none) (o : HO) : Grow F H (fun a => F a ∨ a = p) (upd H p o) where
  fr := fun _ h => .inl h
  at_ := fun a u h => by rw [upd_ne (ne_of_none h hp)]; exact h
  new := fun a h => by
    rcases h with h | rfl
    · exact .inl h
    · exact .inr hp
  dom := fun a h => by
    by_cases e : a = p
    · subst e; rw [upd_same]; exact fun z => nomatch z
    · rw [upd_ne e]
      rcases h with h | h
      · exact d a h
      · exact absurd h e
/-- a new object, not frozen -/
theorem Grow.own {F : Addr → Prop} {H : Hp} {p : Addr} (d : ∀ a, F a → H a ≠ none) (hp : H p = none) (o : HO) : Grow F H F (upd H p o) where
  fr := fun _ h => h
  at_ := fun a u h => by rw [upd_ne (ne_of_none h hp)]; exact h
  new := fun a h => .inl h
  dom := fun a h => by
    by_cases e : a = p
    · subst e; rw [upd_same]; exact fun z => nomatch z
    · rw [upd_ne e]; exact d a h
theorem Grow.trans {F F1 F2 : Addr → Prop} {H H1 H2 : Hp} (a : Grow F H F1 H1) (b : Grow F1 H1 F2 H2) : Grow F H F2 H2 where
  fr := fun c h => b.fr c (a.fr c h)
  at_ := fun c o h => b.at_ c o (a.at_ c o h)
  new := fun c h => by
    rcases b.new c h with h | h
    · exact a.new c h
    · refine .inr ?_
      cases e : H c with
      | none => rfl
      | some o => rw [a.at_ c o e] at h; cases h
  dom := b.dom
section
variable {K : PySem.W.Frag} {H0 : Hp} {B F F' : Addr → Prop} {σ : St} {H H' : Hp} {e : En}
theorem Rel.grow (R : Rel K H0 B F σ H e) (g : Grow F H F' H') : Rel K H0 B F' σ H' e where
  len := R.len
  dom := g.dom
  dat := fun i x h => by
    obtain ⟨v, h1, h2⟩ := R.dat i x h
    exact ⟨v, h1, h2.keep g.keep⟩
  own := fun i c h => by
    obtain ⟨a, h1, h2, h3, h4⟩ := R.own i c h
    refine ⟨a, h1, h2.keep g.keep fun o q => g.at_ a o q, fun z => ?_, h4⟩
    rcases g.new a z with z | z
    · exact h3 z
    · exact h2.there z
  lk := fun i c h => by
    obtain ⟨a, h1, h2, h3⟩ := R.lk i c h
    refine ⟨a, h1, h2.keep g.keep fun o q => g.at_ a o q, fun z => ?_⟩
    rcases g.new a z with z | z
    · exact h3 z
    · exact h2.there z
  inj := R.inj
  frame := fun a o h n => g.at_ a o (R.frame a o h n)
  fnew := g.dom
theorem Grow.step (g : Grow F H F' H') : Step F H σ e F' H' e where
  sls := .refl e
  fr := g.fr
  at_ := fun a o h _ => g.at_ a o h
  new := fun a h => (g.new a h).elim .inl fun z => .inr (.inl z)
  dom := fun a h => by
    cases q : H a with
    | none => exact absurd q h
    | some o => rw [g.at_ a o q]; exact fun z => nomatch z
theorem RvRel.op (R : Rel K H0 B F σ H e) {v : V} : ∀ {r : Rv}, RvRel K F' H' H v r → OpRel K F' H' σ e H v r.op
  | .v x, h => h
  | .o c, ⟨p, h1, h2, h3, h4⟩ => ⟨p, h1, h2, h3, h4, fun z => R.owSome z h4, fun z => R.loSome z h4⟩
end
end MP

/-! A2: the meanings and HandS's judgements. -/
namespace MP
open PySem PySem.Spec L2
open PyProof.Rows hiding St

theorem PE.mono {X : Cx} {e : Expr} {t t' : TE} (h : PE X e t) (k : ∀ σ H Q, t' σ H Q → t σ H Q) : PE X e t' := ⟨fun pins s σ H Q I q => h.run pins s σ H Q I (k σ H Q q)⟩
theorem PT.mono {X : Cx} {e : Expr} {t t' : TT} (h : PT X e t) (k : ∀ σ H Q, t' σ H Q → t σ H Q) : PT X e t' := ⟨fun pins s σ H Q I q => h.run pins s σ H Q I (k σ H Q q)⟩
theorem PW.mono {X : Cx} {e : Expr} {t t' : TT} (h : PW X e t) (k : ∀ σ H Q, t' σ H Q → t σ H Q) : PW X e t' := ⟨fun wh pins s σ H Q I q => h.run wh pins s σ H Q I (k σ H Q q)⟩
theorem PA.mono {X : Cx} {es : List Expr} {t t' : TA} (h : PA X es t) (k : ∀ σ H Q, t' σ H Q → t σ H Q) : PA X es t' := ⟨fun pos pins s σ H Q I q => h.run pos pins s σ H Q I (k σ H Q q)⟩
theorem PS.mono {X : Cx} {st : Stmt} {t t' : TS} (h : PS X st t) (k : ∀ D σ H, t' D σ H → t D σ H) : PS X st t' := ⟨fun pins s σ H D I q => h.run pins s σ H D I (k D σ H q)⟩
theorem PSs.mono {X : Cx} {st : List Stmt} {t t' : TS} (h : PSs X st t) (k : ∀ D σ H, t' D σ H → t D σ H) : PSs X st t' := ⟨fun pins s σ H D I q => h.run pins s σ H D I (k D σ H q)⟩

/-! ### what the meanings ask -/
def tE (K : PySem.W.Frag) (f : CE) : TE := fun σ H Q => ∃ H0 B F e op e', Rel K H0 B F σ H e ∧ f e = some (op, e') ∧
  ∀ F' H' v, Rel K H0 B F' σ H' e' → Step F H σ e F' H' e' → OpRel K F' H' σ e' H v op → Q v H'
def tTs (K : PySem.W.Frag) (f : CT) : TT := fun σ H Q => ∃ H0 B F e k e', Rel K H0 B F σ H e ∧ f e = some (k, e') ∧
  ∀ F' H', Rel K H0 B F' σ H' e' → Step F H σ e F' H' e' → Q k H'
def OpRels (K : PySem.W.Frag) (F : Addr → Prop) (H : Hp) (σ : St) (e : En) (Hs : Hp) : List V → List Op → Prop
  | [], [] => True
  | v :: vs, x :: xs => OpRel K F H σ e Hs v x ∧ OpRels K F H σ e Hs vs xs
  | _, _ => False
/-- new ones stand apart -/
def news : List V → List Op → List Addr
  | .ref p :: vs, .o _ :: xs => p :: news vs xs
  | _ :: vs, _ :: xs => news vs xs
  | _, _ => []
def tAs (K : PySem.W.Frag) (f : CA) : TA := fun σ H Q => ∃ H0 B F e xs e', Rel K H0 B F σ H e ∧ f e = some (xs, e') ∧
  ∀ F' H' vs, Rel K H0 B F' σ H' e' → Step F H σ e F' H' e' → OpRels K F' H' σ e' H vs xs → (news vs xs).Nodup → Q vs H'
def tDs (K : PySem.W.Frag) (f : En → Option (List PyData × En)) : TA := fun σ H Q => ∃ H0 B F e ds e', Rel K H0 B F σ H e ∧ f e = some (ds, e') ∧
  ∀ F' H' vs, Rel K H0 B F' σ H' e' → Step F H σ e F' H' e' → DAll K F' H' vs ds → Q vs H'

abbrev Den (X : Cx) (e : Expr) (f : CE) : Prop := PE X e (tE X.K f)
abbrev DenT (X : Cx) (e : Expr) (f : CT) : Prop := PT X e (tTs X.K f)
abbrev DenW (X : Cx) (e : Expr) (f : CT) : Prop := PW X e (tTs X.K f)
abbrev DenA (X : Cx) (es : List Expr) (f : CA) : Prop := PA X es (tAs X.K f)
abbrev DenF (X : Cx) (es : List Expr) (f : En → Option (List PyData × En)) : Prop := PA X es (tDs X.K f)

theorem bind_some {α β : Type} {x : Option α} {f : α → Option β} {b : β} (h : x.bind f = some b) : ∃ a, x = some a ∧ f a = some b := by
  cases x with
  | none => cases h
  | some a => exact ⟨a, rfl, h⟩

section
variable {X : Cx} {a b : Expr} {fa fb : CE} {pos : Pos}
/-! ### names, constants -/
theorem dn_name {i : Nat} {e : Expr} (h : PE X e (tVar i)) : Den X e (cN i) := PE.mono h fun σ H Q q => by
  obtain ⟨H0, B, F, e, op, e', R, he, k⟩ := q
  unfold cN at he
  cases hi : e[i]? with
  | none => rw [hi] at he; cases he
  | some sl =>
    rw [hi] at he
    cases sl with
    | no => cases he
    | d x =>
      cases he
      obtain ⟨v, h1, h2⟩ := R.dat i x (.inl hi)
      exact ⟨v, h1, k F H v R .refl h2⟩
    | e x =>
      cases he
      obtain ⟨v, h1, h2⟩ := R.dat i x (.inr hi)
      exact ⟨v, h1, k F H v R .refl h2⟩
    | own c =>
      cases he
      obtain ⟨a, h1, _⟩ := R.own i c hi
      exact ⟨_, h1, k F H _ R .refl ⟨h1, _, hi, fun z => nomatch z⟩⟩
    | lk c =>
      cases he
      obtain ⟨a, h1, _⟩ := R.lk i c hi
      exact ⟨_, h1, k F H _ R .refl ⟨h1, _, hi, fun z => nomatch z⟩⟩
theorem dn_const {e : Expr} {v : V} {x : PyData} (h : PE X e (tC v)) (hd : ∀ F H, DV X.K F H v x) : Den X e (cK x) := PE.mono h fun σ H Q q => by
  obtain ⟨H0, B, F, e, op, e', R, he, k⟩ := q
  cases he
  exact k F H v R .refl (hd F H)
theorem dn_int {i : Int} {j : Nat} : Den X (.Constant (.int i) j pos) (cK (.int i)) := dn_const pe_int fun _ _ => .int i
theorem dn_bool {i : Bool} {j : Nat} : Den X (.Constant (.bool i) j pos) (cK (.bool i)) := dn_const pe_bl fun _ _ => .bl i
theorem dn_none {j : Nat} : Den X (.Constant .none j pos) (cK .none) := dn_const pe_non fun _ _ => .non
theorem dn_str {i : Str} {j : Nat} : Den X (.Constant (.str i) j pos) (cK (.str i)) := dn_const pe_str fun _ _ => .str i

/-! ### operations by values -/
abbrev DomF (F : Addr → Prop) (H : Hp) : Prop := ∀ a, F a → H a ≠ none
def G1 (K : PySem.W.Frag) (rr : V → Hp → VK → Prop) (g : PyData → Option Rv) : Prop := ∀ F H x d r Q, DomF F H → RV K F H x d → g d = some r → (∀ F' H' v, Grow F H F' H' → RvRel K F' H' H v r → Q v H') → rr x H Q
def G2 (K : PySem.W.Frag) (rr : R2) (g : PyData → PyData → Option Rv) : Prop := ∀ F H x y d d' r Q, DomF F H → RV K F H x d → RV K F H y d' → g d d' = some r → (∀ F' H' v, Grow F H F' H' → RvRel K F' H' H v r → Q v H') → rr x y H Q
def G2x (K : PySem.W.Frag) (rr : R2) (g : PyData → PyData → Option Rv) : Prop := ∀ F H x y d d' r Q, DomF F H → RX K F H x d → RX K F H y d' → g d d' = some r → (∀ F' H' v, Grow F H F' H' → RvRel K F' H' H v r → Q v H') → rr x y H Q
theorem dom_none {F F' : Addr → Prop} {H H' : Hp} {σ : St} {e e' : En} (s : Step F H σ e F' H' e') {a : Addr} (h : H' a = none) : H a = none := by
  cases q : H a with
  | none => rfl
  | some o => exact absurd h (s.dom a (by rw [q]; exact fun z => nomatch z))
theorem c1_run {K : PySem.W.Frag} {rr : V → Hp → VK → Prop} {g : PyData → Option Rv} (hg : G1 K rr g) : ∀ σ H Q, tE K (c1 g fa) σ H Q → tUn rr (tE K fa) σ H Q := fun σ H Q q => by
  obtain ⟨H0, B, F, e, op, e', R, he, k⟩ := q
  obtain ⟨⟨x, e1⟩, h1, he⟩ := bind_some he
  obtain ⟨d, h2, he⟩ := bind_some he
  obtain ⟨r, h3, he⟩ := bind_some he
  cases he
  refine ⟨H0, B, F, e, x, _, R, h1, fun F1 H1 v R1 S1 O1 => ?_⟩
  exact hg F1 H1 v d r _ R1.dom (O1.vw R1 h2) h3 fun F2 H2 w G V2 => k F2 H2 w (R1.grow G) (S1.trans G.step) ((V2.op R1).back fun a => dom_none S1)
theorem dn_un {op : UnaryOp} {rr : V → Hp → VK → Prop} {g : PyData → Option Rv} (ho : UnR X (unaryOp op) rr) (hg : G1 X.K rr g) (ha : Den X a fa) : Den X (.UnaryOp op a pos) (c1 g fa) :=
  PE.mono (pe_un ho ha) (c1_run hg)
theorem c2_run {K : PySem.W.Frag} {rr : R2} {g : PyData → PyData → Option Rv} (hg : G2 K rr g) : ∀ σ H Q, tE K (c2 g fa fb) σ H Q → tOp rr (tE K fa) (tE K fb) σ H Q := fun σ H Q q => by
  obtain ⟨H0, B, F, e, op, e', R, he, k⟩ := q
  obtain ⟨⟨x, e1⟩, h1, he⟩ := bind_some he
  obtain ⟨⟨y, e2⟩, h2, he⟩ := bind_some he
  obtain ⟨d, h3, he⟩ := bind_some he
  obtain ⟨d', h4, he⟩ := bind_some he
  obtain ⟨r, h5, he⟩ := bind_some he
  cases he
  refine ⟨H0, B, F, e, x, e1, R, h1, fun F1 H1 v R1 S1 O1 => ?_⟩
  refine ⟨H0, B, F1, e1, y, _, R1, h2, fun F2 H2 w R2 S2 O2 => ?_⟩
  exact hg F2 H2 v w d d' r _ R2.dom ((O1.step R1 S2).vw R2 h3) (O2.vw R2 h4) h5 fun F3 H3 z G V3 => k F3 H3 z (R2.grow G) ((S1.trans S2).trans G.step) ((V3.op R2).back fun a => dom_none (S1.trans S2))
theorem c2x_run {K : PySem.W.Frag} {rr : R2} {g : PyData → PyData → Option Rv} (hg : G2x K rr g) : ∀ σ H Q, tE K (c2x g fa fb) σ H Q → tOp rr (tE K fa) (tE K fb) σ H Q := fun σ H Q q => by
  obtain ⟨H0, B, F, e, op, e', R, he, k⟩ := q
  obtain ⟨⟨x, e1⟩, h1, he⟩ := bind_some he
  obtain ⟨⟨y, e2⟩, h2, he⟩ := bind_some he
  obtain ⟨d, h3, he⟩ := bind_some he
  obtain ⟨d', h4, he⟩ := bind_some he
  obtain ⟨r, h5, he⟩ := bind_some he
  cases he
  refine ⟨H0, B, F, e, x, e1, R, h1, fun F1 H1 v R1 S1 O1 => ?_⟩
  refine ⟨H0, B, F1, e1, y, _, R1, h2, fun F2 H2 w R2 S2 O2 => ?_⟩
  exact hg F2 H2 v w d d' r _ R2.dom ((O1.step R1 S2).vx R2 h3) (O2.vx R2 h4) h5 fun F3 H3 z G V3 => k F3 H3 z (R2.grow G) ((S1.trans S2).trans G.step) ((V3.op R2).back fun a => dom_none (S1.trans S2))
theorem dn_bin {op : Operator} {rr : R2} {g : PyData → PyData → Option Rv} (ho : OpR X (binaryOp op) rr) (hg : G2x X.K rr g) (ha : Den X a fa) (hb : Den X b fb) : Den X (.BinOp a op b pos) (c2x g fa fb) :=
  PE.mono (pe_op ho ha hb) (c2x_run hg)
theorem dn_ix {rr : R2} {g : PyData → PyData → Option Rv} (ho : IxR X rr) (hg : G2 X.K rr g) (ha : Den X a fa) (hb : Den X b fb) (hs : PlainIx b := by intro _ _; rfl) : Den X (.Subscript a b pos) (c2 g fa fb) :=
  PE.mono (pe_ix ho ha hb hs) (c2_run hg)
theorem dn_cmp {op : CmpOp} {rr : R2} {g : PyData → PyData → Option Rv} (ho : OpR X (compareOp op) rr) (hg : G2 X.K rr g) (ha : Den X a fa) (hb : Den X b fb) (hm : behindInMarks op b = false := by rfl) : Den X (.Compare a [op] [b] pos) (c2 g fa fb) :=
  PE.mono (pe_cmpR ho ha hb hm) (c2_run hg)
end
end MP

/-! A3: argument lists, displays, tests, calls. -/
namespace MP
open PySem PySem.Spec L2
open PyProof.Rows hiding St

section
variable {K : PySem.W.Frag} {H0 : Hp} {B F F' : Addr → Prop} {σ : St} {H H' Hs : Hp} {e e' : En}
theorem OpRels.step (R : Rel K H0 B F σ H e) (s : Step F H σ e F' H' e') : ∀ {vs : List V} {xs : List Op}, OpRels K F H σ e Hs vs xs → OpRels K F' H' σ e' Hs vs xs
  | [], [], _ => trivial
  | _ :: _, _ :: _, ⟨a, b⟩ => ⟨a.step R s, OpRels.step R s b⟩
theorem OpRels.back {Hr : Hp} (k : ∀ a, Hs a = none → Hr a = none) : ∀ {vs : List V} {xs : List Op}, OpRels K F H σ e Hs vs xs → OpRels K F H σ e Hr vs xs
  | [], [], _ => trivial
  | _ :: _, _ :: _, ⟨a, b⟩ => ⟨a.back k, b.back k⟩
theorem OpRels.length : ∀ {vs : List V} {xs : List Op}, OpRels K F H σ e Hs vs xs → vs.length = xs.length
  | [], [], _ => rfl
  | _ :: _, _ :: _, ⟨_, b⟩ => by simp [OpRels.length b]
theorem OpRels.news : ∀ {vs : List V} {xs : List Op}, OpRels K F H σ e Hs vs xs → ∀ p ∈ MP.news vs xs, Hs p = none
  | [], [], _, p, hp => by simp [MP.news] at hp
  | v :: vs, .v x :: xs, ⟨a, b⟩, p, hp => by
    have : p ∈ MP.news vs xs := by cases v <;> simpa [MP.news] using hp
    exact OpRels.news b p this
  | v :: vs, .r x :: xs, ⟨a, b⟩, p, hp => by
    have : p ∈ MP.news vs xs := by cases v <;> simpa [MP.news] using hp
    exact OpRels.news b p this
  | v :: vs, .o c :: xs, ⟨⟨q, h1, _, _, h4, _, _⟩, b⟩, p, hp => by
    subst h1
    have : p = q ∨ p ∈ MP.news vs xs := by simpa [MP.news] using hp
    rcases this with rfl | this
    · exact h4
    · exact OpRels.news b p this
def RVs (K : PySem.W.Frag) (F : Addr → Prop) (H : Hp) : List V → List PyData → Prop
  | [], [] => True
  | v :: vs, d :: ds => RV K F H v d ∧ RVs K F H vs ds
  | _, _ => False
theorem OpRels.vws (R : Rel K H0 B F σ H e) : ∀ {vs : List V} {xs : List Op} {ds : List PyData}, OpRels K F H σ e Hs vs xs → MP.vws e xs = some ds → RVs K F H vs ds
  | [], [], ds, _, h => by cases h; exact trivial
  | _ :: _, x :: xs, ds, ⟨a, b⟩, h => by
    obtain ⟨d, h1, h⟩ := bind_some h
    obtain ⟨ds', h2, h⟩ := bind_some h
    cases h
    exact ⟨a.vw R h1, OpRels.vws R b h2⟩
/-- an operand made data for good -/
theorem OpRel.fz (R : Rel K H0 B F σ H e) (hs : ∀ a, Hs a = none → H0 a = none ∨ True) {v : V} : ∀ {op : Op} {d : PyData} {e' : En}, OpRel K F H σ e Hs v op → MP.fz e op = some (d, e') →
    ∃ F', Rel K H0 B F' σ H e' ∧ (∀ a, F a → F' a) ∧ (∀ a, F' a → F a ∨ Hs a = none ∨ Ow σ e a) ∧ Sls e e' ∧ DV K F' H v d
  | .v x, d, e', h, q => by
    have q : some (x, e) = some (d, e') := q
    cases q
    exact ⟨F, R, fun _ h => h, fun _ h => .inl h, .refl e, h⟩
  | .o c, d, e', h, q => by
    have q : some (c.frz, e) = some (d, e') := q
    cases q
    obtain ⟨p, rfl, h2, h3, h4, h5, h6⟩ := h
    have k : Keep F H (fun a => F a ∨ a = p) H := ⟨fun _ h => .inl h, fun _ _ _ h => h⟩
    refine ⟨fun a => F a ∨ a = p, ⟨R.len, ?_, fun i x h => ?_, fun i c' h => ?_, fun i c' h => ?_, R.inj, R.frame, ?_⟩, fun _ h => .inl h, fun a h => ?_, .refl e, ?_⟩
    · rintro a (h | rfl)
      · exact R.dom a h
      · exact h2.there
    · obtain ⟨w, q1, q2⟩ := R.dat i x h
      exact ⟨w, q1, q2.keep k⟩
    · obtain ⟨a, q1, q2, q3, q4⟩ := R.own i c' h
      refine ⟨a, q1, q2.keep k fun _ z => z, ?_, q4⟩
      rintro (z | rfl)
      · exact q3 z
      · exact h5 ⟨i, c', h, q1⟩
    · obtain ⟨a, q1, q2, q3⟩ := R.lk i c' h
      refine ⟨a, q1, q2.keep k fun _ z => z, ?_⟩
      rintro (z | rfl)
      · exact q3 z
      · exact h6 ⟨i, c', h, q1⟩
    · rintro a (h | rfl)
      · exact R.dom a h
      · exact h2.there
    · rcases h with h | rfl
      · exact .inl h
      · exact .inr (.inl h4)
    · exact OwnAt.frz (.inr rfl) (h2.keep k fun _ z => z)
  | .r i, d, e', h, q => by
    obtain ⟨h1, _⟩ := h
    simp only [MP.fz] at q
    cases hi : e[i]? with
    | none => rw [hi] at q; cases q
    | some sl =>
      rw [hi] at q
      cases sl with
      | no => cases q
      | d x =>
        cases q
        obtain ⟨w, h3, h4⟩ := R.dat i _ (.inl hi)
        rw [h1] at h3; cases h3
        exact ⟨F, R, fun _ h => h, fun _ h => .inl h, .refl e, h4⟩
      | e x =>
        cases q
        obtain ⟨w, h3, h4⟩ := R.dat i _ (.inr hi)
        rw [h1] at h3; cases h3
        exact ⟨F, R, fun _ h => h, fun _ h => .inl h, .refl e, h4⟩
      | lk c => cases q
      | own c =>
        cases q
        obtain ⟨p, h3, h2, hnf, hB⟩ := R.own i _ hi
        rw [h1] at h3; cases h3
        have k : Keep F H (fun a => F a ∨ a = p) H := ⟨fun _ h => .inl h, fun _ _ _ h => h⟩
        have il : i < e.length := (List.getElem?_eq_some_iff.mp hi).1
        have oth : ∀ (j : Nat) (s : Sl), (e.set i (Sl.e c.frz))[j]? = some s → (j = i ∧ s = Sl.e c.frz) ∨ (j ≠ i ∧ e[j]? = some s) := fun j s hj => by
          by_cases q : j = i
          · subst q
            rw [List.getElem?_set_self il] at hj; cases hj
            exact .inl ⟨rfl, rfl⟩
          · rw [List.getElem?_set_ne (Ne.symm q)] at hj
            exact .inr ⟨q, hj⟩
        have dv : DV K (fun a => F a ∨ a = p) H (.ref p) c.frz := OwnAt.frz (.inr rfl) (h2.keep k fun _ z => z)
        refine ⟨fun a => F a ∨ a = p, ⟨by rw [List.length_set]; exact R.len, ?_, fun j x h => ?_, fun j c' h => ?_, fun j c' h => ?_, fun j l a c1 c2 hj hl s1 s2 => ?_, R.frame, ?_⟩, fun _ h => .inl h, fun a h => ?_, Sls.set hi (.frz c _), dv⟩
        · rintro a (h | rfl)
          · exact R.dom a h
          · exact h2.there
        · rcases h with h | h
          · rcases oth j _ h with ⟨_, z⟩ | ⟨_, z⟩
            · cases z
            · obtain ⟨w, q1, q2⟩ := R.dat j x (.inl z)
              exact ⟨w, q1, q2.keep k⟩
          · rcases oth j _ h with ⟨rfl, z⟩ | ⟨_, z⟩
            · cases z; exact ⟨_, h1, dv⟩
            · obtain ⟨w, q1, q2⟩ := R.dat j x (.inr z)
              exact ⟨w, q1, q2.keep k⟩
        · rcases oth j _ h with ⟨_, z⟩ | ⟨ne, z⟩
          · cases z
          · obtain ⟨a, q1, q2, q3, q4⟩ := R.own j c' z
            refine ⟨a, q1, q2.keep k fun _ z => z, ?_, q4⟩
            rintro (y | rfl)
            · exact q3 y
            · exact ne (R.inj j i _ c' c (.inl z) (.inl hi) q1 h1)
        · rcases oth j _ h with ⟨_, z⟩ | ⟨ne, z⟩
          · cases z
          · obtain ⟨a, q1, q2, q3⟩ := R.lk j c' z
            refine ⟨a, q1, q2.keep k fun _ z => z, ?_⟩
            rintro (y | rfl)
            · exact q3 y
            · exact ne (R.inj j i _ c' c (.inr z) (.inl hi) q1 h1)
        · have g : ∀ (m : Nat) (cc : Ct), ((e.set i (Sl.e c.frz))[m]? = some (Sl.own cc) ∨ (e.set i (Sl.e c.frz))[m]? = some (Sl.lk cc)) → (e[m]? = some (Sl.own cc) ∨ e[m]? = some (Sl.lk cc)) := fun m cc hm => by
            rcases hm with hm | hm
            · rcases oth m _ hm with ⟨_, z⟩ | ⟨_, z⟩
              · cases z
              · exact .inl z
            · rcases oth m _ hm with ⟨_, z⟩ | ⟨_, z⟩
              · cases z
              · exact .inr z
          exact R.inj j l a c1 c2 (g j c1 hj) (g l c2 hl) s1 s2
        · rintro a (h | rfl)
          · exact R.dom a h
          · exact h2.there
        · rcases h with h | rfl
          · exact .inl h
          · exact .inr (.inr ⟨i, c, hi, h1⟩)
end

section
variable {X : Cx} {a b : Expr} {es : List Expr} {fa fb : CE} {fr : CA} {ff : En → Option (List PyData × En)} {pos : Pos}
/-! ### lists of arguments -/
theorem da_nil : DenA X [] aNil := PA.mono pa_nil fun σ H Q q => by
  obtain ⟨H0, B, F, e, xs, e', R, he, k⟩ := q
  cases he
  exact k F H [] R .refl trivial List.nodup_nil
theorem da_cons (ha : Den X a fa) (hr : DenA X es fr) (hs : starEach (a :: es) X.env = (false, eval a X.env) :: starEach es X.env := by rfl) : DenA X (a :: es) (aCons fa fr) := PA.mono (pa_cons ha hr hs) fun σ H Q q => by
  obtain ⟨H0, B, F, e, xs, e', R, he, k⟩ := q
  obtain ⟨⟨x, e1⟩, h1, he⟩ := bind_some he
  obtain ⟨⟨ys, e2⟩, h2, he⟩ := bind_some he
  cases he
  refine ⟨H0, B, F, e, x, e1, R, h1, fun F1 H1 v R1 S1 O1 => ?_⟩
  refine ⟨H0, B, F1, e1, ys, _, R1, h2, fun F2 H2 vs R2 S2 O2 N2 => ?_⟩
  refine k F2 H2 (v :: vs) R2 (S1.trans S2) ⟨O1.step R1 S2, O2.back fun a => dom_none S1⟩ ?_
  cases x with
  | v x => cases v <;> simpa [news] using N2
  | r x => cases v <;> simpa [news] using N2
  | o c =>
    obtain ⟨p, rfl, h2', _⟩ := O1
    simp only [news, List.nodup_cons]
    exact ⟨fun hp => h2'.there (O2.news p hp), N2⟩
theorem df_nil : DenF X [] fNil := PA.mono pa_nil fun σ H Q q => by
  obtain ⟨H0, B, F, e, xs, e', R, he, k⟩ := q
  cases he
  exact k F H [] R .refl .nil
theorem fz_step {K : PySem.W.Frag} {H0 : Hp} {B F F1 F2 : Addr → Prop} {σ : St} {H H1 : Hp} {e e1 e2 : En} (S1 : Step F H σ e F1 H1 e1) (fr : ∀ a, F1 a → F2 a) (new : ∀ a, F2 a → F1 a ∨ H a = none ∨ Ow σ e1 a) (sls : Sls e1 e2) : Step F H σ e F2 H1 e2 where
  sls := S1.sls.trans sls
  fr := fun a h => fr a (S1.fr a h)
  at_ := S1.at_
  new := fun a h => by
    rcases new a h with h | h | h
    · exact S1.new a h
    · exact .inr (.inl h)
    · exact .inr (.inr (S1.ow a h))
  dom := S1.dom
theorem df_cons (ha : Den X a fa) (hr : DenF X es ff) (hs : starEach (a :: es) X.env = (false, eval a X.env) :: starEach es X.env := by rfl) : DenF X (a :: es) (fCons fa ff) := PA.mono (pa_cons ha hr hs) fun σ H Q q => by
  obtain ⟨H0, B, F, e, xs, e', R, he, k⟩ := q
  obtain ⟨⟨x, e1⟩, h1, he⟩ := bind_some he
  obtain ⟨⟨d, e2⟩, h2, he⟩ := bind_some he
  obtain ⟨⟨ds, e3⟩, h3, he⟩ := bind_some he
  cases he
  refine ⟨H0, B, F, e, x, e1, R, h1, fun F1 H1 v R1 S1 O1 => ?_⟩
  obtain ⟨F2, R2, fr2, new2, sls2, dv⟩ := O1.fz R1 (fun _ _ => .inr trivial) h2
  have S2 : Step F H σ e F2 H1 e2 := fz_step (K := X.K) (H0 := H0) (B := B) S1 fr2 new2 sls2
  refine ⟨H0, B, F2, e2, ds, _, R2, h3, fun F3 H3 vs R3 S3 O3 => ?_⟩
  exact k F3 H3 (v :: vs) R3 (S2.trans S3) (.cons (dv.keep (S3.keep R2)) O3)
theorem szOk_le {n : Nat} (h : szOk n = true) : n ≤ sizeLine := by
  rw [sizeLine_eq]; unfold szOk at h; exact of_decide_eq_true h
theorem dn_tup {x1 : Nat} (h : DenF X es ff) : Den X (.Tuple es x1 pos) (cTup ff) := PE.mono (pe_tup h) fun σ H Q q => by
  obtain ⟨H0, B, F, e, op, e', R, he, k⟩ := q
  obtain ⟨⟨ds, e1⟩, h1, he⟩ := bind_some he
  simp only at he
  split at he
  · rename_i hz
    cases he
    refine ⟨H0, B, F, e, ds, _, R, h1, fun F1 H1 vs R1 S1 O1 => ⟨by rw [O1.length]; exact szOk_le hz, fun p hp => ?_⟩⟩
    have G := Grow.one R1.dom hp (.tup vs)
    exact k _ _ _ (R1.grow G) (S1.trans G.step) (.tup (.inr rfl) upd_same (O1.keep G.keep))
  · cases he
theorem dn_lst (h : DenF X es ff) : Den X (.List es pos) (cLst ff) := PE.mono (pe_lst h) fun σ H Q q => by
  obtain ⟨H0, B, F, e, op, e', R, he, k⟩ := q
  obtain ⟨⟨ds, e1⟩, h1, he⟩ := bind_some he
  simp only at he
  split at he
  · rename_i hz
    cases he
    refine ⟨H0, B, F, e, ds, _, R, h1, fun F1 H1 vs R1 S1 O1 => ⟨by rw [O1.length]; exact szOk_le hz, fun p hp => ?_⟩⟩
    have G := Grow.own R1.dom hp (.lst vs)
    have R2 := R1.grow G
    exact k _ _ _ R2 (S1.trans G.step) ⟨p, rfl, ⟨vs, upd_same, O1.keep G.keep⟩, fun z => R1.dom p z hp, dom_none S1 hp, fun z => R1.owSome z hp, fun z => R1.loSome z hp⟩
  · cases he
/-! ### built-ins by values -/
def GB (K : PySem.W.Frag) (rr : List V → Hp → VK → Prop) (g : List PyData → Option Rv) : Prop := ∀ F H xs ds r Q, DomF F H → RVs K F H xs ds → g ds = some r → (∀ F' H' v, Grow F H F' H' → RvRel K F' H' H v r → Q v H') → rr xs H Q
theorem cB_run {K : PySem.W.Frag} {rr : List V → Hp → VK → Prop} {g : List PyData → Option Rv} (hg : GB K rr g) : ∀ σ H Q, tE K (cB g fr) σ H Q → tCB rr (tAs K fr) σ H Q := fun σ H Q q => by
  obtain ⟨H0, B, F, e, op, e', R, he, k⟩ := q
  obtain ⟨⟨xs, e1⟩, h1, he⟩ := bind_some he
  obtain ⟨ds, h2, he⟩ := bind_some he
  obtain ⟨r, h3, he⟩ := bind_some he
  cases he
  refine ⟨H0, B, F, e, xs, _, R, h1, fun F1 H1 vs R1 S1 O1 N1 => ?_⟩
  exact hg F1 H1 vs ds r _ R1.dom (O1.vws R1 h2) h3 fun F2 H2 w G V2 => k F2 H2 w (R1.grow G) (S1.trans G.step) ((V2.op R1).back fun a => dom_none S1)
theorem dn_callB {x : Str} {p : Pos} {id : String} {rr : List V → Hp → VK → Prop} {g : List PyData → Option Rv} (hc : CallR X (.builtin id) rr) (hg : GB X.K rr g) (hgl : Gl X x) (hm : X.mg x = none) (hv : bootBuiltins x = some (.builtin id)) (ha : DenA X (a :: es) fr)
    (hn : x ≠ "__name__" := by decide) (hdb : (x == ("__debug__" : Str)) = false := by decide) (he : starEach (a :: es) X.env = (false, eval a X.env) :: starEach es X.env := by rfl) (hpl : (backTo pos (starEach es X.env)).any (·.1) = false := by rfl) :
    Den X (.Call (.Name x p) (a :: es) [] pos) (cB g fr) := PE.mono (pe_callB hc hgl hm hv ha hn hdb he hpl) (cB_run hg)
theorem dn_callTy {x : Str} {p : Pos} {id : String} {rr : List V → Hp → VK → Prop} {g : List PyData → Option Rv} (hc : CallR X (.type id) rr) (hg : GB X.K rr g) (hgl : Gl X x) (hm : X.mg x = none) (hv : bootBuiltins x = some (.type id)) (ha : DenA X (a :: es) fr)
    (hn : x ≠ "__name__" := by decide) (hdb : (x == ("__debug__" : Str)) = false := by decide) (he : starEach (a :: es) X.env = (false, eval a X.env) :: starEach es X.env := by rfl) (hpl : (backTo pos (starEach es X.env)).any (·.1) = false := by rfl) :
    Den X (.Call (.Name x p) (a :: es) [] pos) (cB g fr) := PE.mono (pe_callTy hc hgl hm hv ha hn hdb he hpl) (cB_run hg)
/-! ### tests -/
variable {ta tb : CT} {rest : List Expr}
theorem dt_val (h : Den X a fa) (he : ∀ whole, isTrue a X.env whole = (do let v ← whole; standAt a.pos; holding [v] (truthy v)) := by intro _; rfl) : DenT X a (tV fa) := PT.mono (pt_val h he) fun σ H Q q => by
  obtain ⟨H0, B, F, e, k, e', R, hev, c⟩ := q
  obtain ⟨⟨x, e1⟩, h1, hev⟩ := bind_some hev
  refine ⟨H0, B, F, e, x, e1, R, h1, fun F1 H1 v R1 S1 O1 => ?_⟩
  simp only at hev
  cases hd : vw e1 x with
  | none => rw [hd] at hev; cases hev
  | some d =>
    rw [hd] at hev
    cases d with
    | bool b =>
      cases hev
      have := O1.vw R1 hd
      rcases this with this | ⟨p, cc, _, _, hcc⟩
      · cases this; exact ⟨k, rfl, c F1 H1 R1 S1⟩
      · cases cc <;> cases hcc
    | _ => cases hev
/-- a comparison as a test -/
theorem tB_run {K : PySem.W.Frag} : ∀ σ H Q, tTs K (tV fa) σ H Q → tB (tE K fa) σ H Q := fun σ H Q q => by
  obtain ⟨H0, B, F, e, k, e', R, hev, c⟩ := q
  obtain ⟨⟨x, e1⟩, h1, hev⟩ := bind_some hev
  refine ⟨H0, B, F, e, x, e1, R, h1, fun F1 H1 v R1 S1 O1 => ?_⟩
  simp only at hev
  cases hd : vw e1 x with
  | none => rw [hd] at hev; cases hev
  | some d =>
    rw [hd] at hev
    cases d with
    | bool b =>
      cases hev
      have := O1.vw R1 hd
      rcases this with this | ⟨p, cc, _, _, hcc⟩
      · cases this; exact ⟨k, rfl, c F1 H1 R1 S1⟩
      · cases cc <;> cases hcc
    | _ => cases hev
theorem tTest_of {t : TE} : ∀ σ H Q, tB t σ H Q → tTest t σ H Q := fun σ H Q q => q
theorem dt_cmp {op : CmpOp} {rr : R2} {g : PyData → PyData → Option Rv} (ho : OpR X (compareOp op) rr) (hg : G2 X.K rr g) (ha : Den X a fa) (hb : Den X b fb) (hm : behindInMarks op b = false := by rfl) : DenT X (.Compare a [op] [b] pos) (tV (c2 g fa fb)) :=
  PT.mono (pt_cmpR ho ha hb hm) fun σ H Q q => by
    obtain ⟨H0, B, F, e, k, e', R, hev, c⟩ := tB_run σ H Q q
    exact c2_run hg σ H _ ⟨H0, B, F, e, k, e', R, hev, c⟩
theorem tt_bind {t u : CT} {K : PySem.W.Frag} {σ : St} {H : Hp} {Q : Bool → Hp → Prop} (f : Bool → CT) (q : tTs K (fun e => (t e).bind fun (k, e1) => f k e1) σ H Q) : tTs K t σ H fun k H1 => tTs K (f k) σ H1 Q := by
  obtain ⟨H0, B, F, e, k, e', R, he, c⟩ := q
  obtain ⟨⟨k1, e1⟩, h1, he⟩ := bind_some he
  refine ⟨H0, B, F, e, k1, e1, R, h1, fun F1 H1 R1 S1 => ?_⟩
  exact ⟨H0, B, F1, e1, k, e', R1, he, fun F2 H2 R2 S2 => c F2 H2 R2 (S1.trans S2)⟩
theorem tt_pure {K : PySem.W.Frag} {σ : St} {H : Hp} {Q : Bool → Hp → Prop} {k : Bool} (q : tTs K (fun e => some (k, e)) σ H Q) : Q k H := by
  obtain ⟨H0, B, F, e, k', e', R, he, c⟩ := q
  cases he
  exact c F H R .refl
theorem dw_and1 (ha : DenT X a ta) : DenW X (.BoolOp .And [a] pos) ta := pw_and1 ha
theorem dw_or1 (ha : DenT X a ta) : DenW X (.BoolOp .Or [a] pos) ta := pw_or1 ha
theorem dw_and (ha : DenT X a ta) (hb : DenW X (.BoolOp .And (b :: rest) pos) tb) : DenW X (.BoolOp .And (a :: b :: rest) pos) (tAnd ta tb) := PW.mono (pw_and ha hb) fun σ H Q q => by
  have q := tt_bind (u := ta) (fun k e1 => if k then tb e1 else some (false, e1)) q
  obtain ⟨H0, B, F, e, k, e', R, he, c⟩ := q
  refine ⟨H0, B, F, e, k, e', R, he, fun F1 H1 R1 S1 => ?_⟩
  have c := c F1 H1 R1 S1
  cases k with
  | true => exact iteT (by simpa using c)
  | false => exact iteF (tt_pure (K := X.K) (σ := σ) (by simpa using c))
theorem dw_or (ha : DenT X a ta) (hb : DenW X (.BoolOp .Or (b :: rest) pos) tb) : DenW X (.BoolOp .Or (a :: b :: rest) pos) (tOr ta tb) := PW.mono (pw_or ha hb) fun σ H Q q => by
  have q := tt_bind (u := ta) (fun k e1 => if k then some (true, e1) else tb e1) q
  obtain ⟨H0, B, F, e, k, e', R, he, c⟩ := q
  refine ⟨H0, B, F, e, k, e', R, he, fun F1 H1 R1 S1 => ?_⟩
  have c := c F1 H1 R1 S1
  cases k with
  | true => exact iteT (tt_pure (K := X.K) (σ := σ) (by simpa using c))
  | false => exact iteF (by simpa using c)
theorem dt_w (h : DenW X a ta) : DenT X a ta := h.pt
theorem dt_not (ha : DenT X a ta) : DenT X (.UnaryOp .Not a pos) (tNot ta) := PT.mono (pt_not ha) fun σ H Q q => by
  have q := tt_bind (u := ta) (fun k e1 => some (!k, e1)) q
  obtain ⟨H0, B, F, e, k, e', R, he, c⟩ := q
  exact ⟨H0, B, F, e, k, e', R, he, fun F1 H1 R1 S1 => tt_pure (K := X.K) (σ := σ) (c F1 H1 R1 S1)⟩
theorem dn_if {c : Expr} (hc : DenT X c ta) (ha : Den X a fa) (hb : Den X b fb) : Den X (.IfExp c a b pos) (cIf ta fa fb) := PE.mono (pe_ifExp hc ha hb) fun σ H Q q => by
  obtain ⟨H0, B, F, e, op, e', R, he, k⟩ := q
  obtain ⟨⟨k1, e1⟩, h1, he⟩ := bind_some he
  refine ⟨H0, B, F, e, k1, e1, R, h1, fun F1 H1 R1 S1 => ?_⟩
  simp only at he
  cases k1 with
  | true =>
    rw [if_pos rfl] at he
    refine iteT ?_
    exact ⟨H0, B, F1, e1, op, e', R1, he, fun F2 H2 v R2 S2 O2 => k F2 H2 v R2 (S1.trans S2) (O2.back fun a => dom_none S1)⟩
  | false =>
    rw [if_neg Bool.false_ne_true] at he
    refine iteF ?_
    exact ⟨H0, B, F1, e1, op, e', R1, he, fun F2 H2 v R2 S2 O2 => k F2 H2 v R2 (S1.trans S2) (O2.back fun a => dom_none S1)⟩
end
end MP

/-! A4: truth values as values; the promise of a def; calls. -/
namespace MP
open PySem PySem.Spec L2
open PyProof.Rows hiding St

theorem RV.bool {K : PySem.W.Frag} {F : Addr → Prop} {H : Hp} {v : V} {b : Bool} (h : RV K F H v (.bool b)) : v = .bl b := by
  rcases h with h | ⟨a, c, _, _, hc⟩
  · cases h; rfl
  · cases c <;> cases hc
theorem RV.int {K : PySem.W.Frag} {F : Addr → Prop} {H : Hp} {v : V} {b : Int} (h : RV K F H v (.int b)) : v = .int b := by
  rcases h with h | ⟨a, c, _, _, hc⟩
  · cases h; rfl
  · cases c <;> cases hc
theorem RV.str {K : PySem.W.Frag} {F : Addr → Prop} {H : Hp} {v : V} {b : Str} (h : RV K F H v (.str b)) : v = .str b := by
  rcases h with h | ⟨a, c, _, _, hc⟩
  · cases h; rfl
  · cases c <;> cases hc
theorem RV.non {K : PySem.W.Frag} {F : Addr → Prop} {H : Hp} {v : V} (h : RV K F H v .none) : v = .non := by
  rcases h with h | ⟨a, c, _, _, hc⟩
  · cases h; rfl
  · cases c <;> cases hc

section
variable {X : Cx} {a b : Expr} {es rest : List Expr} {fa fb : CE} {fr : CA} {pos : Pos}
theorem dn_and (ha : Den X a fa) (hb : Den X (.BoolOp .And (b :: rest) pos) fb) : Den X (.BoolOp .And (a :: b :: rest) pos) (cAndV fa fb) := PE.mono (pe_and ha hb) fun σ H Q q => by
  obtain ⟨H0, B, F, e, op, e', R, he, k⟩ := q
  obtain ⟨⟨x, e1⟩, h1, he⟩ := bind_some he
  refine ⟨H0, B, F, e, x, e1, R, h1, fun F1 H1 v R1 S1 O1 => ?_⟩
  simp only at he
  cases hd : vw e1 x with
  | none => rw [hd] at he; cases he
  | some d =>
    rw [hd] at he
    cases d with
    | bool c =>
      have hv := (O1.vw R1 hd).bool
      subst hv
      cases c with
      | true =>
        refine ⟨true, rfl, iteT ?_⟩
        exact ⟨H0, B, F1, e1, op, e', R1, he, fun F2 H2 v R2 S2 O2 => k F2 H2 v R2 (S1.trans S2) (O2.back fun a => dom_none S1)⟩
      | false =>
        cases he
        exact ⟨false, rfl, iteF (k F1 H1 _ R1 S1 (.bl false))⟩
    | _ => cases he
theorem dn_or (ha : Den X a fa) (hb : Den X (.BoolOp .Or (b :: rest) pos) fb) : Den X (.BoolOp .Or (a :: b :: rest) pos) (cOrV fa fb) := PE.mono (pe_or ha hb) fun σ H Q q => by
  obtain ⟨H0, B, F, e, op, e', R, he, k⟩ := q
  obtain ⟨⟨x, e1⟩, h1, he⟩ := bind_some he
  refine ⟨H0, B, F, e, x, e1, R, h1, fun F1 H1 v R1 S1 O1 => ?_⟩
  simp only at he
  cases hd : vw e1 x with
  | none => rw [hd] at he; cases he
  | some d =>
    rw [hd] at he
    cases d with
    | bool c =>
      have hv := (O1.vw R1 hd).bool
      subst hv
      cases c with
      | false =>
        refine ⟨false, rfl, iteF ?_⟩
        exact ⟨H0, B, F1, e1, op, e', R1, he, fun F2 H2 v R2 S2 O2 => k F2 H2 v R2 (S1.trans S2) (O2.back fun a => dom_none S1)⟩
      | true =>
        cases he
        exact ⟨true, rfl, iteT (k F1 H1 _ R1 S1 (.bl true))⟩
    | _ => cases he
theorem dn_one {op : BoolOp} (ha : Den X a fa) : Den X (.BoolOp op [a] pos) fa := pe_one ha
theorem dn_not (ha : Den X a fa) : Den X (.UnaryOp .Not a pos) (cNotV fa) := PE.mono (pe_not ha) fun σ H Q q => by
  obtain ⟨H0, B, F, e, op, e', R, he, k⟩ := q
  obtain ⟨⟨x, e1⟩, h1, he⟩ := bind_some he
  refine ⟨H0, B, F, e, x, e1, R, h1, fun F1 H1 v R1 S1 O1 => ?_⟩
  simp only at he
  cases hd : vw e1 x with
  | none => rw [hd] at he; cases he
  | some d =>
    rw [hd] at he
    cases d with
    | bool c =>
      have hv := (O1.vw R1 hd).bool
      subst hv
      cases he
      exact ⟨c, rfl, k F1 H1 _ R1 S1 (.bl _)⟩
    | _ => cases he
/-- an argument as data for good -/
theorem dn_fz (ha : Den X a fa) : Den X a (cF fa) := PE.mono ha fun σ H Q q => by
  obtain ⟨H0, B, F, e, op, e', R, he, k⟩ := q
  obtain ⟨⟨x, e1⟩, h1, he⟩ := bind_some he
  obtain ⟨⟨d, e2⟩, h2, he⟩ := bind_some he
  cases he
  refine ⟨H0, B, F, e, x, e1, R, h1, fun F1 H1 v R1 S1 O1 => ?_⟩
  obtain ⟨F2, R2, fr2, new2, sls2, dv⟩ := O1.fz R1 (fun _ _ => .inr trivial) h2
  exact k F2 H1 v R2 (fz_step (K := X.K) (H0 := H0) (B := B) S1 fr2 new2 sls2) dv
end

/-! ### the promise of a def -/
/-- behind a def: what its parameters hold (those that were the caller's own), what it hands back -/
structure Post (K : PySem.W.Frag) (F : Addr → Prop) (H : Hp) (vs : List V) (ps : List Sl) (F' : Addr → Prop) (H' : Hp) (v : V) (r : Rv) (ps' : List Sl) : Prop where
  rel : Rel K H (Ow (vs.map some) ps) F' (vs.map some) H' ps'
  fr : ∀ a, F a → F' a
  new : ∀ a, F' a → F a ∨ H a = none ∨ Ow (vs.map some) ps a
  dom : ∀ a, H a ≠ none → H' a ≠ none
  rv : RvRel K F' H' H v r
/-- the promise that the plain function fn says -/
def spF (K : PySem.W.Frag) (fn : List Sl → Option (Rv × List Sl)) : Sp := fun vs H Q _ => ∃ F ps r ps', Rel K H (Ow (vs.map some) ps) F (vs.map some) H ps ∧ fn ps = some (r, ps') ∧
  ∀ F' H' v, Post K F H vs ps F' H' v r ps' → Q v H'

/-- a def of the module that may be called at level k -/
structure CallOk (P : Program) (w : World) (K : PySem.W.Frag) (mg : Str → Option Value) (base : Heap) (k : Nat) (x : Str) (fn : List Sl → Option (Rv × List Sl)) : Prop where
  ex : ∃ (f : Addr) (fd : FuncData) (ps : List Str), FnOk P w K mg base CX0 k f fd ps (spF K fn) ∧ mg x = some (.ref f) ∧ PySem.W.keepIn K (.ref f) = true ∧ Binds K fd ps []

section
variable {K : PySem.W.Frag} {H0 : Hp} {B F F' : Addr → Prop} {σ : St} {H H' Hs : Hp} {e e' : En}
/-- what is handed over, as the callee sees it -/
theorem args_rel (R : Rel K H0 B F σ H e) : ∀ {vs : List V} {xs : List Op} {ps : List Sl}, OpRels K F H σ e Hs vs xs → argSls e xs = some ps → (refs xs).Nodup → (news vs xs).Nodup →
    ps.length = vs.length ∧ ∀ (i : Nat) (s : Sl), ps[i]? = some s → ∃ v x, vs[i]? = some v ∧ xs[i]? = some x ∧ OpRel K F H σ e Hs v x ∧ argSl e x = some s
  | [], [], ps, _, h, _, _ => by
    cases h
    exact ⟨rfl, fun i s hi => by simp at hi⟩
  | v :: vs, x :: xs, ps, ⟨o, os⟩, h, hn, hw => by
    obtain ⟨s, h1, h⟩ := bind_some h
    obtain ⟨r, h2, h⟩ := bind_some h
    cases h
    have hn' : (refs xs).Nodup := by
      cases x with
      | r i => exact (List.nodup_cons.mp hn).2
      | v _ => exact hn
      | o _ => exact hn
    have hw' : (news vs xs).Nodup := by
      cases x with
      | v _ => cases v <;> simpa [news] using hw
      | r _ => cases v <;> simpa [news] using hw
      | o _ =>
        obtain ⟨p, rfl, _⟩ := o
        simp only [news, List.nodup_cons] at hw
        exact hw.2
    obtain ⟨g1, g2⟩ := args_rel R os h2 hn' hw'
    refine ⟨by simp [g1], fun i t hi => ?_⟩
    cases i with
    | zero =>
      simp at hi; subst hi
      exact ⟨v, x, rfl, rfl, o, h1⟩
    | succ i =>
      obtain ⟨v', x', q1, q2, q3, q4⟩ := g2 i t (by simpa using hi)
      exact ⟨v', x', by simpa using q1, by simpa using q2, q3, q4⟩
theorem refs_inj : ∀ {xs : List Op} {i j : Nat} {n : Nat}, (refs xs).Nodup → xs[i]? = some (Op.r n) → xs[j]? = some (Op.r n) → i = j
  | [], i, _, _, _, h, _ => by simp at h
  | x :: xs, 0, 0, _, _, _, _ => rfl
  | x :: xs, 0, j + 1, n, hn, h1, h2 => by
    simp at h1 h2; subst h1
    have hm : n ∈ refs xs := by
      clear hn
      induction xs generalizing j with
      | nil => simp at h2
      | cons y ys ih =>
        cases j with
        | zero => simp at h2; subst h2; simp [refs]
        | succ j =>
          have := ih (j := j) (by simpa using h2)
          cases y <;> simp [refs, this]
    exact absurd hm (List.nodup_cons.mp hn).1
  | x :: xs, i + 1, 0, n, hn, h1, h2 => by
    simp at h1 h2; subst h2
    have hm : n ∈ refs xs := by
      clear hn
      induction xs generalizing i with
      | nil => simp at h1
      | cons y ys ih =>
        cases i with
        | zero => simp at h1; subst h1; simp [refs]
        | succ i =>
          have := ih (i := i) (by simpa using h1)
          cases y <;> simp [refs, this]
    exact absurd hm (List.nodup_cons.mp hn).1
  | x :: xs, i + 1, j + 1, n, hn, h1, h2 => by
    have hn' : (refs xs).Nodup := by
      cases x with
      | r i => exact (List.nodup_cons.mp hn).2
      | v _ => exact hn
      | o _ => exact hn
    have q := refs_inj (xs := xs) (i := i) (j := j) hn' (by simpa using h1) (by simpa using h2)
    omega
theorem news_inj : ∀ {vs : List V} {xs : List Op} {i j : Nat} {p : Addr} {c c' : Ct}, (news vs xs).Nodup → vs[i]? = some (V.ref p) → xs[i]? = some (Op.o c) → vs[j]? = some (V.ref p) → xs[j]? = some (Op.o c') → i = j := by
  have mem : ∀ {vs : List V} {xs : List Op} {i : Nat} {p : Addr} {c : Ct}, vs[i]? = some (V.ref p) → xs[i]? = some (Op.o c) → p ∈ news vs xs := by
    intro vs
    induction vs with
    | nil => intro xs i p c h; simp at h
    | cons v vs ih =>
      intro xs i p c h1 h2
      cases xs with
      | nil => simp at h2
      | cons x xs =>
        cases i with
        | zero => simp at h1 h2; subst h1; subst h2; simp [news]
        | succ i =>
          have := ih (xs := xs) (i := i) (by simpa using h1) (by simpa using h2)
          cases v <;> cases x <;> simp [news, this]
  intro vs
  induction vs with
  | nil => intro xs i j p c c' _ h; simp at h
  | cons v vs ih =>
    intro xs i j p c c' hn h1 h2 h3 h4
    cases xs with
    | nil => simp at h2
    | cons x xs =>
      cases i with
      | zero =>
        cases j with
        | zero => rfl
        | succ j =>
          simp at h1 h2 h3 h4; subst h1; subst h2
          simp only [news, List.nodup_cons] at hn
          exact absurd (mem h3 h4) hn.1
      | succ i =>
        cases j with
        | zero =>
          simp at h1 h2 h3 h4; subst h3; subst h4
          simp only [news, List.nodup_cons] at hn
          exact absurd (mem h1 h2) hn.1
        | succ j =>
          have hn' : (news vs xs).Nodup := by
            cases v <;> cases x <;> first | exact hn | (simp only [news, List.nodup_cons] at hn; exact hn.2)
          have q := ih (xs := xs) (i := i) (j := j) hn' (by simpa using h1) (by simpa using h2) (by simpa using h3) (by simpa using h4)
          omega
/-- the caller's environment as the callee's at its start -/
theorem enter_rel (R : Rel K H0 B F σ H e) {vs : List V} {xs : List Op} {ps : List Sl} (O : OpRels K F H σ e Hs vs xs) (ha : argSls e xs = some ps) (hn : (refs xs).Nodup) (hw : (news vs xs).Nodup) :
    Rel K H (Ow (vs.map some) ps) F (vs.map some) H ps := by
  obtain ⟨g1, g2⟩ := args_rel R O ha hn hw
  have sv : ∀ {i : Nat} {v : V}, vs[i]? = some v → (vs.map some)[i]? = some (some v) := fun {i v} h => by rw [List.getElem?_map, h]; rfl
  have base : ∀ (i : Nat) (s : Sl) (v : V) (x : Op), OpRel K F H σ e Hs v x → argSl e x = some s → (match s with
      | .d d => DV K F H v d
      | .e d => DV K F H v d
      | .own c => ∃ p, v = .ref p ∧ OwnAt K F H p c ∧ ¬ F p ∧ ((∃ n, x = .r n ∧ e[n]? = some (Sl.own c)) ∨ (x = .o c ∧ ¬ Ow σ e p ∧ ¬ Lo σ e p))
      | .lk c => ∃ p n, v = .ref p ∧ LkAt K F H p c ∧ ¬ F p ∧ x = .r n ∧ e[n]? = some (Sl.lk c)
      | .no => False) := fun i s v x o h => by
    cases x with
    | v d => cases h; exact o
    | o c =>
      cases h
      obtain ⟨p, h1, h2, h3, h4, h5, h6⟩ := o
      exact ⟨p, h1, h2, h3, .inr ⟨rfl, h5, h6⟩⟩
    | r n =>
      obtain ⟨h1, _⟩ := o
      simp only [argSl] at h
      cases hi : e[n]? with
      | none => rw [hi] at h; cases h
      | some sl =>
        rw [hi] at h
        cases sl with
        | no => cases h
        | d x =>
          cases h
          obtain ⟨w, h3, h4⟩ := R.dat n _ (.inl hi)
          rw [h1] at h3; cases h3; exact h4
        | e x =>
          cases h
          obtain ⟨w, h3, h4⟩ := R.dat n _ (.inr hi)
          rw [h1] at h3; cases h3; exact h4
        | own c =>
          cases h
          obtain ⟨p, h3, h4, h5, _⟩ := R.own n _ hi
          rw [h1] at h3; cases h3
          exact ⟨p, rfl, h4, h5, .inl ⟨n, rfl, hi⟩⟩
        | lk c =>
          cases h
          obtain ⟨p, h3, h4, h5⟩ := R.lk n _ hi
          rw [h1] at h3; cases h3
          exact ⟨p, n, rfl, h4, h5, rfl, hi⟩
  have owned : ∀ (i : Nat) (c : Ct) (a : Addr), (ps[i]? = some (Sl.own c) ∨ ps[i]? = some (Sl.lk c)) → (vs.map some)[i]? = some (some (V.ref a)) → ∃ x, xs[i]? = some x ∧ vs[i]? = some (V.ref a) ∧
      ((∃ n, x = .r n ∧ (e[n]? = some (Sl.own c) ∨ e[n]? = some (Sl.lk c)) ∧ σ[n]? = some (some (V.ref a))) ∨ (x = .o c ∧ ¬ Ow σ e a ∧ ¬ Lo σ e a)) := fun i c a hi hs => by
    have hvs : vs[i]? = some (V.ref a) := by
      rw [List.getElem?_map] at hs
      cases q : vs[i]? with
      | none => rw [q] at hs; cases hs
      | some v => rw [q] at hs; cases hs; rfl
    rcases hi with hi | hi
    · obtain ⟨v, x, q1, q2, q3, q4⟩ := g2 i _ hi
      rw [hvs] at q1; cases q1
      obtain ⟨p, z1, _, _, z⟩ := base i _ _ x q3 q4
      cases z1
      rcases z with ⟨n, rfl, hn⟩ | ⟨rfl, z⟩
      · exact ⟨_, q2, hvs, .inl ⟨n, rfl, .inl hn, q3.1⟩⟩
      · exact ⟨_, q2, hvs, .inr ⟨rfl, z⟩⟩
    · obtain ⟨v, x, q1, q2, q3, q4⟩ := g2 i _ hi
      rw [hvs] at q1; cases q1
      obtain ⟨p, n, z1, _, _, rfl, hn⟩ := base i _ _ x q3 q4
      cases z1
      exact ⟨_, q2, hvs, .inl ⟨n, rfl, .inr hn, q3.1⟩⟩
  have olo : ∀ {n : Nat} {c : Ct} {a : Addr}, (e[n]? = some (Sl.own c) ∨ e[n]? = some (Sl.lk c)) → σ[n]? = some (some (V.ref a)) → Ow σ e a ∨ Lo σ e a := fun {n c a} h hs => h.elim (fun h => .inl ⟨n, c, h, hs⟩) fun h => .inr ⟨n, c, h, hs⟩
  refine ⟨by simp [g1], R.dom, fun i x h => ?_, fun i c h => ?_, fun i c h => ?_, fun i j a c c' hi hj si sj => ?_, fun a o h _ => h, R.dom⟩
  · rcases h with h | h
    · obtain ⟨v, y, q1, q2, q3, q4⟩ := g2 i _ h
      exact ⟨v, sv q1, base i _ v y q3 q4⟩
    · obtain ⟨v, y, q1, q2, q3, q4⟩ := g2 i _ h
      exact ⟨v, sv q1, base i _ v y q3 q4⟩
  · obtain ⟨v, y, q1, q2, q3, q4⟩ := g2 i _ h
    obtain ⟨p, rfl, z2, z3, _⟩ := base i _ v y q3 q4
    exact ⟨p, sv q1, z2, z3, .inr ⟨i, c, h, sv q1⟩⟩
  · obtain ⟨v, y, q1, q2, q3, q4⟩ := g2 i _ h
    obtain ⟨p, n, rfl, z2, z3, _⟩ := base i _ v y q3 q4
    exact ⟨p, sv q1, z2, z3⟩
  · obtain ⟨x, x1, v1, z1⟩ := owned i c a hi si
    obtain ⟨y, y1, w1, z2⟩ := owned j c' a hj sj
    rcases z1 with ⟨n, rfl, hn1, s1⟩ | ⟨rfl, no1⟩
    · rcases z2 with ⟨m, rfl, hn2, s2⟩ | ⟨rfl, no2⟩
      · have : n = m := R.inj n m a c c' hn1 hn2 s1 s2
        subst this
        exact refs_inj hn x1 y1
      · exact ((olo hn1 s1).elim no2.1 no2.2).elim
    · rcases z2 with ⟨m, rfl, hn2, s2⟩ | ⟨rfl, no2⟩
      · exact ((olo hn2 s2).elim no1.1 no1.2).elim
      · exact news_inj hw v1 x1 w1 y1
theorem putBack_spec : ∀ {xs : List Op} {ss : List Sl} {e e2 : En}, putBack e xs ss = some e2 → (refs xs).Nodup → e.length = e2.length ∧ ∀ (n : Nat) (s' : Sl), e2[n]? = some s' →
    (n ∉ refs xs ∧ e[n]? = some s') ∨ ∃ i : Nat, xs[i]? = some (Op.r n) ∧
      ((∃ c c', e[n]? = some (Sl.own c) ∧ ss[i]? = some (Sl.own c') ∧ s' = .own c') ∨ (∃ c x, e[n]? = some (Sl.own c) ∧ ss[i]? = some (Sl.e x) ∧ s' = .e x) ∨
        (∃ c, e[n]? = some (Sl.lk c) ∧ s' = .lk c) ∨ ((∃ x, e[n]? = some (Sl.e x) ∧ s' = .e x) ∨ ∃ x, e[n]? = some (Sl.d x) ∧ s' = .d x))
  | [], [], e, e2, h, _ => by cases h; exact ⟨rfl, fun n s' h => .inl ⟨by simp [refs], h⟩⟩
  | [], _ :: _, e, e2, h, _ => by cases h
  | x :: xs, [], e, e2, h, _ => by cases x <;> cases h
  | .v _ :: xs, s :: ss, e, e2, h, hn => by
    obtain ⟨h1, h2⟩ := putBack_spec (xs := xs) (ss := ss) h hn
    refine ⟨h1, fun n s' hs => ?_⟩
    rcases h2 n s' hs with q | ⟨i, q, z⟩
    · exact .inl q
    · exact .inr ⟨i + 1, by simpa using q, by simpa using z⟩
  | .o _ :: xs, s :: ss, e, e2, h, hn => by
    obtain ⟨h1, h2⟩ := putBack_spec (xs := xs) (ss := ss) h hn
    refine ⟨h1, fun n s' hs => ?_⟩
    rcases h2 n s' hs with q | ⟨i, q, z⟩
    · exact .inl q
    · exact .inr ⟨i + 1, by simpa using q, by simpa using z⟩
  | .r m :: xs, s :: ss, e, e2, h, hn => by
    have hm : m ∉ refs xs := (List.nodup_cons.mp hn).1
    have hn' : (refs xs).Nodup := (List.nodup_cons.mp hn).2
    have same : ∀ {e1 : En}, putBack e1 xs ss = some e2 → e.length = e1.length → (∀ n, n ≠ m → e1[n]? = e[n]?) → e.length = e2.length ∧ ∀ (n : Nat) (s' : Sl), e2[n]? = some s' → n ≠ m →
        (n ∉ refs (.r m :: xs) ∧ e[n]? = some s') ∨ ∃ i : Nat, (Op.r m :: xs)[i]? = some (Op.r n) ∧
      ((∃ c c', e[n]? = some (Sl.own c) ∧ (s :: ss)[i]? = some (Sl.own c') ∧ s' = .own c') ∨ (∃ c x, e[n]? = some (Sl.own c) ∧ (s :: ss)[i]? = some (Sl.e x) ∧ s' = .e x) ∨
        (∃ c, e[n]? = some (Sl.lk c) ∧ s' = .lk c) ∨ ((∃ x, e[n]? = some (Sl.e x) ∧ s' = .e x) ∨ ∃ x, e[n]? = some (Sl.d x) ∧ s' = .d x)) := fun {e1} hp hl hk => by
      obtain ⟨h1, h2⟩ := putBack_spec (xs := xs) (ss := ss) hp hn'
      refine ⟨hl.trans h1, fun n s' hs hnm => ?_⟩
      rcases h2 n s' hs with ⟨q1, q2⟩ | ⟨i, q, z⟩
      · refine .inl ⟨?_, by rw [← hk n hnm]; exact q2⟩
        show n ∉ m :: refs xs
        simp only [List.mem_cons, not_or]
        exact ⟨hnm, q1⟩
      · refine .inr ⟨i + 1, by simpa using q, ?_⟩
        rw [hk n hnm] at z
        simpa using z
    have at_ : ∀ {e1 : En} {s' : Sl}, putBack e1 xs ss = some e2 → e2[m]? = some s' → e1[m]? = some s' := fun {e1 s'} hp hs => by
      obtain ⟨h1, h2⟩ := putBack_spec (xs := xs) (ss := ss) hp hn'
      rcases h2 m s' hs with ⟨q1, q2⟩ | ⟨i, q, z⟩
      · exact q2
      · exfalso
        apply hm
        clear h2 z hs h1 hp same hn hn' hm h
        induction xs generalizing i with
        | nil => simp at q
        | cons y ys ih =>
          cases i with
          | zero => simp at q; subst q; simp [refs]
          | succ i =>
            have := ih i (by simpa using q)
            cases y <;> simp [refs, this]
    have fin : ∀ {e1 : En}, putBack e1 xs ss = some e2 → e.length = e1.length → (∀ n, n ≠ m → e1[n]? = e[n]?) → (∀ s' : Sl, e1[m]? = some s' → ((∃ c c', e[m]? = some (Sl.own c) ∧ (s :: ss)[0]? = some (Sl.own c') ∧ s' = .own c') ∨ (∃ c x, e[m]? = some (Sl.own c) ∧ (s :: ss)[0]? = some (Sl.e x) ∧ s' = .e x) ∨
        (∃ c, e[m]? = some (Sl.lk c) ∧ s' = .lk c) ∨ ((∃ x, e[m]? = some (Sl.e x) ∧ s' = .e x) ∨ ∃ x, e[m]? = some (Sl.d x) ∧ s' = .d x))) → _ := fun {e1} hp hl hk hz => by
      obtain ⟨g1, g2⟩ := same hp hl hk
      exact (⟨g1, fun n s' hs => by
        by_cases q : n = m
        · subst q
          exact .inr ⟨0, rfl, hz s' (at_ hp hs)⟩
        · exact g2 n s' hs q⟩ : e.length = e2.length ∧ ∀ (n : Nat) (s' : Sl), e2[n]? = some s' →
    (n ∉ refs (.r m :: xs) ∧ e[n]? = some s') ∨ ∃ i : Nat, (Op.r m :: xs)[i]? = some (Op.r n) ∧
      ((∃ c c', e[n]? = some (Sl.own c) ∧ (s :: ss)[i]? = some (Sl.own c') ∧ s' = .own c') ∨ (∃ c x, e[n]? = some (Sl.own c) ∧ (s :: ss)[i]? = some (Sl.e x) ∧ s' = .e x) ∨
        (∃ c, e[n]? = some (Sl.lk c) ∧ s' = .lk c) ∨ ((∃ x, e[n]? = some (Sl.e x) ∧ s' = .e x) ∨ ∃ x, e[n]? = some (Sl.d x) ∧ s' = .d x)))
    simp only [putBack] at h
    cases hi : e[m]? with
    | none => rw [hi] at h; cases h
    | some t =>
      have hl : m < e.length := (List.getElem?_eq_some_iff.mp hi).1
      rw [hi] at h
      cases t with
      | no => cases h
      | d x => exact fin h rfl (fun _ _ => rfl) fun s' hs => .inr (.inr (.inr (.inr ⟨x, hi, by rw [hi] at hs; cases hs; rfl⟩)))
      | e x => exact fin h rfl (fun _ _ => rfl) fun s' hs => .inr (.inr (.inr (.inl ⟨x, hi, by rw [hi] at hs; cases hs; rfl⟩)))
      | own c =>
        cases s with
        | own c' =>
          refine fin h (by simp) (fun n hn => by rw [List.getElem?_set_ne (Ne.symm hn)]) fun s' hs => .inl ⟨c, c', hi, rfl, ?_⟩
          rw [List.getElem?_set_self hl] at hs; cases hs; rfl
        | e x =>
          refine fin h (by simp) (fun n hn => by rw [List.getElem?_set_ne (Ne.symm hn)]) fun s' hs => .inr (.inl ⟨c, x, hi, rfl, ?_⟩)
          rw [List.getElem?_set_self hl] at hs; cases hs; rfl
        | no => cases h
        | d _ => cases h
        | lk _ => cases h
      | lk c => exact fin h rfl (fun _ _ => rfl) fun s' hs => .inr (.inr (.inl ⟨c, hi, by rw [hi] at hs; cases hs; rfl⟩))
end
end MP

/-! A5: the call of a def. -/
namespace MP
open PySem PySem.Spec L2
open PyProof.Rows hiding St

section
variable {K : PySem.W.Frag} {H0 : Hp} {B F F1 F' : Addr → Prop} {σ : St} {Hs H1 H' : Hp} {e e1 e2 : En}
theorem mem_refs : ∀ {xs : List Op} {i n : Nat}, xs[i]? = some (Op.r n) → n ∈ refs xs
  | [], i, n, h => by simp at h
  | x :: xs, 0, n, h => by simp at h; subst h; simp [refs]
  | x :: xs, i + 1, n, h => by
    have := mem_refs (xs := xs) (i := i) (n := n) (by simpa using h)
    cases x <;> simp [refs, this]
/-- behind a call -/
theorem leave_rel (R0 : Rel K H0 B F σ Hs e) (R : Rel K H0 B F1 σ H1 e1) (S : Step F Hs σ e F1 H1 e1) {vs : List V} {xs : List Op} {ps ps' : List Sl} {v : V} {r : Rv} (O : OpRels K F1 H1 σ e1 Hs vs xs)
    (ha : argSls e1 xs = some ps) (hn : (refs xs).Nodup) (hw : (news vs xs).Nodup) (hp : putBack e1 xs ps' = some e2) (P : Post K F1 H1 vs ps F' H' v r ps') :
    Rel K H0 B F' σ H' e2 ∧ Step F Hs σ e F' H' e2 ∧ OpRel K F' H' σ e2 Hs v r.op := by
  have RE := enter_rel R O ha hn hw
  obtain ⟨g1, g2⟩ := args_rel R O ha hn hw
  obtain ⟨p1, p2⟩ := putBack_spec hp hn
  -- what the callee may change
  have own1 : ∀ a, Ow (vs.map some) ps a → (∃ n c, n ∈ refs xs ∧ e1[n]? = some (Sl.own c) ∧ σ[n]? = some (some (V.ref a))) ∨ Hs a = none := fun a ⟨i, c, hi, hs⟩ => by
    have hvs : vs[i]? = some (V.ref a) := by
      rw [List.getElem?_map] at hs
      cases q : vs[i]? with
      | none => rw [q] at hs; cases hs
      | some v => rw [q] at hs; cases hs; rfl
    have key : ∀ s : Sl, ps[i]? = some s → s = .own c → (∃ n c, n ∈ refs xs ∧ e1[n]? = some (Sl.own c) ∧ σ[n]? = some (some (V.ref a))) ∨ Hs a = none := fun s hs' hk => by
      obtain ⟨w, x, q1, q2, q3, q4⟩ := g2 i s hs'
      rw [hvs] at q1; cases q1
      exact (by
        cases x with
        | v d =>
          cases q4
          cases hk
        | o cc =>
          obtain ⟨p, z1, z2, z3, z4, z5⟩ := q3
          cases z1
          exact .inr z4
        | r n =>
          refine .inl ?_
          obtain ⟨z1, _⟩ := q3
          simp only [argSl] at q4
          cases hen : e1[n]? with
          | none => rw [hen] at q4; cases q4
          | some sl =>
            rw [hen] at q4
            cases sl with
            | no => cases q4
            | d x => cases q4; cases hk
            | e x => cases q4; cases hk
            | own c1 => exact ⟨n, c1, mem_refs q2, hen, z1⟩
            | lk c1 => cases q4; cases hk)
    exact key _ hi rfl
  have kp : Keep F1 H1 F' H' := ⟨P.fr, fun a o f h => P.rel.frame a o h fun z => RE.owNo z f⟩
  have sls : Sls e1 e2 := ⟨p1, fun n s' hs => by
    rcases p2 n s' hs with ⟨_, q⟩ | ⟨i, _, z⟩
    · exact ⟨s', q, .refl s'⟩
    · rcases z with ⟨c, c', z1, _, rfl⟩ | ⟨c, x, z1, _, rfl⟩ | ⟨c, z1, rfl⟩ | ⟨x, z1, rfl⟩ | ⟨x, z1, rfl⟩
      · exact ⟨_, z1, .own c c'⟩
      · exact ⟨_, z1, .frz c x⟩
      · exact ⟨_, z1, .lk c⟩
      · exact ⟨_, z1, .e x⟩
      · exact ⟨_, z1, .d x⟩⟩
  -- an owned object that was not handed over
  have apart : ∀ (n : Nat) (c : Ct) (a : Addr), e1[n]? = some (Sl.own c) → σ[n]? = some (some (V.ref a)) → n ∉ refs xs → ¬ Ow (vs.map some) ps a := fun n c a hen hs hnr z => by
    rcases own1 a z with ⟨m, c', hm, hem, hs'⟩ | hz
    · have := R.inj n m a c c' (.inl hen) (.inl hem) hs hs'
      subst this; exact hnr hm
    · exact R0.owSome (S.ow a ⟨n, c, hen, hs⟩) hz
  have apartL : ∀ (n : Nat) (c : Ct) (a : Addr), e1[n]? = some (Sl.lk c) → σ[n]? = some (some (V.ref a)) → ¬ Ow (vs.map some) ps a := fun n c a hen hs z => by
    rcases own1 a z with ⟨m, c', hm, hem, hs'⟩ | hz
    · have := R.inj n m a c c' (.inr hen) (.inl hem) hs hs'
      subst this; rw [hen] at hem; cases hem
    · exact R0.loSome (S.sls.lo ⟨n, c, hen, hs⟩) hz
  have valOf : ∀ (i n : Nat), xs[i]? = some (Op.r n) → ∃ w, vs[i]? = some w ∧ σ[n]? = some (some w) := fun i n hx => by
    have hil : i < ps.length := by
      have : i < xs.length := (List.getElem?_eq_some_iff.mp hx).1
      rw [g1, O.length]; exact this
    obtain ⟨w, x, q1, q2, q3, q4⟩ := g2 i _ (List.getElem?_eq_getElem hil)
    rw [hx] at q2; cases q2
    exact ⟨w, q1, q3.1⟩
  have sv : ∀ {i : Nat} {v w : V}, vs[i]? = some v → (vs.map some)[i]? = some (some w) → v = w := fun {i v w} h h' => by
    rw [List.getElem?_map, h] at h'; cases h'; rfl
  have argOf : ∀ (i n : Nat) (s : Sl), xs[i]? = some (Op.r n) → ps[i]? = some s → argSl e1 (.r n) = some s := fun i n s hx hps => by
    obtain ⟨w, x, q1, q2, q3, q4⟩ := g2 i s hps
    rw [hx] at q2; cases q2
    exact q4
  have R2 : Rel K H0 B F' σ H' e2 := by
    refine ⟨R.len.trans p1, P.rel.dom, fun n x h => ?_, fun n c h => ?_, fun n c h => ?_, fun n m a c c' hn' hm' s1 s2 => ?_, fun a o h nb => ?_, P.rel.dom⟩
    · -- data
      have old : (e1[n]? = some (Sl.d x) ∨ e1[n]? = some (Sl.e x)) → ∃ v, σ[n]? = some (some v) ∧ DV K F' H' v x := fun q => by
        obtain ⟨w, z1, z2⟩ := R.dat n x q
        exact ⟨w, z1, z2.keep kp⟩
      rcases h with h | h
      · rcases p2 n _ h with ⟨_, q⟩ | ⟨i, hx, z⟩
        · exact old (.inl q)
        · rcases z with ⟨c, c', z1, _, z2⟩ | ⟨c, x', z1, _, z2⟩ | ⟨c, z1, z2⟩ | ⟨x', z1, z2⟩ | ⟨x', z1, z2⟩ <;> cases z2
          exact old (.inl z1)
      · rcases p2 n _ h with ⟨_, q⟩ | ⟨i, hx, z⟩
        · exact old (.inr q)
        · rcases z with ⟨c, c', z1, _, z2⟩ | ⟨c, x', z1, z3, z2⟩ | ⟨c, z1, z2⟩ | ⟨x', z1, z2⟩ | ⟨x', z1, z2⟩ <;> cases z2
          · obtain ⟨w, y1, y2⟩ := P.rel.dat i _ (.inr z3)
            obtain ⟨w', y3, y4⟩ := valOf i n hx
            have := sv y3 y1
            subst this
            exact ⟨w', y4, y2⟩
          · exact old (.inr z1)
    · rcases p2 n _ h with ⟨hnr, q⟩ | ⟨i, hx, z⟩
      · obtain ⟨a, z1, z2, z3, z4⟩ := R.own n c q
        have ap := apart n c a q z1 hnr
        refine ⟨a, z1, z2.keep kp fun o ho => P.rel.frame a o ho ap, fun zf => ?_, z4⟩
        rcases P.new a zf with y | y | y
        · exact z3 y
        · exact z2.there y
        · exact ap y
      · rcases z with ⟨c0, c', z1, z3, z2⟩ | ⟨c0, x', z1, _, z2⟩ | ⟨c0, z1, z2⟩ | ⟨x', z1, z2⟩ | ⟨x', z1, z2⟩ <;> cases z2
        obtain ⟨a, y1, y2, y3, _⟩ := P.rel.own i _ z3
        obtain ⟨w', y4, y5⟩ := valOf i n hx
        have := sv y4 y1
        subst this
        obtain ⟨a', u1, _, _, u4⟩ := R.own n _ z1
        rw [y5] at u1; cases u1
        exact ⟨a, y5, y2, y3, u4⟩
    · have go : e1[n]? = some (Sl.lk c) → ∃ a, σ[n]? = some (some (V.ref a)) ∧ LkAt K F' H' a c ∧ ¬ F' a := fun q => by
        obtain ⟨a, z1, z2, z3⟩ := R.lk n c q
        have ap := apartL n c a q z1
        refine ⟨a, z1, z2.keep kp fun o ho => P.rel.frame a o ho ap, fun zf => ?_⟩
        rcases P.new a zf with y | y | y
        · exact z3 y
        · exact z2.there y
        · exact ap y
      rcases p2 n _ h with ⟨hnr, q⟩ | ⟨i, hx, z⟩
      · exact go q
      · rcases z with ⟨c0, c', z1, z3, z2⟩ | ⟨c0, x', z1, _, z2⟩ | ⟨c0, z1, z2⟩ | ⟨x', z1, z2⟩ | ⟨x', z1, z2⟩ <;> cases z2
        exact go z1
    · have back : ∀ (k : Nat) (cc : Ct), (e2[k]? = some (Sl.own cc) ∨ e2[k]? = some (Sl.lk cc)) → ∃ cc', e1[k]? = some (Sl.own cc') ∨ e1[k]? = some (Sl.lk cc') := fun k cc hk => by
        rcases hk with hk | hk
        · obtain ⟨s, y1, y2⟩ := sls.sl k _ hk
          cases y2 with
          | own c c' => exact ⟨c, .inl y1⟩
        · obtain ⟨s, y1, y2⟩ := sls.sl k _ hk
          cases y2 with
          | lk c => exact ⟨_, .inr y1⟩
      obtain ⟨d1, b1⟩ := back n c hn'
      obtain ⟨d2, b2⟩ := back m c' hm'
      exact R.inj n m a d1 d2 b1 b2 s1 s2
    · have h1 := R.frame a o h nb
      refine P.rel.frame a o h1 fun z => ?_
      rcases own1 a z with ⟨n, c, _, hen, hs⟩ | hz
      · obtain ⟨a', y1, _, _, y4⟩ := R.own n c hen
        rw [hs] at y1; cases y1
        rcases y4 with y4 | y4
        · rw [h] at y4; cases y4
        · exact nb y4
      · have := R0.frame a o h nb
        rw [this] at hz; cases hz
  have ow0 : ∀ a, Ow (vs.map some) ps a → Hs a = none ∨ Ow σ e a := fun a z => by
    rcases own1 a z with ⟨n, c, _, hen, hs⟩ | hz
    · exact .inr (S.ow a ⟨n, c, hen, hs⟩)
    · exact .inl hz
  refine ⟨R2, ⟨S.sls.trans sls, fun a h => P.fr a (S.fr a h), fun a o h nb => ?_, fun a h => ?_, fun a h => P.dom a (S.dom a h)⟩, ?_⟩
  · refine P.rel.frame a o (S.at_ a o h nb) fun z => ?_
    rcases ow0 a z with y | y
    · rw [h] at y; cases y
    · exact nb y
  · rcases P.new a h with y | y | y
    · exact S.new a y
    · refine .inr (.inl ?_)
      exact dom_none S y
    · exact .inr (ow0 a y)
  · cases r with
    | v x => exact P.rv
    | o c =>
      obtain ⟨p, rfl, h2, h3, h4⟩ := P.rv
      exact ⟨p, rfl, h2, h3, dom_none S h4, fun z => R.owSome (sls.ow z) h4, fun z => R.loSome (sls.lo z) h4⟩
/-- a call by name -/
theorem dn_call {X : Cx} {k : Nat} {x : Str} {p pos : Pos} {a : Expr} {es : List Expr} {fn : List Sl → Option (Rv × List Sl)} {fr : CA} (C : CallOk X.prog X.w X.K X.mg X.base k x fn) (hr : Room k X.A) (hg : Gl X x) (ha : DenA X (a :: es) fr)
    (hdb : (x == ("__debug__" : Str)) = false := by decide) (he : starEach (a :: es) X.env = (false, eval a X.env) :: starEach es X.env := by rfl) (hpl : (backTo pos (starEach es X.env)).any (·.1) = false := by rfl) :
    Den X (.Call (.Name x p) (a :: es) [] pos) (cCall fn fr) := by
  obtain ⟨f, fd, ps, F, hm, hk, hb⟩ := C.ex
  refine PE.mono (pe_call (E := E0) (dvs := []) F hr hg hm hk hb .nil pass0 ha hdb he hpl) fun σ H Q q => ?_
  obtain ⟨H0, B, F, e, op, e', R, he, kq⟩ := q
  obtain ⟨⟨xs, e1⟩, h1, he⟩ := bind_some he
  simp only at he
  split at he
  · rename_i hn
    obtain ⟨ps0, h2, he⟩ := bind_some he
    obtain ⟨⟨r, ps'⟩, h3, he⟩ := bind_some he
    obtain ⟨e2, h4, he⟩ := bind_some he
    cases he
    refine ⟨H0, B, F, e, xs, e1, R, h1, fun F1 H1 vs R1 S1 O1 N1 => ?_⟩
    show spF X.K fn (vs ++ []) H1 Q E0
    rw [List.append_nil]
    refine ⟨F1, ps0, r, ps', enter_rel R1 O1 h2 hn N1, h3, fun F' H' v P => ?_⟩
    obtain ⟨z1, z2, z3⟩ := leave_rel R R1 S1 O1 h2 hn N1 h4 P
    exact kq F' H' v z1 z2 z3
  · cases he
end
end MP

/-! A6: statements, the body of a def. -/
namespace MP
open PySem PySem.Spec L2
open PyProof.Rows hiding St

/-- a def's entry: how many parameters, what was frozen, the heap, the arguments; what is pinned by the loops around -/
structure Fx where
  np : Nat
  F0 : Addr → Prop
  H0 : Hp
  σ0 : St
  e0 : En
  /-- what stands still, not frozen -/
  Z : Hp
  /-- what stands still, frozen -/
  Y : Hp
  /-- the slots that a loop around has locked -/
  lks : Nat → Option Addr
/-- slots that are a parameter's own object -/
def Sl.isP : Sl → Prop
  | .own _ => True
  | .lk _ => True
  | .e _ => True
  | _ => False
structure SRel (K : PySem.W.Frag) (f : Fx) (F : Addr → Prop) (σ : St) (H : Hp) (e : En) : Prop where
  rel : Rel K f.H0 (Ow f.σ0 f.e0) F σ H e
  fr : ∀ a, f.F0 a → F a
  new : ∀ a, F a → f.F0 a ∨ f.H0 a = none ∨ Ow f.σ0 f.e0 a
  dom : ∀ a, f.H0 a ≠ none → H a ≠ none
  pv : ∀ (i : Nat) (c0 : Ct), f.e0[i]? = some (Sl.own c0) → i < f.np ∧ σ[i]? = f.σ0[i]? ∧ ∃ s : Sl, e[i]? = some s ∧ s.isP
  pin : ∀ a o, f.Z a = some o → H a = some o ∧ ¬ Ow σ e a ∧ ¬ F a
  yin : ∀ a o, f.Y a = some o → H a = some o ∧ F a
  pl : ∀ (i : Nat) (c0 : Ct), f.e0[i]? = some (Sl.lk c0) → i < f.np ∧ e[i]? = some (Sl.lk c0)
  lz : ∀ (i : Nat) (c : Ct), e[i]? = some (Sl.lk c) → (∃ c0, f.e0[i]? = some (Sl.lk c0)) ∨ ∃ a, f.lks i = some a ∧ σ[i]? = some (some (V.ref a))
  lo : ∀ (i : Nat) (c : Ct) (a : Addr), (e[i]? = some (Sl.own c) ∨ e[i]? = some (Sl.lk c)) → σ[i]? = some (some (V.ref a)) → f.np ≤ i → f.H0 a = none
theorem SlLe.isP {s s' : Sl} (h : SlLe s s') (p : s.isP) : s'.isP := by
  cases h <;> first | trivial | exact p
section
variable {K : PySem.W.Frag} {f : Fx} {F F' : Addr → Prop} {σ : St} {H H' : Hp} {e e' : En}
theorem SRel.step (R : SRel K f F σ H e) (R' : Rel K f.H0 (Ow f.σ0 f.e0) F' σ H' e') (S : Step F H σ e F' H' e') : SRel K f F' σ H' e' where
  rel := R'
  fr := fun a h => S.fr a (R.fr a h)
  new := fun a h => by
    rcases S.new a h with h | h | h
    · exact R.new a h
    · by_cases z : f.H0 a = none
      · exact .inr (.inl z)
      · exact absurd h (R.dom a z)
    · obtain ⟨i, c, hi, hs⟩ := h
      obtain ⟨b, q1, _, _, q4⟩ := R.rel.own i c hi
      rw [hs] at q1; cases q1
      exact .inr q4
  dom := fun a h => S.dom a (R.dom a h)
  pv := fun i c0 h => by
    obtain ⟨h1, h2, s, h3, h4⟩ := R.pv i c0 h
    obtain ⟨s', h5, h6⟩ := S.sls.get h3
    exact ⟨h1, h2, s', h5, h6.isP h4⟩
  pin := fun a o h => by
    obtain ⟨h1, h2, h3⟩ := R.pin a o h
    exact ⟨S.at_ a o h1 h2, fun z => h2 (S.ow a z), S.notF h3 (by rw [h1]; exact fun z => nomatch z) h2⟩
  yin := fun a o h => by
    obtain ⟨h1, h2⟩ := R.yin a o h
    exact ⟨S.at_ a o h1 fun z => R.rel.owNo z h2, S.fr a h2⟩
  pl := fun i c0 h => by
    obtain ⟨h1, h2⟩ := R.pl i c0 h
    obtain ⟨s', h3, h4⟩ := S.sls.get h2
    cases h4
    exact ⟨h1, h3⟩
  lz := fun i c h => by
    obtain ⟨s, h1, h2⟩ := S.sls.sl i _ h
    cases h2 with
    | lk c => exact R.lz i _ h1
  lo := fun i c a h hs hi => by
    rcases h with h | h
    · obtain ⟨s, h1, h2⟩ := S.sls.sl i _ h
      cases h2 with
      | own c c' => exact R.lo i c a (.inl h1) hs hi
    · obtain ⟨s, h1, h2⟩ := S.sls.sl i _ h
      cases h2 with
      | lk c => exact R.lo i _ a (.inr h1) hs hi
end

/-- what is wanted at a statement's end -/
def SEnd (K : PySem.W.Frag) (f : Fx) (D : Ends) (fl : Fl) (e' : En) : Prop := ∀ F' σ' H', SRel K f F' σ' H' e' →
  match fl with
  | .nx => D.nx σ' H'
  | .bk => D.bk σ' H'
  | .ct => D.ct σ' H'
  | .rt r => ∀ v, RvRel K F' H' f.H0 v r → D.rt v H'
def tSt (K : PySem.W.Frag) (np : Nat) (c : CS) : TS := fun D σ H => ∃ f F e fl e', f.np = np ∧ SRel K f F σ H e ∧ c e = some (fl, e') ∧ SEnd K f D fl e'
abbrev DenS (X : Cx) (np : Nat) (st : Stmt) (c : CS) : Prop := PS X st (tSt X.K np c)
abbrev DenB (X : Cx) (np : Nat) (st : List Stmt) (c : CS) : Prop := PSs X st (tSt X.K np c)

/-- from a statement's state to an expression's -/
theorem toE {K : PySem.W.Frag} {f : Fx} {F : Addr → Prop} {σ : St} {H : Hp} {e e1 : En} {op : Op} {a : CE} {Q : VK} (R : SRel K f F σ H e) (h : a e = some (op, e1))
    (k : ∀ F1 H1 v, SRel K f F1 σ H1 e1 → Step F H σ e F1 H1 e1 → OpRel K F1 H1 σ e1 H v op → Q v H1) : tE K a σ H Q :=
  ⟨f.H0, _, F, e, op, e1, R.rel, h, fun F1 H1 v R1 S1 O1 => k F1 H1 v (R.step R1 S1) S1 O1⟩
theorem toT {K : PySem.W.Frag} {f : Fx} {F : Addr → Prop} {σ : St} {H : Hp} {e e1 : En} {b : Bool} {a : CT} {Q : Bool → Hp → Prop} (R : SRel K f F σ H e) (h : a e = some (b, e1))
    (k : ∀ F1 H1, SRel K f F1 σ H1 e1 → Step F H σ e F1 H1 e1 → Q b H1) : tTs K a σ H Q :=
  ⟨f.H0, _, F, e, b, e1, R.rel, h, fun F1 H1 R1 S1 => k F1 H1 (R.step R1 S1) S1⟩

section
variable {X : Cx} {np : Nat} {st : Stmt} {rest : List Stmt} {c d : CS} {a b : Expr} {fa fb : CE} {t : CT} {pos : Pos}
theorem db_nil : DenB X np [] sNil := PSs.mono pss_nil fun D σ H q => by
  obtain ⟨f, F, e, fl, e', hnp, R, h, k⟩ := q
  cases h
  exact k F σ H R
theorem seq_run {K : PySem.W.Frag} : ∀ D σ H, tSt K np (sSeq c d) D σ H → tSeq (tSt K np c) (tSt K np d) D σ H := fun D σ H q => by
  obtain ⟨f, F, e, fl, e', hnp, R, h, k⟩ := q
  obtain ⟨⟨fl1, e1⟩, h1, h⟩ := bind_some h
  refine ⟨f, F, e, fl1, e1, hnp, R, h1, fun F1 σ1 H1 R1 => ?_⟩
  cases fl1 with
  | nx => exact ⟨f, F1, e1, fl, e', hnp, R1, h, k⟩
  | bk => cases h; exact k F1 σ1 H1 R1
  | ct => cases h; exact k F1 σ1 H1 R1
  | rt r => cases h; exact k F1 σ1 H1 R1
theorem db_cons (h1 : DenS X np st c) (h2 : DenB X np rest d) : DenB X np (st :: rest) (sSeq c d) := PSs.mono (pss_cons h1 h2) seq_run
theorem db_one (h1 : DenS X np st c) : DenB X np [st] c := pss_one h1
theorem ds_if {s1 s2 : List Stmt} (ht : DenT X a t) (h1 : DenB X np s1 c) (h2 : DenB X np s2 d) : DenS X np (.If a s1 s2 pos) (sIf t c d) := PS.mono (ps_if ht h1 h2) fun D σ H q => by
  obtain ⟨f, F, e, fl, e', hnp, R, h, k⟩ := q
  obtain ⟨⟨b, e1⟩, h1, h⟩ := bind_some h
  refine toT R h1 fun F1 H1 R1 S1 => ?_
  simp only at h
  cases b with
  | true => exact iteT ⟨f, F1, e1, fl, e', hnp, R1, by simpa using h, k⟩
  | false => exact iteF ⟨f, F1, e1, fl, e', hnp, R1, by simpa using h, k⟩
theorem ds_exp (ha : Den X a fa) (hs : swapsWith a none pos.line X.env = pure false := by rfl) : DenS X np (.Expr a pos) (sExp fa) := PS.mono (ps_expr ha hs) fun D σ H q => by
  obtain ⟨f, F, e, fl, e', hnp, R, h, k⟩ := q
  obtain ⟨⟨x, e1⟩, h1, h⟩ := bind_some h
  cases h
  exact toE R h1 fun F1 H1 v R1 S1 O1 => k F1 σ H1 R1
theorem ds_pass : DenS X np (.Pass pos) sNil := PS.mono ps_pass fun D σ H q => by
  obtain ⟨f, F, e, fl, e', hnp, R, h, k⟩ := q
  cases h
  exact k F σ H R
theorem ds_continue : DenS X np (.Continue pos) (fun e => some (.ct, e)) := PS.mono ps_continue fun D σ H q => by
  obtain ⟨f, F, e, fl, e', hnp, R, h, k⟩ := q
  cases h
  exact k F σ H R
/-- a statement that is never come to -/
theorem ds_never : DenS X np st (fun _ => none) := PS.mono ps_never fun D σ H q => by
  obtain ⟨f, F, e, fl, e', hnp, R, h, k⟩ := q
  cases h
theorem ds_retN : DenS X np (.Return none pos) sRetN := PS.mono ps_retN fun D σ H q => by
  obtain ⟨f, F, e, fl, e', hnp, R, h, k⟩ := q
  cases h
  exact k F σ H R _ .non

/-- an owned object frozen, in a statement's state -/
theorem frz_rel {K : PySem.W.Frag} {f : Fx} {F : Addr → Prop} {σ : St} {H : Hp} {e : En} {i : Nat} {c : Ct} (R : SRel K f F σ H e) (hi : e[i]? = some (Sl.own c)) {v : V} (hv : σ[i]? = some (some v)) :
    ∃ F', SRel K f F' σ H (e.set i (.e c.frz)) ∧ DV K F' H v c.frz ∧ Step F H σ e F' H (e.set i (.e c.frz)) := by
  have O : OpRel K F H σ e H v (.r i) := ⟨hv, _, hi, fun z => nomatch z⟩
  have hz : fz e (.r i) = some (c.frz, e.set i (.e c.frz)) := by simp only [fz, hi]
  obtain ⟨F2, R2, fr2, new2, sls2, dv⟩ := O.fz R.rel (fun _ _ => .inr trivial) hz
  have S2 : Step F H σ e F2 H _ := fz_step (K := K) (H0 := f.H0) (B := Ow f.σ0 f.e0) .refl fr2 new2 sls2
  exact ⟨F2, R.step R2 S2, dv, S2⟩
/-- a slot put -/
theorem put_rel {K : PySem.W.Frag} {f : Fx} {F' : Addr → Prop} {σ : St} {H : Hp} {e' : En} {i : Nat} {s : Sl} {v : V} (R' : SRel K f F' σ H e') (hfr : free f.np e' i = true) (hd : ∀ x, s = .d x → DV K F' H v x) (hno : s ≠ .no) (he : ∀ x, s ≠ .e x) (hlk : ∀ c, s ≠ .lk c)
    (hown : ∀ c, s = .own c → ∃ p, v = .ref p ∧ OwnAt K F' H p c ∧ ¬ F' p ∧ f.H0 p = none ∧ ¬ Ow σ e' p ∧ ¬ Lo σ e' p ∧ f.Z p = none) : SRel K f F' (σ.set i (some v)) H (e'.set i s) := by
  have il : i < e'.length := by
    have hf := hfr
    unfold free at hf
    split at hf
    · cases q : e'[i]? with
      | none => rw [q] at hf; cases hf
      | some t => exact (List.getElem?_eq_some_iff.mp q).1
    · simpa using hf
  have ilσ : i < σ.length := by rw [R'.rel.len]; exact il
  have oth : ∀ (j : Nat) (t : Sl), (e'.set i s)[j]? = some t → (j = i ∧ t = s) ∨ (j ≠ i ∧ e'[j]? = some t) := fun j t hj => by
    by_cases q : j = i
    · subst q
      rw [List.getElem?_set_self il] at hj; cases hj
      exact .inl ⟨rfl, rfl⟩
    · rw [List.getElem?_set_ne (Ne.symm q)] at hj
      exact .inr ⟨q, hj⟩
  have sat : (σ.set i (some v))[i]? = some (some v) := List.getElem?_set_self ilσ
  have sne : ∀ {j : Nat}, j ≠ i → (σ.set i (some v))[j]? = σ[j]? := fun {j} h => List.getElem?_set_ne (Ne.symm h)
  have apt : ∀ {j : Nat} {c c' : Ct} {p : Addr}, (e'[j]? = some (Sl.own c) ∨ e'[j]? = some (Sl.lk c)) → σ[j]? = some (some (V.ref p)) → s = .own c' → v ≠ .ref p := fun {j c c' p} hj hs hc hv => by
    obtain ⟨q, z1, _, _, _, z5, z6, _⟩ := hown c' hc
    rw [hv] at z1; cases z1
    rcases hj with hj | hj
    · exact z5 ⟨j, c, hj, hs⟩
    · exact z6 ⟨j, c, hj, hs⟩
  refine ⟨⟨by simp [R'.rel.len], R'.rel.dom, fun j x h => ?_, fun j c h => ?_, fun j c h => ?_, fun j l p c c' hj hl sj sl => ?_, R'.rel.frame, R'.rel.fnew⟩, R'.fr, R'.new, R'.dom, fun j c0 h0 => ?_, fun p o hp => ?_, R'.yin, fun j c0 h0 => ?_, fun j c h => ?_, fun j c a hj hs hi => ?_⟩
  · rcases h with h | h
    · rcases oth j _ h with ⟨rfl, q⟩ | ⟨ne, q⟩
      · exact ⟨v, sat, hd x q.symm⟩
      · rw [sne ne]; exact R'.rel.dat j x (.inl q)
    · rcases oth j _ h with ⟨rfl, q⟩ | ⟨ne, q⟩
      · exact absurd q.symm (he x)
      · rw [sne ne]; exact R'.rel.dat j x (.inr q)
  · rcases oth j _ h with ⟨rfl, q⟩ | ⟨ne, q⟩
    · obtain ⟨p, z1, z2, z3, z4, _⟩ := hown c q.symm
      exact ⟨p, by rw [sat, z1], z2, z3, .inl z4⟩
    · rw [sne ne]; exact R'.rel.own j c q
  · rcases oth j _ h with ⟨rfl, q⟩ | ⟨ne, q⟩
    · exact absurd q.symm (hlk c)
    · rw [sne ne]; exact R'.rel.lk j c q
  · have cas : ∀ {j : Nat} {c : Ct}, ((e'.set i s)[j]? = some (Sl.own c) ∨ (e'.set i s)[j]? = some (Sl.lk c)) → (j = i ∧ s = .own c) ∨ (j ≠ i ∧ (e'[j]? = some (Sl.own c) ∨ e'[j]? = some (Sl.lk c))) := fun {j c} h => by
      rcases h with h | h
      · rcases oth j _ h with ⟨q, z⟩ | ⟨q, z⟩
        · exact .inl ⟨q, z.symm⟩
        · exact .inr ⟨q, .inl z⟩
      · rcases oth j _ h with ⟨q, z⟩ | ⟨q, z⟩
        · exact absurd z.symm (hlk c)
        · exact .inr ⟨q, .inr z⟩
    rcases cas hj with ⟨rfl, q1⟩ | ⟨n1, q1⟩
    · rcases cas hl with ⟨rfl, q2⟩ | ⟨n2, q2⟩
      · rfl
      · rw [sat] at sj
        rw [sne n2] at sl
        exact absurd (Option.some.inj (Option.some.inj sj)) (apt q2 sl q1)
    · rcases cas hl with ⟨rfl, q2⟩ | ⟨n2, q2⟩
      · rw [sat] at sl
        rw [sne n1] at sj
        exact absurd (Option.some.inj (Option.some.inj sl)) (apt q1 sj q2)
      · rw [sne n1] at sj
        rw [sne n2] at sl
        exact R'.rel.inj j l p c c' q1 q2 sj sl
  · obtain ⟨h1, h2, t, h3, h4⟩ := R'.pv j c0 h0
    by_cases q : j = i
    · subst q
      have hf2 := hfr
      unfold free at hf2
      rw [if_pos h1, h3] at hf2
      cases t with
      | d x => exact h4.elim
      | no => exact h4.elim
      | own c => cases hf2
      | e x => cases hf2
      | lk c => cases hf2
    · exact ⟨h1, by rw [sne q]; exact h2, t, by rw [List.getElem?_set_ne (Ne.symm q)]; exact h3, h4⟩
  · obtain ⟨h1, h2, h3⟩ := R'.pin p o hp
    refine ⟨h1, fun ⟨j, c, hj, hs⟩ => ?_, h3⟩
    rcases oth j _ hj with ⟨rfl, z⟩ | ⟨ne, z⟩
    · obtain ⟨p', z1, _, _, _, _, _, z7⟩ := hown c z.symm
      rw [sat, z1] at hs; cases hs
      rw [z7] at hp; cases hp
    · rw [sne ne] at hs
      exact h2 ⟨j, c, z, hs⟩
  · obtain ⟨h1, h2⟩ := R'.pl j c0 h0
    by_cases q : j = i
    · subst q
      have hf2 := hfr
      unfold free at hf2
      rw [if_pos h1, h2] at hf2
      cases hf2
    · exact ⟨h1, by rw [List.getElem?_set_ne (Ne.symm q)]; exact h2⟩
  · rcases oth j _ h with ⟨rfl, z⟩ | ⟨ne, z⟩
    · exact absurd z.symm (hlk c)
    · rw [sne ne]; exact R'.lz j c z
  · rcases hj with hj | hj
    · rcases oth j _ hj with ⟨rfl, z⟩ | ⟨ne, z⟩
      · obtain ⟨p', z1, _, _, z4, _⟩ := hown c z.symm
        rw [sat, z1] at hs; cases hs
        exact z4
      · rw [sne ne] at hs
        exact R'.lo j c a (.inl z) hs hi
    · rcases oth j _ hj with ⟨rfl, z⟩ | ⟨ne, z⟩
      · exact absurd z.symm (hlk c)
      · rw [sne ne] at hs
        exact R'.lo j c a (.inr z) hs hi
/-- a slot stored -/
theorem stow_rel {K : PySem.W.Frag} {f : Fx} {Fs F : Addr → Prop} {σ : St} {Hs H : Hp} {es e e2 : En} {i : Nat} {x : Op} {s : Sl} {v : V} (R0 : SRel K f Fs σ Hs es) (R : SRel K f F σ H e) (S : Step Fs Hs σ es F H e) (O : OpRel K F H σ e Hs v x)
    (h : stow e x = some (s, e2)) (hf : free f.np e2 i = true) : ∃ F', SRel K f F' (σ.set i (some v)) H (e2.set i s) := by
  have h0 : ∀ p, Hs p = none → f.H0 p = none := fun p hp => by
    cases q : f.H0 p with
    | none => rfl
    | some o => exact absurd hp (R0.dom p (by rw [q]; exact fun z => nomatch z))
  have hz0 : ∀ p, Hs p = none → f.Z p = none := fun p hp => by
    cases q : f.Z p with
    | none => rfl
    | some o => rw [(R0.pin p o q).1] at hp; cases hp
  cases x with
  | v d =>
    cases h
    exact ⟨F, put_rel R hf (fun x hx => by cases hx; exact O) (fun z => nomatch z) (fun _ z => nomatch z) (fun _ z => nomatch z) fun c z => nomatch z⟩
  | o c =>
    cases h
    obtain ⟨p, h1, h2, h3, h4, h5, h6⟩ := O
    exact ⟨F, put_rel R hf (fun x hx => nomatch hx) (fun z => nomatch z) (fun _ z => nomatch z) (fun _ z => nomatch z) fun c' z => by
      cases z
      exact ⟨p, h1, h2, h3, h0 p h4, h5, h6, hz0 p h4⟩⟩
  | r n =>
    obtain ⟨h1, _⟩ := O
    simp only [stow] at h
    cases hi : e[n]? with
    | none => rw [hi] at h; cases h
    | some sl =>
      rw [hi] at h
      cases sl with
      | no => cases h
      | lk c => cases h
      | d x =>
        cases h
        obtain ⟨w, h3, h4⟩ := R.rel.dat n _ (.inl hi)
        rw [h1] at h3; cases h3
        exact ⟨F, put_rel R hf (fun x hx => by cases hx; exact h4) (fun z => nomatch z) (fun _ z => nomatch z) (fun _ z => nomatch z) fun c z => nomatch z⟩
      | e x =>
        cases h
        obtain ⟨w, h3, h4⟩ := R.rel.dat n _ (.inr hi)
        rw [h1] at h3; cases h3
        exact ⟨F, put_rel R hf (fun x hx => by cases hx; exact h4) (fun z => nomatch z) (fun _ z => nomatch z) (fun _ z => nomatch z) fun c z => nomatch z⟩
      | own c =>
        cases h
        obtain ⟨F2, R2, dv, S2⟩ := frz_rel R hi h1
        exact ⟨F2, put_rel R2 hf (fun x hx => by cases hx; exact dv) (fun z => nomatch z) (fun _ z => nomatch z) (fun _ z => nomatch z) fun c z => nomatch z⟩
/-- name = value -/
theorem ds_set {i : Nat} (hp : ∀ (te : TE), PE X a te → PS X st (tAsg te (gName i))) (ha : Den X a fa) : DenS X np st (sSet np i fa) := PS.mono (hp _ ha) fun D σ H q => by
  obtain ⟨f, F, e, fl, e', hnp, R, h, k⟩ := q
  subst hnp
  obtain ⟨⟨x, e1⟩, h1, h⟩ := bind_some h
  obtain ⟨⟨s, e2⟩, h2, h⟩ := bind_some h
  simp only at h
  split at h
  · rename_i hf
    cases h
    refine toE R h1 fun F1 H1 v R1 S1 O1 => ?_
    obtain ⟨F2, R2⟩ := stow_rel R R1 S1 O1 h2 hf
    exact k F2 _ H1 R2
  · cases h
/-- a slot emptied -/
theorem drop_rel {K : PySem.W.Frag} {f : Fx} {F : Addr → Prop} {σ : St} {H : Hp} {e : En} {i : Nat} (R : SRel K f F σ H e) (hi : f.np ≤ i) : SRel K f F σ H (e.set i .no) := by
  have oth : ∀ {j : Nat} {t : Sl}, (e.set i Sl.no)[j]? = some t → t ≠ .no → e[j]? = some t := fun {j t} hj ht => by
    by_cases q : j = i
    · subst q
      by_cases il : j < e.length
      · rw [List.getElem?_set_self il] at hj; cases hj; exact absurd rfl ht
      · rw [List.getElem?_eq_none (by simpa using il)] at hj; cases hj
    · rw [List.getElem?_set_ne (Ne.symm q)] at hj; exact hj
  have o1 : ∀ {j : Nat} {c : Ct}, (e.set i Sl.no)[j]? = some (Sl.own c) → e[j]? = some (Sl.own c) := fun h => oth h fun z => nomatch z
  have o2 : ∀ {j : Nat} {c : Ct}, (e.set i Sl.no)[j]? = some (Sl.lk c) → e[j]? = some (Sl.lk c) := fun h => oth h fun z => nomatch z
  have o3 : ∀ {j : Nat} {c : Ct}, ((e.set i Sl.no)[j]? = some (Sl.own c) ∨ (e.set i Sl.no)[j]? = some (Sl.lk c)) → e[j]? = some (Sl.own c) ∨ e[j]? = some (Sl.lk c) := fun h => h.elim (fun h => .inl (o1 h)) fun h => .inr (o2 h)
  refine ⟨⟨by simp [R.rel.len], R.rel.dom, fun j x h => R.rel.dat j x (h.elim (fun h => .inl (oth h fun z => nomatch z)) fun h => .inr (oth h fun z => nomatch z)), fun j c h => R.rel.own j c (o1 h), fun j c h => R.rel.lk j c (o2 h),
    fun j l a c c' hj hl => R.rel.inj j l a c c' (o3 hj) (o3 hl), R.rel.frame, R.rel.fnew⟩, R.fr, R.new, R.dom, fun j c0 h => ?_, fun a o h => ?_, R.yin, fun j c0 h => ?_, fun j c h => R.lz j c (o2 h), fun j c a h => R.lo j c a (o3 h)⟩
  · obtain ⟨h1, h2, s, h3, h4⟩ := R.pv j c0 h
    exact ⟨h1, h2, s, by rw [List.getElem?_set_ne (by omega)]; exact h3, h4⟩
  · obtain ⟨h1, h2, h3⟩ := R.pin a o h
    exact ⟨h1, fun ⟨j, c, hj, hs⟩ => h2 ⟨j, c, o1 hj, hs⟩, h3⟩
  · obtain ⟨h1, h2⟩ := R.pl j c0 h
    exact ⟨h1, by rw [List.getElem?_set_ne (by omega)]; exact h2⟩
theorem retv_rel {K : PySem.W.Frag} {f : Fx} {Fs F : Addr → Prop} {σ : St} {Hs H : Hp} {es e e2 : En} {x : Op} {r : Rv} {v : V} (R0 : SRel K f Fs σ Hs es) (R : SRel K f F σ H e) (S : Step Fs Hs σ es F H e) (O : OpRel K F H σ e Hs v x)
    (h : retv f.np e x = some (r, e2)) : ∃ F', SRel K f F' σ H e2 ∧ RvRel K F' H f.H0 v r := by
  have h0 : ∀ p, Hs p = none → f.H0 p = none := fun p hp => by
    cases q : f.H0 p with
    | none => rfl
    | some o => exact absurd hp (R0.dom p (by rw [q]; exact fun z => nomatch z))
  cases x with
  | v d =>
    cases h
    exact ⟨F, R, O⟩
  | o c =>
    cases h
    obtain ⟨p, h1, h2, h3, h4, _⟩ := O
    exact ⟨F, R, p, h1, h2, h3, h0 p h4⟩
  | r n =>
    obtain ⟨h1, _⟩ := O
    simp only [retv] at h
    cases hi : e[n]? with
    | none => rw [hi] at h; cases h
    | some sl =>
      rw [hi] at h
      cases sl with
      | no => cases h
      | lk c => cases h
      | d x =>
        cases h
        obtain ⟨w, h3, h4⟩ := R.rel.dat n _ (.inl hi)
        rw [h1] at h3; cases h3
        exact ⟨F, R, h4⟩
      | e x =>
        cases h
        obtain ⟨w, h3, h4⟩ := R.rel.dat n _ (.inr hi)
        rw [h1] at h3; cases h3
        exact ⟨F, R, h4⟩
      | own c =>
        simp only at h
        split at h
        · cases h
          obtain ⟨F2, R2, dv, S2⟩ := frz_rel R hi h1
          exact ⟨F2, R2, dv⟩
        · rename_i hnp
          cases h
          obtain ⟨a, h3, h4, h5, _⟩ := R.rel.own n c hi
          rw [h1] at h3; cases h3
          exact ⟨F, drop_rel R (Nat.le_of_not_lt hnp), a, rfl, h4, h5, R.lo n c a (.inl hi) h1 (Nat.le_of_not_lt hnp)⟩
theorem ds_ret (ha : Den X a fa) : DenS X np (.Return (some a) pos) (sRet np fa) := PS.mono (ps_ret ha) fun D σ H q => by
  obtain ⟨f, F, e, fl, e', hnp, R, h, k⟩ := q
  subst hnp
  obtain ⟨⟨x, e1⟩, h1, h⟩ := bind_some h
  obtain ⟨⟨r, e2⟩, h2, h⟩ := bind_some h
  cases h
  refine toE R h1 fun F1 H1 v R1 S1 O1 => ?_
  obtain ⟨F2, R2, V2⟩ := retv_rel R R1 S1 O1 h2
  exact k F2 _ H1 R2 v V2
end

/-! ### the body of a def -/
theorem outs_get : ∀ {ps : List Sl} {e : En} {i : Nat} {s : Sl}, (outs ps e)[i]? = some s → s = .no ∨ ∃ c0, ps[i]? = some (Sl.own c0) ∧ e[i]? = some s ∧ ((∃ c, s = .own c) ∨ ∃ x, s = .e x)
  | [], [], i, s, h => by simp [outs] at h
  | p :: ps, [], i, s, h => by
    have h : ((p :: ps).map fun _ => Sl.no)[i]? = some s := by cases p <;> simpa [outs] using h
    rw [List.getElem?_map] at h
    cases q : (p :: ps)[i]? with
    | none => rw [q] at h; cases h
    | some t => rw [q] at h; cases h; exact .inl rfl
  | [], e :: es, i, s, h => by simp [outs] at h
  | p :: ps, t :: e, i, s, h => by
    cases i with
    | zero =>
      cases p <;> cases t <;> simp [outs] at h <;> subst h <;> first | exact .inl rfl | exact .inr ⟨_, rfl, rfl, .inl ⟨_, rfl⟩⟩ | exact .inr ⟨_, rfl, rfl, .inr ⟨_, rfl⟩⟩
    | succ i =>
      have h' : (outs ps e)[i]? = some s := by cases p <;> cases t <;> simpa [outs] using h
      rcases outs_get h' with q | ⟨c0, q1, q2, q3⟩
      · exact .inl q
      · exact .inr ⟨c0, by simpa using q1, by simpa using q2, q3⟩
theorem outs_len : ∀ {ps : List Sl} {e : En}, (outs ps e).length = ps.length
  | [], [] => rfl
  | [], _ :: _ => rfl
  | p :: ps, [] => by simp [outs]
  | p :: ps, t :: e => by
    have := outs_len (ps := ps) (e := e)
    cases p <;> cases t <;> simp [outs, this]
theorem post_of {K : PySem.W.Frag} {f : Fx} {F : Addr → Prop} {H : Hp} {vs : List V} {ps : List Sl} {F' : Addr → Prop} {σ' : St} {H' : Hp} {e' : En} {v : V} {r : Rv} (h0 : f = ⟨ps.length, F, H, vs.map some, ps, fun _ => none, fun _ => none, fun _ => none⟩) (hl : vs.length = ps.length)
    (R : SRel K f F' σ' H' e') (hv : RvRel K F' H' H v r) : Post K F H vs ps F' H' v r (outs ps e') := by
  subst h0
  have key : ∀ {i : Nat} {s : Sl}, (outs ps e')[i]? = some s → s ≠ .no → e'[i]? = some s ∧ σ'[i]? = (vs.map some)[i]? := fun {i s} h hs => by
    rcases outs_get h with q | ⟨c0, q1, q2, _⟩
    · exact absurd q hs
    · exact ⟨q2, (R.pv i c0 q1).2.1⟩
  refine ⟨⟨by rw [outs_len]; simp [hl], R.rel.dom, fun i x h => ?_, fun i c h => ?_, fun i c h => ?_, fun i j a c c' hi hj si sj => ?_, R.rel.frame, R.rel.fnew⟩, R.fr, R.new, R.dom, hv⟩
  · rcases h with h | h
    · obtain ⟨h1, h2⟩ := key h fun z => nomatch z
      rw [← h2]; exact R.rel.dat i x (.inl h1)
    · obtain ⟨h1, h2⟩ := key h fun z => nomatch z
      rw [← h2]; exact R.rel.dat i x (.inr h1)
  · obtain ⟨h1, h2⟩ := key h fun z => nomatch z
    rw [← h2]; exact R.rel.own i c h1
  · obtain ⟨h1, h2⟩ := key h fun z => nomatch z
    rw [← h2]; exact R.rel.lk i c h1
  · have g : ∀ {m : Nat} {cc : Ct}, ((outs ps e')[m]? = some (Sl.own cc) ∨ (outs ps e')[m]? = some (Sl.lk cc)) → (e'[m]? = some (Sl.own cc) ∨ e'[m]? = some (Sl.lk cc)) ∧ σ'[m]? = (vs.map some)[m]? := fun {m cc} hm => by
      rcases hm with hm | hm
      · obtain ⟨h1, h2⟩ := key hm fun z => nomatch z
        exact ⟨.inl h1, h2⟩
      · obtain ⟨h1, h2⟩ := key hm fun z => nomatch z
        exact ⟨.inr h1, h2⟩
    obtain ⟨i1, i2⟩ := g hi
    obtain ⟨j1, j2⟩ := g hj
    exact R.rel.inj i j a c c' i1 j1 (by rw [i2]; exact si) (by rw [j2]; exact sj)
theorem fn_ok {P : Program} {w : World} {K : PySem.W.Frag} {mg : Str → Option Value} {base : Heap} {x qual : Str} {st : Stmt} {f : Addr} {fd : FuncData} {N ps : List Str} {k np ns : Nat} {body : CS} (F : Fun K x qual st f fd) (S : FnScope N ps (defScope st)) (hnp : ps.length = np) (hns : N.length = ns)
    (hb : ∀ (cdv : Value) (A : Around) (outer : List Env) (s : Shared) (H : Hp) (E : XK), Room k (A.deeper (envOfC qual (defScope st) s.heap.objs.size f cdv)) → DenB (cxOf CX0 P w K mg base N qual (defScope st) f cdv A outer s H E).nox np (defBody st) body) :
    FnOk P w K mg base CX0 (k + 1) f fd ps (spF K (mkFn np ns body)) := by
  have hlen : ∀ vs H Q E, spF K (mkFn np ns body) vs H Q E → vs.length = np := fun vs H Q E h => by
    obtain ⟨F0, ps0, r, ps', R, h1, _⟩ := h
    unfold mkFn at h1
    split at h1
    · rename_i hl
      have := R.len
      simp at this
      omega
    · cases h1
  refine F.ok S (fun vs H Q E h => by rw [hlen vs H Q E h, hnp]) fun cdv A outer s H vs Q E hr h => ⟨_, hb cdv A outer s H E hr, ?_⟩
  have hvl := hlen vs H Q E h
  obtain ⟨F0, ps0, r, ps', R, h1, hk⟩ := h
  unfold mkFn at h1
  split at h1
  · rename_i hl
    obtain ⟨⟨fl, e'⟩, h2, h1⟩ := bind_some h1
    have hN : ps.length ≤ N.length := by have := congrArg List.length S.pre; rw [List.length_take] at this; omega
    have hst : start N vs = vs.map some ++ List.replicate (N.length - vs.length) none := rfl
    have e_at : ∀ {i : Nat} {t : Sl}, (ps0 ++ List.replicate (ns - np) Sl.no)[i]? = some t → t ≠ .no → ps0[i]? = some t ∧ (start N vs)[i]? = (vs.map some)[i]? := fun {i t} h ht => by
      by_cases hi : i < ps0.length
      · rw [List.getElem?_append_left hi] at h
        refine ⟨h, ?_⟩
        rw [hst, List.getElem?_append_left (by simp; omega)]
      · rw [List.getElem?_append_right (by omega), List.getElem?_replicate] at h
        split at h
        · cases h; exact absurd rfl ht
        · cases h
    have e_own : ∀ {i : Nat} {c : Ct}, (ps0 ++ List.replicate (ns - np) Sl.no)[i]? = some (Sl.own c) → ps0[i]? = some (Sl.own c) ∧ (start N vs)[i]? = (vs.map some)[i]? := fun h => e_at h fun z => nomatch z
    have e_lk : ∀ {i : Nat} {c : Ct}, (ps0 ++ List.replicate (ns - np) Sl.no)[i]? = some (Sl.lk c) → ps0[i]? = some (Sl.lk c) ∧ (start N vs)[i]? = (vs.map some)[i]? := fun h => e_at h fun z => nomatch z
    have e_or : ∀ {i : Nat} {c : Ct}, ((ps0 ++ List.replicate (ns - np) Sl.no)[i]? = some (Sl.own c) ∨ (ps0 ++ List.replicate (ns - np) Sl.no)[i]? = some (Sl.lk c)) → (ps0[i]? = some (Sl.own c) ∨ ps0[i]? = some (Sl.lk c)) ∧ (start N vs)[i]? = (vs.map some)[i]? := fun h => by
      rcases h with h | h
      · exact ⟨.inl (e_own h).1, (e_own h).2⟩
      · exact ⟨.inr (e_lk h).1, (e_lk h).2⟩
    have R0 : SRel K ⟨ps0.length, F0, H, vs.map some, ps0, fun _ => none, fun _ => none, fun _ => none⟩ F0 (start N vs) H (ps0 ++ List.replicate (ns - np) .no) := by
      refine ⟨⟨?_, R.dom, fun i y h => ?_, fun i c h => ?_, fun i c h => ?_, fun i j a c c' hi hj si sj => ?_, fun a o h _ => h, R.dom⟩, fun _ h => h, fun _ h => .inl h, fun _ h => h, fun i c0 h => ?_, fun a o h => (nomatch h), fun a o h => (nomatch h), fun i c0 h => ?_, fun i c h => .inl ⟨c, (e_lk h).1⟩, fun i c a h _ hi => ?_⟩
      · rw [hst]; simp; omega
      · rcases h with h | h
        · obtain ⟨h1, h2⟩ := e_at h fun z => nomatch z
          rw [h2]; exact R.dat i y (.inl h1)
        · obtain ⟨h1, h2⟩ := e_at h fun z => nomatch z
          rw [h2]; exact R.dat i y (.inr h1)
      · obtain ⟨h1, h2⟩ := e_own h
        rw [h2]; exact R.own i c h1
      · obtain ⟨h1, h2⟩ := e_lk h
        rw [h2]; exact R.lk i c h1
      · obtain ⟨i1, i2⟩ := e_or hi
        obtain ⟨j1, j2⟩ := e_or hj
        exact R.inj i j a c c' i1 j1 (by rw [← i2]; exact si) (by rw [← j2]; exact sj)
      · have hi : i < ps0.length := (List.getElem?_eq_some_iff.mp h).1
        refine ⟨hi, ?_, Sl.own c0, by rw [List.getElem?_append_left hi]; exact h, trivial⟩
        rw [hst, List.getElem?_append_left (by simp; omega)]
      · have hi : i < ps0.length := (List.getElem?_eq_some_iff.mp h).1
        exact ⟨hi, by rw [List.getElem?_append_left hi]; exact h⟩
      · have q : ps0[i]? = some (Sl.own c) ∨ ps0[i]? = some (Sl.lk c) := (e_or h).1
        have hi' : i < ps0.length := by rcases q with q | q <;> exact (List.getElem?_eq_some_iff.mp q).1
        exact absurd hi' (Nat.not_lt.mpr hi)
    refine ⟨⟨ps0.length, F0, H, vs.map some, ps0, fun _ => none, fun _ => none, fun _ => none⟩, F0, _, fl, e', hl, R0, h2, fun F' σ' H' R' => ?_⟩
    cases fl with
    | nx =>
      cases h1
      exact hk F' H' _ (post_of rfl (by omega) R' .non)
    | bk => cases h1
    | ct => cases h1
    | rt r' =>
      cases h1
      exact fun v hv => hk F' H' v (post_of rfl (by omega) R' hv)
  · cases h1
end MP

/-! A7: what is walked; for, while. -/
namespace MP
open PySem PySem.Spec L2
open PyProof.Rows hiding St

/-- the iterator J walks the items, wherever what Z pins stands and what was frozen at the start is so still -/
structure WalkOf (K : PySem.W.Frag) (J : It) (Z : Hp) (F0 : Addr → Prop) (H0 : Hp) (items : List PyData) : Prop where
  go : ∀ (i : Nat) (F : Addr → Prop) (H : Hp), i < items.length → Keep F0 H0 F H → DomF F H → (∀ a o, Z a = some o → H a = some o) → J.go i H ∧ ∀ x H', J.yld i H x H' → ∃ F' d, Grow F H F' H' ∧ items[i]? = some d ∧ DV K F' H' x d
  stop : ∀ (F : Addr → Prop) (H : Hp), Keep F0 H0 F H → (∀ a o, Z a = some o → H a = some o) → J.stop items.length H
/-- what may be pinned: unfrozen things, owned by no slot but those at wk; lists and dicts of known kind -/
structure PinZ (F : Addr → Prop) (H : Hp) (σ : St) (e : En) (wk : List Nat) (Z : Hp) : Prop where
  at_ : ∀ a o, Z a = some o → H a = some o ∧ ¬ F a ∧ (∀ (i : Nat) (c : Ct), e[i]? = some (Sl.own c) → σ[i]? = some (some (V.ref a)) → i ∈ wk)
  all : ∀ i ∈ wk, ∃ c a, e[i]? = some (Sl.own c) ∧ σ[i]? = some (some (V.ref a)) ∧ ∃ o, Z a = some o ∧ ∀ ob u, o ≠ .frz ob u
  nd : wk.Nodup
def tI (K : PySem.W.Frag) (ci : CI) : TI := fun σ H R => ∃ H0 B F e xs wk e', Rel K H0 B F σ H e ∧ ci e = some (xs, wk, e') ∧
  ∀ F' H' J Z, Rel K H0 B F' σ H' e' → Step F H σ e F' H' e' → PinZ F' H' σ e' wk Z → WalkOf K J Z F' H' xs → R J H'
abbrev DenI (X : Cx) (tg iter : Expr) (ci : CI) : Prop := PI X tg iter (tI X.K ci)
theorem PI.mono {X : Cx} {tg iter : Expr} {t t' : TI} (h : PI X tg iter t) (k : ∀ σ H R, t' σ H R → t σ H R) : PI X tg iter t' := ⟨fun pins s σ H R I q => h.run pins s σ H R I (k σ H R q)⟩

/-! ### lists, tuples -/
section
variable {K : PySem.W.Frag} {H0 : Hp} {B F : Addr → Prop} {σ : St} {H Hs : Hp} {e : En}
/-- a list or tuple that an operand is: its address, its values, what pins it -/
theorem seq_at (R : Rel K H0 B F σ H e) {v : V} {x : Op} {d : PyData} {xs : List PyData} (O : OpRel K F H σ e Hs v x) (h1 : vw e x = some d) (h2 : seqD d = some xs) :
    ∃ a vs Z, v = .ref a ∧ PinZ F H σ e (owns e [x]) Z ∧ DAll K F H vs xs ∧
      ((∀ F' H', Keep F H F' H' → (∀ b o, Z b = some o → H' b = some o) → SqL K H' a vs) ∨ ∀ F' H', Keep F H F' H' → (∀ b o, Z b = some o → H' b = some o) → SqT K H' a vs) := by
  -- frozen data
  have fro : owns e [x] = [] → DV K F H v d → ∃ a vs Z, v = .ref a ∧ PinZ F H σ e (owns e [x]) Z ∧ DAll K F H vs xs ∧
      ((∀ F' H', Keep F H F' H' → (∀ b o, Z b = some o → H' b = some o) → SqL K H' a vs) ∨ ∀ F' H', Keep F H F' H' → (∀ b o, Z b = some o → H' b = some o) → SqT K H' a vs) := fun ho hd => by
    have pz : PinZ F H σ e (owns e [x]) (fun _ => none) := ⟨fun _ _ h => (nomatch h), fun i hi => by (rw [ho] at hi; cases hi), by rw [ho]; exact List.nodup_nil⟩
    cases hd with
    | lst f h a => cases h2; exact ⟨_, _, _, rfl, pz, a, .inl fun F' H' k _ => SqL.of (k.at_ _ _ f h)⟩
    | tup f h a => cases h2; exact ⟨_, _, _, rfl, pz, a, .inr fun F' H' k _ => SqT.of (k.at_ _ _ f h)⟩
    | tupK l c s z r a => cases h2; exact ⟨_, _, _, rfl, pz, a, .inr fun F' H' k _ => .inr ⟨_, _, _, l, c, s, z, r⟩⟩
    | lstK l c d s z r a => cases h2; exact ⟨_, _, _, rfl, pz, a, .inl fun F' H' k _ => .inr ⟨_, _, _, l, c, d, s, z, r⟩⟩
    | _ => cases h2
  cases x with
  | v d' =>
    have h1 : some d' = some d := h1
    cases h1
    exact fro rfl O
  | o c =>
    have h1 : some c.frz = some d := h1
    cases h1
    obtain ⟨p, rfl, q2, q3, q4, q5, q6⟩ := O
    cases c with
    | dct kvs => cases h2
    | lst ys =>
      cases h2
      obtain ⟨vs, w1, w2⟩ := q2
      refine ⟨p, vs, fun b => if b = p then some (.lst vs) else none, rfl, ⟨fun b o h => ?_, fun i hi => (nomatch hi), List.nodup_nil⟩, w2, .inl fun F' H' _ hz => SqL.of (hz p _ (by simp))⟩
      by_cases hb : b = p
      · subst hb
        simp at h; subst h
        exact ⟨w1, q3, fun i c hi hs => (q5 ⟨i, c, hi, hs⟩).elim⟩
      · simp [hb] at h
  | r n =>
    obtain ⟨s1, _⟩ := O
    simp only [MP.vw] at h1
    cases hi : e[n]? with
    | none => rw [hi] at h1; cases h1
    | some sl =>
      have hi' : e[n]? = some sl := hi
      rw [hi] at h1
      cases sl with
      | no => cases h1
      | d y =>
        cases h1
        obtain ⟨w, z1, z2⟩ := R.dat n _ (.inl hi)
        rw [s1] at z1; cases z1
        exact fro (by simp [owns, hi']) z2
      | e y =>
        cases h1
        obtain ⟨w, z1, z2⟩ := R.dat n _ (.inr hi)
        rw [s1] at z1; cases z1
        exact fro (by simp [owns, hi']) z2
      | own c =>
        cases h1
        obtain ⟨p, z1, z2, z3, _⟩ := R.own n _ hi
        rw [s1] at z1; cases z1
        cases c with
        | dct kvs => cases h2
        | lst ys =>
          cases h2
          obtain ⟨vs, w1, w2⟩ := z2
          refine ⟨p, vs, fun b => if b = p then some (.lst vs) else none, rfl, ⟨fun b o h => ?_, fun i hi2 => ?_, by simp [owns, hi']⟩, w2, .inl fun F' H' _ hz => SqL.of (hz p _ (by simp))⟩
          · by_cases hb : b = p
            · subst hb
              simp at h; subst h
              refine ⟨w1, z3, fun i c hic hs => ?_⟩
              have := R.inj i n b c _ (.inl hic) (.inl hi) hs s1
              subst this
              simp [owns, hi']
            · simp [hb] at h
          · have : i = n := by simpa [owns, hi'] using hi2
            subst this
            exact ⟨_, p, hi, s1, .lst vs, by simp, fun _ _ z => nomatch z⟩
      | lk c =>
        cases h1
        obtain ⟨p, z1, z2, z3⟩ := R.lk n _ hi
        rw [s1] at z1; cases z1
        cases c with
        | dct kvs => cases h2
        | lst ys =>
          cases h2
          obtain ⟨vs, w1, w2⟩ := z2
          have pz : ∀ o : HO, H p = some o → PinZ F H σ e (owns e [.r n]) (fun b => if b = p then some o else none) := fun o ho => ⟨fun b o' h => by
            by_cases hb : b = p
            · subst hb
              simp at h; subst h
              refine ⟨ho, z3, fun i c hic hs => ?_⟩
              have := R.inj i n b c _ (.inl hic) (.inr hi) hs s1
              subst this
              rw [hic] at hi; cases hi
            · simp [hb] at h, fun i hi2 => by simp [owns, hi'] at hi2, by simp [owns, hi']⟩
          rcases w1 with w1 | ⟨o, w1⟩
          · exact ⟨p, vs, _, rfl, pz _ w1, w2, .inl fun F' H' _ hz => .inl (.inl (hz p _ (by simp)))⟩
          · exact ⟨p, vs, _, rfl, pz _ w1, w2, .inl fun F' H' _ hz => .inl (.inr ⟨o, hz p _ (by simp)⟩)⟩
theorem getElem_none {α : Type} {l : List α} {i : Nat} (h : l.length ≤ i) : l[i]? = none := List.getElem?_eq_none_iff.mpr h
theorem walk_list {a : Addr} {vs : List V} {xs : List PyData} {Z : Hp} {F0 : Addr → Prop} {H0 : Hp} (d : DAll K F0 H0 vs xs) (hs : ∀ F' H', Keep F0 H0 F' H' → (∀ b o, Z b = some o → H' b = some o) → SqL K H' a vs) :
    WalkOf K (Itl K a) Z F0 H0 xs where
  go := fun i F H hi k dm hz => by
    have q := hs F H k hz
    have hv : i < vs.length := by rw [d.length]; exact hi
    obtain ⟨dd, h1, h2⟩ := d.getV (List.getElem?_eq_getElem hv)
    refine ⟨⟨vs, _, q, List.getElem?_eq_getElem hv⟩, fun x H' y => ?_⟩
    obtain ⟨rfl, y2⟩ := y
    have := y2 vs q
    rw [List.getElem?_eq_getElem hv] at this; cases this
    exact ⟨F, dd, Grow.refl dm, h1, h2.keep k⟩
  stop := fun F H k hz => ⟨vs, hs F H k hz, by rw [d.length]; exact Nat.le_refl _⟩
theorem walk_tup {a : Addr} {vs : List V} {xs : List PyData} {Z : Hp} {F0 : Addr → Prop} {H0 : Hp} (d : DAll K F0 H0 vs xs) (hs : ∀ F' H', Keep F0 H0 F' H' → (∀ b o, Z b = some o → H' b = some o) → SqT K H' a vs) :
    WalkOf K (Itt K a) Z F0 H0 xs where
  go := fun i F H hi k dm hz => by
    have q := hs F H k hz
    have hv : i < vs.length := by rw [d.length]; exact hi
    obtain ⟨dd, h1, h2⟩ := d.getV (List.getElem?_eq_getElem hv)
    refine ⟨⟨vs, _, q, List.getElem?_eq_getElem hv⟩, fun x H' y => ?_⟩
    obtain ⟨rfl, y2⟩ := y
    have := y2 vs q
    rw [List.getElem?_eq_getElem hv] at this; cases this
    exact ⟨F, dd, Grow.refl dm, h1, h2.keep k⟩
  stop := fun F H k hz => ⟨vs, hs F H k hz, by rw [d.length]; exact Nat.le_refl _⟩
theorem walk_range {Z : Hp} {F0 : Addr → Prop} {H0 : Hp} {lo c : Int} {n : Nat} : WalkOf K (Itc lo c n) Z F0 H0 (rangeD lo n c) where
  go := fun i F H hi k dm hz => by
    have hn : i < n := by simpa [rangeD] using hi
    refine ⟨hn, fun x H' y => ?_⟩
    obtain ⟨rfl, rfl⟩ := y
    exact ⟨F, _, Grow.refl dm, by simp [rangeD, hn], .int _⟩
  stop := fun F H k hz => by
    show n ≤ (rangeD lo n c).length
    simp [rangeD]
end
section
variable {X : Cx} {tg a : Expr} {es : List Expr} {fa : CE} {fr : CA} {pos p : Pos}
def iSeq (K : PySem.W.Frag) (tl : TE) : TI := fun σ H R => tl σ H fun v H1 => ∃ a vs, v = .ref a ∧ ((SqL K H1 a vs ∧ R (Itl K a) H1) ∨ (SqT K H1 a vs ∧ R (Itt K a) H1))
theorem pi_seq {l : Expr} {tl : TE} (hl : PE X l tl) : PI X tg l (iSeq X.K tl) := by
  refine ⟨fun pins s σ H R I h => ?_⟩
  refine thn (hl.run pins s σ H _ I h) fun v s1 ⟨x, H1, I1, r1, q1⟩ => ?_
  obtain ⟨a, vs, e, q⟩ := q1
  subst e
  cases r1
  have fin : ∀ b ∈ [s1.heap.objs.size], FpOk X pins H1 b := fun b hb => by
    have e : b = s1.heap.objs.size := by simpa using hb
    subst e
    exact I1.fpOk (Nat.le_refl _) (I1.hok.fresh (Nat.le_refl _))
  rcases q with ⟨hq, q⟩ | ⟨hq, q⟩
  · obtain ⟨its, rv, p, hz⟩ := I1.list hq
    refine wpAny_pyIter_list p.isList ?_
    exact ⟨s1.heap.objs.size, [s1.heap.objs.size], _, _, H1, rfl, I1.kept (t' := s1.toks) fun b o e => Heap.get?_push_of_some _ e, turn_list a _, ⟨_, Heap.get?_push_size _ rfl, rfl, rfl⟩, fin, q⟩
  · obtain ⟨its, rv, p, hz⟩ := I1.tuple hq
    refine wpAny_pyIter_tuple (show s1.heap.IsTuple a its.toArray from p) ?_
    exact ⟨s1.heap.objs.size, [s1.heap.objs.size], _, _, H1, rfl, I1.kept (t' := s1.toks) fun b o e => Heap.get?_push_of_some _ e, turn_tuple a _, ⟨_, Heap.get?_push_size _ rfl, rfl, rfl⟩, fin, q⟩
/-- for x in a list or a tuple -/
theorem di_seq (ha : Den X a fa) : DenI X tg a (iE fa) := PI.mono (pi_seq ha) fun σ H R q => by
  obtain ⟨H0, B, F, e, xs, wk, e', R0, he, k⟩ := q
  obtain ⟨⟨x, e1⟩, h1, he⟩ := bind_some he
  obtain ⟨d, h2, he⟩ := bind_some he
  obtain ⟨ys, h3, he⟩ := bind_some he
  cases he
  refine ⟨H0, B, F, e, x, _, R0, h1, fun F1 H1 v R1 S1 O1 => ?_⟩
  obtain ⟨a, vs, Z, rfl, pz, da, hs⟩ := seq_at R1 O1 h2 h3
  have z0 : ∀ b o, Z b = some o → H1 b = some o := fun b o h => (pz.at_ b o h).1
  rcases hs with hs | hs
  · exact ⟨a, vs, rfl, .inl ⟨hs F1 H1 (.refl _ _) z0, k F1 H1 _ Z R1 S1 pz (walk_list da hs)⟩⟩
  · exact ⟨a, vs, rfl, .inr ⟨hs F1 H1 (.refl _ _) z0, k F1 H1 _ Z R1 S1 pz (walk_tup da hs)⟩⟩
theorem pz_nil {F : Addr → Prop} {H : Hp} {σ : St} {e : En} : PinZ F H σ e [] (fun _ => none) := ⟨fun _ _ h => (nomatch h), fun _ h => (nomatch h), List.nodup_nil⟩
theorem walk_rangeR {K : PySem.W.Frag} {Z : Hp} {F0 : Addr → Prop} {H0 : Hp} {lo : Int} {n : Nat} : WalkOf K (Itr lo n) Z F0 H0 (rangeD lo n 1) where
  go := fun i F H hi k dm hz => by
    have hn : i < n := by simpa [rangeD] using hi
    refine ⟨hn, fun x H' y => ?_⟩
    obtain ⟨rfl, rfl⟩ := y
    exact ⟨F, .int (lo + (i : Nat) * 1), Grow.refl dm, by simp [rangeD, hn], by simpa using DV.int _⟩
  stop := fun F H k hz => by
    show n ≤ (rangeD lo n 1).length
    simp [rangeD]
theorem RVs.cons {K : PySem.W.Frag} {F : Addr → Prop} {H : Hp} {vs : List V} {d : PyData} {ds : List PyData} (h : RVs K F H vs (d :: ds)) : ∃ v r, vs = v :: r ∧ RV K F H v d ∧ RVs K F H r ds := by
  cases vs with
  | nil => exact h.elim
  | cons v r => exact ⟨v, r, rfl, h.1, h.2⟩
theorem RVs.nil {K : PySem.W.Frag} {F : Addr → Prop} {H : Hp} {vs : List V} (h : RVs K F H vs []) : vs = [] := by
  cases vs with
  | nil => rfl
  | cons v r => exact h.elim
theorem RVs.ints : ∀ {K : PySem.W.Frag} {F : Addr → Prop} {H : Hp} {vs : List V} {is : List Int}, RVs K F H vs (is.map .int) → vs = is.map V.int
  | _, _, _, vs, [], h => RVs.nil h
  | _, _, _, vs, i :: is, h => by
    obtain ⟨v, r, rfl, h1, h2⟩ := RVs.cons h
    rw [h1.int, RVs.ints h2]; rfl
theorem small62_of {i : Int} (h : small62 i = true) : -(2 ^ 62) ≤ i ∧ i < 2 ^ 62 := by
  simp [small62] at h
  omega
variable {b c : Expr} {fb fc : CE}
theorem di_range1 (hg : Gl X "range") (hm : X.mg "range" = none) (ha : Den X a fa) (hs : starEach [a] X.env = [(false, eval a X.env)] := by rfl) : DenI X tg (.Call (.Name "range" p) [a] [] pos) (iRange1 fa) := PI.mono (pi_range1 hg hm (pa_cons ha pa_nil hs) hs) fun σ H R q => by
  obtain ⟨H0, B, F, e, xs, wk, e', R0, he, k⟩ := q
  obtain ⟨⟨x, e1⟩, h1, he⟩ := bind_some he
  refine ⟨H0, B, F, e, x, e1, R0, h1, fun F1 H1 v R1 S1 O1 => ?_⟩
  simp only at he
  cases hd : vw e1 x with
  | none => rw [hd] at he; cases he
  | some d =>
    rw [hd] at he
    cases d with
    | int j =>
      simp only at he
      split at he
      · rename_i hz
        cases he
        have := (O1.vw R1 hd).int
        subst this
        obtain ⟨z1, z2⟩ := small62_of hz
        exact ⟨j, rfl, z1, z2, k F1 H1 _ _ R1 S1 pz_nil walk_rangeR⟩
      · cases he
    | _ => cases he
theorem di_range2 (hg : Gl X "range") (hm : X.mg "range" = none) (ha : Den X a fa) (hb : Den X b fb) (hs : starEach [a, b] X.env = (false, eval a X.env) :: starEach [b] X.env := by rfl) (hs2 : starEach [b] X.env = [(false, eval b X.env)] := by rfl) (hs3 : starEach [a, b] X.env = [(false, eval a X.env), (false, eval b X.env)] := by rfl) :
    DenI X tg (.Call (.Name "range" p) [a, b] [] pos) (iRange2 fa fb) := PI.mono (pi_range2 hg hm (pa_cons ha (pa_cons hb pa_nil hs2) hs) hs3 hs2) fun σ H R q => by
  obtain ⟨H0, B, F, e, xs, wk, e', R0, he, k⟩ := q
  obtain ⟨⟨x, e1⟩, h1, he⟩ := bind_some he
  obtain ⟨⟨y, e2⟩, h2, he⟩ := bind_some he
  refine ⟨H0, B, F, e, x, e1, R0, h1, fun F1 H1 v R1 S1 O1 => ?_⟩
  refine ⟨H0, B, F1, e1, y, e2, R1, h2, fun F2 H2 w R2 S2 O2 => ?_⟩
  have O1 := O1.step R1 S2
  simp only at he
  cases hd : vw e2 x with
  | none => rw [hd] at he; cases he
  | some d =>
    cases hd2 : vw e2 y with
    | none => rw [hd, hd2] at he; cases d <;> cases he
    | some d2 =>
      rw [hd, hd2] at he
      cases d with
      | int i =>
        cases d2 with
        | int j =>
          simp only at he
          split at he
          · rename_i hz
            cases he
            rw [Bool.and_eq_true] at hz
            have := (O1.vw R2 hd).int
            subst this
            have := (O2.vw R2 hd2).int
            subst this
            obtain ⟨z1, z2⟩ := small62_of hz.1
            obtain ⟨z3, z4⟩ := small62_of hz.2
            exact ⟨i, j, rfl, ⟨z1, z2, z3, z4⟩, k F2 H2 _ _ R2 (S1.trans S2) pz_nil walk_rangeR⟩
          · cases he
        | _ => cases he
      | _ => cases he
theorem di_range3 (hg : Gl X "range") (hm : X.mg "range" = none) (ha : Den X a fa) (hb : Den X b fb) (hc : Den X c fc) (hs : starEach [a, b, c] X.env = (false, eval a X.env) :: starEach [b, c] X.env := by rfl) (hs1 : starEach [b, c] X.env = (false, eval b X.env) :: starEach [c] X.env := by rfl)
    (hs2 : starEach [c] X.env = [(false, eval c X.env)] := by rfl) (hpl : (backTo pos (starEach [b, c] X.env)).any (·.1) = false := by rfl) :
    DenI X tg (.Call (.Name "range" p) [a, b, c] [] pos) (iRange3 fa fb fc) := PI.mono (pi_range3 hg hm (pa_cons ha (pa_cons hb (pa_cons hc pa_nil hs2) hs1) hs) hs hpl) fun σ H R q => by
  obtain ⟨H0, B, F, e, xs, wk, e', R0, he, k⟩ := q
  obtain ⟨⟨x, e1⟩, h1, he⟩ := bind_some he
  obtain ⟨⟨y, e2⟩, h2, he⟩ := bind_some he
  obtain ⟨⟨z, e3⟩, h3, he⟩ := bind_some he
  refine ⟨H0, B, F, e, x, e1, R0, h1, fun F1 H1 v R1 S1 O1 => ?_⟩
  refine ⟨H0, B, F1, e1, y, e2, R1, h2, fun F2 H2 w R2 S2 O2 => ?_⟩
  refine ⟨H0, B, F2, e2, z, e3, R2, h3, fun F3 H3 u R3 S3 O3 => ?_⟩
  have O1 := (O1.step R1 S2).step R2 S3
  have O2 := O2.step R2 S3
  simp only at he
  cases hd : vw e3 x with
  | none => rw [hd] at he; cases he
  | some d =>
    cases hd2 : vw e3 y with
    | none => rw [hd, hd2] at he; cases d <;> cases he
    | some d2 =>
      cases hd3 : vw e3 z with
      | none => rw [hd, hd2, hd3] at he; cases d <;> cases d2 <;> cases he
      | some d3 =>
        rw [hd, hd2, hd3] at he
        cases d with
        | int i =>
          cases d2 with
          | int j =>
            cases d3 with
            | int m =>
              simp only at he
              split at he
              · rename_i hz
                cases he
                rw [Bool.and_eq_true, Bool.and_eq_true] at hz
                obtain ⟨⟨hm1, hz1⟩, hz2⟩ := hz
                have hm1 := of_decide_eq_true hm1
                subst hm1
                have := (O1.vw R3 hd).int
                subst this
                have := (O2.vw R3 hd2).int
                subst this
                have := (O3.vw R3 hd3).int
                subst this
                obtain ⟨z1, z2⟩ := small62_of hz1
                obtain ⟨z3, z4⟩ := small62_of hz2
                exact ⟨i, j, -1, (i - j).toNat, rfl, RgC.neg z1 z2 z3 z4, k F3 H3 _ _ R3 ((S1.trans S2).trans S3) pz_nil walk_range⟩
              · cases he
            | _ => cases he
          | _ => cases he
        | _ => cases he
end

/-! ### targets -/
/-- a target, within a def's statements -/
structure DenG (X : Cx) (np : Nat) (tg : Expr) (gg : TG) (g : CG) : Prop where
  pg : PG X tg gg
  run : ∀ (f : Fx) (F : Addr → Prop) (σ : St) (H : Hp) (e e' : En) (v : V) (x : PyData) (Q : St → Hp → Prop), f.np = np → SRel X.K f F σ H e → DV X.K F H v x → g x e = some e' → (∀ F' σ' H', SRel X.K f F' σ' H' e' → Keep F H F' H' → Q σ' H') → gg v σ H Q
structure DenGs (X : Cx) (np : Nat) (tgs : List Expr) (gg : TGs) (gs : List CG) : Prop where
  pg : PGs X tgs gg
  run : ∀ (f : Fx) (F : Addr → Prop) (σ : St) (H : Hp) (e e' : En) (vs : List V) (xs : List PyData) (Q : St → Hp → Prop), f.np = np → SRel X.K f F σ H e → DAll X.K F H vs xs → xs.length = gs.length → (gs.zip xs).foldl (fun o p => o.bind fun e => p.1 p.2 e) (some e) = some e' →
    (∀ F' σ' H', SRel X.K f F' σ' H' e' → Keep F H F' H' → Q σ' H') → gg vs σ H Q
section
variable {X : Cx} {np : Nat}
theorem dg_name {i : Nat} {tg : Expr} (h : PG X tg (gName i)) : DenG X np tg (gName i) (gN np i) := ⟨h, fun f F σ H e e' v x Q hnp R d he k => by
  subst hnp
  unfold gN at he
  split at he
  · rename_i hf
    cases he
    exact k _ _ _ (put_rel R hf (fun y hy => by cases hy; exact d) (fun z => nomatch z) (fun _ z => nomatch z) (fun _ z => nomatch z) fun c z => nomatch z) (.refl _ _)
  · cases he⟩
theorem dgs_nil : DenGs X np [] gNil [] := ⟨pgs_nil, fun f F σ H e e' vs xs Q hnp R d hl he k => by
  cases xs with
  | cons x xs => simp at hl
  | nil =>
    cases d
    cases he
    exact ⟨rfl, k F σ H R (.refl _ _)⟩⟩
theorem fold_none {gs : List (CG × PyData)} : gs.foldl (fun (o : Option En) p => o.bind fun e => p.1 p.2 e) none = none := by
  induction gs with
  | nil => rfl
  | cons p ps ih => exact ih
theorem dgs_cons {tg : Expr} {tgs : List Expr} {g1 : TG} {g2 : TGs} {g : CG} {gs : List CG} (h1 : DenG X np tg g1 g) (h2 : DenGs X np tgs g2 gs) (hs : (assignEach (tg :: tgs) X.env).map (·.2) = assign tg X.env :: (assignEach tgs X.env).map (·.2) := by rfl) : DenGs X np (tg :: tgs) (gCons g1 g2) (g :: gs) :=
  ⟨pgs_cons h1.pg h2.pg hs, fun f F σ H e e' vs xs Q hnp R d hl he k => by
    cases xs with
    | nil => simp at hl
    | cons x xs =>
      cases d with
      | cons d1 d2 =>
        simp only [List.zip_cons_cons, List.foldl_cons, Option.bind_some] at he
        cases hg : g x e with
        | none => rw [hg, fold_none] at he; cases he
        | some e1 =>
          rw [hg] at he
          exact ⟨_, _, rfl, h1.run f F σ H e e1 _ x _ hnp R d1 hg fun F1 σ1 H1 R1 k1 => h2.run f F1 σ1 H1 e1 e' _ xs Q hnp R1 (d2.keep k1) (by simpa using hl) he fun F2 σ2 H2 R2 k2 => k F2 σ2 H2 R2 (k1.trans k2)⟩⟩
theorem dg_tup {tgs : List Expr} {k : Nat} {pos : Pos} {t : TGs} {gs : List CG} (hc : X.calm = true) (h : DenGs X np tgs t gs) (hl : tgs.length = gs.length := by rfl) (hn : (assignEach tgs X.env).length = gs.length := by rfl) (hst : (assignEach tgs X.env).findIdx? (·.1) = none := by rfl) :
    DenG X np (.Tuple tgs k pos) (gTup X.K gs.length t) (gT gs) := ⟨pg_tup hc h.pg hn hst, fun f F σ H e e' v x Q hnp R d he k => by
  unfold gT at he
  cases d with
  | tup f1 h1 a =>
    simp only at he
    split at he
    · rename_i hz
      exact ⟨_, _, rfl, SqT.of h1, a.length.trans hz, h.run f F σ H e e' _ _ Q hnp R a hz he k⟩
    · cases he
  | tupK l c s z r a =>
    simp only at he
    split at he
    · rename_i hz
      exact ⟨_, _, rfl, .inr ⟨_, _, _, l, c, s, z, r⟩, a.length.trans hz, h.run f F σ H e e' _ _ Q hnp R a hz he k⟩
    · cases he
  | _ => cases he⟩
/-- target = value -/
def sAsg (g : CG) (a : CE) : CS := fun e => (a e).bind fun (x, e1) => (fz e1 x).bind fun (d, e2) => (g d e2).bind fun e3 => some (.nx, e3)
theorem ds_asg {a : Expr} {fa : CE} {tg : Expr} {gg : TG} {g : CG} {pos : Pos} (hp : ∀ (te : TE), PE X a te → PG X tg gg → PS X (.Assign [tg] a pos) (tAsg te gg)) (ha : Den X a fa) (hg : DenG X np tg gg g) : DenS X np (.Assign [tg] a pos) (sAsg g fa) := PS.mono (hp _ ha hg.pg) fun D σ H q => by
  obtain ⟨f, F, e, fl, e', hnp, R, h, k⟩ := q
  obtain ⟨⟨x, e1⟩, h1, h⟩ := bind_some h
  obtain ⟨⟨d, e2⟩, h2, h⟩ := bind_some h
  obtain ⟨e3, h3, h⟩ := bind_some h
  cases h
  refine ⟨f.H0, _, F, e, x, e1, R.rel, h1, fun F1 H1 v R1 S1 O1 => ?_⟩
  obtain ⟨F2, R2, fr2, new2, sls2, dv⟩ := O1.fz R1 (fun _ _ => .inr trivial) h2
  have S2 : Step F H σ e F2 H1 e2 := fz_step (K := X.K) (H0 := f.H0) (B := Ow f.σ0 f.e0) S1 fr2 new2 sls2
  exact hg.run f F2 σ H1 e2 _ v d D.nx hnp (R.step R2 S2) dv h3 fun F3 σ3 H3 R3 _ => k F3 σ3 H3 R3
end

/-! ### locks -/
section
variable {K : PySem.W.Frag} {f : Fx}
open Classical in
/-- the loop's own pins -/
noncomputable def Fx.lock (f : Fx) (F : Addr → Prop) (H : Hp) (σ : St) (wk : List Nat) (Z : Hp) : Fx :=
  { f with Z := fun a => match f.Z a with | some o => some o | none => Z a
           Y := fun a => if F a then H a else none
           lks := fun i => if i ∈ wk then (match σ[i]? with | some (some (V.ref a)) => some a | _ => none) else f.lks i }
theorem lock_get : ∀ {wk : List Nat} {e : En} {j : Nat} {s : Sl}, (∀ i ∈ wk, ∃ c, e[i]? = some (Sl.own c)) → wk.Nodup → (lock wk e)[j]? = some s → (j ∉ wk ∧ e[j]? = some s) ∨ (j ∈ wk ∧ ∃ c, e[j]? = some (Sl.own c) ∧ s = .lk c)
  | [], e, j, s, _, _, h => .inl ⟨by simp, h⟩
  | i :: wk, e, j, s, ha, hn, h => by
    obtain ⟨c, hc⟩ := ha i List.mem_cons_self
    have hc' : e[i]? = some (Sl.own c) := hc
    have hil : i < e.length := (List.getElem?_eq_some_iff.mp hc).1
    unfold lock at h
    rw [hc] at h
    have ni : i ∉ wk := (List.nodup_cons.mp hn).1
    rcases lock_get (wk := wk) (e := e.set i (.lk c)) (fun m hm => by
      obtain ⟨cm, hcm⟩ := ha m (List.mem_cons_of_mem _ hm)
      exact ⟨cm, by rw [List.getElem?_set_ne (by rintro rfl; exact ni hm)]; exact hcm⟩) (List.nodup_cons.mp hn).2 h with ⟨q1, q2⟩ | ⟨q1, c', q2, q3⟩
    · by_cases hj : j = i
      · subst hj
        rw [List.getElem?_set_self hil] at q2; cases q2
        exact .inr ⟨List.mem_cons_self, c, hc', rfl⟩
      · rw [List.getElem?_set_ne (Ne.symm hj)] at q2
        exact .inl ⟨by simp only [List.mem_cons, not_or]; exact ⟨hj, q1⟩, q2⟩
    · have hj : j ≠ i := by rintro rfl; exact ni q1
      rw [List.getElem?_set_ne (Ne.symm hj)] at q2
      exact .inr ⟨List.mem_cons_of_mem _ q1, c', q2, q3⟩
theorem lock_len : ∀ {wk : List Nat} {e : En}, (lock wk e).length = e.length
  | [], e => rfl
  | i :: wk, e => by
    unfold lock
    rw [lock_len]
    split <;> simp
theorem unlock_get : ∀ {wk : List Nat} {e : En} {j : Nat} {s : Sl}, (unlock wk e)[j]? = some s → (e[j]? = some s ∧ (j ∉ wk ∨ ∀ c, s ≠ .lk c)) ∨ (j ∈ wk ∧ ∃ c, e[j]? = some (Sl.lk c) ∧ s = .own c)
  | [], e, j, s, h => .inl ⟨h, .inl (by simp)⟩
  | i :: wk, e, j, s, h => by
    unfold unlock at h
    cases hi : e[i]? with
    | none =>
      rw [hi] at h
      rcases unlock_get h with ⟨q1, q2⟩ | ⟨q1, c, q2, q3⟩
      · refine .inl ⟨q1, ?_⟩
        by_cases hj : j = i
        · subst hj; rw [hi] at q1; cases q1
        · exact q2.elim (fun q => .inl (by simp only [List.mem_cons, not_or]; exact ⟨hj, q⟩)) .inr
      · exact .inr ⟨List.mem_cons_of_mem _ q1, c, q2, q3⟩
    | some t =>
      rw [hi] at h
      have hil : i < e.length := (List.getElem?_eq_some_iff.mp hi).1
      have other : (∀ c, t ≠ .lk c) → (unlock wk e)[j]? = some s → (e[j]? = some s ∧ (j ∉ i :: wk ∨ ∀ c, s ≠ .lk c)) ∨ (j ∈ i :: wk ∧ ∃ c, e[j]? = some (Sl.lk c) ∧ s = .own c) := fun ht h => by
        rcases unlock_get h with ⟨q1, q2⟩ | ⟨q1, c, q2, q3⟩
        · refine .inl ⟨q1, ?_⟩
          by_cases hj : j = i
          · subst hj; rw [hi] at q1; cases q1; exact .inr ht
          · exact q2.elim (fun q => .inl (by simp only [List.mem_cons, not_or]; exact ⟨hj, q⟩)) .inr
        · exact .inr ⟨List.mem_cons_of_mem _ q1, c, q2, q3⟩
      cases t with
      | lk c =>
        rcases unlock_get h with ⟨q1, q2⟩ | ⟨q1, c', q2, q3⟩
        · by_cases hj : j = i
          · subst hj
            rw [List.getElem?_set_self hil] at q1; cases q1
            exact .inr ⟨List.mem_cons_self, c, hi, rfl⟩
          · rw [List.getElem?_set_ne (Ne.symm hj)] at q1
            exact .inl ⟨q1, q2.elim (fun q => .inl (by simp only [List.mem_cons, not_or]; exact ⟨hj, q⟩)) .inr⟩
        · by_cases hj : j = i
          · subst hj
            rw [List.getElem?_set_self hil] at q2; cases q2
          · rw [List.getElem?_set_ne (Ne.symm hj)] at q2
            exact .inr ⟨List.mem_cons_of_mem _ q1, c', q2, q3⟩
      | no => exact other (fun c z => nomatch z) h
      | d x => exact other (fun c z => nomatch z) h
      | e x => exact other (fun c z => nomatch z) h
      | own c => exact other (fun c z => nomatch z) h
theorem unlock_len : ∀ {wk : List Nat} {e : En}, (unlock wk e).length = e.length
  | [], e => rfl
  | i :: wk, e => by
    unfold unlock
    rw [unlock_len]
    split <;> simp
theorem lock_rel {F : Addr → Prop} {σ : St} {H : Hp} {e : En} {wk : List Nat} {Z : Hp} (R : SRel K f F σ H e) (pz : PinZ F H σ e wk Z) : SRel K (f.lock F H σ wk Z) F σ H (lock wk e) := by
  have ow : ∀ i ∈ wk, ∃ c, e[i]? = some (Sl.own c) := fun i hi => let ⟨c, _, h, _⟩ := pz.all i hi; ⟨c, h⟩
  have g : ∀ {j : Nat} {s : Sl}, (lock wk e)[j]? = some s → (j ∉ wk ∧ e[j]? = some s) ∨ (j ∈ wk ∧ ∃ c, e[j]? = some (Sl.own c) ∧ s = .lk c) := fun h => lock_get ow pz.nd h
  have gown : ∀ {j : Nat} {c : Ct}, (lock wk e)[j]? = some (Sl.own c) → j ∉ wk ∧ e[j]? = some (Sl.own c) := fun h => by
    rcases g h with q | ⟨_, c', _, q⟩
    · exact q
    · cases q
  have gor : ∀ {j : Nat} {c : Ct}, ((lock wk e)[j]? = some (Sl.own c) ∨ (lock wk e)[j]? = some (Sl.lk c)) → e[j]? = some (Sl.own c) ∨ e[j]? = some (Sl.lk c) := fun h => by
    rcases h with h | h
    · exact .inl (gown h).2
    · rcases g h with ⟨_, q⟩ | ⟨_, c', q1, q2⟩
      · exact .inr q
      · cases q2; exact .inl q1
  refine ⟨⟨by rw [lock_len]; exact R.rel.len, R.rel.dom, fun j x h => ?_, fun j c h => R.rel.own j c (gown h).2, fun j c h => ?_, fun j l a c c' hj hl => R.rel.inj j l a c c' (gor hj) (gor hl), R.rel.frame, R.rel.fnew⟩, R.fr, R.new, R.dom, fun j c0 h0 => ?_, fun a o h => ?_, fun a o h => ?_, fun j c0 h0 => ?_, fun j c h => ?_, fun j c a h => R.lo j c a (gor h)⟩
  · rcases h with h | h
    · rcases g h with ⟨_, q⟩ | ⟨_, c', _, q⟩
      · exact R.rel.dat j x (.inl q)
      · cases q
    · rcases g h with ⟨_, q⟩ | ⟨_, c', _, q⟩
      · exact R.rel.dat j x (.inr q)
      · cases q
  · rcases g h with ⟨_, q⟩ | ⟨_, c', q1, q2⟩
    · exact R.rel.lk j c q
    · cases q2
      obtain ⟨a, z1, z2, z3, _⟩ := R.rel.own j c q1
      exact ⟨a, z1, z2.lk, z3⟩
  · obtain ⟨h1, h2, s, h3, h4⟩ := R.pv j c0 h0
    have hl : j < (lock wk e).length := by rw [lock_len]; exact (List.getElem?_eq_some_iff.mp h3).1
    refine ⟨h1, h2, _, List.getElem?_eq_getElem hl, ?_⟩
    rcases g (List.getElem?_eq_getElem hl) with ⟨_, q⟩ | ⟨_, c', _, q⟩
    · rw [h3] at q; rw [← Option.some.inj q]; exact h4
    · rw [q]; trivial
  · have h : (match f.Z a with | some o => some o | none => Z a) = some o := h
    cases q : f.Z a with
    | some o' =>
      rw [q] at h; cases h
      obtain ⟨z1, z2, z3⟩ := R.pin a o q
      exact ⟨z1, fun ⟨j, c, hj, hs⟩ => z2 ⟨j, c, (gown hj).2, hs⟩, z3⟩
    | none =>
      rw [q] at h
      obtain ⟨z1, z2, z3⟩ := pz.at_ a o h
      exact ⟨z1, fun ⟨j, c, hj, hs⟩ => (gown hj).1 (z3 j c (gown hj).2 hs), z2⟩
  · have h : @ite _ (F a) (Classical.propDecidable _) (H a) none = some o := h
    split at h
    · rename_i hf; exact ⟨h, hf⟩
    · cases h
  · obtain ⟨h1, h2⟩ := R.pl j c0 h0
    have hl : j < (lock wk e).length := by rw [lock_len]; exact (List.getElem?_eq_some_iff.mp h2).1
    refine ⟨h1, ?_⟩
    rcases g (List.getElem?_eq_getElem hl) with ⟨_, q⟩ | ⟨_, c', q, _⟩
    · rw [List.getElem?_eq_getElem hl, ← q]; exact h2
    · rw [h2] at q; cases q
  · rcases g h with ⟨q1, q⟩ | ⟨q1, c', q, q2⟩
    · rcases R.lz j c q with z | ⟨a, z1, z2⟩
      · exact .inl z
      · refine .inr ⟨a, ?_, z2⟩
        show (if j ∈ wk then _ else f.lks j) = some a
        rw [if_neg q1]; exact z1
    · obtain ⟨a, z1, _⟩ := R.rel.own j c' q
      refine .inr ⟨a, ?_, z1⟩
      show (if j ∈ wk then (match σ[j]? with | some (some (V.ref a)) => some a | _ => none) else f.lks j) = some a
      rw [if_pos q1, z1]
theorem unlock_rel {F F1 : Addr → Prop} {σ σ1 : St} {H H1 : Hp} {e e1 : En} {wk : List Nat} {Z : Hp} (R0 : SRel K f F σ H e) (pz : PinZ F H σ e wk Z) (R : SRel K (f.lock F H σ wk Z) F1 σ1 H1 e1) : SRel K f F1 σ1 H1 (unlock wk e1) := by
  -- a slot that is unlocked: its object
  have un : ∀ {j : Nat} {c : Ct}, j ∈ wk → e1[j]? = some (Sl.lk c) → ∃ a, σ1[j]? = some (some (V.ref a)) ∧ OwnAt K F1 H1 a c ∧ ¬ F1 a ∧ (f.H0 a = none ∨ Ow f.σ0 f.e0 a) ∧ (∀ o, f.Z a ≠ some o) ∧ ∃ c', e[j]? = some (Sl.own c') ∧ σ[j]? = some (some (V.ref a)) := fun {j c} hj h => by
    obtain ⟨c', a, h1, h2, o, h3, h4⟩ := pz.all j hj
    rcases R.lz j c h with ⟨c0, z⟩ | ⟨a', z1, z2⟩
    · have := (R0.pl j c0 z).2
      rw [h1] at this; cases this
    · have z1 : (if j ∈ wk then (match σ[j]? with | some (some (V.ref a)) => some a | _ => none) else f.lks j) = some a' := z1
      rw [if_pos hj, h2] at z1
      cases z1
      obtain ⟨b, y1, y2, y3⟩ := R.rel.lk j c h
      rw [z2] at y1; cases y1
      have nz : ∀ o, f.Z a ≠ some o := fun o ho => (R0.pin a o ho).2.1 ⟨j, c', h1, h2⟩
      have hZ : (f.lock F H σ wk Z).Z a = some o := by
        show (match f.Z a with | some o => some o | none => Z a) = some o
        cases q : f.Z a with
        | some o' => exact absurd q (nz o')
        | none => exact h3
      obtain ⟨p1, _, _⟩ := R.pin a o hZ
      have hown : OwnAt K F1 H1 a c := by
        cases c with
        | lst xs =>
          obtain ⟨vs, w1, w2⟩ := y2
          rcases w1 with w1 | ⟨ob, w1⟩
          · exact ⟨vs, w1, w2⟩
          · rw [p1] at w1; exact absurd (Option.some.inj w1) (h4 _ _)
        | dct kvs =>
          obtain ⟨vs, w1, w2⟩ := y2
          rcases w1 with w1 | ⟨ob, w1⟩
          · exact ⟨vs, w1, w2⟩
          · rw [p1] at w1; exact absurd (Option.some.inj w1) (h4 _ _)
      obtain ⟨b, u1, _, _, u4⟩ := R0.rel.own j c' h1
      rw [h2] at u1; cases u1
      exact ⟨a, z2, hown, y3, u4, nz, c', h1, h2⟩
  have gor : ∀ {j : Nat} {c : Ct}, ((unlock wk e1)[j]? = some (Sl.own c) ∨ (unlock wk e1)[j]? = some (Sl.lk c)) → e1[j]? = some (Sl.own c) ∨ e1[j]? = some (Sl.lk c) := fun h => by
    rcases h with h | h
    · rcases unlock_get h with ⟨q, _⟩ | ⟨_, c', q, z⟩
      · exact .inl q
      · cases z; exact .inr q
    · rcases unlock_get h with ⟨q, _⟩ | ⟨_, c', q, z⟩
      · exact .inr q
      · cases z
  refine ⟨⟨by rw [unlock_len]; exact R.rel.len, R.rel.dom, fun j x h => ?_, fun j c h => ?_, fun j c h => ?_, fun j l a c c' hj hl => R.rel.inj j l a c c' (gor hj) (gor hl), R.rel.frame, R.rel.fnew⟩, R.fr, R.new, R.dom, fun j c0 h0 => ?_, fun a o h => ?_, fun a o h => ?_, fun j c0 h0 => ?_, fun j c h => ?_, fun j c a h => R.lo j c a (gor h)⟩
  · rcases h with h | h
    · rcases unlock_get h with ⟨q, _⟩ | ⟨_, c', q, z⟩
      · exact R.rel.dat j x (.inl q)
      · cases z
    · rcases unlock_get h with ⟨q, _⟩ | ⟨_, c', q, z⟩
      · exact R.rel.dat j x (.inr q)
      · cases z
  · rcases unlock_get h with ⟨q, _⟩ | ⟨q1, c', q, z⟩
    · exact R.rel.own j c q
    · cases z
      obtain ⟨a, z1, z2, z3, z4, _⟩ := un q1 q
      exact ⟨a, z1, z2, z3, z4⟩
  · rcases unlock_get h with ⟨q, _⟩ | ⟨_, c', q, z⟩
    · exact R.rel.lk j c q
    · cases z
  · obtain ⟨h1, h2, s, h3, h4⟩ := R.pv j c0 h0
    have hl : j < (unlock wk e1).length := by rw [unlock_len]; exact (List.getElem?_eq_some_iff.mp h3).1
    refine ⟨h1, h2, _, List.getElem?_eq_getElem hl, ?_⟩
    rcases unlock_get (List.getElem?_eq_getElem hl) with ⟨q, _⟩ | ⟨_, c', _, q⟩
    · rw [h3] at q; rw [← Option.some.inj q]; exact h4
    · rw [q]; trivial
  · have hZ : (f.lock F H σ wk Z).Z a = some o := by
      show (match f.Z a with | some o => some o | none => Z a) = some o
      rw [h]
    obtain ⟨z1, z2, z3⟩ := R.pin a o hZ
    refine ⟨z1, fun ⟨j, c, hj, hs⟩ => ?_, z3⟩
    rcases unlock_get hj with ⟨q, _⟩ | ⟨q1, c', q, z⟩
    · exact z2 ⟨j, c, q, hs⟩
    · obtain ⟨b, y1, _, _, _, y5, _⟩ := un q1 q
      rw [hs] at y1; cases y1
      exact y5 o h
  · obtain ⟨z1, z2⟩ := R0.yin a o h
    have : (f.lock F H σ wk Z).Y a = some o := by
      show @ite _ (F a) (Classical.propDecidable _) (H a) none = some o
      rw [if_pos z2]; exact z1
    exact R.yin a o this
  · obtain ⟨h1, h2⟩ := R.pl j c0 h0
    have hl : j < (unlock wk e1).length := by rw [unlock_len]; exact (List.getElem?_eq_some_iff.mp h2).1
    refine ⟨h1, ?_⟩
    rcases unlock_get (List.getElem?_eq_getElem hl) with ⟨q, _⟩ | ⟨q1, c', q, z⟩
    · rw [List.getElem?_eq_getElem hl, ← q]; exact h2
    · obtain ⟨c1, a, y1, _⟩ := pz.all j q1
      have := (R0.pl j c0 h0).2
      rw [y1] at this; cases this
  · rcases unlock_get h with ⟨q, hw⟩ | ⟨_, c', q, z⟩
    · have hw : j ∉ wk := hw.elim id fun z => absurd rfl (z c)
      rcases R.lz j c q with z | ⟨a, z1, z2⟩
      · exact .inl z
      · refine .inr ⟨a, ?_, z2⟩
        have z1 : (if j ∈ wk then _ else f.lks j) = some a := z1
        rw [if_neg hw] at z1; exact z1
    · cases z
end
end MP

/-! A8: for, while, comprehensions. -/
namespace MP
open PySem PySem.Spec L2
open PyProof.Rows hiding St

section
variable {X : Cx} {np : Nat} {pos : Pos}
theorem ds_for {tg iter : Expr} {body : List Stmt} {ci : CI} {gg : TG} {g : CG} {cb : CS} (hp : PassesOwn (model X.prog X.w) X.A X.env X.xe) (hc : X.calm = true) (hi : DenI X tg iter ci) (hg : DenG X np tg gg g) (hb : DenB X np body cb)
    (hs : ∀ x, foldedSetIterable iter X.env x = pure x := by intro _; rfl) : DenS X np (.For tg iter body [] pos) (sFor ci g cb) := PS.mono (ps_for hp hc hi hg.pg hb hs) fun D σ H q => by
  obtain ⟨f, F, e, fl, e', hnp, R, h, k⟩ := q
  obtain ⟨⟨xs, wk, e1⟩, h1, h⟩ := bind_some h
  obtain ⟨⟨fl2, e2⟩, h2, h⟩ := bind_some h
  cases h
  refine ⟨f.H0, _, F, e, xs, wk, e1, R.rel, h1, fun F1 H1 J Z R1 S1 pz wo => ?_⟩
  have R1 := R.step R1 S1
  refine ⟨fun i m σ' H' => ∃ F' e', m = xs.length - i ∧ i ≤ xs.length ∧ SRel X.K (f.lock F1 H1 σ wk Z) F' σ' H' e' ∧ forL (fun x e => (g x e).bind cb) (xs.drop i) e' = some (fl, e2),
    ⟨xs.length, F1, _, by simp, Nat.zero_le _, lock_rel R1 pz, by simpa using h2⟩, ?_⟩
  rintro i m σ' H' ⟨F', e3, rfl, hi, R3, h3⟩
  have kp : Keep F1 H1 F' H' := ⟨fun a ha => by
    cases q : H1 a with
    | none => exact absurd q (R1.rel.dom a ha)
    | some o => exact (R3.yin a o (by show @ite _ (F1 a) (Classical.propDecidable _) (H1 a) none = some o; rw [if_pos ha]; exact q)).2, fun a o ha q => (R3.yin a o (by show @ite _ (F1 a) (Classical.propDecidable _) (H1 a) none = some o; rw [if_pos ha]; exact q)).1⟩
  have hz : ∀ a o, Z a = some o → H' a = some o := fun a o ha => by
    have ho := (pz.at_ a o ha).1
    cases q : f.Z a with
    | none => exact (R3.pin a o (by show (match f.Z a with | some o => some o | none => Z a) = some o; rw [q]; exact ha)).1
    | some o' =>
      have := (R1.pin a o' q).1
      rw [ho] at this; cases this
      exact (R3.pin a o (by show (match f.Z a with | some o => some o | none => Z a) = some o; rw [q])).1
  by_cases hl : i = xs.length
  · subst hl
    refine .inl ⟨wo.stop F' H' kp hz, ?_⟩
    rw [List.drop_length] at h3
    cases h3
    exact k F' σ' H' (unlock_rel R1 pz R3)
  · have hi : i < xs.length := by omega
    obtain ⟨g1, g2⟩ := wo.go i F' H' hi kp R3.rel.dom hz
    rw [List.drop_eq_getElem_cons hi] at h3
    obtain ⟨⟨fl4, e4⟩, h4, h3⟩ := bind_some h3
    obtain ⟨e5, h5, h6⟩ := bind_some h4
    refine .inr ⟨g1, fun σ'' H'' => ∃ F'', SRel X.K (f.lock F1 H1 σ wk Z) F'' σ'' H'' e4 ∧ forL (fun x e => (g x e).bind cb) (xs.drop (i + 1)) e4 = some (fl, e2), fun σ'' H'' ⟨F'', z1, z2⟩ => ⟨xs.length - (i + 1), by omega, F'', e4, rfl, hi, z1, z2⟩, fun x H4 y => ?_⟩
    obtain ⟨F4, d, G, hd, dv⟩ := g2 x H4 y
    rw [List.getElem?_eq_getElem hi] at hd; cases hd
    have R4 := R3.step (R3.rel.grow G) G.step
    refine hg.run (f.lock F1 H1 σ wk Z) F4 σ' H4 e3 e5 x _ _ hnp R4 dv h5 fun F5 σ5 H5 R5 _ => ?_
    refine ⟨f.lock F1 H1 σ wk Z, F5, e5, fl4, e4, hnp, R5, h6, fun F6 σ6 H6 R6 => ?_⟩
    cases fl4 with
    | nx => exact ⟨F6, R6, h3⟩
    | ct => exact ⟨F6, R6, h3⟩
    | bk =>
      cases h3
      exact k F6 σ6 H6 (unlock_rel R1 pz R6)
    | rt r =>
      cases h3
      exact k F6 σ6 H6 (unlock_rel R1 pz R6)
theorem ds_while {c : Expr} {body : List Stmt} {t : CT} {cb : CS} (n : Nat) (hp : PassesOwn (model X.prog X.w) X.A X.env X.xe) (ht : DenT X c t) (hb : DenB X np body cb) : DenS X np (.While c body [] pos) (sWhile n t cb) := PS.mono (ps_while hp ht hb) fun D σ H q => by
  obtain ⟨f, F, e, fl, e', hnp, R, h, k⟩ := q
  refine ⟨fun m σ' H' => ∃ F' e1, SRel X.K f F' σ' H' e1 ∧ whileL t cb m e1 = some (fl, e'), ⟨n, F, e, R, h⟩, ?_⟩
  rintro m σ' H' ⟨F', e1, R1, h1⟩
  cases m with
  | zero => cases h1
  | succ m =>
    obtain ⟨⟨b, e2⟩, h2, h1⟩ := bind_some h1
    refine toT R1 h2 fun F2 H2 R2 S2 => ?_
    simp only at h1
    cases b with
    | false =>
      cases h1
      exact iteF (k F2 σ' H2 R2)
    | true =>
      simp only [if_true] at h1
      obtain ⟨⟨fl3, e3⟩, h3, h1⟩ := bind_some h1
      refine iteT ⟨fun σ'' H'' => ∃ F'', SRel X.K f F'' σ'' H'' e3 ∧ whileL t cb m e3 = some (fl, e'), fun σ'' H'' ⟨F'', z1, z2⟩ => ⟨m, Nat.lt_succ_self m, F'', e3, z1, z2⟩, ?_⟩
      refine ⟨f, F2, e2, fl3, e3, hnp, R2, h3, fun F4 σ4 H4 R4 => ?_⟩
      cases fl3 with
      | nx => exact ⟨F4, R4, h1⟩
      | ct => exact ⟨F4, R4, h1⟩
      | bk => cases h1; exact k F4 σ4 H4 R4
      | rt r => cases h1; exact k F4 σ4 H4 R4
end

/-! ### comprehensions -/
theorem wipe_get {σ : St} {i : Nat} : ∀ {vs : List Nat}, i ∉ vs → (wipe σ vs)[i]? = σ[i]?
  | [], _ => rfl
  | v :: vs, h => by
    simp only [List.mem_cons, not_or] at h
    unfold wipe
    rw [List.getElem?_set_ne (Ne.symm h.1), wipe_get h.2]
theorem wipe_in {σ : St} {i : Nat} : ∀ {vs : List Nat}, i ∈ vs → i < σ.length → (wipe σ vs)[i]? = some none
  | v :: vs, h, hl => by
    unfold wipe
    by_cases hi : i = v
    · subst hi
      exact List.getElem?_set_self (by rw [wipe_length]; exact hl)
    · rw [List.getElem?_set_ne (Ne.symm hi)]
      exact wipe_in ((List.mem_cons.mp h).resolve_left hi) hl
theorem wipe_eq {σ σ' : St} {vs : List Nat} (hl : σ'.length = σ.length) (h : ∀ i, i ∉ vs → σ'[i]? = σ[i]?) : wipe σ' vs = wipe σ vs := by
  apply List.ext_getElem?
  intro i
  by_cases hi : i ∈ vs
  · by_cases hs : i < σ.length
    · rw [wipe_in hi hs, wipe_in hi (by rw [hl]; exact hs)]
    · rw [getElem_none (by rw [wipe_length, hl]; omega), getElem_none (by rw [wipe_length]; omega)]
  · rw [wipe_get hi, wipe_get hi, h i hi]
theorem wipeE_len {e : En} : ∀ {vs : List Nat}, (wipeE vs e).length = e.length
  | [] => rfl
  | v :: vs => by unfold wipeE; rw [List.length_set, wipeE_len]
theorem wipeE_get {e : En} {i : Nat} : ∀ {vs : List Nat}, i ∉ vs → (wipeE vs e)[i]? = e[i]?
  | [], _ => rfl
  | v :: vs, h => by
    simp only [List.mem_cons, not_or] at h
    unfold wipeE
    rw [List.getElem?_set_ne (Ne.symm h.1), wipeE_get h.2]
theorem wipeE_in {e : En} {i : Nat} : ∀ {vs : List Nat}, i ∈ vs → i < e.length → (wipeE vs e)[i]? = some .no
  | v :: vs, h, hl => by
    unfold wipeE
    by_cases hi : i = v
    · subst hi
      exact List.getElem?_set_self (by rw [wipeE_len]; exact hl)
    · rw [List.getElem?_set_ne (Ne.symm hi)]
      exact wipeE_in ((List.mem_cons.mp h).resolve_left hi) hl
theorem wipeE_some {e : En} {vs : List Nat} {i : Nat} {s : Sl} (h : (wipeE vs e)[i]? = some s) : (i ∉ vs ∧ e[i]? = some s) ∨ (i ∈ vs ∧ s = .no) := by
  by_cases hi : i ∈ vs
  · have hl : i < e.length := by
      have := (List.getElem?_eq_some_iff.mp h).1
      rw [wipeE_len] at this; exact this
    rw [wipeE_in hi hl] at h; cases h
    exact .inr ⟨hi, rfl⟩
  · rw [wipeE_get hi] at h
    exact .inl ⟨hi, h⟩
theorem back_len {e0 e : En} : ∀ {vs : List Nat}, (back vs e0 e).length = e.length
  | [] => rfl
  | v :: vs => by
    unfold back
    split
    · rw [List.length_set, back_len]
    · rw [back_len]
theorem back_get {e0 e : En} {i : Nat} : ∀ {vs : List Nat}, i ∉ vs → (back vs e0 e)[i]? = e[i]?
  | [], _ => rfl
  | v :: vs, h => by
    simp only [List.mem_cons, not_or] at h
    unfold back
    split
    · rw [List.getElem?_set_ne (Ne.symm h.1), back_get h.2]
    · rw [back_get h.2]
theorem back_in {e0 e : En} {i : Nat} (hl : e0.length = e.length) : ∀ {vs : List Nat}, i ∈ vs → (back vs e0 e)[i]? = e0[i]?
  | v :: vs, h => by
    unfold back
    by_cases hi : i = v
    · subst hi
      split
      · rename_i s hs
        have : i < e0.length := (List.getElem?_eq_some_iff.mp hs).1
        rw [List.getElem?_set_self (by rw [back_len]; omega), hs]
      · rename_i hs
        have : e0.length ≤ i := List.getElem?_eq_none_iff.mp hs
        rw [hs, getElem_none (by rw [back_len]; omega)]
    · split
      · rw [List.getElem?_set_ne (Ne.symm hi)]
        exact back_in hl ((List.mem_cons.mp h).resolve_left hi)
      · exact back_in hl ((List.mem_cons.mp h).resolve_left hi)
theorem vsOk_get {e : En} {vs : List Nat} (h : vsOk e vs = true) {i : Nat} (hi : i ∈ vs) : ∀ c, e[i]? ≠ some (Sl.own c) ∧ e[i]? ≠ some (Sl.lk c) := fun c => by
  have := List.all_eq_true.mp h i hi
  constructor <;> (intro q; simp [q] at this)

/-- a target, within a comprehension -/
structure Tgd (vs : List Nat) (σ : St) (e : En) (σ' : St) (e' : En) : Prop where
  len : σ'.length = σ.length
  elen : e'.length = e.length
  same : ∀ i, i ∉ vs → σ'[i]? = σ[i]? ∧ e'[i]? = e[i]?
  no : ∀ i ∈ vs, (∀ c, e[i]? ≠ some (Sl.own c)) → ∀ c, e'[i]? ≠ some (Sl.own c)
theorem Tgd.refl {vs : List Nat} {σ : St} {e : En} : Tgd vs σ e σ e := ⟨rfl, rfl, fun _ _ => ⟨rfl, rfl⟩, fun _ _ h => h⟩
theorem Tgd.trans {vs : List Nat} {σ σ1 σ2 : St} {e e1 e2 : En} (a : Tgd vs σ e σ1 e1) (b : Tgd vs σ1 e1 σ2 e2) : Tgd vs σ e σ2 e2 :=
  ⟨b.len.trans a.len, b.elen.trans a.elen, fun i h => ⟨(b.same i h).1.trans (a.same i h).1, (b.same i h).2.trans (a.same i h).2⟩, fun i h k => b.no i h (a.no i h k)⟩
structure DenL (K : PySem.W.Frag) (vs : List Nat) (gg : TG) (g : CG) : Prop where
  run : ∀ (H0 : Hp) (B F : Addr → Prop) (σ : St) (H : Hp) (e e' : En) (v : V) (x : PyData) (Q : St → Hp → Prop), Rel K H0 B F σ H e → DV K F H v x → g x e = some e' → (∀ σ', Rel K H0 B F σ' H e' → Tgd vs σ e σ' e' → Q σ' H) → gg v σ H Q
structure DenLs (K : PySem.W.Frag) (vs : List Nat) (gg : TGs) (gs : List CG) : Prop where
  run : ∀ (H0 : Hp) (B F : Addr → Prop) (σ : St) (H : Hp) (e e' : En) (us : List V) (xs : List PyData) (Q : St → Hp → Prop), Rel K H0 B F σ H e → DAll K F H us xs → xs.length = gs.length → (gs.zip xs).foldl (fun o p => o.bind fun e => p.1 p.2 e) (some e) = some e' →
    (∀ σ', Rel K H0 B F σ' H e' → Tgd vs σ e σ' e' → Q σ' H) → gg us σ H Q
section
variable {K : PySem.W.Frag} {vs : List Nat}
theorem dl_name {i : Nat} (hi : i ∈ vs) : DenL K vs (gName i) (gN 0 i) := ⟨fun H0 B F σ H e e' v x Q R d he k => by
  unfold gN at he
  split at he
  · rename_i hf
    cases he
    have il : i < e.length := by simpa [free] using hf
    have ilσ : i < σ.length := by rw [R.len]; exact il
    have oth : ∀ {j : Nat} {t : Sl}, (e.set i (.d x))[j]? = some t → (j = i ∧ t = .d x) ∨ (j ≠ i ∧ e[j]? = some t) := fun {j t} hj => by
      by_cases q : j = i
      · subst q
        rw [List.getElem?_set_self il] at hj; cases hj
        exact .inl ⟨rfl, rfl⟩
      · rw [List.getElem?_set_ne (Ne.symm q)] at hj
        exact .inr ⟨q, hj⟩
    have sne : ∀ {j : Nat}, j ≠ i → (σ.set i (some v))[j]? = σ[j]? := fun {j} h => List.getElem?_set_ne (Ne.symm h)
    refine k _ ⟨by simp [R.len], R.dom, fun j y h => ?_, fun j c h => ?_, fun j c h => ?_, fun j l p c c' hj hl sj sl => ?_, R.frame, R.fnew⟩ ⟨by simp, by simp, fun j hj => ?_, fun j hj hn c h => ?_⟩
    · rcases h with h | h
      · rcases oth h with ⟨rfl, q⟩ | ⟨ne, q⟩
        · cases q; exact ⟨v, List.getElem?_set_self ilσ, d⟩
        · rw [sne ne]; exact R.dat j y (.inl q)
      · rcases oth h with ⟨rfl, q⟩ | ⟨ne, q⟩
        · cases q
        · rw [sne ne]; exact R.dat j y (.inr q)
    · rcases oth h with ⟨rfl, q⟩ | ⟨ne, q⟩
      · cases q
      · rw [sne ne]; exact R.own j c q
    · rcases oth h with ⟨rfl, q⟩ | ⟨ne, q⟩
      · cases q
      · rw [sne ne]; exact R.lk j c q
    · have h1 : j ≠ i ∧ (e[j]? = some (Sl.own c) ∨ e[j]? = some (Sl.lk c)) := by
        rcases hj with h | h
        · rcases oth h with ⟨_, q⟩ | ⟨ne, q⟩
          · cases q
          · exact ⟨ne, .inl q⟩
        · rcases oth h with ⟨_, q⟩ | ⟨ne, q⟩
          · cases q
          · exact ⟨ne, .inr q⟩
      have h2 : l ≠ i ∧ (e[l]? = some (Sl.own c') ∨ e[l]? = some (Sl.lk c')) := by
        rcases hl with h | h
        · rcases oth h with ⟨_, q⟩ | ⟨ne, q⟩
          · cases q
          · exact ⟨ne, .inl q⟩
        · rcases oth h with ⟨_, q⟩ | ⟨ne, q⟩
          · cases q
          · exact ⟨ne, .inr q⟩
      rw [sne h1.1] at sj
      rw [sne h2.1] at sl
      exact R.inj j l p c c' h1.2 h2.2 sj sl
    · have ne : j ≠ i := by rintro rfl; exact hj hi
      exact ⟨sne ne, List.getElem?_set_ne (Ne.symm ne)⟩
    · rcases oth h with ⟨_, q⟩ | ⟨_, q⟩
      · cases q
      · exact hn c q
  · cases he⟩
theorem dls_nil : DenLs K vs gNil [] := ⟨fun H0 B F σ H e e' us xs Q R d hl he k => by
  cases xs with
  | cons x xs => simp at hl
  | nil =>
    cases d
    cases he
    exact ⟨rfl, k σ R .refl⟩⟩
theorem dls_cons {g1 : TG} {g2 : TGs} {g : CG} {gs : List CG} (h1 : DenL K vs g1 g) (h2 : DenLs K vs g2 gs) : DenLs K vs (gCons g1 g2) (g :: gs) := ⟨fun H0 B F σ H e e' us xs Q R d hl he k => by
  cases xs with
  | nil => simp at hl
  | cons x xs =>
    cases d with
    | cons d1 d2 =>
      simp only [List.zip_cons_cons, List.foldl_cons, Option.bind_some] at he
      cases hg : g x e with
      | none => rw [hg, fold_none] at he; cases he
      | some e1 =>
        rw [hg] at he
        exact ⟨_, _, rfl, h1.run H0 B F σ H e e1 _ x _ R d1 hg fun σ1 R1 T1 => h2.run H0 B F σ1 H e1 e' _ xs Q R1 d2 (by simpa using hl) he fun σ2 R2 T2 => k σ2 R2 (T1.trans T2)⟩⟩
theorem dl_tup {t : TGs} {gs : List CG} (h : DenLs K vs t gs) : DenL K vs (gTup K gs.length t) (gT gs) := ⟨fun H0 B F σ H e e' v x Q R d he k => by
  unfold gT at he
  cases d with
  | tup f1 h1 a =>
    simp only at he
    split at he
    · rename_i hz
      exact ⟨_, _, rfl, SqT.of h1, a.length.trans hz, h.run H0 B F σ H e e' _ _ Q R a hz he k⟩
    · cases he
  | tupK l c s z r a =>
    simp only at he
    split at he
    · rename_i hz
      exact ⟨_, _, rfl, .inr ⟨_, _, _, l, c, s, z, r⟩, a.length.trans hz, h.run H0 B F σ H e e' _ _ Q R a hz he k⟩
    · cases he
  | _ => cases he⟩
end
end MP

/-! A9: list comprehensions. -/
namespace MP
open PySem PySem.Spec L2
open PyProof.Rows hiding St

section
variable {K : PySem.W.Frag} {H0 : Hp} {B F : Addr → Prop} {σ : St} {H : Hp} {e : En}
theorem rel_upd (R : Rel K H0 B F σ H e) {D : Addr} (o : HO) (h1 : ¬ F D) (h2 : ¬ Ow σ e D) (h3 : ¬ Lo σ e D) (h4 : H0 D = none ∨ B D) : Rel K H0 B F σ (upd H D o) e := by
  have k : Keep F H F (upd H D o) := ⟨fun _ h => h, fun a u hf ha => by rw [upd_ne (by rintro rfl; exact h1 hf)]; exact ha⟩
  have dm : ∀ a, F a → upd H D o a ≠ none := fun a ha => by
    rw [upd_ne (by rintro rfl; exact h1 ha)]; exact R.dom a ha
  refine ⟨R.len, dm, fun i x h => ?_, fun i c h => ?_, fun i c h => ?_, R.inj, fun a u ha hb => ?_, dm⟩
  · obtain ⟨v, q1, q2⟩ := R.dat i x h
    exact ⟨v, q1, q2.keep k⟩
  · obtain ⟨a, q1, q2, q3, q4⟩ := R.own i c h
    exact ⟨a, q1, q2.keep k fun u hu => by rw [upd_ne (by rintro rfl; exact h2 ⟨i, c, h, q1⟩)]; exact hu, q3, q4⟩
  · obtain ⟨a, q1, q2, q3⟩ := R.lk i c h
    exact ⟨a, q1, q2.keep k fun u hu => by rw [upd_ne (by rintro rfl; exact h3 ⟨i, c, h, q1⟩)]; exact hu, q3⟩
  · rw [upd_ne (by rintro rfl; exact h4.elim (fun z => by rw [z] at ha; cases ha) hb)]
    exact R.frame a u ha hb
theorem rel_wipe (R : Rel K H0 B F σ H e) (vs : List Nat) : Rel K H0 B F (wipe σ vs) H (wipeE vs e) := by
  have g : ∀ {i : Nat} {s : Sl}, (wipeE vs e)[i]? = some s → s ≠ .no → e[i]? = some s ∧ (wipe σ vs)[i]? = σ[i]? := fun {i s} h hs => by
    rcases wipeE_some h with ⟨q1, q2⟩ | ⟨_, q2⟩
    · exact ⟨q2, wipe_get q1⟩
    · exact absurd q2 hs
  have go : ∀ {i : Nat} {c : Ct}, ((wipeE vs e)[i]? = some (Sl.own c) ∨ (wipeE vs e)[i]? = some (Sl.lk c)) → (e[i]? = some (Sl.own c) ∨ e[i]? = some (Sl.lk c)) ∧ (wipe σ vs)[i]? = σ[i]? := fun {i c} h => by
    rcases h with h | h
    · exact ⟨.inl (g h (fun z => nomatch z)).1, (g h (fun z => nomatch z)).2⟩
    · exact ⟨.inr (g h (fun z => nomatch z)).1, (g h (fun z => nomatch z)).2⟩
  refine ⟨by rw [wipe_length, wipeE_len]; exact R.len, R.dom, fun i x h => ?_, fun i c h => ?_, fun i c h => ?_, fun i j a c c' hi hj si sj => ?_, R.frame, R.fnew⟩
  · rcases h with h | h
    · obtain ⟨q1, q2⟩ := g h (fun z => nomatch z)
      rw [q2]; exact R.dat i x (.inl q1)
    · obtain ⟨q1, q2⟩ := g h (fun z => nomatch z)
      rw [q2]; exact R.dat i x (.inr q1)
  · obtain ⟨q1, q2⟩ := g h (fun z => nomatch z)
    rw [q2]; exact R.own i c q1
  · obtain ⟨q1, q2⟩ := g h (fun z => nomatch z)
    rw [q2]; exact R.lk i c q1
  · obtain ⟨q1, q2⟩ := go hi
    obtain ⟨q3, q4⟩ := go hj
    rw [q2] at si
    rw [q4] at sj
    exact R.inj i j a c c' q1 q3 si sj
theorem ow_wipe {vs : List Nat} {a : Addr} (h : Ow (wipe σ vs) (wipeE vs e) a) : Ow σ e a := by
  obtain ⟨i, c, h1, h2⟩ := h
  rcases wipeE_some h1 with ⟨q1, q2⟩ | ⟨_, q2⟩
  · rw [wipe_get q1] at h2; exact ⟨i, c, q2, h2⟩
  · cases q2
theorem lo_wipe {vs : List Nat} {a : Addr} (h : Lo (wipe σ vs) (wipeE vs e) a) : Lo σ e a := by
  obtain ⟨i, c, h1, h2⟩ := h
  rcases wipeE_some h1 with ⟨q1, q2⟩ | ⟨_, q2⟩
  · rw [wipe_get q1] at h2; exact ⟨i, c, q2, h2⟩
  · cases q2
/-- the end of a turn: from the state at its start to the one at its end -/
theorem turn_step {vs : List Nat} {F4 : Addr → Prop} {H4 : Hp} {σ5 : St} {e' e5 e6 : En} (T : Tgd vs σ e' σ5 e5) (hw : wipe σ vs = σ) (hv : ∀ i ∈ vs, i < e'.length → e'[i]? = some .no) (S : Step F H σ5 e5 F4 H4 e6) : Step F H σ e' F4 H4 (wipeE vs e6) := by
  have ow : ∀ a, Ow σ5 e5 a → Ow σ e' a := fun a ⟨i, c, h1, h2⟩ => by
    by_cases hi : i ∈ vs
    · exact absurd h1 (T.no i hi (fun c' q => by
        rw [hv i hi (List.getElem?_eq_some_iff.mp q).1] at q; cases q) c)
    · obtain ⟨q1, q2⟩ := T.same i hi
      exact ⟨i, c, q2 ▸ h1, q1 ▸ h2⟩
  refine ⟨⟨by rw [wipeE_len, ← S.sls.len, T.elen], fun i s h => ?_⟩, S.fr, fun a o h n => S.at_ a o h fun z => n (ow a z), fun a h => (S.new a h).elim .inl fun h => h.elim (fun h => .inr (.inl h)) fun h => .inr (.inr (ow a h)), S.dom⟩
  rcases wipeE_some h with ⟨q1, q2⟩ | ⟨q1, q2⟩
  · obtain ⟨s0, z1, z2⟩ := S.sls.sl i s q2
    rw [(T.same i q1).2] at z1
    exact ⟨s0, z1, z2⟩
  · subst q2
    have hl := (List.getElem?_eq_some_iff.mp h).1
    rw [wipeE_len, ← S.sls.len, T.elen] at hl
    exact ⟨.no, hv i q1 hl, .no⟩
/-- behind a comprehension -/
theorem lc_end {F1 F' : Addr → Prop} {H1 H' : Hp} {e1 e2 : En} {wk vs : List Nat} {Z : Hp} (R1 : Rel K H0 B F1 σ H1 e1) (pz : PinZ F1 H1 σ e1 wk Z) (hv : vsOk e1 vs = true) (R2 : Rel K H0 B F' (wipe σ vs) H' e2) (S : Step F1 H1 (wipe σ vs) (wipeE vs (lock wk e1)) F' H' e2) :
    Rel K H0 B F' σ H' (unlock wk (back vs e1 e2)) ∧ Step F1 H1 σ e1 F' H' (unlock wk (back vs e1 e2)) := by
  have own1 : ∀ i ∈ wk, ∃ c, e1[i]? = some (Sl.own c) := fun i hi => let ⟨c, _, h, _⟩ := pz.all i hi; ⟨c, h⟩
  have dj : ∀ i ∈ wk, i ∉ vs := fun i hi hs => by
    obtain ⟨c, h⟩ := own1 i hi
    exact (vsOk_get hv hs c).1 h
  have hl : e1.length = e2.length := by rw [← S.sls.len, wipeE_len, lock_len]
  have lkg : ∀ {i : Nat} {s : Sl}, (lock wk e1)[i]? = some s → (i ∉ wk ∧ e1[i]? = some s) ∨ (i ∈ wk ∧ ∃ c, e1[i]? = some (Sl.own c) ∧ s = .lk c) := fun h => lock_get own1 pz.nd h
  have eLown : ∀ a, Ow (wipe σ vs) (wipeE vs (lock wk e1)) a → Ow σ e1 a ∧ ∀ i ∈ wk, σ[i]? ≠ some (some (V.ref a)) := fun a h => by
    obtain ⟨i, c, h1, h2⟩ := ow_wipe h
    rcases lkg h1 with ⟨q1, q2⟩ | ⟨_, c', _, q⟩
    · refine ⟨⟨i, c, q2, h2⟩, fun j hj hs => ?_⟩
      obtain ⟨c', hc'⟩ := own1 j hj
      have := R1.inj i j a c c' (.inl q2) (.inl hc') h2 hs
      subst this; exact q1 hj
    · cases q
  -- the slots at the end
  have ch : ∀ {i : Nat} {s : Sl}, (unlock wk (back vs e1 e2))[i]? = some s → (i ∈ vs ∧ e1[i]? = some s ∧ (∀ c, s ≠ .own c) ∧ ∀ c, s ≠ .lk c) ∨ (i ∉ vs ∧ i ∈ wk ∧ e1[i]? = some s ∧ ∃ c, s = .own c) ∨ (i ∉ vs ∧ i ∉ wk ∧ e2[i]? = some s ∧ ∃ s0 : Sl, e1[i]? = some s0 ∧ SlLe s0 s) := fun {i s} h => by
    rcases unlock_get h with ⟨q1, q2⟩ | ⟨q1, c, q2, q3⟩
    · by_cases hi : i ∈ vs
      · rw [back_in hl hi] at q1
        exact .inl ⟨hi, q1, fun c z => (vsOk_get hv hi c).1 (z ▸ q1), fun c z => (vsOk_get hv hi c).2 (z ▸ q1)⟩
      · rw [back_get hi] at q1
        obtain ⟨s0, z1, z2⟩ := S.sls.sl i s q1
        rw [wipeE_get hi] at z1
        rcases lkg z1 with ⟨y1, y2⟩ | ⟨y1, c', y2, y3⟩
        · exact .inr (.inr ⟨hi, y1, q1, s0, y2, z2⟩)
        · subst y3
          cases z2
          rcases q2 with q2 | q2
          · exact absurd y1 q2
          · exact absurd rfl (q2 c')
    · have hi := dj i q1
      rw [back_get hi] at q2
      obtain ⟨s0, z1, z2⟩ := S.sls.sl i _ q2
      rw [wipeE_get hi] at z1
      rcases lkg z1 with ⟨y1, y2⟩ | ⟨y1, c', y2, y3⟩
      · exact absurd q1 y1
      · subst y3
        cases z2
        subst q3
        exact .inr (.inl ⟨hi, q1, y2, _, rfl⟩)
  have kp : Keep F1 H1 F' H' := ⟨S.fr, fun a o f h => S.at_ a o h fun z => R1.owNo (eLown a z).1 f⟩
  have or1 : ∀ {i : Nat} {c : Ct}, ((unlock wk (back vs e1 e2))[i]? = some (Sl.own c) ∨ (unlock wk (back vs e1 e2))[i]? = some (Sl.lk c)) → ∃ c', e1[i]? = some (Sl.own c') ∨ e1[i]? = some (Sl.lk c') := fun {i c} h => by
    rcases h with h | h
    · rcases ch h with ⟨_, _, n, _⟩ | ⟨_, _, q, _⟩ | ⟨_, _, _, s0, q1, q2⟩
      · exact absurd rfl (n c)
      · exact ⟨c, .inl q⟩
      · cases q2; exact ⟨_, .inl q1⟩
    · rcases ch h with ⟨_, _, _, n⟩ | ⟨_, _, q, c', z⟩ | ⟨_, _, _, s0, q1, q2⟩
      · exact absurd rfl (n c)
      · cases z
      · cases q2; exact ⟨_, .inr q1⟩
  refine ⟨⟨by rw [unlock_len, back_len, ← hl]; exact R1.len, R2.dom, fun i x h => ?_, fun i c h => ?_, fun i c h => ?_, fun i j a c c' hi hj si sj => ?_, R2.frame, R2.fnew⟩, ⟨⟨by rw [unlock_len, back_len, hl], fun i s h => ?_⟩, S.fr, fun a o h n => S.at_ a o h fun z => n (eLown a z).1, fun a h => ?_, S.dom⟩⟩
  · rcases h with h | h
    · rcases ch h with ⟨_, q, _⟩ | ⟨_, _, _, c, z⟩ | ⟨q1, _, q2, _⟩
      · obtain ⟨v, w1, w2⟩ := R1.dat i x (.inl q)
        exact ⟨v, w1, w2.keep kp⟩
      · cases z
      · rw [← wipe_get q1 (σ := σ)]; exact R2.dat i x (.inl q2)
    · rcases ch h with ⟨_, q, _⟩ | ⟨_, _, _, c, z⟩ | ⟨q1, _, q2, _⟩
      · obtain ⟨v, w1, w2⟩ := R1.dat i x (.inr q)
        exact ⟨v, w1, w2.keep kp⟩
      · cases z
      · rw [← wipe_get q1 (σ := σ)]; exact R2.dat i x (.inr q2)
  · rcases ch h with ⟨_, _, n, _⟩ | ⟨_, q1, q2, _⟩ | ⟨q1, _, q2, _⟩
    · exact absurd rfl (n c)
    · obtain ⟨a, w1, w2, w3, w4⟩ := R1.own i c q2
      have no : ¬ Ow (wipe σ vs) (wipeE vs (lock wk e1)) a := fun z => (eLown a z).2 i q1 w1
      exact ⟨a, w1, w2.keep kp fun o ho => S.at_ a o ho no, S.notF w3 w2.there no, w4⟩
    · rw [← wipe_get q1 (σ := σ)]; exact R2.own i c q2
  · rcases ch h with ⟨_, _, _, n⟩ | ⟨_, _, _, c', z⟩ | ⟨q1, _, q2, _⟩
    · exact absurd rfl (n c)
    · cases z
    · rw [← wipe_get q1 (σ := σ)]; exact R2.lk i c q2
  · obtain ⟨c1, h1⟩ := or1 hi
    obtain ⟨c2, h2⟩ := or1 hj
    exact R1.inj i j a c1 c2 h1 h2 si sj
  · rcases ch h with ⟨_, q, _⟩ | ⟨_, _, q, _⟩ | ⟨_, _, _, q⟩
    · exact ⟨s, q, .refl s⟩
    · exact ⟨s, q, .refl s⟩
    · exact q
  · rcases S.new a h with h | h | h
    · exact .inl h
    · exact .inr (.inl h)
    · exact .inr (.inr (eLown a h).1)
theorem vsOk_lock {e : En} {vs wk : List Nat} (hv : vsOk e vs = true) : True := trivial
/-- a comprehension's run -/
theorem lc_run {ci : CI} {gg : TG} {g : CG} {t : CT} {a : CE} {vs : List Nat} {σ : St} {H : Hp} {Q : VK} (hg : DenL K vs gg g) (q : tE K (cLc vs ci g t a) σ H Q) : tLc (tI K ci) gg (tTs K t) (tE K a) vs σ H Q := by
  obtain ⟨H0, B, F, e, op, e', R, he, k⟩ := q
  obtain ⟨⟨xs, wk, e1⟩, h1, he⟩ := bind_some he
  simp only at he
  split at he
  rotate_left
  · cases he
  rename_i hv
  obtain ⟨⟨ds, e2⟩, h2, he⟩ := bind_some he
  cases he
  refine ⟨H0, B, F, e, xs, wk, e1, R, h1, fun F1 H1 J Z R1 S1 pz wo D hD => ?_⟩
  have nF : ¬ F1 D := fun z => R1.dom D z hD
  have nOw : ¬ Ow σ e1 D := fun z => R1.owSome z hD
  have nLo : ¬ Lo σ e1 D := fun z => R1.loSome z hD
  have h0D : H0 D = none ∨ B D := by
    by_cases z : B D
    · exact .inr z
    · cases q : H0 D with
      | none => exact .inl rfl
      | some o =>
        have := R1.frame D o q z
        rw [hD] at this; cases this
  have own1 : ∀ i ∈ wk, ∃ c, e1[i]? = some (Sl.own c) := fun i hi => let ⟨c, _, h, _⟩ := pz.all i hi; ⟨c, h⟩
  have lkg : ∀ {i : Nat} {s : Sl}, (lock wk e1)[i]? = some s → (i ∉ wk ∧ e1[i]? = some s) ∨ (i ∈ wk ∧ ∃ c, e1[i]? = some (Sl.own c) ∧ s = .lk c) := fun h => lock_get own1 pz.nd h
  -- locked
  have RL : Rel K H0 B F1 σ H1 (lock wk e1) := by
    refine ⟨by rw [lock_len]; exact R1.len, R1.dom, fun i x h => ?_, fun i c h => ?_, fun i c h => ?_, fun i j a c c' hi hj si sj => ?_, R1.frame, R1.fnew⟩
    · rcases h with h | h
      · rcases lkg h with ⟨_, q⟩ | ⟨_, c, _, q⟩
        · exact R1.dat i x (.inl q)
        · cases q
      · rcases lkg h with ⟨_, q⟩ | ⟨_, c, _, q⟩
        · exact R1.dat i x (.inr q)
        · cases q
    · rcases lkg h with ⟨_, q⟩ | ⟨_, c', _, q⟩
      · exact R1.own i c q
      · cases q
    · rcases lkg h with ⟨_, q⟩ | ⟨_, c', q, q2⟩
      · exact R1.lk i c q
      · cases q2
        obtain ⟨a, w1, w2, w3, _⟩ := R1.own i c q
        exact ⟨a, w1, w2.lk, w3⟩
    · have o1 : ∀ {i : Nat} {c : Ct}, ((lock wk e1)[i]? = some (Sl.own c) ∨ (lock wk e1)[i]? = some (Sl.lk c)) → ∃ c', e1[i]? = some (Sl.own c') ∨ e1[i]? = some (Sl.lk c') := fun {i c} h => by
        rcases h with h | h
        · rcases lkg h with ⟨_, q⟩ | ⟨_, c', q, q2⟩
          · exact ⟨_, .inl q⟩
          · exact ⟨_, .inl q⟩
        · rcases lkg h with ⟨_, q⟩ | ⟨_, c', q, q2⟩
          · exact ⟨_, .inr q⟩
          · exact ⟨_, .inl q⟩
      obtain ⟨c1, z1⟩ := o1 hi
      obtain ⟨c2, z2⟩ := o1 hj
      exact R1.inj i j a c1 c2 z1 z2 si sj
  have owL : ∀ a, Ow (wipe σ vs) (wipeE vs (lock wk e1)) a → Ow σ e1 a := fun a h => by
    obtain ⟨i, c, z1, z2⟩ := ow_wipe h
    rcases lkg z1 with ⟨_, q⟩ | ⟨_, c', _, q⟩
    · exact ⟨i, c, q, z2⟩
    · cases q
  have loL : ∀ a, Lo (wipe σ vs) (wipeE vs (lock wk e1)) a → Lo σ e1 a ∨ Ow σ e1 a := fun a h => by
    obtain ⟨i, c, z1, z2⟩ := lo_wipe h
    rcases lkg z1 with ⟨_, q⟩ | ⟨_, c', q, _⟩
    · exact .inl ⟨i, c, q, z2⟩
    · exact .inr ⟨i, c', q, z2⟩
  have ww : wipe (wipe σ vs) vs = wipe σ vs := wipe_eq (by rw [wipe_length]) fun i hi => wipe_get hi
  have RW := rel_wipe RL vs
  have nowk : ∀ a, Ow (wipe σ vs) (wipeE vs (lock wk e1)) a → ∃ (i : Nat) (c : Ct), i ∉ wk ∧ e1[i]? = some (Sl.own c) ∧ σ[i]? = some (some (V.ref a)) := fun a h => by
    obtain ⟨i, c, z1, z2⟩ := ow_wipe h
    rcases lkg z1 with ⟨q1, q⟩ | ⟨_, c', _, q⟩
    · exact ⟨i, c, q1, q, z2⟩
    · cases q
  -- what a turn keeps
  let S := fun (F' : Addr → Prop) (H' : Hp) (e' : En) => Rel K H0 B F' (wipe σ vs) H' e' ∧ Step F1 H1 (wipe σ vs) (wipeE vs (lock wk e1)) F' H' e' ∧ ∀ i ∈ vs, i < e'.length → e'[i]? = some Sl.no
  have nD : ∀ {F' : Addr → Prop} {H' : Hp} {e' : En}, Step F1 H1 (wipe σ vs) (wipeE vs (lock wk e1)) F' H' e' → ¬ Ow (wipe σ vs) e' D ∧ ¬ Lo (wipe σ vs) e' D := fun {F' H' e'} s => by
    refine ⟨fun z => nOw (owL D (s.ow D z)), fun z => ?_⟩
    rcases loL D (s.sls.lo z) with q | q
    · exact nLo q
    · exact nOw q
  have v0 : ∀ {e : En}, ∀ i ∈ vs, i < (wipeE vs e).length → (wipeE vs e)[i]? = some Sl.no := fun {e} i hi hl => wipeE_in hi (by rw [wipeE_len] at hl; exact hl)
  have S0 : Step F1 H1 (wipe σ vs) (wipeE vs (lock wk e1)) F1 (upd H1 D (.lst [])) (wipeE vs (lock wk e1)) := (Grow.own R1.dom hD _).step
  refine ⟨fun i m H' => ∃ F' e' acc av, m = xs.length - i ∧ i ≤ xs.length ∧ S F' H' e' ∧ ¬ F' D ∧ H' D = some (.lst av) ∧ DAll K F' H' av acc ∧ lcL vs g t a (xs.drop i) acc e' = some (ds, e2),
    ⟨xs.length, F1, _, [], [], by simp, Nat.zero_le _, ⟨rel_upd RW _ nF (nD S0).1 (nD S0).2 h0D, S0, v0⟩, nF, upd_same, .nil, by simpa using h2⟩, ?_⟩
  rintro i m H' ⟨F', e3, acc, av, rfl, hi, ⟨R3, S3, v3⟩, n3, d3, a3, h3⟩
  have kp : Keep F1 H1 F' H' := S3.keep RW
  have hz : ∀ a o, Z a = some o → H' a = some o := fun a o ha => S3.at_ a o (pz.at_ a o ha).1 fun z => by
    obtain ⟨j, c, q1, q2, q3⟩ := nowk a z
    exact q1 ((pz.at_ a o ha).2.2 j c q2 q3)
  by_cases hl : i = xs.length
  · subst hl
    refine .inl ⟨wo.stop F' H' kp hz, ?_⟩
    rw [List.drop_length] at h3
    cases h3
    obtain ⟨Rf, Sf⟩ := lc_end R1 pz hv R3 S3
    exact k F' H' _ Rf (S1.trans Sf) ⟨D, rfl, ⟨av, d3, a3⟩, n3, dom_none S1 hD, fun z => nOw (Sf.ow D z), fun z => nLo (Sf.sls.lo z)⟩
  · have hi : i < xs.length := by omega
    obtain ⟨g1, g2⟩ := wo.go i F' H' hi kp R3.dom hz
    rw [List.drop_eq_getElem_cons hi] at h3
    obtain ⟨e5, h5, h3⟩ := bind_some h3
    obtain ⟨⟨b, e6⟩, h6, h3⟩ := bind_some h3
    refine .inr ⟨g1, fun H'' => ∃ F'' e'' acc'' av'', S F'' H'' e'' ∧ ¬ F'' D ∧ H'' D = some (.lst av'') ∧ DAll K F'' H'' av'' acc'' ∧ lcL vs g t a (xs.drop (i + 1)) acc'' e'' = some (ds, e2),
      fun H'' ⟨F'', e'', acc'', av'', z1, z2, z3, z4, z5⟩ => ⟨xs.length - (i + 1), by omega, F'', e'', acc'', av'', rfl, hi, z1, z2, z3, z4, z5⟩, fun x H4 y => ?_⟩
    obtain ⟨F4, d, G, hd, dv⟩ := g2 x H4 y
    rw [List.getElem?_eq_getElem hi] at hd; cases hd
    have R4 := R3.grow G
    refine hg.run H0 B F4 _ H4 e3 e5 x _ _ R4 dv h5 fun σ5 R5 T5 => ?_
    have w5 : wipe σ5 vs = wipe σ vs := (wipe_eq T5.len fun i hi => (T5.same i hi).1).trans ww
    refine ⟨w5, H0, B, F4, e5, b, e6, R5, h6, fun F6 H6 R6 S6 => ?_⟩
    simp only at h3
    cases b with
    | false =>
      have St : Step F' H' (wipe σ vs) e3 F6 H6 (wipeE vs e6) := G.step.trans (turn_step T5 ww v3 S6)
      refine iteF ⟨F6, wipeE vs e6, acc, av, ⟨w5 ▸ rel_wipe R6 vs, S3.trans St, v0⟩, St.notF n3 (by rw [d3]; exact fun z => nomatch z) (nD S3).1, St.at_ D _ d3 (nD S3).1, a3.keep (St.keep R3), by simpa using h3⟩
    | true =>
      simp only [if_true] at h3
      obtain ⟨⟨y, e7⟩, h7, h3⟩ := bind_some h3
      obtain ⟨⟨d8, e8⟩, h8, h3⟩ := bind_some h3
      simp only at h3
      split at h3
      rotate_left
      · cases h3
      rename_i hlt
      refine iteT ⟨H0, B, F6, e6, y, e7, R6, h7, fun F7 H7 w R7 S7 O7 => ?_⟩
      obtain ⟨F8, R8, fr8, new8, sls8, dv8⟩ := O7.fz R7 (fun _ _ => .inr trivial) h8
      have S8 : Step F6 H6 σ5 e6 F8 H7 e8 := fz_step (K := K) (H0 := H0) (B := B) S7 fr8 new8 sls8
      have St : Step F' H' (wipe σ vs) e3 F8 H7 (wipeE vs e8) := G.step.trans (turn_step T5 ww v3 (S6.trans S8))
      have hD7 : H7 D = some (.lst av) := St.at_ D _ d3 (nD S3).1
      have nF8 : ¬ F8 D := St.notF n3 (by rw [d3]; exact fun z => nomatch z) (nD S3).1
      have k8 : Keep F8 H7 F8 (upd H7 D (.lst (av ++ [w]))) := ⟨fun _ h => h, fun b o hf ho => by rw [upd_ne (by rintro rfl; exact nF8 hf)]; exact ho⟩
      have S9 := S3.trans St
      refine ⟨av, hD7, by rw [a3.length]; exact hlt, F8, wipeE vs e8, acc ++ [d8], av ++ [w], ⟨rel_upd (w5 ▸ rel_wipe R8 vs) _ nF8 (nD S9).1 (nD S9).2 h0D, ⟨S9.sls, S9.fr, fun b o ho hn => ?_, S9.new, fun b hb => ?_⟩, v0⟩, nF8, upd_same, ((a3.keep (St.keep R3)).append (.cons dv8 .nil)).keep k8, h3⟩
      · rw [upd_ne (by rintro rfl; rw [hD] at ho; cases ho)]; exact S9.at_ b o ho hn
      · rw [upd_ne (by rintro rfl; exact hb hD)]; exact S9.dom b hb
theorem set_run {K : PySem.W.Frag} {np i : Nat} {fa : CE} {D : Ends} {σ : St} {H : Hp} (q : tSt K np (sSet np i fa) D σ H) : tE K fa σ H fun x H1 => gName i x σ H1 D.nx := by
  obtain ⟨f, F, e, fl, e', hnp, R, h, k⟩ := q
  subst hnp
  obtain ⟨⟨x, e1⟩, h1, h⟩ := bind_some h
  obtain ⟨⟨s, e2⟩, h2, h⟩ := bind_some h
  simp only at h
  split at h
  · rename_i hf
    cases h
    refine toE R h1 fun F1 H1 v R1 S1 O1 => ?_
    obtain ⟨F2, R2⟩ := stow_rel R R1 S1 O1 h2 hf
    exact k F2 _ H1 R2
  · cases h
theorem pts_dnil {X : Cx} : PTs X [] (tTs X.K tYesT) := ⟨fun pins s σ H Q I q => by
  obtain ⟨H0, B, F, e, b, e', R, he, k⟩ := q
  cases he
  exact pts_nil.run pins s σ H Q I (k F H R .refl)⟩
/-- [elt for target in iter if ..] -/
theorem dn_lc {X : Cx} {elt tg iter : Expr} {ifs : List Expr} {scope : Scope} {own : List (Str × Nat)} {pos : Pos} {ci : CI} {gg : TG} {g : CG} {t : CT} {a : CE} (hc : X.calm = true) (hN : X.N.Nodup) (hi : DenI X tg iter ci) (ok : BlkOk X.N X.env.scope scope own)
    (hg : ∀ (s : Shared) (H : Hp) (C : Addr) (cl : List (Str × Addr)) (fp : List Addr), PG (X.blk s H scope (compEnvC scope cl C X.env) fp) tg gg) (hl : DenL X.K (own.map (·.2)) gg g)
    (ht : ∀ (s : Shared) (H : Hp) (C : Addr) (cl : List (Str × Addr)) (fp : List Addr), PTs (X.blk s H scope (compEnvC scope cl C X.env) fp) ifs (tTs X.K t))
    (he : ∀ (s : Shared) (H : Hp) (C : Addr) (cl : List (Str × Addr)) (fp : List Addr), Den (X.blk s H scope (compEnvC scope cl C X.env) fp) elt a) (hs : ∀ x, foldedSetIterable iter X.env x = pure x := by intro _; rfl) :
    Den X (.ListComp elt [⟨tg, iter, ifs, 0⟩] scope pos) (cLc (own.map (·.2)) ci g t a) := PE.mono (pe_lc hc hN hi ok hg ht he hs) fun σ H Q q => lc_run hl q
/-- name = [..] on one line -/
theorem ds_setLc {X : Cx} {np i : Nat} {y : Str} {py : Pos} {elt tg iter : Expr} {ifs : List Expr} {scope : Scope} {own : List (Str × Nat)} {pos spos : Pos} {ci : CI} {gg : TG} {g : CG} {t : CT} {a : CE} (hc : X.calm = true) (hN : X.N.Nodup) (hy : X.N[i]? = some y) (hyl : X.env.scope.names.lookup y = some .local)
    (hsw : swapsWith (.ListComp elt [⟨tg, iter, ifs, 0⟩] scope pos) (some (.Name y py)) spos.line X.env = pure true) (hi : DenI X tg iter ci) (ok : BlkOk X.N X.env.scope scope own)
    (hg : ∀ (s : Shared) (H : Hp) (C : Addr) (cl : List (Str × Addr)) (fp : List Addr), PG (X.blk s H scope (compEnvC scope cl C X.env) fp) tg gg) (hl : DenL X.K (own.map (·.2)) gg g)
    (ht : ∀ (s : Shared) (H : Hp) (C : Addr) (cl : List (Str × Addr)) (fp : List Addr), PTs (X.blk s H scope (compEnvC scope cl C X.env) fp) ifs (tTs X.K t))
    (he : ∀ (s : Shared) (H : Hp) (C : Addr) (cl : List (Str × Addr)) (fp : List Addr), Den (X.blk s H scope (compEnvC scope cl C X.env) fp) elt a) (hs : ∀ x, foldedSetIterable iter X.env x = pure x := by intro _; rfl) :
    DenS X np (.Assign [.Name y py] (.ListComp elt [⟨tg, iter, ifs, 0⟩] scope pos) spos) (sSet np i (cLc (own.map (·.2)) ci g t a)) := PS.mono (ps_setLc hc hN hy hyl hsw hi ok hg ht he hs) fun D σ H q => lc_run hl (set_run q)
end
end MP

/-! A10: operators. -/
namespace MP
open PySem PySem.Spec L2
open PyProof.Rows hiding St
open PySem.W (dataLt alike keyToks not_lt_int lt_data gt_data le_data ge_data)

/-! ### data without dicts, as HandS reads it -/
section
variable {K : PySem.W.Frag} {F : Addr → Prop} {H : Hp}
mutual
theorem DV.dp : ∀ {v : V} {d : PyData}, DV K F H v d → d.plain = true → Dp K H v d
  | _, _, .non, _ => .non
  | _, _, .bl b, _ => .bl b
  | _, _, .int i, _ => .int i
  | _, _, .str x, _ => .str x
  | _, _, .lst f h a, p => .lst (SqL.of h) (DAll.dp a (by simpa [PyData.plain] using p))
  | _, _, .tup f h a, p => .tup (SqT.of h) (DAll.dp a (by simpa [PyData.plain] using p))
  | _, _, .lstK l c d s z r a, p => .lst (.inr ⟨_, _, _, l, c, d, s, z, r⟩) (DAll.dp a (by simpa [PyData.plain] using p))
  | _, _, .tupK l c s z r a, p => .tup (.inr ⟨_, _, _, l, c, s, z, r⟩) (DAll.dp a (by simpa [PyData.plain] using p))
  | _, _, .dct f h a, p => by simp [PyData.plain] at p
theorem DAll.dp : ∀ {vs : List V} {ds : List PyData}, DAll K F H vs ds → PyData.plainAll ds = true → DpAll K H vs ds
  | _, _, .nil, _ => .nil
  | _, _, .cons a b, p => by
    have p : (_ && _) = true := p
    rw [Bool.and_eq_true] at p
    exact .cons (DV.dp a p.1) (DAll.dp b p.2)
end
theorem RV.dp {v : V} {d : PyData} (h : RV K F H v d) (p : d.plain = true) : Dp K H v d := by
  rcases h with h | ⟨a, c, rfl, h, rfl⟩
  · exact h.dp p
  · cases c with
    | lst xs =>
      obtain ⟨vs, h1, h2⟩ := h
      exact .lst (.inl h1) (DAll.dp h2 (by simpa [Ct.frz, PyData.plain] using p))
    | dct kvs => simp [Ct.frz, PyData.plain] at p
/-- a list or tuple among operands -/
theorem RV.seq {v : V} {d : PyData} {xs : List PyData} (h : RV K F H v d) (hs : seqD d = some xs) : ∃ a vs, v = .ref a ∧ DAll K F H vs xs ∧ (SqL K H a vs ∧ (∃ ys, d = .list ys) ∨ SqT K H a vs ∧ ∃ ys, d = .tuple ys) := by
  rcases h with h | ⟨a, c, rfl, h, rfl⟩
  · cases h with
    | lst f h a => cases hs; exact ⟨_, _, rfl, a, .inl ⟨SqL.of h, _, rfl⟩⟩
    | tup f h a => cases hs; exact ⟨_, _, rfl, a, .inr ⟨SqT.of h, _, rfl⟩⟩
    | lstK l c d s z r a => cases hs; exact ⟨_, _, rfl, a, .inl ⟨.inr ⟨_, _, _, l, c, d, s, z, r⟩, _, rfl⟩⟩
    | tupK l c s z r a => cases hs; exact ⟨_, _, rfl, a, .inr ⟨.inr ⟨_, _, _, l, c, s, z, r⟩, _, rfl⟩⟩
    | _ => cases hs
  · cases c with
    | dct kvs => cases hs
    | lst ys =>
      cases hs
      obtain ⟨vs, h1, h2⟩ := h
      exact ⟨a, vs, rfl, h2, .inl ⟨.inl h1, _, rfl⟩⟩
theorem RV.lst {v : V} {xs : List PyData} (h : RV K F H v (.list xs)) : ∃ a vs, v = .ref a ∧ DAll K F H vs xs ∧ SqL K H a vs := by
  obtain ⟨a, vs, e, h1, h2⟩ := h.seq rfl
  rcases h2 with ⟨h2, _⟩ | ⟨_, ys, z⟩
  · exact ⟨a, vs, e, h1, h2⟩
  · cases z
theorem RV.tup {v : V} {xs : List PyData} (h : RV K F H v (.tuple xs)) : ∃ a vs, v = .ref a ∧ DAll K F H vs xs ∧ SqT K H a vs := by
  obtain ⟨a, vs, e, h1, h2⟩ := h.seq rfl
  rcases h2 with ⟨_, ys, z⟩ | ⟨h2, _⟩
  · cases z
  · exact ⟨a, vs, e, h1, h2⟩
theorem RX.lst {v : V} {xs : List PyData} (h : RX K F H v (.list xs)) : ∃ a vs, v = .ref a ∧ DAll K F H vs xs ∧ SqL K H a vs := h.rv.lst
end

/-! ### list + and * of lists that may only be read -/
section
open PyProof.Rows in
theorem list_mulW (l : Addr) (items : Array Value) (n : Nat) (dd : Option Addr) (sl : Array (Option Value)) (x : Int) (u : Tok) (hc0 : ¬(!Builtin.List.listFitsIndex x) = true) (hc1 : ¬items.size * x.toNat > (2 ^ 63 - 1) / 8) (hc2 : ¬Builtin.List.listTooLong (items.size * x.toNat) = true) :
    Meets (Builtin.«list.__mul__» ⟨[.ref l, .int x u], []⟩) (fun _ R s => s.heap.get? l = some { cls := .type "list", dict := dd, data := .seq items n, slots := sl } ∧ R (.ok (.ret (Value.ref s.heap.objs.size))) { s with heap := s.heap.push { cls := Value.type "list", data := Data.seq (List.foldl (fun x1 x2 => x1 ++ x2) #[] (List.replicate (if items.isEmpty = true then 0 else x.toNat) items)) }, toks := s.toks }) :=
  .of_wp fun prog w A R s h => by
    obtain ⟨hp, g, d, tk, os⟩ := s; obtain ⟨hl, h⟩ := h
    have hsz := PySem.AutoListH.joined_fits hc2
    wp_walk using wpAny_loadPart' hl; refine wpAny_ite_false (decide_eq_false (Nat.not_lt.mpr hsz)) ?_; wp_walk using wpAny_loadPart' hl; exact ⟨_, rfl, h⟩
theorem int_rmul_listW (a : Int) (t : Tok) (l : Addr) (items : Array Value) (n : Nat) (dd : Option Addr) (sl : Array (Option Value)) :
    Meets (Builtin.«int.__rmul__» ⟨[.int a t, .ref l], []⟩) (fun _ R s => s.heap.get? l = some { cls := .type "list", dict := dd, data := .seq items n, slots := sl } ∧ R (.ok (.ret Value.notImplemented)) s) :=
  .of_wp fun prog w A R s h => by obtain ⟨hp, g, d, tk, os⟩ := s; obtain ⟨hl, h⟩ := h; wp_walk using wpAny_loadPart' hl; exact ⟨_, rfl, h⟩
variable {X : Cx}
def rCatS (K : PySem.W.Frag) : R2 := fun x y H Q => ∃ l b xs zs, x = .ref l ∧ y = .ref b ∧ SqL K H l xs ∧ SqL K H b zs ∧ xs.length + zs.length ≤ sizeLine ∧ ∀ p, H p = none → Q (.ref p) (upd H p (.lst (xs ++ zs)))
theorem op_catS : OpR X (binaryOp .Add) (rCatS X.K) := by
  intro pins s σ H x y v u Q I rx ry h
  obtain ⟨l, b, xs, zs, rfl, rfl, hH, hB, hz, q⟩ := h
  cases rx
  cases ry
  obtain ⟨its, r, ⟨⟨cls, data, dd, sl⟩, n, ho, hc, hdd, hd⟩, z⟩ := I.list hH
  obtain ⟨its2, r2, ⟨⟨cls2, data2, dd2, sl2⟩, n2, ho2, hc2, hdd2, hd2⟩, z2⟩ := I.list hB
  simp only at hc hd hc2 hd2
  subst hc hd hc2 hd2
  have l1 := r.length
  have l2 := r2.length
  refine concat_meets ⟨_, ho, rfl⟩ ⟨_, ho2, rfl⟩ noFill_list_add seq_list_add PySem.F.slot_list_add PySem.F.entry_list_add (PySem.F.args_list_add_2 _ _) (list_addW l b its.toArray its2.toArray n n2 _ _ _ _ (by simp; omega)) ⟨ho, ho2, ?_⟩
  have ea : its.toArray ++ its2.toArray = (its ++ its2).toArray := by simp
  rw [ea]
  exact ⟨.ref _, _, I.lnew (t' := s.toks) (r.append r2) (by rw [List.length_append]; omega), rfl, q _ I.fresh⟩
def rRepS (K : PySem.W.Frag) : R2 := fun x y H Q => ∃ l k xs, x = .ref l ∧ y = .int k ∧ SqL K H l xs ∧ -(2 ^ 63) ≤ k ∧ k < 2 ^ 63 ∧ xs.length * k.toNat ≤ sizeLine ∧
  ∀ p, H p = none → Q (.ref p) (upd H p (.lst (List.replicate k.toNat xs).flatten))
theorem op_repS : OpR X (binaryOp .Mult) (rRepS X.K) := by
  intro pins s σ H x y v u Q I rx ry h
  obtain ⟨l, k, xs, rfl, rfl, hH, h1, h2, hz, q⟩ := h
  cases rx
  obtain ⟨t, rfl⟩ := ry
  obtain ⟨its, r, ⟨⟨cls, data, dd, sl⟩, n, e, hc, hdd, hd⟩, z⟩ := I.list hH
  simp only at hc hd
  subst hc hd
  have hl := r.length
  have hlen : its.toArray.size * k.toNat ≤ sizeLine := by rw [List.size_toArray, ← hl]; exact hz
  have hcap : ¬ its.toArray.size * k.toNat > (2 ^ 63 - 1) / 8 := by
    have : (sizeLine : Nat) ≤ (2 ^ 63 - 1) / 8 := by decide
    omega
  have hfit : ¬ (!Builtin.List.listFitsIndex k) = true := by
    rw [fitsIndex_both h1 h2]
    exact Bool.false_ne_true
  have hlong : ¬ Builtin.List.listTooLong (its.toArray.size * k.toNat) = true := by
    rw [notLongL hlen]
    exact Bool.false_ne_true
  have hnew : List.foldl (fun x1 x2 => x1 ++ x2) #[] (List.replicate (if its.toArray.isEmpty = true then 0 else k.toNat) its.toArray) = (List.replicate k.toNat its).flatten.toArray := by
    have f0 : ∀ m : Nat, List.foldl (fun x1 x2 => x1 ++ x2) #[] (List.replicate m its.toArray) = (List.replicate m its).flatten.toArray := fun m => by
      have := L2.foldl_rep its m []
      rw [List.nil_append] at this
      exact this
    rw [f0]
    cases its with
    | nil => simp
    | cons a r' => rw [if_neg (by simp)]
  refine wpAny_binaryOp_repeat_ref (T := "list") (U := "int") (by decide) ⟨_, e, rfl⟩ (fun s' => typeIs_int s' k t) noFill_list_mul F.fills_int_mul F.slot_int_rmul repeat_list F.slot_int_index.lookup
    (call_meets F.slot_int_rmul (typeIs_int s k t) F.entry_int_rmul (F.args_int_rmul_2 _ _) (int_rmul_listW k t l its.toArray n _ _)
      ⟨e, rfl, ⟨_, e, rfl⟩, call_meets F.slot_list_mul ⟨_, e, rfl⟩ F.entry_list_mul (F.args_list_mul_2 _ _) (list_mulW l its.toArray n _ _ k t hfit hcap hlong) ⟨e, ?_⟩⟩)
  rw [hnew]
  exact ⟨.ref _, _, I.lnew (t' := s.toks) (r.rep k.toNat) (by rw [PyProof.Rows.lm_len_rep_flat, Nat.mul_comm]; exact hz), rfl, q _ I.fresh⟩
end
/-! ### the rules' shape -/
abbrev Gx (g : PyData → PyData → Option Rv) := g
section
variable {K : PySem.W.Frag} {F : Addr → Prop} {H : Hp}
/-- data handed back, nothing new -/
theorem now {Q : VK} {v : V} {d : PyData} (dm : DomF F H) (k : ∀ F' H' v, Grow F H F' H' → RvRel K F' H' H v (.v d) → Q v H') (h : DV K F H v d) : Q v H := k F H v (Grow.refl dm) h
theorem now_new {Q : VK} {p : Addr} {d : PyData} {o : HO} (dm : DomF F H) (k : ∀ F' H' v, Grow F H F' H' → RvRel K F' H' H v (.v d) → Q v H') (hp : H p = none) (h : DV K (fun a => F a ∨ a = p) (upd H p o) (.ref p) d) : Q (.ref p) (upd H p o) := k _ _ _ (Grow.one dm hp o) h
theorem now_own {Q : VK} {p : Addr} {c : Ct} {o : HO} (dm : DomF F H) (k : ∀ F' H' v, Grow F H F' H' → RvRel K F' H' H v (.o c) → Q v H') (hp : H p = none) (h : OwnAt K F (upd H p o) p c) : Q (.ref p) (upd H p o) :=
  k _ _ _ (Grow.own dm hp o) ⟨p, rfl, h, fun z => dm p z hp, hp⟩
theorem keep_upd {p : Addr} {o : HO} (hp : H p = none) : Keep F H F (upd H p o) := ⟨fun _ h => h, fun a u _ h => by rw [upd_ne (ne_of_none h hp)]; exact h⟩
theorem keep_one {p : Addr} {o : HO} (hp : H p = none) : Keep F H (fun a => F a ∨ a = p) (upd H p o) := ⟨fun _ h => .inl h, fun a u _ h => by rw [upd_ne (ne_of_none h hp)]; exact h⟩
end
/-! ### arithmetic -/
def sz0 : Nat := 16777216
def gAdd : PyData → PyData → Option Rv
  | .int i, .int j => some (.v (.int (i + j)))
  | .tuple xs, .tuple ys => if szOk (xs.length + ys.length) then some (.v (.tuple (xs ++ ys))) else none
  | .list xs, .list ys => if szOk (xs.length + ys.length) then some (.o (.lst (xs ++ ys))) else none
  | _, _ => none
def gSub : PyData → PyData → Option Rv
  | .int i, .int j => some (.v (.int (i - j)))
  | _, _ => none
def mulOk (i j : Int) : Bool := decide (i.natAbs.log2 + j.natAbs.log2 < 1000000)
def gMul : PyData → PyData → Option Rv
  | .int i, .int j => if mulOk i j then some (.v (.int (i * j))) else none
  | .list xs, .int k => if decide (k ≤ 10000) && decide (-10000 ≤ k) && decide (xs.length ≤ 1000) then some (.o (.lst (List.replicate k.toNat xs).flatten)) else none
  | .tuple xs, .int k => if decide (2 ≤ k) && decide (k ≤ 1000) && decide (xs.length ≤ 1000) && decide (0 < xs.length) then some (.v (.tuple (List.replicate k.toNat xs).flatten)) else none
  | _, _ => none
def gDiv : PyData → PyData → Option Rv
  | .int i, .int j => if decide (0 < j) && decide (j.natAbs.log2 < 9000) then some (.v (.int (i / j))) else if decide (j ≠ 0) && decide (j.natAbs < 1073741824) then some (.v (.int (i.fdiv j))) else none
  | _, _ => none
def gMod : PyData → PyData → Option Rv
  | .int i, .int j => if decide (0 < j) then some (.v (.int (i % j))) else if decide (j ≠ 0) then some (.v (.int (i.fmod j))) else none
  | _, _ => none
def gPow : PyData → PyData → Option Rv
  | .int i, .int j => if decide (0 ≤ j) && decide (j ≤ 1000) && decide (i.natAbs < 2 ^ 64) then some (.v (.int (i ^ j.toNat))) else none
  | _, _ => none
def gNeg : PyData → Option Rv
  | .int i => some (.v (.int (-i)))
  | _ => none
section
variable {X : Cx}
def rAddA (K : PySem.W.Frag) : R2 := fun x y H Q => rI0 (fun i j => .int (i + j)) x y H Q ∨ rCatA K x y H Q ∨ rCatS K x y H Q
theorem OpR.or {f : Value → Value → Sem Value} {r r' : R2} (h : OpR X f r) (h' : OpR X f r') : OpR X f (fun x y H Q => r x y H Q ∨ r' x y H Q) := fun pins s σ H x y v u Q I rx ry q => q.elim (fun q => h pins s σ H x y v u Q I rx ry q) fun q => h' pins s σ H x y v u Q I rx ry q
theorem op_addA : OpR X (binaryOp .Add) (rAddA X.K) := op_add.or (op_catA.or op_catS)
theorem g_add {K : PySem.W.Frag} : G2x K (rAddA K) gAdd := fun F H x y d d' r Q dm h1 h2 hg k => by
  unfold gAdd at hg
  split at hg
  · cases hg
    rw [h1.rv.int, h2.rv.int]
    exact .inl ⟨_, _, rfl, rfl, now dm k (.int _)⟩
  · split at hg
    · rename_i hz
      cases hg
      obtain ⟨a, vs, rfl, a1, a2⟩ := h1.rv.tup
      obtain ⟨b, ws, rfl, b1, b2⟩ := h2.rv.tup
      refine .inr (.inl ⟨a, b, vs, ws, rfl, rfl, a2, b2, by rw [a1.length, b1.length]; exact szOk_le hz, fun e => ?_, fun _ e => ?_, fun _ _ p hp => ?_⟩)
      · subst e
        cases a1
        have h2 := h2
        refine now dm k ?_
        rcases h2 with h2 | ⟨_, c, _, _, e⟩
        · exact h2
        · cases c <;> cases e
      · subst e
        cases b1
        rw [List.append_nil] at k
        refine now dm k ?_
        rcases h1 with h1 | ⟨_, c, _, _, e⟩
        · exact h1
        · cases c <;> cases e
      · exact now_new dm k hp (.tup (.inr rfl) upd_same ((a1.append b1).keep (keep_one hp)))
    · cases hg
  · split at hg
    · rename_i hz
      cases hg
      obtain ⟨a, vs, rfl, a1, a2⟩ := h1.lst
      obtain ⟨b, ws, rfl, b1, b2⟩ := h2.lst
      refine .inr (.inr ⟨a, b, vs, ws, rfl, rfl, a2, b2, by rw [a1.length, b1.length]; exact szOk_le hz, fun p hp => ?_⟩)
      exact now_own dm k hp ⟨_, upd_same, (a1.append b1).keep (keep_upd hp)⟩
    · cases hg
  · cases hg
theorem g_sub {K : PySem.W.Frag} : G2x K (rI0 fun i j => .int (i - j)) gSub := fun F H x y d d' r Q dm h1 h2 hg k => by
  unfold gSub at hg
  split at hg
  · cases hg
    rw [h1.rv.int, h2.rv.int]
    exact ⟨_, _, rfl, rfl, now dm k (.int _)⟩
  · cases hg
def rMulA (K : PySem.W.Frag) : R2 := fun x y H Q => rI CMulW (fun i j => .int (i * j)) x y H Q ∨ rRepS K x y H Q ∨ rRepT K x y H Q
theorem op_mulA : OpR X (binaryOp .Mult) (rMulA X.K) := op_mulW.or (op_repS.or op_repT)
theorem DAll.rep {K : PySem.W.Frag} {F : Addr → Prop} {H : Hp} {vs : List V} {ds : List PyData} (h : DAll K F H vs ds) : ∀ n : Nat, DAll K F H (List.replicate n vs).flatten (List.replicate n ds).flatten
  | 0 => .nil
  | n + 1 => by
    rw [List.replicate_succ, List.replicate_succ, List.flatten_cons, List.flatten_cons]
    exact h.append (DAll.rep h n)
theorem g_mul {K : PySem.W.Frag} : G2x K (rMulA K) gMul := fun F H x y d d' r Q dm h1 h2 hg k => by
  unfold gMul at hg
  split at hg
  · split at hg
    · rename_i hz
      cases hg
      rw [h1.rv.int, h2.rv.int]
      exact .inl ⟨_, _, rfl, rfl, (of_decide_eq_true hz : _ + _ < _), now dm k (.int _)⟩
    · cases hg
  · split at hg
    · rename_i hz
      cases hg
      simp only [Bool.and_eq_true, decide_eq_true_eq] at hz
      obtain ⟨⟨z1, z2⟩, z3⟩ := hz
      obtain ⟨a, vs, rfl, a1, a2⟩ := h1.lst
      rw [h2.rv.int]
      refine .inr (.inl ⟨a, _, vs, rfl, rfl, a2, by omega, by omega, ?_, fun p hp => ?_⟩)
      · rw [a1.length, sizeLine_eq]
        exact Nat.le_trans (Nat.mul_le_mul z3 (show _ ≤ 10000 by omega)) (by decide)
      · exact now_own dm k hp ⟨_, upd_same, (a1.rep _).keep (keep_upd hp)⟩
    · cases hg
  · split at hg
    · rename_i hz
      cases hg
      simp only [Bool.and_eq_true, decide_eq_true_eq] at hz
      obtain ⟨⟨⟨z1, z2⟩, z3⟩, z4⟩ := hz
      obtain ⟨a, vs, rfl, a1, a2⟩ := h1.rv.tup
      rw [h2.rv.int]
      refine .inr (.inr ⟨a, _, vs, rfl, rfl, a2, ?_, z1, z2, by rw [a1.length]; exact z3, fun p hp => ?_⟩)
      · rintro rfl; cases a1; simp at z4
      · exact now_new dm k hp (.tup (.inr rfl) upd_same ((a1.rep _).keep (keep_one hp)))
    · cases hg
  · cases hg
def rDivA : R2 := fun x y H Q => rI CDivW (fun i j => .int (i / j)) x y H Q ∨ rI CDivN (fun i j => .int (i.fdiv j)) x y H Q
theorem op_divA : OpR X (binaryOp .FloorDiv) rDivA := op_fdivW.or op_fdivN
theorem g_div {K : PySem.W.Frag} : G2x K rDivA gDiv := fun F H x y d d' r Q dm h1 h2 hg k => by
  unfold gDiv at hg
  split at hg
  · rw [h1.rv.int, h2.rv.int]
    split at hg
    · rename_i hz
      cases hg
      simp only [Bool.and_eq_true, decide_eq_true_eq] at hz
      exact .inl ⟨_, _, rfl, rfl, hz, now dm k (.int _)⟩
    · split at hg
      · rename_i hz
        cases hg
        simp only [Bool.and_eq_true, decide_eq_true_eq] at hz
        exact .inr ⟨_, _, rfl, rfl, hz, now dm k (.int _)⟩
      · cases hg
  · cases hg
def rModA : R2 := fun x y H Q => rI (fun _ j => 0 < j) (fun i j => .int (i % j)) x y H Q ∨ rI (fun _ j => j ≠ 0) (fun i j => .int (i.fmod j)) x y H Q
theorem op_modA : OpR X (binaryOp .Mod) rModA := op_mod.or op_modN
theorem g_mod {K : PySem.W.Frag} : G2x K rModA gMod := fun F H x y d d' r Q dm h1 h2 hg k => by
  unfold gMod at hg
  split at hg
  · rw [h1.rv.int, h2.rv.int]
    split at hg
    · rename_i hz
      cases hg
      exact .inl ⟨_, _, rfl, rfl, of_decide_eq_true hz, now dm k (.int _)⟩
    · split at hg
      · rename_i hz
        cases hg
        exact .inr ⟨_, _, rfl, rfl, of_decide_eq_true hz, now dm k (.int _)⟩
      · cases hg
  · cases hg
theorem g_pow {K : PySem.W.Frag} : G2x K (rI CPow fun i j => .int (i ^ j.toNat)) gPow := fun F H x y d d' r Q dm h1 h2 hg k => by
  unfold gPow at hg
  split at hg
  · split at hg
    · rename_i hz
      cases hg
      simp only [Bool.and_eq_true, decide_eq_true_eq] at hz
      obtain ⟨⟨z1, z2⟩, z3⟩ := hz
      rw [h1.rv.int, h2.rv.int]
      exact ⟨_, _, rfl, rfl, ⟨z1, by omega, z3⟩, now dm k (.int _)⟩
    · cases hg
  · cases hg
theorem g_neg {K : PySem.W.Frag} : G1 K (rU fun i => .int (-i)) gNeg := fun F H x d r Q dm h1 hg k => by
  unfold gNeg at hg
  split at hg
  · cases hg
    rw [h1.int]
    exact ⟨_, rfl, now dm k (.int _)⟩
  · cases hg
variable {a b : Expr} {fa fb : CE} {pos : Pos}
theorem dn_add (ha : Den X a fa) (hb : Den X b fb) : Den X (.BinOp a .Add b pos) (c2x gAdd fa fb) := dn_bin op_addA g_add ha hb
theorem dn_sub (ha : Den X a fa) (hb : Den X b fb) : Den X (.BinOp a .Sub b pos) (c2x gSub fa fb) := dn_bin op_sub g_sub ha hb
theorem dn_mul (ha : Den X a fa) (hb : Den X b fb) : Den X (.BinOp a .Mult b pos) (c2x gMul fa fb) := dn_bin op_mulA g_mul ha hb
theorem dn_div (ha : Den X a fa) (hb : Den X b fb) : Den X (.BinOp a .FloorDiv b pos) (c2x gDiv fa fb) := dn_bin op_divA g_div ha hb
theorem dn_mod (ha : Den X a fa) (hb : Den X b fb) : Den X (.BinOp a .Mod b pos) (c2x gMod fa fb) := dn_bin op_modA g_mod ha hb
theorem dn_pow (ha : Den X a fa) (hb : Den X b fb) : Den X (.BinOp a .Pow b pos) (c2x gPow fa fb) := dn_bin op_pow g_pow ha hb
theorem dn_neg (ha : Den X a fa) : Den X (.UnaryOp .USub a pos) (c1 gNeg fa) := dn_un un_neg g_neg ha
end

/-! ### comparisons -/
def dpOk (d d' : PyData) : Bool := d.plain && d'.plain && decide (min d.depth d'.depth ≤ 60)
def gEq : PyData → PyData → Option Rv
  | .int i, .int j => some (.v (.bool (decide (i = j))))
  | d, d' => if dpOk d d' then some (.v (.bool (PyData.eqv d d'))) else none
def gNe : PyData → PyData → Option Rv
  | .int i, .int j => some (.v (.bool (decide (i ≠ j))))
  | d, d' => if dpOk d d' then some (.v (.bool (!PyData.eqv d d'))) else none
def ltOk (d d' : PyData) : Bool := alike d d' && d.plain && d'.plain && decide (min d.depth d'.depth ≤ 60) && (match d with | .none => false | _ => true)
def gLt : PyData → PyData → Option Rv
  | .int i, .int j => some (.v (.bool (decide (i < j))))
  | d, d' => if ltOk d d' then some (.v (.bool (dataLt d d'))) else none
def gGt : PyData → PyData → Option Rv
  | .int i, .int j => some (.v (.bool (decide (j < i))))
  | d, d' => if ltOk d d' then some (.v (.bool (dataLt d' d))) else none
def gLe : PyData → PyData → Option Rv
  | .int i, .int j => some (.v (.bool (decide (i ≤ j))))
  | d, d' => if ltOk d d' then some (.v (.bool (!dataLt d' d))) else none
def gGe : PyData → PyData → Option Rv
  | .int i, .int j => some (.v (.bool (decide (j ≤ i))))
  | d, d' => if ltOk d d' then some (.v (.bool (!dataLt d d'))) else none
section
variable {X : Cx}
/-- a comparison of data: g what it gives where C holds -/
def rD (K : PySem.W.Frag) (C : PyData → PyData → Prop) (g : PyData → PyData → Bool) : R2 := fun x y H Q => ∃ d d', Dp K H x d ∧ Dp K H y d' ∧ C d d' ∧ Q (.bl (g d d')) H
def CEq (d d' : PyData) : Prop := d.plain = true ∧ d'.plain = true ∧ min d.depth d'.depth ≤ 60
def CLt (d d' : PyData) : Prop := alike d d' = true ∧ d ≠ .none ∧ min d.depth d'.depth ≤ 60
theorem op_dEq (hu : X.A.units + 64 < cLine) : OpR X (compareOp .Eq) (rD X.K CEq PyData.eqv) := by
  intro pins s σ H x y v u Q I rx ry h
  obtain ⟨d, d', hd, he, ⟨p1, p2, p3⟩, q⟩ := h
  obtain ⟨as, r1⟩ := Dp.reads I d x v hd rx
  obtain ⟨bs, r2⟩ := Dp.reads I d' y u he ry
  exact SeqAt.eq_plain r1 r2 p1 p2 (by omega) ⟨.bl _, H, I, rfl, q⟩
theorem op_dNe (hu : X.A.units + 64 < cLine) : OpR X (compareOp .NotEq) (rD X.K CEq fun d d' => !PyData.eqv d d') := by
  intro pins s σ H x y v u Q I rx ry h
  obtain ⟨d, d', hd, he, ⟨p1, p2, p3⟩, q⟩ := h
  obtain ⟨as, r1⟩ := Dp.reads I d x v hd rx
  obtain ⟨bs, r2⟩ := Dp.reads I d' y u he ry
  exact SeqAt.ne_plain r1 r2 p1 p2 (by omega) ⟨.bl _, H, I, rfl, q⟩
theorem op_dLt (hu : X.A.units + 64 < cLine) : OpR X (compareOp .Lt) (rD X.K CLt dataLt) := by
  intro pins s σ H x y v u Q I rx ry h
  obtain ⟨d, d', hd, he, ⟨p1, p2, p3⟩, q⟩ := h
  obtain ⟨as, r1⟩ := Dp.reads I d x v hd rx
  obtain ⟨bs, r2⟩ := Dp.reads I d' y u he ry
  exact lt_data r1 r2 p1 p2 (by omega) ⟨.bl _, H, I, rfl, q⟩
theorem op_dGt (hu : X.A.units + 64 < cLine) : OpR X (compareOp .Gt) (rD X.K CLt fun d d' => dataLt d' d) := by
  intro pins s σ H x y v u Q I rx ry h
  obtain ⟨d, d', hd, he, ⟨p1, p2, p3⟩, q⟩ := h
  obtain ⟨as, r1⟩ := Dp.reads I d x v hd rx
  obtain ⟨bs, r2⟩ := Dp.reads I d' y u he ry
  exact gt_data r1 r2 p1 p2 (by omega) ⟨.bl _, H, I, rfl, q⟩
theorem op_dLe (hu : X.A.units + 64 < cLine) : OpR X (compareOp .LtE) (rD X.K CLt fun d d' => !dataLt d' d) := by
  intro pins s σ H x y v u Q I rx ry h
  obtain ⟨d, d', hd, he, ⟨p1, p2, p3⟩, q⟩ := h
  obtain ⟨as, r1⟩ := Dp.reads I d x v hd rx
  obtain ⟨bs, r2⟩ := Dp.reads I d' y u he ry
  exact le_data r1 r2 p1 p2 (by omega) ⟨.bl _, H, I, rfl, q⟩
theorem op_dGe (hu : X.A.units + 64 < cLine) : OpR X (compareOp .GtE) (rD X.K CLt fun d d' => !dataLt d d') := by
  intro pins s σ H x y v u Q I rx ry h
  obtain ⟨d, d', hd, he, ⟨p1, p2, p3⟩, q⟩ := h
  obtain ⟨as, r1⟩ := Dp.reads I d x v hd rx
  obtain ⟨bs, r2⟩ := Dp.reads I d' y u he ry
  exact ge_data r1 r2 p1 p2 (by omega) ⟨.bl _, H, I, rfl, q⟩
theorem rD_run {K : PySem.W.Frag} {F : Addr → Prop} {H : Hp} {x y : V} {d d' : PyData} {Q : VK} {C : PyData → PyData → Prop} {g : PyData → PyData → Bool} (dm : DomF F H) (h1 : RV K F H x d) (h2 : RV K F H y d') (p1 : d.plain = true) (p2 : d'.plain = true) (c : C d d')
    (k : ∀ F' H' v, Grow F H F' H' → RvRel K F' H' H v (.v (.bool (g d d'))) → Q v H') : rD K C g x y H Q := ⟨d, d', h1.dp p1, h2.dp p2, c, now dm k (.bl _)⟩
theorem dpOk_of {d d' : PyData} (h : dpOk d d' = true) : d.plain = true ∧ d'.plain = true ∧ min d.depth d'.depth ≤ 60 := by
  unfold dpOk at h
  rw [Bool.and_eq_true, Bool.and_eq_true, decide_eq_true_eq] at h
  exact ⟨h.1.1, h.1.2, h.2⟩
theorem ltOk_of {d d' : PyData} (h : ltOk d d' = true) : d.plain = true ∧ d'.plain = true ∧ CLt d d' := by
  unfold ltOk at h
  rw [Bool.and_eq_true, Bool.and_eq_true, Bool.and_eq_true, Bool.and_eq_true, decide_eq_true_eq] at h
  obtain ⟨⟨⟨⟨h1, h2⟩, h3⟩, h4⟩, h5⟩ := h
  exact ⟨h2, h3, h1, (by intro e; rw [e] at h5; cases h5), h4⟩
theorem int_dp (i j : Int) : CEq (.int i) (.int j) := ⟨rfl, rfl, by simp [PyData.depth]⟩
theorem int_lt (i j : Int) : CLt (.int i) (.int j) := ⟨rfl, (fun z => nomatch z), by simp [PyData.depth]⟩
theorem g_eq {K : PySem.W.Frag} : G2 K (rD K CEq PyData.eqv) gEq := fun F H x y d d' r Q dm h1 h2 hg k => by
  unfold gEq at hg
  split at hg
  · cases hg
    refine rD_run dm h1 h2 rfl rfl (int_dp _ _) ?_
    rename_i i j
    rw [show PyData.eqv (.int i) (.int j) = decide (i = j) from by rw [Bool.eq_iff_iff]; simp [PyData.eqv]]
    exact k
  · split at hg
    · rename_i hz
      cases hg
      have := dpOk_of hz
      exact rD_run dm h1 h2 this.1 this.2.1 this k
    · cases hg
theorem g_ne {K : PySem.W.Frag} : G2 K (rD K CEq fun d d' => !PyData.eqv d d') gNe := fun F H x y d d' r Q dm h1 h2 hg k => by
  unfold gNe at hg
  split at hg
  · cases hg
    refine rD_run dm h1 h2 rfl rfl (int_dp _ _) ?_
    rename_i i j
    rw [show (!PyData.eqv (.int i) (.int j)) = decide (i ≠ j) from by rw [Bool.eq_iff_iff]; simp [PyData.eqv]]
    exact k
  · split at hg
    · rename_i hz
      cases hg
      have := dpOk_of hz
      exact rD_run dm h1 h2 this.1 this.2.1 this k
    · cases hg
theorem dataLt_int (i j : Int) : dataLt (.int i) (.int j) = decide (i < j) := by
  unfold dataLt
  simp [keyToks, PyProof.Rows.lexLt, itemOrd, itemLt]
theorem g_lt {K : PySem.W.Frag} : G2 K (rD K CLt dataLt) gLt := fun F H x y d d' r Q dm h1 h2 hg k => by
  unfold gLt at hg
  split at hg
  · cases hg
    refine rD_run dm h1 h2 rfl rfl (int_lt _ _) ?_
    rw [dataLt_int]
    exact k
  · split at hg
    · rename_i hz
      cases hg
      have := ltOk_of hz
      exact rD_run dm h1 h2 this.1 this.2.1 this.2.2 k
    · cases hg
theorem g_gt {K : PySem.W.Frag} : G2 K (rD K CLt fun d d' => dataLt d' d) gGt := fun F H x y d d' r Q dm h1 h2 hg k => by
  unfold gGt at hg
  split at hg
  · cases hg
    refine rD_run dm h1 h2 rfl rfl (int_lt _ _) ?_
    simp only [dataLt_int]
    exact k
  · split at hg
    · rename_i hz
      cases hg
      have := ltOk_of hz
      exact rD_run dm h1 h2 this.1 this.2.1 this.2.2 k
    · cases hg
theorem g_le {K : PySem.W.Frag} : G2 K (rD K CLt fun d d' => !dataLt d' d) gLe := fun F H x y d d' r Q dm h1 h2 hg k => by
  unfold gLe at hg
  split at hg
  · cases hg
    refine rD_run dm h1 h2 rfl rfl (int_lt _ _) ?_
    simp only [dataLt_int]
    rw [not_lt_int]
    exact k
  · split at hg
    · rename_i hz
      cases hg
      have := ltOk_of hz
      exact rD_run dm h1 h2 this.1 this.2.1 this.2.2 k
    · cases hg
theorem g_ge {K : PySem.W.Frag} : G2 K (rD K CLt fun d d' => !dataLt d d') gGe := fun F H x y d d' r Q dm h1 h2 hg k => by
  unfold gGe at hg
  split at hg
  · cases hg
    refine rD_run dm h1 h2 rfl rfl (int_lt _ _) ?_
    simp only [dataLt_int]
    rw [not_lt_int]
    exact k
  · split at hg
    · rename_i hz
      cases hg
      have := ltOk_of hz
      exact rD_run dm h1 h2 this.1 this.2.1 this.2.2 k
    · cases hg
end
end MP

/-! A11: comparisons by name, indices, slices, built-ins. -/
namespace MP
open PySem PySem.Spec L2
open PyProof.Rows hiding St
open PySem.W (dataLt alike keyToks not_lt_int lt_data gt_data le_data ge_data)

section
variable {X : Cx} {a b c : Expr} {fa fb fc : CE} {pos : Pos}
theorem dn_eq (hu : X.A.units + 64 < cLine) (ha : Den X a fa) (hb : Den X b fb) (hm : behindInMarks .Eq b = false := by rfl) : Den X (.Compare a [.Eq] [b] pos) (c2 gEq fa fb) := dn_cmp (op_dEq hu) g_eq ha hb hm
theorem dn_ne (hu : X.A.units + 64 < cLine) (ha : Den X a fa) (hb : Den X b fb) (hm : behindInMarks .NotEq b = false := by rfl) : Den X (.Compare a [.NotEq] [b] pos) (c2 gNe fa fb) := dn_cmp (op_dNe hu) g_ne ha hb hm
theorem dn_lt (hu : X.A.units + 64 < cLine) (ha : Den X a fa) (hb : Den X b fb) (hm : behindInMarks .Lt b = false := by rfl) : Den X (.Compare a [.Lt] [b] pos) (c2 gLt fa fb) := dn_cmp (op_dLt hu) g_lt ha hb hm
theorem dn_gt (hu : X.A.units + 64 < cLine) (ha : Den X a fa) (hb : Den X b fb) (hm : behindInMarks .Gt b = false := by rfl) : Den X (.Compare a [.Gt] [b] pos) (c2 gGt fa fb) := dn_cmp (op_dGt hu) g_gt ha hb hm
theorem dn_le (hu : X.A.units + 64 < cLine) (ha : Den X a fa) (hb : Den X b fb) (hm : behindInMarks .LtE b = false := by rfl) : Den X (.Compare a [.LtE] [b] pos) (c2 gLe fa fb) := dn_cmp (op_dLe hu) g_le ha hb hm
theorem dn_ge (hu : X.A.units + 64 < cLine) (ha : Den X a fa) (hb : Den X b fb) (hm : behindInMarks .GtE b = false := by rfl) : Den X (.Compare a [.GtE] [b] pos) (c2 gGe fa fb) := dn_cmp (op_dGe hu) g_ge ha hb hm
theorem dt_eq (hu : X.A.units + 64 < cLine) (ha : Den X a fa) (hb : Den X b fb) (hm : behindInMarks .Eq b = false := by rfl) : DenT X (.Compare a [.Eq] [b] pos) (tV (c2 gEq fa fb)) := dt_cmp (op_dEq hu) g_eq ha hb hm
theorem dt_ne (hu : X.A.units + 64 < cLine) (ha : Den X a fa) (hb : Den X b fb) (hm : behindInMarks .NotEq b = false := by rfl) : DenT X (.Compare a [.NotEq] [b] pos) (tV (c2 gNe fa fb)) := dt_cmp (op_dNe hu) g_ne ha hb hm
theorem dt_lt (hu : X.A.units + 64 < cLine) (ha : Den X a fa) (hb : Den X b fb) (hm : behindInMarks .Lt b = false := by rfl) : DenT X (.Compare a [.Lt] [b] pos) (tV (c2 gLt fa fb)) := dt_cmp (op_dLt hu) g_lt ha hb hm
theorem dt_gt (hu : X.A.units + 64 < cLine) (ha : Den X a fa) (hb : Den X b fb) (hm : behindInMarks .Gt b = false := by rfl) : DenT X (.Compare a [.Gt] [b] pos) (tV (c2 gGt fa fb)) := dt_cmp (op_dGt hu) g_gt ha hb hm
theorem dt_le (hu : X.A.units + 64 < cLine) (ha : Den X a fa) (hb : Den X b fb) (hm : behindInMarks .LtE b = false := by rfl) : DenT X (.Compare a [.LtE] [b] pos) (tV (c2 gLe fa fb)) := dt_cmp (op_dLe hu) g_le ha hb hm
theorem dt_ge (hu : X.A.units + 64 < cLine) (ha : Den X a fa) (hb : Den X b fb) (hm : behindInMarks .GtE b = false := by rfl) : DenT X (.Compare a [.GtE] [b] pos) (tV (c2 gGe fa fb)) := dt_cmp (op_dGe hu) g_ge ha hb hm

/-! ### is None, is True -/
def isNonD : PyData → Bool
  | .none => true
  | _ => false
def gIs : PyData → PyData → Option Rv
  | d, .none => some (.v (.bool (isNonD d)))
  | .bool x, .bool y => some (.v (.bool (decide (x = y))))
  | _, _ => none
def gIsNot : PyData → PyData → Option Rv
  | d, .none => some (.v (.bool (!isNonD d)))
  | .bool x, .bool y => some (.v (.bool (!decide (x = y))))
  | _, _ => none
theorem RV.isNon {K : PySem.W.Frag} {F : Addr → Prop} {H : Hp} {v : V} {d : PyData} (h : RV K F H v d) : decide (v = .non) = isNonD d := by
  rcases h with h | ⟨a, c, rfl, _, rfl⟩
  · cases h <;> simp [isNonD]
  · cases c <;> simp [Ct.frz, isNonD]
theorem g_is {K : PySem.W.Frag} : G2 K (fun x y H Q => rIsN x y H Q ∨ rIsB x y H Q) gIs := fun F H x y d d' r Q dm h1 h2 hg k => by
  unfold gIs at hg
  split at hg
  · cases hg
    exact .inl ⟨h2.non, by rw [h1.isNon]; exact now dm k (.bl _)⟩
  · cases hg
    exact .inr ⟨_, _, h1.bool, h2.bool, now dm k (.bl _)⟩
  · cases hg
theorem g_isNot {K : PySem.W.Frag} : G2 K (fun x y H Q => rNotN x y H Q ∨ rNotB x y H Q) gIsNot := fun F H x y d d' r Q dm h1 h2 hg k => by
  unfold gIsNot at hg
  split at hg
  · cases hg
    exact .inl ⟨h2.non, by rw [h1.isNon]; exact now dm k (.bl _)⟩
  · cases hg
    exact .inr ⟨_, _, h1.bool, h2.bool, now dm k (.bl _)⟩
  · cases hg
theorem dn_is (ha : Den X a fa) (hb : Den X b fb) (hm : behindInMarks .Is b = false := by rfl) : Den X (.Compare a [.Is] [b] pos) (c2 gIs fa fb) := dn_cmp (op_isN1.or op_isBl) g_is ha hb hm
theorem dn_isNot (ha : Den X a fa) (hb : Den X b fb) (hm : behindInMarks .IsNot b = false := by rfl) : Den X (.Compare a [.IsNot] [b] pos) (c2 gIsNot fa fb) := dn_cmp (op_notN1.or op_notBl) g_isNot ha hb hm
theorem dt_is (ha : Den X a fa) (hb : Den X b fb) (hm : behindInMarks .Is b = false := by rfl) : DenT X (.Compare a [.Is] [b] pos) (tV (c2 gIs fa fb)) := dt_cmp (op_isN1.or op_isBl) g_is ha hb hm
theorem dt_isNot (ha : Den X a fa) (hb : Den X b fb) (hm : behindInMarks .IsNot b = false := by rfl) : DenT X (.Compare a [.IsNot] [b] pos) (tV (c2 gIsNot fa fb)) := dt_cmp (op_notN1.or op_notBl) g_isNot ha hb hm

/-! ### a op b op c -/
def cCh (g g' : PyData → PyData → Option Rv) (a b c : CE) : CE := fun e => (a e).bind fun (x, e1) => (b e1).bind fun (y, e2) => (vw e2 x).bind fun d => (vw e2 y).bind fun d' => match g d d' with
  | some (.v (.bool true)) => (c e2).bind fun (z, e3) => (vw e3 y).bind fun d' => (vw e3 z).bind fun d'' => (g' d' d'').bind fun r => some (r.op, e3)
  | some (.v (.bool false)) => some (.v (.bool false), e2)
  | _ => none
theorem dn_chain {op op' : CmpOp} {r r' : R2} {g g' : PyData → PyData → Option Rv} (ho : OpR X (compareOp op) r) (ho' : OpR X (compareOp op') r') (hg : G2 X.K r g) (hg' : G2 X.K r' g') (ha : Den X a fa) (hb : Den X b fb) (hc : Den X c fc)
    (hm : lastMarks [op, op'] [b, c] = false := by with_unfolding_all rfl) : Den X (.Compare a [op, op'] [b, c] pos) (cCh g g' fa fb fc) := PE.mono (pe_chain ho ho' ha hb hc hm) fun σ H Q q => by
  obtain ⟨H0, B, F, e, op, e', R, he, k⟩ := q
  obtain ⟨⟨x, e1⟩, h1, he⟩ := bind_some he
  obtain ⟨⟨y, e2⟩, h2, he⟩ := bind_some he
  obtain ⟨d, h3, he⟩ := bind_some he
  obtain ⟨d', h4, he⟩ := bind_some he
  refine ⟨H0, B, F, e, x, e1, R, h1, fun F1 H1 v R1 S1 O1 => ?_⟩
  refine ⟨H0, B, F1, e1, y, e2, R1, h2, fun F2 H2 w R2 S2 O2 => ?_⟩
  simp only at he
  cases hgd : g d d' with
  | none => rw [hgd] at he; cases he
  | some rv =>
    rw [hgd] at he
    refine hg F2 H2 v w d d' rv _ R2.dom ((O1.step R1 S2).vw R2 h3) (O2.vw R2 h4) hgd fun F3 H3 z G V3 => ?_
    cases rv with
    | o c => cases he
    | v dd =>
      cases dd with
      | bool t =>
        have V3 : DV X.K F3 H3 z (.bool t) := V3
        cases V3
        refine ⟨t, rfl, ?_⟩
        have R3 := R2.grow G
        cases t with
        | false =>
          cases he
          exact iteF (k F3 H3 _ R3 ((S1.trans S2).trans G.step) (.bl false))
        | true =>
          simp only at he
          obtain ⟨⟨z, e3⟩, h5, he⟩ := bind_some he
          obtain ⟨d1, h6, he⟩ := bind_some he
          obtain ⟨d2, h7, he⟩ := bind_some he
          obtain ⟨r, h8, he⟩ := bind_some he
          cases he
          refine iteT ⟨H0, B, F3, e2, z, _, R3, h5, fun F4 H4 u R4 S4 O4 => ?_⟩
          exact hg' F4 H4 w u d1 d2 r _ R4.dom (((O2.step R2 G.step).step R3 S4).vw R4 h6) (O4.vw R4 h7) h8 fun F5 H5 z5 G5 V5 => k F5 H5 z5 (R4.grow G5) ((((S1.trans S2).trans G.step).trans S4).trans G5.step) ((V5.op R4).back fun a => dom_none (((S1.trans S2).trans G.step).trans S4))
      | _ => cases he

/-! ### in -/
def inOk (d : PyData) (xs : List PyData) : Bool := d.plain && PyData.plainAll xs && decide (min (PyData.depthAll xs) d.depth ≤ 60)
def gInS : PyData → PyData → Option Rv := fun d d' => (seqD d').bind fun xs => if inOk d xs then some (.v (.bool (xs.any fun y => PyData.eqv y d))) else none
def gNotInS : PyData → PyData → Option Rv := fun d d' => (seqD d').bind fun xs => if inOk d xs then some (.v (.bool (!xs.any fun y => PyData.eqv y d))) else none
def rInS (K : PySem.W.Frag) (n : Bool) : R2 := fun x y H Q => ∃ d d' xs, Dp K H x d ∧ Dp K H y d' ∧ seqD d' = some xs ∧ d.plain = true ∧ PyData.plainAll xs = true ∧ min (PyData.depthAll xs) d.depth ≤ 60 ∧ Q (.bl ((xs.any fun y => PyData.eqv y d) != n)) H
theorem op_inS' (hu : X.A.units + 64 < cLine) : OpR X (compareOp .In) (rInS X.K false) := by
  intro pins s σ H x y v u Q I rx ry h
  obtain ⟨d, d', xs, hd, he, hs, p1, p2, p3, q⟩ := h
  obtain ⟨as, r1⟩ := Dp.reads I d x v hd rx
  obtain ⟨bs, r2⟩ := Dp.reads I d' y u he ry
  rw [Bool.bne_false] at q
  cases d' with
  | list ys => cases hs; exact SeqAt.in_list_data r2 r1 p2 p1 (by omega) ⟨.bl _, H, I, rfl, q⟩
  | tuple ys => cases hs; exact SeqAt.in_tuple_data r2 r1 p2 p1 (by omega) ⟨.bl _, H, I, rfl, q⟩
  | _ => cases hs
theorem op_notInS' (hu : X.A.units + 64 < cLine) : OpR X (compareOp .NotIn) (rInS X.K true) := by
  intro pins s σ H x y v u Q I rx ry h
  obtain ⟨d, d', xs, hd, he, hs, p1, p2, p3, q⟩ := h
  obtain ⟨as, r1⟩ := Dp.reads I d x v hd rx
  obtain ⟨bs, r2⟩ := Dp.reads I d' y u he ry
  rw [Bool.bne_true] at q
  cases d' with
  | list ys => cases hs; exact SeqAt.notIn_list_data r2 r1 p2 p1 (by omega) ⟨.bl _, H, I, rfl, q⟩
  | tuple ys => cases hs; exact SeqAt.notIn_tuple_data r2 r1 p2 p1 (by omega) ⟨.bl _, H, I, rfl, q⟩
  | _ => cases hs
theorem inS_run {K : PySem.W.Frag} {n : Bool} {F : Addr → Prop} {H : Hp} {x y : V} {d d' : PyData} {xs : List PyData} {Q : VK} (dm : DomF F H) (h1 : RV K F H x d) (h2 : RV K F H y d') (hs : seqD d' = some xs) (hz : inOk d xs = true)
    (k : ∀ F' H' v, Grow F H F' H' → RvRel K F' H' H v (.v (.bool ((xs.any fun y => PyData.eqv y d) != n))) → Q v H') : rInS K n x y H Q := by
  unfold inOk at hz
  rw [Bool.and_eq_true, Bool.and_eq_true, decide_eq_true_eq] at hz
  obtain ⟨⟨z1, z2⟩, z3⟩ := hz
  have p' : d'.plain = true := by
    cases d' with
    | list ys => cases hs; exact z2
    | tuple ys => cases hs; exact z2
    | _ => cases hs
  exact ⟨d, d', xs, h1.dp z1, h2.dp p', hs, z1, z2, z3, now dm k (.bl _)⟩
theorem g_inS {K : PySem.W.Frag} : G2 K (rInS K false) gInS := fun F H x y d d' r Q dm h1 h2 hg k => by
  obtain ⟨xs, hs, hg⟩ := bind_some hg
  split at hg
  · rename_i hz
    cases hg
    exact inS_run dm h1 h2 hs hz (by rw [Bool.bne_false]; exact k)
  · cases hg
theorem g_notInS {K : PySem.W.Frag} : G2 K (rInS K true) gNotInS := fun F H x y d d' r Q dm h1 h2 hg k => by
  obtain ⟨xs, hs, hg⟩ := bind_some hg
  split at hg
  · rename_i hz
    cases hg
    exact inS_run dm h1 h2 hs hz (by rw [Bool.bne_true]; exact k)
  · cases hg

/-! ### indices -/
def gIxS : PyData → PyData → Option Rv
  | .list xs, .int i => (atI xs i).map .v
  | .tuple xs, .int i => (atI xs i).map .v
  | _, _ => none
theorem DAll.atI {K : PySem.W.Frag} {F : Addr → Prop} {H : Hp} {vs : List V} {ds : List PyData} {i : Int} {d : PyData} (h : DAll K F H vs ds) (e : L2.atI ds i = some d) : ∃ v, L2.atI vs i = some v ∧ DV K F H v d := by
  unfold L2.atI at e ⊢
  obtain ⟨j, hj, e⟩ := bind_some e
  rw [h.length, hj]
  exact h.get e
theorem g_ixS {K : PySem.W.Frag} : G2 K (rIx K) gIxS := fun F H x y d d' r Q dm h1 h2 hg k => by
  unfold gIxS at hg
  split at hg
  · obtain ⟨d0, h3, h4⟩ := Option.map_eq_some_iff.mp hg
    subst h4
    obtain ⟨a, vs, rfl, a1, a2⟩ := h1.lst
    obtain ⟨v, e1, e2⟩ := a1.atI h3
    exact .inl ⟨a, vs, _, v, rfl, h2.int, a2, e1, now dm k e2⟩
  · obtain ⟨d0, h3, h4⟩ := Option.map_eq_some_iff.mp hg
    subst h4
    obtain ⟨a, vs, rfl, a1, a2⟩ := h1.tup
    obtain ⟨v, e1, e2⟩ := a1.atI h3
    exact .inr (.inl ⟨a, vs, _, v, rfl, h2.int, a2, e1, now dm k e2⟩)
  · cases hg
theorem dn_ixS (ha : Den X a fa) (hb : Den X b fb) (hs : PlainIx b := by intro _ _; rfl) : Den X (.Subscript a b pos) (c2 gIxS fa fb) := dn_ix ix_seq g_ixS ha hb hs

/-! ### slices -/
def cutD (xs : List PyData) (lo hi : Option Int) : List PyData := (xs.drop (HT.sIx xs.length 0 lo)).take (HT.sIx xs.length xs.length hi - HT.sIx xs.length 0 lo)
theorem DAll.cut {K : PySem.W.Frag} {F : Addr → Prop} {H : Hp} {vs : List V} {ds : List PyData} (h : DAll K F H vs ds) (lo hi : Option Int) : DAll K F H (cutV vs lo hi) (cutD ds lo hi) := by
  unfold cutV cutD
  rw [h.length]
  exact (h.drop _).take _
def gSl (lo hi : Option Int) : PyData → Option Rv
  | .list xs => some (.o (.lst (cutD xs lo hi)))
  | .tuple xs => some (.v (.tuple (cutD xs lo hi)))
  | _ => none
/-- a part of a slice -/
abbrev CP := En → Option (Option Int × En)
def pNo : CP := fun e => some (none, e)
def pAt (a : CE) : CP := fun e => (a e).bind fun (x, e1) => match vw e1 x with
  | some (.int i) => some (some i, e1)
  | _ => none
def cSl (a : CE) (lo hi : CP) : CE := fun e => (a e).bind fun (x, e1) => (lo e1).bind fun (l, e2) => (hi e2).bind fun (u, e3) => (vw e3 x).bind fun d => (gSl l u d).bind fun r => some (r.op, e3)
def tPs (K : PySem.W.Frag) (f : CP) : TO := fun σ H Q => ∃ H0 B F e o e', Rel K H0 B F σ H e ∧ f e = some (o, e') ∧ ∀ F' H', Rel K H0 B F' σ H' e' → Step F H σ e F' H' e' → Q o H'
abbrev DenP (X : Cx) (e : Option Expr) (f : CP) : Prop := PO X e (tPs X.K f)
theorem PO.mono {e : Option Expr} {t t' : TO} (h : PO X e t) (k : ∀ σ H Q, t' σ H Q → t σ H Q) : PO X e t' := ⟨fun pins s σ H Q I q => h.run pins s σ H Q I (k σ H Q q)⟩
theorem dp_no : DenP X none pNo := PO.mono po_none fun σ H Q q => by
  obtain ⟨H0, B, F, e, o, e', R, he, k⟩ := q
  cases he
  exact k F H R .refl
theorem dp_at (ha : Den X a fa) : DenP X (some a) (pAt fa) := PO.mono (po_some ha) fun σ H Q q => by
  obtain ⟨H0, B, F, e, o, e', R, he, k⟩ := q
  obtain ⟨⟨x, e1⟩, h1, he⟩ := bind_some he
  refine ⟨H0, B, F, e, x, e1, R, h1, fun F1 H1 v R1 S1 O1 => ?_⟩
  simp only at he
  cases hd : vw e1 x with
  | none => rw [hd] at he; cases he
  | some d =>
    rw [hd] at he
    cases d with
    | int i =>
      cases he
      exact ⟨i, (O1.vw R1 hd).int, k F1 H1 R1 S1⟩
    | _ => cases he
def rSlX' (K : PySem.W.Frag) : V → Option Int → Option Int → Hp → VK → Prop := fun x lo hi H Q => rSlL K x lo hi H Q ∨ rSlA K x lo hi H Q
theorem sl_both : L2.SlR X (rSlX' X.K) := fun pins s σ H x v vl vu lo hi sl Q I rx hs pl pu h => h.elim (fun h => sl_list pins s σ H x v vl vu lo hi sl Q I rx hs pl pu h) fun h => sl_tupA pins s σ H x v vl vu lo hi sl Q I rx hs pl pu h
theorem cutD_whole {xs : List PyData} {lo hi : Option Int} (h : HT.sIx xs.length 0 lo = 0 ∧ HT.sIx xs.length xs.length hi = xs.length) : cutD xs lo hi = xs := by
  unfold cutD
  rw [h.1, h.2]
  simp
theorem dn_sl {lo hi : Option Expr} {fl fh : CP} {p2 : Pos} (ha : Den X a fa) (hl : DenP X lo fl) (hh : DenP X hi fh) : Den X (.Subscript a (.Slice lo hi none p2) pos) (cSl fa fl fh) := PE.mono (pe_slice sl_both ha hl hh) fun σ H Q q => by
  obtain ⟨H0, B, F, e, op, e', R, he, k⟩ := q
  obtain ⟨⟨x, e1⟩, h1, he⟩ := bind_some he
  obtain ⟨⟨l, e2⟩, h2, he⟩ := bind_some he
  obtain ⟨⟨u, e3⟩, h3, he⟩ := bind_some he
  obtain ⟨d, h4, he⟩ := bind_some he
  obtain ⟨r, h5, he⟩ := bind_some he
  cases he
  refine ⟨H0, B, F, e, x, e1, R, h1, fun F1 H1 v R1 S1 O1 => ?_⟩
  refine ⟨H0, B, F1, e1, l, e2, R1, h2, fun F2 H2 R2 S2 => ?_⟩
  refine ⟨H0, B, F2, e2, u, _, R2, h3, fun F3 H3 R3 S3 => ?_⟩
  have V1 := ((O1.step R1 S2).step R2 S3).vw R3 h4
  have S := (S1.trans S2).trans S3
  have fin : ∀ F4 H4 w, Grow F3 H3 F4 H4 → RvRel X.K F4 H4 H3 w r → Q w H4 := fun F4 H4 w G V4 => k F4 H4 w (R3.grow G) (S.trans G.step) ((V4.op R3).back fun a => dom_none S)
  cases d with
  | list xs =>
    cases h5
    obtain ⟨a, vs, rfl, a1, a2⟩ := V1.lst
    exact .inl ⟨a, vs, rfl, a2, fun p hp => now_own R3.dom fin hp ⟨_, upd_same, (a1.cut l u).keep (keep_upd hp)⟩⟩
  | tuple xs =>
    cases h5
    obtain ⟨a, vs, rfl, a1, a2⟩ := V1.tup
    refine .inr ⟨a, vs, rfl, a2, fun hw => ?_, fun _ p hp => now_new R3.dom fin hp (.tup (.inr rfl) upd_same ((a1.cut l u).keep (keep_one hp)))⟩
    rw [a1.length] at hw
    rw [cutD_whole hw] at fin
    refine now R3.dom fin ?_
    rcases V1 with V1 | ⟨_, c, _, _, z⟩
    · exact V1
    · cases c <;> cases z
  | _ => cases h5
end
end MP

/-! A12: built-ins. -/
namespace MP
open PySem PySem.Spec L2
open PyProof.Rows hiding St

/-! ### sum of a tuple -/
theorem sum_rawT {prog : Program} {w : World} {A : Around} {E : Value → Shared → Prop} {s : Shared} {l : Addr} {its : List Value} {ns : List Int} {Q : Value → Shared → Prop} (hh : A.handled = none) (hl : s.heap.IsTuple l its.toArray) (hi : IntsAre its ns)
    (h : ∀ h' tk t', (∀ b o, s.heap.get? b = some o → h'.get? b = some o) → Q (.int ns.sum t') { s with heap := h', toks := tk }) : wpAny (model prog w) A (call (.builtin "sum") [.ref l]) Q E s := by
  obtain ⟨xs, e⟩ := hi.allInts.items
  have hn : numsOf (intItems xs).toList = ns := by rw [← e]; exact hi.numsOf
  rw [nums_intItems] at hn
  rw [e] at hl
  have hlt : l < s.heap.objs.size := by obtain ⟨_, e, _⟩ := hl; exact Heap.lt_size e
  refine call_sum_walkG (wpAny_pyIter_tuple hl ?_)
  refine ⟨_, _, _, _, _, _, numAt xs, rfl, Walks.tuple (A := A.in1) hh _ l (Nat.ne_of_lt hlt) (intItems xs), ⟨⟨_, Heap.get?_push_size _ rfl, rfl, rfl⟩, hl.push _⟩, fun c hc => ?_, (fun _ _ => intItems_at), fun h' tk t' hk => ?_⟩
  · show c < (s.heap.push _).objs.size
    rw [Heap.size_push]
    rcases List.mem_cons.mp hc with rfl | hc
    · exact Nat.lt_succ_self _
    · rcases List.mem_cons.mp hc with rfl | hc
      · exact Nat.lt_succ_of_lt hlt
      · cases hc
  · have := h h' tk t' fun b o eo => hk b o (fun hmem => by
      rcases List.mem_cons.mp hmem with e1 | hmem
      · exact absurd (e1 ▸ Heap.lt_size eo) (Nat.lt_irrefl _)
      · cases hmem) (Heap.get?_push_of_some _ eo)
    have e2 : preSum (numAt xs) (intItems xs).size = ns.sum := by rw [preSum_eq, ← hn, List.take_of_length_le (by simp [intItems])]
    rw [e2]; exact this
section
variable {X : Cx}
def rSumT (K : PySem.W.Frag) : List V → Hp → VK → Prop := fun vs H Q => ∃ (a : Addr) (ns : List Int), vs = [V.ref a] ∧ SqT K H a (ns.map V.int) ∧ Q (.int ns.sum) H
theorem cr_sumT (hc : X.calm = true) : CallR X (.builtin "sum") (rSumT X.K) := by
  intro pins s σ H vs us Q I r h
  obtain ⟨a, ns, rfl, hs, q⟩ := h
  obtain ⟨its, rv, hl, _⟩ := I.tuple hs
  rw [Vals.ref1 r]
  exact sum_rawT (I.ok.hd hc) hl rv.ints fun h' tk t' hk => ⟨.int _, H, I.kept hk, ⟨_, rfl⟩, q⟩
end
/-! ### the rules -/
def intsD : List PyData → Option (List Int)
  | [] => some []
  | .int i :: xs => (intsD xs).map (i :: ·)
  | _ => none
def boolsD : List PyData → Option (List Bool)
  | [] => some []
  | .bool b :: xs => (boolsD xs).map (b :: ·)
  | _ => none
theorem intsD_eq : ∀ {xs : List PyData} {ns : List Int}, intsD xs = some ns → xs = ns.map .int
  | [], ns, h => by cases h; rfl
  | x :: xs, ns, h => by
    cases x with
    | int i =>
      obtain ⟨m, h1, h2⟩ := Option.map_eq_some_iff.mp (show (intsD xs).map (i :: ·) = some ns from h)
      subst h2
      rw [intsD_eq h1]; rfl
    | _ => cases h
theorem boolsD_eq : ∀ {xs : List PyData} {ns : List Bool}, boolsD xs = some ns → xs = ns.map .bool
  | [], ns, h => by cases h; rfl
  | x :: xs, ns, h => by
    cases x with
    | bool i =>
      obtain ⟨m, h1, h2⟩ := Option.map_eq_some_iff.mp (show (boolsD xs).map (i :: ·) = some ns from h)
      subst h2
      rw [boolsD_eq h1]; rfl
    | _ => cases h
theorem intsD_of (ns : List Int) : intsD (ns.map .int) = some ns := by
  induction ns with
  | nil => rfl
  | cons n ns ih => simp [intsD, ih]
theorem boolsD_of (ns : List Bool) : boolsD (ns.map .bool) = some ns := by
  induction ns with
  | nil => rfl
  | cons n ns ih => simp [boolsD, ih]
/-- a one-place built-in -/
def g1 (f : PyData → Option Rv) : List PyData → Option Rv
  | [d] => f d
  | _ => none
def fLen : PyData → Option Rv
  | .list xs => some (.v (.int xs.length))
  | .tuple xs => some (.v (.int xs.length))
  | _ => none
def fTuple : PyData → Option Rv
  | .list xs => some (.v (.tuple xs))
  | .tuple xs => some (.v (.tuple xs))
  | _ => none
def fList : PyData → Option Rv
  | .list xs => some (.o (.lst xs))
  | .tuple xs => some (.o (.lst xs))
  | _ => none
def fAll : PyData → Option Rv
  | .list xs => (boolsD xs).map fun bs => .v (.bool (bs.all id))
  | _ => none
def fAny : PyData → Option Rv
  | .list xs => (boolsD xs).map fun bs => .v (.bool (bs.any id))
  | _ => none
def fAbs : PyData → Option Rv
  | .int i => some (.v (.int (if i < 0 then -i else i)))
  | _ => none
def fInt : PyData → Option Rv
  | .int i => some (.v (.int i))
  | .bool b => some (.v (.int (if b then 1 else 0)))
  | _ => none
def fSum : PyData → Option Rv
  | .list xs => (intsD xs).map fun ns => .v (.int ns.sum)
  | .tuple xs => (intsD xs).map fun ns => .v (.int ns.sum)
  | _ => none
def maxL : Int → List Int → Int
  | m, [] => m
  | m, x :: xs => maxL (if m < x then x else m) xs
def minL : Int → List Int → Int
  | m, [] => m
  | m, x :: xs => minL (if x < m then x else m) xs
def fMax : PyData → Option Rv
  | .list xs => match intsD xs with
    | some (n :: ns) => some (.v (.int (maxL n ns)))
    | _ => none
  | _ => none
def fMin : PyData → Option Rv
  | .list xs => match intsD xs with
    | some (n :: ns) => some (.v (.int (minL n ns)))
    | _ => none
  | _ => none
def gMax2 : List PyData → Option Rv
  | [.int i, .int j] => some (.v (.int (if j > i then j else i)))
  | [d] => fMax d
  | _ => none
def gMin2 : List PyData → Option Rv
  | [.int i, .int j] => some (.v (.int (if j < i then j else i)))
  | [d] => fMin d
  | _ => none
def gGcd : List PyData → Option Rv
  | [.int i, .int j] => some (.v (.int ((Nat.gcd i.natAbs j.natAbs : Nat) : Int)))
  | _ => none
theorem maxL_spec : ∀ (ns : List Int) (m : Int), maxL m ns ∈ m :: ns ∧ ∀ y ∈ m :: ns, y ≤ maxL m ns
  | [], m => ⟨List.mem_singleton.mpr rfl, fun y hy => by rw [List.mem_singleton.mp hy]; exact Int.le_refl _⟩
  | x :: xs, m => by
    obtain ⟨h1, h2⟩ := maxL_spec xs (if m < x then x else m)
    unfold maxL
    refine ⟨?_, fun y hy => ?_⟩
    · rcases List.mem_cons.mp h1 with h | h
      · rw [h]; split <;> simp
      · simp [h]
    · have hm := h2 _ List.mem_cons_self
      rcases List.mem_cons.mp hy with rfl | hy
      · refine Int.le_trans ?_ hm; split <;> omega
      · rcases List.mem_cons.mp hy with rfl | hy
        · refine Int.le_trans ?_ hm; split <;> omega
        · exact h2 y (List.mem_cons_of_mem _ hy)
theorem minL_spec : ∀ (ns : List Int) (m : Int), minL m ns ∈ m :: ns ∧ ∀ y ∈ m :: ns, minL m ns ≤ y
  | [], m => ⟨List.mem_singleton.mpr rfl, fun y hy => by rw [List.mem_singleton.mp hy]; exact Int.le_refl _⟩
  | x :: xs, m => by
    obtain ⟨h1, h2⟩ := minL_spec xs (if x < m then x else m)
    unfold minL
    refine ⟨?_, fun y hy => ?_⟩
    · rcases List.mem_cons.mp h1 with h | h
      · rw [h]; split <;> simp
      · simp [h]
    · have hm := h2 _ List.mem_cons_self
      rcases List.mem_cons.mp hy with rfl | hy
      · refine Int.le_trans hm ?_; split <;> omega
      · rcases List.mem_cons.mp hy with rfl | hy
        · refine Int.le_trans hm ?_; split <;> omega
        · exact h2 y (List.mem_cons_of_mem _ hy)
section
variable {K : PySem.W.Frag}
theorem RVs.one {F : Addr → Prop} {H : Hp} {xs : List V} {d : PyData} (h : RVs K F H xs [d]) : ∃ v, xs = [v] ∧ RV K F H v d := by
  obtain ⟨v, r, rfl, h1, h2⟩ := h.cons
  rw [h2.nil]; exact ⟨v, rfl, h1⟩
theorem RVs.two {F : Addr → Prop} {H : Hp} {xs : List V} {d d' : PyData} (h : RVs K F H xs [d, d']) : ∃ v w, xs = [v, w] ∧ RV K F H v d ∧ RV K F H w d' := by
  obtain ⟨v, r, rfl, h1, h2⟩ := h.cons
  obtain ⟨w, rfl, h3⟩ := h2.one
  exact ⟨v, w, rfl, h1, h3⟩
/-- a one-place rule -/
def G1B (K : PySem.W.Frag) (rr : List V → Hp → VK → Prop) (f : PyData → Option Rv) : Prop := ∀ F H v d r Q, DomF F H → RV K F H v d → f d = some r → (∀ F' H' w, Grow F H F' H' → RvRel K F' H' H w r → Q w H') → rr [v] H Q
theorem gb1 {rr : List V → Hp → VK → Prop} {f : PyData → Option Rv} (h : G1B K rr f) : GB K rr (g1 f) := fun F H xs ds r Q dm h1 hg k => by
  unfold g1 at hg
  split at hg
  · obtain ⟨v, rfl, h2⟩ := h1.one
    exact h F H v _ r Q dm h2 hg k
  · cases hg
def rLen (K : PySem.W.Frag) : List V → Hp → VK → Prop := fun xs H Q => ∃ p ys, xs = [.ref p] ∧ (SqL K H p ys ∨ SqT K H p ys) ∧ Q (.int ys.length) H
theorem g_len : G1B K (rLen K) fLen := fun F H v d r Q dm h1 hg k => by
  unfold fLen at hg
  split at hg
  · cases hg
    obtain ⟨a, vs, rfl, a1, a2⟩ := h1.lst
    exact ⟨a, vs, rfl, .inl a2, by rw [a1.length]; exact now dm k (.int _)⟩
  · cases hg
    obtain ⟨a, vs, rfl, a1, a2⟩ := h1.tup
    exact ⟨a, vs, rfl, .inr a2, by rw [a1.length]; exact now dm k (.int _)⟩
  · cases hg
def rTupleOf (K : PySem.W.Frag) : List V → Hp → VK → Prop := fun xs H Q => ∃ p ys, xs = [.ref p] ∧ ((SqL K H p ys ∧ ∀ l, H l = none → Q (.ref l) (upd H l (.tup ys))) ∨ (SqT K H p ys ∧ Q (.ref p) H))
theorem RV.dv {F : Addr → Prop} {H : Hp} {v : V} {xs : List PyData} (h : RV K F H v (.tuple xs)) : DV K F H v (.tuple xs) := by
  rcases h with h | ⟨_, c, _, _, z⟩
  · exact h
  · cases c <;> cases z
theorem g_tuple : G1B K (rTupleOf K) fTuple := fun F H v d r Q dm h1 hg k => by
  unfold fTuple at hg
  split at hg
  · cases hg
    obtain ⟨a, vs, rfl, a1, a2⟩ := h1.lst
    exact ⟨a, vs, rfl, .inl ⟨a2, fun p hp => now_new dm k hp (.tup (.inr rfl) upd_same (a1.keep (keep_one hp)))⟩⟩
  · cases hg
    obtain ⟨a, vs, rfl, a1, a2⟩ := h1.tup
    exact ⟨a, vs, rfl, .inr ⟨a2, now dm k h1.dv⟩⟩
  · cases hg
def rListOf (K : PySem.W.Frag) : List V → Hp → VK → Prop := fun xs H Q => ∃ p ys, xs = [.ref p] ∧ (SqL K H p ys ∨ SqT K H p ys) ∧ ∀ l, H l = none → Q (.ref l) (upd H l (.lst ys))
theorem g_list : G1B K (rListOf K) fList := fun F H v d r Q dm h1 hg k => by
  unfold fList at hg
  split at hg
  · cases hg
    obtain ⟨a, vs, rfl, a1, a2⟩ := h1.lst
    exact ⟨a, vs, rfl, .inl a2, fun p hp => now_own dm k hp ⟨_, upd_same, a1.keep (keep_upd hp)⟩⟩
  · cases hg
    obtain ⟨a, vs, rfl, a1, a2⟩ := h1.tup
    exact ⟨a, vs, rfl, .inr a2, fun p hp => now_own dm k hp ⟨_, upd_same, a1.keep (keep_upd hp)⟩⟩
  · cases hg
theorem g_all : G1B K (rAll K) fAll := fun F H v d r Q dm h1 hg k => by
  unfold fAll at hg
  split at hg
  · obtain ⟨bs, h2, h3⟩ := Option.map_eq_some_iff.mp hg
    subst h3
    obtain ⟨a, vs, rfl, a1, a2⟩ := h1.lst
    rw [boolsD_eq h2] at a1
    rw [a1.mapBool] at a2
    exact ⟨a, bs, rfl, a2, now dm k (.bl _)⟩
  · cases hg
theorem g_any : G1B K (rAny K) fAny := fun F H v d r Q dm h1 hg k => by
  unfold fAny at hg
  split at hg
  · obtain ⟨bs, h2, h3⟩ := Option.map_eq_some_iff.mp hg
    subst h3
    obtain ⟨a, vs, rfl, a1, a2⟩ := h1.lst
    rw [boolsD_eq h2] at a1
    rw [a1.mapBool] at a2
    exact ⟨a, bs, rfl, a2, now dm k (.bl _)⟩
  · cases hg
def rAbs : List V → Hp → VK → Prop := fun xs H Q => ∃ i, xs = [.int i] ∧ Q (.int (if i < 0 then -i else i)) H
theorem g_abs : G1B K rAbs fAbs := fun F H v d r Q dm h1 hg k => by
  unfold fAbs at hg
  split at hg
  · cases hg
    rw [h1.int]
    exact ⟨_, rfl, now dm k (.int _)⟩
  · cases hg
def rInt1 : List V → Hp → VK → Prop := fun xs H Q => (∃ i, xs = [.int i] ∧ Q (.int i) H) ∨ ∃ k, xs = [.bl k] ∧ Q (.int (if k then 1 else 0)) H
theorem g_int : G1B K rInt1 fInt := fun F H v d r Q dm h1 hg k => by
  unfold fInt at hg
  split at hg
  · cases hg
    rw [h1.int]
    exact .inl ⟨_, rfl, now dm k (.int _)⟩
  · cases hg
    rw [h1.bool]
    exact .inr ⟨_, rfl, now dm k (.int _)⟩
  · cases hg
def rSumA (K : PySem.W.Frag) : List V → Hp → VK → Prop := fun xs H Q => rSum K xs H Q ∨ rSumT K xs H Q
theorem CallR.or {X : Cx} {f : Value} {r r' : List V → Hp → VK → Prop} (h : CallR X f r) (h' : CallR X f r') : CallR X f (fun xs H Q => r xs H Q ∨ r' xs H Q) := fun pins s σ H xs us Q I rv q => q.elim (fun q => h pins s σ H xs us Q I rv q) fun q => h' pins s σ H xs us Q I rv q
theorem g_sum : G1B K (rSumA K) fSum := fun F H v d r Q dm h1 hg k => by
  unfold fSum at hg
  split at hg
  · obtain ⟨ns, h2, h3⟩ := Option.map_eq_some_iff.mp hg
    subst h3
    obtain ⟨a, vs, rfl, a1, a2⟩ := h1.lst
    rw [intsD_eq h2] at a1
    rw [a1.mapInt] at a2
    exact .inl ⟨a, ns, rfl, a2, now dm k (.int _)⟩
  · obtain ⟨ns, h2, h3⟩ := Option.map_eq_some_iff.mp hg
    subst h3
    obtain ⟨a, vs, rfl, a1, a2⟩ := h1.tup
    rw [intsD_eq h2] at a1
    rw [a1.mapInt] at a2
    exact .inr ⟨a, ns, rfl, a2, now dm k (.int _)⟩
  · cases hg
def rMax2 (K : PySem.W.Frag) : List V → Hp → VK → Prop := fun xs H Q => (∃ i j, xs = [.int i, .int j] ∧ Q (.int (if j > i then j else i)) H) ∨ rMax K xs H Q
def rMin2 (K : PySem.W.Frag) : List V → Hp → VK → Prop := fun xs H Q => (∃ i j, xs = [.int i, .int j] ∧ Q (.int (if j < i then j else i)) H) ∨ rMin K xs H Q
theorem g_max : GB K (rMax2 K) gMax2 := fun F H xs ds r Q dm h1 hg k => by
  unfold gMax2 at hg
  split at hg
  · cases hg
    obtain ⟨v, w, rfl, h2, h3⟩ := h1.two
    rw [h2.int, h3.int]
    exact .inl ⟨_, _, rfl, now dm k (.int _)⟩
  · obtain ⟨v, rfl, h2⟩ := h1.one
    unfold fMax at hg
    split at hg
    · split at hg
      · rename_i n ns e
        cases hg
        obtain ⟨a, vs, rfl, a1, a2⟩ := h2.lst
        rw [intsD_eq e] at a1
        rw [a1.mapInt] at a2
        refine .inr ⟨a, n :: ns, rfl, a2, by simp, fun m hm hm2 => ?_⟩
        obtain ⟨m1, m2⟩ := maxL_spec ns n
        rw [show m = maxL n ns from Int.le_antisymm (m2 m hm) (hm2 _ m1)]
        exact now dm k (.int _)
      · cases hg
    · cases hg
  · cases hg
theorem g_min : GB K (rMin2 K) gMin2 := fun F H xs ds r Q dm h1 hg k => by
  unfold gMin2 at hg
  split at hg
  · cases hg
    obtain ⟨v, w, rfl, h2, h3⟩ := h1.two
    rw [h2.int, h3.int]
    exact .inl ⟨_, _, rfl, now dm k (.int _)⟩
  · obtain ⟨v, rfl, h2⟩ := h1.one
    unfold fMin at hg
    split at hg
    · split at hg
      · rename_i n ns e
        cases hg
        obtain ⟨a, vs, rfl, a1, a2⟩ := h2.lst
        rw [intsD_eq e] at a1
        rw [a1.mapInt] at a2
        refine .inr ⟨a, n :: ns, rfl, a2, by simp, fun m hm hm2 => ?_⟩
        obtain ⟨m1, m2⟩ := minL_spec ns n
        rw [show m = minL n ns from Int.le_antisymm (hm2 _ m1) (m2 m hm)]
        exact now dm k (.int _)
      · cases hg
    · cases hg
  · cases hg
theorem g_gcd : GB K rGcd gGcd := fun F H xs ds r Q dm h1 hg k => by
  unfold gGcd at hg
  split at hg
  · cases hg
    obtain ⟨v, w, rfl, h2, h3⟩ := h1.two
    rw [h2.int, h3.int]
    exact ⟨_, _, rfl, now dm k (.int _)⟩
  · cases hg
end
section
variable {X : Cx} {a : Expr} {es : List Expr} {fr : CA} {pos p : Pos}
theorem bo_len : bootBuiltins "len" = some (.builtin "len") := by decide +kernel
theorem bo_all : bootBuiltins "all" = some (.builtin "all") := by decide +kernel
theorem bo_any : bootBuiltins "any" = some (.builtin "any") := by decide +kernel
theorem bo_abs : bootBuiltins "abs" = some (.builtin "abs") := by decide +kernel
theorem bo_sum : bootBuiltins "sum" = some (.builtin "sum") := by decide +kernel
theorem bo_max : bootBuiltins "max" = some (.builtin "max") := by decide +kernel
theorem bo_min : bootBuiltins "min" = some (.builtin "min") := by decide +kernel
theorem bo_sorted : bootBuiltins "sorted" = some (.builtin "sorted") := by decide +kernel
theorem bo_isinstance : bootBuiltins "isinstance" = some (.builtin "isinstance") := by decide +kernel
theorem bo_tuple : bootBuiltins "tuple" = some (.type "tuple") := by decide +kernel
theorem bo_list : bootBuiltins "list" = some (.type "list") := by decide +kernel
theorem bo_int : bootBuiltins "int" = some (.type "int") := by decide +kernel
theorem bo_bool : bootBuiltins "bool" = some (.type "bool") := by decide +kernel
theorem bo_str : bootBuiltins "str" = some (.type "str") := by decide +kernel
theorem bo_dict : bootBuiltins "dict" = some (.type "dict") := by decide +kernel
theorem bo_set : bootBuiltins "set" = some (.type "set") := by decide +kernel
theorem dn_len (hg : Gl X "len") (hm : X.mg "len" = none) (ha : DenA X [a] fr) (he : starEach [a] X.env = (false, eval a X.env) :: starEach [] X.env := by rfl) : Den X (.Call (.Name "len" p) [a] [] pos) (cB (g1 fLen) fr) := dn_callB call_len_seq (gb1 g_len) hg hm bo_len ha (by decide) (by decide) he rfl
theorem dn_all (hc : X.calm = true) (hg : Gl X "all") (hm : X.mg "all" = none) (ha : DenA X [a] fr) (he : starEach [a] X.env = (false, eval a X.env) :: starEach [] X.env := by rfl) : Den X (.Call (.Name "all" p) [a] [] pos) (cB (g1 fAll) fr) := dn_callB (cr_all hc) (gb1 g_all) hg hm bo_all ha (by decide) (by decide) he rfl
theorem dn_any (hc : X.calm = true) (hg : Gl X "any") (hm : X.mg "any" = none) (ha : DenA X [a] fr) (he : starEach [a] X.env = (false, eval a X.env) :: starEach [] X.env := by rfl) : Den X (.Call (.Name "any" p) [a] [] pos) (cB (g1 fAny) fr) := dn_callB (cr_any hc) (gb1 g_any) hg hm bo_any ha (by decide) (by decide) he rfl
theorem dn_abs (hg : Gl X "abs") (hm : X.mg "abs" = none) (ha : DenA X [a] fr) (he : starEach [a] X.env = (false, eval a X.env) :: starEach [] X.env := by rfl) : Den X (.Call (.Name "abs" p) [a] [] pos) (cB (g1 fAbs) fr) := dn_callB call_abs (gb1 g_abs) hg hm bo_abs ha (by decide) (by decide) he rfl
theorem dn_sum (hc : X.calm = true) (hg : Gl X "sum") (hm : X.mg "sum" = none) (ha : DenA X [a] fr) (he : starEach [a] X.env = (false, eval a X.env) :: starEach [] X.env := by rfl) : Den X (.Call (.Name "sum" p) [a] [] pos) (cB (g1 fSum) fr) := dn_callB ((cr_sum hc).or (cr_sumT hc)) (gb1 g_sum) hg hm bo_sum ha (by decide) (by decide) he rfl
theorem dn_max (hc : X.calm = true) (hg : Gl X "max") (hm : X.mg "max" = none) (ha : DenA X (a :: es) fr) (he : starEach (a :: es) X.env = (false, eval a X.env) :: starEach es X.env := by rfl) (hpl : (backTo pos (starEach es X.env)).any (·.1) = false := by rfl) : Den X (.Call (.Name "max" p) (a :: es) [] pos) (cB gMax2 fr) := dn_callB ((call_max2 hc).or (cr_max hc)) g_max hg hm bo_max ha (by decide) (by decide) he hpl
theorem dn_min (hc : X.calm = true) (hg : Gl X "min") (hm : X.mg "min" = none) (ha : DenA X (a :: es) fr) (he : starEach (a :: es) X.env = (false, eval a X.env) :: starEach es X.env := by rfl) (hpl : (backTo pos (starEach es X.env)).any (·.1) = false := by rfl) : Den X (.Call (.Name "min" p) (a :: es) [] pos) (cB gMin2 fr) := dn_callB ((call_min2 hc).or (cr_min hc)) g_min hg hm bo_min ha (by decide) (by decide) he hpl
theorem dn_tuple (hg : Gl X "tuple") (hm : X.mg "tuple" = none) (ha : DenA X [a] fr) (he : starEach [a] X.env = (false, eval a X.env) :: starEach [] X.env := by rfl) : Den X (.Call (.Name "tuple" p) [a] [] pos) (cB (g1 fTuple) fr) := dn_callTy call_tuple_of (gb1 g_tuple) hg hm bo_tuple ha (by decide) (by decide) he rfl
theorem dn_list (hg : Gl X "list") (hm : X.mg "list" = none) (ha : DenA X [a] fr) (he : starEach [a] X.env = (false, eval a X.env) :: starEach [] X.env := by rfl) : Den X (.Call (.Name "list" p) [a] [] pos) (cB (g1 fList) fr) := dn_callTy call_list_of (gb1 g_list) hg hm bo_list ha (by decide) (by decide) he rfl
theorem dn_int1 (hg : Gl X "int") (hm : X.mg "int" = none) (ha : DenA X [a] fr) (he : starEach [a] X.env = (false, eval a X.env) :: starEach [] X.env := by rfl) : Den X (.Call (.Name "int" p) [a] [] pos) (cB (g1 fInt) fr) := dn_callTy call_int1 (gb1 g_int) hg hm bo_int ha (by decide) (by decide) he rfl
theorem dn_gcd {b : Expr} (hg : Gl X "gcd") (hm : X.mg "gcd" = some (.builtin "math.gcd")) (ha : DenA X [a, b] fr) (he : starEach [a, b] X.env = (false, eval a X.env) :: starEach [b] X.env := by rfl) (hpl : (backTo pos (starEach [b] X.env)).any (·.1) = false := by rfl) : Den X (.Call (.Name "gcd" p) [a, b] [] pos) (cB gGcd fr) :=
  PE.mono (pe_callBfun cr_gcd hg hm ha (by decide) he hpl) (cB_run g_gcd)
end
end MP

/-! A13: dicts whose keys are tuples of ints. -/
namespace MP
open PySem PySem.Spec L2
open PyProof.Rows hiding St intKind ItemsAre

/-! ### plain -/
abbrev Kv := List (List Int × PyData)
def dFind (kvs : Kv) (k : List Int) : Option PyData := (kvs.find? fun p => decide (p.1 = k)).map (·.2)
def dPut (kvs : Kv) (k : List Int) (d : PyData) : Kv := if (dFind kvs k).isSome then kvs.map (fun p => if p.1 = k then (p.1, d) else p) else kvs ++ [(k, d)]
def dDel (kvs : Kv) (k : List Int) : Kv := kvs.filter fun p => decide (p.1 ≠ k)
def intK : PyData → Option (List Int)
  | .tuple xs => intsD xs
  | _ => none
def kvD : List (PyData × PyData) → Option Kv
  | [] => some []
  | p :: ps => (intK p.1).bind fun k => (kvD ps).map fun r => (k, p.2) :: r
theorem intK_kD (k : List Int) : intK (kD k) = some k := intsD_of k
theorem intK_eq {d : PyData} {k : List Int} (h : intK d = some k) : d = kD k := by
  cases d with
  | tuple xs => exact congrArg PyData.tuple (intsD_eq (show intsD xs = some k from h))
  | _ => cases h
theorem kvD_frz (kvs : Kv) : kvD (kvs.map fun p => (kD p.1, p.2)) = some kvs := by
  induction kvs with
  | nil => rfl
  | cons p ps ih => simp [kvD, intK_kD, ih]
theorem kvD_eq : ∀ {ps : List (PyData × PyData)} {kvs : Kv}, kvD ps = some kvs → ps = kvs.map fun p => (kD p.1, p.2)
  | [], _, h => by cases h; rfl
  | p :: ps, kvs, h => by
    obtain ⟨k, h1, h⟩ := bind_some h
    obtain ⟨r, h2, h3⟩ := Option.map_eq_some_iff.mp h
    subst h3
    rw [kvD_eq h2, List.map_cons, ← intK_eq h1]
theorem kD_inj {a b : List Int} (h : kD a = kD b) : a = b := by
  have := congrArg intK h
  rw [intK_kD, intK_kD] at this
  exact Option.some.inj this

/-! ### the relations -/
inductive DKl (K : PySem.W.Frag) (F : Addr → Prop) (H : Hp) : List XE → Kv → Prop
  | nil : DKl K F H [] []
  | cons {k : List Int} {b : Addr} {v : V} {r : List XE} {d : PyData} {ds : Kv} : DV K F H (.ref b) (kD k) → DV K F H v d → DKl K F H r ds → DKl K F H ((k, b, v) :: r) ((k, d) :: ds)
section
variable {K : PySem.W.Frag} {F F' : Addr → Prop} {H H' : Hp}
theorem DKl.v : ∀ {r : List XE} {kvs : Kv}, DKl K F H r kvs → DKv K F H r (kvs.map fun p => (kD p.1, p.2))
  | _, _, .nil => .nil
  | _, _, .cons a b c => .cons a b c.v
theorem DKv.l : ∀ {r : List XE} {ds : List (PyData × PyData)}, DKv K F H r ds → ∀ {kvs : Kv}, ds = (kvs.map fun p => (kD p.1, p.2)) → DKl K F H r kvs
  | _, _, .nil, kvs, e => by
    cases kvs with
    | nil => exact .nil
    | cons p ps => cases e
  | _, _, .cons a b c, kvs, e => by
    cases kvs with
    | nil => cases e
    | cons p ps =>
      obtain ⟨k, d⟩ := p
      injection e with e1 e2
      injection e1 with e3 e4
      have := kD_inj e3
      subst this
      subst e4
      exact .cons a b (DKv.l c e2)
theorem DKl.keep (k : Keep F H F' H') {r : List XE} {kvs : Kv} (h : DKl K F H r kvs) : DKl K F' H' r kvs := (DKv.keep k h.v).l rfl
theorem DKl.length {r : List XE} {kvs : Kv} (h : DKl K F H r kvs) : r.length = kvs.length := by
  have := h.v.length; simpa using this
/-- a dict among operands -/
theorem RV.dct {v : V} {ks : List (PyData × PyData)} {kvs : Kv} (h : RV K F H v (.dict ks)) (e : kvD ks = some kvs) : ∃ a r, v = .ref a ∧ Rd H a (xdO a r) ∧ DKl K F H r kvs := by
  have e := kvD_eq e
  rcases h with h | ⟨a, c, rfl, h, z⟩
  · cases h with
    | dct f h a => exact ⟨_, _, rfl, .inl h, a.l e⟩
  · cases c with
    | lst xs => cases z
    | dct kv =>
      cases z
      obtain ⟨r, h1, h2⟩ := h
      exact ⟨a, r, rfl, h1, h2.l e⟩
end
/-- r beside the heap's entries -/
inductive D3 (K : PySem.W.Frag) (F : Addr → Prop) (H : Hp) : Kv → List (List Int × Addr × Value) → List XE → Prop
  | nil : D3 K F H [] [] []
  | cons {k : List Int} {b : Addr} {v : V} {u : Value} {d : PyData} {r : List XE} {kvs : Kv} {xs : List (List Int × Addr × Value)} : DV K F H (.ref b) (kD k) → DV K F H v d → RelV v u → D3 K F H kvs xs r → D3 K F H ((k, d) :: kvs) ((k, b, u) :: xs) ((k, b, v) :: r)
section
variable {K : PySem.W.Frag} {F F' : Addr → Prop} {H H' : Hp}
theorem d3_of : ∀ {r : List XE} {kvs : Kv} {xs : List (List Int × Addr × Value)}, DKl K F H r kvs → XP r xs → D3 K F H kvs xs r
  | _, _, _, .nil, .nil => .nil
  | _, _, _, .cons a b c, .cons p q => by
    obtain ⟨h1, h2, h3⟩ := p
    rename_i y ys
    obtain ⟨k, b, u⟩ := y
    cases h1; cases h2
    exact .cons a b h3 (d3_of c q)
theorem D3.l : ∀ {kvs : Kv} {xs : List (List Int × Addr × Value)} {r : List XE}, D3 K F H kvs xs r → DKl K F H r kvs
  | _, _, _, .nil => .nil
  | _, _, _, .cons a b _ c => .cons a b c.l
theorem D3.xp : ∀ {kvs : Kv} {xs : List (List Int × Addr × Value)} {r : List XE}, D3 K F H kvs xs r → XP r xs
  | _, _, _, .nil => .nil
  | _, _, _, .cons _ _ z c => .cons ⟨rfl, rfl, z⟩ c.xp
theorem D3.find : ∀ {kvs : Kv} {xs : List (List Int × Addr × Value)} {r : List XE} (_ : D3 K F H kvs xs r) (k : List Int), (∀ d, dFind kvs k = some d → ∃ b u v, atKey xs k = some (b, u) ∧ RelV v u ∧ DV K F H v d) ∧ (dFind kvs k = none → atKey xs k = none)
  | _, _, _, .nil, k => ⟨fun d h => (nomatch h), fun _ => rfl⟩
  | _, _, _, .cons (k := k0) (b := b) (u := u) (v := v) (d := d0) a z y c, k => by
    by_cases e : k0 = k
    · subst e
      refine ⟨fun d h => ?_, fun h => ?_⟩
      · simp [dFind] at h
        subst h
        exact ⟨b, u, v, by simp [atKey], y, z⟩
      · simp [dFind] at h
    · obtain ⟨h1, h2⟩ := c.find k
      refine ⟨fun d h => ?_, fun h => ?_⟩
      · obtain ⟨b, u, v, q1, q2⟩ := h1 d (by simpa [dFind, e] using h)
        exact ⟨b, u, v, by simpa [atKey, e] using q1, q2⟩
      · have := h2 (by simpa [dFind, e] using h)
        simpa [atKey, e] using this
theorem D3.isSome {kvs : Kv} {xs : List (List Int × Addr × Value)} {r : List XE} (h : D3 K F H kvs xs r) (k : List Int) : (atKey xs k).isSome = (dFind kvs k).isSome := by
  obtain ⟨h1, h2⟩ := h.find k
  cases q : dFind kvs k with
  | none => rw [h2 q]; rfl
  | some d =>
    obtain ⟨b, u, v, e, _⟩ := h1 d q
    rw [e]; rfl
theorem D3.snoc {k : List Int} {b : Addr} {v : V} {u : Value} {d : PyData} (hk : DV K F H (.ref b) (kD k)) (hv : DV K F H v d) (rv : RelV v u) : ∀ {kvs : Kv} {xs : List (List Int × Addr × Value)} {r : List XE}, D3 K F H kvs xs r → D3 K F H (kvs ++ [(k, d)]) (xs ++ [(k, b, u)]) (r ++ [(k, b, v)])
  | _, _, _, .nil => .cons hk hv rv .nil
  | _, _, _, .cons a z y c => .cons a z y (c.snoc hk hv rv)
theorem D3.repl {k : List Int} {v : V} {u : Value} {d : PyData} (hv : DV K F H v d) (rv : RelV v u) : ∀ {kvs : Kv} {xs : List (List Int × Addr × Value)} {r : List XE}, D3 K F H kvs xs r → ∃ r', r'.length = r.length ∧ D3 K F H (kvs.map fun p => if p.1 = k then (p.1, d) else p) (xs.map (putAt k u)) r'
  | _, _, _, .nil => ⟨[], rfl, .nil⟩
  | _, _, _, .cons (k := k0) (b := b0) (v := v0) a z y c => by
    obtain ⟨r', hl, h⟩ := c.repl hv rv
    by_cases e : k0 = k
    · refine ⟨(k0, b0, v) :: r', by simp [hl], ?_⟩
      simp only [List.map_cons, putAt, if_pos e]
      exact .cons a hv rv h
    · refine ⟨(k0, b0, v0) :: r', by simp [hl], ?_⟩
      simp only [List.map_cons, putAt, if_neg e]
      exact .cons a z y h
theorem D3.put {k : List Int} {b : Addr} {v : V} {u : Value} {d : PyData} (hk : DV K F H (.ref b) (kD k)) (hv : DV K F H v d) (rv : RelV v u) {kvs : Kv} {xs : List (List Int × Addr × Value)} {r : List XE} (h : D3 K F H kvs xs r) : ∃ r', r'.length ≤ r.length + 1 ∧ D3 K F H (dPut kvs k d) (storedH xs k b u) r' := by
  unfold dPut storedH
  rw [h.isSome k]
  split
  · obtain ⟨r', hl, h'⟩ := h.repl (k := k) hv rv
    exact ⟨r', by omega, h'⟩
  · exact ⟨_, by simp, h.snoc hk hv rv⟩
theorem D3.del {k : List Int} : ∀ {kvs : Kv} {xs : List (List Int × Addr × Value)} {r : List XE}, D3 K F H kvs xs r → ∃ r', r'.length ≤ r.length ∧ D3 K F H (dDel kvs k) (withoutH xs k) r'
  | _, _, _, .nil => ⟨[], Nat.le_refl _, .nil⟩
  | _, _, _, .cons (k := k0) (b := b0) (v := v0) a z y c => by
    obtain ⟨r', hl, h⟩ := c.del (k := k)
    by_cases e : k0 = k
    · refine ⟨r', by simp; omega, ?_⟩
      simpa [dDel, withoutH, e] using h
    · refine ⟨(k0, b0, v0) :: r', by simp [hl], ?_⟩
      have : D3 K F H ((k0, _) :: dDel _ k) ((k0, b0, _) :: withoutH _ k) _ := .cons a z y h
      simpa [dDel, withoutH, e] using this
theorem D3.keep (kp : Keep F H F' H') : ∀ {kvs : Kv} {xs : List (List Int × Addr × Value)} {r : List XE}, D3 K F H kvs xs r → D3 K F' H' kvs xs r
  | _, _, _, .nil => .nil
  | _, _, _, .cons a z y c => .cons (a.keep kp) (z.keep kp) y (c.keep kp)
end

/-! ### on the heap -/
theorem xd_ok {P : Program} {w : World} {H : Hp} {h : Heap} {a : Addr} {r : List XE} {xs : List (List Int × Addr × Value)} (hz : r.length ≤ sizeLine) (hs : (a == sysModules) = false) (xp : XP r xs) (hm : h.DictOfH (ikd P w) a xs) : ObjOk P w H h a (xdO a r) := by
  obtain ⟨o, es, ep, h1, h2, h3, h4, _, h6⟩ := hm
  refine ⟨⟨hz, hs, xs, xp, o, es, ep, h1, h2, h3, fun _ _ => h4, h6⟩, ⟨o, h1⟩, fun g1 g2 q st => ?_⟩
  obtain ⟨z1, z2, xs', y1, o', es', ep', y2, y3⟩ := q
  exact ⟨z1, z2, xs', y1, o', es', ep', st o' y2, y3⟩
theorem items_int {P : Program} {w : World} : ∀ {ks : List Int} {us : List Value}, Vals (ks.map V.int) us → PySem.ItemsAre (PySem.intKind P w) ks us
  | [], _, h => by cases h; exact .nil
  | k :: ks, _, h => by
    cases h with
    | cons a b =>
      obtain ⟨t, rfl⟩ := a
      exact .cons (by simp [PySem.intKind, Value.isInt]) (items_int b)
section
variable {X : Cx} {pins : List (Addr × Obj)} {σ : St} {H : Hp} {s : Shared} {F : Addr → Prop}
theorem key_at (I : Inv X pins σ H s) {b : Addr} {k : List Int} (d : DV X.K F H (.ref b) (kD k)) : (ikd X.prog X.w).is s.heap k b := by
  have e : ∀ {v : V} {x : PyData}, DV X.K F H v x → v = .ref b → x = kD k → ∃ vs, SqT X.K H b vs ∧ DAll X.K F H vs (k.map .int) := fun {v x} d e1 e2 => by
    cases d with
    | tup f h a => cases e1; cases e2; exact ⟨_, SqT.of h, a⟩
    | tupK l c s z r a => cases e1; cases e2; exact ⟨_, .inr ⟨_, _, _, l, c, s, z, r⟩, a⟩
    | _ => cases e2
  obtain ⟨vs, h1, h2⟩ := e d rfl rfl
  rw [h2.mapInt] at h1
  obtain ⟨its, rv, ⟨o, g1, g2, n, g3⟩, _⟩ := I.tuple h1
  exact ⟨o, _, n, g1, g2, g3, by simpa using items_int rv⟩
theorem D3.keys (I : Inv X pins σ H s) : ∀ {kvs : Kv} {xs : List (List Int × Addr × Value)} {r : List XE}, D3 X.K F H kvs xs r → ∀ x ∈ xs, (ikd X.prog X.w).is s.heap x.1 x.2.1
  | _, _, _, .nil, x, hx => (nomatch hx)
  | _, _, _, .cons a z y c, x, hx => by
    rcases List.mem_cons.mp hx with rfl | hx
    · exact key_at I a
    · exact c.keys I x hx
/-- a dict that is read -/
theorem xd_at (I : Inv X pins σ H s) {a : Addr} {r : List XE} {kvs : Kv} (h : Rd H a (xdO a r)) (d : DKl X.K F H r kvs) : r.length ≤ sizeLine ∧ (a == sysModules) = false ∧ ∃ xs, D3 X.K F H kvs xs r ∧ s.heap.DictOfH (ikd X.prog X.w) a xs := by
  obtain ⟨⟨z, hs, xs, xp, o, es, ep, h1, h2, h3, h4, h5⟩, _⟩ := (show ObjOk X.prog X.w H s.heap a (xdO a r) from h.ok I.hok)
  have d3 := d3_of d xp
  exact ⟨z, hs, xs, d3, o, es, ep, h1, h2, h3, h4 _ _, d3.keys I, h5⟩
theorem d3_len {K : PySem.W.Frag} : ∀ {kvs : Kv} {xs : List (List Int × Addr × Value)} {r : List XE}, D3 K F H kvs xs r → xs.length = kvs.length ∧ r.length = kvs.length
  | _, _, _, .nil => ⟨rfl, rfl⟩
  | _, _, _, .cons _ _ _ c => by
    obtain ⟨h1, h2⟩ := d3_len c
    exact ⟨by simp [h1], by simp [h2]⟩

/-! ### rules -/
def rXIn (K : PySem.W.Frag) (n : Bool) : R2 := fun x y H Q => ∃ (F : Addr → Prop) (a b : Addr) (r : List XE) (kvs : Kv) (k : List Int), x = .ref b ∧ y = .ref a ∧ DV K F H (.ref b) (kD k) ∧ Rd H a (xdO a r) ∧ DKl K F H r kvs ∧ Q (.bl ((dFind kvs k).isSome != n)) H
theorem op_xIn (hu : X.A.units + 64 < cLine) : OpR X (compareOp .In) (rXIn X.K false) := by
  intro pins s σ H x y v u Q I rx ry h
  obtain ⟨F, a, b, r, kvs, k, rfl, rfl, hk, hr, hd, q⟩ := h
  obtain rfl : v = Value.ref b := rx
  obtain rfl : u = Value.ref a := ry
  obtain ⟨z, hs, xs, d3, dd⟩ := xd_at I hr hd
  refine wpAny_in_heap (tupleKind_room_in1 (by omega)) (key_at I hk) hs dd ?_
  rw [d3.isSome]
  rw [Bool.bne_false] at q
  exact ⟨.bl _, H, I.tok _, rfl, q⟩
theorem op_xNotIn (hu : X.A.units + 64 < cLine) : OpR X (compareOp .NotIn) (rXIn X.K true) := by
  intro pins s σ H x y v u Q I rx ry h
  obtain ⟨F, a, b, r, kvs, k, rfl, rfl, hk, hr, hd, q⟩ := h
  obtain rfl : v = Value.ref b := rx
  obtain rfl : u = Value.ref a := ry
  obtain ⟨z, hs, xs, d3, dd⟩ := xd_at I hr hd
  refine wpAny_notIn_heap (tupleKind_room_in1 (by omega)) (key_at I hk) hs dd ?_
  rw [d3.isSome]
  rw [Bool.bne_true] at q
  exact ⟨.bl _, H, I.tok _, rfl, q⟩
theorem RV.key {K : PySem.W.Frag} {F : Addr → Prop} {H : Hp} {v : V} {d : PyData} {k : List Int} (h : RV K F H v d) (e : intK d = some k) : ∃ b, v = .ref b ∧ DV K F H (.ref b) (kD k) := by
  rw [intK_eq e] at h
  have h' := RV.dv (xs := k.map .int) h
  obtain ⟨a, vs, rfl, _⟩ := RV.tup (xs := k.map .int) h
  exact ⟨a, rfl, h'⟩
def gIn : PyData → PyData → Option Rv := fun d d' => match d' with
  | .dict ks => (intK d).bind fun k => (kvD ks).bind fun kvs => some (.v (.bool (dFind kvs k).isSome))
  | _ => gInS d d'
def gNotIn : PyData → PyData → Option Rv := fun d d' => match d' with
  | .dict ks => (intK d).bind fun k => (kvD ks).bind fun kvs => some (.v (.bool (!(dFind kvs k).isSome)))
  | _ => gNotInS d d'
theorem g_in {K : PySem.W.Frag} : G2 K (fun x y H Q => rInS K false x y H Q ∨ rXIn K false x y H Q) gIn := fun F H x y d d' r Q dm h1 h2 hg k => by
  unfold gIn at hg
  split at hg
  · obtain ⟨ky, e1, hg⟩ := bind_some hg
    obtain ⟨kvs, e2, hg⟩ := bind_some hg
    cases hg
    obtain ⟨b, rfl, hb⟩ := h1.key e1
    obtain ⟨a, r, rfl, hr, hd⟩ := h2.dct e2
    exact .inr ⟨F, a, b, r, kvs, ky, rfl, rfl, hb, hr, hd, by rw [Bool.bne_false]; exact now dm k (.bl _)⟩
  · exact .inl (g_inS F H x y d d' r Q dm h1 h2 hg k)
theorem g_notIn {K : PySem.W.Frag} : G2 K (fun x y H Q => rInS K true x y H Q ∨ rXIn K true x y H Q) gNotIn := fun F H x y d d' r Q dm h1 h2 hg k => by
  unfold gNotIn at hg
  split at hg
  · obtain ⟨ky, e1, hg⟩ := bind_some hg
    obtain ⟨kvs, e2, hg⟩ := bind_some hg
    cases hg
    obtain ⟨b, rfl, hb⟩ := h1.key e1
    obtain ⟨a, r, rfl, hr, hd⟩ := h2.dct e2
    exact .inr ⟨F, a, b, r, kvs, ky, rfl, rfl, hb, hr, hd, by rw [Bool.bne_true]; exact now dm k (.bl _)⟩
  · exact .inl (g_notInS F H x y d d' r Q dm h1 h2 hg k)
def rXGet (K : PySem.W.Frag) : R2 := fun x y H Q => ∃ (F : Addr → Prop) (a b : Addr) (r : List XE) (kvs : Kv) (k : List Int) (d : PyData), x = .ref a ∧ y = .ref b ∧ DV K F H (.ref b) (kD k) ∧ Rd H a (xdO a r) ∧ DKl K F H r kvs ∧ dFind kvs k = some d ∧ ∀ v, DV K F H v d → Q v H
theorem ix_xd (hu : X.A.units + 64 < cLine) : IxR X (rXGet X.K) := by
  intro value slice pins s σ H x y v u Q I rx ry h hs
  obtain ⟨F, a, b, r, kvs, k, d, rfl, rfl, hk, hr, hd, hf, q⟩ := h
  obtain rfl : v = Value.ref a := rx
  obtain rfl : u = Value.ref b := ry
  obtain ⟨z, hsm, xs, d3, dd⟩ := xd_at I hr hd
  obtain ⟨b', u', v', e1, e2, e3⟩ := (d3.find k).1 d hf
  exact tail_any dd.typeIs slot_dict_getitem.lookup (wpAny_getItem_heap (tupleKind_room_in1 (by omega)) (key_at I hk) dd e1 ⟨v', H, I.tok _, e2, q v' e3⟩) hs
def gIx : PyData → PyData → Option Rv := fun d d' => match d with
  | .dict ks => (intK d').bind fun k => (kvD ks).bind fun kvs => (dFind kvs k).map .v
  | _ => gIxS d d'
theorem g_ix {K : PySem.W.Frag} : G2 K (fun x y H Q => rIx K x y H Q ∨ rXGet K x y H Q) gIx := fun F H x y d d' r Q dm h1 h2 hg k => by
  unfold gIx at hg
  split at hg
  · obtain ⟨ky, e1, hg⟩ := bind_some hg
    obtain ⟨kvs, e2, hg⟩ := bind_some hg
    obtain ⟨d0, e3, e4⟩ := Option.map_eq_some_iff.mp hg
    subst e4
    obtain ⟨b, rfl, hb⟩ := h2.key e1
    obtain ⟨a, r, rfl, hr, hd⟩ := h1.dct e2
    exact .inr ⟨F, a, b, r, kvs, ky, d0, rfl, rfl, hb, hr, hd, e3, fun v hv => now dm k hv⟩
  · exact .inl (g_ixS F H x y d d' r Q dm h1 h2 hg k)
/-- d[k] = v -/
def rXPut (K : PySem.W.Frag) : V → V → V → Hp → (Hp → Prop) → Prop := fun o i v H Q => ∃ (F : Addr → Prop) (a b : Addr) (r : List XE) (kvs : Kv) (k : List Int) (d : PyData), o = .ref a ∧ i = .ref b ∧ DV K F H (.ref b) (kD k) ∧ H a = some (xdO a r) ∧ ¬ F a ∧ DKl K F H r kvs ∧ kvs.length < sizeLine ∧ DV K F H v d ∧ ∀ r', DKl K F H r' (dPut kvs k d) → Q (upd H a (xdO a r'))
theorem inv_xd (I : Inv X pins σ H s) {a : Addr} {r r' : List XE} {xs : List (List Int × Addr × Value)} {h' : Heap} {t : Nat} (ha : H a = some (xdO a r)) (hsm : (a == sysModules) = false) (hz : r'.length ≤ sizeLine) (xp : XP r' xs) (dd : h'.DictOfH (ikd X.prog X.w) a xs) (sb : Heap.SameBut a s.heap h') : Inv X pins σ (upd H a (xdO a r')) { s with heap := h', toks := t } := by
  refine I.write (x := a) (e := a) (by rw [ha]; exact True.intro) (.inl rfl) (fun b o hb e => (sb.2 b hb).trans e) ?_ (xd_ok hz hsm xp dd)
  obtain ⟨o, _, _, ho, _⟩ := dd
  exact ⟨o, ho⟩
theorem set_xd (hu : X.A.units + 64 < cLine) : PSet X (rXPut X.K) := by
  intro pins s σ H o i v ov iv u Q I ro ri rv h
  obtain ⟨F, a, b, r, kvs, k, d, rfl, rfl, hk, ha, nF, hd, hl, hv, q⟩ := h
  obtain rfl : ov = Value.ref a := ro
  obtain rfl : iv = Value.ref b := ri
  obtain ⟨z, hsm, xs, d3, dd⟩ := xd_at I (.inl ha) hd
  obtain ⟨e1, e2⟩ := d3_len d3
  obtain ⟨r', hl', d3'⟩ := d3.put hk hv rv
  have hz' : xs.length ≤ sizeLine := by omega
  exact wpAny_setItem_heap (hsz := hz') (tupleKind_room_in1 (by omega)) (key_at I hk) dd fun h' dd' hs => ⟨_, inv_xd I ha hsm (by omega) d3'.xp dd' hs, q r' d3'.l⟩
/-- {} -/
def tXNew : TE := fun _ H Q => ∀ p, H p = none → Q (.ref p) (upd H p (xdO p []))
theorem pe_xnew {pos : Pos} : PE X (.Dict [] [] pos) tXNew := ⟨fun pins s σ H Q I h =>
  wpAny_Dict_empty ⟨.ref s.heap.objs.size, _, I.laid (a := s.heap.objs.size) (o := xdO s.heap.objs.size []) (t' := s.toks) (fun _ _ q => Heap.get?_push_of_some _ q) (Nat.le_refl _)
    (xd_ok (xs := []) (Nat.zero_le _) (beq_eq_false_iff_ne.mpr (Ne.symm (Nat.ne_of_lt I.big))) .nil (Heap.DictOfH.new s.heap)), rfl, h _ (I.hok.fresh (Nat.le_refl _))⟩⟩
end
end MP

/-! A14: what changes: several names at once, methods, stores, del, {}. -/
namespace MP
open PySem PySem.Spec L2
open PyProof.Rows hiding St intKind ItemsAre

/-! ### several names at once -/
def SlotOk (K : PySem.W.Frag) (f : Fx) (F : Addr → Prop) (σ : St) (H : Hp) (e : En) (v : V) : Sl → Prop
  | .d x => DV K F H v x
  | .own c => ∃ p, v = .ref p ∧ OwnAt K F H p c ∧ ¬ F p ∧ f.H0 p = none ∧ ¬ Ow σ e p ∧ ¬ Lo σ e p ∧ f.Z p = none
  | _ => False
section
variable {K : PySem.W.Frag} {f : Fx}
theorem SlotOk.step {F F' : Addr → Prop} {σ : St} {H H' : Hp} {e e' : En} {H0 : Hp} {B : Addr → Prop} (R : Rel K H0 B F σ H e) (S : Step F H σ e F' H' e') {v : V} : ∀ {s : Sl}, SlotOk K f F σ H e v s → SlotOk K f F' σ H' e' v s
  | .d x, h => DV.keep (S.keep R) h
  | .own c, ⟨p, h1, h2, h3, h4, h5, h6, h7⟩ => ⟨p, h1, h2.keep (S.keep R) fun o ho => S.at_ p o ho h5, S.notF h3 h2.there h5, h4, fun z => h5 (S.ow p z), fun z => h6 (S.sls.lo z), h7⟩
  | .no, h => h.elim
  | .e x, h => h.elim
  | .lk c, h => h.elim
theorem stow_ok {Fs F : Addr → Prop} {σ : St} {Hs H : Hp} {es e e2 : En} {x : Op} {s : Sl} {v : V} (R0 : SRel K f Fs σ Hs es) (R : SRel K f F σ H e) (O : OpRel K F H σ e Hs v x)
    (h : stow e x = some (s, e2)) : ∃ F', SRel K f F' σ H e2 ∧ Step F H σ e F' H e2 ∧ SlotOk K f F' σ H e2 v s := by
  have h0 : ∀ p, Hs p = none → f.H0 p = none := fun p hp => by
    cases q : f.H0 p with
    | none => rfl
    | some o => exact absurd hp (R0.dom p (by rw [q]; exact fun z => nomatch z))
  have hz0 : ∀ p, Hs p = none → f.Z p = none := fun p hp => by
    cases q : f.Z p with
    | none => rfl
    | some o => rw [(R0.pin p o q).1] at hp; cases hp
  cases x with
  | v d =>
    cases h
    exact ⟨F, R, .refl, O⟩
  | o c =>
    cases h
    obtain ⟨p, h1, h2, h3, h4, h5, h6⟩ := O
    exact ⟨F, R, .refl, p, h1, h2, h3, h0 p h4, h5, h6, hz0 p h4⟩
  | r n =>
    obtain ⟨h1, _⟩ := O
    simp only [stow] at h
    cases hi : e[n]? with
    | none => rw [hi] at h; cases h
    | some sl =>
      rw [hi] at h
      cases sl with
      | no => cases h
      | lk c => cases h
      | d x =>
        cases h
        obtain ⟨w, h3, h4⟩ := R.rel.dat n _ (.inl hi)
        rw [h1] at h3; cases h3
        exact ⟨F, R, .refl, h4⟩
      | e x =>
        cases h
        obtain ⟨w, h3, h4⟩ := R.rel.dat n _ (.inr hi)
        rw [h1] at h3; cases h3
        exact ⟨F, R, .refl, h4⟩
      | own c =>
        cases h
        obtain ⟨F2, R2, dv, S2⟩ := frz_rel R hi h1
        exact ⟨F2, R2, S2, dv⟩
def stows (e : En) : List Op → Option (List Sl × En)
  | [] => some ([], e)
  | x :: xs => (stow e x).bind fun (s, e1) => (stows e1 xs).bind fun (ss, e2) => some (s :: ss, e2)
def puts (np : Nat) : List Nat → List Sl → En → Option En
  | [], [], e => some e
  | i :: is, s :: ss, e => if free np e i then puts np is ss (e.set i s) else none
  | _, _, _ => none
def sPar (np : Nat) (is : List Nat) (f : CA) : CS := fun e => (f e).bind fun (xs, e1) => (stows e1 xs).bind fun (ss, e2) => (puts np is ss e2).bind fun e3 => some (.nx, e3)
def SlotOks (K : PySem.W.Frag) (f : Fx) (F : Addr → Prop) (σ : St) (H : Hp) (e : En) : List V → List Sl → Prop
  | [], [] => True
  | v :: vs, s :: ss => SlotOk K f F σ H e v s ∧ SlotOks K f F σ H e vs ss
  | _, _ => False
def newsS : List V → List Sl → List Addr
  | .ref p :: vs, .own _ :: ss => p :: newsS vs ss
  | _ :: vs, _ :: ss => newsS vs ss
  | _, _ => []
theorem SlotOks.step {F F' : Addr → Prop} {σ : St} {H H' : Hp} {e e' : En} {H0 : Hp} {B : Addr → Prop} (R : Rel K H0 B F σ H e) (S : Step F H σ e F' H' e') : ∀ {vs : List V} {ss : List Sl}, SlotOks K f F σ H e vs ss → SlotOks K f F' σ H' e' vs ss
  | [], [], _ => trivial
  | v :: vs, s :: ss, ⟨h1, h2⟩ => ⟨h1.step R S, h2.step R S⟩
  | [], _ :: _, h => h.elim
  | _ :: _, [], h => h.elim
theorem stow_own {e e2 : En} {x : Op} {c : Ct} (h : stow e x = some (.own c, e2)) : x = .o c := by
  cases x with
  | v d => cases h
  | o c' => cases h; rfl
  | r n =>
    simp only [stow] at h
    cases hi : e[n]? with
    | none => rw [hi] at h; cases h
    | some sl =>
      rw [hi] at h
      cases sl <;> cases h
theorem stows_ok {Fs : Addr → Prop} {σ : St} {Hs H : Hp} {es : En} (R0 : SRel K f Fs σ Hs es) : ∀ {xs : List Op} {F : Addr → Prop} {e : En} {vs : List V} {ss : List Sl} {e2 : En}, SRel K f F σ H e → OpRels K F H σ e Hs vs xs → stows e xs = some (ss, e2) →
    ∃ F', SRel K f F' σ H e2 ∧ Step F H σ e F' H e2 ∧ SlotOks K f F' σ H e2 vs ss ∧ ∀ a ∈ newsS vs ss, a ∈ news vs xs
  | [], F, e, vs, ss, e2, R, O, h => by
    cases h
    cases vs with
    | nil => exact ⟨F, R, .refl, trivial, fun _ h => by simp [newsS] at h⟩
    | cons v vs => exact O.elim
  | x :: xs, F, e, vs, ss, e2, R, O, h => by
    cases vs with
    | nil => exact O.elim
    | cons v vs =>
      obtain ⟨o1, o2⟩ := O
      obtain ⟨⟨s, e1⟩, h1, h⟩ := bind_some h
      obtain ⟨⟨ss', e3⟩, h2, h⟩ := bind_some h
      cases h
      obtain ⟨F1, R1, S1, k1⟩ := stow_ok R0 R o1 h1
      obtain ⟨F2, R2, S2, k2, n2⟩ := stows_ok R0 R1 (o2.step R.rel S1) h2
      refine ⟨F2, R2, S1.trans S2, ⟨k1.step R1.rel S2, k2⟩, fun a ha => ?_⟩
      cases s with
      | own c =>
        have := stow_own h1
        subst this
        obtain ⟨p, rfl, _⟩ := k1
        simp only [newsS, List.mem_cons] at ha
        simp only [news, List.mem_cons]
        exact ha.imp id (n2 a)
      | d y =>
        have q := n2 a (by cases v <;> simpa [newsS] using ha)
        cases v <;> cases x <;> simp [news] <;> first | exact q | exact .inr q
      | no => exact k1.elim
      | e y => exact k1.elim
      | lk c => exact k1.elim
theorem stows_nodup {Hs : Hp} {σ : St} : ∀ {xs : List Op} {e e2 : En} {vs : List V} {ss : List Sl}, stows e xs = some (ss, e2) → (news vs xs).Nodup → (newsS vs ss).Nodup ∧ ∀ a ∈ newsS vs ss, a ∈ news vs xs
  | [], e, e2, vs, ss, h, _ => by
    cases h
    cases vs <;> simp [newsS]
  | x :: xs, e, e2, vs, ss, h, hn => by
    obtain ⟨⟨s, e1⟩, h1, h⟩ := bind_some h
    obtain ⟨⟨ss', e3⟩, h2, h⟩ := bind_some h
    cases h
    cases vs with
    | nil => simp [newsS]
    | cons v vs =>
      have mono : (news vs xs).Nodup := by
        cases v <;> cases x <;> simp only [news, List.nodup_cons] at hn <;> first | exact hn | exact hn.2
      obtain ⟨m1, m2⟩ := stows_nodup (Hs := Hs) (σ := σ) (vs := vs) h2 mono
      have up : ∀ a ∈ news vs xs, a ∈ news (v :: vs) (x :: xs) := fun a ha => by
        cases v <;> cases x <;> simp [news] <;> first | exact ha | exact .inr ha
      cases s with
      | own c =>
        have := stow_own h1
        subst this
        cases v with
        | ref p =>
          simp only [news, List.nodup_cons] at hn
          refine ⟨?_, fun a ha => ?_⟩
          · simp only [newsS, List.nodup_cons]
            exact ⟨fun z => hn.1 (m2 p z), m1⟩
          · simp only [newsS, List.mem_cons] at ha
            simp only [news, List.mem_cons]
            exact ha.imp id (m2 a)
        | _ => exact ⟨by simpa [newsS] using m1, fun a ha => up a (m2 a (by simpa [newsS] using ha))⟩
      | _ => exact ⟨by cases v <;> simpa [newsS] using m1, fun a ha => up a (m2 a (by cases v <;> simpa [newsS] using ha))⟩
def setsV (σ : St) : List Nat → List V → St
  | i :: is, v :: vs => setsV (σ.set i (some v)) is vs
  | _, _ => σ
theorem puts_ok {F : Addr → Prop} {H : Hp} : ∀ {is : List Nat} {vs : List V} {ss : List Sl} {σ : St} {e e' : En}, SRel K f F σ H e → SlotOks K f F σ H e vs ss → (newsS vs ss).Nodup → puts f.np is ss e = some e' → SRel K f F (setsV σ is vs) H e' ∧ vs.length = is.length
  | [], vs, ss, σ, e, e', R, O, hn, h => by
    cases ss with
    | cons s ss => cases h
    | nil =>
      cases h
      cases vs with
      | nil => exact ⟨R, rfl⟩
      | cons v vs => exact O.elim
  | i :: is, vs, ss, σ, e, e', R, O, hn, h => by
    cases ss with
    | nil => cases h
    | cons s ss =>
      cases vs with
      | nil => exact O.elim
      | cons v vs =>
        obtain ⟨o1, o2⟩ := O
        unfold puts at h
        split at h
        rotate_left
        · cases h
        rename_i hf
        have R1 : SRel K f F (σ.set i (some v)) H (e.set i s) := put_rel R hf (fun x hx => by subst hx; exact o1) (fun z => by subst z; exact o1.elim) (fun x z => by subst z; exact o1.elim) (fun c z => by subst z; exact o1.elim) fun c z => by subst z; exact o1
        have il : i < e.length := by
          unfold free at hf
          split at hf
          · cases q : e[i]? with
            | none => rw [q] at hf; cases hf
            | some t => exact (List.getElem?_eq_some_iff.mp q).1
          · simpa using hf
        have ilσ : i < σ.length := by rw [R.rel.len]; exact il
        have hn2 : (newsS vs ss).Nodup := by
          cases v <;> cases s <;> simp only [newsS, List.nodup_cons] at hn <;> first | exact hn | exact hn.2
        have rest : ∀ {vs : List V} {ss : List Sl}, SlotOks K f F σ H e vs ss → (∀ p c, s = .own c → v = .ref p → p ∉ newsS vs ss) → SlotOks K f F (σ.set i (some v)) H (e.set i s) vs ss := fun {vs} => by
          induction vs with
          | nil => intro ss h _; cases ss with
            | nil => trivial
            | cons _ _ => exact h.elim
          | cons w vs ih =>
            intro ss h hd
            cases ss with
            | nil => exact h.elim
            | cons t ss =>
              obtain ⟨g1, g2⟩ := h
              refine ⟨?_, ih g2 fun p c z1 z2 z3 => hd p c z1 z2 (by cases w <;> cases t <;> simp [newsS] <;> first | exact z3 | exact .inr z3)⟩
              cases t with
              | d x => exact g1
              | own c =>
                obtain ⟨p, rfl, y2, y3, y4, y5, y6, y7⟩ := g1
                refine ⟨p, rfl, y2, y3, y4, fun ⟨j, c', hj, hs⟩ => ?_, fun ⟨j, c', hj, hs⟩ => ?_, y7⟩
                · by_cases hji : j = i
                  · subst hji
                    rw [List.getElem?_set_self il] at hj
                    rw [List.getElem?_set_self ilσ] at hs
                    have e1 := Option.some.inj hj
                    have e2 := Option.some.inj (Option.some.inj hs)
                    exact hd p c' e1 e2 (by simp [newsS])
                  · rw [List.getElem?_set_ne (Ne.symm hji)] at hj hs
                    exact y5 ⟨j, c', hj, hs⟩
                · by_cases hji : j = i
                  · subst hji
                    rw [List.getElem?_set_self il] at hj
                    have e1 := Option.some.inj hj
                    subst e1
                    exact o1.elim
                  · rw [List.getElem?_set_ne (Ne.symm hji)] at hj hs
                    exact y6 ⟨j, c', hj, hs⟩
              | no => exact g1.elim
              | e x => exact g1.elim
              | lk c => exact g1.elim
        obtain ⟨R2, hl⟩ := puts_ok R1 (rest o2 fun p c z1 z2 => by subst z1; subst z2; simp only [newsS, List.nodup_cons] at hn; exact hn.1) hn2 h
        exact ⟨R2, by simp [hl]⟩
end
section
variable {X : Cx} {np : Nat} {st : Stmt} {es : List Expr} {fa : CA}
theorem par_run {is : List Nat} {D : Ends} {σ : St} {H : Hp} (q : tSt X.K np (sPar np is fa) D σ H) : tAs X.K fa σ H fun vs H1 => vs.length = is.length ∧ D.nx (setsV σ is vs) H1 := by
  obtain ⟨f, F, e, fl, e', hnp, R, h, k⟩ := q
  subst hnp
  obtain ⟨⟨xs, e1⟩, h1, h⟩ := bind_some h
  obtain ⟨⟨ss, e2⟩, h2, h⟩ := bind_some h
  obtain ⟨e3, h3, h⟩ := bind_some h
  cases h
  refine ⟨f.H0, _, F, e, xs, e1, R.rel, h1, fun F1 H1 vs R1 S1 O1 N1 => ?_⟩
  obtain ⟨F2, R2, S2, k2, _⟩ := stows_ok R (R.step R1 S1) O1 h2
  obtain ⟨m1, _⟩ := stows_nodup (Hs := H1) (σ := σ) (vs := vs) h2 N1
  obtain ⟨R3, hl⟩ := puts_ok R2 k2 m1 h3
  exact ⟨hl, k F2 _ H1 R3⟩
theorem ds_par2 {i j : Nat} (hp : ∀ ta, PA X es ta → PS X st (tPar i j ta)) (ha : DenA X es fa) : DenS X np st (sPar np [i, j] fa) := PS.mono (hp _ ha) fun D σ H q => by
  obtain ⟨H0, B, F, e, xs, e', R, h, k⟩ := par_run q
  refine ⟨H0, B, F, e, xs, e', R, h, fun F1 H1 vs R1 S1 O1 N1 => ?_⟩
  obtain ⟨hl, z⟩ := k F1 H1 vs R1 S1 O1 N1
  match vs, hl, z with
  | [v, w], _, z => exact ⟨v, w, rfl, z⟩
theorem ds_par3 {i j l : Nat} (hp : ∀ ta, PA X es ta → PS X st (tPar3 i j l ta)) (ha : DenA X es fa) : DenS X np st (sPar np [i, j, l] fa) := PS.mono (hp _ ha) fun D σ H q => by
  obtain ⟨H0, B, F, e, xs, e', R, h, k⟩ := par_run q
  refine ⟨H0, B, F, e, xs, e', R, h, fun F1 H1 vs R1 S1 O1 N1 => ?_⟩
  obtain ⟨hl, z⟩ := k F1 H1 vs R1 S1 O1 N1
  match vs, hl, z with
  | [u, v, w], _, z => exact ⟨u, v, w, rfl, z⟩
end
end MP

/-! A15: what changes: methods, stores, del, {}. -/
namespace MP
open PySem PySem.Spec L2
open PyProof.Rows hiding St intKind ItemsAre

section
variable {K : PySem.W.Frag} {H0 : Hp} {B F : Addr → Prop} {σ : St} {H : Hp} {e : En}
/-- a slot's own thing has changed -/
theorem mut_rel (R : Rel K H0 B F σ H e) {i : Nat} {c c' : Ct} {a : Addr} {o : HO} (hi : e[i]? = some (Sl.own c)) (hs : σ[i]? = some (some (V.ref a))) (ho : OwnAt K F (upd H a o) a c') :
    Rel K H0 B F σ (upd H a o) (e.set i (.own c')) ∧ Step F H σ e F (upd H a o) (e.set i (.own c')) ∧ Keep F H F (upd H a o) := by
  obtain ⟨a', h1, h2, h3, h4⟩ := R.own i c hi
  rw [hs] at h1; cases h1
  have il : i < e.length := (List.getElem?_eq_some_iff.mp hi).1
  have kp : Keep F H F (upd H a o) := ⟨fun _ h => h, fun b u hf hb => by rw [upd_ne (by rintro rfl; exact h3 hf)]; exact hb⟩
  have dm : ∀ b, F b → upd H a o b ≠ none := fun b hb => by rw [upd_ne (by rintro rfl; exact h3 hb)]; exact R.dom b hb
  have oth : ∀ {j : Nat} {t : Sl}, (e.set i (.own c'))[j]? = some t → (j = i ∧ t = .own c') ∨ (j ≠ i ∧ e[j]? = some t) := fun {j t} hj => by
    by_cases q : j = i
    · subst q
      rw [List.getElem?_set_self il] at hj; cases hj
      exact .inl ⟨rfl, rfl⟩
    · rw [List.getElem?_set_ne (Ne.symm q)] at hj
      exact .inr ⟨q, hj⟩
  have nea : ∀ {j : Nat} {c1 : Ct} {b : Addr}, j ≠ i → (e[j]? = some (Sl.own c1) ∨ e[j]? = some (Sl.lk c1)) → σ[j]? = some (some (V.ref b)) → b ≠ a := fun {j c1 b} hj h hb z => by
    subst z
    exact hj (R.inj j i b c1 c h (.inl hi) hb hs)
  have orr : ∀ {j : Nat} {c1 : Ct}, ((e.set i (.own c'))[j]? = some (Sl.own c1) ∨ (e.set i (.own c'))[j]? = some (Sl.lk c1)) → ∃ c2, e[j]? = some (Sl.own c2) ∨ e[j]? = some (Sl.lk c2) := fun {j c1} h => by
    rcases h with h | h
    · rcases oth h with ⟨rfl, _⟩ | ⟨_, q⟩
      · exact ⟨c, .inl hi⟩
      · exact ⟨c1, .inl q⟩
    · rcases oth h with ⟨rfl, _⟩ | ⟨_, q⟩
      · exact ⟨c, .inl hi⟩
      · exact ⟨c1, .inr q⟩
  refine ⟨⟨by simp [R.len], dm, fun j x h => ?_, fun j c1 h => ?_, fun j c1 h => ?_, fun j l b c1 c2 hj hl sj sl => ?_, fun b u hb hn => ?_, dm⟩, ⟨Sls.set hi (.own c c'), fun _ h => h, fun b u hb hn => ?_, fun b hb => .inl hb, fun b hb => ?_⟩, kp⟩
  · have : ∃ t : Sl, e[j]? = some t ∧ (t = .d x ∨ t = .e x) := by
      rcases h with h | h
      · rcases oth h with ⟨_, q⟩ | ⟨_, q⟩
        · cases q
        · exact ⟨_, q, .inl rfl⟩
      · rcases oth h with ⟨_, q⟩ | ⟨_, q⟩
        · cases q
        · exact ⟨_, q, .inr rfl⟩
    obtain ⟨t, ht, hx⟩ := this
    obtain ⟨v, q1, q2⟩ := R.dat j x (hx.elim (fun z => .inl (z ▸ ht)) fun z => .inr (z ▸ ht))
    exact ⟨v, q1, q2.keep kp⟩
  · rcases oth h with ⟨rfl, q⟩ | ⟨ne, q⟩
    · cases q
      exact ⟨a, hs, ho, h3, h4⟩
    · obtain ⟨b, q1, q2, q3, q4⟩ := R.own j c1 q
      exact ⟨b, q1, q2.keep kp fun u hu => by rw [upd_ne (nea ne (.inl q) q1)]; exact hu, q3, q4⟩
  · rcases oth h with ⟨rfl, q⟩ | ⟨ne, q⟩
    · cases q
    · obtain ⟨b, q1, q2, q3⟩ := R.lk j c1 q
      exact ⟨b, q1, q2.keep kp fun u hu => by rw [upd_ne (nea ne (.inr q) q1)]; exact hu, q3⟩
  · obtain ⟨c3, g1⟩ := orr hj
    obtain ⟨c4, g2⟩ := orr hl
    exact R.inj j l b c3 c4 g1 g2 sj sl
  · rw [upd_ne (by
      rintro rfl
      rcases h4 with h4 | h4
      · rw [hb] at h4; cases h4
      · exact hn h4)]
    exact R.frame b u hb hn
  · rw [upd_ne (by rintro rfl; exact hn ⟨i, c, hi, hs⟩)]; exact hb
  · by_cases z : b = a
    · subst z; rw [upd_same]; exact fun z => nomatch z
    · rw [upd_ne z]; exact hb
end
/-! ### methods of an own list -/
/-- a method by values: what it gives, what the list becomes -/
def GM (K : PySem.W.Frag) (rr : V → List V → Hp → VK → Prop) (g : Ct → List PyData → Option (PyData × Ct)) : Prop := ∀ F H a c ds vs d c' Q, DomF F H → OwnAt K F H a c → ¬ F a → DAll K F H vs ds → g c ds = some (d, c') → (∀ o v, OwnAt K F (upd H a o) a c' → DV K F (upd H a o) v d → Q v (upd H a o)) → rr (.ref a) vs H Q
def isLst : Option Sl → Bool
  | some (.own (.lst _)) => true
  | _ => false
def cMt (g : Ct → List PyData → Option (PyData × Ct)) (o : CE) (f : En → Option (List PyData × En)) : CE := fun e => (o e).bind fun (x, e1) => match x with
  | .r i => if isLst e1[i]? then (f e1).bind fun (ds, e2) => match e2[i]? with
    | some (.own c) => (g c ds).bind fun (d, c') => some (.v d, e2.set i (.own c'))
    | _ => none
    else none
  | _ => none
def mAppend : Ct → List PyData → Option (PyData × Ct)
  | .lst xs, [d] => if decide (xs.length < 16777216) then some (.none, .lst (xs ++ [d])) else none
  | _, _ => none
def mExtend : Ct → List PyData → Option (PyData × Ct)
  | .lst xs, [.list ys] => if decide (xs.length + ys.length ≤ 16777216) then some (.none, .lst (xs ++ ys)) else none
  | _, _ => none
def mPop : Ct → List PyData → Option (PyData × Ct)
  | .lst xs, [] => (xs[xs.length - 1]?).map fun y => (y, .lst xs.dropLast)
  | .lst xs, [.int i] => if decide (-1000000 ≤ i) && decide (i ≤ 1000000) then (ixN xs.length i).bind fun k => (xs[k]?).map fun y => (y, .lst (xs.eraseIdx k)) else none
  | _, _ => none
section
variable {K : PySem.W.Frag} {F : Addr → Prop} {H : Hp} {a : Addr}
theorem keepU {o : HO} (h : ¬ F a) : Keep F H F (upd H a o) := ⟨fun _ h => h, fun b u hf hb => by rw [upd_ne (by rintro rfl; exact h hf)]; exact hb⟩
theorem DAll.one {vs : List V} {d : PyData} (h : DAll K F H vs [d]) : ∃ v, vs = [v] ∧ DV K F H v d := by
  cases h with
  | cons a b => cases b; exact ⟨_, rfl, a⟩
theorem gm_append : GM K rAppend mAppend := fun F H a c ds vs d c' Q dm h1 nF h2 hg k => by
  unfold mAppend at hg
  split at hg
  · split at hg
    · rename_i hz
      cases hg
      obtain ⟨ws, w1, w2⟩ := h1
      obtain ⟨v, rfl, hv⟩ := h2.one
      refine ⟨a, ws, v, rfl, rfl, w1, ?_, k _ _ ⟨_, upd_same, (w2.append (.cons hv .nil)).keep (keepU nF)⟩ .non⟩
      rw [w2.length, sizeLine_eq]; exact of_decide_eq_true hz
    · cases hg
  · cases hg
theorem list_extendW (l : Addr) (items : Array Value) (n : Nat) (b : Addr) (items2 : Array Value) (n2 : Nat) (dd : Option Addr) (sl : Array (Option Value)) (hc0 : ¬(!items.isEmpty && Builtin.List.listTooLong (items.size + items2.size)) = true) (hc1 : items.size ≤ sizeLine) (hs2 : items.size + items2.size ≤ sizeLine + 1) :
    Meets (Builtin.«list.extend» ⟨[.ref l, .ref b], []⟩) (fun _ R s => s.heap.get? l = some { cls := .type "list", dict := none, data := .seq items n, slots := #[] } ∧ s.heap.get? b = some { cls := .type "list", dict := dd, data := .seq items2 n2, slots := sl } ∧ R (.ok (.ret Value.none)) { s with heap := s.heap.update l (Obj.mapSeq fun x => x ++ items2), toks := s.toks }) :=
  .of_wp fun prog w A R s h => by
    obtain ⟨hp, g, d, tk, os⟩ := s; obtain ⟨hl, hb, h⟩ := h; have f1 := AutoSeq1.idx_int; have f2 := AutoSeq1.sub_tuple_tuple; have f3 := AutoSeq1.sub_list_list; have f4 := AutoSeq1.sub_tuple_list; have f5 := AutoSeq1.sub_list_tuple;
    have hz' : (items ++ items2).size ≤ sizeLine + 1 := by rw [Array.size_append]; exact hs2
    wp_walk using (wpAny_updateSeq hl rfl (hz := hc1) (_hz' := hz')), wpAny_loadPart' hl, wpAny_loadPart' hb; exact ⟨_, rfl, h⟩
def rExtendS (K : PySem.W.Frag) : V → List V → Hp → VK → Prop := fun x vs H Q => ∃ l b xs zs, x = .ref l ∧ vs = [.ref b] ∧ H l = some (.lst xs) ∧ SqL K H b zs ∧ xs.length + zs.length ≤ sizeLine ∧ Q .non (upd H l (.lst (xs ++ zs)))
theorem mt_extendS {X : Cx} : MtM X "list.extend" (rExtendS X.K) := by
  intro pins s σ H x vs v us Q I rx rv h
  obtain ⟨l, b, xs, zs, rfl, rfl, hH, hB, hz, q⟩ := h
  cases rx
  obtain ⟨u, rfl, ru⟩ := rv.one
  cases ru
  obtain ⟨z, its, n, r, hl, e⟩ := I.lstM hH
  obtain ⟨its2, r2, ⟨⟨cls, data, dd, sl⟩, n2, e2, hc, hdd, hd⟩, z2⟩ := I.list hB
  simp only at hc hd
  subst hc hd
  have hl2 := r2.length
  have hsz : its.toArray.size + its2.toArray.size ≤ sizeLine := by rw [List.size_toArray, List.size_toArray]; omega
  have hlong : ¬ (!its.toArray.isEmpty && Builtin.List.listTooLong (its.toArray.size + its2.toArray.size)) = true := by
    rw [notLongL hsz, Bool.and_false]
    exact Bool.false_ne_true
  refine call_meets F.slot_list_extend ⟨_, e, rfl⟩ F.entry_list_extend (F.args_list_extend_2 _ _)
    (list_extendW l its.toArray n b its2.toArray n2 _ _ hlong (by rw [List.size_toArray]; omega) (by omega)) ⟨e, e2, ?_⟩
  refine ⟨.non, _, I.lset (its' := its ++ its2) hH e (by simp) (r.append r2) ?_, rfl, q⟩
  rw [List.length_append]
  omega
theorem gm_extend : GM K (rExtendS K) mExtend := fun F H a c ds vs d c' Q dm h1 nF h2 hg k => by
  unfold mExtend at hg
  split at hg
  · split at hg
    · rename_i hz
      cases hg
      obtain ⟨ws, w1, w2⟩ := h1
      obtain ⟨v, rfl, hv⟩ := h2.one
      cases hv with
      | lst f hb z =>
        refine ⟨a, _, ws, _, rfl, rfl, w1, SqL.of hb, ?_, k _ _ ⟨_, upd_same, (w2.append z).keep (keepU nF)⟩ .non⟩
        rw [w2.length, z.length, sizeLine_eq]; exact of_decide_eq_true hz
      | lstK l c d s y r z =>
        refine ⟨a, _, ws, _, rfl, rfl, w1, .inr ⟨_, _, _, l, c, d, s, y, r⟩, ?_, k _ _ ⟨_, upd_same, (w2.append z).keep (keepU nF)⟩ .non⟩
        rw [w2.length, z.length, sizeLine_eq]; exact of_decide_eq_true hz
    · cases hg
  · cases hg
theorem DAll.dropLast {vs : List V} {ds : List PyData} (h : DAll K F H vs ds) : DAll K F H vs.dropLast ds.dropLast := by
  rw [List.dropLast_eq_take, List.dropLast_eq_take, h.length]
  exact h.take _
theorem ixN_of {n : Nat} {i : Int} {k : Nat} (h : ixN n i = some k) : seqIndex? i n = some k := (ixN_seq h).1
theorem gm_pop : GM K (fun x vs H Q => rPop x vs H Q ∨ rPopAt x vs H Q) mPop := fun F H a c ds vs d c' Q dm h1 nF h2 hg k => by
  unfold mPop at hg
  split at hg
  · obtain ⟨y, e1, e2⟩ := Option.map_eq_some_iff.mp hg
    cases e2
    obtain ⟨ws, w1, w2⟩ := h1
    cases h2
    obtain ⟨v, e3, e4⟩ := w2.get e1
    exact .inl ⟨a, ws, v, rfl, rfl, w1, by rw [w2.length]; exact e3, k _ _ ⟨_, upd_same, w2.dropLast.keep (keepU nF)⟩ (e4.keep (keepU nF))⟩
  · split at hg
    · rename_i hz
      simp only [Bool.and_eq_true, decide_eq_true_eq] at hz
      obtain ⟨n, e0, hg⟩ := bind_some hg
      obtain ⟨y, e1, e2⟩ := Option.map_eq_some_iff.mp hg
      cases e2
      obtain ⟨ws, w1, w2⟩ := h1
      obtain ⟨v, rfl, hv⟩ := h2.one
      cases hv
      obtain ⟨v, e3, e4⟩ := w2.get e1
      exact .inr ⟨a, ws, _, n, v, rfl, rfl, w1, by omega, by omega, by rw [w2.length]; exact ixN_of e0, e3, k _ _ ⟨_, upd_same, (w2.eraseIdx n).keep (keepU nF)⟩ (e4.keep (keepU nF))⟩
    · cases hg
  · cases hg
end
section
variable {X : Cx} {o a : Expr} {es : List Expr} {fo fa : CE} {ff : En → Option (List PyData × En)} {pos : Pos}
theorem OwnAt.tyL {K : PySem.W.Frag} {F : Addr → Prop} {H : Hp} {a : Addr} {xs : List PyData} (h : OwnAt K F H a (.lst xs)) : tyV K "list" (.ref a) H := by
  obtain ⟨vs, h, _⟩ := h
  exact .inl ⟨rfl, _, SqL.of h⟩
theorem mt_run {K : PySem.W.Frag} {rr : V → List V → Hp → VK → Prop} {g : Ct → List PyData → Option (PyData × Ct)} {σ : St} {H : Hp} {Q : VK} (hg : GM K rr g) (q : tE K (cMt g fo ff) σ H Q) : tBM K "list" rr (tE K fo) (tDs K ff) σ H Q := by
  obtain ⟨H0, B, F, e, op, e', R, he, k⟩ := q
  obtain ⟨⟨x, e1⟩, h1, he⟩ := bind_some he
  simp only at he
  cases x with
  | v d => cases he
  | o c => cases he
  | r i =>
    simp only at he
    split at he
    rotate_left
    · cases he
    rename_i hl
    obtain ⟨⟨ds, e2⟩, h2, he⟩ := bind_some he
    simp only at he
    cases hi : e2[i]? with
    | none => rw [hi] at he; cases he
    | some sl =>
      rw [hi] at he
      cases sl with
      | own c =>
        obtain ⟨⟨d, c'⟩, h3, he⟩ := bind_some he
        cases he
        refine ⟨H0, B, F, e, .r i, e1, R, h1, fun F1 H1 v R1 S1 O1 => ?_⟩
        obtain ⟨o1, _⟩ := O1
        refine ⟨?_, H0, B, F1, e1, ds, e2, R1, h2, fun F2 H2 vs R2 S2 D2 => ?_⟩
        · cases hi1 : e1[i]? with
          | none => rw [hi1] at hl; cases hl
          | some s1 =>
            rw [hi1] at hl
            cases s1 with
            | own c1 =>
              cases c1 with
              | lst xs =>
                obtain ⟨a, y1, y2, _⟩ := R1.own i _ hi1
                rw [o1] at y1; cases y1
                exact y2.tyL
              | dct kvs => cases hl
            | _ => cases hl
        · obtain ⟨a, y1, y2, y3, y4⟩ := R2.own i _ hi
          rw [o1] at y1; cases y1
          refine hg F2 H2 a _ ds vs d c' _ R2.dom y2 y3 D2 h3 fun o w ho hw => ?_
          obtain ⟨R3, S3, k3⟩ := mut_rel R2 hi o1 ho
          exact k F2 _ w R3 ((S1.trans S2).trans S3) hw
      | _ => cases he
theorem dn_mt {name : Str} {apos cpos : Pos} {id : String} {rr : V → List V → Hp → VK → Prop} {g : Ct → List PyData → Option (PyData × Ct)} (pa : PlainAttrs "list") (slot : Slot "list" name id) (hty : typeOf (.builtin id) = pure (.type "method_descriptor")) (hm : MtR X id rr) (hg : GM X.K rr g) (ho : Den X o fo) (ha : DenF X (a :: es) ff)
    (hbase : attributeBase o name X.env (eval o X.env) = eval o X.env := by rfl)
    (hfew : ((backTo cpos (starEach (a :: es) X.env)).all (fun x => !x.1) && (backToKw cpos (keywordEach [] X.env)).all (fun x => x.1.isSome)
      && decide ((a :: es).length + ([] : List Keyword).length + (if ([] : List Keyword).isEmpty then 0 else 1) < 30)) = true := by rfl)
    (hline : (apos.endLine == cpos.line) = true := by rfl) (hs : starEach (a :: es) X.env = (false, eval a X.env) :: starEach es X.env := by rfl) (hplain : (backTo cpos (starEach es X.env)).any (·.1) = false := by rfl) :
    Den X (.Call (.Attribute o name apos) (a :: es) [] cpos) (cMt g fo ff) := PE.mono (pe_bm pa slot hty hm ho ha hbase hfew hline hs hplain) fun σ H Q q => mt_run hg q
theorem dn_append {apos cpos : Pos} (ho : Den X o fo) (ha : DenF X [a] ff) (hbase : attributeBase o "append" X.env (eval o X.env) = eval o X.env := by rfl) (hfew : ((backTo cpos (starEach [a] X.env)).all (fun x => !x.1) && (backToKw cpos (keywordEach [] X.env)).all (fun x => x.1.isSome)
      && decide ([a].length + ([] : List Keyword).length + (if ([] : List Keyword).isEmpty then 0 else 1) < 30)) = true := by rfl)
    (hline : (apos.endLine == cpos.line) = true := by rfl) (hs : starEach [a] X.env = (false, eval a X.env) :: starEach [] X.env := by rfl) : Den X (.Call (.Attribute o "append" apos) [a] [] cpos) (cMt mAppend fo ff) :=
  dn_mt F.plainAttrs_list F.slot_list_append F.type_list_append mt_append gm_append ho ha hbase hfew hline hs rfl
theorem dn_extend {apos cpos : Pos} (ho : Den X o fo) (ha : DenF X [a] ff) (hbase : attributeBase o "extend" X.env (eval o X.env) = eval o X.env := by rfl) (hfew : ((backTo cpos (starEach [a] X.env)).all (fun x => !x.1) && (backToKw cpos (keywordEach [] X.env)).all (fun x => x.1.isSome)
      && decide ([a].length + ([] : List Keyword).length + (if ([] : List Keyword).isEmpty then 0 else 1) < 30)) = true := by rfl)
    (hline : (apos.endLine == cpos.line) = true := by rfl) (hs : starEach [a] X.env = (false, eval a X.env) :: starEach [] X.env := by rfl) : Den X (.Call (.Attribute o "extend" apos) [a] [] cpos) (cMt mExtend fo ff) :=
  dn_mt F.plainAttrs_list F.slot_list_extend F.type_list_extend mt_extendS gm_extend ho ha hbase hfew hline hs rfl
theorem MtR.or' {id : String} {r r' : V → List V → Hp → VK → Prop} (h : MtR X id r) (h' : MtR X id r') : MtR X id (fun x xs H Q => r x xs H Q ∨ r' x xs H Q) := fun pins s σ H x xs v us Q I rx rv q => q.elim (fun q => h pins s σ H x xs v us Q I rx rv q) fun q => h' pins s σ H x xs v us Q I rx rv q
theorem dn_pop {apos cpos : Pos} (ho : Den X o fo) (ha : DenF X [a] ff) (hbase : attributeBase o "pop" X.env (eval o X.env) = eval o X.env := by rfl) (hfew : ((backTo cpos (starEach [a] X.env)).all (fun x => !x.1) && (backToKw cpos (keywordEach [] X.env)).all (fun x => x.1.isSome)
      && decide ([a].length + ([] : List Keyword).length + (if ([] : List Keyword).isEmpty then 0 else 1) < 30)) = true := by rfl)
    (hline : (apos.endLine == cpos.line) = true := by rfl) (hs : starEach [a] X.env = (false, eval a X.env) :: starEach [] X.env := by rfl) : Den X (.Call (.Attribute o "pop" apos) [a] [] cpos) (cMt mPop fo ff) :=
  dn_mt F.plainAttrs_list F.slot_list_pop F.type_list_pop (MtR.or' mt_pop mt_popAt) gm_pop ho ha hbase hfew hline hs rfl
end

/-! ### stores -/
/-- what a store makes of an own thing -/
def GS (K : PySem.W.Frag) (rr : V → V → V → Hp → (Hp → Prop) → Prop) (g : Ct → PyData → PyData → Option Ct) : Prop := ∀ F H a c k kd v d c' Q, DomF F H → OwnAt K F H a c → ¬ F a → RV K F H k kd → DV K F H v d → g c kd d = some c' → (∀ o, OwnAt K F (upd H a o) a c' → Q (upd H a o)) → rr (.ref a) k v H Q
def stSub : Ct → PyData → PyData → Option Ct
  | .lst xs, .int i, d => (ixN xs.length i).map fun j => .lst (xs.set j d)
  | .dct kvs, kd, d => (intK kd).bind fun k => if decide (kvs.length < 16777216) then some (.dct (dPut kvs k d)) else none
  | _, _, _ => none
def rSetA (K : PySem.W.Frag) : V → V → V → Hp → (Hp → Prop) → Prop := fun o i v H Q => rSetL o i v H Q ∨ rXPut K o i v H Q
theorem set_all {X : Cx} (hu : X.A.units + 64 < cLine) : PSet X (rSetA X.K) := fun pins s σ H o i v ov iv u Q I ro ri rv q => q.elim (fun q => set_list pins s σ H o i v ov iv u Q I ro ri rv q) fun q => set_xd hu pins s σ H o i v ov iv u Q I ro ri rv q
theorem gs_sub {K : PySem.W.Frag} : GS K (rSetA K) stSub := fun F H a c k kd v d c' Q dm h1 nF hk hv hg kk => by
  cases c with
  | lst xs =>
    cases kd with
    | int i =>
      obtain ⟨j, e1, e2⟩ := Option.map_eq_some_iff.mp (show (ixN xs.length i).map _ = some c' from hg)
      subst e2
      obtain ⟨ws, w1, w2⟩ := h1
      exact .inl ⟨a, ws, i, j, rfl, hk.int, w1, by rw [w2.length]; exact e1, kk _ ⟨_, upd_same, (w2.set hv).keep (keepU nF)⟩⟩
    | _ => cases hg
  | dct kvs =>
    obtain ⟨ky, e1, hg⟩ := bind_some (show (intK kd).bind _ = some c' from by cases kd <;> exact hg)
    split at hg
    · rename_i hz
      cases hg
      obtain ⟨r, w1, w2⟩ := h1
      obtain ⟨b, rfl, hb⟩ := hk.key e1
      refine .inr ⟨F, a, b, r, kvs, ky, d, rfl, rfl, hb, w1, nF, w2.l rfl, by rw [sizeLine_eq]; exact of_decide_eq_true hz, hv, fun r' hr' => kk _ ⟨r', upd_same, ?_⟩⟩
      exact (hr'.keep (keepU nF)).v
    · cases hg
def gSubC (set : Ct → PyData → PyData → Option Ct) (o i : CE) : CG := fun x e => (o e).bind fun (op, e1) => (i e1).bind fun (k, e2) => (vw e2 k).bind fun kd => match op with
  | .r n => match e2[n]? with
    | some (.own c) => (set c kd x).map fun c' => e2.set n (.own c')
    | _ => none
  | _ => none
section
variable {X : Cx} {np : Nat} {o i : Expr} {fo fi : CE} {pos : Pos}
theorem dg_sub (hu : X.A.units + 64 < cLine) (ho : Den X o fo) (hi : Den X i fi)
    (ha : ∀ v, assign (.Subscript o i pos) X.env v = (do
      let ov ← holding [v] (eval o X.env)
      let iv ← holding [v, ov] (eval i X.env)
      standAt pos
      holding [v, ov, iv] (setItem ov iv v)
      release [v, ov, iv] []) := by intro _; rfl) : DenG X np (.Subscript o i pos) (L2.gSub (tE X.K fo) (tE X.K fi) (rSetA X.K)) (gSubC stSub fo fi) := ⟨pg_sub ho hi (set_all hu) ha, fun f F σ H e e' v x Q hnp R d he k => by
  subst hnp
  obtain ⟨⟨op, e1⟩, h1, he⟩ := bind_some he
  obtain ⟨⟨ky, e2⟩, h2, he⟩ := bind_some he
  obtain ⟨kd, h3, he⟩ := bind_some he
  cases op with
  | v y => cases he
  | o c => cases he
  | r n =>
    simp only at he
    cases hn : e2[n]? with
    | none => rw [hn] at he; cases he
    | some sl =>
      rw [hn] at he
      cases sl with
      | own c =>
        obtain ⟨c', h4, h5⟩ := Option.map_eq_some_iff.mp he
        subst h5
        refine toE R h1 fun F1 H1 ov R1 S1 O1 => ?_
        refine toE R1 h2 fun F2 H2 iv R2 S2 O2 => ?_
        obtain ⟨o1, _⟩ := O1
        obtain ⟨a, y1, y2, y3, y4⟩ := R2.rel.own n _ hn
        rw [o1] at y1; cases y1
        have dv := (d.keep (S1.keep R.rel)).keep (S2.keep R1.rel)
        refine gs_sub F2 H2 a c iv kd v x c' _ R2.rel.dom y2 y3 (O2.vw R2.rel h3) dv h4 fun ob hob => ?_
        obtain ⟨R3, S3, k3⟩ := mut_rel R2.rel hn o1 hob
        exact k F2 σ _ (R2.step R3 S3) (((S1.keep R.rel).trans (S2.keep R1.rel)).trans k3)
      | _ => cases he⟩
/-- {} -/
def cNewD : CE := fun e => some (.o (.dct []), e)
theorem dn_newD : Den X (.Dict [] [] pos) cNewD := PE.mono pe_xnew fun σ H Q q => by
  obtain ⟨H0, B, F, e, op, e', R, he, k⟩ := q
  cases he
  refine fun p hp => ?_
  have G := Grow.own R.dom hp (xdO p [])
  exact k _ _ _ (R.grow G) G.step ⟨p, rfl, ⟨[], upd_same, .nil⟩, fun z => R.dom p z hp, hp, fun z => R.owSome z hp, fun z => R.loSome z hp⟩
/-- del d[k] -/
def sXDel (K : PySem.W.Frag) (td ty : TE) : TS := fun D σ H => td σ H fun x H1 => ty σ H1 fun y H2 => ∃ (F : Addr → Prop) (a b : Addr) (r : List XE) (kvs : Kv) (k : List Int), x = .ref a ∧ y = .ref b ∧ DV K F H2 (.ref b) (kD k) ∧ H2 a = some (xdO a r) ∧ DKl K F H2 r kvs ∧ (dFind kvs k).isSome = true ∧ ∀ r', DKl K F H2 r' (dDel kvs k) → D.nx σ (upd H2 a (xdO a r'))
theorem ps_xdel {td ty : TE} {tpos : Pos} (hu : X.A.units + 64 < cLine) (ho : PE X o td) (hi : PE X i ty) : PS X (.Delete [.Subscript o i tpos] pos) (sXDel X.K td ty) := by
  refine ⟨fun pins s σ H D I h => ?_⟩
  refine wpAny_Delete (wpAny_deleteEach_cons (wpAny_delete_Subscript (thn (ho.run pins s σ H _ I h) fun u s1 ⟨x, H1, I1, rx, q1⟩ => thn (hi.run pins s1 σ H1 _ I1 q1) fun iv s2 ⟨y, H2, I2, ry, F, a, b, r, kvs, k, ex, ey, hk, ha, hd, hf, q2⟩ => ?_)))
  subst ex ey
  obtain rfl : u = Value.ref a := rx
  obtain rfl : iv = Value.ref b := ry
  obtain ⟨z, hsm, xs, d3, dd⟩ := xd_at I2 (.inl ha) hd
  obtain ⟨d, hd0⟩ := Option.isSome_iff_exists.mp hf
  obtain ⟨b', u', v', e1, _⟩ := (d3.find k).1 d hd0
  obtain ⟨r', hl, d3'⟩ := d3.del (k := k)
  obtain ⟨z1, z2⟩ := d3_len d3
  have hz' : xs.length ≤ sizeLine := by omega
  exact wpAny_delItem_heap (hsz := hz') (tupleKind_room_in1 (by omega)) (key_at I2 hk) hsm dd e1 fun h' dd' hs => wpAny_deleteEach_nil ⟨σ, _, inv_xd I2 ha hsm (by omega) d3'.xp dd' hs, q2 r' d3'.l⟩
def sDel (o i : CE) : CS := fun e => (o e).bind fun (op, e1) => (i e1).bind fun (k, e2) => (vw e2 k).bind fun kd => match op with
  | .r n => match e2[n]? with
    | some (.own (.dct kvs)) => (intK kd).bind fun ky => if (dFind kvs ky).isSome then some (.nx, e2.set n (.own (.dct (dDel kvs ky)))) else none
    | _ => none
  | _ => none
theorem ds_del {tpos : Pos} (hu : X.A.units + 64 < cLine) (ho : Den X o fo) (hi : Den X i fi) : DenS X np (.Delete [.Subscript o i tpos] pos) (sDel fo fi) := PS.mono (ps_xdel hu ho hi) fun D σ H q => by
  obtain ⟨f, F, e, fl, e', hnp, R, h, k⟩ := q
  subst hnp
  obtain ⟨⟨op, e1⟩, h1, h⟩ := bind_some h
  obtain ⟨⟨ky, e2⟩, h2, h⟩ := bind_some h
  obtain ⟨kd, h3, h⟩ := bind_some h
  cases op with
  | v y => cases h
  | o c => cases h
  | r n =>
    simp only at h
    cases hn : e2[n]? with
    | none => rw [hn] at h; cases h
    | some sl =>
      rw [hn] at h
      cases sl with
      | own c =>
        cases c with
        | lst xs => cases h
        | dct kvs =>
          obtain ⟨kk, h4, h⟩ := bind_some h
          split at h
          rotate_left
          · cases h
          rename_i hs
          cases h
          refine toE R h1 fun F1 H1 ov R1 S1 O1 => ?_
          refine toE R1 h2 fun F2 H2 iv R2 S2 O2 => ?_
          obtain ⟨o1, _⟩ := O1
          obtain ⟨a, y1, y2, y3, y4⟩ := R2.rel.own n _ hn
          rw [o1] at y1; cases y1
          obtain ⟨b, rfl, hb⟩ := (O2.vw R2.rel h3).key h4
          obtain ⟨r, w1, w2⟩ := y2
          refine ⟨F2, a, b, r, kvs, kk, rfl, rfl, hb, w1, w2.l rfl, hs, fun r' hr' => ?_⟩
          obtain ⟨R3, S3, k3⟩ := mut_rel R2.rel hn o1 (c' := .dct (dDel kvs kk)) (o := xdO a r') ⟨r', upd_same, (hr'.keep (keepU y3)).v⟩
          exact k F2 σ _ (R2.step R3 S3)
      | _ => cases h
end
end MP

/-! A16: enumerate, zip over lists and tuples. -/
namespace MP
open PySem PySem.Spec L2
open PyProof.Rows hiding St intKind ItemsAre

def SqB (k : Bool) (K : PySem.W.Frag) (H : Hp) (a : Addr) (xs : List V) : Prop := match k with
  | true => SqL K H a xs
  | false => SqT K H a xs
def IterB (k : Bool) (h : Heap) (it a : Addr) (i : Nat) : Prop := match k with
  | true => h.IsListIter it a i
  | false => h.IsTupleIter it a i
def ObjB (k : Bool) (h : Heap) (a : Addr) (its : Array Value) : Prop := match k with
  | true => h.IsList a its
  | false => h.IsTuple a its
section
variable {X : Cx} {pins : List (Addr × Obj)} {σ : St} {H : Hp} {s : Shared}
theorem seqB (I : Inv X pins σ H s) : ∀ {k : Bool} {a : Addr} {xs : List V}, SqB k X.K H a xs → ∃ its : List Value, Vals xs its ∧ ObjB k s.heap a its.toArray ∧ Nat.lt a s.heap.objs.size
  | true, a, xs, h => by
    obtain ⟨its, rv, p, _⟩ := I.list h
    exact ⟨its, rv, p.isList, p.lt⟩
  | false, a, xs, h => by
    obtain ⟨its, rv, p, _⟩ := I.tuple h
    exact ⟨its, rv, p, by obtain ⟨_, e, _⟩ := p; exact Heap.lt_size e⟩
theorem injB (I : Inv X pins σ H s) : ∀ {k : Bool} {a : Addr} {xs ys : List V}, SqB k X.K H a xs → SqB k X.K H a ys → xs = ys
  | true, _, _, _, h, h' => I.list_inj h h'
  | false, _, _, _, h, h' => I.tuple_inj h h'
theorem IterB.obj {k : Bool} {h : Heap} {it a : Addr} {i : Nat} (x : IterB k h it a i) : ∃ o, h.get? it = some o ∧ ∀ v, o.data ≠ .cell v := by
  cases k with
  | true => obtain ⟨o, e, _, d⟩ := x; exact ⟨o, e, fun v z => by rw [d] at z; cases z⟩
  | false => obtain ⟨o, e, _, d⟩ := x; exact ⟨o, e, fun v z => by rw [d] at z; cases z⟩
theorem IterB.at_ {k : Bool} {h h' : Heap} {it a : Addr} {i : Nat} (x : IterB k h it a i) (q : ∀ o, h.get? it = some o → h'.get? it = some o) : IterB k h' it a i := by
  cases k with
  | true => exact Heap.IsListIter.at x q
  | false => exact Heap.IsTupleIter.at x q
theorem drawsB {prog : Program} {w : World} {A : Around} (hh : A.handled = none) (it a : Addr) (hne : a ≠ it) (its : Array Value) : ∀ k : Bool, Draws prog w A it [it, a] its.size (fun i v => its[i]? = some v) (fun i h => IterB k h it a i ∧ ObjB k h a its)
  | true => Draws.list hh it a hne its
  | false => Draws.tuple hh it a hne its
def itObj (k : Bool) (a : Addr) : Obj := match k with
  | true => { cls := .type "list_iterator", data := .fields #[.ref a, .int 0 0] }
  | false => { cls := .type "tuple_iterator", data := .fields #[.ref a, .int 0 0] }
theorem beginsB (a : Addr) (its : Array Value) : ∀ k : Bool, Begins (.ref a) (itObj k a) fun h => ObjB k h a its
  | true => begins_list a its
  | false => begins_tuple a its
theorem iter0 {k : Bool} {h : Heap} {it a : Addr} (e : h.get? it = some (itObj k a)) : IterB k h it a 0 := by
  cases k with
  | true => exact ⟨_, e, rfl, rfl⟩
  | false => exact ⟨_, e, rfl, rfl⟩

/-! ### enumerate -/
set_option maxHeartbeats 1000000 in
theorem meets_enumerate_new1 {v : Value} {o : Obj} {H : Heap → Prop} (B : Begins v o H) :
    Meets (Builtin.«enumerate.__new__» ⟨[.type "enumerate", v], []⟩) (fun _ R s => H s.heap ∧
      R (.ok (.ret (.ref (s.heap.push o).objs.size))) { s with heap := (s.heap.push o).push { cls := .type "enumerate", data := .fields #[.none, .bool false, .ref s.heap.objs.size, rawInt 0, .none, .none] } }) :=
  .of_wp fun prog w A R s h => by
    obtain ⟨hp, g, d, tk, os⟩ := s; obtain ⟨h1, h⟩ := h
    have hsub := sub_enumerate
    have q1 : ∀ {A' : Around} {E : Value → Shared → Prop} {Q : Value → Shared → Prop}, Q (.ref hp.objs.size) ⟨hp.push o, g, d, tk, os⟩ → wpAny (model prog w) A' (pyIter v) Q E ⟨hp, g, d, tk, os⟩ :=
      fun q => B.iter prog w _ _ ⟨hp, g, d, tk, os⟩ _ h1 q
    wp_walk using q1
    refine wpAny_stack_any fun st => wpAny_pure ?_
    split
    · rename_i c _ _ _ _ _
      cases (c == Value.type "enumerate")
      · wp_walk using q1
        exact ⟨_, rfl, h⟩
      · wp_walk using q1
        exact ⟨_, rfl, h⟩
    · wp_walk using q1
      exact ⟨_, rfl, h⟩
theorem enum_begins1 {prog : Program} {w : World} {A : Around} {E : Value → Shared → Prop} {s : Shared} {v : Value} {o : Obj} {H : Heap → Prop} {Q : Value → Shared → Prop} (B : Begins v o H) (h1 : H s.heap)
    (h : ∀ h', IsEnum h' (s.heap.objs.size + 1) s.heap.objs.size 0 .none → h'.get? s.heap.objs.size = some o → h'.objs.size = s.heap.objs.size + 2 →
      (∀ b o, s.heap.get? b = some o → h'.get? b = some o) → Q (.ref (s.heap.objs.size + 1)) { s with heap := h' }) :
    wpAny (model prog w) A (call (.type "enumerate") [v]) Q E s := by
  refine callType_new F.called_enumerate (by decide) (F.typeCall_enumerate_1 _) (F.newCall_enumerate_1 _) (fun obj => F.args_object_init_2 obj _) F.entry_enumerate_new
    (meets_enumerate_new1 B) ⟨h1, ?_⟩
  have hz : (s.heap.push o).objs.size = s.heap.objs.size + 1 := Heap.size_push ..
  show _ ∧ _
  rw [hz]
  have he : IsEnum ((s.heap.push o).push { cls := .type "enumerate", data := .fields #[.none, .bool false, .ref s.heap.objs.size, rawInt 0, .none, .none] }) (s.heap.objs.size + 1) s.heap.objs.size 0 .none := by
    have := Heap.get?_push_size (s.heap.push o) (o := { cls := .type "enumerate", data := .fields #[.none, .bool false, .ref s.heap.objs.size, rawInt 0, .none, .none] }) rfl
    rw [hz] at this; exact this
  exact ⟨⟨_, he, rfl⟩, h _ he (Heap.get?_push_of_some _ (Heap.get?_push_size _ B.free)) (by rw [Heap.size_push, hz]) fun b o x => Heap.get?_push_of_some _ (Heap.get?_push_of_some _ x)⟩
def IteB (k : Bool) (K : PySem.W.Frag) (a : Addr) : It :=
  ⟨fun i H => ∃ (xs : List V) (x : V), SqB k K H a xs ∧ xs[i]? = some x, fun i H v H' => ∃ T x, v = .ref T ∧ H T = none ∧ H' = upd H T (.tup [.int (i : Nat), x]) ∧ ∀ xs, SqB k K H a xs → xs[i]? = some x, fun i H => ∃ xs : List V, SqB k K H a xs ∧ xs.length = i⟩
theorem turn_enumB {P : Program} {w : World} {K : PySem.W.Frag} {elts : List Expr} {kk : Nat} {tpos : Pos} {k : Bool} (a e it : Addr) :
    Turn P w K (.Tuple elts kk tpos) (IteB k K a) [e, it] e (fun i h => (∃ old, IsEnum h e it ((i : Nat) : Int) old) ∧ IterB k h it a i ∧ e ≠ it ∧ e ≠ a ∧ a ≠ it) where
  mem := by simp
  obj := fun i h st b hb => by
    obtain ⟨⟨old, he⟩, hi, _⟩ := st
    have e' : b = e ∨ b = it := by simpa using hb
    rcases e' with z | z
    · rw [z]; exact ⟨_, he, fun v q => nomatch q⟩
    · rw [z]; exact hi.obj
  keep := fun i h h' st q => let ⟨⟨old, he⟩, hi, hne⟩ := st; ⟨⟨old, q e (by simp) _ he⟩, hi.at_ fun o z => q it (by simp) o z, hne⟩
  item := by
    intro X hP hw hK hc i pins s σ H E I hf st hg
    subst hP hw hK
    obtain ⟨⟨old, he⟩, hit, hne, hea, hai⟩ := st
    obtain ⟨xs, x, hq, hx⟩ := hg
    obtain ⟨its, rv, p, hl⟩ := seqB I hq
    obtain ⟨u, hu, ru⟩ := rv.get hx
    have hel : e < s.heap.objs.size := Heap.lt_size he
    have hil : it < s.heap.objs.size := by obtain ⟨_, q, _⟩ := hit.obj; exact Heap.lt_size q
    have hlt : i < its.toArray.size := by
      rw [List.size_toArray]; exact (List.getElem?_eq_some_iff.mp hu).1
    refine wpAny_pyNext_enum_itemC (drawsB (A := X.A.in1) (I.ok.hd hc) it a hai its.toArray k) he ⟨hit, p⟩ hlt hne (by simp [hne, hea]) fun u' h' tk hu' ho hst hT hsz hk => ?_
    obtain ⟨hit', _⟩ := hst
    have hu2 : u' = u := by
      have z : its.toArray[i]? = some u' := hu'
      rw [← Array.getElem?_toList] at z
      have z : its[i]? = some u' := z
      rw [hu] at z; exact (Option.some.inj z).symm
    subst hu2
    refine ⟨_, rfl, wpAny_letOwnedTupleGo_enum (s := { s with heap := h', toks := tk + 1 }) ho fun h'' he' sb => ?_⟩
    have hT2 : h''.get? s.heap.objs.size = some { cls := .type "tuple", data := .seq #[.int i tk, u'] } := (sb.2 _ (Nat.ne_of_gt hel)).trans hT
    have new : ObjOk X.prog X.w (upd H s.heap.objs.size (.tup [.int (i : Nat), x])) h'' s.heap.objs.size (.tup [.int (i : Nat), x]) :=
      ⟨by show 2 ≤ sizeLine; decide, [.int i tk, u'], .cons ⟨_, rfl⟩ (.cons ru .nil), ⟨_, hT2, rfl, _, rfl⟩⟩
    have I1 : Inv X pins σ (upd H s.heap.objs.size (.tup [.int (i : Nat), x])) { s with heap := h'', toks := tk + 1 } :=
      I.turnedNew (ch := [e, it]) (fun b ob hb q => (sb.2 b (fun z => hb (by simp [z]))).trans (hk b ob (fun z => hb (by simp [z])) (fun z => hb (by simp [z])) q)) hf (Nat.le_refl _) new
    refine ⟨.ref s.heap.objs.size, _, I1, rfl, ⟨_, x, rfl, I.hok.fresh (Nat.le_refl _), rfl, fun ys hy => by rw [injB I hy hq]; exact hx⟩, ⟨⟨u', ?_⟩, hit'.at_ fun o q => (sb.2 it (Ne.symm hne)).trans q, hne, hea, hai⟩, fun b hb => ?_⟩
    · have e1 : ((i + 1 : Nat) : Int) = (i : Int) + 1 := by omega
      rw [e1]; exact he'
    · have hb' : b < s.heap.objs.size := by
        have e' : b = e ∨ b = it := by simpa using hb
        rcases e' with z | z
        · rw [z]; exact hel
        · rw [z]; exact hil
      rw [upd_ne (Nat.ne_of_lt hb')]
      exact (hf b hb).1
  done := by
    intro X hP hw hK hc i pins s σ H E I hf st hg
    subst hP hw hK
    obtain ⟨⟨old, he⟩, hit, hne, hea, hai⟩ := st
    obtain ⟨xs, hq, hx⟩ := hg
    obtain ⟨its, rv, p, hz⟩ := seqB I hq
    obtain ⟨f0, f1, f2, f3, f4, f5⟩ := hf it (by simp)
    have hl := rv.length
    have hi : its.toArray.size = i := by simp; omega
    have D := drawsB (prog := X.prog) (w := X.w) (A := X.A.in1) (I.ok.hd hc) it a hai its.toArray k
    rw [hi] at D
    exact wpAny_pyNext_enum_endD D he ⟨hit, p⟩ fun h' eb => ⟨rfl, I.turned (t' := s.toks) (fun b o hb q => eb b o hb q) f0 f1 f3 f4 f5⟩
  self := fun A i s Q E st h => let ⟨⟨_, he⟩, _⟩ := st; wpAny_pyIter_enum he h
def iEnumB (K : PySem.W.Frag) (ta : TA) : TI := fun σ H R => ta σ H fun vs H1 => ∃ k a xs, vs = [.ref a] ∧ SqB k K H1 a xs ∧ R (IteB k K a) H1
theorem pi_enumB {X : Cx} {e : Expr} {ta : TA} {p pos tpos : Pos} {elts : List Expr} {kk : Nat} (hg : Gl X "enumerate") (hm : X.mg "enumerate" = none) (ha : PA X [e] ta) (hs : starEach [e] X.env = [(false, eval e X.env)] := by rfl) :
    PI X (.Tuple elts kk tpos) (.Call (.Name "enumerate" p) [e] [] pos) (iEnumB X.K ta) := by
  refine ⟨fun pins s σ H R I h => ?_⟩
  refine Call_ (ld_blt I hg hm boot_enumerate (PyProof.Rows.callWith_type1 (thn (ha.run pos pins s σ H _ I h) fun us s1 ⟨vs, H1, I1, r1, q1⟩ => ?_) hs rfl))
  obtain ⟨k, a, xs, ex, hq, q⟩ := q1
  subst ex
  cases r1 with
  | cons r rr =>
    cases rr
    cases r
    obtain ⟨its, rv, p', hlt⟩ := seqB I1 hq
    refine enum_begins1 (beginsB a its.toArray k) p' fun h' he hit hsz hk => wpAny_pyIter_enum he ?_
    have I2 : Inv X pins σ H1 { s1 with heap := h' } := I1.kept (t' := s1.toks) hk
    refine ⟨s1.heap.objs.size + 1, [s1.heap.objs.size + 1, s1.heap.objs.size], _, _, H1, rfl, I2, turn_enumB a (s1.heap.objs.size + 1) s1.heap.objs.size, ⟨⟨.none, he⟩, iter0 hit, Nat.succ_ne_self _, Nat.ne_of_gt (Nat.lt_succ_of_lt hlt), Nat.ne_of_lt hlt⟩, fun b hb => ?_, q⟩
    have e' : b = s1.heap.objs.size + 1 ∨ b = s1.heap.objs.size := by simpa using hb
    have hle : s1.heap.objs.size ≤ b := by
      rcases e' with z | z
      · rw [z]; exact Nat.le_add_right _ _
      · rw [z]; exact Nat.le_refl _
    exact I1.fpOk hle (I1.hok.fresh hle)

/-! ### zip -/
def ItzB (j k : Bool) (K : PySem.W.Frag) (a b : Addr) : It :=
  ⟨fun i H => ∃ (xs ys : List V) (x y : V), SqB j K H a xs ∧ SqB k K H b ys ∧ xs[i]? = some x ∧ ys[i]? = some y,
    fun i H v H' => ∃ T x y, v = .ref T ∧ H T = none ∧ H' = upd H T (.tup [x, y]) ∧ (∀ xs, SqB j K H a xs → xs[i]? = some x) ∧ ∀ ys, SqB k K H b ys → ys[i]? = some y,
    fun i H => ∃ xs ys : List V, SqB j K H a xs ∧ SqB k K H b ys ∧ i ≤ xs.length ∧ i ≤ ys.length ∧ (i = xs.length ∨ i = ys.length)⟩
structure ZA (z TI TO i1 i2 a b : Addr) : Prop where
  s : ZipSep2 z TI TO i1 i2 [i1, a] [i2, b]
  a1 : a ≠ i1
  b2 : b ≠ i2
theorem nm2 {x a b : Addr} (h1 : x ≠ a) (h2 : x ≠ b) : x ∉ [a, b] := fun h => by
  rcases List.mem_cons.mp h with h | h
  · exact h1 h
  · exact h2 (List.mem_singleton.mp h)
theorem na {n j k : Nat} (h : j < k ∨ k < j) : n + j ≠ n + k := by omega
theorem nb {n k a : Nat} (h : a < n) : n + k ≠ a := by omega
theorem za_nat (n a b : Nat) (la : a < n) (lb : b < n) : ZA (n + 4) (n + 2) (n + 3) n (n + 1) a b :=
  ⟨⟨na (.inl (by decide)), na (.inl (by decide)), na (.inl (by decide)), na (k := 0) (.inr (by decide)), List.mem_cons_self, nm2 (na (k := 0) (.inr (by decide))) (nb la), nm2 (na (k := 0) (.inr (by decide))) (nb la), na (.inr (by decide)), List.mem_cons_self, nm2 (na (.inr (by decide))) (nb lb), nm2 (na (.inr (by decide))) (nb lb),
    nm2 (na (j := 0) (.inl (by decide))) (nb (k := 0) lb), nm2 (na (k := 0) (.inr (by decide))) (nb la)⟩, Ne.symm (nb (k := 0) la), Ne.symm (nb lb)⟩
theorem turn_zipB {P : Program} {w : World} {K : PySem.W.Frag} {elts : List Expr} {kk : Nat} {tpos : Pos} {j k : Bool} {a b z TI TO i1 i2 : Addr} (D : ZA z TI TO i1 i2 a b) :
    Turn P w K (.Tuple elts kk tpos) (ItzB j k K a b) [z, TI, TO, i1, i2] z (fun i h => IsZip h z TI TO .none ∧ IsTupOf2 h TI (.ref i1) (.ref i2) ∧ (∃ x y, IsTupOf2 h TO x y) ∧ IterB j h i1 a i ∧ IterB k h i2 b i) where
  mem := by simp
  obj := fun i h st c hc => by
    obtain ⟨hz, hTI, ⟨x, y, hTO⟩, h1, h2⟩ := st
    have e' : c = z ∨ c = TI ∨ c = TO ∨ c = i1 ∨ c = i2 := by simpa using hc
    rcases e' with q | q | q | q | q
    · rw [q]; exact ⟨_, hz, fun v q => nomatch q⟩
    · rw [q]; exact ⟨_, hTI, fun v q => nomatch q⟩
    · rw [q]; exact ⟨_, hTO, fun v q => nomatch q⟩
    · rw [q]; exact h1.obj
    · rw [q]; exact h2.obj
  keep := fun i h h' st q => by
    obtain ⟨hz, hTI, ⟨x, y, hTO⟩, h1, h2⟩ := st
    exact ⟨q z (by simp) _ hz, q TI (by simp) _ hTI, ⟨x, y, q TO (by simp) _ hTO⟩, h1.at_ fun o e => q i1 (by simp) o e, h2.at_ fun o e => q i2 (by simp) o e⟩
  item := by
    intro X hP hw hK hc i pins s σ H E I hf st hg
    subst hP hw hK
    obtain ⟨hz, hTI, ⟨x0, y0, hTO⟩, h1, h2⟩ := st
    obtain ⟨xs, ys, x, y, hqx, hqy, hx, hy⟩ := hg
    obtain ⟨its, rv, p, _⟩ := seqB I hqx
    obtain ⟨its2, rv2, p2, _⟩ := seqB I hqy
    obtain ⟨u, hu, ru⟩ := rv.get hx
    obtain ⟨u2, hu2, ru2⟩ := rv2.get hy
    have hzl : z < s.heap.objs.size := Heap.lt_size hz
    have l1 : i < its.toArray.size := by rw [List.size_toArray]; exact (List.getElem?_eq_some_iff.mp hu).1
    have l2 : i < its2.toArray.size := by rw [List.size_toArray]; exact (List.getElem?_eq_some_iff.mp hu2).1
    refine wpAny_pyNext_zipD2_item D.s (drawsB (A := X.A.in1) (I.ok.hd hc) i1 a D.a1 its.toArray j) (drawsB (A := X.A.in1) (I.ok.hd hc) i2 b D.b2 its2.toArray k) hz hTI hTO ⟨h1, p⟩ ⟨h2, p2⟩ l1 l2 fun v1 v2 h' tk g1 g2 z' TO' st1 st2 hT hsz hk => ?_
    have w1 : v1 = u := by
      have z : its.toArray[i]? = some v1 := g1
      rw [← Array.getElem?_toList] at z
      have z : its[i]? = some v1 := z
      rw [hu] at z; exact (Option.some.inj z).symm
    have w2 : v2 = u2 := by
      have z : its2.toArray[i]? = some v2 := g2
      rw [← Array.getElem?_toList] at z
      have z : its2[i]? = some v2 := z
      rw [hu2] at z; exact (Option.some.inj z).symm
    subst w1 w2
    refine ⟨_, rfl, wpAny_letOwnedTupleGo_zip (s := { s with heap := h', toks := tk }) z' fun h'' z'' sb => ?_⟩
    have hT2 : h''.get? s.heap.objs.size = some { cls := .type "tuple", data := .seq #[v1, v2] } := (sb.2 _ (Nat.ne_of_gt hzl)).trans hT
    have new : ObjOk X.prog X.w (upd H s.heap.objs.size (.tup [x, y])) h'' s.heap.objs.size (.tup [x, y]) :=
      ⟨by show 2 ≤ sizeLine; decide, [v1, v2], .cons ru (.cons ru2 .nil), ⟨_, hT2, rfl, _, rfl⟩⟩
    have I1 : Inv X pins σ (upd H s.heap.objs.size (.tup [x, y])) { s with heap := h'', toks := tk } :=
      I.turnedNew (t' := tk) (ch := [z, TI, TO, i1, i2]) (fun c o hb q => (sb.2 c (fun q' => hb (by simp [q']))).trans (hk c o (fun q' => hb (by simp [q'])) (fun q' => hb (by simp [q'])) (fun q' => hb (by simp [q'])) (fun q' => hb (by simp [q'])) q)) hf (Nat.le_refl _) new
    refine ⟨.ref s.heap.objs.size, _, I1, rfl, ⟨_, x, y, rfl, I.hok.fresh (Nat.le_refl _), rfl, fun l hl => by rw [injB I hl hqx]; exact hx, fun l hl => by rw [injB I hl hqy]; exact hy⟩, ⟨z'', ?_, ⟨v1, v2, ?_⟩, ?_, ?_⟩, fun c hcm => ?_⟩
    · exact (sb.2 _ D.s.TIz).trans (hk _ _ D.s.TIz D.s.TITO D.s.TIi1 D.s.TIi2 hTI)
    · exact (sb.2 _ D.s.TOz).trans TO'
    · exact st1.1.at_ fun o q => (sb.2 _ (Ne.symm D.s.zi1)).trans q
    · exact st2.1.at_ fun o q => (sb.2 _ (Ne.symm D.s.zi2)).trans q
    · have hlt : c < s.heap.objs.size := by
        have e' : c = z ∨ c = TI ∨ c = TO ∨ c = i1 ∨ c = i2 := by simpa using hcm
        rcases e' with q | q | q | q | q
        · rw [q]; exact hzl
        · rw [q]; exact Heap.lt_size hTI
        · rw [q]; exact Heap.lt_size hTO
        · rw [q]; obtain ⟨_, e1, _⟩ := h1.obj; exact Heap.lt_size e1
        · rw [q]; obtain ⟨_, e2, _⟩ := h2.obj; exact Heap.lt_size e2
      rw [upd_ne (Nat.ne_of_lt hlt)]
      exact (hf c hcm).1
  done := by
    intro X hP hw hK hc i pins s σ H E I hf st hg
    subst hP hw hK
    obtain ⟨hz, hTI, ⟨x0, y0, hTO⟩, h1, h2⟩ := st
    obtain ⟨xs, ys, hqx, hqy, hle1, hle2, hend⟩ := hg
    obtain ⟨its, rv, p, _⟩ := seqB I hqx
    obtain ⟨its2, rv2, p2, _⟩ := seqB I hqy
    have l1 := rv.length
    have l2 := rv2.length
    exact wpAny_pyNext_zipD2_end D.s (drawsB (A := X.A.in1) (I.ok.hd hc) i1 a D.a1 its.toArray j) (drawsB (A := X.A.in1) (I.ok.hd hc) i2 b D.b2 its2.toArray k) hz hTI hTO ⟨h1, p⟩ ⟨h2, p2⟩ (by rw [List.size_toArray]; omega) (by rw [List.size_toArray]; omega) (by rw [List.size_toArray, List.size_toArray]; omega) fun h' tk hk => ⟨rfl, I.turnedL (t' := tk) (ch := [z, TI, TO, i1, i2]) (fun c o hb q =>
      hk c o (fun q' => hb (by simp [q'])) (fun q' => hb (by simp [q'])) (fun q' => hb (by simp [q'])) (fun q' => hb (by simp [q'])) q) hf⟩
  self := fun A i s Q E st h => wpAny_pyIter_zip st.1 h
def iZipB (K : PySem.W.Frag) (ta : TA) : TI := fun σ H R => ta σ H fun vs H1 => ∃ j k a b xs ys, vs = [.ref a, .ref b] ∧ SqB j K H1 a xs ∧ SqB k K H1 b ys ∧ R (ItzB j k K a b) H1
theorem pi_zipB {X : Cx} {e e2 : Expr} {ta : TA} {p pos tpos : Pos} {elts : List Expr} {kk : Nat} (hg : Gl X "zip") (hm : X.mg "zip" = none) (ha : PA X [e, e2] ta)
    (hs : starEach [e, e2] X.env = (false, eval e X.env) :: starEach [e2] X.env := by rfl) (hpl : (backTo pos (starEach [e2] X.env)).any (·.1) = false := by rfl) :
    PI X (.Tuple elts kk tpos) (.Call (.Name "zip" p) [e, e2] [] pos) (iZipB X.K ta) := by
  refine ⟨fun pins s σ H R I h => ?_⟩
  refine Call_ (ld_blt I hg hm PyProof.Rows.boot_zip (PyProof.Rows.callWith_type1 (thn (ha.run pos pins s σ H _ I h) fun us s1 ⟨vs, H1, I1, r1, q1⟩ => ?_) hs hpl))
  obtain ⟨j, k, a, b, xs, ys, ex, hqx, hqy, q⟩ := q1
  subst ex
  cases r1 with
  | cons r rr =>
    cases rr with
    | cons r' rr =>
      cases rr
      cases r
      cases r'
      obtain ⟨its, rv, p1, la⟩ := seqB I1 hqx
      obtain ⟨its2, rv2, p2, lb⟩ := seqB I1 hqy
      refine zip_begins2 (beginsB a its.toArray j) (beginsB b its2.toArray k) p1 p2 fun h' hz hTI hTO h1 h2 hsz hk => wpAny_pyIter_zip hz ?_
      have I2 : Inv X pins σ H1 { s1 with heap := h' } := I1.kept (t' := s1.toks) hk
      have za := za_nat s1.heap.objs.size a b la lb
      refine ⟨s1.heap.objs.size + 4, [s1.heap.objs.size + 4, s1.heap.objs.size + 2, s1.heap.objs.size + 3, s1.heap.objs.size, s1.heap.objs.size + 1], _, _, H1, rfl, I2, turn_zipB za, ⟨hz, hTI, ⟨_, _, hTO⟩, iter0 h1, iter0 h2⟩, fun c hcm => ?_, q⟩
      have e' : c = s1.heap.objs.size + 4 ∨ c = s1.heap.objs.size + 2 ∨ c = s1.heap.objs.size + 3 ∨ c = s1.heap.objs.size ∨ c = s1.heap.objs.size + 1 := by simpa using hcm
      have hle : s1.heap.objs.size ≤ c := by
        rcases e' with z | z | z | z | z <;> rw [z] <;> omega
      exact I1.fpOk hle (I1.hok.fresh hle)
end
end MP

/-! A17: what is walked: enumerate, zip. -/
namespace MP
open PySem PySem.Spec L2
open PyProof.Rows hiding St intKind ItemsAre

section
variable {K : PySem.W.Frag} {H0 : Hp} {B F : Addr → Prop} {σ : St} {H Hs : Hp} {e : En}
theorem seq_atB (R : Rel K H0 B F σ H e) {v : V} {x : Op} {d : PyData} {xs : List PyData} (O : OpRel K F H σ e Hs v x) (h1 : vw e x = some d) (h2 : seqD d = some xs) :
    ∃ k a vs Z, v = .ref a ∧ PinZ F H σ e (owns e [x]) Z ∧ DAll K F H vs xs ∧ ∀ F' H', Keep F H F' H' → (∀ b o, Z b = some o → H' b = some o) → SqB k K H' a vs := by
  obtain ⟨a, vs, Z, e1, pz, da, hs⟩ := seq_at R O h1 h2
  rcases hs with hs | hs
  · exact ⟨true, a, vs, Z, e1, pz, da, hs⟩
  · exact ⟨false, a, vs, Z, e1, pz, da, hs⟩
theorem walk_enumB {k : Bool} {a : Addr} {vs : List V} {xs : List PyData} {Z : Hp} {F0 : Addr → Prop} {H0 : Hp} (d : DAll K F0 H0 vs xs) (hs : ∀ F' H', Keep F0 H0 F' H' → (∀ b o, Z b = some o → H' b = some o) → SqB k K H' a vs) :
    WalkOf K (IteB k K a) Z F0 H0 ((xs.zipIdx).map fun p => .tuple [.int p.2, p.1]) where
  go := fun i F H hi kp dm hz => by
    have hi : i < xs.length := by simpa using hi
    have q := hs F H kp hz
    have hv : i < vs.length := by rw [d.length]; exact hi
    obtain ⟨dd, h1, h2⟩ := d.getV (List.getElem?_eq_getElem hv)
    refine ⟨⟨vs, _, q, List.getElem?_eq_getElem hv⟩, fun x H' y => ?_⟩
    obtain ⟨T, x, rfl, hT, rfl, hx⟩ := y
    have hx := hx vs q
    rw [List.getElem?_eq_getElem hv] at hx; cases hx
    refine ⟨fun a => F a ∨ a = T, .tuple [.int i, dd], Grow.one dm hT _, ?_, .tup (.inr rfl) upd_same (.cons (.int _) (.cons ((h2.keep kp).keep (keep_one hT)) .nil))⟩
    simp [List.getElem?_map, List.getElem?_zipIdx, h1]
  stop := fun F H kp hz => ⟨vs, hs F H kp hz, by rw [d.length]; simp⟩
theorem walk_zipB {j k : Bool} {a b : Addr} {vs ws : List V} {xs ys : List PyData} {Z : Hp} {F0 : Addr → Prop} {H0 : Hp} (d : DAll K F0 H0 vs xs) (d' : DAll K F0 H0 ws ys) (hs : ∀ F' H', Keep F0 H0 F' H' → (∀ b o, Z b = some o → H' b = some o) → SqB j K H' a vs)
    (hs' : ∀ F' H', Keep F0 H0 F' H' → (∀ b o, Z b = some o → H' b = some o) → SqB k K H' b ws) : WalkOf K (ItzB j k K a b) Z F0 H0 ((xs.zip ys).map fun p => .tuple [p.1, p.2]) where
  go := fun i F H hi kp dm hz => by
    have hi : i < xs.length ∧ i < ys.length := by simpa [Nat.lt_min] using hi
    have q := hs F H kp hz
    have q' := hs' F H kp hz
    have hv : i < vs.length := by rw [d.length]; exact hi.1
    have hw : i < ws.length := by rw [d'.length]; exact hi.2
    obtain ⟨dd, h1, h2⟩ := d.getV (List.getElem?_eq_getElem hv)
    obtain ⟨de, h3, h4⟩ := d'.getV (List.getElem?_eq_getElem hw)
    refine ⟨⟨vs, ws, _, _, q, q', List.getElem?_eq_getElem hv, List.getElem?_eq_getElem hw⟩, fun x H' y => ?_⟩
    obtain ⟨T, x, y, rfl, hT, rfl, hx, hy⟩ := y
    have hx := hx vs q
    have hy := hy ws q'
    rw [List.getElem?_eq_getElem hv] at hx; cases hx
    rw [List.getElem?_eq_getElem hw] at hy; cases hy
    refine ⟨fun a => F a ∨ a = T, .tuple [dd, de], Grow.one dm hT _, ?_, .tup (.inr rfl) upd_same (.cons ((h2.keep kp).keep (keep_one hT)) (.cons ((h4.keep kp).keep (keep_one hT)) .nil))⟩
    simp [List.getElem?_map, List.getElem?_zip_eq_some, List.zip, List.getElem?_zipWith, h1, h3]
  stop := fun F H kp hz => ⟨vs, ws, hs F H kp hz, hs' F H kp hz, by rw [d.length]; simp; omega, by rw [d'.length]; simp; omega, by rw [d.length, d'.length]; simp; omega⟩
theorem owns_two {e : En} {x y : Op} : owns e [x, y] = owns e [x] ++ owns e [y] := by
  cases x <;> cases y <;> simp [owns]
theorem pz_two {x y : Op} {Z1 Z2 : Hp} (p1 : PinZ F H σ e (owns e [x]) Z1) (p2 : PinZ F H σ e (owns e [y]) Z2) (nd : (owns e [x, y]).Nodup) : PinZ F H σ e (owns e [x, y]) (fun a => match Z1 a with | some o => some o | none => Z2 a) where
  at_ := fun a o h => by
    rw [owns_two]
    cases q : Z1 a with
    | some o' =>
      rw [q] at h; cases h
      obtain ⟨h1, h2, h3⟩ := p1.at_ a o q
      exact ⟨h1, h2, fun i c hi hs => List.mem_append_left _ (h3 i c hi hs)⟩
    | none =>
      rw [q] at h
      obtain ⟨h1, h2, h3⟩ := p2.at_ a o h
      exact ⟨h1, h2, fun i c hi hs => List.mem_append_right _ (h3 i c hi hs)⟩
  all := fun i hi => by
    rw [owns_two] at hi
    rcases List.mem_append.mp hi with hi | hi
    · obtain ⟨c, a, h1, h2, o, h3, h4⟩ := p1.all i hi
      exact ⟨c, a, h1, h2, o, by show (match Z1 a with | some o => some o | none => Z2 a) = some o; rw [h3], h4⟩
    · obtain ⟨c, a, h1, h2, o, h3, h4⟩ := p2.all i hi
      refine ⟨c, a, h1, h2, o, ?_, h4⟩
      show (match Z1 a with | some o => some o | none => Z2 a) = some o
      cases q : Z1 a with
      | none => exact h3
      | some o' =>
        have e1 := (p1.at_ a o' q).1
        rw [(p2.at_ a o h3).1] at e1
        exact congrArg some (Option.some.inj e1).symm
  nd := nd
end
section
variable {X : Cx} {a b : Expr} {fa fb : CE} {p pos tpos : Pos} {elts : List Expr} {kk : Nat}
theorem di_enum (hg : Gl X "enumerate") (hm : X.mg "enumerate" = none) (ha : Den X a fa) (hs : starEach [a] X.env = [(false, eval a X.env)] := by rfl) : DenI X (.Tuple elts kk tpos) (.Call (.Name "enumerate" p) [a] [] pos) (iEnum fa) := PI.mono (pi_enumB hg hm (da_cons ha da_nil hs) hs) fun σ H R q => by
  obtain ⟨H0, B, F, e, xs, wk, e', R0, he, k⟩ := q
  obtain ⟨⟨x, e1⟩, h1, he⟩ := bind_some he
  obtain ⟨d, h2, he⟩ := bind_some he
  obtain ⟨ys, h3, he⟩ := bind_some he
  cases he
  refine ⟨H0, B, F, e, [x], e', R0, by simp [aCons, aNil, h1], fun F1 H1 vs R1 S1 O1 N1 => ?_⟩
  match vs, O1 with
  | [v], ⟨O1, _⟩ =>
    obtain ⟨kb, a, ws, Z, rfl, pz, da, hs⟩ := seq_atB R1 O1 h2 h3
    exact ⟨kb, a, ws, rfl, hs F1 H1 (.refl _ _) fun b o h => (pz.at_ b o h).1, k F1 H1 _ Z R1 S1 pz (walk_enumB da hs)⟩
theorem di_zip (hg : Gl X "zip") (hm : X.mg "zip" = none) (ha : Den X a fa) (hb : Den X b fb) (hs : starEach [a, b] X.env = (false, eval a X.env) :: starEach [b] X.env := by rfl) (hs2 : starEach [b] X.env = (false, eval b X.env) :: starEach [] X.env := by rfl) (hpl : (backTo pos (starEach [b] X.env)).any (·.1) = false := by rfl) :
    DenI X (.Tuple elts kk tpos) (.Call (.Name "zip" p) [a, b] [] pos) (iZip fa fb) := PI.mono (pi_zipB hg hm (da_cons ha (da_cons hb da_nil hs2) hs) hs hpl) fun σ H R q => by
  obtain ⟨H0, B, F, e, xs, wk, e', R0, he, k⟩ := q
  obtain ⟨⟨x, e1⟩, h1, he⟩ := bind_some he
  obtain ⟨⟨y, e2⟩, h2, he⟩ := bind_some he
  obtain ⟨d, h3, he⟩ := bind_some he
  obtain ⟨us, h4, he⟩ := bind_some he
  obtain ⟨d', h5, he⟩ := bind_some he
  obtain ⟨ws, h6, he⟩ := bind_some he
  split at he
  rotate_left
  · cases he
  rename_i nd
  cases he
  refine ⟨H0, B, F, e, [x, y], e', R0, by simp [aCons, aNil, h1, h2], fun F1 H1 vs R1 S1 O1 N1 => ?_⟩
  match vs, O1 with
  | [v, w], ⟨O1, O2, _⟩ =>
    obtain ⟨k1, a, vs, Z1, rfl, p1, d1, hs1⟩ := seq_atB R1 O1 h3 h4
    obtain ⟨k2, b, ws, Z2, rfl, p2, d2, hs2⟩ := seq_atB R1 O2 h5 h6
    have z1 : ∀ {H' : Hp}, (∀ b o, (match Z1 b with | some o => some o | none => Z2 b) = some o → H' b = some o) → ∀ b o, Z1 b = some o → H' b = some o := fun h b o hb => h b o (by rw [hb])
    have z2 : ∀ {H' : Hp}, (∀ b o, (match Z1 b with | some o => some o | none => Z2 b) = some o → H' b = some o) → ∀ b o, Z2 b = some o → H' b = some o := fun {H'} h b o hb => by
      cases q : Z1 b with
      | none => exact h b o (by rw [q]; exact hb)
      | some o' =>
        have e1 := (p1.at_ b o' q).1
        rw [(p2.at_ b o hb).1] at e1
        cases e1
        exact h b o (by rw [q])
    exact ⟨k1, k2, a, b, vs, ws, rfl, hs1 F1 H1 (.refl _ _) (fun b o h => (p1.at_ b o h).1), hs2 F1 H1 (.refl _ _) (fun b o h => (p2.at_ b o h).1),
      k F1 H1 _ _ R1 S1 (pz_two p1 p2 nd) (walk_zipB d1 d2 (fun F' H' kp h => hs1 F' H' kp (z1 h)) fun F' H' kp h => hs2 F' H' kp (z2 h))⟩
end
end MP

/-! A18: sorted by a key that a def of the module gives. -/
namespace MP
open PySem PySem.Spec L2
open PyProof.Rows hiding St intKind ItemsAre
open PySem.W (alike AllAlike Sortable EachIs dataLe KeyedOut dataKind SortsAt)

/-- the same body, deeper, where nothing may be raised -/
abbrev deep (X : Cx) (A : Around) : Cx := { X with A := A, xe := fun _ _ => False }
section
variable {X : Cx} {pins : List (Addr × Obj)} {σ : St} {H : Hp} {s : Shared}
theorem ok_deep (o : X.Ok) {A : Around} (h1 : A.handled = X.A.handled) (h2 : A.frames = X.A.frames) : (deep X A).Ok :=
  ⟨o.mod, o.kind, o.glob, o.blt, o.above, o.inj, o.has, o.cab, fun h => h1.trans (o.hd h), h2.trans o.frames, o.stk, o.exf, o.bs, o.bsz, o.noex, o.exfs, o.funs, o.frf⟩
theorem inv_deep (I : Inv X pins σ H s) {A : Around} (h1 : A.handled = X.A.handled) (h2 : A.frames = X.A.frames) : Inv (deep X A) pins σ H s :=
  ⟨ok_deep I.ok h1 h2, I.os, I.bare, I.base, I.loc, I.cell, I.free, I.freeC, I.pin, I.hok, I.len⟩
theorem inv_back {A : Around} (o : X.Ok) (I : Inv (deep X A) pins σ H s) : Inv X pins σ H s :=
  ⟨o, I.os, I.bare, I.base, I.loc, I.cell, I.free, I.freeC, I.pin, I.hok, I.len⟩
/-- a call of the key's def -/
theorem key_call {k : Nat} {f : Addr} {fd : FuncData} {ps : List Str} {fn : List Sl → Option (Rv × List Sl)} (FO : FnOk X.prog X.w X.K X.mg X.base CX0 k f fd ps (spF X.K fn)) (hb : Binds X.K fd ps []) (hr : Room k X.A) (I : Inv X pins σ H s) {F : Addr → Prop} (dm : DomF F H) {w : V} {u : Value} {d kd : PyData} {ps' : List Sl}
    (ru : RelV w u) (hd : DV X.K F H w d) (hf : fn [.d d] = some (.v kd, ps')) : wpAny (model X.prog X.w) X.A (call (.ref f) [u]) (EP X pins σ fun v H' => ∃ F', Grow F H F' H' ∧ DV X.K F' H' v kd) X.xe s := by
  refine run_fn (E := E0) (dvs := []) FO hr hb .nil pass0 I (.cons ru .nil) ?_
  refine ⟨F, [.d d], _, _, ⟨rfl, dm, fun i x h => ?_, fun i c h => ?_, fun i c h => ?_, fun i j a c c' h => ?_, fun a o h _ => h, dm⟩, hf, fun F' H' v P => ?_⟩
  · match i, h with
    | 0, h =>
      have : x = d := by rcases h with h | h <;> simp at h; exact h.symm
      subst this
      exact ⟨w, rfl, hd⟩
    | i + 1, h => rcases h with h | h <;> simp at h
  · match i, h with
    | 0, h => simp at h
    | i + 1, h => simp at h
  · match i, h with
    | 0, h => simp at h
    | i + 1, h => simp at h
  · match i, h with
    | 0, h => rcases h with h | h <;> simp at h
    | i + 1, h => rcases h with h | h <;> simp at h
  · have no : ∀ a, ¬ Ow ([w].map some) [Sl.d d] a := fun a ⟨i, c, h, _⟩ => by
      match i, h with
      | 0, h => simp at h
      | i + 1, h => simp at h
    exact ⟨F', ⟨P.fr, fun a o h => P.rel.frame a o h (no a), fun a h => (P.new a h).elim .inl fun h => h.elim .inr fun h => (no a h).elim, P.rel.dom⟩, P.rv⟩
/-- a thing that is adopted: what stands at a, and at c, has changed -/
theorem inv_two {a c : Addr} {o1 : Obj} {h' : Heap} {t : Nat} {ws : List V} {its : List Value} {n : Nat} (I : Inv X pins σ H s) (ha : H a = some (.frz o1 (.lst []))) (hnz : ∀ o' u', X.H_0 a ≠ some (.frz o' u')) (fc : FpOk X pins H c) (hac : a ≠ c)
    (k : ∀ b o, b ≠ a → b ≠ c → s.heap.get? b = some o → h'.get? b = some o) (e : h'.get? a = some { cls := .type "list", data := .seq its.toArray n }) (rv : Vals ws its) (hz : ws.length ≤ sizeLine) :
    Inv X pins σ (upd H a (.lst ws)) { s with heap := h', toks := t } := by
  obtain ⟨f0, f1, f2, f3, f4, f5⟩ := fc
  have e1 : s.heap.get? a = some o1 := (I.hok a _ ha).1
  have fr1 : o1.isFreed = false := by
    obtain ⟨_, z⟩ := I.hok a _ ha
    obtain ⟨_, its1, n1, _, z⟩ := (show ObjOk X.prog X.w H s.heap a (.lst []) from z)
    rw [e1] at z; cases z
    exact Obj.isFreed_of_seq rfl
  have hm : (h'.update a fun _ => o1).get? a = some o1 := Heap.get?_update_self _ e fr1
  have I1 : Inv X pins σ H { s with heap := h'.update a fun _ => o1, toks := t } := I.turned (it := c) (fun b o hb q => by
    by_cases hba : b = a
    · subst hba
      rw [e1] at q; cases q
      exact hm
    · exact (Heap.get?_update_other _ _ (Ne.symm hba)).trans (k b o hba hb q)) f0 f1 f3 f4 f5
  have I2 := I1.unlock ha hnz
  have := I2.write (x := a) (e := a) (h' := h') (t' := t) (o := .lst ws) (by rw [upd_same]; trivial) (.inl rfl) (fun b u hb q => by
    rw [← q]; exact (Heap.get?_update_other _ _ (Ne.symm hb)).symm) ⟨_, e⟩ ⟨hz, its, n, rv, e⟩
  rw [upd_upd] at this
  exact this
end
def SortOk (kz : List PyData) : Prop := AllAlike kz ∧ Sortable kz ∧ (∀ d ∈ kz, d.depth ≤ 40 ∧ d.plain = true)
abbrev Trip := V × PyData × PyData
section
variable {X : Cx} {pins : List (Addr × Obj)} {σ : St}
theorem each_zip {α : Type} : ∀ {ws : List V} {vs : List Value} {l : List α}, Vals ws vs → l.length = ws.length → EachIs (fun (v : Value) (x : V × α) => RelV x.1 v) vs (ws.zip l)
  | _, _, l, .nil, h => by
    cases l with
    | nil => exact .nil
    | cons _ _ => cases h
  | _, _, l, .cons r t, h => by
    cases l with
    | nil => cases h
    | cons x l => exact .cons r (each_zip t (by simpa using h))
theorem heap_but (h : Heap) (c : Addr) : ∃ h1 : Heap, h1.get? c = none ∧ ∀ b, b ≠ c → h1.get? b = h.get? b := by
  obtain ⟨objs, l⟩ := h
  by_cases hc : c < objs.size
  · refine ⟨⟨objs.set c ⟨.none, none, .freed, #[]⟩ hc, l⟩, ?_, fun b hb => ?_⟩
    · simp [Heap.get?]
    · simp [Heap.get?, Array.getElem?_set, Ne.symm hb]
  · refine ⟨⟨objs, l⟩, ?_, fun b _ => rfl⟩
    simp [Heap.get?, Array.getElem?_eq_none (Nat.le_of_not_lt hc)]
theorem key_rest {A : Around} {k : Nat} {f : Addr} {fd : FuncData} {ps : List Str} {fn : List Sl → Option (Rv × List Sl)} (FO : FnOk X.prog X.w X.K X.mg X.base CX0 k f fd ps (spF X.K fn)) (hb : Binds X.K fd ps []) (hr : Room k A) {H : Hp} {s : Shared} {F : Addr → Prop} {a kS : Addr} {e1 : Nat} {b : Bool} {P : PySem.Fin → Shared → Prop} {E : Value → Shared → Prop} {ws : List V} {vs : List Value} {ds kz : List PyData}
    (I : Inv (deep X A) pins σ H s) (dm : DomF F H) (ha : H a = some (.frz (seqObj "list" #[] e1) (.lst []))) (hnz : ∀ o' u', X.H_0 a ≠ some (.frz o' u')) (hk : s.heap.get? kS = some (seqObj "list" #[] 0)) (fk : FpOk (deep X A) pins H kS) (hka : kS ≠ a)
    (rv : Vals ws vs) (hd : DAll X.K F H ws ds) (hl : kz.length = ds.length) (hf : ∀ (i : Nat) (d kd : PyData), ds[i]? = some d → kz[i]? = some kd → ∃ ps', fn [.d d] = some (.v kd, ps')) (ok : SortOk kz) (hZ : ds.length ≤ sizeLine)
    (h : ∀ F' H' s', Grow F H F' H' → Inv (deep X A) pins σ (upd H' a (.lst (((ws.zip (ds.zip kz)).mergeSort (dataLe b fun x : Trip => x.2.2)).map (·.1)))) s' → P (.done (.ret .none)) s') :
    wpAny (model X.prog X.w) A (ksk_rest a (.ref f) b vs.toArray e1 (.ref kS)) P E s := by
  have lv : vs.length = ds.length := by rw [← rv.length, hd.length]
  unfold ksk_rest
  refine wpAny_bind (wpAny_rule ?_)
  first
    | rw [List.forIn_toArray]
    | (rw [← Array.forIn_toList]; simp only [List.toList_toArray])
    | rw [← Array.forIn_toList]
  have fst : ∀ {H' : Hp}, H' kS = none → FpOk (deep X A) pins H' kS := fun {H'} z => ⟨z, fk.2⟩
  refine wpAny_bind (ksk_fold (fun i s' => ∃ F' H' kA e, Inv (deep X A) pins σ H' s' ∧ Grow F H F' H' ∧ s'.heap.get? kS = some (seqObj "list" kA e) ∧ H' kS = none ∧ EachIs (fun u d => ∃ w, RelV w u ∧ DV X.K F' H' w d) kA.toList (kz.take i)) vs 0 s
    ⟨F, H, #[], 0, I, Grow.refl dm, hk, fk.1, by rw [List.take_zero]; exact EachIs.nil⟩ ?step ?done)
  case step =>
    rintro j x s' hx ⟨F', H', kA, e, I', G, nk', kn, hks⟩
    simp only [Nat.zero_add] at hks ⊢
    have hj : j < vs.length := (List.getElem?_eq_some_iff.mp hx).1
    obtain ⟨kd, hkj⟩ : ∃ k, kz[j]? = some k := ⟨_, List.getElem?_eq_getElem (by omega)⟩
    obtain ⟨d, hdj⟩ : ∃ d, ds[j]? = some d := ⟨_, List.getElem?_eq_getElem (by omega)⟩
    obtain ⟨w, hw, dv⟩ := hd.get hdj
    obtain ⟨u, hu, ru⟩ := rv.get hw
    rw [hx] at hu; cases hu
    obtain ⟨ps', hfn⟩ := hf j d kd hdj hkj
    have hz : kA.size ≤ vs.length := by
      have h1 := hks.length
      rw [Array.length_toList, List.length_take] at h1
      omega
    have na' : H' a = some (.frz (seqObj "list" #[] e1) (.lst [])) := G.at_ a _ ha
    have I2 := I'.pinned (fp := [kS]) (fun b hb => by rw [List.mem_singleton.mp hb]; exact fst kn) fun b hb => by rw [List.mem_singleton.mp hb]; exact ⟨_, nk', fun v z => nomatch z⟩
    have run := key_call (X := deep X A) FO hb hr I2 G.dom ru (dv.keep G.keep) hfn
    refine wpAny_bind (wpAny_attempt (wpAny_mono run (fun v s'' he => ?_) fun _ _ hF => hF.elim))
    obtain ⟨w2, H2, I3, r2, F2, G2, dv2⟩ := he
    have I4 := I3.unpinned
    obtain ⟨pk, pn, _⟩ := I3.pin (kS, seqObj "list" kA e) (List.mem_append_right _ (List.mem_append_right _ (mem_pinsAt (List.mem_singleton.mpr rfl) nk')))
    try dsimp only at pk pn ⊢
    have s1 := Heap.SameBut.update s''.heap kS (Obj.mapSeq (·.push v))
    obtain ⟨c2, hc2⟩ : ∃ c2, (s''.heap.update kS (Obj.mapSeq (·.push v))).get? kS = some (seqObj "list" (kA.push v) c2) := ⟨_, get?_update_seq pk (·.push v)⟩
    have hzz : vs.length ≤ sizeLine := by omega
    refine wpAny_bind (listUpdate_at pk rfl ?_ (Nat.le_trans hz hzz) (Nat.le_trans (Nat.le_of_eq (Array.size_push ..)) (Nat.succ_le_succ (Nat.le_trans hz hzz))))
    obtain ⟨f0, f1, f2, f3, f4, f5⟩ := fst pn
    have I5 := I4.turned (t' := s''.toks) (it := kS) (fun b o hb e => (s1.2 b hb).trans e) f0 f1 f3 f4 f5
    have ek : kz.take (j + 1) = kz.take j ++ [kd] := by rw [List.take_add_one, hkj]; simp
    have ea : (kA.push v).toList = kA.toList ++ [v] := by simp
    refine wpAny_pure ⟨rfl, F2, H2, kA.push v, c2, I5, G.trans G2, hc2, pn, ?_⟩
    rw [ea, ek]
    exact PySem.W.each_snoc (R := fun u d => ∃ w, RelV w u ∧ DV X.K F2 H2 w d) ⟨w2, r2, dv2⟩ (hks.mono fun u d ⟨w, q1, q2⟩ => ⟨w, q1, q2.keep G2.keep⟩)
  case done =>
    rintro s' ⟨F', H', kA, e, I', G, nk', kn, hks⟩
    have e3 : kz.take (0 + vs.length) = kz := List.take_of_length_le (by omega)
    rw [e3] at hks
    have hsz : kA.size = vs.length := by
      have h1 := hks.length
      rw [Array.length_toList] at h1
      omega
    obtain ⟨o1, o2, o3⟩ := ok
    have hk' : EachIs (fun v k => ∃ as, Reads s'.heap v k as) kA.toList kz := by
      have : ∀ {us : List Value} {ks : List PyData}, EachIs (fun u d => ∃ w, RelV w u ∧ DV X.K F' H' w d) us ks → (∀ d ∈ ks, d.plain = true) → EachIs (fun v k => ∃ as, Reads s'.heap v k as) us ks := fun {us ks} z => by
        induction z with
        | nil => intro _; exact .nil
        | cons q _ ih =>
          intro hp
          obtain ⟨w, q1, q2⟩ := q
          exact .cons (Dp.reads I' _ _ _ (q2.dp (hp _ List.mem_cons_self)) q1) (ih fun d hd => hp d (List.mem_cons_of_mem _ hd))
      exact this hks fun d hd => (o3 d hd).2
    have na' : H' a = some (.frz (seqObj "list" #[] e1) (.lst [])) := G.at_ a _ ha
    have na : s'.heap.get? a = some (seqObj "list" #[] e1) := (I'.hok a _ na').1
    refine wpAny_bind (listItems_at nk' rfl ?_)
    obtain ⟨h1, hc1, hc2⟩ := heap_but s'.heap kS
    have room := hr.units
    refine PySem.W.keyH_end (κ := dataKind s'.heap kz) (h₁ := h1) (vs := vs) (fun b o hb q => ?_) hc1 nk' na hka (SortsAt.data (s := s') hk' o1 o2 fun d hd => by have := (o3 d hd).1; omega) hsz (by omega) fun h3 tk3 c k3 n3 => ?_
    · have hbk : b ≠ kS := fun z => by rw [z, hc1] at q; cases q
      rw [hc2 b hbk] at q; exact q
    · have bs : EachIs (fun (v : Value) (x : Trip) => RelV x.1 v) vs (ws.zip (ds.zip kz)) := by
        exact each_zip rv (by rw [List.length_zip, hl, Nat.min_self]; exact hd.length.symm)
      have hmap : (ws.zip (ds.zip kz)).map (fun x : Trip => x.2.2) = kz := by
        have e1 : (fun x : Trip => x.2.2) = (fun p : PyData × PyData => p.2) ∘ (fun x : Trip => x.2) := rfl
        have e2 : (ws.zip (ds.zip kz)).map (fun x : Trip => x.2) = ds.zip kz := List.map_snd_zip (by rw [List.length_zip, hl, Nat.min_self, hd.length]; exact Nat.le_refl _)
        rw [e1, ← List.map_map, e2]
        exact List.map_snd_zip (by rw [hl]; exact Nat.le_refl _)
      have ko : KeyedOut b ((ws.zip (ds.zip kz)).map fun x : Trip => x.2.2) vs (PySem.W.sortVals (dataKind s'.heap kz) b kA.toList vs) := by
        rw [hmap]
        exact ⟨s'.heap, kA.toList, o1, rfl, hk'⟩
      have out := PySem.W.keyedOut_each (fun x : Trip => x.2.2) ko bs
      have rvo : Vals (((ws.zip (ds.zip kz)).mergeSort (dataLe b fun x : Trip => x.2.2)).map (·.1)) (PySem.W.sortVals (dataKind s'.heap kz) b kA.toList vs) := by
        generalize (ws.zip (ds.zip kz)).mergeSort (dataLe b fun x : Trip => x.2.2) = l at out
        generalize PySem.W.sortVals (dataKind s'.heap kz) b kA.toList vs = m at out
        induction out with
        | nil => exact .nil
        | cons q _ ih => exact .cons q ih
      refine h F' H' _ G (inv_two I' na' hnz (fst kn) (Ne.symm hka) (fun b o hb hb2 q => k3 b o hb (by rw [hc2 b hb2]; exact q)) n3 rvo ?_)
      rw [List.length_map, List.length_mergeSort, List.length_zip]
      have := hd.length
      omega
/-- list.sort(key=f[, reverse=b]) of a new list -/
theorem key_sort {k : Nat} {f : Addr} {fd : FuncData} {ps : List Str} {fn : List Sl → Option (Rv × List Sl)} (FO : FnOk X.prog X.w X.K X.mg X.base CX0 k f fd ps (spF X.K fn)) (hb : Binds X.K fd ps []) (hr : Room (k + 2) X.A) {H : Hp} {s : Shared} {F : Addr → Prop} {b : Bool} {Q : VK} {ws : List V} {vs : List Value} {ds kz : List PyData} {a : Addr} {hp : Heap} {tk : Nat} {E' : Value → Shared → Prop}
    (I : Inv X pins σ H s) (dm : DomF F H) (rv : Vals ws vs) (hd : DAll X.K F H ws ds) (hl : kz.length = ds.length) (hf : ∀ (i : Nat) (d kd : PyData), ds[i]? = some d → kz[i]? = some kd → ∃ ps', fn [.d d] = some (.v kd, ps')) (ok : SortOk kz) (hZ : ds.length ≤ sizeLine)
    (hL : hp.get? a = some (seqObj "list" vs.toArray 0)) (la : s.heap.objs.size ≤ a) (old0 : ∀ b o, s.heap.get? b = some o → hp.get? b = some o)
    (h : ∀ F' H' a, Grow F H F' H' → H' a ≠ none → H a = none → ¬ F' a → Q (.ref a) (upd H' a (.lst (((ws.zip (ds.zip kz)).mergeSort (dataLe b fun x : Trip => x.2.2)).map (·.1))))) :
    wpAny (model X.prog X.w) X.A.in1.in1 (ksk_tree a (.ref f) b) (fun f' s' => f' = .done (.ret .none) ∧ EP X pins σ Q (.ref a) s') E' { s with heap := hp, toks := tk } := by
  have lv : vs.length = ds.length := by rw [← rv.length, hd.length]
  have ltA : a < hp.objs.size := Heap.lt_size hL
  obtain ⟨e1, ho1⟩ : ∃ e1, (hp.update a (Obj.mapSeq fun _ => (#[] : Array Value))).get? a = some (seqObj "list" #[] e1) := ⟨_, get?_update_seq hL fun _ => #[]⟩
  have Id : Inv (deep X X.A.in1.in1) pins σ H s := inv_deep I rfl rfl
  have hkS : ((hp.update a (Obj.mapSeq fun _ => (#[] : Array Value))).push (seqObj "tuple" vs.toArray 0)).objs.size = hp.objs.size + 1 := by rw [size_push', Heap.size_update]
  unfold ksk_tree
  refine wpAny_bind (listItems_at hL rfl ?_)
  refine wpAny_bind (listUpdate_at hL rfl ?_ (by rw [List.size_toArray]; omega) (Nat.zero_le _))
  refine wpAny_bind (seqEpoch_at ho1 rfl ?_)
  refine wpAny_bind (wpAny_newTuple ?_ (by show vs.length ≤ _; omega))
  refine wpAny_bind (wpAny_newList ?_ (Nat.zero_le _))
  refine wpAny_holding ?_
  -- what is kept
  have nea : ∀ b o, s.heap.get? b = some o → a ≠ b := fun b o q => Nat.ne_of_gt (Nat.lt_of_lt_of_le (Heap.lt_size q) la)
  have ku : ∀ b o, s.heap.get? b = some o → (((hp.update a (Obj.mapSeq fun _ => (#[] : Array Value))).push (seqObj "tuple" vs.toArray 0)).push (seqObj "list" #[] 0)).get? b = some o := fun b o q =>
    Heap.get?_push_of_some _ (Heap.get?_push_of_some _ ((Heap.get?_update_other _ _ (nea b o q)).trans (old0 b o q)))
  have na : (((hp.update a (Obj.mapSeq fun _ => (#[] : Array Value))).push (seqObj "tuple" vs.toArray 0)).push (seqObj "list" #[] 0)).get? a = some (seqObj "list" #[] e1) := Heap.get?_push_of_some _ (Heap.get?_push_of_some _ ho1)
  have fra : H a = none := I.hok.fresh la
  have I1 : Inv (deep X X.A.in1.in1) pins σ (upd H a (.lst [])) { s with heap := (((hp.update a (Obj.mapSeq fun _ => (#[] : Array Value))).push (seqObj "tuple" vs.toArray 0)).push (seqObj "list" #[] 0)), toks := tk } :=
    Id.laid (t' := tk) ku la ⟨Nat.zero_le _, [], e1, .nil, na⟩
  have hnz := I1.nofrz upd_same trivial
  obtain ⟨od, I2⟩ := I1.lock (d := a) upd_same trivial
  rw [upd_upd] at I2
  have hod : od = seqObj "list" #[] e1 := by
    have := (I2.hok _ _ upd_same).1
    have z : some (seqObj "list" #[] e1) = some od := na.symm.trans this
    exact (Option.some.inj z).symm
  subst hod
  have kp : Keep F H F (upd H a (.frz (seqObj "list" #[] e1) (.lst []))) := keep_upd fra
  have G0 : Grow F H F (upd H a (.frz (seqObj "list" #[] e1) (.lst []))) := Grow.own dm fra _
  have lek : s.heap.objs.size ≤ hp.objs.size + 1 := Nat.le_trans la (Nat.le_trans (Nat.le_of_lt ltA) (Nat.le_succ _))
  have frk : ∀ o, upd H a o (((hp.update a (Obj.mapSeq fun _ => (#[] : Array Value))).push (seqObj "tuple" vs.toArray 0)).objs.size) = none := fun o => by
    rw [hkS, upd_ne (Nat.ne_of_gt (Nat.lt_succ_of_lt ltA))]
    exact I.hok.fresh lek
  have fpk : FpOk (deep X X.A.in1.in1) pins (upd H a (.frz (seqObj "list" #[] e1) (.lst []))) (((hp.update a (Obj.mapSeq fun _ => (#[] : Array Value))).push (seqObj "tuple" vs.toArray 0)).objs.size) :=
    Id.fpOk (by rw [hkS]; exact lek) (frk _)
  refine key_rest (X := X) (A := X.A.in1.in1) FO hb hr.in1.in1 I2 G0.dom upd_same hnz (Heap.get?_push_size _ rfl) fpk (by rw [hkS]; exact Nat.ne_of_gt (Nat.lt_succ_of_lt ltA)) rv (hd.keep kp) hl hf ok hZ fun F' H' s' G I3 => ⟨rfl, ?_⟩
  refine ⟨.ref a, _, inv_back I.ok I3, rfl, h F' H' _ (G0.trans G) ?_ fra fun z => ?_⟩
  · rw [G.at_ _ _ upd_same]; exact fun z => nomatch z
  · rcases G.new _ z with z | z
    · exact dm _ z fra
    · rw [upd_same] at z; cases z
/-- what sorted collects from: a list, or the keys of a dict -/
def Coll (X : Cx) (s : Shared) (v : Value) (vs : List Value) : Prop := ∀ (A : Around) (Q : List Value → Shared → Prop) (E : Value → Shared → Prop), A.handled = none →
  (∀ (h' : Heap) (tk : Nat), (∀ b o, s.heap.get? b = some o → h'.get? b = some o) → s.heap.objs.size ≤ h'.objs.size → Q vs { s with heap := h', toks := tk }) → wpAny (model X.prog X.w) A (collect v) Q E s
theorem coll_list {s : Shared} {l : Addr} {vs : List Value} (hl : s.heap.IsList l vs.toArray) (hz : vs.length ≤ sizeLine) : Coll X s (.ref l) vs := fun A Q E _ h => by
  refine collect_list hl ?_ hz
  refine h _ _ (fun b o q => ?_) ?_
  · exact (Heap.get?_update_other _ _ (Nat.ne_of_gt (Heap.lt_size q))).trans (Heap.get?_push_of_some _ q)
  · rw [Heap.size_update, size_push']; exact Nat.le_succ _
theorem coll_kdl {s : Shared} {T : String} {r d : Addr} {n : Nat} {P : Nat → Value → Prop} {OK : Heap → Prop} {vs : List Value} (K : PySem.W.KdlSrc X.prog X.w T r d n P OK) (hok : OK s.heap) (hn : n ≤ sizeLine) (hv : ∀ acc : Array Value, ItemsOf P acc n → acc.toList = vs) : Coll X s (.ref r) vs := fun A Q E hh h => by
  obtain ⟨l1, l2⟩ := K.there _ hok
  unfold collect
  refine wpAny_bind (wpAny_runValue (codeAny_builtin PySem.F.entry_proto_collect ?_))
  rw [Around.under_plainId PySem.F.plain_proto_collect _]
  show wpAny _ A.in1 (newList [] >>= fun l => again (.builtin "list.__iadd__" ⟨[l, .ref r], []⟩)) _ _ s
  refine wpAny_bind (wpAny_newObj_type ?_)
  refine wpAny_pure ⟨plainId_quiet PySem.F.plain_list_iadd _, codeAny_builtin PySem.F.entry_list_iadd ?_⟩
  rw [Around.under_plainId PySem.F.plain_list_iadd _]
  show wpAny _ A.in1 (Builtin.List.listExtendWith (.ref s.heap.objs.size) (.ref r) (.ref s.heap.objs.size)) _ _ _
  have hS : (s.heap.push { cls := .type "list", data := .seq ([] : List Value).toArray }).get? s.heap.objs.size = some { cls := .type "list", data := .seq #[] 0 } := Heap.get?_push_size _ rfl
  refine wpAny_mono (PySem.W.kdl_extend (A := A) (R := fun rr s' => rr = .ok (.ret (.ref s.heap.objs.size)) ∧ ∃ (h' : Heap) (tk : Nat) (acc : Array Value) (c' : Nat), s' = { s with heap := h', toks := tk } ∧
      (∀ b o, s.heap.get? b = some o → h'.get? b = some o) ∧ h'.get? s.heap.objs.size = some { cls := .type "list", dict := none, data := .seq acc c', slots := #[] } ∧ ItemsOf P acc n)
    (s := { s with heap := s.heap.push { cls := .type "list", data := .seq ([] : List Value).toArray } }) K hh (K.keep _ _ hok fun b _ o e => Heap.get?_push_of_some _ e) _ (Nat.ne_of_gt l1) (Nat.ne_of_gt l2) _ 0 hS
    (fun h' tk acc c' hk e hi => ⟨rfl, h', tk, acc, c', rfl, fun b o q => hk b o (Nat.ne_of_lt (Heap.lt_size q)) (Heap.get?_push_of_some _ q), e, hi⟩) hn) (fun fin s' h' => ?_) (fun e s' h' => ?_)
  · cases fin with
    | done f =>
      obtain ⟨e, g, tk, acc, c', rfl, hk, hS', hi⟩ := h'
      cases e
      show wpAny _ A (load s.heap.objs.size >>= _) _ _ _
      refine wpAny_bind (wpAny_load hS' (wpAny_pure ?_))
      show Q acc.toList _
      rw [hv acc hi]
      exact h g tk hk (Nat.le_of_lt (Heap.lt_size hS'))
    | again c' =>
      refine ⟨h'.1, codeAny_mono h'.2 fun rr s'' hr' => ?_⟩
      obtain ⟨rfl, g, tk, acc, c', rfl, hk, hS', hi⟩ := hr'
      show wpAny _ A (load s.heap.objs.size >>= _) _ _ _
      refine wpAny_bind (wpAny_load hS' (wpAny_pure ?_))
      show Q acc.toList _
      rw [hv acc hi]
      exact h g tk hk (Nat.le_of_lt (Heap.lt_size hS'))
  · exact absurd h'.1 (by simp)
/-- sorted(x, ..), x a list or a dict -/
theorem sorted_src {s : Shared} {v : Value} {vs : List Value} {kw : List (Str × Value)} {Q : Value → Shared → Prop} {E : Value → Shared → Prop} (hh : X.A.handled = none) (C : Coll X s v vs) (hz : vs.length ≤ sizeLine) (ha1 : argsOk "sorted" ⟨[v], kw⟩) (ha2 : ∀ x, argsOk "list.sort" ⟨[.ref x], kw⟩)
    (body : ∀ (a : Addr) (hp : Heap) (tk : Nat) (E' : Value → Shared → Prop), hp.get? a = some (seqObj "list" vs.toArray 0) → s.heap.objs.size ≤ a → (∀ b o, s.heap.get? b = some o → hp.get? b = some o) →
      wpAny (model X.prog X.w) X.A.in1.in1 (Builtin.«list.sort» ⟨[.ref a], kw⟩) (fun f s' => f = .done (.ret .none) ∧ Q (.ref a) s') E' { s with heap := hp, toks := tk }) :
    wpAny (model X.prog X.w) X.A (call (.builtin "sorted") [v] kw) Q E s := by
  refine call_function_entry_kw kind_sorted plain_sorted entry_sorted ha1 ?_
  unfold Builtin.«sorted»
  refine wpAny_bind (m := checkCount "sorted" 1 1 _) (wpAny_pure ?_)
  refine wpAny_bind (C X.A.in1 _ _ hh fun h' tk hk hsz => ?_)
  refine wpAny_bind (wpAny_newList ?_ hz)
  have ho : (h'.push (seqObj "list" vs.toArray 0)).get? h'.objs.size = some (seqObj "list" vs.toArray 0) := Heap.get?_push_size _ rfl
  refine wpAny_bind (wpAny_holding (wpAny_call_entry_kw slot_list_sort ⟨_, ho, rfl⟩ entry_list_sort ?body (ha2 _)))
  case body =>
    refine wpAny_mono (body h'.objs.size _ tk _ ho hsz fun b o q => Heap.get?_push_of_some _ (hk b o q)) (fun f s' hf => ?_) fun _ _ e => e
    obtain ⟨rfl, hq⟩ := hf
    exact ⟨_, rfl, wpAny_pure ⟨_, rfl, hq⟩⟩
theorem xp_keys {r : List XE} {xs : List (List Int × Addr × Value)} (xp : XP r xs) : xs.map (fun x => Value.ref x.2.1) = r.map fun x => Value.ref x.2.1 := by
  induction xp with
  | nil => rfl
  | cons h _ ih => simp only [List.map_cons, ih]; rw [h.2.1]
/-- the keys of a dict -/
theorem coll_dict {H : Hp} {s : Shared} (I : Inv X pins σ H s) {F : Addr → Prop} {a : Addr} {r : List XE} {kvs : Kv} (hr : Rd H a (xdO a r)) (hd : DKl X.K F H r kvs) : Coll X s (.ref a) (r.map fun x => Value.ref x.2.1) := by
  obtain ⟨⟨z, hs, xs, xp, o, es, ep, h1, h2, h3, h4, h5⟩, _⟩ := (show ObjOk X.prog X.w H s.heap a (xdO a r) from hr.ok I.hok)
  have he := h4 X.prog X.w
  have l1 : es.size = xs.length := size_of_entries he
  have l2 : r.length = xs.length := Paired.length xp
  have hx := xp_keys xp
  refine coll_kdl (kdl_raw hs h2 h3) h1 (by omega) fun acc it => ?_
  rw [← hx]
  have hl : acc.toList.length = xs.length := by rw [Array.length_toList, it.1]; exact l1
  apply List.ext_getElem?
  intro j
  rw [List.getElem?_map]
  cases hj : acc.toList[j]? with
  | none =>
    have h1 := List.getElem?_eq_none_iff.mp hj
    rw [List.getElem?_eq_none (by omega)]
    rfl
  | some v =>
    obtain ⟨en, hen, hv⟩ := it.2 j v (by rw [← Array.getElem?_toList]; exact hj)
    have qe := entry_at he j
    rw [hen] at qe
    cases hb : xs[j]? with
    | none => rw [hb] at qe; exact nomatch (show some en = none from qe)
    | some y =>
      rw [hb] at qe
      have : en = _ := Option.some.inj qe
      rw [hv, this]; rfl
end
end MP

/-! A19: sorted, list of a dict, len of a dict, isinstance, constants of the module. -/
namespace MP
open PySem PySem.Spec L2
open PyProof.Rows hiding St intKind ItemsAre
open PySem.W (alike AllAlike Sortable EachIs dataLe KeyedOut dataKind SortsAt)

/-! ### plain -/
def isTup1 : PyData → Bool
  | .tuple (_ :: _) => true
  | _ => false
def noTup : PyData → Bool
  | .tuple _ => false
  | .none => false
  | _ => true
def sortOkB (kz : List PyData) : Bool := (kz.all fun d => kz.all fun d' => alike d d') && (kz.all isTup1 || kz.all noTup) && kz.all fun d => decide (d.depth ≤ 40) && d.plain
theorem sortOk_of {kz : List PyData} (h : sortOkB kz = true) : SortOk kz := by
  unfold sortOkB at h
  rw [Bool.and_eq_true, Bool.and_eq_true] at h
  obtain ⟨⟨h1, h2⟩, h3⟩ := h
  refine ⟨fun d hd d' hd' => ?_, ?_, fun d hd => ?_⟩
  · exact List.all_eq_true.mp (List.all_eq_true.mp h1 d hd) d' hd'
  · rw [Bool.or_eq_true] at h2
    rcases h2 with h2 | h2
    · refine .inl fun d hd => ?_
      have := List.all_eq_true.mp h2 d hd
      unfold isTup1 at this
      split at this
      · exact ⟨_, _, rfl⟩
      · cases this
    · refine .inr fun d hd => ?_
      have := List.all_eq_true.mp h2 d hd
      unfold noTup at this
      split at this
      · cases this
      · cases this
      · rename_i n1 n2
        exact ⟨n2, fun xs z => n1 xs z⟩
  · have := List.all_eq_true.mp h3 d hd
    rw [Bool.and_eq_true, decide_eq_true_eq] at this
    exact this
/-- the items that are sorted: a list's, a dict's keys -/
def srcD : PyData → Option (List PyData)
  | .list xs => some xs
  | .dict ks => (kvD ks).map fun kvs => kvs.map fun p => kD p.1
  | _ => none
def keysOf (fn : List Sl → Option (Rv × List Sl)) : List PyData → Option (List PyData)
  | [] => some []
  | x :: xs => match fn [.d x] with
    | some (.v k, _) => (keysOf fn xs).map (k :: ·)
    | _ => none
theorem keysOf_len {fn : List Sl → Option (Rv × List Sl)} : ∀ {xs kz : List PyData}, keysOf fn xs = some kz → kz.length = xs.length ∧ ∀ (i : Nat) (d kd : PyData), xs[i]? = some d → kz[i]? = some kd → ∃ ps', fn [.d d] = some (.v kd, ps')
  | [], _, h => by cases h; exact ⟨rfl, fun i d kd h => by simp at h⟩
  | x :: xs, kz, h => by
    unfold keysOf at h
    split at h
    · rename_i k ps hk
      obtain ⟨r, h1, h2⟩ := Option.map_eq_some_iff.mp h
      subst h2
      obtain ⟨h3, h4⟩ := keysOf_len h1
      refine ⟨by simp [h3], fun i d kd h5 h6 => ?_⟩
      cases i with
      | zero =>
        simp at h5 h6
        subst h5 h6
        exact ⟨_, hk⟩
      | succ i => exact h4 i d kd (by simpa using h5) (by simpa using h6)
    · cases h
def sortK (b : Bool) (xs kz : List PyData) : List PyData := ((xs.zip kz).mergeSort (dataLe b fun x : PyData × PyData => x.2)).map (·.1)
def gSortK (b : Bool) (fn : List Sl → Option (Rv × List Sl)) : PyData → Option Rv := fun d => (srcD d).bind fun xs => (keysOf fn xs).bind fun kz => if sortOkB kz && szOk xs.length then some (.o (.lst (sortK b xs kz))) else none
def gSort (b : Bool) : PyData → Option Rv := fun d => (srcD d).bind fun xs => if sortOkB xs && szOk xs.length then some (.o (.lst (xs.mergeSort (dataLe b id)))) else none

/-! ### the operand -/
/-- what is sorted stands at v -/
def Src (K : PySem.W.Frag) (F : Addr → Prop) (H : Hp) (v : V) (ws : List V) (xs : List PyData) : Prop := DAll K F H ws xs ∧ ∃ l, v = .ref l ∧ (SqL K H l ws ∨ ∃ r kvs, Rd H l (xdO l r) ∧ DKl K F H r kvs ∧ ws = r.map fun x => V.ref x.2.1)
theorem RV.src {K : PySem.W.Frag} {F : Addr → Prop} {H : Hp} {v : V} {d : PyData} {xs : List PyData} (h : RV K F H v d) (e : srcD d = some xs) : ∃ ws, Src K F H v ws xs := by
  unfold srcD at e
  split at e
  · cases e
    obtain ⟨a, vs, rfl, h1, h2⟩ := h.lst
    exact ⟨vs, h1, a, rfl, .inl h2⟩
  · obtain ⟨kvs, e1, e2⟩ := Option.map_eq_some_iff.mp e
    subst e2
    obtain ⟨a, r, rfl, h1, h2⟩ := h.dct e1
    refine ⟨_, ?_, a, rfl, .inr ⟨r, kvs, h1, h2, rfl⟩⟩
    clear h h1 e1 e
    induction h2 with
    | nil => exact .nil
    | cons q _ _ ih => exact .cons q ih
  · cases e
section
variable {X : Cx} {pins : List (Addr × Obj)} {σ : St} {H : Hp} {s : Shared}
theorem Src.coll (I : Inv X pins σ H s) {F : Addr → Prop} {v : V} {ws : List V} {xs : List PyData} (S : Src X.K F H v ws xs) {u : Value} (ru : RelV v u) : ∃ vs l, u = .ref l ∧ Vals ws vs ∧ Coll X s u vs ∧ vs.length ≤ sizeLine := by
  obtain ⟨d, l, rfl, h⟩ := S
  obtain rfl : u = Value.ref l := ru
  rcases h with h | ⟨r, kvs, h1, h2, rfl⟩
  · obtain ⟨vs, rv, p, hz⟩ := I.list h
    have hz' : vs.length ≤ sizeLine := by rw [← rv.length]; exact hz
    exact ⟨vs, l, rfl, rv, coll_list p.isList hz', hz'⟩
  · obtain ⟨z, _⟩ := xd_at I h1 h2
    refine ⟨r.map fun x => Value.ref x.2.1, l, rfl, ?_, coll_dict I h1 h2, by simpa using z⟩
    have : ∀ r : List XE, Vals (r.map fun x => V.ref x.2.1) (r.map fun x => Value.ref x.2.1) := fun r => by
      induction r with
      | nil => exact .nil
      | cons _ _ ih => exact .cons rfl ih
    exact this r
/-- sorted(x, key=f, ..) -/
def rSrtK (K : PySem.W.Frag) (b : Bool) (fn : List Sl → Option (Rv × List Sl)) (want : List V) : List V → List V → Hp → VK → Prop := fun vs zs H Q => ∃ (v : V) (F : Addr → Prop) (ws : List V) (xs kz : List PyData), vs = [v] ∧ zs = want ∧ DomF F H ∧ Src K F H v ws xs ∧ keysOf fn xs = some kz ∧ SortOk kz ∧ xs.length ≤ sizeLine ∧
  ∀ F' H' a, Grow F H F' H' → H' a ≠ none → H a = none → ¬ F' a → Q (.ref a) (upd H' a (.lst (((ws.zip (xs.zip kz)).mergeSort (dataLe b fun x : Trip => x.2.2)).map (·.1))))
theorem zk1 {f : Addr} {ws : List Value} (r : Vals [V.ref f] ws) : ws = [.ref f] := by
  cases r with
  | cons r t => cases t; cases r; rfl
theorem zk2 {f : Addr} {b : Bool} {ws : List Value} (r : Vals [V.ref f, .bl b] ws) : ws = [.ref f, .bool b] := by
  cases r with
  | cons r t =>
    cases t with
    | cons r2 t =>
      cases t; cases r; cases r2; rfl
theorem vk1 {v : V} {us : List Value} (r : Vals [v] us) : ∃ u, us = [u] ∧ RelV v u := by
  cases r with
  | cons r t => cases t; exact ⟨_, rfl, r⟩
theorem cr_sortK {k : Nat} {f : Addr} {fd : FuncData} {ps : List Str} {fn : List Sl → Option (Rv × List Sl)} (FO : FnOk X.prog X.w X.K X.mg X.base CX0 k f fd ps (spF X.K fn)) (hb : Binds X.K fd ps []) (hr : Room (k + 2) X.A) (hc : X.calm = true) : CallRK X (.builtin "sorted") [Str.ofString "key"] (rSrtK X.K false fn [.ref f]) := by
  intro pins s σ H xs zs us ws Q I rx rz h
  obtain ⟨v, F, vs, ds, kz, rfl, rfl, dm, S, hk, ok, hz, q⟩ := h
  obtain ⟨u, rfl, ru⟩ := vk1 rx
  rw [zk1 rz]
  obtain ⟨us, l, rfl, rv, C, hl⟩ := S.coll I ru
  obtain ⟨k1, k2⟩ := keysOf_len hk
  refine sorted_src (I.ok.hd hc) C hl (ksk_s1 _ _) (fun _ => ksk_l1 _ _) fun a hp tk E' hL la old => ?_
  show wpAny _ _ (Builtin.«list.sort» ⟨[.ref a], [(Str.ofString "key", .ref f)]⟩) _ _ _
  rw [ksk_t1]
  exact key_sort FO hb hr I dm rv S.1 k1 k2 ok hz hL la old q
theorem cr_sortKR {b : Bool} {k : Nat} {f : Addr} {fd : FuncData} {ps : List Str} {fn : List Sl → Option (Rv × List Sl)} (FO : FnOk X.prog X.w X.K X.mg X.base CX0 k f fd ps (spF X.K fn)) (hb : Binds X.K fd ps []) (hr : Room (k + 2) X.A) (hc : X.calm = true) : CallRK X (.builtin "sorted") [Str.ofString "key", Str.ofString "reverse"] (rSrtK X.K b fn [.ref f, .bl b]) := by
  intro pins s σ H xs zs us ws Q I rx rz h
  obtain ⟨v, F, vs, ds, kz, rfl, rfl, dm, S, hk, ok, hz, q⟩ := h
  obtain ⟨u, rfl, ru⟩ := vk1 rx
  rw [zk2 rz]
  obtain ⟨us, l, rfl, rv, C, hl⟩ := S.coll I ru
  obtain ⟨k1, k2⟩ := keysOf_len hk
  refine sorted_src (I.ok.hd hc) C hl (ksk_s2 _ _ _) (fun _ => ksk_l2 _ _ _) fun a hp tk E' hL la old => ?_
  show wpAny _ _ (Builtin.«list.sort» ⟨[.ref a], [(Str.ofString "key", .ref f), (Str.ofString "reverse", .bool b)]⟩) _ _ _
  rw [ksk_t2]
  exact key_sort FO hb hr I dm rv S.1 k1 k2 ok hz hL la old q
/-- sorted(x[, reverse=b]) -/
def rSrt (K : PySem.W.Frag) (b : Bool) : V → Hp → VK → Prop := fun v H Q => ∃ (F : Addr → Prop) (ws : List V) (xs : List PyData), DomF F H ∧ Src K F H v ws xs ∧ SortOk xs ∧ xs.length ≤ sizeLine ∧
  ∀ a, H a = none → Q (.ref a) (upd H a (.lst (((ws.zip xs).mergeSort (dataLe b fun x : V × PyData => x.2)).map (·.1))))
theorem sort_run (hu : X.A.units + 64 < cLine) {v : V} {u : Value} {b : Bool} {Q : VK} {kw : List (Str × Value)} (hc : X.calm = true) (I : Inv X pins σ H s) (ru : RelV v u) (h : rSrt X.K b v H Q) (ha1 : ∀ l : Addr, argsOk "sorted" ⟨[.ref l], kw⟩) (ha2 : ∀ x, argsOk "list.sort" ⟨[.ref x], kw⟩)
    (hs : ∀ a : Addr, Builtin.«list.sort» ⟨[.ref a], kw⟩ = Builtin.«list.sort» ⟨[.ref a], [(Str.ofString "reverse", .bool b)]⟩) : wpAny (model X.prog X.w) X.A (call (.builtin "sorted") [u] kw) (EP X pins σ Q) X.xe s := by
  obtain ⟨F, ws, xs, dm, S, ⟨o1, o2, o3⟩, hz, q⟩ := h
  obtain ⟨us, l, rfl, rv, C, hl⟩ := S.coll I ru
  refine sorted_src (I.ok.hd hc) C hl (ha1 l) ha2 fun a hp tk E' hL la old => ?_
  rw [hs]
  have e : EachIs (fun (u : Value) (x : V × PyData) => RelV x.1 u) us (ws.zip xs) := each_zip rv S.1.length.symm
  have hmap : (ws.zip xs).map (fun x : V × PyData => x.2) = xs := List.map_snd_zip (by rw [S.1.length]; exact Nat.le_refl _)
  have rd : ∀ {h' : Heap}, (∀ b o, s.heap.get? b = some o → h'.get? b = some o) → EachIs (fun v b => ∃ as, Reads h' v b as) us xs := fun {h'} kk => by
    have : ∀ {ws : List V} {us : List Value} {xs : List PyData}, Vals ws us → DAll X.K F H ws xs → (∀ d ∈ xs, d.plain = true) → EachIs (fun v b => ∃ as, Reads h' v b as) us xs := fun {ws} => by
      induction ws with
      | nil => intro us xs r d _; cases r; cases d; exact .nil
      | cons w ws ih =>
        intro us xs r d hp
        cases r with
        | cons r t =>
          cases d with
          | cons d1 d2 =>
            obtain ⟨as, rr⟩ := Dp.reads I _ _ _ (d1.dp (hp _ List.mem_cons_self)) r
            exact .cons ⟨as, PyProof.Rows.Reads.keeps kk rr⟩ (ih t d2 fun d hd => hp d (List.mem_cons_of_mem _ hd))
    exact this rv S.1 fun d hd => (o3 d hd).2
  have ltA := Heap.lt_size hL
  have oldS : ∀ b o, s.heap.get? b = some o → (PySem.W.sortingHeap hp a us).get? b = some o := fun b o z => PySem.W.sortingHeap_old (Nat.ne_of_lt (Nat.lt_of_lt_of_le (Heap.lt_size z) la)) (old b o z)
  refine PySem.W.list_sort_rev_vals (κ := dataKind (PySem.W.sortingHeap hp a us) xs) (s := { s with heap := hp, toks := tk }) hL (SortsAt.data (s := { s with heap := PySem.W.sortingHeap hp a us, toks := tk }) (rd oldS) o1 o2 fun d hd => ?_) hl ⟨rfl, ?_⟩
  · have := (o3 d hd).1
    show X.A.units + 1 + 1 + d.depth < cLine
    omega
  · have out := PySem.W.sortVals_data (h' := PySem.W.sortingHeap hp a us) (enc := fun x : V × PyData => x.2) b e (by
      have z := rd oldS
      have : ∀ {us : List Value} {l : List (V × PyData)}, EachIs (fun v b => ∃ as, Reads (PySem.W.sortingHeap hp a us) v b as) us (l.map fun x => x.2) → True := fun _ => trivial
      rw [← hmap] at z
      generalize ws.zip xs = l at z
      have g : ∀ {us : List Value} {l : List (V × PyData)} {h' : Heap}, EachIs (fun v b => ∃ as, Reads h' v b as) us (l.map fun x => x.2) → EachIs (fun v (x : V × PyData) => ∃ as, Reads h' v x.2 as) us l := fun {us l} => by
        induction l generalizing us with
        | nil => intro _ z; cases z; exact .nil
        | cons x l ih => intro _ z; cases z with
          | cons a b => exact .cons a (ih b)
      exact g z) (by rw [hmap]; exact o1)
    rw [hmap] at out
    have rvo : Vals (((ws.zip xs).mergeSort (dataLe b fun x : V × PyData => x.2)).map (·.1)) (PySem.W.sortVals (dataKind (PySem.W.sortingHeap hp a us) xs) b us us) := by
      generalize (ws.zip xs).mergeSort (dataLe b fun x : V × PyData => x.2) = l at out
      generalize PySem.W.sortVals (dataKind (PySem.W.sortingHeap hp a us) xs) b us us = m at out
      induction out with
      | nil => exact .nil
      | cons q _ ih => exact .cons q ih
    obtain ⟨e1, na⟩ := sortedHeap_at (out := (PySem.W.sortVals (dataKind (PySem.W.sortingHeap hp a us) xs) b us us).toArray) hL
    refine ⟨.ref a, _, I.laid (t' := tk) (o := .lst (((ws.zip xs).mergeSort (dataLe b fun x : V × PyData => x.2)).map (·.1))) (fun b o z => ?_) la ⟨?_, _, e1, rvo, na⟩, rfl, q a (I.hok.fresh la)⟩
    · have hb := Heap.lt_size z
      exact (sortedHeap_old (Nat.ne_of_lt (Nat.lt_of_lt_of_le hb la)) (Nat.lt_trans (Nat.lt_of_lt_of_le hb la) ltA)).trans (old b o z)
    · rw [List.length_map, List.length_mergeSort, List.length_zip]
      have := S.1.length
      omega
end
end MP

/-! A20: sorted, isinstance, len and list of a dict, ranges, constants of the module: the meanings. -/
namespace MP
open PySem PySem.Spec L2
open PyProof.Rows hiding St intKind ItemsAre
open PySem.W (alike AllAlike Sortable EachIs dataLe KeyedOut dataKind SortsAt)

section
variable {K : PySem.W.Frag} {F : Addr → Prop} {H : Hp}
theorem DAll.of_all {α : Type} (f : α → V) (g : α → PyData) : ∀ {l : List α}, (∀ x ∈ l, DV K F H (f x) (g x)) → DAll K F H (l.map f) (l.map g)
  | [], _ => .nil
  | x :: l, h => .cons (h x List.mem_cons_self) (DAll.of_all f g fun y hy => h y (List.mem_cons_of_mem _ hy))
theorem DAll.zipped {α : Type} : ∀ {ws : List V} {xs : List PyData} {l : List α}, DAll K F H ws xs → ∀ x ∈ ws.zip (xs.zip l), DV K F H x.1 x.2.1
  | _, _, l, .nil, x, h => by simp at h
  | _, _, [], .cons _ _, x, h => by simp at h
  | _, _, y :: l, .cons a b, x, h => by
    simp only [List.zip_cons_cons, List.mem_cons] at h
    rcases h with rfl | h
    · exact a
    · exact DAll.zipped b x h
theorem DAll.zip2 : ∀ {ws : List V} {xs : List PyData}, DAll K F H ws xs → ∀ x ∈ ws.zip xs, DV K F H x.1 x.2
  | _, _, .nil, x, h => by simp at h
  | _, _, .cons a b, x, h => by
    simp only [List.zip_cons_cons, List.mem_cons] at h
    rcases h with rfl | h
    · exact a
    · exact DAll.zip2 b x h
theorem sortK_rel {b : Bool} {ws : List V} {xs kz : List PyData} (d : DAll K F H ws xs) (hl : kz.length = xs.length) : DAll K F H (((ws.zip (xs.zip kz)).mergeSort (dataLe b fun x : Trip => x.2.2)).map (·.1)) (sortK b xs kz) := by
  have e : sortK b xs kz = ((ws.zip (xs.zip kz)).mergeSort (dataLe b fun x : Trip => x.2.2)).map fun x => x.2.1 := by
    unfold sortK
    have h1 : (ws.zip (xs.zip kz)).map (fun x : Trip => x.2) = xs.zip kz := List.map_snd_zip (by rw [List.length_zip, hl, Nat.min_self, d.length]; exact Nat.le_refl _)
    have h2 := List.map_mergeSort (r := dataLe b fun x : Trip => x.2.2) (s := dataLe b fun x : PyData × PyData => x.2) (f := fun x : Trip => x.2) (l := ws.zip (xs.zip kz)) (fun a _ b _ => rfl)
    rw [h1] at h2
    rw [← h2, List.map_map]
    rfl
  rw [e]
  exact DAll.of_all (fun x : Trip => x.1) (fun x : Trip => x.2.1) fun x hx => d.zipped x (List.mem_mergeSort.mp hx)
theorem sort_rel {b : Bool} {ws : List V} {xs : List PyData} (d : DAll K F H ws xs) : DAll K F H (((ws.zip xs).mergeSort (dataLe b fun x : V × PyData => x.2)).map (·.1)) (xs.mergeSort (dataLe b id)) := by
  have e : xs.mergeSort (dataLe b id) = ((ws.zip xs).mergeSort (dataLe b fun x : V × PyData => x.2)).map fun x => x.2 := by
    have h1 : (ws.zip xs).map (fun x : V × PyData => x.2) = xs := List.map_snd_zip (by rw [d.length]; exact Nat.le_refl _)
    have h2 := List.map_mergeSort (r := dataLe b fun x : V × PyData => x.2) (s := dataLe b (id : PyData → PyData)) (f := fun x : V × PyData => x.2) (l := ws.zip xs) (fun a _ b _ => rfl)
    rw [h1] at h2
    exact h2.symm
  rw [e]
  exact DAll.of_all (fun x : V × PyData => x.1) (fun x : V × PyData => x.2) fun x hx => d.zip2 x (List.mem_mergeSort.mp hx)
end
section
variable {X : Cx} {a : Expr} {fa : CE} {pos p : Pos}
theorem sortK_run {b : Bool} {fn : List Sl → Option (Rv × List Sl)} {want : List V} {tk : TA} (htk : ∀ σ H Q, Q want H → tk σ H Q) : ∀ σ H Q, tE X.K (c1 (gSortK b fn) fa) σ H Q → tCKw (rSrtK X.K b fn want) (tCons (tE X.K fa) tNil) tk σ H Q := fun σ H Q q => by
  obtain ⟨H0, B, F, e, op, e', R, he, k⟩ := q
  obtain ⟨⟨x, e1⟩, h1, he⟩ := bind_some he
  obtain ⟨d, h2, he⟩ := bind_some he
  obtain ⟨r, h3, he⟩ := bind_some he
  cases he
  obtain ⟨xs, h4, h3⟩ := bind_some h3
  obtain ⟨kz, h5, h3⟩ := bind_some h3
  split at h3
  rotate_left
  · cases h3
  rename_i hz
  cases h3
  rw [Bool.and_eq_true] at hz
  refine ⟨H0, B, F, e, x, _, R, h1, fun F1 H1 v R1 S1 O1 => ?_⟩
  refine htk _ _ _ ?_
  obtain ⟨ws, S⟩ := (O1.vw R1 h2).src h4
  refine ⟨v, F1, ws, xs, kz, rfl, rfl, R1.dom, S, h5, sortOk_of hz.1, szOk_le hz.2, fun F' H' a G hne hn nF => ?_⟩
  have R2 := R1.grow G
  have k2 : Keep F' H' F' (upd H' a (.lst (((ws.zip (xs.zip kz)).mergeSort (dataLe b fun x : Trip => x.2.2)).map (·.1)))) := keepU nF
  have hno : ¬ Ow σ e' a := fun z => R1.owSome z hn
  have hnl : ¬ Lo σ e' a := fun z => R1.loSome z hn
  have h0 : H0 a = none ∨ B a := by
    by_cases z : B a
    · exact .inr z
    · cases q : H0 a with
      | none => exact .inl rfl
      | some o =>
        have := R1.frame a o q z
        rw [hn] at this; cases this
  have R3 := rel_upd R2 (.lst (((ws.zip (xs.zip kz)).mergeSort (dataLe b fun x : Trip => x.2.2)).map (·.1))) nF hno hnl h0
  have S3 : Step F H σ e F' (upd H' a (.lst (((ws.zip (xs.zip kz)).mergeSort (dataLe b fun x : Trip => x.2.2)).map (·.1)))) e' := by
    have S2 := S1.trans G.step
    refine ⟨S2.sls, S2.fr, fun c o hc hn2 => ?_, S2.new, fun c hc => ?_⟩
    · rw [upd_ne (by
        rintro rfl
        exact absurd (dom_none S1 hn) (by rw [hc]; exact fun z => nomatch z))]
      exact S2.at_ c o hc hn2
    · by_cases z : c = a
      · subst z; rw [upd_same]; exact fun z => nomatch z
      · rw [upd_ne z]; exact S2.dom c hc
  refine k F' _ (.ref a) R3 S3 ⟨a, rfl, ⟨_, upd_same, ((sortK_rel (S.1.keep G.keep) (keysOf_len h5).1)).keep k2⟩, nF, dom_none S1 hn, hno, hnl⟩
/-- f, a def of the module, as a value -/
structure KeyOk (X : Cx) (k : Nat) (x : Str) (fn : List Sl → Option (Rv × List Sl)) : Prop where
  ok : CallOk X.prog X.w X.K X.mg X.base k x fn
theorem dn_sortK {k : Nat} {f : Str} {fn : List Sl → Option (Rv × List Sl)} {p2 p3 : Pos} (C : CallOk X.prog X.w X.K X.mg X.base k f fn) (hr : Room (k + 2) X.A) (hc : X.calm = true) (hg : Gl X "sorted") (hm : X.mg "sorted" = none) (hgf : Gl X f) (ha : Den X a fa) (hdb : (f == ("__debug__" : Str)) = false := by decide)
    (hs : starEach [a] X.env = (false, eval a X.env) :: starEach [] X.env := by rfl) (he : backTo pos (starEach [a] X.env) = (false, eval a X.env) :: backTo pos (starEach [] X.env) := by rfl) (hpl : (backTo pos (starEach [a] X.env)).any (·.1) = false := by rfl) :
    Den X (.Call (.Name "sorted" p) [a] [⟨some "key", .Name f p2, p3⟩] pos) (c1 (gSortK false fn) fa) := by
  obtain ⟨fa', fd, ps, FO, hmf, hk, hb⟩ := C.ex
  refine PE.mono (pe_callBK (cr_sortK FO hb hr hc) hg hm bo_sorted (pa_cons ha pa_nil hs) (pk_cons (pe_glob (v := .ref fa') hgf hmf rfl hdb) pk_nil) (by decide) (by decide) he hpl) (sortK_run fun σ H Q q => q)
theorem dn_sortKR {b : Bool} {k : Nat} {f : Str} {fn : List Sl → Option (Rv × List Sl)} {p2 p3 p4 p5 : Pos} {j : Nat} (C : CallOk X.prog X.w X.K X.mg X.base k f fn) (hr : Room (k + 2) X.A) (hc : X.calm = true) (hg : Gl X "sorted") (hm : X.mg "sorted" = none) (hgf : Gl X f) (ha : Den X a fa) (hdb : (f == ("__debug__" : Str)) = false := by decide)
    (hs : starEach [a] X.env = (false, eval a X.env) :: starEach [] X.env := by rfl) (he : backTo pos (starEach [a] X.env) = (false, eval a X.env) :: backTo pos (starEach [] X.env) := by rfl) (hpl : (backTo pos (starEach [a] X.env)).any (·.1) = false := by rfl) :
    Den X (.Call (.Name "sorted" p) [a] [⟨some "key", .Name f p2, p3⟩, ⟨some "reverse", .Constant (.bool b) j p4, p5⟩] pos) (c1 (gSortK b fn) fa) := by
  obtain ⟨fa', fd, ps, FO, hmf, hk, hb⟩ := C.ex
  refine PE.mono (pe_callBK (cr_sortKR (b := b) FO hb hr hc) hg hm bo_sorted (pa_cons ha pa_nil hs) (pk_cons (pe_glob (v := .ref fa') hgf hmf rfl hdb) (pk_cons pe_bl pk_nil)) (by decide) (by decide) he hpl) (sortK_run fun σ H Q q => q)
theorem g_sort {K : PySem.W.Frag} {b : Bool} : G1 K (rSrt K b) (gSort b) := fun F H v d r Q dm h1 hg k => by
  obtain ⟨xs, h4, hg⟩ := bind_some hg
  split at hg
  rotate_left
  · cases hg
  rename_i hz
  cases hg
  rw [Bool.and_eq_true] at hz
  obtain ⟨ws, S⟩ := h1.src h4
  exact ⟨F, ws, xs, dm, S, sortOk_of hz.1, szOk_le hz.2, fun a ha => now_own dm k ha ⟨_, upd_same, (sort_rel S.1).keep (keep_upd ha)⟩⟩
/-- one operand, then a built-in's call -/
theorem one_run {rr : V → Hp → VK → Prop} {g : PyData → Option Rv} (hg : G1 X.K rr g) : ∀ σ H Q, tE X.K (c1 g fa) σ H Q → tCB (fun vs H Q => ∃ v, vs = [v] ∧ rr v H Q) (tCons (tE X.K fa) tNil) σ H Q := fun σ H Q q => by
  obtain ⟨H0, B, F, e, op, e', R, he, k⟩ := q
  obtain ⟨⟨x, e1⟩, h1, he⟩ := bind_some he
  obtain ⟨d, h2, he⟩ := bind_some he
  obtain ⟨r, h3, he⟩ := bind_some he
  cases he
  refine ⟨H0, B, F, e, x, _, R, h1, fun F1 H1 v R1 S1 O1 => ⟨v, rfl, ?_⟩⟩
  exact hg F1 H1 v d r _ R1.dom (O1.vw R1 h2) h3 fun F2 H2 w G V2 => k F2 H2 w (R1.grow G) (S1.trans G.step) ((V2.op R1).back fun a => dom_none S1)
theorem cr_sort0 (hu : X.A.units + 64 < cLine) (hc : X.calm = true) : CallR X (.builtin "sorted") (fun vs H Q => ∃ v, vs = [v] ∧ rSrt X.K false v H Q) := fun pins s σ H xs us Q I rx h => by
  obtain ⟨v, rfl, h⟩ := h
  obtain ⟨u, rfl, ru⟩ := vk1 rx
  exact sort_run hu hc I ru h (fun _ => args_sorted1 _) (fun _ => args_list_sort _) fun a => PySem.W.plain_is_rev a
theorem dn_sort (hu : X.A.units + 64 < cLine) (hc : X.calm = true) (hg : Gl X "sorted") (hm : X.mg "sorted" = none) (ha : Den X a fa) (hs : starEach [a] X.env = (false, eval a X.env) :: starEach [] X.env := by rfl) : Den X (.Call (.Name "sorted" p) [a] [] pos) (c1 (gSort false) fa) :=
  PE.mono (pe_callB (cr_sort0 hu hc) hg hm bo_sorted (pa_cons ha pa_nil hs) (by decide) (by decide) hs rfl) (one_run g_sort)
theorem cr_sort1 {b : Bool} (hu : X.A.units + 64 < cLine) (hc : X.calm = true) : CallRK X (.builtin "sorted") [Str.ofString "reverse"] (fun vs zs H Q => ∃ v, vs = [v] ∧ zs = [.bl b] ∧ rSrt X.K b v H Q) := fun pins s σ H xs zs us ws Q I rx rz h => by
  obtain ⟨v, rfl, rfl, h⟩ := h
  obtain ⟨u, rfl, ru⟩ := vk1 rx
  obtain ⟨w, rfl, rw'⟩ := vk1 rz
  cases rw'
  exact sort_run hu hc I ru h (fun _ => args_sorted_rev _ _) (fun _ => args_list_sort_rev _ _) fun a => rfl
theorem dn_sortR {b : Bool} {p4 p5 : Pos} {j : Nat} (hu : X.A.units + 64 < cLine) (hc : X.calm = true) (hg : Gl X "sorted") (hm : X.mg "sorted" = none) (ha : Den X a fa) (hs : starEach [a] X.env = (false, eval a X.env) :: starEach [] X.env := by rfl) (he : backTo pos (starEach [a] X.env) = (false, eval a X.env) :: backTo pos (starEach [] X.env) := by rfl) (hpl : (backTo pos (starEach [a] X.env)).any (·.1) = false := by rfl) :
    Den X (.Call (.Name "sorted" p) [a] [⟨some "reverse", .Constant (.bool b) j p4, p5⟩] pos) (c1 (gSort b) fa) :=
  PE.mono (pe_callBK (cr_sort1 (b := b) hu hc) hg hm bo_sorted (pa_cons ha pa_nil hs) (pk_cons pe_bl pk_nil) (by decide) (by decide) he hpl) fun σ H Q q => by
    obtain ⟨H0, B, F, e, op, e', R, he, k⟩ := q
    have := one_run (X := X) (fa := fa) (g_sort (K := X.K) (b := b)) σ H Q ⟨H0, B, F, e, op, e', R, he, k⟩
    obtain ⟨H0, B, F, e, op, e', R, he, k⟩ := this
    exact ⟨H0, B, F, e, op, e', R, he, fun F1 H1 v R1 S1 O1 => by
      obtain ⟨w, hw, q⟩ := k F1 H1 v R1 S1 O1
      exact ⟨w, hw, rfl, q⟩⟩

/-! ### len and list of a dict -/
def fLenA : PyData → Option Rv
  | .dict ks => (kvD ks).map fun kvs => .v (.int kvs.length)
  | d => fLen d
def fListA : PyData → Option Rv
  | .dict ks => (kvD ks).bind fun kvs => if szOk kvs.length then some (.o (.lst (kvs.map fun p => kD p.1))) else none
  | d => fList d
def rLenX (K : PySem.W.Frag) : List V → Hp → VK → Prop := fun xs H Q => ∃ (F : Addr → Prop) (a : Addr) (r : List XE) (kvs : Kv), xs = [.ref a] ∧ Rd H a (xdO a r) ∧ DKl K F H r kvs ∧ Q (.int (kvs.length : Nat)) H
theorem cr_lenX : CallR X (.builtin "len") (rLenX X.K) := fun pins s σ H xs us Q I rx h => by
  obtain ⟨F, a, r, kvs, rfl, hr, hd, q⟩ := h
  obtain ⟨u, rfl, ru⟩ := vk1 rx
  obtain rfl : u = Value.ref a := ru
  obtain ⟨z, hs, ys, d3, dd⟩ := xd_at I hr hd
  obtain ⟨l1, l2⟩ := d3_len d3
  refine call_len_dictH hs dd (by rw [sizeLine_eq] at z; omega) ?_
  rw [l1]
  exact ⟨.int (kvs.length : Nat), H, I.tok _, ⟨_, rfl⟩, q⟩
theorem g_lenA {K : PySem.W.Frag} : G1B K (fun xs H Q => rLen K xs H Q ∨ rLenX K xs H Q) fLenA := fun F H v d r Q dm h1 hg k => by
  unfold fLenA at hg
  split at hg
  · obtain ⟨kvs, e1, e2⟩ := Option.map_eq_some_iff.mp hg
    subst e2
    obtain ⟨a, r, rfl, h2, h3⟩ := h1.dct e1
    exact .inr ⟨F, a, r, kvs, rfl, h2, h3, now dm k (.int _)⟩
  · exact .inl (g_len F H v d r Q dm h1 hg k)
def rListX (K : PySem.W.Frag) : List V → Hp → VK → Prop := fun xs H Q => ∃ (F : Addr → Prop) (a : Addr) (r : List XE) (kvs : Kv), xs = [.ref a] ∧ Rd H a (xdO a r) ∧ DKl K F H r kvs ∧ ∀ p, H p = none → Q (.ref p) (upd H p (.lst (r.map fun x => V.ref x.2.1)))
theorem cr_listX (hc : X.calm = true) : CallR X (.type "list") (rListX X.K) := fun pins s σ H xs us Q I rx h => by
  obtain ⟨F, a, r, kvs, rfl, hr, hd, q⟩ := h
  obtain ⟨u, rfl, ru⟩ := vk1 rx
  obtain rfl : u = Value.ref a := ru
  obtain ⟨⟨z, hs, xs, xp, o, es, ep, h1, h2, h3, h4, h5⟩, _⟩ := (show ObjOk X.prog X.w H s.heap a (xdO a r) from hr.ok I.hok)
  have he := h4 X.prog X.w
  have l1 : es.size = xs.length := size_of_entries he
  have l2 : r.length = xs.length := Paired.length xp
  have hx := xp_keys xp
  refine PySem.W.kdl_call (kdl_raw hs h2 h3) (I.ok.hd hc) h1 (by omega) fun h' tk acc' c' kp e it => ?_
  have ea : acc'.toList = r.map fun x => Value.ref x.2.1 := by
    rw [← hx]
    have hl : acc'.toList.length = xs.length := by rw [Array.length_toList, it.1]; exact l1
    apply List.ext_getElem?
    intro j
    rw [List.getElem?_map]
    cases hj : acc'.toList[j]? with
    | none =>
      have h1 := List.getElem?_eq_none_iff.mp hj
      rw [List.getElem?_eq_none (by omega)]
      rfl
    | some v =>
      obtain ⟨en, hen, hv⟩ := it.2 j v (by rw [← Array.getElem?_toList]; exact hj)
      have qe := entry_at he j
      rw [hen] at qe
      cases hb : xs[j]? with
      | none => rw [hb] at qe; exact nomatch (show some en = none from qe)
      | some y =>
        rw [hb] at qe
        have : en = _ := Option.some.inj qe
        rw [hv, this]; rfl
  have hval : ∀ r : List XE, Vals (r.map fun x => V.ref x.2.1) (r.map fun x => Value.ref x.2.1) := fun r => by
    induction r with
    | nil => exact .nil
    | cons _ _ ih => exact .cons rfl ih
  refine ⟨.ref s.heap.objs.size, _, I.laid (t' := tk) (o := .lst (r.map fun x => V.ref x.2.1)) kp (Nat.le_refl _) ⟨by simpa using z, acc'.toList, c', by rw [ea]; exact hval r, ?_⟩, rfl, q _ (I.hok.fresh (Nat.le_refl _))⟩
  rw [Array.toArray_toList]; exact e
theorem dkl_keys {K : PySem.W.Frag} {F : Addr → Prop} {H : Hp} : ∀ {r : List XE} {kvs : Kv}, DKl K F H r kvs → DAll K F H (r.map fun x => V.ref x.2.1) (kvs.map fun p => kD p.1)
  | _, _, .nil => .nil
  | _, _, .cons a _ c => .cons a (dkl_keys c)
theorem g_listA {K : PySem.W.Frag} : G1B K (fun xs H Q => rListOf K xs H Q ∨ rListX K xs H Q) fListA := fun F H v d r Q dm h1 hg k => by
  unfold fListA at hg
  split at hg
  · obtain ⟨kvs, e1, hg⟩ := bind_some hg
    split at hg
    · cases hg
      obtain ⟨a, r, rfl, h2, h3⟩ := h1.dct e1
      exact .inr ⟨F, a, r, kvs, rfl, h2, h3, fun p hp => now_own dm k hp ⟨_, upd_same, (dkl_keys h3).keep (keep_upd hp)⟩⟩
    · cases hg
  · exact .inl (g_list F H v d r Q dm h1 hg k)
variable {fr : CA}
theorem dn_lenA (hg : Gl X "len") (hm : X.mg "len" = none) (ha : DenA X [a] fr) (he : starEach [a] X.env = (false, eval a X.env) :: starEach [] X.env := by rfl) : Den X (.Call (.Name "len" p) [a] [] pos) (cB (g1 fLenA) fr) := dn_callB (call_len_seq.or cr_lenX) (gb1 g_lenA) hg hm bo_len ha (by decide) (by decide) he rfl
theorem dn_listA (hc : X.calm = true) (hg : Gl X "list") (hm : X.mg "list" = none) (ha : DenA X [a] fr) (he : starEach [a] X.env = (false, eval a X.env) :: starEach [] X.env := by rfl) : Den X (.Call (.Name "list" p) [a] [] pos) (cB (g1 fListA) fr) := dn_callTy (call_list_of.or (cr_listX hc)) (gb1 g_listA) hg hm bo_list ha (by decide) (by decide) he rfl
end
end MP

/-! A21: isinstance, ranges as lists, constants of the module, or of lists, n += e, len(set(..)). -/
namespace MP
open PySem PySem.Spec L2
open PyProof.Rows hiding St intKind ItemsAre

/-! ### isinstance -/
def tyN : PyData → String
  | .none => "NoneType"
  | .bool _ => "bool"
  | .int _ => "int"
  | .str _ => "str"
  | .list _ => "list"
  | .tuple _ => "tuple"
  | .dict _ => "dict"
inductive TN where
  | int | bool | str | list | tuple
def TN.s : TN → String
  | .int => "int"
  | .bool => "bool"
  | .str => "str"
  | .list => "list"
  | .tuple => "tuple"
def TN.is : TN → PyData → Bool
  | .int, .int _ => true
  | .int, .bool _ => true
  | .bool, .bool _ => true
  | .str, .str _ => true
  | .list, .list _ => true
  | .tuple, .tuple _ => true
  | _, _ => false
def gIsi (ns : List TN) : PyData → Option Rv
  | .dict _ => none
  | d => some (.v (.bool (ns.any fun n => n.is d)))
theorem kit_all : ∀ n : TN, kitB "NoneType" n.s = some false ∧ kitB "bool" n.s = some (match n with | .int => true | .bool => true | _ => false) ∧ kitB "int" n.s = some (match n with | .int => true | _ => false) ∧
    kitB "str" n.s = some (match n with | .str => true | _ => false) ∧ kitB "list" n.s = some (match n with | .list => true | _ => false) ∧ kitB "tuple" n.s = some (match n with | .tuple => true | _ => false)
  | .int => ⟨by decide +kernel, by decide +kernel, by decide +kernel, by decide +kernel, by decide +kernel, by decide +kernel⟩
  | .bool => ⟨by decide +kernel, by decide +kernel, by decide +kernel, by decide +kernel, by decide +kernel, by decide +kernel⟩
  | .str => ⟨by decide +kernel, by decide +kernel, by decide +kernel, by decide +kernel, by decide +kernel, by decide +kernel⟩
  | .list => ⟨by decide +kernel, by decide +kernel, by decide +kernel, by decide +kernel, by decide +kernel, by decide +kernel⟩
  | .tuple => ⟨by decide +kernel, by decide +kernel, by decide +kernel, by decide +kernel, by decide +kernel, by decide +kernel⟩
theorem kit_d {K : PySem.W.Frag} (n : TN) {d : PyData} (h : ∀ ks, d ≠ .dict ks) : PySem.W.kitOne K (.type (tyN d)) (.type n.s) = some (n.is d) := by
  obtain ⟨h1, h2, h3, h4, h5, h6⟩ := kit_all n
  cases d with
  | none => exact (kit_ty h1).trans (by cases n <;> rfl)
  | bool b => exact (kit_ty h2).trans (by cases n <;> rfl)
  | int i => exact (kit_ty h3).trans (by cases n <;> rfl)
  | str x => exact (kit_ty h4).trans (by cases n <;> rfl)
  | list xs => exact (kit_ty h5).trans (by cases n <;> rfl)
  | tuple xs => exact (kit_ty h6).trans (by cases n <;> rfl)
  | dict ks => exact absurd rfl (h ks)
theorem kit_any {K : PySem.W.Frag} {d : PyData} (h : ∀ ks, d ≠ .dict ks) : ∀ ns : List TN, PySem.W.kitAny K (.type (tyN d)) (ns.map fun n => Value.type n.s) = some (ns.any fun n => n.is d)
  | [] => kitAny_nil
  | n :: ns => kitAny_cons (kit_d n h) (fun e => by rw [kit_any h ns]; simp [e]) (fun e => by simp [e])
theorem RV.tyx {K : PySem.W.Frag} {F : Addr → Prop} {H : Hp} {v : V} {d : PyData} (h : RV K F H v d) (hd : ∀ ks, d ≠ .dict ks) : TyX K H v (.type (tyN d)) := by
  rcases h with h | ⟨a, c, rfl, h, rfl⟩
  · cases h with
    | non => exact .base .non
    | bl b => exact .base (.bl b)
    | int i => exact .base (.int i)
    | str x => exact .base (.str x)
    | lst f h a => exact .base (.lst h)
    | tup f h a => exact .base (.tup h)
    | tupK l c s z r a => exact .kTuple l c
    | lstK l c d s z r a => exact .kList l c
    | dct f h a => exact absurd rfl (hd _)
  · cases c with
    | lst xs =>
      obtain ⟨vs, h1 | ⟨o, h1⟩, h2⟩ := h
      · exact .base (.lst h1)
      · exact .base (.frz h1)
    | dct kvs => exact absurd rfl (hd _)
section
variable {X : Cx} {a b : Expr} {fa fb : CE} {pos p p2 p3 : Pos}
theorem isi_split {d : PyData} {ns : List TN} {r : Rv} (h : gIsi ns d = some r) : (∀ ks, d ≠ .dict ks) ∧ r = .v (.bool (ns.any fun n => n.is d)) := by
  unfold gIsi at h
  split at h
  · cases h
  · cases h
    rename_i hd
    exact ⟨fun ks z => hd ks z, rfl⟩
theorem dn_isi (n : TN) {T : Str} (hg : Gl X "isinstance") (hm : X.mg "isinstance" = none) (hgT : Gl X T) (hmT : X.mg T = none) (hvT : bootBuiltins T = some (.type n.s)) (ha : Den X a fa) (hnT : T ≠ "__name__" := by decide) (hdT : (T == ("__debug__" : Str)) = false := by decide)
    (hs : starEach [a, .Name T p2] X.env = (false, eval a X.env) :: starEach [.Name T p2] X.env := by rfl) (hs2 : starEach [.Name T p2] X.env = (false, eval (.Name T p2) X.env) :: starEach [] X.env := by rfl) (hpl : (backTo pos (starEach [.Name T p2] X.env)).any (·.1) = false := by rfl) :
    Den X (.Call (.Name "isinstance" p) [a, .Name T p2] [] pos) (c1 (gIsi [n]) fa) :=
  PE.mono (pe_callB call_isi hg hm bo_isinstance (pa_cons ha (pa_cons (pe_bltn (v := .ty n.s) hgT hmT hvT rfl hnT hdT) pa_nil hs2) hs) (by decide) (by decide) hs hpl) fun σ H Q q => by
    obtain ⟨H0, B, F, e, op, e', R, he, k⟩ := q
    obtain ⟨⟨x, e1⟩, h1, he⟩ := bind_some he
    obtain ⟨d, h2, he⟩ := bind_some he
    obtain ⟨r, h3, he⟩ := bind_some he
    cases he
    obtain ⟨hd, rfl⟩ := isi_split h3
    refine ⟨H0, B, F, e, x, _, R, h1, fun F1 H1 v R1 S1 O1 => ?_⟩
    have V1 := O1.vw R1 h2
    refine ⟨v, .ty n.s, .type (tyN d), .type n.s, _, rfl, .ty n.s, V1.tyx hd, kit_d n hd, ?_⟩
    have e2 : ([n].any fun n => n.is d) = n.is d := by simp
    rw [e2] at k
    exact k F1 H1 _ R1 S1 (.bl _)
theorem dn_isi2 (n m : TN) {T U : Str} {j : Nat} {p4 : Pos} (hg : Gl X "isinstance") (hm : X.mg "isinstance" = none) (hgT : Gl X T) (hmT : X.mg T = none) (hvT : bootBuiltins T = some (.type n.s)) (hgU : Gl X U) (hmU : X.mg U = none) (hvU : bootBuiltins U = some (.type m.s)) (ha : Den X a fa)
    (hnT : T ≠ "__name__" := by decide) (hdT : (T == ("__debug__" : Str)) = false := by decide) (hnU : U ≠ "__name__" := by decide) (hdU : (U == ("__debug__" : Str)) = false := by decide)
    (hs : starEach [a, .Tuple [.Name T p2, .Name U p3] j p4] X.env = (false, eval a X.env) :: starEach [.Tuple [.Name T p2, .Name U p3] j p4] X.env := by rfl) (hs2 : starEach [.Tuple [.Name T p2, .Name U p3] j p4] X.env = (false, eval (.Tuple [.Name T p2, .Name U p3] j p4) X.env) :: starEach [] X.env := by rfl)
    (hs3 : starEach [.Name T p2, .Name U p3] X.env = (false, eval (.Name T p2) X.env) :: starEach [.Name U p3] X.env := by rfl) (hs4 : starEach [.Name U p3] X.env = (false, eval (.Name U p3) X.env) :: starEach [] X.env := by rfl) (hpl : (backTo pos (starEach [.Tuple [.Name T p2, .Name U p3] j p4] X.env)).any (·.1) = false := by rfl) :
    Den X (.Call (.Name "isinstance" p) [a, .Tuple [.Name T p2, .Name U p3] j p4] [] pos) (c1 (gIsi [n, m]) fa) :=
  PE.mono (pe_callB call_isiT hg hm bo_isinstance (pa_cons ha (pa_cons (pe_tup (pa_cons (pe_bltn (v := .ty n.s) hgT hmT hvT rfl hnT hdT) (pa_cons (pe_bltn (v := .ty m.s) hgU hmU hvU rfl hnU hdU) pa_nil hs4) hs3)) pa_nil hs2) hs) (by decide) (by decide) hs hpl) fun σ H Q q => by
    obtain ⟨H0, B, F, e, op, e', R, he, k⟩ := q
    obtain ⟨⟨x, e1⟩, h1, he⟩ := bind_some he
    obtain ⟨d, h2, he⟩ := bind_some he
    obtain ⟨r, h3, he⟩ := bind_some he
    cases he
    obtain ⟨hd, rfl⟩ := isi_split h3
    refine ⟨H0, B, F, e, x, _, R, h1, fun F1 H1 v R1 S1 O1 => ⟨by rw [sizeLine_eq]; simp, fun q hq => ?_⟩⟩
    have G := Grow.own R1.dom hq (.tup [.ty n.s, .ty m.s])
    have R2 := R1.grow G
    have V1 := (O1.step R1 G.step).vw R2 h2
    exact ⟨v, q, [.ty n.s, .ty m.s], .type (tyN d), [.type n.s, .type m.s], _, rfl, upd_same, .cons (.ty n.s) (.cons (.ty m.s) .nil), V1.tyx hd, kit_any hd [n, m], k F1 _ _ R2 (S1.trans G.step) (.bl _)⟩

/-! ### constants of the module -/
theorem dn_gint {x : Str} {i : Int} {t : Tok} (hg : Gl X x) (hm : X.mg x = some (.int i t)) (hd : (x == ("__debug__" : Str)) = false := by decide) : Den X (.Name x pos) (cK (.int i)) := dn_const (v := .int i) (pe_glob hg hm ⟨t, rfl⟩ hd) fun _ _ => .int i
theorem dn_gstr {x : Str} {i : Str} {t : Tok} (hg : Gl X x) (hm : X.mg x = some (.str i t)) (hd : (x == ("__debug__" : Str)) = false := by decide) : Den X (.Name x pos) (cK (.str i)) := dn_const (v := .str i) (pe_glob hg hm ⟨t, rfl⟩ hd) fun _ _ => .str i
theorem vals_toks : ∀ {ks : List Int} {us : List Value}, us.map (fun v => match v with | .int i _ => some i | _ => none) = ks.map some → Vals (ks.map V.int) us
  | [], us, h => by
    cases us with
    | nil => exact .nil
    | cons u us => cases h
  | k :: ks, us, h => by
    cases us with
    | nil => cases h
    | cons u us =>
      simp only [List.map_cons, List.cons.injEq] at h
      obtain ⟨h1, h2⟩ := h
      cases u <;> simp at h1
      subst h1
      exact .cons ⟨_, rfl⟩ (vals_toks h2)
/-- a tuple of ints that stands in the module -/
theorem dn_gtup {x : Str} {a : Addr} {o : Obj} {its : Array Value} {n : Nat} {ks : List Int} (hg : Gl X x) (hm : X.mg x = some (.ref a)) (hl : X.K.lookup a = some o) (h1 : o.cls = .type "tuple") (h2 : o.data = .seq its n) (h3 : its.size ≤ sizeLine) (h4 : its.toList.map (fun v => match v with | .int i _ => some i | _ => none) = ks.map some) (hd : (x == ("__debug__" : Str)) = false := by decide) :
    Den X (.Name x pos) (cK (.tuple (ks.map .int))) := dn_const (pe_glob (v := .ref a) hg hm rfl hd) fun _ _ => .tupK hl h1 h2 h3 (vals_toks h4) (DAll.ofInt ks)

/-! ### ranges as lists and tuples -/
def rgD (a b : Int) : List PyData := (List.range (b - a).toNat).map fun (i : Nat) => PyData.int (a + i)
def rgOkB (a b : Int) : Bool := decide (-(2 ^ 62) ≤ a) && decide (a < 2 ^ 62) && decide (-(2 ^ 62) ≤ b) && decide (b < 2 ^ 62) && decide ((b - a).toNat ≤ 2 ^ 24)
theorem rgOk_of {a b : Int} (h : rgOkB a b = true) : RgOk a b := by
  unfold rgOkB at h
  simp only [Bool.and_eq_true, decide_eq_true_eq] at h
  exact ⟨h.1.1.1.1, h.1.1.1.2, h.1.1.2, h.1.2, h.2⟩
theorem rg_rel {K : PySem.W.Frag} {F : Addr → Prop} {H : Hp} (a b : Int) : DAll K F H (rgV a b) (rgD a b) := by
  unfold rgV rgD
  exact DAll.of_all (fun (i : Nat) => V.int (a + i)) (fun (i : Nat) => PyData.int (a + i)) fun i _ => .int _
def gTupRg1 : PyData → Option Rv
  | .int n => if rgOkB 0 n then some (.v (.tuple (rgD 0 n))) else none
  | _ => none
def gTupRg2 : PyData → PyData → Option Rv
  | .int i, .int j => if rgOkB i j then some (.v (.tuple (rgD i j))) else none
  | _, _ => none
def gLstRg1 : PyData → Option Rv
  | .int n => if rgOkB 0 n then some (.o (.lst (rgD 0 n))) else none
  | _ => none
def gLstRg2 : PyData → PyData → Option Rv
  | .int i, .int j => if rgOkB i j then some (.o (.lst (rgD i j))) else none
  | _, _ => none
theorem c1_at {σ : St} {H : Hp} {Q : VK} {g : PyData → Option Rv} (q : tE X.K (c1 g fa) σ H Q) : tE X.K fa σ H fun v H1 => ∃ F d r, DomF F H1 ∧ RV X.K F H1 v d ∧ g d = some r ∧ ∀ F' H' w, Grow F H1 F' H' → RvRel X.K F' H' H1 w r → Q w H' := by
  obtain ⟨H0, B, F, e, op, e', R, he, k⟩ := q
  obtain ⟨⟨x, e1⟩, h1, he⟩ := bind_some he
  obtain ⟨d, h2, he⟩ := bind_some he
  obtain ⟨r, h3, he⟩ := bind_some he
  cases he
  refine ⟨H0, B, F, e, x, _, R, h1, fun F1 H1 v R1 S1 O1 => ⟨F1, d, r, R1.dom, O1.vw R1 h2, h3, fun F2 H2 w G V2 => ?_⟩⟩
  exact k F2 H2 w (R1.grow G) (S1.trans G.step) ((V2.op R1).back fun a => dom_none S1)
theorem c2_at {σ : St} {H : Hp} {Q : VK} {g : PyData → PyData → Option Rv} (q : tE X.K (c2 g fa fb) σ H Q) : tE X.K fa σ H fun v H1 => tE X.K fb σ H1 fun u H2 => ∃ F d d' r, DomF F H2 ∧ RV X.K F H2 v d ∧ RV X.K F H2 u d' ∧ g d d' = some r ∧ ∀ F' H' w, Grow F H2 F' H' → RvRel X.K F' H' H2 w r → Q w H' := by
  obtain ⟨H0, B, F, e, op, e', R, he, k⟩ := q
  obtain ⟨⟨x, e1⟩, h1, he⟩ := bind_some he
  obtain ⟨⟨y, e2⟩, h2, he⟩ := bind_some he
  obtain ⟨d, h3, he⟩ := bind_some he
  obtain ⟨d', h4, he⟩ := bind_some he
  obtain ⟨r, h5, he⟩ := bind_some he
  cases he
  refine ⟨H0, B, F, e, x, e1, R, h1, fun F1 H1 v R1 S1 O1 => ?_⟩
  refine ⟨H0, B, F1, e1, y, _, R1, h2, fun F2 H2 u R2 S2 O2 => ⟨F2, d, d', r, R2.dom, (O1.step R1 S2).vw R2 h3, O2.vw R2 h4, h5, fun F3 H3 w G V3 => ?_⟩⟩
  exact k F3 H3 w (R2.grow G) ((S1.trans S2).trans G.step) ((V3.op R2).back fun a => dom_none (S1.trans S2))
theorem dn_tupRg1 (hc : X.calm = true) (hg : Gl X "tuple") (hm : X.mg "tuple" = none) (hg2 : Gl X "range") (hm2 : X.mg "range" = none) (ha : Den X a fa)
    (na : starEach [.Call (.Name "range" p2) [a] [] p3] X.env = (false, eval (.Call (.Name "range" p2) [a] [] p3) X.env) :: starEach [] X.env := by rfl) (na2 : starEach [a] X.env = (false, eval a X.env) :: starEach [] X.env := by rfl) :
    Den X (.Call (.Name "tuple" p) [.Call (.Name "range" p2) [a] [] p3] [] pos) (c1 gTupRg1 fa) := PE.mono (pe_tupRg hc hg hm (prg_1 hg2 hm2 ha na2) na) fun σ H Q q => by
  obtain ⟨H0, B, F, e, op, e', R, he, k⟩ := c1_at q
  refine ⟨H0, B, F, e, op, e', R, he, fun F1 H1 v R1 S1 O1 => ?_⟩
  obtain ⟨F2, d, r, dm, V, hg, kk⟩ := k F1 H1 v R1 S1 O1
  unfold gTupRg1 at hg
  split at hg
  · split at hg
    · rename_i hz
      cases hg
      exact ⟨_, V.int, rgOk_of hz, fun q hq => now_new dm kk hq (.tup (.inr rfl) upd_same (rg_rel _ _))⟩
    · cases hg
  · cases hg
theorem dn_tupRg2 (hc : X.calm = true) (hg : Gl X "tuple") (hm : X.mg "tuple" = none) (hg2 : Gl X "range") (hm2 : X.mg "range" = none) (ha : Den X a fa) (hb : Den X b fb)
    (na : starEach [.Call (.Name "range" p2) [a, b] [] p3] X.env = (false, eval (.Call (.Name "range" p2) [a, b] [] p3) X.env) :: starEach [] X.env := by rfl) (na2 : starEach [a, b] X.env = (false, eval a X.env) :: starEach [b] X.env := by rfl) (na3 : starEach [b] X.env = (false, eval b X.env) :: starEach [] X.env := by rfl) (hpl : (backTo p3 (starEach [b] X.env)).any (·.1) = false := by rfl) :
    Den X (.Call (.Name "tuple" p) [.Call (.Name "range" p2) [a, b] [] p3] [] pos) (c2 gTupRg2 fa fb) := PE.mono (pe_tupRg hc hg hm (prg_2 hg2 hm2 ha hb na2 na3 hpl) na) fun σ H Q q => by
  obtain ⟨H0, B, F, e, op, e', R, he, k⟩ := c2_at q
  refine ⟨H0, B, F, e, op, e', R, he, fun F1 H1 v R1 S1 O1 => ?_⟩
  obtain ⟨H0, B, F, e, op, e', R, he, k⟩ := k F1 H1 v R1 S1 O1
  refine ⟨H0, B, F, e, op, e', R, he, fun F2 H2 u R2 S2 O2 => ?_⟩
  obtain ⟨F3, d, d', r, dm, V, W, hg, kk⟩ := k F2 H2 u R2 S2 O2
  unfold gTupRg2 at hg
  split at hg
  · split at hg
    · rename_i hz
      cases hg
      exact ⟨_, _, V.int, W.int, rgOk_of hz, fun q hq => now_new dm kk hq (.tup (.inr rfl) upd_same (rg_rel _ _))⟩
    · cases hg
  · cases hg
theorem dn_lstRg1 (hc : X.calm = true) (hg : Gl X "list") (hm : X.mg "list" = none) (hg2 : Gl X "range") (hm2 : X.mg "range" = none) (ha : Den X a fa)
    (na : starEach [.Call (.Name "range" p2) [a] [] p3] X.env = (false, eval (.Call (.Name "range" p2) [a] [] p3) X.env) :: starEach [] X.env := by rfl) (na2 : starEach [a] X.env = (false, eval a X.env) :: starEach [] X.env := by rfl) :
    Den X (.Call (.Name "list" p) [.Call (.Name "range" p2) [a] [] p3] [] pos) (c1 gLstRg1 fa) := PE.mono (pe_listRg hc hg hm (prg_1 hg2 hm2 ha na2) na) fun σ H Q q => by
  obtain ⟨H0, B, F, e, op, e', R, he, k⟩ := c1_at q
  refine ⟨H0, B, F, e, op, e', R, he, fun F1 H1 v R1 S1 O1 => ?_⟩
  obtain ⟨F2, d, r, dm, V, hg, kk⟩ := k F1 H1 v R1 S1 O1
  unfold gLstRg1 at hg
  split at hg
  · split at hg
    · rename_i hz
      cases hg
      exact ⟨_, V.int, rgOk_of hz, fun q hq => now_own dm kk hq ⟨_, upd_same, rg_rel _ _⟩⟩
    · cases hg
  · cases hg
theorem dn_lstRg2 (hc : X.calm = true) (hg : Gl X "list") (hm : X.mg "list" = none) (hg2 : Gl X "range") (hm2 : X.mg "range" = none) (ha : Den X a fa) (hb : Den X b fb)
    (na : starEach [.Call (.Name "range" p2) [a, b] [] p3] X.env = (false, eval (.Call (.Name "range" p2) [a, b] [] p3) X.env) :: starEach [] X.env := by rfl) (na2 : starEach [a, b] X.env = (false, eval a X.env) :: starEach [b] X.env := by rfl) (na3 : starEach [b] X.env = (false, eval b X.env) :: starEach [] X.env := by rfl) (hpl : (backTo p3 (starEach [b] X.env)).any (·.1) = false := by rfl) :
    Den X (.Call (.Name "list" p) [.Call (.Name "range" p2) [a, b] [] p3] [] pos) (c2 gLstRg2 fa fb) := PE.mono (pe_listRg hc hg hm (prg_2 hg2 hm2 ha hb na2 na3 hpl) na) fun σ H Q q => by
  obtain ⟨H0, B, F, e, op, e', R, he, k⟩ := c2_at q
  refine ⟨H0, B, F, e, op, e', R, he, fun F1 H1 v R1 S1 O1 => ?_⟩
  obtain ⟨H0, B, F, e, op, e', R, he, k⟩ := k F1 H1 v R1 S1 O1
  refine ⟨H0, B, F, e, op, e', R, he, fun F2 H2 u R2 S2 O2 => ?_⟩
  obtain ⟨F3, d, d', r, dm, V, W, hg, kk⟩ := k F2 H2 u R2 S2 O2
  unfold gLstRg2 at hg
  split at hg
  · split at hg
    · rename_i hz
      cases hg
      exact ⟨_, _, V.int, W.int, rgOk_of hz, fun q hq => now_own dm kk hq ⟨_, upd_same, rg_rel _ _⟩⟩
    · cases hg
  · cases hg

/-! ### a or b of lists -/
def cOrL (a b : CE) : CE := fun e => (a e).bind fun (x, e1) => match vw e1 x with
  | some (.list []) => b e1
  | some (.list (_ :: _)) => some (x, e1)
  | _ => none
theorem dn_orL {rest : List Expr} (ha : Den X a fa) (hb : Den X (.BoolOp .Or (b :: rest) pos) fb) : Den X (.BoolOp .Or (a :: b :: rest) pos) (cOrL fa fb) := PE.mono (pe_orT ha hb) fun σ H Q q => by
  obtain ⟨H0, B, F, e, op, e', R, he, k⟩ := q
  obtain ⟨⟨x, e1⟩, h1, he⟩ := bind_some he
  refine ⟨H0, B, F, e, x, e1, R, h1, fun F1 H1 v R1 S1 O1 => ?_⟩
  simp only at he
  cases hd : vw e1 x with
  | none => rw [hd] at he; cases he
  | some d =>
    rw [hd] at he
    cases d with
    | list xs =>
      obtain ⟨a, vs, rfl, a1, a2⟩ := (O1.vw R1 hd).lst
      cases xs with
      | nil =>
        cases a1
        exact ⟨false, .inl ⟨[], a2, rfl⟩, iteF ⟨H0, B, F1, e1, op, e', R1, he, fun F2 H2 v R2 S2 O2 => k F2 H2 v R2 (S1.trans S2) (O2.back fun a => dom_none S1)⟩⟩
      | cons y ys =>
        cases a1
        cases he
        exact ⟨true, .inl ⟨_, a2, rfl⟩, iteT (k F1 H1 _ R1 S1 O1)⟩
    | _ => cases he

/-! ### n += e -/
def sAug (np i : Nat) (g : Int → Int → Int) (a : CE) : CS := fun e => match e[i]? with
  | some (.d (.int n)) => (a e).bind fun (x, e1) => match vw e1 x with
    | some (.int m) => if free np e1 i then some (.nx, e1.set i (.d (.int (g n m)))) else none
    | _ => none
  | _ => none
theorem ds_aug {np i : Nat} {st : Stmt} {g : Int → Int → Int} (hp : ∀ te : TE, PE X a te → PS X st (tAug i te (ipI g))) (ha : Den X a fa) : DenS X np st (sAug np i g fa) := PS.mono (hp _ ha) fun D σ H q => by
  obtain ⟨f, F, e, fl, e', hnp, R, h, k⟩ := q
  subst hnp
  unfold sAug at h
  split at h
  · rename_i n hi
    obtain ⟨⟨x, e1⟩, h1, h⟩ := bind_some h
    simp only at h
    cases hd : vw e1 x with
    | none => rw [hd] at h; cases h
    | some d =>
      rw [hd] at h
      cases d with
      | int m =>
        simp only at h
        split at h
        · rename_i hf
          cases h
          obtain ⟨v, hv, dv⟩ := R.rel.dat i _ (.inl hi)
          cases dv
          refine ⟨_, hv, toE R h1 fun F1 H1 u R1 S1 O1 => ?_⟩
          exact ⟨n, m, rfl, (O1.vw R1.rel hd).int, k F1 _ H1 (put_rel R1 hf (fun y hy => by cases hy; exact .int _) (fun z => nomatch z) (fun _ z => nomatch z) (fun _ z => nomatch z) fun c z => nomatch z)⟩
        · cases h
      | _ => cases h
  · cases h

/-! ### len(set(t)), t a tuple of ints -/
def ddI : List Int → List Int
  | [] => []
  | x :: xs => if x ∈ xs then ddI xs else x :: ddI xs
theorem ddI_mem {x : Int} : ∀ {xs : List Int}, x ∈ ddI xs ↔ x ∈ xs
  | [] => by simp [ddI]
  | y :: ys => by
    unfold ddI
    split
    · rename_i h
      rw [ddI_mem, List.mem_cons]
      exact ⟨.inr, fun z => z.elim (fun e => e ▸ h) id⟩
    · rw [List.mem_cons, List.mem_cons, ddI_mem]
theorem ddI_nodup : ∀ xs : List Int, (ddI xs).Nodup
  | [] => by simp [ddI]
  | y :: ys => by
    unfold ddI
    split
    · exact ddI_nodup ys
    · rename_i h
      exact List.nodup_cons.mpr ⟨fun z => h (ddI_mem.mp z), ddI_nodup ys⟩
theorem len_sub : ∀ {l D : List Int}, l.Nodup → (∀ x ∈ l, x ∈ D) → l.length ≤ D.length
  | [], _, _, _ => Nat.zero_le _
  | x :: l, D, hn, hs => by
    obtain ⟨h1, h2⟩ := List.nodup_cons.mp hn
    have hx : x ∈ D := hs x List.mem_cons_self
    have ih := len_sub (D := D.erase x) h2 fun y hy => by
      have hne : y ≠ x := fun e => h1 (e ▸ hy)
      exact (List.mem_erase_of_ne hne).2 (hs y (List.mem_cons_of_mem _ hy))
    rw [List.length_erase_of_mem hx] at ih
    have : 0 < D.length := List.length_pos_of_mem hx
    simp only [List.length_cons]
    omega
def tLenSetT (K : PySem.W.Frag) (ta : TE) : TE := fun σ H Q => ta σ H fun x H1 => ∃ (l : Addr) (ns : List Int), x = .ref l ∧ SqT K H1 l (ns.map V.int) ∧ ns.length ≤ 4000 ∧ Q (.int ((ddI ns).length : Nat)) H1
theorem pe_lenSetT {ta : TE} {q : Pos} (hg : Gl X "len") (hm : X.mg "len" = none) (hg2 : Gl X "set") (hm2 : X.mg "set" = none) (ha : PE X a ta) (hc : X.calm = true)
    (na : starEach [a] X.env = (false, eval a X.env) :: starEach [] X.env := by rfl) (na2 : starEach [.Call (.Name "set" p2) [a] [] q] X.env = (false, eval (.Call (.Name "set" p2) [a] [] q) X.env) :: starEach [] X.env := by rfl) : PE X (.Call (.Name "len" p) [.Call (.Name "set" p2) [a] [] q] [] pos) (tLenSetT X.K ta) := by
  refine ⟨fun pins s σ H Q I h => ?_⟩
  refine Call_ (ld_blt I hg hm bo_len ?_)
  refine PyProof.Rows.callWith_builtin1 (PyProof.Rows.args_cons ?_ na2) na2 rfl
  refine Call_ (ld_blt I hg2 hm2 bo_set ?_)
  refine PyProof.Rows.callWith_type1 (PyProof.Rows.args_cons (thn (ha.run pins s σ H _ I h) fun v s1 ⟨x, H1, I1, r1, q1⟩ => PyProof.Rows.args_nil ?_) na) na rfl
  obtain ⟨l, ns, rfl, hq, hl, q1⟩ := q1
  cases r1
  obtain ⟨its, r, pl, hz⟩ := I1.tuple hq
  refine call_set_tupI ns (I1.ok.hd hc) pl (by simpa using r.ints) (by unfold scanBound; omega) fun h' tk c hS hcl hk => ?_
  refine PyProof.Rows.args_nil ?_
  obtain ⟨o, es, ep, t, ho, hex, hd, _, hnd, hmem, _, hf, hn, _⟩ := hS
  have I2 : Inv X pins σ H1 { s1 with heap := h', toks := tk } := I1.kept hk
  have e1 : es.size = (ddI ns).length := by
    have e2 : es.size = (es.toList.map keyOf).length := by simp
    rw [e2]
    refine Nat.le_antisymm (len_sub hnd fun x hx => ddI_mem.mpr ?_) (len_sub (ddI_nodup ns) fun x hx => (hmem x).mp ?_)
    · exact of_decide_eq_true ((hmem x).mpr hx)
    · exact decide_eq_true (ddI_mem.mp hx)
  exact call_len_set ho hex hd hf (by rw [hn]; omega) ⟨.int ((ddI ns).length : Nat), H1, I2.tok _, ⟨_, by rw [e1]⟩, q1⟩
def gLenSet : PyData → Option Rv
  | .tuple xs => (intsD xs).bind fun ns => if decide (ns.length ≤ 4000) then some (.v (.int ((ddI ns).length : Nat))) else none
  | _ => none
theorem dn_lenSet {q : Pos} (hc : X.calm = true) (hg : Gl X "len") (hm : X.mg "len" = none) (hg2 : Gl X "set") (hm2 : X.mg "set" = none) (ha : Den X a fa)
    (na : starEach [a] X.env = (false, eval a X.env) :: starEach [] X.env := by rfl) (na2 : starEach [.Call (.Name "set" p2) [a] [] q] X.env = (false, eval (.Call (.Name "set" p2) [a] [] q) X.env) :: starEach [] X.env := by rfl) :
    Den X (.Call (.Name "len" p) [.Call (.Name "set" p2) [a] [] q] [] pos) (c1 gLenSet fa) := PE.mono (pe_lenSetT hg hm hg2 hm2 ha hc na na2) fun σ H Q q => by
  obtain ⟨H0, B, F, e, op, e', R, he, k⟩ := c1_at q
  refine ⟨H0, B, F, e, op, e', R, he, fun F1 H1 v R1 S1 O1 => ?_⟩
  obtain ⟨F2, d, r, dm, V, hg, kk⟩ := k F1 H1 v R1 S1 O1
  unfold gLenSet at hg
  split at hg
  · obtain ⟨ns, h4, hg⟩ := bind_some hg
    split at hg
    · rename_i hz
      cases hg
      obtain ⟨a, vs, rfl, a1, a2⟩ := V.tup
      rw [intsD_eq h4] at a1
      rw [a1.mapInt] at a2
      exact ⟨a, ns, rfl, a2, of_decide_eq_true hz, now dm kk (.int _)⟩
    · cases hg
  · cases hg
end
end MP

/-! A22: dicts that are read, at the level of Den; a list comprehension over a dict's keys; tuple * int for small counts. -/
namespace MP
open PySem PySem.Spec L2
open PyProof.Rows hiding St intKind ItemsAre
section
variable {X : Cx} {a b : Expr} {fa fb : CE} {pos : Pos}
theorem dn_in (hu : X.A.units + 64 < cLine) (ha : Den X a fa) (hb : Den X b fb) (hm : behindInMarks .In b = false := by rfl) : Den X (.Compare a [.In] [b] pos) (c2 gIn fa fb) := dn_cmp ((op_inS' hu).or (op_xIn hu)) g_in ha hb hm
theorem dn_notIn (hu : X.A.units + 64 < cLine) (ha : Den X a fa) (hb : Den X b fb) (hm : behindInMarks .NotIn b = false := by rfl) : Den X (.Compare a [.NotIn] [b] pos) (c2 gNotIn fa fb) := dn_cmp ((op_notInS' hu).or (op_xNotIn hu)) g_notIn ha hb hm
theorem dt_in (hu : X.A.units + 64 < cLine) (ha : Den X a fa) (hb : Den X b fb) (hm : behindInMarks .In b = false := by rfl) : DenT X (.Compare a [.In] [b] pos) (tV (c2 gIn fa fb)) := dt_cmp ((op_inS' hu).or (op_xIn hu)) g_in ha hb hm
theorem dt_notIn (hu : X.A.units + 64 < cLine) (ha : Den X a fa) (hb : Den X b fb) (hm : behindInMarks .NotIn b = false := by rfl) : DenT X (.Compare a [.NotIn] [b] pos) (tV (c2 gNotIn fa fb)) := dt_cmp ((op_notInS' hu).or (op_xNotIn hu)) g_notIn ha hb hm
theorem IxR.or {r r' : R2} (h : IxR X r) (h' : IxR X r') : IxR X (fun x y H Q => r x y H Q ∨ r' x y H Q) := by
  intro value slice pins s σ H x y v u Q I rx ry q hs
  exact q.elim (fun q => h value slice pins s σ H x y v u Q I rx ry q hs) fun q => h' value slice pins s σ H x y v u Q I rx ry q hs
theorem dn_ixA (hu : X.A.units + 64 < cLine) (ha : Den X a fa) (hb : Den X b fb) (hs : PlainIx b := by intro _ _; rfl) : Den X (.Subscript a b pos) (c2 gIx fa fb) := dn_ix (IxR.or ix_seq (ix_xd hu)) g_ix ha hb hs
end
/-! ### the keys of a dict that is locked -/
def Itx (d : Addr) (o : Obj) (r : List XE) : It :=
  ⟨fun i H => H d = some (.frz o (xdO d r)) ∧ i < r.length, fun i H x H' => H' = H ∧ ∃ y : XE, r[i]? = some y ∧ x = .ref y.2.1, fun i H => H d = some (.frz o (xdO d r)) ∧ r.length ≤ i⟩
section
variable {X : Cx} {pins : List (Addr × Obj)} {σ : St} {H : Hp} {s : Shared} {d : Addr} {o : Obj}
theorem frz_xd {r : List XE} (I : Inv X pins σ H s) (h : H d = some (.frz o (xdO d r))) : (d == sysModules) = false ∧ s.heap.get? d = some o ∧ o.ExactDict ∧ ∃ (es : Array DictEntry) (ep : Nat), o.data = .dict es ep ∧ es.size = r.length ∧
    ∀ (i : Nat) (y : XE), r[i]? = some y → ∃ en : DictEntry, es[i]? = some en ∧ en.key = .ref y.2.1 := by
  obtain ⟨hd, ⟨z, hs, xs, xp, o', es, ep, h1, h2, h3, h4, h5⟩, _⟩ := I.hok d _ h
  rw [hd] at h1
  cases h1
  have he := h4 X.prog X.w
  have l1 : es.size = xs.length := size_of_entries he
  have l2 : r.length = xs.length := Paired.length xp
  refine ⟨hs, hd, h2, es, ep, h3, by omega, fun i y e => ?_⟩
  obtain ⟨b, hb, e1, e2, _⟩ := paired_get xp e
  have q := entry_at he i
  rw [hb] at q
  exact ⟨_, q, by rw [e2]; rfl⟩
theorem turn_xkeys {P : Program} {w : World} {K : PySem.W.Frag} {tg : Expr} {es : Array DictEntry} {ep : Nat} {r : List XE} (it : Addr) (hod : o.data = .dict es ep) : Turn P w K tg (Itx d o r) [it] it (fun i h => h.IsKeyIter it d i r.length ep) where
  mem := by simp
  obj := fun i h st b hb => by
    have e : b = it := by simpa using hb
    subst e
    obtain ⟨oi, e, c, dd⟩ := st
    exact ⟨oi, e, fun v z => by rw [dd] at z; cases z⟩
  keep := fun i h h' st k => st.at fun oi e => k it (by simp) oi e
  item := by
    intro X hP hw hK hc i pins s σ H E I hf st hg
    subst hP hw hK
    obtain ⟨hd, hi⟩ := hg
    obtain ⟨f0, f1, f2, f3, f4, f5⟩ := hf it (by simp)
    obtain ⟨hs, hgd, hx, es', ep', hdt, hsz, ent⟩ := frz_xd I hd
    obtain ⟨rfl, rfl⟩ := dict_ep hod hdt
    obtain ⟨y, hy⟩ : ∃ p, r[i]? = some p := ⟨r[i], List.getElem?_eq_getElem hi⟩
    obtain ⟨en, hen, hkey⟩ := ent i y hy
    refine next_key_item st hgd hdt hsz hen fun h' st' sb => ?_
    have I1 : Inv X pins σ H { s with heap := h' } := I.turned (t' := s.toks) (fun b ob hb e => (sb.2 b hb).trans e) f0 f1 f3 f4 f5
    obtain ⟨oi, e, c, dd⟩ := id st'
    exact ⟨en.key, rfl, go_of (s := { s with heap := h' }) e c dd (by decide) ⟨.ref y.2.1, H, I1, hkey, ⟨rfl, y, hy, rfl⟩, st', fun b hb => (hf b hb).1⟩⟩
  done := by
    intro X hP hw hK hc i pins s σ H E I hf st hg
    subst hP hw hK
    obtain ⟨hd, hi⟩ := hg
    obtain ⟨f0, f1, f2, f3, f4, f5⟩ := hf it (by simp)
    obtain ⟨hs, hgd, hx, es', ep', hdt, hsz, ent⟩ := frz_xd I hd
    obtain ⟨rfl, rfl⟩ := dict_ep hod hdt
    exact next_key_end (I.ok.hd hc) st hgd hdt hsz hi fun h' eb => ⟨rfl, I.turned (t' := s.toks) (fun b ob hb e => eb b ob hb e) f0 f1 f3 f4 f5⟩
  self := fun A i s Q E st h => by
    refine wpAny_pyIter_slot st.typeIs F.slot_dict_keyiterator_iter (wpAny_call_entry F.slot_dict_keyiterator_iter st.typeIs F.entry_dict_keyiterator_iter ?_ (F.args_dict_keyiterator_iter_1 _))
    show wpAny _ _ (ret (.ref it)) _ _ s
    exact wpAny_pure ⟨_, rfl, "dict_keyiterator", _, st.typeIs, F.slot_dict_keyiterator_next.lookup, h⟩
def iXKeys (td : TE) : TI := fun σ H R => td σ H fun x H1 => ∃ d o r, x = .ref d ∧ H1 d = some (.frz o (xdO d r)) ∧ R (Itx d o r) H1
theorem pi_xkeys {tg e : Expr} {td : TE} (he : PE X e td) : PI X tg e (iXKeys td) := by
  refine ⟨fun pins s σ H R I h => ?_⟩
  refine thn (he.run pins s σ H _ I h) fun u s1 ⟨x, H1, I1, rx, d, o, r, ex, hd, q⟩ => ?_
  subst ex
  obtain rfl : u = Value.ref d := rx
  obtain ⟨hs, hgd, hx, es, ep, hdt, hsz, ent⟩ := frz_xd I1 hd
  refine iter_keys hs hgd hx hdt (pi_one (tk := s1.toks) I1 _ (turn_xkeys _ hdt) ⟨_, Heap.get?_push_size _ rfl, rfl, ?_⟩ q)
  rw [hsz] <;> rfl
theorem walk_xkeys {K : PySem.W.Frag} {r : List XE} {kvs : Kv} {Z : Hp} {F0 : Addr → Prop} {H0 : Hp} (hz : Z d = some (.frz o (xdO d r))) (dk : DKl K F0 H0 r kvs) : WalkOf K (Itx d o r) Z F0 H0 (kvs.map fun p => kD p.1) where
  go := fun i F H hi k dm hZ => by
    rw [List.length_map, ← dk.length] at hi
    refine ⟨⟨hZ d _ hz, hi⟩, fun x H' hy => ?_⟩
    obtain ⟨rfl, y, hy, rfl⟩ := hy
    obtain ⟨q, q1, q2⟩ := DAll.getV (i := i) (v := V.ref y.2.1) (dkl_keys dk) (by rw [List.getElem?_map, hy]; rfl)
    exact ⟨F, q, .refl dm, q1, q2.keep k⟩
  stop := fun F H k hZ => ⟨hZ d _ hz, by rw [List.length_map, ← dk.length]; exact Nat.le_refl _⟩
end
/-- the keys of the locked dict in a slot -/
def iLkD (i : Nat) : CI := fun e => match e[i]? with
  | some (.lk (.dct kvs)) => some (kvs.map (fun p => kD p.1), [], e)
  | _ => none
theorem lkd_at {K : PySem.W.Frag} {σ : St} {H : Hp} {R : It → Hp → Prop} {i : Nat} {d : Addr} {o : Obj} {r : List XE} (hs : σ[i]? = some (some (V.ref d))) (hd : H d = some (.frz o (xdO d r))) (q : tI K (iLkD i) σ H R) : iXKeys (tVar i) σ H R := by
  obtain ⟨H0, B, F, e, xs, wk, e', R1, he, k⟩ := q
  unfold iLkD at he
  split at he
  rotate_left
  · cases he
  rename_i kvs hi
  cases he
  obtain ⟨a, s1, ⟨r', q1, q2⟩, q3⟩ := R1.lk i _ hi
  rw [hs] at s1
  cases s1
  have hd' : H d = some (.frz o (xdO d r')) := by
    rcases q1 with q1 | ⟨o', q1⟩
    · rw [hd] at q1; exact nomatch q1
    · rw [hd] at q1
      have e1 := Option.some.inj q1
      injection e1 with e2 e3
      rw [hd, e3]
  refine ⟨_, hs, d, o, r', rfl, hd', k F H _ (fun b => if b = d then some (.frz o (xdO d r')) else none) R1 .refl ⟨fun b u hb => ?_, fun _ h => (nomatch h), List.nodup_nil⟩ (walk_xkeys (by simp) (q2.l rfl))⟩
  by_cases hbd : b = d
  · subst hbd
    simp at hb; subst hb
    refine ⟨hd', q3, fun j c hj hs' => ?_⟩
    have := R1.inj i j _ _ _ (.inr hi) (.inl hj) hs hs'
    subst this
    rw [hi] at hj; cases hj
  · simp [hbd] at hb
/-- [.. for .. in d if ..] -/
def cLcD (i : Nat) (vs : List Nat) (g : CG) (t : CT) (a : CE) : CE := fun e => match e[i]? with
  | some (.own (.dct kvs)) => (cLc vs (iLkD i) g t a (e.set i (.lk (.dct kvs)))).bind fun (x, e1) => match x, e1[i]? with
    | .o c, some (.lk (.dct kvs')) => some (.o c, e1.set i (.own (.dct kvs')))
    | _, _ => none
  | _ => none
section
variable {K : PySem.W.Frag} {H0 : Hp} {B F : Addr → Prop} {σ : St} {H : Hp} {e : En}
theorem own_inj (R : Rel K H0 B F σ H e) {i j : Nat} {a : Addr} {c : Ct} (hi : e[i]? = some (Sl.own c)) (hs : σ[i]? = some (some (V.ref a))) {c' : Ct} (hj : e[j]? = some (Sl.own c') ∨ e[j]? = some (Sl.lk c')) (hs' : σ[j]? = some (some (V.ref a))) : j = i := (R.inj i j a c c' (.inl hi) hj hs hs').symm
theorem set_cases {e : En} {i j : Nat} {s t : Sl} (h : (e.set i s)[j]? = some t) : (j = i ∧ t = s) ∨ (j ≠ i ∧ e[j]? = some t) := by
  by_cases hj : j = i
  · subst hj
    rw [List.getElem?_set] at h
    simp at h
    exact .inl ⟨rfl, h.2.symm⟩
  · rw [List.getElem?_set_ne (Ne.symm hj)] at h
    exact .inr ⟨hj, h⟩
theorem lockD_rel (R : Rel K H0 B F σ H e) {i : Nat} {kvs : Kv} {d : Addr} {r : List XE} {o : Obj} (hi : e[i]? = some (Sl.own (.dct kvs))) (hs : σ[i]? = some (some (V.ref d))) (nF : ¬ F d) (dk : DKv K F H r (kvs.map fun p => (kD p.1, p.2))) (hb : H0 d = none ∨ B d) :
    Rel K H0 B F σ (upd H d (.frz o (xdO d r))) (e.set i (.lk (.dct kvs))) := by
  have k : Keep F H F (upd H d (.frz o (xdO d r))) := ⟨fun _ h => h, fun a u hf ha => by rw [upd_ne (by rintro rfl; exact nF hf)]; exact ha⟩
  have dm : ∀ a, F a → upd H d (.frz o (xdO d r)) a ≠ none := fun a ha => by
    rw [upd_ne (by rintro rfl; exact nF ha)]; exact R.dom a ha
  have pre : ∀ {j : Nat} {c : Ct}, ((e.set i (.lk (.dct kvs)))[j]? = some (Sl.own c) ∨ (e.set i (.lk (.dct kvs)))[j]? = some (Sl.lk c)) → ∃ c', e[j]? = some (Sl.own c') ∨ e[j]? = some (Sl.lk c') := fun {j c} h => by
    rcases h with h | h
    · rcases set_cases h with ⟨_, q⟩ | ⟨_, q⟩
      · cases q
      · exact ⟨_, .inl q⟩
    · rcases set_cases h with ⟨rfl, q⟩ | ⟨_, q⟩
      · exact ⟨_, .inl hi⟩
      · exact ⟨_, .inr q⟩
  refine ⟨by rw [List.length_set]; exact R.len, dm, fun j x h => ?_, fun j c h => ?_, fun j c h => ?_, fun j l a c c' hj hl sj sl => ?_, fun a u ha hb' => ?_, dm⟩
  · have h : e[j]? = some (Sl.d x) ∨ e[j]? = some (Sl.e x) := by
      rcases h with h | h
      · rcases set_cases h with ⟨_, q⟩ | ⟨_, q⟩
        · cases q
        · exact .inl q
      · rcases set_cases h with ⟨_, q⟩ | ⟨_, q⟩
        · cases q
        · exact .inr q
    obtain ⟨v, q1, q2⟩ := R.dat j x h
    exact ⟨v, q1, q2.keep k⟩
  · rcases set_cases h with ⟨_, q⟩ | ⟨hj, q⟩
    · cases q
    · obtain ⟨a, q1, q2, q3, q4⟩ := R.own j c q
      exact ⟨a, q1, q2.keep k fun u hu => by rw [upd_ne (by rintro rfl; exact hj (own_inj R hi hs (.inl q) q1))]; exact hu, q3, q4⟩
  · rcases set_cases h with ⟨rfl, q⟩ | ⟨hj, q⟩
    · cases q
      exact ⟨d, hs, ⟨r, .inr ⟨o, upd_same⟩, dk.keep k⟩, nF⟩
    · obtain ⟨a, q1, q2, q3⟩ := R.lk j c q
      exact ⟨a, q1, q2.keep k fun u hu => by rw [upd_ne (by rintro rfl; exact hj (own_inj R hi hs (.inr q) q1))]; exact hu, q3⟩
  · obtain ⟨c1, h1⟩ := pre hj
    obtain ⟨c2, h2⟩ := pre hl
    exact R.inj j l a c1 c2 h1 h2 sj sl
  · rw [upd_ne (by rintro rfl; exact hb.elim (fun z => by rw [z] at ha; cases ha) hb')]
    exact R.frame a u ha hb'
theorem thawD_rel (R : Rel K H0 B F σ H e) {i : Nat} {kvs : Kv} {d : Addr} {r : List XE} (hi : e[i]? = some (Sl.lk (.dct kvs))) (hs : σ[i]? = some (some (V.ref d))) (dk : DKv K F H r (kvs.map fun p => (kD p.1, p.2))) (hb : H0 d = none ∨ B d) :
    Rel K H0 B F σ (upd H d (xdO d r)) (e.set i (.own (.dct kvs))) := by
  obtain ⟨a, s1, _, nF⟩ := R.lk i _ hi
  rw [hs] at s1
  cases s1
  have k : Keep F H F (upd H d (xdO d r)) := ⟨fun _ h => h, fun a u hf ha => by rw [upd_ne (by rintro rfl; exact nF hf)]; exact ha⟩
  have dm : ∀ a, F a → upd H d (xdO d r) a ≠ none := fun a ha => by
    rw [upd_ne (by rintro rfl; exact nF ha)]; exact R.dom a ha
  have inj : ∀ {j : Nat} {c : Ct}, (e[j]? = some (Sl.own c) ∨ e[j]? = some (Sl.lk c)) → σ[j]? = some (some (V.ref d)) → j = i := fun {j c} hj sj => R.inj j i _ _ _ hj (.inr hi) sj hs
  have pre : ∀ {j : Nat} {c : Ct}, ((e.set i (.own (.dct kvs)))[j]? = some (Sl.own c) ∨ (e.set i (.own (.dct kvs)))[j]? = some (Sl.lk c)) → ∃ c', e[j]? = some (Sl.own c') ∨ e[j]? = some (Sl.lk c') := fun {j c} h => by
    rcases h with h | h
    · rcases set_cases h with ⟨rfl, q⟩ | ⟨_, q⟩
      · exact ⟨_, .inr hi⟩
      · exact ⟨_, .inl q⟩
    · rcases set_cases h with ⟨_, q⟩ | ⟨_, q⟩
      · cases q
      · exact ⟨_, .inr q⟩
  refine ⟨by rw [List.length_set]; exact R.len, dm, fun j x h => ?_, fun j c h => ?_, fun j c h => ?_, fun j l a c c' hj hl sj sl => ?_, fun a u ha hb' => ?_, dm⟩
  · have h : e[j]? = some (Sl.d x) ∨ e[j]? = some (Sl.e x) := by
      rcases h with h | h
      · rcases set_cases h with ⟨_, q⟩ | ⟨_, q⟩
        · cases q
        · exact .inl q
      · rcases set_cases h with ⟨_, q⟩ | ⟨_, q⟩
        · cases q
        · exact .inr q
    obtain ⟨v, q1, q2⟩ := R.dat j x h
    exact ⟨v, q1, q2.keep k⟩
  · rcases set_cases h with ⟨rfl, q⟩ | ⟨hj, q⟩
    · cases q
      exact ⟨d, hs, ⟨r, upd_same, dk.keep k⟩, nF, hb⟩
    · obtain ⟨a, q1, q2, q3, q4⟩ := R.own j c q
      exact ⟨a, q1, q2.keep k fun u hu => by rw [upd_ne (by rintro rfl; exact hj (inj (.inl q) q1))]; exact hu, q3, q4⟩
  · rcases set_cases h with ⟨_, q⟩ | ⟨hj, q⟩
    · cases q
    · obtain ⟨a, q1, q2, q3⟩ := R.lk j c q
      exact ⟨a, q1, q2.keep k fun u hu => by rw [upd_ne (by rintro rfl; exact hj (inj (.inr q) q1))]; exact hu, q3⟩
  · obtain ⟨c1, h1⟩ := pre hj
    obtain ⟨c2, h2⟩ := pre hl
    exact R.inj j l a c1 c2 h1 h2 sj sl
  · rw [upd_ne (by rintro rfl; exact hb.elim (fun z => by rw [z] at ha; cases ha) hb')]
    exact R.frame a u ha hb'
end
theorem dn_lcD {X : Cx} {i : Nat} {elt tg iter : Expr} {ifs : List Expr} {scope : Scope} {own : List (Str × Nat)} {pos : Pos} {gg : TG} {g : CG} {t : CT} {a : CE} (hc : X.calm = true) (hN : X.N.Nodup) (hi : PE X iter (tVar i)) (ok : BlkOk X.N X.env.scope scope own)
    (hg : ∀ (s : Shared) (H : Hp) (C : Addr) (cl : List (Str × Addr)) (fp : List Addr), PG (X.blk s H scope (compEnvC scope cl C X.env) fp) tg gg) (hl : DenL X.K (own.map (·.2)) gg g)
    (ht : ∀ (s : Shared) (H : Hp) (C : Addr) (cl : List (Str × Addr)) (fp : List Addr), PTs (X.blk s H scope (compEnvC scope cl C X.env) fp) ifs (tTs X.K t))
    (he : ∀ (s : Shared) (H : Hp) (C : Addr) (cl : List (Str × Addr)) (fp : List Addr), Den (X.blk s H scope (compEnvC scope cl C X.env) fp) elt a) (hs : ∀ x, foldedSetIterable iter X.env x = pure x := by intro _; rfl) :
    Den X (.ListComp elt [⟨tg, iter, ifs, 0⟩] scope pos) (cLcD i (own.map (·.2)) g t a) := PE.mono (pe_lock (pe_lc hc hN (pi_xkeys hi) ok hg ht he hs)) fun σ H Q q => by
  obtain ⟨H0, B, F, e, op, e', R, h, k⟩ := q
  unfold cLcD at h
  split at h
  rotate_left
  · cases h
  rename_i kvs hei
  obtain ⟨⟨x, e1⟩, h1, h⟩ := bind_some h
  simp only at h
  split at h
  rotate_left
  · cases h
  rename_i c kvs' he1
  cases h
  obtain ⟨d, hsi, ⟨r, hd, dk⟩, nF, hb⟩ := R.own i _ hei
  refine ⟨d, xdO d r, hd, True.intro, fun od => ?_⟩
  have R1 := lockD_rel (o := od) R hei hsi nF dk hb
  have hn1 : ¬ Ow σ (e.set i (.lk (.dct kvs))) d := by
    rintro ⟨j, c', hj, sj⟩
    rcases set_cases hj with ⟨_, q⟩ | ⟨hj', q⟩
    · cases q
    · exact hj' (own_inj R hei hsi (.inl q) sj)
  have key : tLc (tI X.K (iLkD i)) gg (tTs X.K t) (tE X.K a) (own.map (·.2)) σ (upd H d (.frz od (xdO d r))) fun v H' => H' d = some (.frz od (xdO d r)) ∧ Q v (upd H' d (xdO d r)) := by
    refine lc_run hl ⟨H0, B, F, _, _, _, R1, h1, fun F' H' v R2 S2 O2 => ?_⟩
    have hd2 : H' d = some (.frz od (xdO d r)) := S2.at_ d _ upd_same hn1
    refine ⟨hd2, ?_⟩
    -- the slot behind: locked as before
    have hlk : (e.set i (Sl.lk (.dct kvs)))[i]? = some (Sl.lk (.dct kvs)) := by
      rw [List.getElem?_set]; simp [(List.getElem?_eq_some_iff.mp hei).1]
    obtain ⟨s, q1, q2⟩ := S2.sls.sl i _ he1
    rw [hlk] at q1
    cases q1
    cases q2
    have dk2 : DKv X.K F' H' r (kvs.map fun p => (kD p.1, p.2)) := by
      have k1 : Keep F H F (upd H d (.frz od (xdO d r))) := ⟨fun _ h => h, fun a u hf ha => by rw [upd_ne (by rintro rfl; exact nF hf)]; exact ha⟩
      exact (dk.keep k1).keep (S2.keep R1)
    have R3 := thawD_rel R2 he1 hsi dk2 hb
    obtain ⟨_, _, _, nF2⟩ := R2.lk i _ he1
    have nF' : ¬ F' d := by
      obtain ⟨a', s1, _, z⟩ := R2.lk i _ he1
      rw [hsi] at s1; cases s1
      exact z
    have len2 := S2.sls.len
    rw [List.length_set] at len2
    have S3 : Step F H σ e F' (upd H' d (xdO d r)) (e1.set i (.own (.dct kvs))) := by
      refine ⟨⟨by rw [List.length_set]; exact len2, fun j s' hj => ?_⟩, S2.fr, fun b u hbu hno => ?_, fun b hb' => ?_, fun b hb' => ?_⟩
      · rcases set_cases hj with ⟨rfl, q⟩ | ⟨hj', q⟩
        · subst q; exact ⟨_, hei, .own _ _⟩
        · obtain ⟨s0, q1, q2⟩ := S2.sls.sl j s' q
          rcases set_cases q1 with ⟨z, _⟩ | ⟨_, q3⟩
          · exact absurd z hj'
          · exact ⟨s0, q3, q2⟩
      · have hbd : b ≠ d := by rintro rfl; exact hno ⟨i, _, hei, hsi⟩
        rw [upd_ne hbd]
        refine S2.at_ b u (by rw [upd_ne hbd]; exact hbu) ?_
        rintro ⟨j, c', hj, sj⟩
        rcases set_cases hj with ⟨_, q⟩ | ⟨_, q⟩
        · cases q
        · exact hno ⟨j, c', q, sj⟩
      · rcases S2.new b hb' with q | q | ⟨j, c', hj, sj⟩
        · exact .inl q
        · by_cases hbd : b = d
          · subst hbd; rw [upd_same] at q; cases q
          · rw [upd_ne hbd] at q; exact .inr (.inl q)
        · rcases set_cases hj with ⟨_, q⟩ | ⟨_, q⟩
          · cases q
          · exact .inr (.inr ⟨j, c', q, sj⟩)
      · by_cases hbd : b = d
        · subst hbd; rw [upd_same]; exact fun z => nomatch z
        · rw [upd_ne hbd]
          exact S2.dom b (by rw [upd_ne hbd]; exact hb')
    refine k F' _ v R3 S3 ?_
    obtain ⟨p, rfl, o1, o2, o3, o4, o5⟩ := O2
    have hpd : p ≠ d := by rintro rfl; rw [upd_same] at o3; cases o3
    have kk : Keep F' H' F' (upd H' d (xdO d r)) := ⟨fun _ h => h, fun a u hf ha => by rw [upd_ne (by rintro rfl; exact nF' hf)]; exact ha⟩
    refine ⟨p, rfl, o1.keep kk fun u hu => by rw [upd_ne hpd]; exact hu, o2, by rw [upd_ne hpd] at o3; exact o3, ?_, ?_⟩
    · rintro ⟨j, c', hj, sj⟩
      rcases set_cases hj with ⟨rfl, _⟩ | ⟨_, q⟩
      · rw [hsi] at sj; cases sj; exact hpd rfl
      · exact o4 ⟨j, c', q, sj⟩
    · rintro ⟨j, c', hj, sj⟩
      rcases set_cases hj with ⟨_, q⟩ | ⟨_, q⟩
      · cases q
      · exact o5 ⟨j, c', q, sj⟩
  exact lkd_at hsi upd_same key
end MP

/-! A23: tuple * 1. -/
namespace MP
open PySem PySem.Spec L2
open PyProof.Rows hiding St intKind ItemsAre
theorem tuple_mul1 (l : Addr) (items : Array Value) (n : Nat) (dd : Option Addr) (sl : Array (Option Value)) (u : Tok) :
    Meets (Builtin.«tuple.__mul__» ⟨[.ref l, .int 1 u], []⟩) (fun _ R s => s.heap.get? l = some { cls := .type "tuple", dict := dd, data := .seq items n, slots := sl } ∧
      R (.ok (.ret (Value.ref l))) s) :=
  .of_wp fun prog w A R s h => by
    obtain ⟨hp, g, d, tk, os⟩ := s
    obtain ⟨hl, h⟩ := h
    have f1 := AutoSeq1.idx_int
    have c0 : (decide ((1 : Int) < -(2 ^ 63)) || decide ((1 : Int) ≥ 2 ^ 63)) = false := by decide
    have c1 : (items.isEmpty || (1 : Int) == 1) = true := by simp
    wp_walk using wpAny_loadPart' hl
    exact ⟨_, rfl, h⟩
def rRepT1 (K : PySem.W.Frag) : R2 := fun x y H Q => ∃ l xs, x = .ref l ∧ y = .int 1 ∧ SqT K H l xs ∧ Q (.ref l) H
section
variable {X : Cx}
theorem op_repT1 : OpR X (binaryOp .Mult) (rRepT1 X.K) := by
  intro pins s σ H x y v u Q I rx ry h
  obtain ⟨l, xs, rfl, rfl, hT, q⟩ := h
  cases rx
  obtain ⟨t, rfl⟩ := ry
  obtain ⟨its, r, ⟨⟨cls, dd, data, sl⟩, ho, hc, n, hd⟩, hs⟩ := I.tuple hT
  simp only at hc hd
  subst hc hd
  exact wpAny_binaryOp_repeat_ref (T := "tuple") (U := "int") (by decide) ⟨_, ho, rfl⟩ (fun s' => typeIs_int s' 1 t) noFill_tuple_mul F.fills_int_mul F.slot_int_rmul repeat_tuple F.slot_int_index.lookup
    (call_meets F.slot_int_rmul (typeIs_int s 1 t) F.entry_int_rmul (F.args_int_rmul_2 _ _) (int_rmul_tuple 1 t l its.toArray n dd sl)
      ⟨ho, rfl, ⟨_, ho, rfl⟩, call_meets F.slot_tuple_mul ⟨_, ho, rfl⟩ F.entry_tuple_mul (F.args_tuple_mul_2 _ _) (tuple_mul1 l its.toArray n dd sl t) ⟨ho, ⟨.ref l, H, I, rfl, q⟩⟩⟩)
def small64 (i : Int) : Bool := decide (-(2 ^ 64) < i) && decide (i < 2 ^ 64)
def gMulA : PyData → PyData → Option Rv := fun d d' => match d, d' with
  | .int i, .int j => if mulOk i j || small64 i || small64 j then some (.v (.int (i * j))) else none
  | .tuple xs, .int k => if k = 1 then some (.v (.tuple xs)) else gMul d d'
  | _, _ => gMul d d'
theorem small64_of {i : Int} (h : small64 i = true) : -(2 ^ 64) < i ∧ i < 2 ^ 64 := by
  unfold small64 at h
  simp only [Bool.and_eq_true, decide_eq_true_eq] at h
  exact h
def rMulB (K : PySem.W.Frag) : R2 := fun x y H Q => (rMulA K x y H Q ∨ rRepT1 K x y H Q) ∨ rI CMul (fun i j => .int (i * j)) x y H Q
theorem g_mulA {K : PySem.W.Frag} : G2x K (rMulB K) gMulA := fun F H x y d d' r Q dm h1 h2 hg k => by
  unfold gMulA at hg
  split at hg
  · split at hg
    · rename_i hz
      cases hg
      rw [h1.rv.int, h2.rv.int]
      simp only [Bool.or_eq_true] at hz
      rcases hz with (hz | hz) | hz
      · exact .inl (.inl (.inl ⟨_, _, rfl, rfl, (of_decide_eq_true hz : _ + _ < _), now dm k (.int _)⟩))
      · exact .inr ⟨_, _, rfl, rfl, .inl (small64_of hz), now dm k (.int _)⟩
      · exact .inr ⟨_, _, rfl, rfl, .inr (small64_of hz), now dm k (.int _)⟩
    · cases hg
  · split at hg
    · rename_i hk
      cases hg
      subst hk
      have dvx := h1
      rw [h2.rv.int]
      rcases h1 with h1 | ⟨a, c, rfl, hc, e⟩
      · obtain ⟨a, vs, rfl, a1, a2⟩ := (RX.rv (.inl h1)).tup
        exact .inl (.inr ⟨a, vs, rfl, rfl, a2, now dm k h1⟩)
      · cases c <;> cases e
    · exact .inl (.inl (g_mul F H x y _ _ r Q dm h1 h2 hg k))
  · exact .inl (.inl (g_mul F H x y _ _ r Q dm h1 h2 hg k))
variable {a b : Expr} {fa fb : CE} {pos : Pos}
theorem dn_mulA (ha : Den X a fa) (hb : Den X b fb) : Den X (.BinOp a .Mult b pos) (c2x gMulA fa fb) := dn_bin ((op_mulA.or op_repT1).or op_mul) g_mulA ha hb
end
end MP

/-! A24: the defs of a module joined; the law's own head. -/
namespace MP
open PySem PySem.Spec L2
open PyProof.Rows hiding St intKind ItemsAre
/-- a def of the module, under its name -/
structure Df (K : PySem.W.Frag) (mg : Str → Option Value) (x : Str) (st : Stmt) (ps : List Str) : Prop where
  ex : ∃ f fd, Fun K x x st f fd ∧ mg x = some (.ref f) ∧ ∀ us : List Value, us.length = ps.length → bindArgs fd ⟨us, []⟩ = pure (ps.zip us)
theorem df_mk {K : PySem.W.Frag} {h : Heap} {mg : Str → Option Value} {x : Str} {st : Stmt} {ps : List Str} (KX : K.In h) (G : h.Ns mainGlobals mg) {f : Addr} {oc : Value} {od an : Option Addr} {sl : Array (Option Value)} {kV dc pm cd ct : Value}
    (hb : ∀ (kV doc pm : Value) (an : Option Addr) (cdv ct : Value) (us : List Value), us.length = ps.length → bindArgs (PySem.W.fnOf x x (defArgs st) (defBody st) (defScope st) .none kV doc pm an cdv ct) ⟨us, []⟩ = pure (ps.zip us))
    (a : PySem.W.nsIn K mainGlobals x = some (some (.ref f))) (l : K.lookup f = some ⟨oc, od, .func (PySem.W.fnOf x x (defArgs st) (defBody st) (defScope st) .none kV dc pm an cd ct), sl⟩) (c : PySem.W.codeIn K cd x = true) (k : PySem.W.keepIn K (.ref f) = true) : Df K mg x st ps :=
  have F := fun_mk (st := st) l c k
  ⟨f, _, F, PySem.W.mg_of KX G a, hb _ _ _ _ _ _⟩
section
variable {P : Program} {w : World} {K : PySem.W.Frag} {mg : Str → Option Value} {base : Heap} {x : Str} {st : Stmt} {ps : List Str}
theorem Df.call (D : Df K mg x st ps) {n : Nat} {fn : List Sl → Option (Rv × List Sl)} (h : ∀ {f : Addr} {fd : FuncData}, Fun K x x st f fd → FnOk P w K mg base CX0 n f fd ps (spF K fn)) : CallOk P w K mg base n x fn := by
  obtain ⟨f, fd, F, m, b⟩ := D.ex
  exact ⟨f, fd, ps, h F, m, F.kp, .all b⟩
theorem Df.none (D : Df K mg x st ps) {n : Nat} : CallOk P w K mg base n x (fun _ => none) :=
  D.call fun F => ⟨fun vs H Q E ⟨_, _, _, _, _, h, _⟩ => (nomatch h), fun A outer s H args us vs Q E _ _ _ _ ⟨_, _, _, _, _, h, _⟩ => (nomatch h)⟩
end
theorem tup_mk {K : PySem.W.Frag} {h : Heap} {mg : Str → Option Value} {x : Str} {ks : List Int} (KX : K.In h) (G : h.Ns mainGlobals mg) {a : Addr} {o : Obj} {its : Array Value} {n : Nat}
    (e : PySem.W.nsIn K mainGlobals x = some (some (.ref a))) (l : K.lookup a = some o) (c : o.cls = .type "tuple") (d : o.data = .seq its n) (s : its.size ≤ sizeLine) (t : its.toList.map (fun v => match v with | .int i _ => some i | _ => none) = ks.map some) :
    ∃ (a : Addr) (o : Obj) (its : Array Value) (n : Nat), mg x = some (.ref a) ∧ K.lookup a = some o ∧ o.cls = .type "tuple" ∧ o.data = .seq its n ∧ its.size ≤ sizeLine ∧ its.toList.map (fun v => match v with | .int i _ => some i | _ => none) = ks.map some :=
  ⟨a, o, its, n, PySem.W.mg_of KX G e, l, c, d, s, t⟩
theorem all0 {p : Nat → Prop} : ∀ i : Nat, i < 0 → p i := fun _ h => absurd h (Nat.not_lt_zero _)
theorem alls {p : Nat → Prop} {n : Nat} (h : ∀ i : Nat, i < n → p i) (k : p n) : ∀ i : Nat, i < n + 1 → p i := fun i hi => by
  rcases Nat.lt_or_ge i n with h1 | h1
  · exact h i h1
  · have : i = n := by omega
    exact this ▸ k
/-! ### the script -/
def scriptD (ns : List Int) : PyData := .list (ns.map .int)
/-- what the law's def is called with: the locked list, or one of the module's own -/
def spLaw (K : PySem.W.Frag) : Sp := fun vs H Q _ => ∃ (a : Addr) (ns : List Int), vs = [.ref a] ∧ SqL K H a (ns.map V.int) ∧ (∀ b, H b = none ∨ ∃ o xs, H b = some (.frz o (.lst xs))) ∧ ns.length ≤ 63 ∧ (∀ z ∈ ns, Builtin.Int.intBits z ≤ 1048576) ∧ ∀ H', Q (.bl true) H'
theorem law_sp {K : PySem.W.Frag} {fn : List Sl → Option (Rv × List Sl)}
    (h : ∀ ns : List Int, ns.length ≤ 63 → (∀ z ∈ ns, Builtin.Int.intBits z ≤ 1048576) → ∀ s : Sl, s = .d (scriptD ns) ∨ s = .lk (.lst (ns.map .int)) → ∃ ps', fn [s] = some (.v (.bool true), ps')) :
    ∀ vs H Q E, spLaw K vs H Q E → spF K fn vs H Q E := fun vs H Q E q => by
  obtain ⟨a, ns, rfl, hS, hO, hl, hb, k⟩ := q
  have fin : ∀ {F : Addr → Prop} {s : Sl} {ps' : List Sl}, ∀ F' H' v, Post K F H [V.ref a] [s] F' H' v (.v (.bool true)) ps' → Q v H' := fun F' H' v p => by
    have := p.rv
    cases (show DV K F' H' v (.bool true) from this)
    exact k H'
  rcases hS with hS | ⟨o, its, n, h1, h2, h3, h4, h5, h6⟩
  · obtain ⟨ps', e⟩ := h ns hl hb _ (.inr rfl)
    refine ⟨fun _ => False, [.lk (.lst (ns.map .int))], _, _, ?_, e, fin⟩
    refine ⟨rfl, fun _ z => z.elim, fun i x hx => ?_, fun i c hi => ?_, fun i c hi => ?_, fun i j b c c' hi hj si sj => ?_, fun b o hb _ => hb, fun _ z => z.elim⟩
    · cases i with
      | zero => simp at hx
      | succ i => simp at hx
    · cases i with
      | zero => simp at hi
      | succ i => simp at hi
    · cases i with
      | zero =>
        simp at hi
        subst hi
        exact ⟨a, rfl, ⟨_, hS, DAll.ofInt ns⟩, fun z => z⟩
      | succ i => simp at hi
    · cases i with
      | zero =>
        cases j with
        | zero => rfl
        | succ j => simp at hj
      | succ i => simp at hi
  · obtain ⟨ps', e⟩ := h ns hl hb _ (.inl rfl)
    refine ⟨fun _ => False, [.d (scriptD ns)], _, _, ?_, e, fin⟩
    refine ⟨rfl, fun _ z => z.elim, fun i x hx => ?_, fun i c hi => ?_, fun i c hi => ?_, fun i j b c c' hi hj si sj => ?_, fun b o hb _ => hb, fun _ z => z.elim⟩
    · cases i with
      | zero =>
        simp at hx
        subst hx
        exact ⟨_, rfl, .lstK h1 h2 h3 h4 h5 h6 (DAll.ofInt ns)⟩
      | succ i => simp at hx
    · cases i with
      | zero => simp at hi
      | succ i => simp at hi
    · cases i with
      | zero => simp at hi
      | succ i => simp at hi
    · cases i with
      | zero => simp at hi
      | succ i => simp at hi
/-- the law's def, told once -/
theorem law_def {P : Program} {w : World} {K : PySem.W.Frag} {mg : Str → Option Value} {st : Stmt} {k : Nat} {fa : Addr} {fn : List Sl → Option (Rv × List Sl)} (D : Df K mg "law" st ["script"]) (hfa : mg "law" = some (.ref fa))
    (ok : ∀ {base : Heap} {f : Addr} {fd : FuncData}, Fun K "law" "law" st f fd → FnOk P w K mg base CX0 k f fd ["script"] (spF K fn))
    (h : ∀ ns : List Int, ns.length ≤ 63 → (∀ z ∈ ns, Builtin.Int.intBits z ≤ 1048576) → ∀ s : Sl, s = .d (scriptD ns) ∨ s = .lk (.lst (ns.map .int)) → ∃ ps', fn [s] = some (.v (.bool true), ps')) :
    ∃ fd : FuncData, (∀ (s : Shared) (v : Value), BindsTo s fd ⟨[v], []⟩ [("script", v)]) ∧ ∀ base : Heap, K.In base → base.Ns mainGlobals mg → FnOk P w K mg base CX0 k fa fd ["script"] (spLaw K) := by
  obtain ⟨f, fd, F, m, b⟩ := D.ex
  rw [hfa] at m
  cases m
  exact ⟨fd, fun s v => .of_eq (b [v] rfl), fun base _ _ => (ok F).imp (law_sp h)⟩
theorem walk {l : PySem.W.OpenLaw} {k : Nat} {q : Program} {loose : List Str} {XP : (Str → Option Value) → Heap → Prop} {YP : World → Heap → Prop} {d : DefRec} {K : Params → PySem.W.Frag} (hn : l.most = some 63) (hdf : d.params.defaults = []) (hr : Room k callerA)
    (hY : ∀ (w : World) (h : Heap), YP w h → (K w.params).In h)
    (F : ∀ (w : World) (mg : Str → Option Value) (fa : Addr) (h : Heap), (K w.params).In h → h.Ns mainGlobals mg → mg d.name = some (.ref fa) →
      ∃ fd : FuncData, (∀ (s : Shared) (u : Value), BindsTo s fd ⟨[u], []⟩ [("script", u)]) ∧ ∀ base : Heap, (K w.params).In base → base.Ns mainGlobals mg → FnOk l.prog w (K w.params) mg base CX0 k fa fd ["script"] (spLaw (K w.params))) :
    PySem.W.WalkO q loose XP YP l.row.toRowW d [] (fun f vs => PySem.call f vs) :=
  L2.walk_ofB (n := 63) (k := k) (x := "script") (CX := fun _ => CX0) (sp := fun w => spLaw (K w.params)) hn (by decide) hdf hr hY F (fun _ _ a ns hl hb hO hS => ⟨a, ns, rfl, hS, hO, hl, hb, fun _ => rfl⟩) fun _ _ _ _ _ z => z
end MP

/-! The combinators of the defs, in one numbering: written by walk.py and combs.py. -/
namespace MP
open PySem
def fuel : Nat := 4000000
def b_is_number (c : Orc) : CS := (sRet 1 (cAndV (c1 (gIsi [.int]) (cN 0)) (cNotV (c1 (gIsi [.bool]) (cN 0)))))
def b_is_between (c : Orc) : CS := (sRet 3 (cAndV (cCall (c 0) (aCons (cN 0) aNil)) (cCh gLe gLe (cN 1) (cN 0) (cN 2))))
def b_is_from (c : Orc) : CS := (sRet 2 (cAndV (cCall (c 0) (aCons (cN 0) aNil)) (c2 gGe (cN 0) (cN 1))))
def b_tuple_of (c : Orc) : CS := (sSeq (sIf (tV (c1 (gIsi [.list, .tuple]) (cN 0))) (sRet 1 (cB (g1 fTuple) (aCons (cLc [1] (iE (cN 0)) (gN 0 1) tYesT (cCall (c 3) (aCons (cN 1) aNil))) aNil))) sNil) (sRet 1 (cN 0)))
def b_is_tuple_of (c : Orc) : CS := (sRet 2 (cAndV (c1 (gIsi [.tuple]) (cN 0)) (c2 gEq (cB (g1 fLenA) (aCons (cN 0) aNil)) (cN 1))))
def b_sure (c : Orc) : CS := (sIf (tNot (tV (cN 0))) (fun _ => none) sNil)
def b_is_wide (c : Orc) : CS := (sRet 1 (cCall (c 1) (aCons (cN 0) (aCons (cK (.int 1)) (aCons (cK (.int 4)) aNil)))))
def b_sure_wide (c : Orc) : CS := (sExp (cCall (c 5) (aCons (cCall (c 6) (aCons (cN 0) aNil)) aNil)))
def b_lowest (c : Orc) : CS := (sSeq (sSet 2 2 (cB gGcd (aCons (cN 0) (aCons (cN 1) aNil)))) (sSeq (sIf (tV (c2 gLt (cN 1) (cK (.int 0)))) (sSet 2 2 (c1 gNeg (cN 2))) sNil) (sRet 2 (cTup (fCons (c2x gDiv (cN 0) (cN 2)) (fCons (c2x gDiv (cN 1) (cN 2)) fNil))))))
def b_is_fraction (c : Orc) : CS := (sSeq (sIf (tOr (tNot (tV (cCall (c 4) (aCons (cN 0) (aCons (cK (.int 2)) aNil))))) (tNot (tV (cB (g1 fAll) (aCons (cLc [1] (iE (cN 0)) (gN 0 1) tYesT (cCall (c 0) (aCons (cN 1) aNil))) aNil))))) (sRet 1 (cK (.bool false))) sNil) (sRet 1 (cAndV (c2 gGt (c2 gIx (cN 0) (cK (.int 1))) (cK (.int 0))) (c2 gEq (cB gGcd (aCons (c2 gIx (cN 0) (cK (.int 0))) (aCons (c2 gIx (cN 0) (cK (.int 1))) aNil))) (cK (.int 1))))))
def b_sure_fraction (c : Orc) : CS := (sSeq (sSet 1 1 (cCall (c 3) (aCons (cN 0) aNil))) (sSeq (sExp (cCall (c 5) (aCons (cCall (c 9) (aCons (cN 1) aNil)) aNil))) (sRet 1 (cN 1))))
def b_plus (c : Orc) : CS := (sSeq (sIf (tAnd (tV (c2 gEq (c2 gIx (cN 0) (cK (.int 1))) (cK (.int 1)))) (tV (c2 gEq (c2 gIx (cN 1) (cK (.int 1))) (cK (.int 1))))) (sRet 2 (cTup (fCons (c2x gAdd (c2 gIx (cN 0) (cK (.int 0))) (c2 gIx (cN 1) (cK (.int 0)))) (fCons (cK (.int 1)) fNil)))) sNil) (sRet 2 (cCall (c 8) (aCons (c2x gAdd (c2x gMulA (c2 gIx (cN 0) (cK (.int 0))) (c2 gIx (cN 1) (cK (.int 1)))) (c2x gMulA (c2 gIx (cN 1) (cK (.int 0))) (c2 gIx (cN 0) (cK (.int 1))))) (aCons (c2x gMulA (c2 gIx (cN 0) (cK (.int 1))) (c2 gIx (cN 1) (cK (.int 1)))) aNil)))))
def b_times (c : Orc) : CS := (sSeq (sIf (tAnd (tV (c2 gEq (c2 gIx (cN 0) (cK (.int 1))) (cK (.int 1)))) (tV (c2 gEq (c2 gIx (cN 1) (cK (.int 1))) (cK (.int 1))))) (sRet 2 (cTup (fCons (c2x gMulA (c2 gIx (cN 0) (cK (.int 0))) (c2 gIx (cN 1) (cK (.int 0)))) (fCons (cK (.int 1)) fNil)))) sNil) (sRet 2 (cCall (c 8) (aCons (c2x gMulA (c2 gIx (cN 0) (cK (.int 0))) (c2 gIx (cN 1) (cK (.int 0)))) (aCons (c2x gMulA (c2 gIx (cN 0) (cK (.int 1))) (c2 gIx (cN 1) (cK (.int 1)))) aNil)))))
def b_power (c : Orc) : CS := (sSeq (sSet 2 2 (cK (.tuple (([1, 1] : List Int).map .int)))) (sSeq (sFor (iRange1 (cN 1)) (gN 2 3) (sSet 2 2 (cCall (c 12) (aCons (cN 2) (aCons (cN 0) aNil))))) (sRet 2 (cN 2))))
def b_powers_order (c : Orc) : CS := (sRet 1 (cTup (fCons (c1 gNeg (cB (g1 fSum) (aCons (cN 0) aNil))) (fCons (cB (g1 fTuple) (aCons (cLc [1] (iE (cN 0)) (gN 0 1) tYesT (c1 gNeg (cN 1))) aNil)) fNil))))
def b_is_powers (c : Orc) : CS := (sSeq (sExp (cCall (c 7) (aCons (cN 0) aNil))) (sRet 2 (cAndV (cCall (c 4) (aCons (cN 1) (aCons (cN 0) aNil))) (cB (g1 fAll) (aCons (cLc [2] (iE (cN 1)) (gN 0 2) tYesT (cCall (c 2) (aCons (cN 2) (aCons (cK (.int 0)) aNil)))) aNil)))))
def b_is_term (c : Orc) : CS := (sRet 2 (cAndV (cCall (c 4) (aCons (cN 1) (aCons (cK (.int 2)) aNil))) (cAndV (cCall (c 19) (aCons (cN 0) (aCons (c2 gIx (cN 1) (cK (.int 0))) aNil))) (cAndV (cCall (c 9) (aCons (c2 gIx (cN 1) (cK (.int 1))) aNil)) (c2 gNe (c2 gIx (cN 1) (cK (.int 1))) (cK (.tuple (([0, 1] : List Int).map .int))))))))
def b_is_polynomial (c : Orc) : CS := (sSeq (sExp (cCall (c 7) (aCons (cN 0) aNil))) (sSeq (sIf (tOr (tNot (tV (c1 (gIsi [.tuple]) (cN 1)))) (tNot (tV (cB (g1 fAll) (aCons (cLc [3] (iE (cN 1)) (gN 0 3) tYesT (cCall (c 21) (aCons (cN 0) (aCons (cN 3) aNil)))) aNil))))) (sRet 2 (cK (.bool false))) sNil) (sSeq (sSet 2 2 (cLc [3] (iE (cN 1)) (gN 0 3) tYesT (cCall (c 18) (aCons (c2 gIx (cN 3) (cK (.int 0))) aNil)))) (sRet 2 (cB (g1 fAll) (aCons (cLc [4] (iRange1 (c2x gSub (cB (g1 fLenA) (aCons (cN 2) aNil)) (cK (.int 1)))) (gN 0 4) tYesT (c2 gLt (c2 gIx (cN 2) (cN 4)) (c2 gIx (cN 2) (c2x gAdd (cN 4) (cK (.int 1)))))) aNil))))))
def b_sure_polynomial (c : Orc) : CS := (sSeq (sSet 2 2 (cCall (c 3) (aCons (cN 1) aNil))) (sSeq (sExp (cCall (c 5) (aCons (cCall (c 22) (aCons (cN 0) (aCons (cN 2) aNil))) aNil))) (sRet 2 (cN 2))))
def b_added_to (c : Orc) : CS := (sSeq (sSet 3 3 (cIf (tV (c2 gIn (cN 1) (cN 0))) (cCall (c 11) (aCons (c2 gIx (cN 0) (cN 1)) (aCons (cN 2) aNil))) (cN 2))) (sIf (tV (c2 gNe (cN 3) (cK (.tuple (([0, 1] : List Int).map .int))))) (sAsg (gSubC stSub (cN 0) (cN 1)) (cN 3)) (sIf (tV (c2 gIn (cN 1) (cN 0))) (sDel (cN 0) (cN 1)) sNil)))
def b_made (c : Orc) : CS := (sSeq (sIf (tV (c2 gGt (cB (g1 fLenA) (aCons (cN 0) aNil)) (cK (.int 5000)))) (fun _ => none) sNil) (sRet 1 (cB (g1 fTuple) (aCons (cLc [1] (iE (c1 (gSortK false (c 18)) (cN 0))) (gN 0 1) tYesT (cTup (fCons (cN 1) (fCons (c2 gIx (cN 0) (cN 1)) fNil)))) aNil))))
def b_summed (c : Orc) : CS := (sSeq (sSet 1 1 cNewD) (sSeq (sFor (iE (cN 0)) (gN 1 2) (sFor (iE (cN 2)) (gT [(gN 1 3), (gN 1 4)]) (sExp (cCall (c 24) (aCons (cN 1) (aCons (cN 3) (aCons (cN 4) aNil))))))) (sRet 1 (cCall (c 25) (aCons (cN 1) aNil)))))
def b_product (c : Orc) : CS := (sSeq (sSet 2 2 cNewD) (sSeq (sFor (iE (cN 0)) (gT [(gN 2 3), (gN 2 4)]) (sFor (iE (cN 1)) (gT [(gN 2 5), (gN 2 6)]) (sExp (cCall (c 24) (aCons (cN 2) (aCons (cB (g1 fTuple) (aCons (cLc [7, 8] (iZip (cN 3) (cN 5)) (gT [(gN 0 7), (gN 0 8)]) tYesT (c2x gAdd (cN 7) (cN 8))) aNil)) (aCons (cCall (c 12) (aCons (cN 4) (aCons (cN 6) aNil))) aNil))))))) (sRet 2 (cCall (c 25) (aCons (cN 2) aNil)))))
def b_multiplied (c : Orc) : CS := (sSeq (sSet 2 2 (cCall (c 30) (aCons (cN 0) (aCons (cK (.tuple (([1, 1] : List Int).map .int))) aNil)))) (sSeq (sFor (iE (cN 1)) (gN 2 3) (sSet 2 2 (cCall (c 28) (aCons (cN 2) (aCons (cN 3) aNil))))) (sRet 2 (cN 2))))
def b_number (c : Orc) : CS := (sRet 2 (cIf (tV (c2 gEq (cN 1) (cK (.tuple (([0, 1] : List Int).map .int))))) (cTup fNil) (cTup (fCons (cTup (fCons (c2x gMulA (cTup (fCons (cK (.int 0)) fNil)) (cN 0)) (fCons (cN 1) fNil))) fNil))))
def b_sum_plus (c : Orc) : CS := (sRet 3 (cCall (c 26) (aCons (cLst (fCons (cCall (c 23) (aCons (cN 0) (aCons (cN 1) aNil))) (fCons (cCall (c 23) (aCons (cN 0) (aCons (cN 2) aNil))) fNil))) aNil)))
def b_sum_times (c : Orc) : CS := (sSeq (sPar 3 [3, 4] (aCons (cCall (c 23) (aCons (cN 0) (aCons (cN 1) aNil))) (aCons (cCall (c 23) (aCons (cN 0) (aCons (cN 2) aNil))) aNil))) (sRet 3 (cCall (c 28) (aCons (cN 3) (aCons (cN 4) aNil)))))
def b_top_degree (c : Orc) : CS := (sRet 1 (cIf (tV (c2 gNe (cN 0) (cTup fNil))) (cB (g1 fSum) (aCons (c2 gIx (c2 gIx (cN 0) (cK (.int 0))) (cK (.int 0))) aNil)) (c1 gNeg (cK (.int 1)))))
def b_degree_of (c : Orc) : CS := (sRet 2 (cCall (c 36) (aCons (cCall (c 23) (aCons (cN 0) (aCons (cN 1) aNil))) aNil)))
def b_is_point (c : Orc) : CS := (sSeq (sExp (cCall (c 7) (aCons (cN 0) aNil))) (sRet 2 (cAndV (cCall (c 4) (aCons (cN 1) (aCons (cN 0) aNil))) (cB (g1 fAll) (aCons (cLc [2] (iE (cN 1)) (gN 0 2) tYesT (cCall (c 9) (aCons (cN 2) aNil))) aNil)))))
def b_sure_point (c : Orc) : CS := (sSeq (sSet 2 2 (cCall (c 3) (aCons (cN 1) aNil))) (sSeq (sExp (cCall (c 5) (aCons (cCall (c 42) (aCons (cN 0) (aCons (cN 2) aNil))) aNil))) (sRet 2 (cN 2))))
def b_value_of (c : Orc) : CS := (sSeq (sSet 2 2 (cK (.tuple (([0, 1] : List Int).map .int)))) (sSeq (sFor (iE (cN 0)) (gT [(gN 2 3), (gN 2 4)]) (sSeq (sFor (iZip (cN 1) (cN 3)) (gT [(gN 2 5), (gN 2 6)]) (sSet 2 4 (cCall (c 12) (aCons (cN 4) (aCons (cCall (c 14) (aCons (cN 5) (aCons (cN 6) aNil))) aNil))))) (sSet 2 2 (cCall (c 11) (aCons (cN 2) (aCons (cN 4) aNil)))))) (sRet 2 (cN 2))))
def b_value_at (c : Orc) : CS := (sRet 3 (cCall (c 44) (aCons (cCall (c 23) (aCons (cN 0) (aCons (cN 1) aNil))) (aCons (cCall (c 43) (aCons (cN 0) (aCons (cN 2) aNil))) aNil))))
def b__law_take (c : Orc) : CS := (sSeq (sIf (tV (c2 gGt (c2 gIx (cN 0) (cK (.int 0))) (cK (.int 0)))) (sSeq (sSet 2 2 (c2x gMod (cB (g1 fInt) (aCons (c2 gIx (cN 0) (cK (.int 0))) aNil)) (cN 1))) (sSeq (sAsg (gSubC stSub (cN 0) (cK (.int 0))) (c2x gDiv (c2 gIx (cN 0) (cK (.int 0))) (cN 1))) (sRet 2 (cN 2)))) sNil) (sSeq (sAsg (gSubC stSub (cN 0) (cK (.int 2))) (c2x gAdd (c2 gIx (cN 0) (cK (.int 2))) (cK (.int 1)))) (sSeq (sSet 2 3 (c2x gMod (cB (g1 fInt) (aCons (c2x gMulA (c2x gAdd (c2 gIx (cN 0) (cK (.int 1))) (c2x gMulA (cK (.int 48271)) (c2 gIx (cN 0) (cK (.int 2))))) (c2x gAdd (cK (.int 39373)) (c2 gIx (cN 0) (cK (.int 2))))) aNil)) (cK (.int 2147483647)))) (sSeq (sSet 2 4 (c2x gAdd (c2x gMod (cB (g1 fInt) (aCons (cN 3) aNil)) (cK (.int 40009))) (cK (.int 7)))) (sSeq (sSet 2 5 (c2x gMod (cB (g1 fInt) (aCons (c2x gMulA (c2x gAdd (c2x gAdd (cN 3) (c2 gIx (cN 0) (cK (.int 2)))) (c2x gDiv (c2 gIx (cN 0) (cK (.int 1))) (cK (.int 1000003)))) (cN 4)) aNil)) (cK (.int 2147483629)))) (sRet 2 (c2x gMod (cB (g1 fInt) (aCons (c2x gDiv (c2x gMod (cB (g1 fInt) (aCons (c2x gAdd (c2x gMulA (cN 5) (cK (.int 48271))) (cN 3)) aNil)) (cK (.int 2147483587))) (cK (.int 64))) aNil)) (cN 1))))))))
def b__law_cells (c : Orc) : CS := (sSeq (sSet 2 2 (cOrL (cB (g1 fListA) (aCons (cSl (cN 0) pNo (pAt (cN 1))) aNil)) (cLst (fCons (cK (.int 0)) fNil)))) (sSeq (sFor (iEnum (cSl (cN 0) (pAt (cN 1)) (pAt (cK (.int 63))))) (gT [(gN 2 3), (gN 2 4)]) (sSeq (sSet 2 5 (c2x gMod (cB (g1 fInt) (aCons (cN 3) aNil)) (cN 1))) (sAsg (gSubC stSub (cN 2) (cN 5)) (c2x gAdd (c2 gIx (cN 2) (cN 5)) (c2x gMulA (cN 4) (c2x gAdd (cN 3) (cK (.int 2)))))))) (sRet 2 (cN 2))))
def b__law_same (c : Orc) : CS := (sSeq (sIf (tV (c1 (gIsi [.list, .tuple]) (cN 1))) (sSeq (sIf (tOr (tV (c2 gNe (c1 (gIsi [.list]) (cN 0)) (c1 (gIsi [.list]) (cN 1)))) (tV (c2 gNe (c1 (gIsi [.tuple]) (cN 0)) (c1 (gIsi [.tuple]) (cN 1))))) (sRet 2 (cK (.bool false))) sNil) (sRet 2 (cAndV (c2 gEq (cB (g1 fLenA) (aCons (cN 0) aNil)) (cB (g1 fLenA) (aCons (cN 1) aNil))) (cB (g1 fAll) (aCons (cLc [2, 3] (iZip (cN 0) (cN 1)) (gT [(gN 0 2), (gN 0 3)]) tYesT (cCall (c 49) (aCons (cN 2) (aCons (cN 3) aNil)))) aNil))))) sNil) (sSeq (sIf (tOr (tV (c2 gIs (cN 1) (cK .none))) (tV (c1 (gIsi [.bool, .str]) (cN 1)))) (sRet 2 (cAndV (c2 gEq (cN 0) (cN 1)) (cAndV (c2 gEq (c1 (gIsi [.bool]) (cN 0)) (c1 (gIsi [.bool]) (cN 1))) (c2 gEq (c2 gIs (cN 0) (cK .none)) (c2 gIs (cN 1) (cK .none)))))) sNil) (sRet 2 (cAndV (c1 (gIsi [.int]) (cN 0)) (cAndV (cNotV (c1 (gIsi [.bool]) (cN 0))) (c2 gEq (cN 0) (cN 1)))))))
def b__law_of (c : Orc) : CS := (sRet 2 (c2 gIx (cN 1) (cCall (c 47) (aCons (cN 0) (aCons (cB (g1 fLenA) (aCons (cN 1) aNil)) aNil)))))
def b__law_pick (c : Orc) : CS := (sSeq (sPar 3 [3, 4] (aCons (cB (g1 fListA) (aCons (cN 1) aNil)) (aCons (cLst fNil) aNil))) (sSeq (sFor (iRange1 (cB gMin2 (aCons (cB (g1 fInt) (aCons (cN 2) aNil)) (aCons (cB (g1 fLenA) (aCons (cN 3) aNil)) aNil)))) (gN 3 5) (sExp (cMt mAppend (cN 4) (fCons (cMt mPop (cN 3) (fCons (cCall (c 47) (aCons (cN 0) (aCons (cB (g1 fLenA) (aCons (cN 3) aNil)) aNil))) fNil)) fNil)))) (sRet 3 (cN 4))))
def b__law_low (c : Orc) : CS := (sSeq (sPar 2 [2, 3] (aCons (cB (g1 fAbs) (aCons (cN 0) aNil)) (aCons (cB (g1 fAbs) (aCons (cN 1) aNil)) aNil))) (sSeq (sWhile fuel (tV (c2 gGt (cN 3) (cK (.int 0)))) (sPar 2 [2, 3] (aCons (cN 3) (aCons (c2x gMod (cB (g1 fInt) (aCons (cN 2) aNil)) (cN 3)) aNil)))) (sSeq (sSet 2 4 (cIf (tV (c2 gGt (cN 1) (cK (.int 0)))) (cK (.int 1)) (c1 gNeg (cK (.int 1))))) (sRet 2 (cTup (fCons (c2x gDiv (c2x gMulA (cN 4) (cN 0)) (cN 2)) (fCons (c2x gDiv (c2x gMulA (cN 4) (cN 1)) (cN 2)) fNil)))))))
def b__law_added (c : Orc) : CS := (sRet 2 (cCall (c 52) (aCons (c2x gAdd (c2x gMulA (c2 gIx (cN 0) (cK (.int 0))) (c2 gIx (cN 1) (cK (.int 1)))) (c2x gMulA (c2 gIx (cN 1) (cK (.int 0))) (c2 gIx (cN 0) (cK (.int 1))))) (aCons (c2x gMulA (c2 gIx (cN 0) (cK (.int 1))) (c2 gIx (cN 1) (cK (.int 1)))) aNil))))
def b__law_multiplied (c : Orc) : CS := (sRet 2 (cCall (c 52) (aCons (c2x gMulA (c2 gIx (cN 0) (cK (.int 0))) (c2 gIx (cN 1) (cK (.int 0)))) (aCons (c2x gMulA (c2 gIx (cN 0) (cK (.int 1))) (c2 gIx (cN 1) (cK (.int 1)))) aNil))))
def b__law_share (c : Orc) : CS := (sSeq (sSet 2 2 (cCall (c 47) (aCons (cN 0) (aCons (cK (.int 5)) aNil)))) (sSeq (sIf (tAnd (tV (c2 gEq (cN 2) (cK (.int 0)))) (tV (c2 gGt (cB (g1 fLenA) (aCons (cN 1) aNil)) (cK (.int 0))))) (sRet 2 (cCall (c 50) (aCons (cN 0) (aCons (cN 1) aNil)))) sNil) (sSeq (sPar 2 [3, 4] (aCons (c2x gAdd (cK (.int 1)) (cCall (c 47) (aCons (cN 0) (aCons (cK (.int 6)) aNil)))) (aCons (c2x gAdd (cK (.int 1)) (cCall (c 47) (aCons (cN 0) (aCons (cK (.int 3)) aNil)))) aNil))) (sSeq (sIf (tV (c2 gEq (cN 2) (cK (.int 1)))) (sPar 2 [3, 4] (aCons (c2x gAdd (cK (.int 1)) (cCall (c 47) (aCons (cN 0) (aCons (cK (.int 999999)) aNil)))) (aCons (c2x gAdd (cK (.int 1)) (cCall (c 47) (aCons (cN 0) (aCons (cK (.int 9999)) aNil)))) aNil))) sNil) (sRet 2 (cCall (c 52) (aCons (cIf (tV (c2 gEq (cCall (c 47) (aCons (cN 0) (aCons (cK (.int 2)) aNil))) (cK (.int 0)))) (cN 3) (c1 gNeg (cN 3))) (aCons (cN 4) aNil))))))))
def b__law_order (c : Orc) : CS := (sRet 1 (cTup (fCons (c1 gNeg (cB (g1 fSum) (aCons (cN 0) aNil))) (fCons (cB (g1 fTuple) (aCons (cLc [1] (iE (cN 0)) (gN 0 1) tYesT (c1 gNeg (cN 1))) aNil)) fNil))))
def b__law_made (c : Orc) : CS := (sSeq (sSet 1 1 (c1 (gSortK false (c 56)) (cLcD 0 [2] (gN 0 2) (tV (c2 gNe (c2 gIx (c2 gIx (cN 0) (cN 2)) (cK (.int 0))) (cK (.int 0)))) (cN 2)))) (sRet 1 (cB (g1 fTuple) (aCons (cLc [2] (iE (cN 1)) (gN 0 2) tYesT (cTup (fCons (cN 2) (fCons (c2 gIx (cN 0) (cN 2)) fNil)))) aNil))))
def b__law_put (c : Orc) : CS := (sAsg (gSubC stSub (cN 0) (cN 1)) (cIf (tV (c2 gIn (cN 1) (cN 0))) (cCall (c 53) (aCons (c2 gIx (cN 0) (cN 1)) (aCons (cN 2) aNil))) (cN 2)))
def b__law_sum (c : Orc) : CS := (sSeq (sSet 1 1 cNewD) (sSeq (sFor (iE (cN 0)) (gN 1 2) (sFor (iE (cN 2)) (gT [(gN 1 3), (gN 1 4)]) (sExp (cCall (c 58) (aCons (cN 1) (aCons (cN 3) (aCons (cN 4) aNil))))))) (sRet 1 (cCall (c 57) (aCons (cN 1) aNil)))))
def b__law_times (c : Orc) : CS := (sSeq (sSet 2 2 cNewD) (sSeq (sFor (iE (cN 0)) (gT [(gN 2 3), (gN 2 4)]) (sFor (iE (cN 1)) (gT [(gN 2 5), (gN 2 6)]) (sExp (cCall (c 58) (aCons (cN 2) (aCons (cB (g1 fTuple) (aCons (cLc [7, 8] (iZip (cN 3) (cN 5)) (gT [(gN 0 7), (gN 0 8)]) tYesT (c2x gAdd (cN 7) (cN 8))) aNil)) (aCons (cCall (c 54) (aCons (cN 4) (aCons (cN 6) aNil))) aNil))))))) (sRet 2 (cCall (c 57) (aCons (cN 2) aNil)))))
def b__law_at (c : Orc) : CS := (sSeq (sSet 2 2 (cTup (fCons (cK (.int 0)) (fCons (cK (.int 1)) fNil)))) (sSeq (sFor (iE (cN 0)) (gT [(gN 2 3), (gN 2 4)]) (sSeq (sFor (iZip (cN 1) (cN 3)) (gT [(gN 2 5), (gN 2 6)]) (sFor (iRange1 (cN 6)) (gN 2 7) (sSet 2 4 (cCall (c 54) (aCons (cN 4) (aCons (cN 5) aNil)))))) (sSet 2 2 (cCall (c 53) (aCons (cN 2) (aCons (cN 4) aNil)))))) (sRet 2 (cN 2))))
def b__law_sum_drawn (c : Orc) : CS := (sSeq (sPar 4 [4, 5] (aCons cNewD (aCons (cLst fNil) aNil))) (sSeq (sFor (iRange1 (c2x gAdd (cK (.int 1)) (cCall (c 47) (aCons (cN 0) (aCons (cN 2) aNil))))) (gN 4 6) (sSeq (sSet 4 7 (c2x gMulA (cLst (fCons (cK (.int 0)) fNil)) (cN 1))) (sSeq (sFor (iRange1 (cCall (c 47) (aCons (cN 0) (aCons (c2x gAdd (cN 3) (cK (.int 1))) aNil)))) (gN 4 8) (sSeq (sSet 4 9 (cCall (c 47) (aCons (cN 0) (aCons (cN 1) aNil)))) (sAsg (gSubC stSub (cN 7) (cN 9)) (c2x gAdd (c2 gIx (cN 7) (cN 9)) (cK (.int 1)))))) (sSeq (sSet 4 10 (cCall (c 55) (aCons (cN 0) (aCons (cN 5) aNil)))) (sSeq (sSet 4 5 (c2x gAdd (cN 5) (cLst (fCons (cN 10) (fCons (cCall (c 54) (aCons (cN 10) (aCons (cTup (fCons (c1 gNeg (cK (.int 1))) (fCons (cK (.int 1)) fNil))) aNil))) fNil))))) (sIf (tV (c2 gNotIn (cB (g1 fTuple) (aCons (cN 7) aNil)) (cN 4))) (sAsg (gSubC stSub (cN 4) (cB (g1 fTuple) (aCons (cN 7) aNil))) (cN 10)) sNil)))))) (sRet 4 (cCall (c 57) (aCons (cN 4) aNil)))))
def b_is_exchange (c : Orc) : CS := (sSeq (sExp (cCall (c 7) (aCons (cN 0) aNil))) (sSeq (sIf (tOr (tNot (tV (cCall (c 4) (aCons (cN 1) (aCons (cN 0) aNil))))) (tNot (tV (cB (g1 fAll) (aCons (cLc [2] (iE (cN 1)) (gN 0 2) tYesT (cCall (c 1) (aCons (cN 2) (aCons (cK (.int 1)) (aCons (cN 0) aNil))))) aNil))))) (sRet 2 (cK (.bool false))) sNil) (sRet 2 (c2 gEq (c1 gLenSet (cN 1)) (cN 0)))))
def b_sure_exchange (c : Orc) : CS := (sSeq (sSet 2 2 (cCall (c 3) (aCons (cN 1) aNil))) (sSeq (sExp (cCall (c 5) (aCons (cCall (c 69) (aCons (cN 0) (aCons (cN 2) aNil))) aNil))) (sRet 2 (cN 2))))
def b_lead_powers (c : Orc) : CS := (sSeq (sSet 2 2 (c2x gMulA (cLst (fCons (cK (.int 0)) fNil)) (cB (g1 fLenA) (aCons (cN 1) aNil)))) (sSeq (sFor (iEnum (cN 1)) (gT [(gN 2 3), (gN 2 4)]) (sAsg (gSubC stSub (cN 2) (c2x gSub (c2 gIx (cN 0) (cN 3)) (cK (.int 1)))) (cN 4))) (sRet 2 (cB (g1 fTuple) (aCons (cN 2) aNil)))))
def b_lead (c : Orc) : CS := (sSeq (sSet 2 2 cNewD) (sSeq (sFor (iE (cN 1)) (gT [(gN 2 3), (gN 2 4)]) (sAsg (gSubC stSub (cN 2) (cCall (c 76) (aCons (cN 0) (aCons (cN 3) aNil)))) (cN 4))) (sRet 2 (cCall (c 25) (aCons (cN 2) aNil)))))
def b_led (c : Orc) : CS := (sSeq (sSet 3 3 (cCall (c 23) (aCons (cN 0) (aCons (cN 1) aNil)))) (sRet 3 (cCall (c 77) (aCons (cCall (c 70) (aCons (cN 0) (aCons (cN 2) aNil))) (aCons (cN 3) aNil)))))
def b__law_exchange (c : Orc) : CS := (sRet 2 (cB (g1 fTuple) (aCons (cCall (c 51) (aCons (cN 0) (aCons (c2 gLstRg2 (cK (.int 1)) (c2x gAdd (cN 1) (cK (.int 1)))) (aCons (cN 1) aNil)))) aNil)))
def b_letter (c : Orc) : CS := (sRet 2 (cTup (fCons (cTup (fCons (cB (g1 fTuple) (aCons (cLc [2] (iRange1 (cN 0)) (gN 0 2) tYesT (cB (g1 fInt) (aCons (c2 gEq (c2x gAdd (cN 2) (cK (.int 1))) (cN 1)) aNil))) aNil)) (fCons (cK (.tuple (([1, 1] : List Int).map .int))) fNil))) fNil)))
def b_put_for (c : Orc) : CS := (sSeq (sPar 3 [3, 4] (aCons (cLst fNil) (aCons cNewD aNil))) (sSeq (sFor (iE (cN 1)) (gT [(gN 3 5), (gN 3 6)]) (sSeq (sSet 3 7 (cCall (c 30) (aCons (cN 0) (aCons (cN 6) aNil)))) (sSeq (sFor (iEnum (cN 5)) (gT [(gN 3 8), (gN 3 9)]) (sIf (tV (c2 gGt (cN 9) (cK (.int 0)))) (sSeq (sIf (tV (c2 gNotIn (cTup (fCons (cN 8) (fCons (cN 9) fNil))) (cN 4))) (sAsg (gSubC stSub (cN 4) (cTup (fCons (cN 8) (fCons (cN 9) fNil)))) (cCall (c 29) (aCons (cN 0) (aCons (c2x gMulA (cLst (fCons (c2 gIx (cN 2) (cN 8)) fNil)) (cN 9)) aNil)))) sNil) (sSet 3 7 (cCall (c 28) (aCons (cN 7) (aCons (c2 gIx (cN 4) (cTup (fCons (cN 8) (fCons (cN 9) fNil)))) aNil))))) sNil)) (sExp (cMt mAppend (cN 3) (fCons (cN 7) fNil)))))) (sRet 3 (cCall (c 26) (aCons (cN 3) aNil)))))
def b_sure_polynomials (c : Orc) : CS := (sSeq (sSet 2 2 (cCall (c 3) (aCons (cN 1) aNil))) (sSeq (sExp (cCall (c 5) (aCons (cAndV (c1 (gIsi [.tuple]) (cN 2)) (cB (g1 fAll) (aCons (cLc [3] (iE (cN 2)) (gN 0 3) tYesT (cCall (c 22) (aCons (cN 0) (aCons (cN 3) aNil)))) aNil))) aNil))) (sRet 2 (cN 2))))
def b_number_sum (c : Orc) : CS := (sSeq (sExp (cCall (c 7) (aCons (cN 0) aNil))) (sRet 2 (cCall (c 30) (aCons (cN 0) (aCons (cCall (c 10) (aCons (cN 1) aNil)) aNil)))))
def b_letter_sum (c : Orc) : CS := (sSeq (sExp (cCall (c 7) (aCons (cN 0) aNil))) (sSeq (sExp (cCall (c 5) (aCons (cCall (c 1) (aCons (cN 1) (aCons (cK (.int 1)) (aCons (cN 0) aNil)))) aNil))) (sRet 2 (cCall (c 108) (aCons (cN 0) (aCons (cN 1) aNil))))))
def b_put_in (c : Orc) : CS := (sSeq (sSet 4 4 (cCall (c 23) (aCons (cN 0) (aCons (cN 1) aNil)))) (sSeq (sExp (cCall (c 5) (aCons (cCall (c 6) (aCons (cN 2) aNil)) aNil))) (sSeq (sSet 4 5 (cCall (c 227) (aCons (cN 2) (aCons (cN 3) aNil)))) (sSeq (sExp (cCall (c 5) (aCons (c2 gEq (cB (g1 fLenA) (aCons (cN 5) aNil)) (cN 0)) aNil))) (sRet 4 (cCall (c 109) (aCons (cN 2) (aCons (cN 4) (aCons (cN 5) aNil)))))))))
def b__law_box_23 (c : Orc) : CS := (sSeq (sSet 2 2 (cIf (tV (c2 gLt (cN 1) (cB (g1 fLenA) (aCons (cN 0) aNil)))) (c2 gIx (cN 0) (cN 1)) (cK (.int 0)))) (sRet 2 (cLst (fCons (c2x gMulA (cB (g1 fAbs) (aCons (cN 2) aNil)) (cB (g1 fInt) (aCons (c2 gGe (cB (g1 fAbs) (aCons (cN 2) aNil)) (c2x gPow (cK (.int 10)) (cK (.int 18)))) aNil))) (fCons (c2x gAdd (c2x gAdd (c2x gMod (cB (g1 fInt) (aCons (cN 2) aNil)) (cK (.int 2305843009213693951))) (c2x gMulA (cK (.int 39373)) (cN 1))) (cK (.int 2322222))) (fCons (cK (.int 0)) fNil))))))
def b__law_right_23 (c : Orc) : CS := (sSeq (sAsg (gT [(gN 1 1), (gN 1 2), (gN 1 3)]) (cTup (fCons (c2x gAdd (cK (.int 1)) (cCall (c 47) (aCons (cN 0) (aCons (cK (.int 4)) aNil)))) (fCons (c2x gAdd (cK (.int 1)) (cCall (c 47) (aCons (cN 0) (aCons (cK (.int 4)) aNil)))) (fCons (c2x gAdd (cK (.int 1)) (cCall (c 47) (aCons (cN 0) (aCons (cK (.int 3)) aNil)))) fNil))))) (sSeq (sPar 1 [4, 5] (aCons (cCall (c 63) (aCons (cN 0) (aCons (cN 1) (aCons (cK (.int 6)) (aCons (cK (.int 3)) aNil))))) (aCons (cCall (c 63) (aCons (cN 0) (aCons (cN 1) (aCons (cK (.int 3)) (aCons (cK (.int 2)) aNil))))) aNil))) (sSeq (sSet 1 6 (cLst fNil)) (sSeq (sFor (iRange1 (cN 1)) (gN 1 7) (sSeq (sSet 1 8 (cCall (c 47) (aCons (cN 0) (aCons (cK (.int 4)) aNil)))) (sIf (tAnd (tV (c2 gEq (cN 8) (cK (.int 0)))) (tV (c2 gNe (cN 6) (cLst fNil)))) (sExp (cMt mAppend (cN 6) (fCons (cCall (c 50) (aCons (cN 0) (aCons (cN 6) aNil))) fNil))) (sExp (cMt mAppend (cN 6) (fCons (cIf (tV (c2 gEq (cN 8) (cK (.int 1)))) (cTup fNil) (cCall (c 499) (aCons (cCall (c 63) (aCons (cN 0) (aCons (cN 2) (aCons (cK (.int 3)) (aCons (cK (.int 2)) aNil))))) aNil))) fNil)))))) (sSeq (sSet 1 6 (cB (g1 fTuple) (aCons (cN 6) aNil))) (sSeq (sSet 1 9 (cB (g1 fTuple) (aCons (cLc [7] (iRange1 (cN 2)) (gN 0 7) tYesT (cCall (c 52) (aCons (c2x gSub (cCall (c 47) (aCons (cN 0) (aCons (cK (.int 9)) aNil))) (cK (.int 4))) (aCons (c2x gAdd (cK (.int 1)) (cCall (c 47) (aCons (cN 0) (aCons (cK (.int 2)) aNil)))) aNil)))) aNil))) (sSeq (sSet 1 10 (cB (g1 fTuple) (aCons (cLc [22] (iE (cN 6)) (gN 0 22) tYesT (cCall (c 62) (aCons (cN 22) (aCons (cN 9) aNil)))) aNil))) (sSeq (sPar 1 [11, 12] (aCons (cCall (c 496) (aCons (cN 1) (aCons (cN 4) (aCons (cN 2) (aCons (cN 6) aNil))))) (aCons (cCall (c 496) (aCons (cN 1) (aCons (cN 5) (aCons (cN 2) (aCons (cN 6) aNil))))) aNil))) (sSeq (sIf (tNot (tV (cCall (c 49) (aCons (cLst (fCons (cCall (c 62) (aCons (cN 11) (aCons (cN 9) aNil))) (fCons (cCall (c 45) (aCons (cN 2) (aCons (cN 12) (aCons (cN 9) aNil)))) fNil))) (aCons (cLst (fCons (cCall (c 62) (aCons (cN 4) (aCons (cN 10) aNil))) (fCons (cCall (c 62) (aCons (cN 5) (aCons (cN 10) aNil))) fNil))) aNil))))) (sRet 1 (cK (.bool false))) sNil) (sSeq (sSet 1 13 (cLst (fCons (cCall (c 496) (aCons (cN 1) (aCons (cCall (c 31) (aCons (cN 1) (aCons (cN 4) (aCons (cN 5) aNil)))) (aCons (cN 2) (aCons (cN 6) aNil))))) (fCons (cCall (c 496) (aCons (cN 1) (aCons (cCall (c 33) (aCons (cN 1) (aCons (cN 4) (aCons (cN 5) aNil)))) (aCons (cN 2) (aCons (cN 6) aNil))))) fNil)))) (sSeq (sIf (tNot (tV (cCall (c 49) (aCons (cN 13) (aCons (cLst (fCons (cCall (c 59) (aCons (cLst (fCons (cN 11) (fCons (cN 12) fNil))) aNil)) (fCons (cCall (c 60) (aCons (cN 11) (aCons (cN 12) aNil))) fNil))) aNil))))) (sRet 1 (cK (.bool false))) sNil) (sSeq (sIf (tV (c2 gGt (cCall (c 37) (aCons (cN 2) (aCons (cN 11) aNil))) (c2x gMulA (cCall (c 37) (aCons (cN 1) (aCons (cN 4) aNil))) (cB gMax2 (aCons (c2x gAdd (cLc [22] (iE (cN 6)) (gN 0 22) tYesT (cCall (c 37) (aCons (cN 2) (aCons (cN 22) aNil)))) (cLst (fCons (cK (.int 1)) fNil))) aNil))))) (sRet 1 (cK (.bool false))) sNil) (sSeq (sSet 1 14 (cB (g1 fTuple) (aCons (cLc [7] (iRange1 (cN 2)) (gN 0 7) tYesT (cCall (c 499) (aCons (cCall (c 63) (aCons (cN 0) (aCons (cN 3) (aCons (cK (.int 2)) (aCons (cK (.int 1)) aNil))))) aNil))) aNil))) (sSeq (sSet 1 15 (cCall (c 496) (aCons (cN 2) (aCons (cN 12) (aCons (cN 3) (aCons (cN 14) aNil)))))) (sSeq (sSet 1 16 (cB (g1 fTuple) (aCons (cLc [22] (iE (cN 6)) (gN 0 22) tYesT (cCall (c 496) (aCons (cN 2) (aCons (cN 22) (aCons (cN 3) (aCons (cN 14) aNil)))))) aNil))) (sSeq (sIf (tNot (tV (cCall (c 49) (aCons (cCall (c 496) (aCons (cN 1) (aCons (cN 5) (aCons (cN 3) (aCons (cN 16) aNil))))) (aCons (cN 15) aNil))))) (sRet 1 (cK (.bool false))) sNil) (sSeq (sSet 1 17 (cCall (c 98) (aCons (cN 0) (aCons (cN 1) aNil)))) (sSeq (sSet 1 18 (cB (g1 fTuple) (aCons (cLc [22] (iE (cN 17)) (gN 0 22) tYesT (cCall (c 495) (aCons (cN 1) (aCons (cN 22) aNil)))) aNil))) (sSeq (sSet 1 19 (cB (g1 fTuple) (aCons (cLc [7] (iRange1 (cN 1)) (gN 0 7) tYesT (cIf (tV (c2 gEq (c2x gMulA (c2x gDiv (cN 7) (cK (.int 2))) (cK (.int 2))) (cN 7))) (cTup (fCons (c2x gSub (cN 7) (cK (.int 1))) (fCons (cK (.int 2)) fNil))) (cTup (fCons (cN 7) (fCons (cK (.int 1)) fNil))))) aNil))) (sSeq (sPar 1 [20, 21] (aCons (cB (g1 fTuple) (aCons (cLc [22] (iE (cN 19)) (gN 0 22) tYesT (cCall (c 494) (aCons (cN 2) (aCons (cN 22) aNil)))) aNil)) (aCons (cCall (c 62) (aCons (cN 4) (aCons (cN 19) aNil))) aNil))) (sSeq (sSet 1 13 (cLst (fCons (cCall (c 496) (aCons (cN 1) (aCons (cN 4) (aCons (cN 1) (aCons (cN 18) aNil))))) (fCons (cCall (c 496) (aCons (cN 1) (aCons (cN 4) (aCons (cN 2) (aCons (cN 20) aNil))))) fNil)))) (sRet 1 (cCall (c 49) (aCons (cN 13) (aCons (cLst (fCons (cCall (c 78) (aCons (cN 1) (aCons (cN 4) (aCons (cN 17) aNil)))) (fCons (cCall (c 494) (aCons (cN 2) (aCons (cN 21) aNil))) fNil))) aNil)))))))))))))))))))))))))
def b__law_small (c : Orc) : CS := (sRet 1 (cB (g1 fTuple) (aCons (cLc [1, 2] (iE (cN 0)) (gT [(gN 0 1), (gN 0 2)]) tYesT (cTup (fCons (cN 1) (fCons (cIf (tV (c2 gLt (cB gMax2 (aCons (cB (g1 fAbs) (aCons (c2 gIx (cN 2) (cK (.int 0))) aNil)) (aCons (c2 gIx (cN 2) (cK (.int 1))) aNil))) (cK (.int 99)))) (cN 2) (cTup (fCons (cK (.int 1)) (fCons (cK (.int 2)) fNil)))) fNil)))) aNil)))
def b_law_23 (c : Orc) : CS := (sRet 1 (cCall (c 498) (aCons (cCall (c 497) (aCons (cCall (c 48) (aCons (cN 0) (aCons (cK (.int 1)) aNil))) (aCons (cK (.int 0)) aNil))) aNil)))
end MP

/-! The walk of keptsums_k22_sums_put_in_one_another: written by walk.py. -/
namespace K22
open PySem PySem.Spec L2 MP
open PyProof.Rows hiding St intKind ItemsAre
def top (i : Nat) : Stmt := PySem.Challenge.pw_keptsums_k22_sums_put_in_one_another.main.body.getD i (.Pass ⟨0, 0, 0, 0⟩)
def fns (i : Nat) (c : Orc) : List Sl → Option (Rv × List Sl) := match i with
  | 0 => mkFn 1 1 (b_is_number c)
  | 1 => mkFn 3 3 (b_is_between c)
  | 2 => mkFn 2 2 (b_is_from c)
  | 3 => mkFn 1 2 (b_tuple_of c)
  | 4 => mkFn 2 2 (b_is_tuple_of c)
  | 5 => mkFn 1 1 (b_sure c)
  | 6 => mkFn 1 1 (b_is_wide c)
  | 7 => mkFn 1 1 (b_sure_wide c)
  | 8 => mkFn 2 3 (b_lowest c)
  | 9 => mkFn 1 2 (b_is_fraction c)
  | 10 => mkFn 1 2 (b_sure_fraction c)
  | 11 => mkFn 2 2 (b_plus c)
  | 12 => mkFn 2 2 (b_times c)
  | 14 => mkFn 2 4 (b_power c)
  | 18 => mkFn 1 2 (b_powers_order c)
  | 19 => mkFn 2 3 (b_is_powers c)
  | 21 => mkFn 2 2 (b_is_term c)
  | 22 => mkFn 2 5 (b_is_polynomial c)
  | 23 => mkFn 2 3 (b_sure_polynomial c)
  | 24 => mkFn 3 4 (b_added_to c)
  | 25 => mkFn 1 2 (b_made c)
  | 26 => mkFn 1 5 (b_summed c)
  | 28 => mkFn 2 9 (b_product c)
  | 29 => mkFn 2 4 (b_multiplied c)
  | 30 => mkFn 2 2 (b_number c)
  | 31 => mkFn 3 3 (b_sum_plus c)
  | 33 => mkFn 3 5 (b_sum_times c)
  | 36 => mkFn 1 1 (b_top_degree c)
  | 37 => mkFn 2 2 (b_degree_of c)
  | 42 => mkFn 2 3 (b_is_point c)
  | 43 => mkFn 2 3 (b_sure_point c)
  | 44 => mkFn 2 7 (b_value_of c)
  | 45 => mkFn 3 3 (b_value_at c)
  | 47 => mkFn 2 6 (b__law_take c)
  | 48 => mkFn 2 6 (b__law_cells c)
  | 49 => mkFn 2 4 (b__law_same c)
  | 50 => mkFn 2 2 (b__law_of c)
  | 51 => mkFn 3 6 (b__law_pick c)
  | 52 => mkFn 2 5 (b__law_low c)
  | 53 => mkFn 2 2 (b__law_added c)
  | 54 => mkFn 2 2 (b__law_multiplied c)
  | 55 => mkFn 2 5 (b__law_share c)
  | 56 => mkFn 1 2 (b__law_order c)
  | 57 => mkFn 1 3 (b__law_made c)
  | 58 => mkFn 3 3 (b__law_put c)
  | 59 => mkFn 1 5 (b__law_sum c)
  | 60 => mkFn 2 9 (b__law_times c)
  | 62 => mkFn 2 8 (b__law_at c)
  | 63 => mkFn 4 11 (b__law_sum_drawn c)
  | 69 => mkFn 2 3 (b_is_exchange c)
  | 70 => mkFn 2 3 (b_sure_exchange c)
  | 76 => mkFn 2 5 (b_lead_powers c)
  | 77 => mkFn 2 5 (b_lead c)
  | 78 => mkFn 3 4 (b_led c)
  | 98 => mkFn 2 2 (b__law_exchange c)
  | 108 => mkFn 2 3 (b_letter c)
  | 109 => mkFn 3 10 (b_put_for c)
  | 227 => mkFn 2 4 (b_sure_polynomials c)
  | 494 => mkFn 2 2 (b_number_sum c)
  | 495 => mkFn 2 2 (b_letter_sum c)
  | 496 => mkFn 4 6 (b_put_in c)
  | 497 => mkFn 2 3 (b__law_box_23 c)
  | 498 => mkFn 1 23 (b__law_right_23 c)
  | 499 => mkFn 1 3 (b__law_small c)
  | 564 => mkFn 1 1 (b_law_23 c)
  | _ => fun _ => none
def nm (i : Nat) : Str := match i with
  | 0 => "is_number"
  | 1 => "is_between"
  | 2 => "is_from"
  | 3 => "tuple_of"
  | 4 => "is_tuple_of"
  | 5 => "sure"
  | 6 => "is_wide"
  | 7 => "sure_wide"
  | 8 => "lowest"
  | 9 => "is_fraction"
  | 10 => "sure_fraction"
  | 11 => "plus"
  | 12 => "times"
  | 14 => "power"
  | 18 => "powers_order"
  | 19 => "is_powers"
  | 21 => "is_term"
  | 22 => "is_polynomial"
  | 23 => "sure_polynomial"
  | 24 => "added_to"
  | 25 => "made"
  | 26 => "summed"
  | 28 => "product"
  | 29 => "multiplied"
  | 30 => "number"
  | 31 => "sum_plus"
  | 33 => "sum_times"
  | 36 => "top_degree"
  | 37 => "degree_of"
  | 42 => "is_point"
  | 43 => "sure_point"
  | 44 => "value_of"
  | 45 => "value_at"
  | 47 => "_law_take"
  | 48 => "_law_cells"
  | 49 => "_law_same"
  | 50 => "_law_of"
  | 51 => "_law_pick"
  | 52 => "_law_low"
  | 53 => "_law_added"
  | 54 => "_law_multiplied"
  | 55 => "_law_share"
  | 56 => "_law_order"
  | 57 => "_law_made"
  | 58 => "_law_put"
  | 59 => "_law_sum"
  | 60 => "_law_times"
  | 62 => "_law_at"
  | 63 => "_law_sum_drawn"
  | 69 => "is_exchange"
  | 70 => "sure_exchange"
  | 76 => "lead_powers"
  | 77 => "lead"
  | 78 => "led"
  | 98 => "_law_exchange"
  | 108 => "letter"
  | 109 => "put_for"
  | 227 => "sure_polynomials"
  | 494 => "number_sum"
  | 495 => "letter_sum"
  | 496 => "put_in"
  | 497 => "_law_box"
  | 498 => "_law_right"
  | 499 => "_law_small"
  | 564 => "law"
  | _ => ""
/-! the walk -/
section
variable {P : Program} {w : World} {K : PySem.W.Frag} {mg : Str → Option Value} {base : Heap}
structure Tx (K : PySem.W.Frag) (mg : Str → Option Value) : Prop where
  abs_ : mg "abs" = none
  all_ : mg "all" = none
  bool_ : mg "bool" = none
  enumerate_ : mg "enumerate" = none
  gcd_ : mg "gcd" = some (.builtin "math.gcd")
  int_ : mg "int" = none
  isinstance_ : mg "isinstance" = none
  len_ : mg "len" = none
  list_ : mg "list" = none
  max_ : mg "max" = none
  min_ : mg "min" = none
  range_ : mg "range" = none
  set_ : mg "set" = none
  sorted_ : mg "sorted" = none
  str_ : mg "str" = none
  sum_ : mg "sum" = none
  tuple_ : mg "tuple" = none
  zip_ : mg "zip" = none
  MOST_TERMS0 : ∃ t : Tok, mg "MOST_TERMS" = some (.int 5000 t)
  MOST_WIDE0 : ∃ t : Tok, mg "MOST_WIDE" = some (.int 4 t)
  ONE0 : ∃ (a : Addr) (o : Obj) (its : Array Value) (n : Nat), mg "ONE" = some (.ref a) ∧ K.lookup a = some o ∧ o.cls = .type "tuple" ∧ o.data = .seq its n ∧ its.size ≤ sizeLine ∧ its.toList.map (fun v => match v with | .int i _ => some i | _ => none) = (([1, 1] : List Int)).map some
  ZERO0 : ∃ (a : Addr) (o : Obj) (its : Array Value) (n : Nat), mg "ZERO" = some (.ref a) ∧ K.lookup a = some o ∧ o.cls = .type "tuple" ∧ o.data = .seq its n ∧ its.size ≤ sizeLine ∧ its.toList.map (fun v => match v with | .int i _ => some i | _ => none) = (([0, 1] : List Int)).map some
theorem Tx.MOST_TERMS_ (T : Tx K mg) {X : Cx} {pos : Pos} (hg : Gl X "MOST_TERMS") (hm : X.mg = mg) : Den X (.Name "MOST_TERMS" pos) (cK (.int 5000)) := by
  obtain ⟨t, h⟩ := T.MOST_TERMS0
  exact dn_gint hg (by rw [hm]; exact h)
theorem Tx.MOST_WIDE_ (T : Tx K mg) {X : Cx} {pos : Pos} (hg : Gl X "MOST_WIDE") (hm : X.mg = mg) : Den X (.Name "MOST_WIDE" pos) (cK (.int 4)) := by
  obtain ⟨t, h⟩ := T.MOST_WIDE0
  exact dn_gint hg (by rw [hm]; exact h)
theorem Tx.ONE_ (T : Tx K mg) {X : Cx} {pos : Pos} (hg : Gl X "ONE") (hm : X.mg = mg) (hk : X.K = K) : Den X (.Name "ONE" pos) (cK (.tuple (([1, 1] : List Int).map .int))) := by
  obtain ⟨a, o, its, n, h1, h2, h3, h4, h5, h6⟩ := T.ONE0
  exact dn_gtup hg (by rw [hm]; exact h1) (by rw [hk]; exact h2) h3 h4 h5 h6
theorem Tx.ZERO_ (T : Tx K mg) {X : Cx} {pos : Pos} (hg : Gl X "ZERO") (hm : X.mg = mg) (hk : X.K = K) : Den X (.Name "ZERO" pos) (cK (.tuple (([0, 1] : List Int).map .int))) := by
  obtain ⟨a, o, its, n, h1, h2, h3, h4, h5, h6⟩ := T.ZERO0
  exact dn_gtup hg (by rw [hm]; exact h1) (by rw [hk]; exact h2) h3 h4 h5 h6
def ids : List Nat := [0, 1, 2, 3, 4, 5, 6, 7, 69, 70, 8, 9, 10, 11, 12, 14, 18, 19, 21, 22, 23, 227, 24, 25, 26, 28, 29, 30, 108, 494, 495, 31, 33, 36, 37, 42, 43, 44, 45, 109, 496, 76, 77, 78, 497, 47, 48, 49, 50, 51, 52, 53, 54, 55, 56, 57, 58, 59, 60, 62, 63, 98, 498, 499, 564]
def Oks (P : Program) (w : World) (K : PySem.W.Frag) (mg : Str → Option Value) (base : Heap) (n : Nat) (c : Orc) : Prop := ∀ i ∈ ids, CallOk P w K mg base (3 * n) (nm i) (c i)
theorem Tx.at_ {c : Orc} {n : Nat} (C : Oks P w K mg base n c) (i : Nat) (x : Str) (hi : i ∈ ids) (hx : nm i = x) : CallOk P w K mg base (3 * n) x (c i) := hx ▸ C i hi
abbrev st_is_number : Stmt := top 5
theorem N_is_number_nd : (["thing"] : List Str).Nodup := by decide +kernel
theorem sc_is_number : FnScope ["thing"] ["thing"] (defScope st_is_number) := ⟨rfl, rfl, rfl, N_is_number_nd, rfl, by decide +kernel, by decide +kernel⟩
theorem ok_is_number {f : Addr} {fd : FuncData} (F : Fun K "is_number" "is_number" st_is_number f fd) (T : Tx K mg) {n : Nat} {c : Orc} (C : Oks P w K mg base n c) : FnOk P w K mg base CX0 (3 * (n + 1)) f fd ["thing"] (spF K (fns 0 c)) :=
  fn_ok (k := 3 * n + 2) (np := 1) (ns := 1) F sc_is_number rfl rfl fun cdv A outer s H E hr2 => by
    have hr0 := hr2.mono (show 3 * n ≤ 3 * n + 2 by omega)
    have hu := hr2.units
    exact (db_one (ds_ret (dn_and (dn_isi .int (by rfl) T.isinstance_ (by rfl) T.int_ bo_int (dn_name (pv 0))) (dn_one (dn_not (dn_isi .bool (by rfl) T.isinstance_ (by rfl) T.bool_ bo_bool (dn_name (pv 0))))))))
abbrev st_is_between : Stmt := top 6
theorem N_is_between_nd : (["thing", "least", "most"] : List Str).Nodup := by decide +kernel
theorem sc_is_between : FnScope ["thing", "least", "most"] ["thing", "least", "most"] (defScope st_is_between) := ⟨rfl, rfl, rfl, N_is_between_nd, rfl, by decide +kernel, by decide +kernel⟩
theorem ok_is_between {f : Addr} {fd : FuncData} (F : Fun K "is_between" "is_between" st_is_between f fd) (T : Tx K mg) {n : Nat} {c : Orc} (C : Oks P w K mg base n c) : FnOk P w K mg base CX0 (3 * (n + 1)) f fd ["thing", "least", "most"] (spF K (fns 1 c)) :=
  fn_ok (k := 3 * n + 2) (np := 3) (ns := 3) F sc_is_between rfl rfl fun cdv A outer s H E hr2 => by
    have hr0 := hr2.mono (show 3 * n ≤ 3 * n + 2 by omega)
    have hu := hr2.units
    exact (db_one (ds_ret (dn_and (dn_call (Tx.at_ C 0 "is_number" (by decide) rfl) hr0 (by rfl) (da_cons (dn_name (pv 0)) da_nil)) (dn_one (dn_chain (op_dLe hu) (op_dLe hu) g_le g_le (dn_name (pv 1)) (dn_name (pv 0)) (dn_name (pv 2)))))))
abbrev st_is_from : Stmt := top 7
theorem N_is_from_nd : (["thing", "least"] : List Str).Nodup := by decide +kernel
theorem sc_is_from : FnScope ["thing", "least"] ["thing", "least"] (defScope st_is_from) := ⟨rfl, rfl, rfl, N_is_from_nd, rfl, by decide +kernel, by decide +kernel⟩
theorem ok_is_from {f : Addr} {fd : FuncData} (F : Fun K "is_from" "is_from" st_is_from f fd) (T : Tx K mg) {n : Nat} {c : Orc} (C : Oks P w K mg base n c) : FnOk P w K mg base CX0 (3 * (n + 1)) f fd ["thing", "least"] (spF K (fns 2 c)) :=
  fn_ok (k := 3 * n + 2) (np := 2) (ns := 2) F sc_is_from rfl rfl fun cdv A outer s H E hr2 => by
    have hr0 := hr2.mono (show 3 * n ≤ 3 * n + 2 by omega)
    have hu := hr2.units
    exact (db_one (ds_ret (dn_and (dn_call (Tx.at_ C 0 "is_number" (by decide) rfl) hr0 (by rfl) (da_cons (dn_name (pv 0)) da_nil)) (dn_one (dn_ge hu (dn_name (pv 0)) (dn_name (pv 1)))))))
abbrev st_tuple_of : Stmt := top 8
theorem N_tuple_of_nd : (["thing", "part"] : List Str).Nodup := by decide +kernel
theorem sc_tuple_of : FnScope ["thing", "part"] ["thing"] (defScope st_tuple_of) := ⟨rfl, rfl, rfl, N_tuple_of_nd, rfl, by decide +kernel, by decide +kernel⟩
theorem ok_tuple_of {f : Addr} {fd : FuncData} (F : Fun K "tuple_of" "tuple_of" st_tuple_of f fd) (T : Tx K mg) {n : Nat} {c : Orc} (C : Oks P w K mg base n c) : FnOk P w K mg base CX0 (3 * (n + 1)) f fd ["thing"] (spF K (fns 3 c)) :=
  fn_ok (k := 3 * n + 2) (np := 1) (ns := 2) F sc_tuple_of rfl rfl fun cdv A outer s H E hr2 => by
    have hr0 := hr2.mono (show 3 * n ≤ 3 * n + 2 by omega)
    have hu := hr2.units
    exact (db_cons (ds_if (dt_val (dn_isi2 .list .tuple (by rfl) T.isinstance_ (by rfl) T.list_ bo_list (by rfl) T.tuple_ bo_tuple (dn_name (pv 0)))) (db_one (ds_ret (dn_tuple (by rfl) T.tuple_ (da_cons (dn_lc (own := [("part", 1)]) rfl N_tuple_of_nd (di_seq (dn_name (pv 0))) (blkOk_by (N := ["thing", "part"]) (sc := defScope st_tuple_of) (own := [("part", 1)]) (by decide +kernel)) (fun _ _ _ _ _ => (pg_name (i := 1) N_tuple_of_nd rfl (Or.inl rfl))) (dl_name (by decide)) (fun _ _ _ _ _ => pts_dnil) (fun _ _ _ _ _ => (dn_call (Tx.at_ C 3 "tuple_of" (by decide) rfl) hr0 (by rfl) (da_cons (dn_name (pv 1)) da_nil)))) da_nil)))) db_nil)
      (db_one (ds_ret (dn_name (pv 0)))))
abbrev st_is_tuple_of : Stmt := top 9
theorem N_is_tuple_of_nd : (["thing", "many"] : List Str).Nodup := by decide +kernel
theorem sc_is_tuple_of : FnScope ["thing", "many"] ["thing", "many"] (defScope st_is_tuple_of) := ⟨rfl, rfl, rfl, N_is_tuple_of_nd, rfl, by decide +kernel, by decide +kernel⟩
theorem ok_is_tuple_of {f : Addr} {fd : FuncData} (F : Fun K "is_tuple_of" "is_tuple_of" st_is_tuple_of f fd) (T : Tx K mg) {n : Nat} {c : Orc} (C : Oks P w K mg base n c) : FnOk P w K mg base CX0 (3 * (n + 1)) f fd ["thing", "many"] (spF K (fns 4 c)) :=
  fn_ok (k := 3 * n + 2) (np := 2) (ns := 2) F sc_is_tuple_of rfl rfl fun cdv A outer s H E hr2 => by
    have hr0 := hr2.mono (show 3 * n ≤ 3 * n + 2 by omega)
    have hu := hr2.units
    exact (db_one (ds_ret (dn_and (dn_isi .tuple (by rfl) T.isinstance_ (by rfl) T.tuple_ bo_tuple (dn_name (pv 0))) (dn_one (dn_eq hu (dn_lenA (by rfl) T.len_ (da_cons (dn_name (pv 0)) da_nil)) (dn_name (pv 1)))))))
abbrev st_sure : Stmt := top 10
theorem N_sure_nd : (["flag"] : List Str).Nodup := by decide +kernel
theorem sc_sure : FnScope ["flag"] ["flag"] (defScope st_sure) := ⟨rfl, rfl, rfl, N_sure_nd, rfl, by decide +kernel, by decide +kernel⟩
theorem ok_sure {f : Addr} {fd : FuncData} (F : Fun K "sure" "sure" st_sure f fd) (T : Tx K mg) {n : Nat} {c : Orc} (C : Oks P w K mg base n c) : FnOk P w K mg base CX0 (3 * (n + 1)) f fd ["flag"] (spF K (fns 5 c)) :=
  fn_ok (k := 3 * n + 2) (np := 1) (ns := 1) F sc_sure rfl rfl fun cdv A outer s H E hr2 => by
    have hr0 := hr2.mono (show 3 * n ≤ 3 * n + 2 by omega)
    have hu := hr2.units
    exact (db_one (ds_if (dt_not (dt_val (dn_name (pv 0)))) (db_one ds_never) db_nil))
abbrev st_is_wide : Stmt := top 13
theorem N_is_wide_nd : (["thing"] : List Str).Nodup := by decide +kernel
theorem sc_is_wide : FnScope ["thing"] ["thing"] (defScope st_is_wide) := ⟨rfl, rfl, rfl, N_is_wide_nd, rfl, by decide +kernel, by decide +kernel⟩
theorem ok_is_wide {f : Addr} {fd : FuncData} (F : Fun K "is_wide" "is_wide" st_is_wide f fd) (T : Tx K mg) {n : Nat} {c : Orc} (C : Oks P w K mg base n c) : FnOk P w K mg base CX0 (3 * (n + 1)) f fd ["thing"] (spF K (fns 6 c)) :=
  fn_ok (k := 3 * n + 2) (np := 1) (ns := 1) F sc_is_wide rfl rfl fun cdv A outer s H E hr2 => by
    have hr0 := hr2.mono (show 3 * n ≤ 3 * n + 2 by omega)
    have hu := hr2.units
    exact (db_one (ds_ret (dn_call (Tx.at_ C 1 "is_between" (by decide) rfl) hr0 (by rfl) (da_cons (dn_name (pv 0)) (da_cons dn_int (da_cons (T.MOST_WIDE_ (by rfl) rfl) da_nil))))))
abbrev st_sure_wide : Stmt := top 14
theorem N_sure_wide_nd : (["wide"] : List Str).Nodup := by decide +kernel
theorem sc_sure_wide : FnScope ["wide"] ["wide"] (defScope st_sure_wide) := ⟨rfl, rfl, rfl, N_sure_wide_nd, rfl, by decide +kernel, by decide +kernel⟩
theorem ok_sure_wide {f : Addr} {fd : FuncData} (F : Fun K "sure_wide" "sure_wide" st_sure_wide f fd) (T : Tx K mg) {n : Nat} {c : Orc} (C : Oks P w K mg base n c) : FnOk P w K mg base CX0 (3 * (n + 1)) f fd ["wide"] (spF K (fns 7 c)) :=
  fn_ok (k := 3 * n + 2) (np := 1) (ns := 1) F sc_sure_wide rfl rfl fun cdv A outer s H E hr2 => by
    have hr0 := hr2.mono (show 3 * n ≤ 3 * n + 2 by omega)
    have hu := hr2.units
    exact (db_one (ds_exp (dn_call (Tx.at_ C 5 "sure" (by decide) rfl) hr0 (by rfl) (da_cons (dn_call (Tx.at_ C 6 "is_wide" (by decide) rfl) hr0 (by rfl) (da_cons (dn_name (pv 0)) da_nil)) da_nil))))
abbrev st_is_exchange : Stmt := top 15
theorem N_is_exchange_nd : (["wide", "thing", "own"] : List Str).Nodup := by decide +kernel
theorem sc_is_exchange : FnScope ["wide", "thing", "own"] ["wide", "thing"] (defScope st_is_exchange) := ⟨rfl, rfl, rfl, N_is_exchange_nd, rfl, by decide +kernel, by decide +kernel⟩
theorem ok_is_exchange {f : Addr} {fd : FuncData} (F : Fun K "is_exchange" "is_exchange" st_is_exchange f fd) (T : Tx K mg) {n : Nat} {c : Orc} (C : Oks P w K mg base n c) : FnOk P w K mg base CX0 (3 * (n + 1)) f fd ["wide", "thing"] (spF K (fns 69 c)) :=
  fn_ok (k := 3 * n + 2) (np := 2) (ns := 3) F sc_is_exchange rfl rfl fun cdv A outer s H E hr2 => by
    have hr0 := hr2.mono (show 3 * n ≤ 3 * n + 2 by omega)
    have hu := hr2.units
    exact (db_cons (ds_exp (dn_call (Tx.at_ C 7 "sure_wide" (by decide) rfl) hr0 (by rfl) (da_cons (dn_name (pv 0)) da_nil)))
      (db_cons (ds_if (dt_w (dw_or (dt_not (dt_val (dn_call (Tx.at_ C 4 "is_tuple_of" (by decide) rfl) hr0 (by rfl) (da_cons (dn_name (pv 1)) (da_cons (dn_name (pv 0)) da_nil))))) (dw_or1 (dt_not (dt_val (dn_all rfl (by rfl) T.all_ (da_cons (dn_lc (own := [("own", 2)]) rfl N_is_exchange_nd (di_seq (dn_name (pv 1))) (blkOk_by (N := ["wide", "thing", "own"]) (sc := defScope st_is_exchange) (own := [("own", 2)]) (by decide +kernel)) (fun _ _ _ _ _ => (pg_name (i := 2) N_is_exchange_nd rfl (Or.inl rfl))) (dl_name (by decide)) (fun _ _ _ _ _ => pts_dnil) (fun _ _ _ _ _ => (dn_call (Tx.at_ C 1 "is_between" (by decide) rfl) hr0 (by rfl) (da_cons (dn_name (pv 2)) (da_cons dn_int (da_cons (dn_name (pv 0)) da_nil)))))) da_nil))))))) (db_one (ds_ret dn_bool)) db_nil)
      (db_one (ds_ret (dn_eq hu (dn_lenSet rfl (by rfl) T.len_ (by rfl) T.set_ (dn_name (pv 1))) (dn_name (pv 0)))))))
abbrev st_sure_exchange : Stmt := top 16
theorem N_sure_exchange_nd : (["wide", "exchange", "own"] : List Str).Nodup := by decide +kernel
theorem sc_sure_exchange : FnScope ["wide", "exchange", "own"] ["wide", "exchange"] (defScope st_sure_exchange) := ⟨rfl, rfl, rfl, N_sure_exchange_nd, rfl, by decide +kernel, by decide +kernel⟩
theorem ok_sure_exchange {f : Addr} {fd : FuncData} (F : Fun K "sure_exchange" "sure_exchange" st_sure_exchange f fd) (T : Tx K mg) {n : Nat} {c : Orc} (C : Oks P w K mg base n c) : FnOk P w K mg base CX0 (3 * (n + 1)) f fd ["wide", "exchange"] (spF K (fns 70 c)) :=
  fn_ok (k := 3 * n + 2) (np := 2) (ns := 3) F sc_sure_exchange rfl rfl fun cdv A outer s H E hr2 => by
    have hr0 := hr2.mono (show 3 * n ≤ 3 * n + 2 by omega)
    have hu := hr2.units
    exact (db_cons (ds_set (i := 2) (fun _ h => ps_set (i := 2) N_sure_exchange_nd rfl (Or.inl rfl) h) (dn_call (Tx.at_ C 3 "tuple_of" (by decide) rfl) hr0 (by rfl) (da_cons (dn_name (pv 1)) da_nil)))
      (db_cons (ds_exp (dn_call (Tx.at_ C 5 "sure" (by decide) rfl) hr0 (by rfl) (da_cons (dn_call (Tx.at_ C 69 "is_exchange" (by decide) rfl) hr0 (by rfl) (da_cons (dn_name (pv 0)) (da_cons (dn_name (pv 2)) da_nil))) da_nil)))
      (db_one (ds_ret (dn_name (pv 2))))))
abbrev st_lowest : Stmt := top 20
theorem N_lowest_nd : (["over", "under", "common"] : List Str).Nodup := by decide +kernel
theorem sc_lowest : FnScope ["over", "under", "common"] ["over", "under"] (defScope st_lowest) := ⟨rfl, rfl, rfl, N_lowest_nd, rfl, by decide +kernel, by decide +kernel⟩
theorem ok_lowest {f : Addr} {fd : FuncData} (F : Fun K "lowest" "lowest" st_lowest f fd) (T : Tx K mg) {n : Nat} {c : Orc} (C : Oks P w K mg base n c) : FnOk P w K mg base CX0 (3 * (n + 1)) f fd ["over", "under"] (spF K (fns 8 c)) :=
  fn_ok (k := 3 * n + 2) (np := 2) (ns := 3) F sc_lowest rfl rfl fun cdv A outer s H E hr2 => by
    have hr0 := hr2.mono (show 3 * n ≤ 3 * n + 2 by omega)
    have hu := hr2.units
    exact (db_cons (ds_set (i := 2) (fun _ h => ps_set (i := 2) N_lowest_nd rfl (Or.inl rfl) h) (dn_gcd (by rfl) T.gcd_ (da_cons (dn_name (pv 0)) (da_cons (dn_name (pv 1)) da_nil))))
      (db_cons (ds_if (dt_lt hu (dn_name (pv 1)) dn_int) (db_one (ds_set (i := 2) (fun _ h => ps_set (i := 2) N_lowest_nd rfl (Or.inl rfl) h) (dn_neg (dn_name (pv 2))))) db_nil)
      (db_one (ds_ret (dn_tup (df_cons (dn_div (dn_name (pv 0)) (dn_name (pv 2))) (df_cons (dn_div (dn_name (pv 1)) (dn_name (pv 2))) df_nil)))))))
abbrev st_is_fraction : Stmt := top 21
theorem N_is_fraction_nd : (["thing", "part"] : List Str).Nodup := by decide +kernel
theorem sc_is_fraction : FnScope ["thing", "part"] ["thing"] (defScope st_is_fraction) := ⟨rfl, rfl, rfl, N_is_fraction_nd, rfl, by decide +kernel, by decide +kernel⟩
theorem ok_is_fraction {f : Addr} {fd : FuncData} (F : Fun K "is_fraction" "is_fraction" st_is_fraction f fd) (T : Tx K mg) {n : Nat} {c : Orc} (C : Oks P w K mg base n c) : FnOk P w K mg base CX0 (3 * (n + 1)) f fd ["thing"] (spF K (fns 9 c)) :=
  fn_ok (k := 3 * n + 2) (np := 1) (ns := 2) F sc_is_fraction rfl rfl fun cdv A outer s H E hr2 => by
    have hr0 := hr2.mono (show 3 * n ≤ 3 * n + 2 by omega)
    have hu := hr2.units
    exact (db_cons (ds_if (dt_w (dw_or (dt_not (dt_val (dn_call (Tx.at_ C 4 "is_tuple_of" (by decide) rfl) hr0 (by rfl) (da_cons (dn_name (pv 0)) (da_cons dn_int da_nil))))) (dw_or1 (dt_not (dt_val (dn_all rfl (by rfl) T.all_ (da_cons (dn_lc (own := [("part", 1)]) rfl N_is_fraction_nd (di_seq (dn_name (pv 0))) (blkOk_by (N := ["thing", "part"]) (sc := defScope st_is_fraction) (own := [("part", 1)]) (by decide +kernel)) (fun _ _ _ _ _ => (pg_name (i := 1) N_is_fraction_nd rfl (Or.inl rfl))) (dl_name (by decide)) (fun _ _ _ _ _ => pts_dnil) (fun _ _ _ _ _ => (dn_call (Tx.at_ C 0 "is_number" (by decide) rfl) hr0 (by rfl) (da_cons (dn_name (pv 1)) da_nil)))) da_nil))))))) (db_one (ds_ret dn_bool)) db_nil)
      (db_one (ds_ret (dn_and (dn_gt hu (dn_ixA hu (dn_name (pv 0)) dn_int) dn_int) (dn_one (dn_eq hu (dn_gcd (by rfl) T.gcd_ (da_cons (dn_ixA hu (dn_name (pv 0)) dn_int) (da_cons (dn_ixA hu (dn_name (pv 0)) dn_int) da_nil))) dn_int))))))
abbrev st_sure_fraction : Stmt := top 22
theorem N_sure_fraction_nd : (["thing", "own"] : List Str).Nodup := by decide +kernel
theorem sc_sure_fraction : FnScope ["thing", "own"] ["thing"] (defScope st_sure_fraction) := ⟨rfl, rfl, rfl, N_sure_fraction_nd, rfl, by decide +kernel, by decide +kernel⟩
theorem ok_sure_fraction {f : Addr} {fd : FuncData} (F : Fun K "sure_fraction" "sure_fraction" st_sure_fraction f fd) (T : Tx K mg) {n : Nat} {c : Orc} (C : Oks P w K mg base n c) : FnOk P w K mg base CX0 (3 * (n + 1)) f fd ["thing"] (spF K (fns 10 c)) :=
  fn_ok (k := 3 * n + 2) (np := 1) (ns := 2) F sc_sure_fraction rfl rfl fun cdv A outer s H E hr2 => by
    have hr0 := hr2.mono (show 3 * n ≤ 3 * n + 2 by omega)
    have hu := hr2.units
    exact (db_cons (ds_set (i := 1) (fun _ h => ps_set (i := 1) N_sure_fraction_nd rfl (Or.inl rfl) h) (dn_call (Tx.at_ C 3 "tuple_of" (by decide) rfl) hr0 (by rfl) (da_cons (dn_name (pv 0)) da_nil)))
      (db_cons (ds_exp (dn_call (Tx.at_ C 5 "sure" (by decide) rfl) hr0 (by rfl) (da_cons (dn_call (Tx.at_ C 9 "is_fraction" (by decide) rfl) hr0 (by rfl) (da_cons (dn_name (pv 1)) da_nil)) da_nil)))
      (db_one (ds_ret (dn_name (pv 1))))))
abbrev st_plus : Stmt := top 23
theorem N_plus_nd : (["one", "other"] : List Str).Nodup := by decide +kernel
theorem sc_plus : FnScope ["one", "other"] ["one", "other"] (defScope st_plus) := ⟨rfl, rfl, rfl, N_plus_nd, rfl, by decide +kernel, by decide +kernel⟩
theorem ok_plus {f : Addr} {fd : FuncData} (F : Fun K "plus" "plus" st_plus f fd) (T : Tx K mg) {n : Nat} {c : Orc} (C : Oks P w K mg base n c) : FnOk P w K mg base CX0 (3 * (n + 1)) f fd ["one", "other"] (spF K (fns 11 c)) :=
  fn_ok (k := 3 * n + 2) (np := 2) (ns := 2) F sc_plus rfl rfl fun cdv A outer s H E hr2 => by
    have hr0 := hr2.mono (show 3 * n ≤ 3 * n + 2 by omega)
    have hu := hr2.units
    exact (db_cons (ds_if (dt_w (dw_and (dt_eq hu (dn_ixA hu (dn_name (pv 0)) dn_int) dn_int) (dw_and1 (dt_eq hu (dn_ixA hu (dn_name (pv 1)) dn_int) dn_int)))) (db_one (ds_ret (dn_tup (df_cons (dn_add (dn_ixA hu (dn_name (pv 0)) dn_int) (dn_ixA hu (dn_name (pv 1)) dn_int)) (df_cons dn_int df_nil))))) db_nil)
      (db_one (ds_ret (dn_call (Tx.at_ C 8 "lowest" (by decide) rfl) hr0 (by rfl) (da_cons (dn_add (dn_mulA (dn_ixA hu (dn_name (pv 0)) dn_int) (dn_ixA hu (dn_name (pv 1)) dn_int)) (dn_mulA (dn_ixA hu (dn_name (pv 1)) dn_int) (dn_ixA hu (dn_name (pv 0)) dn_int))) (da_cons (dn_mulA (dn_ixA hu (dn_name (pv 0)) dn_int) (dn_ixA hu (dn_name (pv 1)) dn_int)) da_nil))))))
abbrev st_times : Stmt := top 24
theorem N_times_nd : (["one", "other"] : List Str).Nodup := by decide +kernel
theorem sc_times : FnScope ["one", "other"] ["one", "other"] (defScope st_times) := ⟨rfl, rfl, rfl, N_times_nd, rfl, by decide +kernel, by decide +kernel⟩
theorem ok_times {f : Addr} {fd : FuncData} (F : Fun K "times" "times" st_times f fd) (T : Tx K mg) {n : Nat} {c : Orc} (C : Oks P w K mg base n c) : FnOk P w K mg base CX0 (3 * (n + 1)) f fd ["one", "other"] (spF K (fns 12 c)) :=
  fn_ok (k := 3 * n + 2) (np := 2) (ns := 2) F sc_times rfl rfl fun cdv A outer s H E hr2 => by
    have hr0 := hr2.mono (show 3 * n ≤ 3 * n + 2 by omega)
    have hu := hr2.units
    exact (db_cons (ds_if (dt_w (dw_and (dt_eq hu (dn_ixA hu (dn_name (pv 0)) dn_int) dn_int) (dw_and1 (dt_eq hu (dn_ixA hu (dn_name (pv 1)) dn_int) dn_int)))) (db_one (ds_ret (dn_tup (df_cons (dn_mulA (dn_ixA hu (dn_name (pv 0)) dn_int) (dn_ixA hu (dn_name (pv 1)) dn_int)) (df_cons dn_int df_nil))))) db_nil)
      (db_one (ds_ret (dn_call (Tx.at_ C 8 "lowest" (by decide) rfl) hr0 (by rfl) (da_cons (dn_mulA (dn_ixA hu (dn_name (pv 0)) dn_int) (dn_ixA hu (dn_name (pv 1)) dn_int)) (da_cons (dn_mulA (dn_ixA hu (dn_name (pv 0)) dn_int) (dn_ixA hu (dn_name (pv 1)) dn_int)) da_nil))))))
abbrev st_power : Stmt := top 25
theorem N_power_nd : (["one", "many", "found", "turn"] : List Str).Nodup := by decide +kernel
theorem sc_power : FnScope ["one", "many", "found", "turn"] ["one", "many"] (defScope st_power) := ⟨rfl, rfl, rfl, N_power_nd, rfl, by decide +kernel, by decide +kernel⟩
theorem ok_power {f : Addr} {fd : FuncData} (F : Fun K "power" "power" st_power f fd) (T : Tx K mg) {n : Nat} {c : Orc} (C : Oks P w K mg base n c) : FnOk P w K mg base CX0 (3 * (n + 1)) f fd ["one", "many"] (spF K (fns 14 c)) :=
  fn_ok (k := 3 * n + 2) (np := 2) (ns := 4) F sc_power rfl rfl fun cdv A outer s H E hr2 => by
    have hr0 := hr2.mono (show 3 * n ≤ 3 * n + 2 by omega)
    have hu := hr2.units
    exact (db_cons (ds_set (i := 2) (fun _ h => ps_set (i := 2) N_power_nd rfl (Or.inl rfl) h) (T.ONE_ (by rfl) rfl rfl))
      (db_cons (ds_for PassesOwn.never rfl (di_range1 (by rfl) T.range_ (dn_name (pv 1))) (dg_name (pg_name (i := 3) N_power_nd rfl (Or.inl rfl))) (db_one (ds_set (i := 2) (fun _ h => ps_set (i := 2) N_power_nd rfl (Or.inl rfl) h) (dn_call (Tx.at_ C 12 "times" (by decide) rfl) hr0 (by rfl) (da_cons (dn_name (pv 2)) (da_cons (dn_name (pv 0)) da_nil))))))
      (db_one (ds_ret (dn_name (pv 2))))))
abbrev st_powers_order : Stmt := top 28
theorem N_powers_order_nd : (["powers", "own"] : List Str).Nodup := by decide +kernel
theorem sc_powers_order : FnScope ["powers", "own"] ["powers"] (defScope st_powers_order) := ⟨rfl, rfl, rfl, N_powers_order_nd, rfl, by decide +kernel, by decide +kernel⟩
theorem ok_powers_order {f : Addr} {fd : FuncData} (F : Fun K "powers_order" "powers_order" st_powers_order f fd) (T : Tx K mg) {n : Nat} {c : Orc} (C : Oks P w K mg base n c) : FnOk P w K mg base CX0 (3 * (n + 1)) f fd ["powers"] (spF K (fns 18 c)) :=
  fn_ok (k := 3 * n + 2) (np := 1) (ns := 2) F sc_powers_order rfl rfl fun cdv A outer s H E hr2 => by
    have hr0 := hr2.mono (show 3 * n ≤ 3 * n + 2 by omega)
    have hu := hr2.units
    exact (db_one (ds_ret (dn_tup (df_cons (dn_neg (dn_sum rfl (by rfl) T.sum_ (da_cons (dn_name (pv 0)) da_nil))) (df_cons (dn_tuple (by rfl) T.tuple_ (da_cons (dn_lc (own := [("own", 1)]) rfl N_powers_order_nd (di_seq (dn_name (pv 0))) (blkOk_by (N := ["powers", "own"]) (sc := defScope st_powers_order) (own := [("own", 1)]) (by decide +kernel)) (fun _ _ _ _ _ => (pg_name (i := 1) N_powers_order_nd rfl (Or.inl rfl))) (dl_name (by decide)) (fun _ _ _ _ _ => pts_dnil) (fun _ _ _ _ _ => (dn_neg (dn_name (pv 1))))) da_nil)) df_nil)))))
abbrev st_is_powers : Stmt := top 29
theorem N_is_powers_nd : (["wide", "thing", "own"] : List Str).Nodup := by decide +kernel
theorem sc_is_powers : FnScope ["wide", "thing", "own"] ["wide", "thing"] (defScope st_is_powers) := ⟨rfl, rfl, rfl, N_is_powers_nd, rfl, by decide +kernel, by decide +kernel⟩
theorem ok_is_powers {f : Addr} {fd : FuncData} (F : Fun K "is_powers" "is_powers" st_is_powers f fd) (T : Tx K mg) {n : Nat} {c : Orc} (C : Oks P w K mg base n c) : FnOk P w K mg base CX0 (3 * (n + 1)) f fd ["wide", "thing"] (spF K (fns 19 c)) :=
  fn_ok (k := 3 * n + 2) (np := 2) (ns := 3) F sc_is_powers rfl rfl fun cdv A outer s H E hr2 => by
    have hr0 := hr2.mono (show 3 * n ≤ 3 * n + 2 by omega)
    have hu := hr2.units
    exact (db_cons (ds_exp (dn_call (Tx.at_ C 7 "sure_wide" (by decide) rfl) hr0 (by rfl) (da_cons (dn_name (pv 0)) da_nil)))
      (db_one (ds_ret (dn_and (dn_call (Tx.at_ C 4 "is_tuple_of" (by decide) rfl) hr0 (by rfl) (da_cons (dn_name (pv 1)) (da_cons (dn_name (pv 0)) da_nil))) (dn_one (dn_all rfl (by rfl) T.all_ (da_cons (dn_lc (own := [("own", 2)]) rfl N_is_powers_nd (di_seq (dn_name (pv 1))) (blkOk_by (N := ["wide", "thing", "own"]) (sc := defScope st_is_powers) (own := [("own", 2)]) (by decide +kernel)) (fun _ _ _ _ _ => (pg_name (i := 2) N_is_powers_nd rfl (Or.inl rfl))) (dl_name (by decide)) (fun _ _ _ _ _ => pts_dnil) (fun _ _ _ _ _ => (dn_call (Tx.at_ C 2 "is_from" (by decide) rfl) hr0 (by rfl) (da_cons (dn_name (pv 2)) (da_cons dn_int da_nil))))) da_nil)))))))
abbrev st_is_term : Stmt := top 30
theorem N_is_term_nd : (["wide", "thing"] : List Str).Nodup := by decide +kernel
theorem sc_is_term : FnScope ["wide", "thing"] ["wide", "thing"] (defScope st_is_term) := ⟨rfl, rfl, rfl, N_is_term_nd, rfl, by decide +kernel, by decide +kernel⟩
theorem ok_is_term {f : Addr} {fd : FuncData} (F : Fun K "is_term" "is_term" st_is_term f fd) (T : Tx K mg) {n : Nat} {c : Orc} (C : Oks P w K mg base n c) : FnOk P w K mg base CX0 (3 * (n + 1)) f fd ["wide", "thing"] (spF K (fns 21 c)) :=
  fn_ok (k := 3 * n + 2) (np := 2) (ns := 2) F sc_is_term rfl rfl fun cdv A outer s H E hr2 => by
    have hr0 := hr2.mono (show 3 * n ≤ 3 * n + 2 by omega)
    have hu := hr2.units
    exact (db_one (ds_ret (dn_and (dn_call (Tx.at_ C 4 "is_tuple_of" (by decide) rfl) hr0 (by rfl) (da_cons (dn_name (pv 1)) (da_cons dn_int da_nil))) (dn_and (dn_call (Tx.at_ C 19 "is_powers" (by decide) rfl) hr0 (by rfl) (da_cons (dn_name (pv 0)) (da_cons (dn_ixA hu (dn_name (pv 1)) dn_int) da_nil))) (dn_and (dn_call (Tx.at_ C 9 "is_fraction" (by decide) rfl) hr0 (by rfl) (da_cons (dn_ixA hu (dn_name (pv 1)) dn_int) da_nil)) (dn_one (dn_ne hu (dn_ixA hu (dn_name (pv 1)) dn_int) (T.ZERO_ (by rfl) rfl rfl))))))))
abbrev st_is_polynomial : Stmt := top 31
theorem N_is_polynomial_nd : (["wide", "thing", "rows", "own", "k"] : List Str).Nodup := by decide +kernel
theorem sc_is_polynomial : FnScope ["wide", "thing", "rows", "own", "k"] ["wide", "thing"] (defScope st_is_polynomial) := ⟨rfl, rfl, rfl, N_is_polynomial_nd, rfl, by decide +kernel, by decide +kernel⟩
theorem ok_is_polynomial {f : Addr} {fd : FuncData} (F : Fun K "is_polynomial" "is_polynomial" st_is_polynomial f fd) (T : Tx K mg) {n : Nat} {c : Orc} (C : Oks P w K mg base n c) : FnOk P w K mg base CX0 (3 * (n + 1)) f fd ["wide", "thing"] (spF K (fns 22 c)) :=
  fn_ok (k := 3 * n + 2) (np := 2) (ns := 5) F sc_is_polynomial rfl rfl fun cdv A outer s H E hr2 => by
    have hr0 := hr2.mono (show 3 * n ≤ 3 * n + 2 by omega)
    have hu := hr2.units
    exact (db_cons (ds_exp (dn_call (Tx.at_ C 7 "sure_wide" (by decide) rfl) hr0 (by rfl) (da_cons (dn_name (pv 0)) da_nil)))
      (db_cons (ds_if (dt_w (dw_or (dt_not (dt_val (dn_isi .tuple (by rfl) T.isinstance_ (by rfl) T.tuple_ bo_tuple (dn_name (pv 1))))) (dw_or1 (dt_not (dt_val (dn_all rfl (by rfl) T.all_ (da_cons (dn_lc (own := [("own", 3)]) rfl N_is_polynomial_nd (di_seq (dn_name (pv 1))) (blkOk_by (N := ["wide", "thing", "rows", "own", "k"]) (sc := defScope st_is_polynomial) (own := [("own", 3)]) (by decide +kernel)) (fun _ _ _ _ _ => (pg_name (i := 3) N_is_polynomial_nd rfl (Or.inl rfl))) (dl_name (by decide)) (fun _ _ _ _ _ => pts_dnil) (fun _ _ _ _ _ => (dn_call (Tx.at_ C 21 "is_term" (by decide) rfl) hr0 (by rfl) (da_cons (dn_name (pv 0)) (da_cons (dn_name (pv 3)) da_nil))))) da_nil))))))) (db_one (ds_ret dn_bool)) db_nil)
      (db_cons (ds_set (i := 2) (fun _ h => ps_set (i := 2) N_is_polynomial_nd rfl (Or.inr rfl) h) (dn_lc (own := [("own", 3)]) rfl N_is_polynomial_nd (di_seq (dn_name (pv 1))) (blkOk_by (N := ["wide", "thing", "rows", "own", "k"]) (sc := defScope st_is_polynomial) (own := [("own", 3)]) (by decide +kernel)) (fun _ _ _ _ _ => (pg_name (i := 3) N_is_polynomial_nd rfl (Or.inl rfl))) (dl_name (by decide)) (fun _ _ _ _ _ => pts_dnil) (fun _ _ _ _ _ => (dn_call (Tx.at_ C 18 "powers_order" (by decide) rfl) hr0 (by rfl) (da_cons (dn_ixA hu (dn_name (pv 3)) dn_int) da_nil)))))
      (db_one (ds_ret (dn_all rfl (by rfl) T.all_ (da_cons (dn_lc (own := [("k", 4)]) rfl N_is_polynomial_nd (di_range1 (by rfl) T.range_ (dn_sub (dn_lenA (by rfl) T.len_ (da_cons (dn_name (pv 2)) da_nil)) dn_int)) (blkOk_by (N := ["wide", "thing", "rows", "own", "k"]) (sc := defScope st_is_polynomial) (own := [("k", 4)]) (by decide +kernel)) (fun _ _ _ _ _ => (pg_name (i := 4) N_is_polynomial_nd rfl (Or.inl rfl))) (dl_name (by decide)) (fun _ _ _ _ _ => pts_dnil) (fun _ _ _ _ _ => (dn_lt hu (dn_ixA hu (dn_name (pv 2)) (dn_name (pv 4))) (dn_ixA hu (dn_name (pv 2)) (dn_add (dn_name (pv 4)) dn_int))))) da_nil)))))))
abbrev st_sure_polynomial : Stmt := top 32
theorem N_sure_polynomial_nd : (["wide", "polynomial", "own"] : List Str).Nodup := by decide +kernel
theorem sc_sure_polynomial : FnScope ["wide", "polynomial", "own"] ["wide", "polynomial"] (defScope st_sure_polynomial) := ⟨rfl, rfl, rfl, N_sure_polynomial_nd, rfl, by decide +kernel, by decide +kernel⟩
theorem ok_sure_polynomial {f : Addr} {fd : FuncData} (F : Fun K "sure_polynomial" "sure_polynomial" st_sure_polynomial f fd) (T : Tx K mg) {n : Nat} {c : Orc} (C : Oks P w K mg base n c) : FnOk P w K mg base CX0 (3 * (n + 1)) f fd ["wide", "polynomial"] (spF K (fns 23 c)) :=
  fn_ok (k := 3 * n + 2) (np := 2) (ns := 3) F sc_sure_polynomial rfl rfl fun cdv A outer s H E hr2 => by
    have hr0 := hr2.mono (show 3 * n ≤ 3 * n + 2 by omega)
    have hu := hr2.units
    exact (db_cons (ds_set (i := 2) (fun _ h => ps_set (i := 2) N_sure_polynomial_nd rfl (Or.inl rfl) h) (dn_call (Tx.at_ C 3 "tuple_of" (by decide) rfl) hr0 (by rfl) (da_cons (dn_name (pv 1)) da_nil)))
      (db_cons (ds_exp (dn_call (Tx.at_ C 5 "sure" (by decide) rfl) hr0 (by rfl) (da_cons (dn_call (Tx.at_ C 22 "is_polynomial" (by decide) rfl) hr0 (by rfl) (da_cons (dn_name (pv 0)) (da_cons (dn_name (pv 2)) da_nil))) da_nil)))
      (db_one (ds_ret (dn_name (pv 2))))))
abbrev st_sure_polynomials : Stmt := top 33
theorem N_sure_polynomials_nd : (["wide", "polynomials", "some", "own"] : List Str).Nodup := by decide +kernel
theorem sc_sure_polynomials : FnScope ["wide", "polynomials", "some", "own"] ["wide", "polynomials"] (defScope st_sure_polynomials) := ⟨rfl, rfl, rfl, N_sure_polynomials_nd, rfl, by decide +kernel, by decide +kernel⟩
theorem ok_sure_polynomials {f : Addr} {fd : FuncData} (F : Fun K "sure_polynomials" "sure_polynomials" st_sure_polynomials f fd) (T : Tx K mg) {n : Nat} {c : Orc} (C : Oks P w K mg base n c) : FnOk P w K mg base CX0 (3 * (n + 1)) f fd ["wide", "polynomials"] (spF K (fns 227 c)) :=
  fn_ok (k := 3 * n + 2) (np := 2) (ns := 4) F sc_sure_polynomials rfl rfl fun cdv A outer s H E hr2 => by
    have hr0 := hr2.mono (show 3 * n ≤ 3 * n + 2 by omega)
    have hu := hr2.units
    exact (db_cons (ds_set (i := 2) (fun _ h => ps_set (i := 2) N_sure_polynomials_nd rfl (Or.inl rfl) h) (dn_call (Tx.at_ C 3 "tuple_of" (by decide) rfl) hr0 (by rfl) (da_cons (dn_name (pv 1)) da_nil)))
      (db_cons (ds_exp (dn_call (Tx.at_ C 5 "sure" (by decide) rfl) hr0 (by rfl) (da_cons (dn_and (dn_isi .tuple (by rfl) T.isinstance_ (by rfl) T.tuple_ bo_tuple (dn_name (pv 2))) (dn_one (dn_all rfl (by rfl) T.all_ (da_cons (dn_lc (own := [("own", 3)]) rfl N_sure_polynomials_nd (di_seq (dn_name (pv 2))) (blkOk_by (N := ["wide", "polynomials", "some", "own"]) (sc := defScope st_sure_polynomials) (own := [("own", 3)]) (by decide +kernel)) (fun _ _ _ _ _ => (pg_name (i := 3) N_sure_polynomials_nd rfl (Or.inl rfl))) (dl_name (by decide)) (fun _ _ _ _ _ => pts_dnil) (fun _ _ _ _ _ => (dn_call (Tx.at_ C 22 "is_polynomial" (by decide) rfl) hr0 (by rfl) (da_cons (dn_name (pv 0)) (da_cons (dn_name (pv 3)) da_nil))))) da_nil)))) da_nil)))
      (db_one (ds_ret (dn_name (pv 2))))))
abbrev st_added_to : Stmt := top 34
theorem N_added_to_nd : (["found", "powers", "share", "more"] : List Str).Nodup := by decide +kernel
theorem sc_added_to : FnScope ["found", "powers", "share", "more"] ["found", "powers", "share"] (defScope st_added_to) := ⟨rfl, rfl, rfl, N_added_to_nd, rfl, by decide +kernel, by decide +kernel⟩
theorem ok_added_to {f : Addr} {fd : FuncData} (F : Fun K "added_to" "added_to" st_added_to f fd) (T : Tx K mg) {n : Nat} {c : Orc} (C : Oks P w K mg base n c) : FnOk P w K mg base CX0 (3 * (n + 1)) f fd ["found", "powers", "share"] (spF K (fns 24 c)) :=
  fn_ok (k := 3 * n + 2) (np := 3) (ns := 4) F sc_added_to rfl rfl fun cdv A outer s H E hr2 => by
    have hr0 := hr2.mono (show 3 * n ≤ 3 * n + 2 by omega)
    have hu := hr2.units
    exact (db_cons (ds_set (i := 3) (fun _ h => ps_set (i := 3) N_added_to_nd rfl (Or.inl rfl) h) (dn_if (dt_in hu (dn_name (pv 1)) (dn_name (pv 0))) (dn_call (Tx.at_ C 11 "plus" (by decide) rfl) hr0 (by rfl) (da_cons (dn_ixA hu (dn_name (pv 0)) (dn_name (pv 1))) (da_cons (dn_name (pv 2)) da_nil))) (dn_name (pv 2))))
      (db_one (ds_if (dt_ne hu (dn_name (pv 3)) (T.ZERO_ (by rfl) rfl rfl)) (db_one (ds_asg (fun _ h hg => ps_asg h hg) (dn_name (pv 3)) (dg_sub hu (dn_name (pv 0)) (dn_name (pv 1))))) (db_one (ds_if (dt_in hu (dn_name (pv 1)) (dn_name (pv 0))) (db_one (ds_del hu (dn_name (pv 0)) (dn_name (pv 1)))) db_nil)))))
abbrev st_made : Stmt := top 35
theorem N_made_nd : (["found", "powers"] : List Str).Nodup := by decide +kernel
theorem sc_made : FnScope ["found", "powers"] ["found"] (defScope st_made) := ⟨rfl, rfl, rfl, N_made_nd, rfl, by decide +kernel, by decide +kernel⟩
theorem ok_made {f : Addr} {fd : FuncData} (F : Fun K "made" "made" st_made f fd) (T : Tx K mg) {n : Nat} {c : Orc} (C : Oks P w K mg base n c) : FnOk P w K mg base CX0 (3 * (n + 1)) f fd ["found"] (spF K (fns 25 c)) :=
  fn_ok (k := 3 * n + 2) (np := 1) (ns := 2) F sc_made rfl rfl fun cdv A outer s H E hr2 => by
    have hr0 := hr2.mono (show 3 * n ≤ 3 * n + 2 by omega)
    have hu := hr2.units
    exact (db_cons (ds_if (dt_gt hu (dn_lenA (by rfl) T.len_ (da_cons (dn_name (pv 0)) da_nil)) (T.MOST_TERMS_ (by rfl) rfl)) (db_one ds_never) db_nil)
      (db_one (ds_ret (dn_tuple (by rfl) T.tuple_ (da_cons (dn_lc (own := [("powers", 1)]) rfl N_made_nd (di_seq (dn_sortK (Tx.at_ C 18 "powers_order" (by decide) rfl) hr2 rfl (by rfl) T.sorted_ (by rfl) (dn_name (pv 0)))) (blkOk_by (N := ["found", "powers"]) (sc := defScope st_made) (own := [("powers", 1)]) (by decide +kernel)) (fun _ _ _ _ _ => (pg_name (i := 1) N_made_nd rfl (Or.inl rfl))) (dl_name (by decide)) (fun _ _ _ _ _ => pts_dnil) (fun _ _ _ _ _ => (dn_tup (df_cons (dn_name (pv 1)) (df_cons (dn_ixA hu (dn_name (pv 0)) (dn_name (pv 1))) df_nil))))) da_nil)))))
abbrev st_summed : Stmt := top 36
theorem N_summed_nd : (["some", "found", "own", "powers", "share"] : List Str).Nodup := by decide +kernel
theorem sc_summed : FnScope ["some", "found", "own", "powers", "share"] ["some"] (defScope st_summed) := ⟨rfl, rfl, rfl, N_summed_nd, rfl, by decide +kernel, by decide +kernel⟩
theorem ok_summed {f : Addr} {fd : FuncData} (F : Fun K "summed" "summed" st_summed f fd) (T : Tx K mg) {n : Nat} {c : Orc} (C : Oks P w K mg base n c) : FnOk P w K mg base CX0 (3 * (n + 1)) f fd ["some"] (spF K (fns 26 c)) :=
  fn_ok (k := 3 * n + 2) (np := 1) (ns := 5) F sc_summed rfl rfl fun cdv A outer s H E hr2 => by
    have hr0 := hr2.mono (show 3 * n ≤ 3 * n + 2 by omega)
    have hu := hr2.units
    exact (db_cons (ds_set (i := 1) (fun _ h => ps_set (i := 1) N_summed_nd rfl (Or.inl rfl) h) dn_newD)
      (db_cons (ds_for PassesOwn.never rfl (di_seq (dn_name (pv 0))) (dg_name (pg_name (i := 2) N_summed_nd rfl (Or.inl rfl))) (db_one (ds_for PassesOwn.never rfl (di_seq (dn_name (pv 2))) (dg_tup rfl (dgs_cons (dg_name (pg_name (i := 3) N_summed_nd rfl (Or.inl rfl))) (dgs_cons (dg_name (pg_name (i := 4) N_summed_nd rfl (Or.inl rfl))) dgs_nil))) (db_one (ds_exp (dn_call (Tx.at_ C 24 "added_to" (by decide) rfl) hr0 (by rfl) (da_cons (dn_name (pv 1)) (da_cons (dn_name (pv 3)) (da_cons (dn_name (pv 4)) da_nil)))))))))
      (db_one (ds_ret (dn_call (Tx.at_ C 25 "made" (by decide) rfl) hr0 (by rfl) (da_cons (dn_name (pv 1)) da_nil))))))
abbrev st_product : Stmt := top 37
theorem N_product_nd : (["one", "other", "found", "powers", "share", "more", "far", "near", "past"] : List Str).Nodup := by decide +kernel
theorem sc_product : FnScope ["one", "other", "found", "powers", "share", "more", "far", "near", "past"] ["one", "other"] (defScope st_product) := ⟨rfl, rfl, rfl, N_product_nd, rfl, by decide +kernel, by decide +kernel⟩
theorem ok_product {f : Addr} {fd : FuncData} (F : Fun K "product" "product" st_product f fd) (T : Tx K mg) {n : Nat} {c : Orc} (C : Oks P w K mg base n c) : FnOk P w K mg base CX0 (3 * (n + 1)) f fd ["one", "other"] (spF K (fns 28 c)) :=
  fn_ok (k := 3 * n + 2) (np := 2) (ns := 9) F sc_product rfl rfl fun cdv A outer s H E hr2 => by
    have hr0 := hr2.mono (show 3 * n ≤ 3 * n + 2 by omega)
    have hu := hr2.units
    exact (db_cons (ds_set (i := 2) (fun _ h => ps_set (i := 2) N_product_nd rfl (Or.inl rfl) h) dn_newD)
      (db_cons (ds_for PassesOwn.never rfl (di_seq (dn_name (pv 0))) (dg_tup rfl (dgs_cons (dg_name (pg_name (i := 3) N_product_nd rfl (Or.inl rfl))) (dgs_cons (dg_name (pg_name (i := 4) N_product_nd rfl (Or.inl rfl))) dgs_nil))) (db_one (ds_for PassesOwn.never rfl (di_seq (dn_name (pv 1))) (dg_tup rfl (dgs_cons (dg_name (pg_name (i := 5) N_product_nd rfl (Or.inl rfl))) (dgs_cons (dg_name (pg_name (i := 6) N_product_nd rfl (Or.inl rfl))) dgs_nil))) (db_one (ds_exp (dn_call (Tx.at_ C 24 "added_to" (by decide) rfl) hr0 (by rfl) (da_cons (dn_name (pv 2)) (da_cons (dn_tuple (by rfl) T.tuple_ (da_cons (dn_lc (own := [("near", 7), ("past", 8)]) rfl N_product_nd (di_zip (by rfl) T.zip_ (dn_name (pv 3)) (dn_name (pv 5))) (blkOk_by (N := ["one", "other", "found", "powers", "share", "more", "far", "near", "past"]) (sc := defScope st_product) (own := [("near", 7), ("past", 8)]) (by decide +kernel)) (fun _ _ _ _ _ => (pg_tup rfl (pgs_cons (pg_name (i := 7) N_product_nd rfl (Or.inl rfl)) (pgs_cons (pg_name (i := 8) N_product_nd rfl (Or.inl rfl)) pgs_nil)))) (dl_tup (dls_cons (dl_name (by decide)) (dls_cons (dl_name (by decide)) dls_nil))) (fun _ _ _ _ _ => pts_dnil) (fun _ _ _ _ _ => (dn_add (dn_name (pv 7)) (dn_name (pv 8))))) da_nil)) (da_cons (dn_call (Tx.at_ C 12 "times" (by decide) rfl) hr0 (by rfl) (da_cons (dn_name (pv 4)) (da_cons (dn_name (pv 6)) da_nil))) da_nil)))))))))
      (db_one (ds_ret (dn_call (Tx.at_ C 25 "made" (by decide) rfl) hr0 (by rfl) (da_cons (dn_name (pv 2)) da_nil))))))
abbrev st_multiplied : Stmt := top 38
theorem N_multiplied_nd : (["wide", "some", "found", "own"] : List Str).Nodup := by decide +kernel
theorem sc_multiplied : FnScope ["wide", "some", "found", "own"] ["wide", "some"] (defScope st_multiplied) := ⟨rfl, rfl, rfl, N_multiplied_nd, rfl, by decide +kernel, by decide +kernel⟩
theorem ok_multiplied {f : Addr} {fd : FuncData} (F : Fun K "multiplied" "multiplied" st_multiplied f fd) (T : Tx K mg) {n : Nat} {c : Orc} (C : Oks P w K mg base n c) : FnOk P w K mg base CX0 (3 * (n + 1)) f fd ["wide", "some"] (spF K (fns 29 c)) :=
  fn_ok (k := 3 * n + 2) (np := 2) (ns := 4) F sc_multiplied rfl rfl fun cdv A outer s H E hr2 => by
    have hr0 := hr2.mono (show 3 * n ≤ 3 * n + 2 by omega)
    have hu := hr2.units
    exact (db_cons (ds_set (i := 2) (fun _ h => ps_set (i := 2) N_multiplied_nd rfl (Or.inl rfl) h) (dn_call (Tx.at_ C 30 "number" (by decide) rfl) hr0 (by rfl) (da_cons (dn_name (pv 0)) (da_cons (T.ONE_ (by rfl) rfl rfl) da_nil))))
      (db_cons (ds_for PassesOwn.never rfl (di_seq (dn_name (pv 1))) (dg_name (pg_name (i := 3) N_multiplied_nd rfl (Or.inl rfl))) (db_one (ds_set (i := 2) (fun _ h => ps_set (i := 2) N_multiplied_nd rfl (Or.inl rfl) h) (dn_call (Tx.at_ C 28 "product" (by decide) rfl) hr0 (by rfl) (da_cons (dn_name (pv 2)) (da_cons (dn_name (pv 3)) da_nil))))))
      (db_one (ds_ret (dn_name (pv 2))))))
abbrev st_number : Stmt := top 39
theorem N_number_nd : (["wide", "share"] : List Str).Nodup := by decide +kernel
theorem sc_number : FnScope ["wide", "share"] ["wide", "share"] (defScope st_number) := ⟨rfl, rfl, rfl, N_number_nd, rfl, by decide +kernel, by decide +kernel⟩
theorem ok_number {f : Addr} {fd : FuncData} (F : Fun K "number" "number" st_number f fd) (T : Tx K mg) {n : Nat} {c : Orc} (C : Oks P w K mg base n c) : FnOk P w K mg base CX0 (3 * (n + 1)) f fd ["wide", "share"] (spF K (fns 30 c)) :=
  fn_ok (k := 3 * n + 2) (np := 2) (ns := 2) F sc_number rfl rfl fun cdv A outer s H E hr2 => by
    have hr0 := hr2.mono (show 3 * n ≤ 3 * n + 2 by omega)
    have hu := hr2.units
    exact (db_one (ds_ret (dn_if (dt_eq hu (dn_name (pv 1)) (T.ZERO_ (by rfl) rfl rfl)) (dn_tup df_nil) (dn_tup (df_cons (dn_tup (df_cons (dn_mulA (dn_tup (df_cons dn_int df_nil)) (dn_name (pv 0))) (df_cons (dn_name (pv 1)) df_nil))) df_nil)))))
abbrev st_letter : Stmt := top 40
theorem N_letter_nd : (["wide", "place", "k"] : List Str).Nodup := by decide +kernel
theorem sc_letter : FnScope ["wide", "place", "k"] ["wide", "place"] (defScope st_letter) := ⟨rfl, rfl, rfl, N_letter_nd, rfl, by decide +kernel, by decide +kernel⟩
theorem ok_letter {f : Addr} {fd : FuncData} (F : Fun K "letter" "letter" st_letter f fd) (T : Tx K mg) {n : Nat} {c : Orc} (C : Oks P w K mg base n c) : FnOk P w K mg base CX0 (3 * (n + 1)) f fd ["wide", "place"] (spF K (fns 108 c)) :=
  fn_ok (k := 3 * n + 2) (np := 2) (ns := 3) F sc_letter rfl rfl fun cdv A outer s H E hr2 => by
    have hr0 := hr2.mono (show 3 * n ≤ 3 * n + 2 by omega)
    have hu := hr2.units
    exact (db_one (ds_ret (dn_tup (df_cons (dn_tup (df_cons (dn_tuple (by rfl) T.tuple_ (da_cons (dn_lc (own := [("k", 2)]) rfl N_letter_nd (di_range1 (by rfl) T.range_ (dn_name (pv 0))) (blkOk_by (N := ["wide", "place", "k"]) (sc := defScope st_letter) (own := [("k", 2)]) (by decide +kernel)) (fun _ _ _ _ _ => (pg_name (i := 2) N_letter_nd rfl (Or.inl rfl))) (dl_name (by decide)) (fun _ _ _ _ _ => pts_dnil) (fun _ _ _ _ _ => (dn_int1 (by rfl) T.int_ (da_cons (dn_eq hu (dn_add (dn_name (pv 2)) dn_int) (dn_name (pv 1))) da_nil)))) da_nil)) (df_cons (T.ONE_ (by rfl) rfl rfl) df_nil))) df_nil))))
abbrev st_number_sum : Stmt := top 41
theorem N_number_sum_nd : (["wide", "fraction"] : List Str).Nodup := by decide +kernel
theorem sc_number_sum : FnScope ["wide", "fraction"] ["wide", "fraction"] (defScope st_number_sum) := ⟨rfl, rfl, rfl, N_number_sum_nd, rfl, by decide +kernel, by decide +kernel⟩
theorem ok_number_sum {f : Addr} {fd : FuncData} (F : Fun K "number_sum" "number_sum" st_number_sum f fd) (T : Tx K mg) {n : Nat} {c : Orc} (C : Oks P w K mg base n c) : FnOk P w K mg base CX0 (3 * (n + 1)) f fd ["wide", "fraction"] (spF K (fns 494 c)) :=
  fn_ok (k := 3 * n + 2) (np := 2) (ns := 2) F sc_number_sum rfl rfl fun cdv A outer s H E hr2 => by
    have hr0 := hr2.mono (show 3 * n ≤ 3 * n + 2 by omega)
    have hu := hr2.units
    exact (db_cons (ds_exp (dn_call (Tx.at_ C 7 "sure_wide" (by decide) rfl) hr0 (by rfl) (da_cons (dn_name (pv 0)) da_nil)))
      (db_one (ds_ret (dn_call (Tx.at_ C 30 "number" (by decide) rfl) hr0 (by rfl) (da_cons (dn_name (pv 0)) (da_cons (dn_call (Tx.at_ C 10 "sure_fraction" (by decide) rfl) hr0 (by rfl) (da_cons (dn_name (pv 1)) da_nil)) da_nil))))))
abbrev st_letter_sum : Stmt := top 42
theorem N_letter_sum_nd : (["wide", "place"] : List Str).Nodup := by decide +kernel
theorem sc_letter_sum : FnScope ["wide", "place"] ["wide", "place"] (defScope st_letter_sum) := ⟨rfl, rfl, rfl, N_letter_sum_nd, rfl, by decide +kernel, by decide +kernel⟩
theorem ok_letter_sum {f : Addr} {fd : FuncData} (F : Fun K "letter_sum" "letter_sum" st_letter_sum f fd) (T : Tx K mg) {n : Nat} {c : Orc} (C : Oks P w K mg base n c) : FnOk P w K mg base CX0 (3 * (n + 1)) f fd ["wide", "place"] (spF K (fns 495 c)) :=
  fn_ok (k := 3 * n + 2) (np := 2) (ns := 2) F sc_letter_sum rfl rfl fun cdv A outer s H E hr2 => by
    have hr0 := hr2.mono (show 3 * n ≤ 3 * n + 2 by omega)
    have hu := hr2.units
    exact (db_cons (ds_exp (dn_call (Tx.at_ C 7 "sure_wide" (by decide) rfl) hr0 (by rfl) (da_cons (dn_name (pv 0)) da_nil)))
      (db_cons (ds_exp (dn_call (Tx.at_ C 5 "sure" (by decide) rfl) hr0 (by rfl) (da_cons (dn_call (Tx.at_ C 1 "is_between" (by decide) rfl) hr0 (by rfl) (da_cons (dn_name (pv 1)) (da_cons dn_int (da_cons (dn_name (pv 0)) da_nil)))) da_nil)))
      (db_one (ds_ret (dn_call (Tx.at_ C 108 "letter" (by decide) rfl) hr0 (by rfl) (da_cons (dn_name (pv 0)) (da_cons (dn_name (pv 1)) da_nil)))))))
abbrev st_sum_plus : Stmt := top 43
theorem N_sum_plus_nd : (["wide", "one", "other"] : List Str).Nodup := by decide +kernel
theorem sc_sum_plus : FnScope ["wide", "one", "other"] ["wide", "one", "other"] (defScope st_sum_plus) := ⟨rfl, rfl, rfl, N_sum_plus_nd, rfl, by decide +kernel, by decide +kernel⟩
theorem ok_sum_plus {f : Addr} {fd : FuncData} (F : Fun K "sum_plus" "sum_plus" st_sum_plus f fd) (T : Tx K mg) {n : Nat} {c : Orc} (C : Oks P w K mg base n c) : FnOk P w K mg base CX0 (3 * (n + 1)) f fd ["wide", "one", "other"] (spF K (fns 31 c)) :=
  fn_ok (k := 3 * n + 2) (np := 3) (ns := 3) F sc_sum_plus rfl rfl fun cdv A outer s H E hr2 => by
    have hr0 := hr2.mono (show 3 * n ≤ 3 * n + 2 by omega)
    have hu := hr2.units
    exact (db_one (ds_ret (dn_call (Tx.at_ C 26 "summed" (by decide) rfl) hr0 (by rfl) (da_cons (dn_lst (df_cons (dn_call (Tx.at_ C 23 "sure_polynomial" (by decide) rfl) hr0 (by rfl) (da_cons (dn_name (pv 0)) (da_cons (dn_name (pv 1)) da_nil))) (df_cons (dn_call (Tx.at_ C 23 "sure_polynomial" (by decide) rfl) hr0 (by rfl) (da_cons (dn_name (pv 0)) (da_cons (dn_name (pv 2)) da_nil))) df_nil))) da_nil))))
abbrev st_sum_times : Stmt := top 44
theorem N_sum_times_nd : (["wide", "one", "other", "near", "far"] : List Str).Nodup := by decide +kernel
theorem sc_sum_times : FnScope ["wide", "one", "other", "near", "far"] ["wide", "one", "other"] (defScope st_sum_times) := ⟨rfl, rfl, rfl, N_sum_times_nd, rfl, by decide +kernel, by decide +kernel⟩
theorem ok_sum_times {f : Addr} {fd : FuncData} (F : Fun K "sum_times" "sum_times" st_sum_times f fd) (T : Tx K mg) {n : Nat} {c : Orc} (C : Oks P w K mg base n c) : FnOk P w K mg base CX0 (3 * (n + 1)) f fd ["wide", "one", "other"] (spF K (fns 33 c)) :=
  fn_ok (k := 3 * n + 2) (np := 3) (ns := 5) F sc_sum_times rfl rfl fun cdv A outer s H E hr2 => by
    have hr0 := hr2.mono (show 3 * n ≤ 3 * n + 2 by omega)
    have hu := hr2.units
    exact (db_cons (ds_par2 (i := 3) (j := 4) (fun _ h => ps_par (i := 3) (j := 4) rfl N_sum_times_nd rfl rfl (by decide) rfl rfl h (by rfl)) (da_cons (dn_call (Tx.at_ C 23 "sure_polynomial" (by decide) rfl) hr0 (by rfl) (da_cons (dn_name (pv 0)) (da_cons (dn_name (pv 1)) da_nil))) (da_cons (dn_call (Tx.at_ C 23 "sure_polynomial" (by decide) rfl) hr0 (by rfl) (da_cons (dn_name (pv 0)) (da_cons (dn_name (pv 2)) da_nil))) da_nil)))
      (db_one (ds_ret (dn_call (Tx.at_ C 28 "product" (by decide) rfl) hr0 (by rfl) (da_cons (dn_name (pv 3)) (da_cons (dn_name (pv 4)) da_nil))))))
abbrev st_top_degree : Stmt := top 45
theorem N_top_degree_nd : (["own"] : List Str).Nodup := by decide +kernel
theorem sc_top_degree : FnScope ["own"] ["own"] (defScope st_top_degree) := ⟨rfl, rfl, rfl, N_top_degree_nd, rfl, by decide +kernel, by decide +kernel⟩
theorem ok_top_degree {f : Addr} {fd : FuncData} (F : Fun K "top_degree" "top_degree" st_top_degree f fd) (T : Tx K mg) {n : Nat} {c : Orc} (C : Oks P w K mg base n c) : FnOk P w K mg base CX0 (3 * (n + 1)) f fd ["own"] (spF K (fns 36 c)) :=
  fn_ok (k := 3 * n + 2) (np := 1) (ns := 1) F sc_top_degree rfl rfl fun cdv A outer s H E hr2 => by
    have hr0 := hr2.mono (show 3 * n ≤ 3 * n + 2 by omega)
    have hu := hr2.units
    exact (db_one (ds_ret (dn_if (dt_ne hu (dn_name (pv 0)) (dn_tup df_nil)) (dn_sum rfl (by rfl) T.sum_ (da_cons (dn_ixA hu (dn_ixA hu (dn_name (pv 0)) dn_int) dn_int) da_nil)) (dn_neg dn_int))))
abbrev st_degree_of : Stmt := top 46
theorem N_degree_of_nd : (["wide", "polynomial"] : List Str).Nodup := by decide +kernel
theorem sc_degree_of : FnScope ["wide", "polynomial"] ["wide", "polynomial"] (defScope st_degree_of) := ⟨rfl, rfl, rfl, N_degree_of_nd, rfl, by decide +kernel, by decide +kernel⟩
theorem ok_degree_of {f : Addr} {fd : FuncData} (F : Fun K "degree_of" "degree_of" st_degree_of f fd) (T : Tx K mg) {n : Nat} {c : Orc} (C : Oks P w K mg base n c) : FnOk P w K mg base CX0 (3 * (n + 1)) f fd ["wide", "polynomial"] (spF K (fns 37 c)) :=
  fn_ok (k := 3 * n + 2) (np := 2) (ns := 2) F sc_degree_of rfl rfl fun cdv A outer s H E hr2 => by
    have hr0 := hr2.mono (show 3 * n ≤ 3 * n + 2 by omega)
    have hu := hr2.units
    exact (db_one (ds_ret (dn_call (Tx.at_ C 36 "top_degree" (by decide) rfl) hr0 (by rfl) (da_cons (dn_call (Tx.at_ C 23 "sure_polynomial" (by decide) rfl) hr0 (by rfl) (da_cons (dn_name (pv 0)) (da_cons (dn_name (pv 1)) da_nil))) da_nil))))
abbrev st_is_point : Stmt := top 47
theorem N_is_point_nd : (["wide", "thing", "own"] : List Str).Nodup := by decide +kernel
theorem sc_is_point : FnScope ["wide", "thing", "own"] ["wide", "thing"] (defScope st_is_point) := ⟨rfl, rfl, rfl, N_is_point_nd, rfl, by decide +kernel, by decide +kernel⟩
theorem ok_is_point {f : Addr} {fd : FuncData} (F : Fun K "is_point" "is_point" st_is_point f fd) (T : Tx K mg) {n : Nat} {c : Orc} (C : Oks P w K mg base n c) : FnOk P w K mg base CX0 (3 * (n + 1)) f fd ["wide", "thing"] (spF K (fns 42 c)) :=
  fn_ok (k := 3 * n + 2) (np := 2) (ns := 3) F sc_is_point rfl rfl fun cdv A outer s H E hr2 => by
    have hr0 := hr2.mono (show 3 * n ≤ 3 * n + 2 by omega)
    have hu := hr2.units
    exact (db_cons (ds_exp (dn_call (Tx.at_ C 7 "sure_wide" (by decide) rfl) hr0 (by rfl) (da_cons (dn_name (pv 0)) da_nil)))
      (db_one (ds_ret (dn_and (dn_call (Tx.at_ C 4 "is_tuple_of" (by decide) rfl) hr0 (by rfl) (da_cons (dn_name (pv 1)) (da_cons (dn_name (pv 0)) da_nil))) (dn_one (dn_all rfl (by rfl) T.all_ (da_cons (dn_lc (own := [("own", 2)]) rfl N_is_point_nd (di_seq (dn_name (pv 1))) (blkOk_by (N := ["wide", "thing", "own"]) (sc := defScope st_is_point) (own := [("own", 2)]) (by decide +kernel)) (fun _ _ _ _ _ => (pg_name (i := 2) N_is_point_nd rfl (Or.inl rfl))) (dl_name (by decide)) (fun _ _ _ _ _ => pts_dnil) (fun _ _ _ _ _ => (dn_call (Tx.at_ C 9 "is_fraction" (by decide) rfl) hr0 (by rfl) (da_cons (dn_name (pv 2)) da_nil)))) da_nil)))))))
abbrev st_sure_point : Stmt := top 48
theorem N_sure_point_nd : (["wide", "point", "own"] : List Str).Nodup := by decide +kernel
theorem sc_sure_point : FnScope ["wide", "point", "own"] ["wide", "point"] (defScope st_sure_point) := ⟨rfl, rfl, rfl, N_sure_point_nd, rfl, by decide +kernel, by decide +kernel⟩
theorem ok_sure_point {f : Addr} {fd : FuncData} (F : Fun K "sure_point" "sure_point" st_sure_point f fd) (T : Tx K mg) {n : Nat} {c : Orc} (C : Oks P w K mg base n c) : FnOk P w K mg base CX0 (3 * (n + 1)) f fd ["wide", "point"] (spF K (fns 43 c)) :=
  fn_ok (k := 3 * n + 2) (np := 2) (ns := 3) F sc_sure_point rfl rfl fun cdv A outer s H E hr2 => by
    have hr0 := hr2.mono (show 3 * n ≤ 3 * n + 2 by omega)
    have hu := hr2.units
    exact (db_cons (ds_set (i := 2) (fun _ h => ps_set (i := 2) N_sure_point_nd rfl (Or.inl rfl) h) (dn_call (Tx.at_ C 3 "tuple_of" (by decide) rfl) hr0 (by rfl) (da_cons (dn_name (pv 1)) da_nil)))
      (db_cons (ds_exp (dn_call (Tx.at_ C 5 "sure" (by decide) rfl) hr0 (by rfl) (da_cons (dn_call (Tx.at_ C 42 "is_point" (by decide) rfl) hr0 (by rfl) (da_cons (dn_name (pv 0)) (da_cons (dn_name (pv 2)) da_nil))) da_nil)))
      (db_one (ds_ret (dn_name (pv 2))))))
abbrev st_value_of : Stmt := top 49
theorem N_value_of_nd : (["own", "point", "found", "powers", "share", "far", "many"] : List Str).Nodup := by decide +kernel
theorem sc_value_of : FnScope ["own", "point", "found", "powers", "share", "far", "many"] ["own", "point"] (defScope st_value_of) := ⟨rfl, rfl, rfl, N_value_of_nd, rfl, by decide +kernel, by decide +kernel⟩
theorem ok_value_of {f : Addr} {fd : FuncData} (F : Fun K "value_of" "value_of" st_value_of f fd) (T : Tx K mg) {n : Nat} {c : Orc} (C : Oks P w K mg base n c) : FnOk P w K mg base CX0 (3 * (n + 1)) f fd ["own", "point"] (spF K (fns 44 c)) :=
  fn_ok (k := 3 * n + 2) (np := 2) (ns := 7) F sc_value_of rfl rfl fun cdv A outer s H E hr2 => by
    have hr0 := hr2.mono (show 3 * n ≤ 3 * n + 2 by omega)
    have hu := hr2.units
    exact (db_cons (ds_set (i := 2) (fun _ h => ps_set (i := 2) N_value_of_nd rfl (Or.inl rfl) h) (T.ZERO_ (by rfl) rfl rfl))
      (db_cons (ds_for PassesOwn.never rfl (di_seq (dn_name (pv 0))) (dg_tup rfl (dgs_cons (dg_name (pg_name (i := 3) N_value_of_nd rfl (Or.inl rfl))) (dgs_cons (dg_name (pg_name (i := 4) N_value_of_nd rfl (Or.inl rfl))) dgs_nil))) (db_cons (ds_for PassesOwn.never rfl (di_zip (by rfl) T.zip_ (dn_name (pv 1)) (dn_name (pv 3))) (dg_tup rfl (dgs_cons (dg_name (pg_name (i := 5) N_value_of_nd rfl (Or.inl rfl))) (dgs_cons (dg_name (pg_name (i := 6) N_value_of_nd rfl (Or.inl rfl))) dgs_nil))) (db_one (ds_set (i := 4) (fun _ h => ps_set (i := 4) N_value_of_nd rfl (Or.inl rfl) h) (dn_call (Tx.at_ C 12 "times" (by decide) rfl) hr0 (by rfl) (da_cons (dn_name (pv 4)) (da_cons (dn_call (Tx.at_ C 14 "power" (by decide) rfl) hr0 (by rfl) (da_cons (dn_name (pv 5)) (da_cons (dn_name (pv 6)) da_nil))) da_nil))))))
      (db_one (ds_set (i := 2) (fun _ h => ps_set (i := 2) N_value_of_nd rfl (Or.inl rfl) h) (dn_call (Tx.at_ C 11 "plus" (by decide) rfl) hr0 (by rfl) (da_cons (dn_name (pv 2)) (da_cons (dn_name (pv 4)) da_nil)))))))
      (db_one (ds_ret (dn_name (pv 2))))))
abbrev st_value_at : Stmt := top 50
theorem N_value_at_nd : (["wide", "polynomial", "point"] : List Str).Nodup := by decide +kernel
theorem sc_value_at : FnScope ["wide", "polynomial", "point"] ["wide", "polynomial", "point"] (defScope st_value_at) := ⟨rfl, rfl, rfl, N_value_at_nd, rfl, by decide +kernel, by decide +kernel⟩
theorem ok_value_at {f : Addr} {fd : FuncData} (F : Fun K "value_at" "value_at" st_value_at f fd) (T : Tx K mg) {n : Nat} {c : Orc} (C : Oks P w K mg base n c) : FnOk P w K mg base CX0 (3 * (n + 1)) f fd ["wide", "polynomial", "point"] (spF K (fns 45 c)) :=
  fn_ok (k := 3 * n + 2) (np := 3) (ns := 3) F sc_value_at rfl rfl fun cdv A outer s H E hr2 => by
    have hr0 := hr2.mono (show 3 * n ≤ 3 * n + 2 by omega)
    have hu := hr2.units
    exact (db_one (ds_ret (dn_call (Tx.at_ C 44 "value_of" (by decide) rfl) hr0 (by rfl) (da_cons (dn_call (Tx.at_ C 23 "sure_polynomial" (by decide) rfl) hr0 (by rfl) (da_cons (dn_name (pv 0)) (da_cons (dn_name (pv 1)) da_nil))) (da_cons (dn_call (Tx.at_ C 43 "sure_point" (by decide) rfl) hr0 (by rfl) (da_cons (dn_name (pv 0)) (da_cons (dn_name (pv 2)) da_nil))) da_nil)))))
abbrev st_put_for : Stmt := top 51
theorem N_put_for_nd : (["wide", "own", "some", "found", "known", "powers", "share", "row", "k", "many"] : List Str).Nodup := by decide +kernel
theorem sc_put_for : FnScope ["wide", "own", "some", "found", "known", "powers", "share", "row", "k", "many"] ["wide", "own", "some"] (defScope st_put_for) := ⟨rfl, rfl, rfl, N_put_for_nd, rfl, by decide +kernel, by decide +kernel⟩
theorem ok_put_for {f : Addr} {fd : FuncData} (F : Fun K "put_for" "put_for" st_put_for f fd) (T : Tx K mg) {n : Nat} {c : Orc} (C : Oks P w K mg base n c) : FnOk P w K mg base CX0 (3 * (n + 1)) f fd ["wide", "own", "some"] (spF K (fns 109 c)) :=
  fn_ok (k := 3 * n + 2) (np := 3) (ns := 10) F sc_put_for rfl rfl fun cdv A outer s H E hr2 => by
    have hr0 := hr2.mono (show 3 * n ≤ 3 * n + 2 by omega)
    have hu := hr2.units
    exact (db_cons (ds_par2 (i := 3) (j := 4) (fun _ h => ps_par (i := 3) (j := 4) rfl N_put_for_nd rfl rfl (by decide) rfl rfl h (by rfl)) (da_cons (dn_lst df_nil) (da_cons dn_newD da_nil)))
      (db_cons (ds_for PassesOwn.never rfl (di_seq (dn_name (pv 1))) (dg_tup rfl (dgs_cons (dg_name (pg_name (i := 5) N_put_for_nd rfl (Or.inl rfl))) (dgs_cons (dg_name (pg_name (i := 6) N_put_for_nd rfl (Or.inl rfl))) dgs_nil))) (db_cons (ds_set (i := 7) (fun _ h => ps_set (i := 7) N_put_for_nd rfl (Or.inl rfl) h) (dn_call (Tx.at_ C 30 "number" (by decide) rfl) hr0 (by rfl) (da_cons (dn_name (pv 0)) (da_cons (dn_name (pv 6)) da_nil))))
      (db_cons (ds_for PassesOwn.never rfl (di_enum (by rfl) T.enumerate_ (dn_name (pv 5))) (dg_tup rfl (dgs_cons (dg_name (pg_name (i := 8) N_put_for_nd rfl (Or.inl rfl))) (dgs_cons (dg_name (pg_name (i := 9) N_put_for_nd rfl (Or.inl rfl))) dgs_nil))) (db_one (ds_if (dt_gt hu (dn_name (pv 9)) dn_int) (db_cons (ds_if (dt_notIn hu (dn_tup (df_cons (dn_name (pv 8)) (df_cons (dn_name (pv 9)) df_nil))) (dn_name (pv 4))) (db_one (ds_asg (fun _ h hg => ps_asg h hg) (dn_call (Tx.at_ C 29 "multiplied" (by decide) rfl) hr0 (by rfl) (da_cons (dn_name (pv 0)) (da_cons (dn_mulA (dn_lst (df_cons (dn_ixA hu (dn_name (pv 2)) (dn_name (pv 8))) df_nil)) (dn_name (pv 9))) da_nil))) (dg_sub hu (dn_name (pv 4)) (dn_tup (df_cons (dn_name (pv 8)) (df_cons (dn_name (pv 9)) df_nil)))))) db_nil)
      (db_one (ds_set (i := 7) (fun _ h => ps_set (i := 7) N_put_for_nd rfl (Or.inl rfl) h) (dn_call (Tx.at_ C 28 "product" (by decide) rfl) hr0 (by rfl) (da_cons (dn_name (pv 7)) (da_cons (dn_ixA hu (dn_name (pv 4)) (dn_tup (df_cons (dn_name (pv 8)) (df_cons (dn_name (pv 9)) df_nil)))) da_nil)))))) db_nil)))
      (db_one (ds_exp (dn_append (dn_name (pv 3)) (df_cons (dn_name (pv 7)) df_nil)))))))
      (db_one (ds_ret (dn_call (Tx.at_ C 26 "summed" (by decide) rfl) hr0 (by rfl) (da_cons (dn_name (pv 3)) da_nil))))))
abbrev st_put_in : Stmt := top 52
theorem N_put_in_nd : (["wide", "polynomial", "other_wide", "polynomials", "own", "some"] : List Str).Nodup := by decide +kernel
theorem sc_put_in : FnScope ["wide", "polynomial", "other_wide", "polynomials", "own", "some"] ["wide", "polynomial", "other_wide", "polynomials"] (defScope st_put_in) := ⟨rfl, rfl, rfl, N_put_in_nd, rfl, by decide +kernel, by decide +kernel⟩
theorem ok_put_in {f : Addr} {fd : FuncData} (F : Fun K "put_in" "put_in" st_put_in f fd) (T : Tx K mg) {n : Nat} {c : Orc} (C : Oks P w K mg base n c) : FnOk P w K mg base CX0 (3 * (n + 1)) f fd ["wide", "polynomial", "other_wide", "polynomials"] (spF K (fns 496 c)) :=
  fn_ok (k := 3 * n + 2) (np := 4) (ns := 6) F sc_put_in rfl rfl fun cdv A outer s H E hr2 => by
    have hr0 := hr2.mono (show 3 * n ≤ 3 * n + 2 by omega)
    have hu := hr2.units
    exact (db_cons (ds_set (i := 4) (fun _ h => ps_set (i := 4) N_put_in_nd rfl (Or.inl rfl) h) (dn_call (Tx.at_ C 23 "sure_polynomial" (by decide) rfl) hr0 (by rfl) (da_cons (dn_name (pv 0)) (da_cons (dn_name (pv 1)) da_nil))))
      (db_cons (ds_exp (dn_call (Tx.at_ C 5 "sure" (by decide) rfl) hr0 (by rfl) (da_cons (dn_call (Tx.at_ C 6 "is_wide" (by decide) rfl) hr0 (by rfl) (da_cons (dn_name (pv 2)) da_nil)) da_nil)))
      (db_cons (ds_set (i := 5) (fun _ h => ps_set (i := 5) N_put_in_nd rfl (Or.inl rfl) h) (dn_call (Tx.at_ C 227 "sure_polynomials" (by decide) rfl) hr0 (by rfl) (da_cons (dn_name (pv 2)) (da_cons (dn_name (pv 3)) da_nil))))
      (db_cons (ds_exp (dn_call (Tx.at_ C 5 "sure" (by decide) rfl) hr0 (by rfl) (da_cons (dn_eq hu (dn_lenA (by rfl) T.len_ (da_cons (dn_name (pv 5)) da_nil)) (dn_name (pv 0))) da_nil)))
      (db_one (ds_ret (dn_call (Tx.at_ C 109 "put_for" (by decide) rfl) hr0 (by rfl) (da_cons (dn_name (pv 2)) (da_cons (dn_name (pv 4)) (da_cons (dn_name (pv 5)) da_nil))))))))))
abbrev st_lead_powers : Stmt := top 54
theorem N_lead_powers_nd : (["exchange", "powers", "found", "k", "many"] : List Str).Nodup := by decide +kernel
theorem sc_lead_powers : FnScope ["exchange", "powers", "found", "k", "many"] ["exchange", "powers"] (defScope st_lead_powers) := ⟨rfl, rfl, rfl, N_lead_powers_nd, rfl, by decide +kernel, by decide +kernel⟩
theorem ok_lead_powers {f : Addr} {fd : FuncData} (F : Fun K "lead_powers" "lead_powers" st_lead_powers f fd) (T : Tx K mg) {n : Nat} {c : Orc} (C : Oks P w K mg base n c) : FnOk P w K mg base CX0 (3 * (n + 1)) f fd ["exchange", "powers"] (spF K (fns 76 c)) :=
  fn_ok (k := 3 * n + 2) (np := 2) (ns := 5) F sc_lead_powers rfl rfl fun cdv A outer s H E hr2 => by
    have hr0 := hr2.mono (show 3 * n ≤ 3 * n + 2 by omega)
    have hu := hr2.units
    exact (db_cons (ds_set (i := 2) (fun _ h => ps_set (i := 2) N_lead_powers_nd rfl (Or.inl rfl) h) (dn_mulA (dn_lst (df_cons dn_int df_nil)) (dn_lenA (by rfl) T.len_ (da_cons (dn_name (pv 1)) da_nil))))
      (db_cons (ds_for PassesOwn.never rfl (di_enum (by rfl) T.enumerate_ (dn_name (pv 1))) (dg_tup rfl (dgs_cons (dg_name (pg_name (i := 3) N_lead_powers_nd rfl (Or.inl rfl))) (dgs_cons (dg_name (pg_name (i := 4) N_lead_powers_nd rfl (Or.inl rfl))) dgs_nil))) (db_one (ds_asg (fun _ h hg => ps_asg h hg) (dn_name (pv 4)) (dg_sub hu (dn_name (pv 2)) (dn_sub (dn_ixA hu (dn_name (pv 0)) (dn_name (pv 3))) dn_int)))))
      (db_one (ds_ret (dn_tuple (by rfl) T.tuple_ (da_cons (dn_name (pv 2)) da_nil))))))
abbrev st_lead : Stmt := top 55
theorem N_lead_nd : (["exchange", "own", "found", "powers", "share"] : List Str).Nodup := by decide +kernel
theorem sc_lead : FnScope ["exchange", "own", "found", "powers", "share"] ["exchange", "own"] (defScope st_lead) := ⟨rfl, rfl, rfl, N_lead_nd, rfl, by decide +kernel, by decide +kernel⟩
theorem ok_lead {f : Addr} {fd : FuncData} (F : Fun K "lead" "lead" st_lead f fd) (T : Tx K mg) {n : Nat} {c : Orc} (C : Oks P w K mg base n c) : FnOk P w K mg base CX0 (3 * (n + 1)) f fd ["exchange", "own"] (spF K (fns 77 c)) :=
  fn_ok (k := 3 * n + 2) (np := 2) (ns := 5) F sc_lead rfl rfl fun cdv A outer s H E hr2 => by
    have hr0 := hr2.mono (show 3 * n ≤ 3 * n + 2 by omega)
    have hu := hr2.units
    exact (db_cons (ds_set (i := 2) (fun _ h => ps_set (i := 2) N_lead_nd rfl (Or.inl rfl) h) dn_newD)
      (db_cons (ds_for PassesOwn.never rfl (di_seq (dn_name (pv 1))) (dg_tup rfl (dgs_cons (dg_name (pg_name (i := 3) N_lead_nd rfl (Or.inl rfl))) (dgs_cons (dg_name (pg_name (i := 4) N_lead_nd rfl (Or.inl rfl))) dgs_nil))) (db_one (ds_asg (fun _ h hg => ps_asg h hg) (dn_name (pv 4)) (dg_sub hu (dn_name (pv 2)) (dn_call (Tx.at_ C 76 "lead_powers" (by decide) rfl) hr0 (by rfl) (da_cons (dn_name (pv 0)) (da_cons (dn_name (pv 3)) da_nil)))))))
      (db_one (ds_ret (dn_call (Tx.at_ C 25 "made" (by decide) rfl) hr0 (by rfl) (da_cons (dn_name (pv 2)) da_nil))))))
abbrev st_led : Stmt := top 56
theorem N_led_nd : (["wide", "polynomial", "exchange", "own"] : List Str).Nodup := by decide +kernel
theorem sc_led : FnScope ["wide", "polynomial", "exchange", "own"] ["wide", "polynomial", "exchange"] (defScope st_led) := ⟨rfl, rfl, rfl, N_led_nd, rfl, by decide +kernel, by decide +kernel⟩
theorem ok_led {f : Addr} {fd : FuncData} (F : Fun K "led" "led" st_led f fd) (T : Tx K mg) {n : Nat} {c : Orc} (C : Oks P w K mg base n c) : FnOk P w K mg base CX0 (3 * (n + 1)) f fd ["wide", "polynomial", "exchange"] (spF K (fns 78 c)) :=
  fn_ok (k := 3 * n + 2) (np := 3) (ns := 4) F sc_led rfl rfl fun cdv A outer s H E hr2 => by
    have hr0 := hr2.mono (show 3 * n ≤ 3 * n + 2 by omega)
    have hu := hr2.units
    exact (db_cons (ds_set (i := 3) (fun _ h => ps_set (i := 3) N_led_nd rfl (Or.inl rfl) h) (dn_call (Tx.at_ C 23 "sure_polynomial" (by decide) rfl) hr0 (by rfl) (da_cons (dn_name (pv 0)) (da_cons (dn_name (pv 1)) da_nil))))
      (db_one (ds_ret (dn_call (Tx.at_ C 77 "lead" (by decide) rfl) hr0 (by rfl) (da_cons (dn_call (Tx.at_ C 70 "sure_exchange" (by decide) rfl) hr0 (by rfl) (da_cons (dn_name (pv 0)) (da_cons (dn_name (pv 2)) da_nil))) (da_cons (dn_name (pv 3)) da_nil))))))
abbrev st__law_box : Stmt := top 58
theorem N__law_box_nd : (["script", "k", "cell"] : List Str).Nodup := by decide +kernel
theorem sc__law_box : FnScope ["script", "k", "cell"] ["script", "k"] (defScope st__law_box) := ⟨rfl, rfl, rfl, N__law_box_nd, rfl, by decide +kernel, by decide +kernel⟩
theorem ok__law_box {f : Addr} {fd : FuncData} (F : Fun K "_law_box" "_law_box" st__law_box f fd) (T : Tx K mg) {n : Nat} {c : Orc} (C : Oks P w K mg base n c) : FnOk P w K mg base CX0 (3 * (n + 1)) f fd ["script", "k"] (spF K (fns 497 c)) :=
  fn_ok (k := 3 * n + 2) (np := 2) (ns := 3) F sc__law_box rfl rfl fun cdv A outer s H E hr2 => by
    have hr0 := hr2.mono (show 3 * n ≤ 3 * n + 2 by omega)
    have hu := hr2.units
    exact (db_cons (ds_set (i := 2) (fun _ h => ps_set (i := 2) N__law_box_nd rfl (Or.inl rfl) h) (dn_if (dt_lt hu (dn_name (pv 1)) (dn_lenA (by rfl) T.len_ (da_cons (dn_name (pv 0)) da_nil))) (dn_ixA hu (dn_name (pv 0)) (dn_name (pv 1))) dn_int))
      (db_one (ds_ret (dn_lst (df_cons (dn_mulA (dn_abs (by rfl) T.abs_ (da_cons (dn_name (pv 2)) da_nil)) (dn_int1 (by rfl) T.int_ (da_cons (dn_ge hu (dn_abs (by rfl) T.abs_ (da_cons (dn_name (pv 2)) da_nil)) (dn_pow dn_int dn_int)) da_nil))) (df_cons (dn_add (dn_add (dn_mod (dn_int1 (by rfl) T.int_ (da_cons (dn_name (pv 2)) da_nil)) dn_int) (dn_mulA dn_int (dn_name (pv 1)))) dn_int) (df_cons dn_int df_nil)))))))
abbrev st__law_take : Stmt := top 59
theorem N__law_take_nd : (["box", "size_so", "drawn", "once", "far", "twice"] : List Str).Nodup := by decide +kernel
theorem sc__law_take : FnScope ["box", "size_so", "drawn", "once", "far", "twice"] ["box", "size_so"] (defScope st__law_take) := ⟨rfl, rfl, rfl, N__law_take_nd, rfl, by decide +kernel, by decide +kernel⟩
theorem ok__law_take {f : Addr} {fd : FuncData} (F : Fun K "_law_take" "_law_take" st__law_take f fd) (T : Tx K mg) {n : Nat} {c : Orc} (C : Oks P w K mg base n c) : FnOk P w K mg base CX0 (3 * (n + 1)) f fd ["box", "size_so"] (spF K (fns 47 c)) :=
  fn_ok (k := 3 * n + 2) (np := 2) (ns := 6) F sc__law_take rfl rfl fun cdv A outer s H E hr2 => by
    have hr0 := hr2.mono (show 3 * n ≤ 3 * n + 2 by omega)
    have hu := hr2.units
    exact (db_cons (ds_if (dt_gt hu (dn_ixA hu (dn_name (pv 0)) dn_int) dn_int) (db_cons (ds_set (i := 2) (fun _ h => ps_set (i := 2) N__law_take_nd rfl (Or.inl rfl) h) (dn_mod (dn_int1 (by rfl) T.int_ (da_cons (dn_ixA hu (dn_name (pv 0)) dn_int) da_nil)) (dn_name (pv 1))))
      (db_cons (ds_asg (fun _ h hg => ps_asg h hg) (dn_div (dn_ixA hu (dn_name (pv 0)) dn_int) (dn_name (pv 1))) (dg_sub hu (dn_name (pv 0)) dn_int))
      (db_one (ds_ret (dn_name (pv 2)))))) db_nil)
      (db_cons (ds_asg (fun _ h hg => ps_asg h hg) (dn_add (dn_ixA hu (dn_name (pv 0)) dn_int) dn_int) (dg_sub hu (dn_name (pv 0)) dn_int))
      (db_cons (ds_set (i := 3) (fun _ h => ps_set (i := 3) N__law_take_nd rfl (Or.inl rfl) h) (dn_mod (dn_int1 (by rfl) T.int_ (da_cons (dn_mulA (dn_add (dn_ixA hu (dn_name (pv 0)) dn_int) (dn_mulA dn_int (dn_ixA hu (dn_name (pv 0)) dn_int))) (dn_add dn_int (dn_ixA hu (dn_name (pv 0)) dn_int))) da_nil)) dn_int))
      (db_cons (ds_set (i := 4) (fun _ h => ps_set (i := 4) N__law_take_nd rfl (Or.inl rfl) h) (dn_add (dn_mod (dn_int1 (by rfl) T.int_ (da_cons (dn_name (pv 3)) da_nil)) dn_int) dn_int))
      (db_cons (ds_set (i := 5) (fun _ h => ps_set (i := 5) N__law_take_nd rfl (Or.inl rfl) h) (dn_mod (dn_int1 (by rfl) T.int_ (da_cons (dn_mulA (dn_add (dn_add (dn_name (pv 3)) (dn_ixA hu (dn_name (pv 0)) dn_int)) (dn_div (dn_ixA hu (dn_name (pv 0)) dn_int) dn_int)) (dn_name (pv 4))) da_nil)) dn_int))
      (db_one (ds_ret (dn_mod (dn_int1 (by rfl) T.int_ (da_cons (dn_div (dn_mod (dn_int1 (by rfl) T.int_ (da_cons (dn_add (dn_mulA (dn_name (pv 5)) dn_int) (dn_name (pv 3))) da_nil)) dn_int) dn_int) da_nil)) (dn_name (pv 1))))))))))
abbrev st__law_cells : Stmt := top 60
theorem N__law_cells_nd : (["script", "top_so", "cells_so", "k", "cell", "at_so"] : List Str).Nodup := by decide +kernel
theorem sc__law_cells : FnScope ["script", "top_so", "cells_so", "k", "cell", "at_so"] ["script", "top_so"] (defScope st__law_cells) := ⟨rfl, rfl, rfl, N__law_cells_nd, rfl, by decide +kernel, by decide +kernel⟩
theorem ok__law_cells {f : Addr} {fd : FuncData} (F : Fun K "_law_cells" "_law_cells" st__law_cells f fd) (T : Tx K mg) {n : Nat} {c : Orc} (C : Oks P w K mg base n c) : FnOk P w K mg base CX0 (3 * (n + 1)) f fd ["script", "top_so"] (spF K (fns 48 c)) :=
  fn_ok (k := 3 * n + 2) (np := 2) (ns := 6) F sc__law_cells rfl rfl fun cdv A outer s H E hr2 => by
    have hr0 := hr2.mono (show 3 * n ≤ 3 * n + 2 by omega)
    have hu := hr2.units
    exact (db_cons (ds_set (i := 2) (fun _ h => ps_set (i := 2) N__law_cells_nd rfl (Or.inl rfl) h) (dn_orL (dn_listA rfl (by rfl) T.list_ (da_cons (dn_sl (dn_name (pv 0)) dp_no (dp_at (dn_name (pv 1)))) da_nil)) (dn_one (dn_lst (df_cons dn_int df_nil)))))
      (db_cons (ds_for PassesOwn.never rfl (di_enum (by rfl) T.enumerate_ (dn_sl (dn_name (pv 0)) (dp_at (dn_name (pv 1))) (dp_at dn_int))) (dg_tup rfl (dgs_cons (dg_name (pg_name (i := 3) N__law_cells_nd rfl (Or.inl rfl))) (dgs_cons (dg_name (pg_name (i := 4) N__law_cells_nd rfl (Or.inl rfl))) dgs_nil))) (db_cons (ds_set (i := 5) (fun _ h => ps_set (i := 5) N__law_cells_nd rfl (Or.inl rfl) h) (dn_mod (dn_int1 (by rfl) T.int_ (da_cons (dn_name (pv 3)) da_nil)) (dn_name (pv 1))))
      (db_one (ds_asg (fun _ h hg => ps_asg h hg) (dn_add (dn_ixA hu (dn_name (pv 2)) (dn_name (pv 5))) (dn_mulA (dn_name (pv 4)) (dn_add (dn_name (pv 3)) dn_int))) (dg_sub hu (dn_name (pv 2)) (dn_name (pv 5)))))))
      (db_one (ds_ret (dn_name (pv 2))))))
abbrev st__law_same : Stmt := top 61
theorem N__law_same_nd : (["got", "due", "mine", "its"] : List Str).Nodup := by decide +kernel
theorem sc__law_same : FnScope ["got", "due", "mine", "its"] ["got", "due"] (defScope st__law_same) := ⟨rfl, rfl, rfl, N__law_same_nd, rfl, by decide +kernel, by decide +kernel⟩
theorem ok__law_same {f : Addr} {fd : FuncData} (F : Fun K "_law_same" "_law_same" st__law_same f fd) (T : Tx K mg) {n : Nat} {c : Orc} (C : Oks P w K mg base n c) : FnOk P w K mg base CX0 (3 * (n + 1)) f fd ["got", "due"] (spF K (fns 49 c)) :=
  fn_ok (k := 3 * n + 2) (np := 2) (ns := 4) F sc__law_same rfl rfl fun cdv A outer s H E hr2 => by
    have hr0 := hr2.mono (show 3 * n ≤ 3 * n + 2 by omega)
    have hu := hr2.units
    exact (db_cons (ds_if (dt_val (dn_isi2 .list .tuple (by rfl) T.isinstance_ (by rfl) T.list_ bo_list (by rfl) T.tuple_ bo_tuple (dn_name (pv 1)))) (db_cons (ds_if (dt_w (dw_or (dt_ne hu (dn_isi .list (by rfl) T.isinstance_ (by rfl) T.list_ bo_list (dn_name (pv 0))) (dn_isi .list (by rfl) T.isinstance_ (by rfl) T.list_ bo_list (dn_name (pv 1)))) (dw_or1 (dt_ne hu (dn_isi .tuple (by rfl) T.isinstance_ (by rfl) T.tuple_ bo_tuple (dn_name (pv 0))) (dn_isi .tuple (by rfl) T.isinstance_ (by rfl) T.tuple_ bo_tuple (dn_name (pv 1))))))) (db_one (ds_ret dn_bool)) db_nil)
      (db_one (ds_ret (dn_and (dn_eq hu (dn_lenA (by rfl) T.len_ (da_cons (dn_name (pv 0)) da_nil)) (dn_lenA (by rfl) T.len_ (da_cons (dn_name (pv 1)) da_nil))) (dn_one (dn_all rfl (by rfl) T.all_ (da_cons (dn_lc (own := [("mine", 2), ("its", 3)]) rfl N__law_same_nd (di_zip (by rfl) T.zip_ (dn_name (pv 0)) (dn_name (pv 1))) (blkOk_by (N := ["got", "due", "mine", "its"]) (sc := defScope st__law_same) (own := [("mine", 2), ("its", 3)]) (by decide +kernel)) (fun _ _ _ _ _ => (pg_tup rfl (pgs_cons (pg_name (i := 2) N__law_same_nd rfl (Or.inl rfl)) (pgs_cons (pg_name (i := 3) N__law_same_nd rfl (Or.inl rfl)) pgs_nil)))) (dl_tup (dls_cons (dl_name (by decide)) (dls_cons (dl_name (by decide)) dls_nil))) (fun _ _ _ _ _ => pts_dnil) (fun _ _ _ _ _ => (dn_call (Tx.at_ C 49 "_law_same" (by decide) rfl) hr0 (by rfl) (da_cons (dn_name (pv 2)) (da_cons (dn_name (pv 3)) da_nil))))) da_nil))))))) db_nil)
      (db_cons (ds_if (dt_w (dw_or (dt_is (dn_name (pv 1)) dn_none) (dw_or1 (dt_val (dn_isi2 .bool .str (by rfl) T.isinstance_ (by rfl) T.bool_ bo_bool (by rfl) T.str_ bo_str (dn_name (pv 1))))))) (db_one (ds_ret (dn_and (dn_eq hu (dn_name (pv 0)) (dn_name (pv 1))) (dn_and (dn_eq hu (dn_isi .bool (by rfl) T.isinstance_ (by rfl) T.bool_ bo_bool (dn_name (pv 0))) (dn_isi .bool (by rfl) T.isinstance_ (by rfl) T.bool_ bo_bool (dn_name (pv 1)))) (dn_one (dn_eq hu (dn_is (dn_name (pv 0)) dn_none) (dn_is (dn_name (pv 1)) dn_none))))))) db_nil)
      (db_one (ds_ret (dn_and (dn_isi .int (by rfl) T.isinstance_ (by rfl) T.int_ bo_int (dn_name (pv 0))) (dn_and (dn_not (dn_isi .bool (by rfl) T.isinstance_ (by rfl) T.bool_ bo_bool (dn_name (pv 0)))) (dn_one (dn_eq hu (dn_name (pv 0)) (dn_name (pv 1))))))))))
abbrev st__law_of : Stmt := top 62
theorem N__law_of_nd : (["box", "pool_so"] : List Str).Nodup := by decide +kernel
theorem sc__law_of : FnScope ["box", "pool_so"] ["box", "pool_so"] (defScope st__law_of) := ⟨rfl, rfl, rfl, N__law_of_nd, rfl, by decide +kernel, by decide +kernel⟩
theorem ok__law_of {f : Addr} {fd : FuncData} (F : Fun K "_law_of" "_law_of" st__law_of f fd) (T : Tx K mg) {n : Nat} {c : Orc} (C : Oks P w K mg base n c) : FnOk P w K mg base CX0 (3 * (n + 1)) f fd ["box", "pool_so"] (spF K (fns 50 c)) :=
  fn_ok (k := 3 * n + 2) (np := 2) (ns := 2) F sc__law_of rfl rfl fun cdv A outer s H E hr2 => by
    have hr0 := hr2.mono (show 3 * n ≤ 3 * n + 2 by omega)
    have hu := hr2.units
    exact (db_one (ds_ret (dn_ixA hu (dn_name (pv 1)) (dn_call (Tx.at_ C 47 "_law_take" (by decide) rfl) hr0 (by rfl) (da_cons (dn_name (pv 0)) (da_cons (dn_lenA (by rfl) T.len_ (da_cons (dn_name (pv 1)) da_nil)) da_nil))))))
abbrev st__law_pick : Stmt := top 63
theorem N__law_pick_nd : (["box", "goods_so", "count_so", "pool_so", "found", "turn"] : List Str).Nodup := by decide +kernel
theorem sc__law_pick : FnScope ["box", "goods_so", "count_so", "pool_so", "found", "turn"] ["box", "goods_so", "count_so"] (defScope st__law_pick) := ⟨rfl, rfl, rfl, N__law_pick_nd, rfl, by decide +kernel, by decide +kernel⟩
theorem ok__law_pick {f : Addr} {fd : FuncData} (F : Fun K "_law_pick" "_law_pick" st__law_pick f fd) (T : Tx K mg) {n : Nat} {c : Orc} (C : Oks P w K mg base n c) : FnOk P w K mg base CX0 (3 * (n + 1)) f fd ["box", "goods_so", "count_so"] (spF K (fns 51 c)) :=
  fn_ok (k := 3 * n + 2) (np := 3) (ns := 6) F sc__law_pick rfl rfl fun cdv A outer s H E hr2 => by
    have hr0 := hr2.mono (show 3 * n ≤ 3 * n + 2 by omega)
    have hu := hr2.units
    exact (db_cons (ds_par2 (i := 3) (j := 4) (fun _ h => ps_par (i := 3) (j := 4) rfl N__law_pick_nd rfl rfl (by decide) rfl rfl h (by rfl)) (da_cons (dn_listA rfl (by rfl) T.list_ (da_cons (dn_name (pv 1)) da_nil)) (da_cons (dn_lst df_nil) da_nil)))
      (db_cons (ds_for PassesOwn.never rfl (di_range1 (by rfl) T.range_ (dn_min rfl (by rfl) T.min_ (da_cons (dn_int1 (by rfl) T.int_ (da_cons (dn_name (pv 2)) da_nil)) (da_cons (dn_lenA (by rfl) T.len_ (da_cons (dn_name (pv 3)) da_nil)) da_nil)))) (dg_name (pg_name (i := 5) N__law_pick_nd rfl (Or.inl rfl))) (db_one (ds_exp (dn_append (dn_name (pv 4)) (df_cons (dn_pop (dn_name (pv 3)) (df_cons (dn_call (Tx.at_ C 47 "_law_take" (by decide) rfl) hr0 (by rfl) (da_cons (dn_name (pv 0)) (da_cons (dn_lenA (by rfl) T.len_ (da_cons (dn_name (pv 3)) da_nil)) da_nil))) df_nil)) df_nil)))))
      (db_one (ds_ret (dn_name (pv 4))))))
abbrev st__law_low : Stmt := top 64
theorem N__law_low_nd : (["over_so", "under", "one", "other", "sign"] : List Str).Nodup := by decide +kernel
theorem sc__law_low : FnScope ["over_so", "under", "one", "other", "sign"] ["over_so", "under"] (defScope st__law_low) := ⟨rfl, rfl, rfl, N__law_low_nd, rfl, by decide +kernel, by decide +kernel⟩
theorem ok__law_low {f : Addr} {fd : FuncData} (F : Fun K "_law_low" "_law_low" st__law_low f fd) (T : Tx K mg) {n : Nat} {c : Orc} (C : Oks P w K mg base n c) : FnOk P w K mg base CX0 (3 * (n + 1)) f fd ["over_so", "under"] (spF K (fns 52 c)) :=
  fn_ok (k := 3 * n + 2) (np := 2) (ns := 5) F sc__law_low rfl rfl fun cdv A outer s H E hr2 => by
    have hr0 := hr2.mono (show 3 * n ≤ 3 * n + 2 by omega)
    have hu := hr2.units
    exact (db_cons (ds_par2 (i := 2) (j := 3) (fun _ h => ps_par (i := 2) (j := 3) rfl N__law_low_nd rfl rfl (by decide) rfl rfl h (by rfl)) (da_cons (dn_abs (by rfl) T.abs_ (da_cons (dn_name (pv 0)) da_nil)) (da_cons (dn_abs (by rfl) T.abs_ (da_cons (dn_name (pv 1)) da_nil)) da_nil)))
      (db_cons (ds_while fuel PassesOwn.never (dt_gt hu (dn_name (pv 3)) dn_int) (db_one (ds_par2 (i := 2) (j := 3) (fun _ h => ps_par (i := 2) (j := 3) rfl N__law_low_nd rfl rfl (by decide) rfl rfl h (by rfl)) (da_cons (dn_name (pv 3)) (da_cons (dn_mod (dn_int1 (by rfl) T.int_ (da_cons (dn_name (pv 2)) da_nil)) (dn_name (pv 3))) da_nil)))))
      (db_cons (ds_set (i := 4) (fun _ h => ps_set (i := 4) N__law_low_nd rfl (Or.inl rfl) h) (dn_if (dt_gt hu (dn_name (pv 1)) dn_int) dn_int (dn_neg dn_int)))
      (db_one (ds_ret (dn_tup (df_cons (dn_div (dn_mulA (dn_name (pv 4)) (dn_name (pv 0))) (dn_name (pv 2))) (df_cons (dn_div (dn_mulA (dn_name (pv 4)) (dn_name (pv 1))) (dn_name (pv 2))) df_nil))))))))
abbrev st__law_added : Stmt := top 65
theorem N__law_added_nd : (["one", "other"] : List Str).Nodup := by decide +kernel
theorem sc__law_added : FnScope ["one", "other"] ["one", "other"] (defScope st__law_added) := ⟨rfl, rfl, rfl, N__law_added_nd, rfl, by decide +kernel, by decide +kernel⟩
theorem ok__law_added {f : Addr} {fd : FuncData} (F : Fun K "_law_added" "_law_added" st__law_added f fd) (T : Tx K mg) {n : Nat} {c : Orc} (C : Oks P w K mg base n c) : FnOk P w K mg base CX0 (3 * (n + 1)) f fd ["one", "other"] (spF K (fns 53 c)) :=
  fn_ok (k := 3 * n + 2) (np := 2) (ns := 2) F sc__law_added rfl rfl fun cdv A outer s H E hr2 => by
    have hr0 := hr2.mono (show 3 * n ≤ 3 * n + 2 by omega)
    have hu := hr2.units
    exact (db_one (ds_ret (dn_call (Tx.at_ C 52 "_law_low" (by decide) rfl) hr0 (by rfl) (da_cons (dn_add (dn_mulA (dn_ixA hu (dn_name (pv 0)) dn_int) (dn_ixA hu (dn_name (pv 1)) dn_int)) (dn_mulA (dn_ixA hu (dn_name (pv 1)) dn_int) (dn_ixA hu (dn_name (pv 0)) dn_int))) (da_cons (dn_mulA (dn_ixA hu (dn_name (pv 0)) dn_int) (dn_ixA hu (dn_name (pv 1)) dn_int)) da_nil)))))
abbrev st__law_multiplied : Stmt := top 66
theorem N__law_multiplied_nd : (["one", "other"] : List Str).Nodup := by decide +kernel
theorem sc__law_multiplied : FnScope ["one", "other"] ["one", "other"] (defScope st__law_multiplied) := ⟨rfl, rfl, rfl, N__law_multiplied_nd, rfl, by decide +kernel, by decide +kernel⟩
theorem ok__law_multiplied {f : Addr} {fd : FuncData} (F : Fun K "_law_multiplied" "_law_multiplied" st__law_multiplied f fd) (T : Tx K mg) {n : Nat} {c : Orc} (C : Oks P w K mg base n c) : FnOk P w K mg base CX0 (3 * (n + 1)) f fd ["one", "other"] (spF K (fns 54 c)) :=
  fn_ok (k := 3 * n + 2) (np := 2) (ns := 2) F sc__law_multiplied rfl rfl fun cdv A outer s H E hr2 => by
    have hr0 := hr2.mono (show 3 * n ≤ 3 * n + 2 by omega)
    have hu := hr2.units
    exact (db_one (ds_ret (dn_call (Tx.at_ C 52 "_law_low" (by decide) rfl) hr0 (by rfl) (da_cons (dn_mulA (dn_ixA hu (dn_name (pv 0)) dn_int) (dn_ixA hu (dn_name (pv 1)) dn_int)) (da_cons (dn_mulA (dn_ixA hu (dn_name (pv 0)) dn_int) (dn_ixA hu (dn_name (pv 1)) dn_int)) da_nil)))))
abbrev st__law_share : Stmt := top 67
theorem N__law_share_nd : (["box", "before", "kind", "top", "under"] : List Str).Nodup := by decide +kernel
theorem sc__law_share : FnScope ["box", "before", "kind", "top", "under"] ["box", "before"] (defScope st__law_share) := ⟨rfl, rfl, rfl, N__law_share_nd, rfl, by decide +kernel, by decide +kernel⟩
theorem ok__law_share {f : Addr} {fd : FuncData} (F : Fun K "_law_share" "_law_share" st__law_share f fd) (T : Tx K mg) {n : Nat} {c : Orc} (C : Oks P w K mg base n c) : FnOk P w K mg base CX0 (3 * (n + 1)) f fd ["box", "before"] (spF K (fns 55 c)) :=
  fn_ok (k := 3 * n + 2) (np := 2) (ns := 5) F sc__law_share rfl rfl fun cdv A outer s H E hr2 => by
    have hr0 := hr2.mono (show 3 * n ≤ 3 * n + 2 by omega)
    have hu := hr2.units
    exact (db_cons (ds_set (i := 2) (fun _ h => ps_set (i := 2) N__law_share_nd rfl (Or.inl rfl) h) (dn_call (Tx.at_ C 47 "_law_take" (by decide) rfl) hr0 (by rfl) (da_cons (dn_name (pv 0)) (da_cons dn_int da_nil))))
      (db_cons (ds_if (dt_w (dw_and (dt_eq hu (dn_name (pv 2)) dn_int) (dw_and1 (dt_gt hu (dn_lenA (by rfl) T.len_ (da_cons (dn_name (pv 1)) da_nil)) dn_int)))) (db_one (ds_ret (dn_call (Tx.at_ C 50 "_law_of" (by decide) rfl) hr0 (by rfl) (da_cons (dn_name (pv 0)) (da_cons (dn_name (pv 1)) da_nil))))) db_nil)
      (db_cons (ds_par2 (i := 3) (j := 4) (fun _ h => ps_par (i := 3) (j := 4) rfl N__law_share_nd rfl rfl (by decide) rfl rfl h (by rfl)) (da_cons (dn_add dn_int (dn_call (Tx.at_ C 47 "_law_take" (by decide) rfl) hr0 (by rfl) (da_cons (dn_name (pv 0)) (da_cons dn_int da_nil)))) (da_cons (dn_add dn_int (dn_call (Tx.at_ C 47 "_law_take" (by decide) rfl) hr0 (by rfl) (da_cons (dn_name (pv 0)) (da_cons dn_int da_nil)))) da_nil)))
      (db_cons (ds_if (dt_eq hu (dn_name (pv 2)) dn_int) (db_one (ds_par2 (i := 3) (j := 4) (fun _ h => ps_par (i := 3) (j := 4) rfl N__law_share_nd rfl rfl (by decide) rfl rfl h (by rfl)) (da_cons (dn_add dn_int (dn_call (Tx.at_ C 47 "_law_take" (by decide) rfl) hr0 (by rfl) (da_cons (dn_name (pv 0)) (da_cons dn_int da_nil)))) (da_cons (dn_add dn_int (dn_call (Tx.at_ C 47 "_law_take" (by decide) rfl) hr0 (by rfl) (da_cons (dn_name (pv 0)) (da_cons dn_int da_nil)))) da_nil)))) db_nil)
      (db_one (ds_ret (dn_call (Tx.at_ C 52 "_law_low" (by decide) rfl) hr0 (by rfl) (da_cons (dn_if (dt_eq hu (dn_call (Tx.at_ C 47 "_law_take" (by decide) rfl) hr0 (by rfl) (da_cons (dn_name (pv 0)) (da_cons dn_int da_nil))) dn_int) (dn_name (pv 3)) (dn_neg (dn_name (pv 3)))) (da_cons (dn_name (pv 4)) da_nil)))))))))
abbrev st__law_order : Stmt := top 68
theorem N__law_order_nd : (["powers", "own"] : List Str).Nodup := by decide +kernel
theorem sc__law_order : FnScope ["powers", "own"] ["powers"] (defScope st__law_order) := ⟨rfl, rfl, rfl, N__law_order_nd, rfl, by decide +kernel, by decide +kernel⟩
theorem ok__law_order {f : Addr} {fd : FuncData} (F : Fun K "_law_order" "_law_order" st__law_order f fd) (T : Tx K mg) {n : Nat} {c : Orc} (C : Oks P w K mg base n c) : FnOk P w K mg base CX0 (3 * (n + 1)) f fd ["powers"] (spF K (fns 56 c)) :=
  fn_ok (k := 3 * n + 2) (np := 1) (ns := 2) F sc__law_order rfl rfl fun cdv A outer s H E hr2 => by
    have hr0 := hr2.mono (show 3 * n ≤ 3 * n + 2 by omega)
    have hu := hr2.units
    exact (db_one (ds_ret (dn_tup (df_cons (dn_neg (dn_sum rfl (by rfl) T.sum_ (da_cons (dn_name (pv 0)) da_nil))) (df_cons (dn_tuple (by rfl) T.tuple_ (da_cons (dn_lc (own := [("own", 1)]) rfl N__law_order_nd (di_seq (dn_name (pv 0))) (blkOk_by (N := ["powers", "own"]) (sc := defScope st__law_order) (own := [("own", 1)]) (by decide +kernel)) (fun _ _ _ _ _ => (pg_name (i := 1) N__law_order_nd rfl (Or.inl rfl))) (dl_name (by decide)) (fun _ _ _ _ _ => pts_dnil) (fun _ _ _ _ _ => (dn_neg (dn_name (pv 1))))) da_nil)) df_nil)))))
abbrev st__law_made : Stmt := top 69
theorem N__law_made_nd : (["found", "rows", "own"] : List Str).Nodup := by decide +kernel
theorem sc__law_made : FnScope ["found", "rows", "own"] ["found"] (defScope st__law_made) := ⟨rfl, rfl, rfl, N__law_made_nd, rfl, by decide +kernel, by decide +kernel⟩
theorem ok__law_made {f : Addr} {fd : FuncData} (F : Fun K "_law_made" "_law_made" st__law_made f fd) (T : Tx K mg) {n : Nat} {c : Orc} (C : Oks P w K mg base n c) : FnOk P w K mg base CX0 (3 * (n + 1)) f fd ["found"] (spF K (fns 57 c)) :=
  fn_ok (k := 3 * n + 2) (np := 1) (ns := 3) F sc__law_made rfl rfl fun cdv A outer s H E hr2 => by
    have hr0 := hr2.mono (show 3 * n ≤ 3 * n + 2 by omega)
    have hu := hr2.units
    exact (db_cons (ds_set (i := 1) (fun _ h => ps_set (i := 1) N__law_made_nd rfl (Or.inl rfl) h) (dn_sortK (Tx.at_ C 56 "_law_order" (by decide) rfl) hr2 rfl (by rfl) T.sorted_ (by rfl) (dn_lcD (own := [("own", 2)]) rfl N__law_made_nd (pv 0) (blkOk_by (N := ["found", "rows", "own"]) (sc := defScope st__law_made) (own := [("own", 2)]) (by decide +kernel)) (fun _ _ _ _ _ => (pg_name (i := 2) N__law_made_nd rfl (Or.inl rfl))) (dl_name (by decide)) (fun _ _ _ _ _ => (pts_one (dt_ne hu (dn_ixA hu (dn_ixA hu (dn_name (pv 0)) (dn_name (pv 2))) dn_int) dn_int))) (fun _ _ _ _ _ => (dn_name (pv 2))))))
      (db_one (ds_ret (dn_tuple (by rfl) T.tuple_ (da_cons (dn_lc (own := [("own", 2)]) rfl N__law_made_nd (di_seq (dn_name (pv 1))) (blkOk_by (N := ["found", "rows", "own"]) (sc := defScope st__law_made) (own := [("own", 2)]) (by decide +kernel)) (fun _ _ _ _ _ => (pg_name (i := 2) N__law_made_nd rfl (Or.inl rfl))) (dl_name (by decide)) (fun _ _ _ _ _ => pts_dnil) (fun _ _ _ _ _ => (dn_tup (df_cons (dn_name (pv 2)) (df_cons (dn_ixA hu (dn_name (pv 0)) (dn_name (pv 2))) df_nil))))) da_nil)))))
abbrev st__law_put : Stmt := top 70
theorem N__law_put_nd : (["found", "powers", "share"] : List Str).Nodup := by decide +kernel
theorem sc__law_put : FnScope ["found", "powers", "share"] ["found", "powers", "share"] (defScope st__law_put) := ⟨rfl, rfl, rfl, N__law_put_nd, rfl, by decide +kernel, by decide +kernel⟩
theorem ok__law_put {f : Addr} {fd : FuncData} (F : Fun K "_law_put" "_law_put" st__law_put f fd) (T : Tx K mg) {n : Nat} {c : Orc} (C : Oks P w K mg base n c) : FnOk P w K mg base CX0 (3 * (n + 1)) f fd ["found", "powers", "share"] (spF K (fns 58 c)) :=
  fn_ok (k := 3 * n + 2) (np := 3) (ns := 3) F sc__law_put rfl rfl fun cdv A outer s H E hr2 => by
    have hr0 := hr2.mono (show 3 * n ≤ 3 * n + 2 by omega)
    have hu := hr2.units
    exact (db_one (ds_asg (fun _ h hg => ps_asg h hg) (dn_if (dt_in hu (dn_name (pv 1)) (dn_name (pv 0))) (dn_call (Tx.at_ C 53 "_law_added" (by decide) rfl) hr0 (by rfl) (da_cons (dn_ixA hu (dn_name (pv 0)) (dn_name (pv 1))) (da_cons (dn_name (pv 2)) da_nil))) (dn_name (pv 2))) (dg_sub hu (dn_name (pv 0)) (dn_name (pv 1)))))
abbrev st__law_sum : Stmt := top 71
theorem N__law_sum_nd : (["some", "found", "own", "powers", "share"] : List Str).Nodup := by decide +kernel
theorem sc__law_sum : FnScope ["some", "found", "own", "powers", "share"] ["some"] (defScope st__law_sum) := ⟨rfl, rfl, rfl, N__law_sum_nd, rfl, by decide +kernel, by decide +kernel⟩
theorem ok__law_sum {f : Addr} {fd : FuncData} (F : Fun K "_law_sum" "_law_sum" st__law_sum f fd) (T : Tx K mg) {n : Nat} {c : Orc} (C : Oks P w K mg base n c) : FnOk P w K mg base CX0 (3 * (n + 1)) f fd ["some"] (spF K (fns 59 c)) :=
  fn_ok (k := 3 * n + 2) (np := 1) (ns := 5) F sc__law_sum rfl rfl fun cdv A outer s H E hr2 => by
    have hr0 := hr2.mono (show 3 * n ≤ 3 * n + 2 by omega)
    have hu := hr2.units
    exact (db_cons (ds_set (i := 1) (fun _ h => ps_set (i := 1) N__law_sum_nd rfl (Or.inl rfl) h) dn_newD)
      (db_cons (ds_for PassesOwn.never rfl (di_seq (dn_name (pv 0))) (dg_name (pg_name (i := 2) N__law_sum_nd rfl (Or.inl rfl))) (db_one (ds_for PassesOwn.never rfl (di_seq (dn_name (pv 2))) (dg_tup rfl (dgs_cons (dg_name (pg_name (i := 3) N__law_sum_nd rfl (Or.inl rfl))) (dgs_cons (dg_name (pg_name (i := 4) N__law_sum_nd rfl (Or.inl rfl))) dgs_nil))) (db_one (ds_exp (dn_call (Tx.at_ C 58 "_law_put" (by decide) rfl) hr0 (by rfl) (da_cons (dn_name (pv 1)) (da_cons (dn_name (pv 3)) (da_cons (dn_name (pv 4)) da_nil)))))))))
      (db_one (ds_ret (dn_call (Tx.at_ C 57 "_law_made" (by decide) rfl) hr0 (by rfl) (da_cons (dn_name (pv 1)) da_nil))))))
abbrev st__law_times : Stmt := top 72
theorem N__law_times_nd : (["one", "other", "found", "near", "share", "far", "more", "a", "b"] : List Str).Nodup := by decide +kernel
theorem sc__law_times : FnScope ["one", "other", "found", "near", "share", "far", "more", "a", "b"] ["one", "other"] (defScope st__law_times) := ⟨rfl, rfl, rfl, N__law_times_nd, rfl, by decide +kernel, by decide +kernel⟩
theorem ok__law_times {f : Addr} {fd : FuncData} (F : Fun K "_law_times" "_law_times" st__law_times f fd) (T : Tx K mg) {n : Nat} {c : Orc} (C : Oks P w K mg base n c) : FnOk P w K mg base CX0 (3 * (n + 1)) f fd ["one", "other"] (spF K (fns 60 c)) :=
  fn_ok (k := 3 * n + 2) (np := 2) (ns := 9) F sc__law_times rfl rfl fun cdv A outer s H E hr2 => by
    have hr0 := hr2.mono (show 3 * n ≤ 3 * n + 2 by omega)
    have hu := hr2.units
    exact (db_cons (ds_set (i := 2) (fun _ h => ps_set (i := 2) N__law_times_nd rfl (Or.inl rfl) h) dn_newD)
      (db_cons (ds_for PassesOwn.never rfl (di_seq (dn_name (pv 0))) (dg_tup rfl (dgs_cons (dg_name (pg_name (i := 3) N__law_times_nd rfl (Or.inl rfl))) (dgs_cons (dg_name (pg_name (i := 4) N__law_times_nd rfl (Or.inl rfl))) dgs_nil))) (db_one (ds_for PassesOwn.never rfl (di_seq (dn_name (pv 1))) (dg_tup rfl (dgs_cons (dg_name (pg_name (i := 5) N__law_times_nd rfl (Or.inl rfl))) (dgs_cons (dg_name (pg_name (i := 6) N__law_times_nd rfl (Or.inl rfl))) dgs_nil))) (db_one (ds_exp (dn_call (Tx.at_ C 58 "_law_put" (by decide) rfl) hr0 (by rfl) (da_cons (dn_name (pv 2)) (da_cons (dn_tuple (by rfl) T.tuple_ (da_cons (dn_lc (own := [("a", 7), ("b", 8)]) rfl N__law_times_nd (di_zip (by rfl) T.zip_ (dn_name (pv 3)) (dn_name (pv 5))) (blkOk_by (N := ["one", "other", "found", "near", "share", "far", "more", "a", "b"]) (sc := defScope st__law_times) (own := [("a", 7), ("b", 8)]) (by decide +kernel)) (fun _ _ _ _ _ => (pg_tup rfl (pgs_cons (pg_name (i := 7) N__law_times_nd rfl (Or.inl rfl)) (pgs_cons (pg_name (i := 8) N__law_times_nd rfl (Or.inl rfl)) pgs_nil)))) (dl_tup (dls_cons (dl_name (by decide)) (dls_cons (dl_name (by decide)) dls_nil))) (fun _ _ _ _ _ => pts_dnil) (fun _ _ _ _ _ => (dn_add (dn_name (pv 7)) (dn_name (pv 8))))) da_nil)) (da_cons (dn_call (Tx.at_ C 54 "_law_multiplied" (by decide) rfl) hr0 (by rfl) (da_cons (dn_name (pv 4)) (da_cons (dn_name (pv 6)) da_nil))) da_nil)))))))))
      (db_one (ds_ret (dn_call (Tx.at_ C 57 "_law_made" (by decide) rfl) hr0 (by rfl) (da_cons (dn_name (pv 2)) da_nil))))))
abbrev st__law_at : Stmt := top 74
theorem N__law_at_nd : (["own", "point", "found", "powers", "share", "far", "many", "turn"] : List Str).Nodup := by decide +kernel
theorem sc__law_at : FnScope ["own", "point", "found", "powers", "share", "far", "many", "turn"] ["own", "point"] (defScope st__law_at) := ⟨rfl, rfl, rfl, N__law_at_nd, rfl, by decide +kernel, by decide +kernel⟩
theorem ok__law_at {f : Addr} {fd : FuncData} (F : Fun K "_law_at" "_law_at" st__law_at f fd) (T : Tx K mg) {n : Nat} {c : Orc} (C : Oks P w K mg base n c) : FnOk P w K mg base CX0 (3 * (n + 1)) f fd ["own", "point"] (spF K (fns 62 c)) :=
  fn_ok (k := 3 * n + 2) (np := 2) (ns := 8) F sc__law_at rfl rfl fun cdv A outer s H E hr2 => by
    have hr0 := hr2.mono (show 3 * n ≤ 3 * n + 2 by omega)
    have hu := hr2.units
    exact (db_cons (ds_set (i := 2) (fun _ h => ps_set (i := 2) N__law_at_nd rfl (Or.inl rfl) h) (dn_tup (df_cons dn_int (df_cons dn_int df_nil))))
      (db_cons (ds_for PassesOwn.never rfl (di_seq (dn_name (pv 0))) (dg_tup rfl (dgs_cons (dg_name (pg_name (i := 3) N__law_at_nd rfl (Or.inl rfl))) (dgs_cons (dg_name (pg_name (i := 4) N__law_at_nd rfl (Or.inl rfl))) dgs_nil))) (db_cons (ds_for PassesOwn.never rfl (di_zip (by rfl) T.zip_ (dn_name (pv 1)) (dn_name (pv 3))) (dg_tup rfl (dgs_cons (dg_name (pg_name (i := 5) N__law_at_nd rfl (Or.inl rfl))) (dgs_cons (dg_name (pg_name (i := 6) N__law_at_nd rfl (Or.inl rfl))) dgs_nil))) (db_one (ds_for PassesOwn.never rfl (di_range1 (by rfl) T.range_ (dn_name (pv 6))) (dg_name (pg_name (i := 7) N__law_at_nd rfl (Or.inl rfl))) (db_one (ds_set (i := 4) (fun _ h => ps_set (i := 4) N__law_at_nd rfl (Or.inl rfl) h) (dn_call (Tx.at_ C 54 "_law_multiplied" (by decide) rfl) hr0 (by rfl) (da_cons (dn_name (pv 4)) (da_cons (dn_name (pv 5)) da_nil))))))))
      (db_one (ds_set (i := 2) (fun _ h => ps_set (i := 2) N__law_at_nd rfl (Or.inl rfl) h) (dn_call (Tx.at_ C 53 "_law_added" (by decide) rfl) hr0 (by rfl) (da_cons (dn_name (pv 2)) (da_cons (dn_name (pv 4)) da_nil)))))))
      (db_one (ds_ret (dn_name (pv 2))))))
abbrev st__law_sum_drawn : Stmt := top 75
theorem N__law_sum_drawn_nd : (["box", "wide", "most", "high", "found", "shares", "turn", "row", "step", "at_so", "share"] : List Str).Nodup := by decide +kernel
theorem sc__law_sum_drawn : FnScope ["box", "wide", "most", "high", "found", "shares", "turn", "row", "step", "at_so", "share"] ["box", "wide", "most", "high"] (defScope st__law_sum_drawn) := ⟨rfl, rfl, rfl, N__law_sum_drawn_nd, rfl, by decide +kernel, by decide +kernel⟩
theorem ok__law_sum_drawn {f : Addr} {fd : FuncData} (F : Fun K "_law_sum_drawn" "_law_sum_drawn" st__law_sum_drawn f fd) (T : Tx K mg) {n : Nat} {c : Orc} (C : Oks P w K mg base n c) : FnOk P w K mg base CX0 (3 * (n + 1)) f fd ["box", "wide", "most", "high"] (spF K (fns 63 c)) :=
  fn_ok (k := 3 * n + 2) (np := 4) (ns := 11) F sc__law_sum_drawn rfl rfl fun cdv A outer s H E hr2 => by
    have hr0 := hr2.mono (show 3 * n ≤ 3 * n + 2 by omega)
    have hu := hr2.units
    exact (db_cons (ds_par2 (i := 4) (j := 5) (fun _ h => ps_par (i := 4) (j := 5) rfl N__law_sum_drawn_nd rfl rfl (by decide) rfl rfl h (by rfl)) (da_cons dn_newD (da_cons (dn_lst df_nil) da_nil)))
      (db_cons (ds_for PassesOwn.never rfl (di_range1 (by rfl) T.range_ (dn_add dn_int (dn_call (Tx.at_ C 47 "_law_take" (by decide) rfl) hr0 (by rfl) (da_cons (dn_name (pv 0)) (da_cons (dn_name (pv 2)) da_nil))))) (dg_name (pg_name (i := 6) N__law_sum_drawn_nd rfl (Or.inl rfl))) (db_cons (ds_set (i := 7) (fun _ h => ps_set (i := 7) N__law_sum_drawn_nd rfl (Or.inl rfl) h) (dn_mulA (dn_lst (df_cons dn_int df_nil)) (dn_name (pv 1))))
      (db_cons (ds_for PassesOwn.never rfl (di_range1 (by rfl) T.range_ (dn_call (Tx.at_ C 47 "_law_take" (by decide) rfl) hr0 (by rfl) (da_cons (dn_name (pv 0)) (da_cons (dn_add (dn_name (pv 3)) dn_int) da_nil)))) (dg_name (pg_name (i := 8) N__law_sum_drawn_nd rfl (Or.inl rfl))) (db_cons (ds_set (i := 9) (fun _ h => ps_set (i := 9) N__law_sum_drawn_nd rfl (Or.inl rfl) h) (dn_call (Tx.at_ C 47 "_law_take" (by decide) rfl) hr0 (by rfl) (da_cons (dn_name (pv 0)) (da_cons (dn_name (pv 1)) da_nil))))
      (db_one (ds_asg (fun _ h hg => ps_asg h hg) (dn_add (dn_ixA hu (dn_name (pv 7)) (dn_name (pv 9))) dn_int) (dg_sub hu (dn_name (pv 7)) (dn_name (pv 9)))))))
      (db_cons (ds_set (i := 10) (fun _ h => ps_set (i := 10) N__law_sum_drawn_nd rfl (Or.inl rfl) h) (dn_call (Tx.at_ C 55 "_law_share" (by decide) rfl) hr0 (by rfl) (da_cons (dn_name (pv 0)) (da_cons (dn_name (pv 5)) da_nil))))
      (db_cons (ds_set (i := 5) (fun _ h => ps_set (i := 5) N__law_sum_drawn_nd rfl (Or.inl rfl) h) (dn_add (dn_name (pv 5)) (dn_lst (df_cons (dn_name (pv 10)) (df_cons (dn_call (Tx.at_ C 54 "_law_multiplied" (by decide) rfl) hr0 (by rfl) (da_cons (dn_name (pv 10)) (da_cons (dn_tup (df_cons (dn_neg dn_int) (df_cons dn_int df_nil))) da_nil))) df_nil)))))
      (db_one (ds_if (dt_notIn hu (dn_tuple (by rfl) T.tuple_ (da_cons (dn_name (pv 7)) da_nil)) (dn_name (pv 4))) (db_one (ds_asg (fun _ h hg => ps_asg h hg) (dn_name (pv 10)) (dg_sub hu (dn_name (pv 4)) (dn_tuple (by rfl) T.tuple_ (da_cons (dn_name (pv 7)) da_nil))))) db_nil)))))))
      (db_one (ds_ret (dn_call (Tx.at_ C 57 "_law_made" (by decide) rfl) hr0 (by rfl) (da_cons (dn_name (pv 4)) da_nil))))))
abbrev st__law_exchange : Stmt := top 79
theorem N__law_exchange_nd : (["box", "wide"] : List Str).Nodup := by decide +kernel
theorem sc__law_exchange : FnScope ["box", "wide"] ["box", "wide"] (defScope st__law_exchange) := ⟨rfl, rfl, rfl, N__law_exchange_nd, rfl, by decide +kernel, by decide +kernel⟩
theorem ok__law_exchange {f : Addr} {fd : FuncData} (F : Fun K "_law_exchange" "_law_exchange" st__law_exchange f fd) (T : Tx K mg) {n : Nat} {c : Orc} (C : Oks P w K mg base n c) : FnOk P w K mg base CX0 (3 * (n + 1)) f fd ["box", "wide"] (spF K (fns 98 c)) :=
  fn_ok (k := 3 * n + 2) (np := 2) (ns := 2) F sc__law_exchange rfl rfl fun cdv A outer s H E hr2 => by
    have hr0 := hr2.mono (show 3 * n ≤ 3 * n + 2 by omega)
    have hu := hr2.units
    exact (db_one (ds_ret (dn_tuple (by rfl) T.tuple_ (da_cons (dn_call (Tx.at_ C 51 "_law_pick" (by decide) rfl) hr0 (by rfl) (da_cons (dn_name (pv 0)) (da_cons (dn_lstRg2 rfl (by rfl) T.list_ (by rfl) T.range_ dn_int (dn_add (dn_name (pv 1)) dn_int)) (da_cons (dn_name (pv 1)) da_nil)))) da_nil))))
abbrev st__law_right : Stmt := top 83
theorem N__law_right_nd : (["box", "wide", "other_wide", "third", "one", "two", "some", "k", "kind", "point", "values", "near", "far", "got", "more", "whole", "inner", "exchange", "letters", "told", "numbers", "due", "own"] : List Str).Nodup := by decide +kernel
theorem sc__law_right : FnScope ["box", "wide", "other_wide", "third", "one", "two", "some", "k", "kind", "point", "values", "near", "far", "got", "more", "whole", "inner", "exchange", "letters", "told", "numbers", "due", "own"] ["box"] (defScope st__law_right) := ⟨rfl, rfl, rfl, N__law_right_nd, rfl, by decide +kernel, by decide +kernel⟩
theorem ok__law_right {f : Addr} {fd : FuncData} (F : Fun K "_law_right" "_law_right" st__law_right f fd) (T : Tx K mg) {n : Nat} {c : Orc} (C : Oks P w K mg base n c) : FnOk P w K mg base CX0 (3 * (n + 1)) f fd ["box"] (spF K (fns 498 c)) :=
  fn_ok (k := 3 * n + 2) (np := 1) (ns := 23) F sc__law_right rfl rfl fun cdv A outer s H E hr2 => by
    have hr0 := hr2.mono (show 3 * n ≤ 3 * n + 2 by omega)
    have hu := hr2.units
    exact (db_cons (ds_asg (fun _ h hg => ps_asg h hg) (dn_tup (df_cons (dn_add dn_int (dn_call (Tx.at_ C 47 "_law_take" (by decide) rfl) hr0 (by rfl) (da_cons (dn_name (pv 0)) (da_cons dn_int da_nil)))) (df_cons (dn_add dn_int (dn_call (Tx.at_ C 47 "_law_take" (by decide) rfl) hr0 (by rfl) (da_cons (dn_name (pv 0)) (da_cons dn_int da_nil)))) (df_cons (dn_add dn_int (dn_call (Tx.at_ C 47 "_law_take" (by decide) rfl) hr0 (by rfl) (da_cons (dn_name (pv 0)) (da_cons dn_int da_nil)))) df_nil)))) (dg_tup rfl (dgs_cons (dg_name (pg_name (i := 1) N__law_right_nd rfl (Or.inr rfl))) (dgs_cons (dg_name (pg_name (i := 2) N__law_right_nd rfl (Or.inr rfl))) (dgs_cons (dg_name (pg_name (i := 3) N__law_right_nd rfl (Or.inr rfl))) dgs_nil)))))
      (db_cons (ds_par2 (i := 4) (j := 5) (fun _ h => ps_par (i := 4) (j := 5) rfl N__law_right_nd rfl rfl (by decide) rfl rfl h (by rfl)) (da_cons (dn_call (Tx.at_ C 63 "_law_sum_drawn" (by decide) rfl) hr0 (by rfl) (da_cons (dn_name (pv 0)) (da_cons (dn_name (pv 1)) (da_cons dn_int (da_cons dn_int da_nil))))) (da_cons (dn_call (Tx.at_ C 63 "_law_sum_drawn" (by decide) rfl) hr0 (by rfl) (da_cons (dn_name (pv 0)) (da_cons (dn_name (pv 1)) (da_cons dn_int (da_cons dn_int da_nil))))) da_nil)))
      (db_cons (ds_set (i := 6) (fun _ h => ps_set (i := 6) N__law_right_nd rfl (Or.inl rfl) h) (dn_lst df_nil))
      (db_cons (ds_for PassesOwn.never rfl (di_range1 (by rfl) T.range_ (dn_name (pv 1))) (dg_name (pg_name (i := 7) N__law_right_nd rfl (Or.inl rfl))) (db_cons (ds_set (i := 8) (fun _ h => ps_set (i := 8) N__law_right_nd rfl (Or.inl rfl) h) (dn_call (Tx.at_ C 47 "_law_take" (by decide) rfl) hr0 (by rfl) (da_cons (dn_name (pv 0)) (da_cons dn_int da_nil))))
      (db_one (ds_if (dt_w (dw_and (dt_eq hu (dn_name (pv 8)) dn_int) (dw_and1 (dt_ne hu (dn_name (pv 6)) (dn_lst df_nil))))) (db_one (ds_exp (dn_append (dn_name (pv 6)) (df_cons (dn_call (Tx.at_ C 50 "_law_of" (by decide) rfl) hr0 (by rfl) (da_cons (dn_name (pv 0)) (da_cons (dn_name (pv 6)) da_nil))) df_nil)))) (db_one (ds_exp (dn_append (dn_name (pv 6)) (df_cons (dn_if (dt_eq hu (dn_name (pv 8)) dn_int) (dn_tup df_nil) (dn_call (Tx.at_ C 499 "_law_small" (by decide) rfl) hr0 (by rfl) (da_cons (dn_call (Tx.at_ C 63 "_law_sum_drawn" (by decide) rfl) hr0 (by rfl) (da_cons (dn_name (pv 0)) (da_cons (dn_name (pv 2)) (da_cons dn_int (da_cons dn_int da_nil))))) da_nil))) df_nil))))))))
      (db_cons (ds_set (i := 6) (fun _ h => ps_set (i := 6) N__law_right_nd rfl (Or.inl rfl) h) (dn_tuple (by rfl) T.tuple_ (da_cons (dn_name (pv 6)) da_nil)))
      (db_cons (ds_set (i := 9) (fun _ h => ps_set (i := 9) N__law_right_nd rfl (Or.inr rfl) h) (dn_tuple (by rfl) T.tuple_ (da_cons (dn_lc (own := [("k", 7)]) rfl N__law_right_nd (di_range1 (by rfl) T.range_ (dn_name (pv 2))) (blkOk_by (N := ["box", "wide", "other_wide", "third", "one", "two", "some", "k", "kind", "point", "values", "near", "far", "got", "more", "whole", "inner", "exchange", "letters", "told", "numbers", "due", "own"]) (sc := defScope st__law_right) (own := [("k", 7)]) (by decide +kernel)) (fun _ _ _ _ _ => (pg_name (i := 7) N__law_right_nd rfl (Or.inl rfl))) (dl_name (by decide)) (fun _ _ _ _ _ => pts_dnil) (fun _ _ _ _ _ => (dn_call (Tx.at_ C 52 "_law_low" (by decide) rfl) hr0 (by rfl) (da_cons (dn_sub (dn_call (Tx.at_ C 47 "_law_take" (by decide) rfl) hr0 (by rfl) (da_cons (dn_name (pv 0)) (da_cons dn_int da_nil))) dn_int) (da_cons (dn_add dn_int (dn_call (Tx.at_ C 47 "_law_take" (by decide) rfl) hr0 (by rfl) (da_cons (dn_name (pv 0)) (da_cons dn_int da_nil)))) da_nil))))) da_nil)))
      (db_cons (ds_set (i := 10) (fun _ h => ps_set (i := 10) N__law_right_nd rfl (Or.inl rfl) h) (dn_tuple (by rfl) T.tuple_ (da_cons (dn_lc (own := [("own", 22)]) rfl N__law_right_nd (di_seq (dn_name (pv 6))) (blkOk_by (N := ["box", "wide", "other_wide", "third", "one", "two", "some", "k", "kind", "point", "values", "near", "far", "got", "more", "whole", "inner", "exchange", "letters", "told", "numbers", "due", "own"]) (sc := defScope st__law_right) (own := [("own", 22)]) (by decide +kernel)) (fun _ _ _ _ _ => (pg_name (i := 22) N__law_right_nd rfl (Or.inl rfl))) (dl_name (by decide)) (fun _ _ _ _ _ => pts_dnil) (fun _ _ _ _ _ => (dn_call (Tx.at_ C 62 "_law_at" (by decide) rfl) hr0 (by rfl) (da_cons (dn_name (pv 22)) (da_cons (dn_name (pv 9)) da_nil))))) da_nil)))
      (db_cons (ds_par2 (i := 11) (j := 12) (fun _ h => ps_par (i := 11) (j := 12) rfl N__law_right_nd rfl rfl (by decide) rfl rfl h (by rfl)) (da_cons (dn_call (Tx.at_ C 496 "put_in" (by decide) rfl) hr0 (by rfl) (da_cons (dn_name (pv 1)) (da_cons (dn_name (pv 4)) (da_cons (dn_name (pv 2)) (da_cons (dn_name (pv 6)) da_nil))))) (da_cons (dn_call (Tx.at_ C 496 "put_in" (by decide) rfl) hr0 (by rfl) (da_cons (dn_name (pv 1)) (da_cons (dn_name (pv 5)) (da_cons (dn_name (pv 2)) (da_cons (dn_name (pv 6)) da_nil))))) da_nil)))
      (db_cons (ds_if (dt_not (dt_val (dn_call (Tx.at_ C 49 "_law_same" (by decide) rfl) hr0 (by rfl) (da_cons (dn_lst (df_cons (dn_call (Tx.at_ C 62 "_law_at" (by decide) rfl) hr0 (by rfl) (da_cons (dn_name (pv 11)) (da_cons (dn_name (pv 9)) da_nil))) (df_cons (dn_call (Tx.at_ C 45 "value_at" (by decide) rfl) hr0 (by rfl) (da_cons (dn_name (pv 2)) (da_cons (dn_name (pv 12)) (da_cons (dn_name (pv 9)) da_nil)))) df_nil))) (da_cons (dn_lst (df_cons (dn_call (Tx.at_ C 62 "_law_at" (by decide) rfl) hr0 (by rfl) (da_cons (dn_name (pv 4)) (da_cons (dn_name (pv 10)) da_nil))) (df_cons (dn_call (Tx.at_ C 62 "_law_at" (by decide) rfl) hr0 (by rfl) (da_cons (dn_name (pv 5)) (da_cons (dn_name (pv 10)) da_nil))) df_nil))) da_nil))))) (db_one (ds_ret dn_bool)) db_nil)
      (db_cons (ds_set (i := 13) (fun _ h => ps_set (i := 13) N__law_right_nd rfl (Or.inl rfl) h) (dn_lst (df_cons (dn_call (Tx.at_ C 496 "put_in" (by decide) rfl) hr0 (by rfl) (da_cons (dn_name (pv 1)) (da_cons (dn_call (Tx.at_ C 31 "sum_plus" (by decide) rfl) hr0 (by rfl) (da_cons (dn_name (pv 1)) (da_cons (dn_name (pv 4)) (da_cons (dn_name (pv 5)) da_nil)))) (da_cons (dn_name (pv 2)) (da_cons (dn_name (pv 6)) da_nil))))) (df_cons (dn_call (Tx.at_ C 496 "put_in" (by decide) rfl) hr0 (by rfl) (da_cons (dn_name (pv 1)) (da_cons (dn_call (Tx.at_ C 33 "sum_times" (by decide) rfl) hr0 (by rfl) (da_cons (dn_name (pv 1)) (da_cons (dn_name (pv 4)) (da_cons (dn_name (pv 5)) da_nil)))) (da_cons (dn_name (pv 2)) (da_cons (dn_name (pv 6)) da_nil))))) df_nil))))
      (db_cons (ds_if (dt_not (dt_val (dn_call (Tx.at_ C 49 "_law_same" (by decide) rfl) hr0 (by rfl) (da_cons (dn_name (pv 13)) (da_cons (dn_lst (df_cons (dn_call (Tx.at_ C 59 "_law_sum" (by decide) rfl) hr0 (by rfl) (da_cons (dn_lst (df_cons (dn_name (pv 11)) (df_cons (dn_name (pv 12)) df_nil))) da_nil)) (df_cons (dn_call (Tx.at_ C 60 "_law_times" (by decide) rfl) hr0 (by rfl) (da_cons (dn_name (pv 11)) (da_cons (dn_name (pv 12)) da_nil))) df_nil))) da_nil))))) (db_one (ds_ret dn_bool)) db_nil)
      (db_cons (ds_if (dt_gt hu (dn_call (Tx.at_ C 37 "degree_of" (by decide) rfl) hr0 (by rfl) (da_cons (dn_name (pv 2)) (da_cons (dn_name (pv 11)) da_nil))) (dn_mulA (dn_call (Tx.at_ C 37 "degree_of" (by decide) rfl) hr0 (by rfl) (da_cons (dn_name (pv 1)) (da_cons (dn_name (pv 4)) da_nil))) (dn_max rfl (by rfl) T.max_ (da_cons (dn_add (dn_lc (own := [("own", 22)]) rfl N__law_right_nd (di_seq (dn_name (pv 6))) (blkOk_by (N := ["box", "wide", "other_wide", "third", "one", "two", "some", "k", "kind", "point", "values", "near", "far", "got", "more", "whole", "inner", "exchange", "letters", "told", "numbers", "due", "own"]) (sc := defScope st__law_right) (own := [("own", 22)]) (by decide +kernel)) (fun _ _ _ _ _ => (pg_name (i := 22) N__law_right_nd rfl (Or.inl rfl))) (dl_name (by decide)) (fun _ _ _ _ _ => pts_dnil) (fun _ _ _ _ _ => (dn_call (Tx.at_ C 37 "degree_of" (by decide) rfl) hr0 (by rfl) (da_cons (dn_name (pv 2)) (da_cons (dn_name (pv 22)) da_nil))))) (dn_lst (df_cons dn_int df_nil))) da_nil)))) (db_one (ds_ret dn_bool)) db_nil)
      (db_cons (ds_set (i := 14) (fun _ h => ps_set (i := 14) N__law_right_nd rfl (Or.inr rfl) h) (dn_tuple (by rfl) T.tuple_ (da_cons (dn_lc (own := [("k", 7)]) rfl N__law_right_nd (di_range1 (by rfl) T.range_ (dn_name (pv 2))) (blkOk_by (N := ["box", "wide", "other_wide", "third", "one", "two", "some", "k", "kind", "point", "values", "near", "far", "got", "more", "whole", "inner", "exchange", "letters", "told", "numbers", "due", "own"]) (sc := defScope st__law_right) (own := [("k", 7)]) (by decide +kernel)) (fun _ _ _ _ _ => (pg_name (i := 7) N__law_right_nd rfl (Or.inl rfl))) (dl_name (by decide)) (fun _ _ _ _ _ => pts_dnil) (fun _ _ _ _ _ => (dn_call (Tx.at_ C 499 "_law_small" (by decide) rfl) hr0 (by rfl) (da_cons (dn_call (Tx.at_ C 63 "_law_sum_drawn" (by decide) rfl) hr0 (by rfl) (da_cons (dn_name (pv 0)) (da_cons (dn_name (pv 3)) (da_cons dn_int (da_cons dn_int da_nil))))) da_nil)))) da_nil)))
      (db_cons (ds_set (i := 15) (fun _ h => ps_set (i := 15) N__law_right_nd rfl (Or.inl rfl) h) (dn_call (Tx.at_ C 496 "put_in" (by decide) rfl) hr0 (by rfl) (da_cons (dn_name (pv 2)) (da_cons (dn_name (pv 12)) (da_cons (dn_name (pv 3)) (da_cons (dn_name (pv 14)) da_nil))))))
      (db_cons (ds_set (i := 16) (fun _ h => ps_set (i := 16) N__law_right_nd rfl (Or.inl rfl) h) (dn_tuple (by rfl) T.tuple_ (da_cons (dn_lc (own := [("own", 22)]) rfl N__law_right_nd (di_seq (dn_name (pv 6))) (blkOk_by (N := ["box", "wide", "other_wide", "third", "one", "two", "some", "k", "kind", "point", "values", "near", "far", "got", "more", "whole", "inner", "exchange", "letters", "told", "numbers", "due", "own"]) (sc := defScope st__law_right) (own := [("own", 22)]) (by decide +kernel)) (fun _ _ _ _ _ => (pg_name (i := 22) N__law_right_nd rfl (Or.inl rfl))) (dl_name (by decide)) (fun _ _ _ _ _ => pts_dnil) (fun _ _ _ _ _ => (dn_call (Tx.at_ C 496 "put_in" (by decide) rfl) hr0 (by rfl) (da_cons (dn_name (pv 2)) (da_cons (dn_name (pv 22)) (da_cons (dn_name (pv 3)) (da_cons (dn_name (pv 14)) da_nil))))))) da_nil)))
      (db_cons (ds_if (dt_not (dt_val (dn_call (Tx.at_ C 49 "_law_same" (by decide) rfl) hr0 (by rfl) (da_cons (dn_call (Tx.at_ C 496 "put_in" (by decide) rfl) hr0 (by rfl) (da_cons (dn_name (pv 1)) (da_cons (dn_name (pv 5)) (da_cons (dn_name (pv 3)) (da_cons (dn_name (pv 16)) da_nil))))) (da_cons (dn_name (pv 15)) da_nil))))) (db_one (ds_ret dn_bool)) db_nil)
      (db_cons (ds_set (i := 17) (fun _ h => ps_set (i := 17) N__law_right_nd rfl (Or.inl rfl) h) (dn_call (Tx.at_ C 98 "_law_exchange" (by decide) rfl) hr0 (by rfl) (da_cons (dn_name (pv 0)) (da_cons (dn_name (pv 1)) da_nil))))
      (db_cons (ds_set (i := 18) (fun _ h => ps_set (i := 18) N__law_right_nd rfl (Or.inl rfl) h) (dn_tuple (by rfl) T.tuple_ (da_cons (dn_lc (own := [("own", 22)]) rfl N__law_right_nd (di_seq (dn_name (pv 17))) (blkOk_by (N := ["box", "wide", "other_wide", "third", "one", "two", "some", "k", "kind", "point", "values", "near", "far", "got", "more", "whole", "inner", "exchange", "letters", "told", "numbers", "due", "own"]) (sc := defScope st__law_right) (own := [("own", 22)]) (by decide +kernel)) (fun _ _ _ _ _ => (pg_name (i := 22) N__law_right_nd rfl (Or.inl rfl))) (dl_name (by decide)) (fun _ _ _ _ _ => pts_dnil) (fun _ _ _ _ _ => (dn_call (Tx.at_ C 495 "letter_sum" (by decide) rfl) hr0 (by rfl) (da_cons (dn_name (pv 1)) (da_cons (dn_name (pv 22)) da_nil))))) da_nil)))
      (db_cons (ds_set (i := 19) (fun _ h => ps_set (i := 19) N__law_right_nd rfl (Or.inl rfl) h) (dn_tuple (by rfl) T.tuple_ (da_cons (dn_lc (own := [("k", 7)]) rfl N__law_right_nd (di_range1 (by rfl) T.range_ (dn_name (pv 1))) (blkOk_by (N := ["box", "wide", "other_wide", "third", "one", "two", "some", "k", "kind", "point", "values", "near", "far", "got", "more", "whole", "inner", "exchange", "letters", "told", "numbers", "due", "own"]) (sc := defScope st__law_right) (own := [("k", 7)]) (by decide +kernel)) (fun _ _ _ _ _ => (pg_name (i := 7) N__law_right_nd rfl (Or.inl rfl))) (dl_name (by decide)) (fun _ _ _ _ _ => pts_dnil) (fun _ _ _ _ _ => (dn_if (dt_eq hu (dn_mulA (dn_div (dn_name (pv 7)) dn_int) dn_int) (dn_name (pv 7))) (dn_tup (df_cons (dn_sub (dn_name (pv 7)) dn_int) (df_cons dn_int df_nil))) (dn_tup (df_cons (dn_name (pv 7)) (df_cons dn_int df_nil)))))) da_nil)))
      (db_cons (ds_par2 (i := 20) (j := 21) (fun _ h => ps_par (i := 20) (j := 21) rfl N__law_right_nd rfl rfl (by decide) rfl rfl h (by rfl)) (da_cons (dn_tuple (by rfl) T.tuple_ (da_cons (dn_lc (own := [("own", 22)]) rfl N__law_right_nd (di_seq (dn_name (pv 19))) (blkOk_by (N := ["box", "wide", "other_wide", "third", "one", "two", "some", "k", "kind", "point", "values", "near", "far", "got", "more", "whole", "inner", "exchange", "letters", "told", "numbers", "due", "own"]) (sc := defScope st__law_right) (own := [("own", 22)]) (by decide +kernel)) (fun _ _ _ _ _ => (pg_name (i := 22) N__law_right_nd rfl (Or.inl rfl))) (dl_name (by decide)) (fun _ _ _ _ _ => pts_dnil) (fun _ _ _ _ _ => (dn_call (Tx.at_ C 494 "number_sum" (by decide) rfl) hr0 (by rfl) (da_cons (dn_name (pv 2)) (da_cons (dn_name (pv 22)) da_nil))))) da_nil)) (da_cons (dn_call (Tx.at_ C 62 "_law_at" (by decide) rfl) hr0 (by rfl) (da_cons (dn_name (pv 4)) (da_cons (dn_name (pv 19)) da_nil))) da_nil)))
      (db_cons (ds_set (i := 13) (fun _ h => ps_set (i := 13) N__law_right_nd rfl (Or.inl rfl) h) (dn_lst (df_cons (dn_call (Tx.at_ C 496 "put_in" (by decide) rfl) hr0 (by rfl) (da_cons (dn_name (pv 1)) (da_cons (dn_name (pv 4)) (da_cons (dn_name (pv 1)) (da_cons (dn_name (pv 18)) da_nil))))) (df_cons (dn_call (Tx.at_ C 496 "put_in" (by decide) rfl) hr0 (by rfl) (da_cons (dn_name (pv 1)) (da_cons (dn_name (pv 4)) (da_cons (dn_name (pv 2)) (da_cons (dn_name (pv 20)) da_nil))))) df_nil))))
      (db_one (ds_ret (dn_call (Tx.at_ C 49 "_law_same" (by decide) rfl) hr0 (by rfl) (da_cons (dn_name (pv 13)) (da_cons (dn_lst (df_cons (dn_call (Tx.at_ C 78 "led" (by decide) rfl) hr0 (by rfl) (da_cons (dn_name (pv 1)) (da_cons (dn_name (pv 4)) (da_cons (dn_name (pv 17)) da_nil)))) (df_cons (dn_call (Tx.at_ C 494 "number_sum" (by decide) rfl) hr0 (by rfl) (da_cons (dn_name (pv 2)) (da_cons (dn_name (pv 21)) da_nil))) df_nil))) da_nil))))))))))))))))))))))))))
abbrev st__law_small : Stmt := top 84
theorem N__law_small_nd : (["own", "powers", "share"] : List Str).Nodup := by decide +kernel
theorem sc__law_small : FnScope ["own", "powers", "share"] ["own"] (defScope st__law_small) := ⟨rfl, rfl, rfl, N__law_small_nd, rfl, by decide +kernel, by decide +kernel⟩
theorem ok__law_small {f : Addr} {fd : FuncData} (F : Fun K "_law_small" "_law_small" st__law_small f fd) (T : Tx K mg) {n : Nat} {c : Orc} (C : Oks P w K mg base n c) : FnOk P w K mg base CX0 (3 * (n + 1)) f fd ["own"] (spF K (fns 499 c)) :=
  fn_ok (k := 3 * n + 2) (np := 1) (ns := 3) F sc__law_small rfl rfl fun cdv A outer s H E hr2 => by
    have hr0 := hr2.mono (show 3 * n ≤ 3 * n + 2 by omega)
    have hu := hr2.units
    exact (db_one (ds_ret (dn_tuple (by rfl) T.tuple_ (da_cons (dn_lc (own := [("powers", 1), ("share", 2)]) rfl N__law_small_nd (di_seq (dn_name (pv 0))) (blkOk_by (N := ["own", "powers", "share"]) (sc := defScope st__law_small) (own := [("powers", 1), ("share", 2)]) (by decide +kernel)) (fun _ _ _ _ _ => (pg_tup rfl (pgs_cons (pg_name (i := 1) N__law_small_nd rfl (Or.inl rfl)) (pgs_cons (pg_name (i := 2) N__law_small_nd rfl (Or.inl rfl)) pgs_nil)))) (dl_tup (dls_cons (dl_name (by decide)) (dls_cons (dl_name (by decide)) dls_nil))) (fun _ _ _ _ _ => pts_dnil) (fun _ _ _ _ _ => (dn_tup (df_cons (dn_name (pv 1)) (df_cons (dn_if (dt_lt hu (dn_max rfl (by rfl) T.max_ (da_cons (dn_abs (by rfl) T.abs_ (da_cons (dn_ixA hu (dn_name (pv 2)) dn_int) da_nil)) (da_cons (dn_ixA hu (dn_name (pv 2)) dn_int) da_nil))) dn_int) (dn_name (pv 2)) (dn_tup (df_cons dn_int (df_cons dn_int df_nil)))) df_nil))))) da_nil))))
abbrev st_law : Stmt := top 85
theorem N_law_nd : (["script"] : List Str).Nodup := by decide +kernel
theorem sc_law : FnScope ["script"] ["script"] (defScope st_law) := ⟨rfl, rfl, rfl, N_law_nd, rfl, by decide +kernel, by decide +kernel⟩
theorem ok_law {f : Addr} {fd : FuncData} (F : Fun K "law" "law" st_law f fd) (T : Tx K mg) {n : Nat} {c : Orc} (C : Oks P w K mg base n c) : FnOk P w K mg base CX0 (3 * (n + 1)) f fd ["script"] (spF K (fns 564 c)) :=
  fn_ok (k := 3 * n + 2) (np := 1) (ns := 1) F sc_law rfl rfl fun cdv A outer s H E hr2 => by
    have hr0 := hr2.mono (show 3 * n ≤ 3 * n + 2 by omega)
    have hu := hr2.units
    exact (db_one (ds_ret (dn_call (Tx.at_ C 498 "_law_right" (by decide) rfl) hr0 (by rfl) (da_cons (dn_call (Tx.at_ C 497 "_law_box" (by decide) rfl) hr0 (by rfl) (da_cons (dn_call (Tx.at_ C 48 "_law_cells" (by decide) rfl) hr0 (by rfl) (da_cons (dn_name (pv 0)) (da_cons dn_int da_nil))) (da_cons dn_int da_nil))) da_nil))))
/-! the join -/
structure Defs (K : PySem.W.Frag) (mg : Str → Option Value) : Prop where
  d0 : Df K mg "is_number" st_is_number ["thing"]
  d1 : Df K mg "is_between" st_is_between ["thing", "least", "most"]
  d2 : Df K mg "is_from" st_is_from ["thing", "least"]
  d3 : Df K mg "tuple_of" st_tuple_of ["thing"]
  d4 : Df K mg "is_tuple_of" st_is_tuple_of ["thing", "many"]
  d5 : Df K mg "sure" st_sure ["flag"]
  d6 : Df K mg "is_wide" st_is_wide ["thing"]
  d7 : Df K mg "sure_wide" st_sure_wide ["wide"]
  d8 : Df K mg "is_exchange" st_is_exchange ["wide", "thing"]
  d9 : Df K mg "sure_exchange" st_sure_exchange ["wide", "exchange"]
  d10 : Df K mg "lowest" st_lowest ["over", "under"]
  d11 : Df K mg "is_fraction" st_is_fraction ["thing"]
  d12 : Df K mg "sure_fraction" st_sure_fraction ["thing"]
  d13 : Df K mg "plus" st_plus ["one", "other"]
  d14 : Df K mg "times" st_times ["one", "other"]
  d15 : Df K mg "power" st_power ["one", "many"]
  d16 : Df K mg "powers_order" st_powers_order ["powers"]
  d17 : Df K mg "is_powers" st_is_powers ["wide", "thing"]
  d18 : Df K mg "is_term" st_is_term ["wide", "thing"]
  d19 : Df K mg "is_polynomial" st_is_polynomial ["wide", "thing"]
  d20 : Df K mg "sure_polynomial" st_sure_polynomial ["wide", "polynomial"]
  d21 : Df K mg "sure_polynomials" st_sure_polynomials ["wide", "polynomials"]
  d22 : Df K mg "added_to" st_added_to ["found", "powers", "share"]
  d23 : Df K mg "made" st_made ["found"]
  d24 : Df K mg "summed" st_summed ["some"]
  d25 : Df K mg "product" st_product ["one", "other"]
  d26 : Df K mg "multiplied" st_multiplied ["wide", "some"]
  d27 : Df K mg "number" st_number ["wide", "share"]
  d28 : Df K mg "letter" st_letter ["wide", "place"]
  d29 : Df K mg "number_sum" st_number_sum ["wide", "fraction"]
  d30 : Df K mg "letter_sum" st_letter_sum ["wide", "place"]
  d31 : Df K mg "sum_plus" st_sum_plus ["wide", "one", "other"]
  d32 : Df K mg "sum_times" st_sum_times ["wide", "one", "other"]
  d33 : Df K mg "top_degree" st_top_degree ["own"]
  d34 : Df K mg "degree_of" st_degree_of ["wide", "polynomial"]
  d35 : Df K mg "is_point" st_is_point ["wide", "thing"]
  d36 : Df K mg "sure_point" st_sure_point ["wide", "point"]
  d37 : Df K mg "value_of" st_value_of ["own", "point"]
  d38 : Df K mg "value_at" st_value_at ["wide", "polynomial", "point"]
  d39 : Df K mg "put_for" st_put_for ["wide", "own", "some"]
  d40 : Df K mg "put_in" st_put_in ["wide", "polynomial", "other_wide", "polynomials"]
  d41 : Df K mg "lead_powers" st_lead_powers ["exchange", "powers"]
  d42 : Df K mg "lead" st_lead ["exchange", "own"]
  d43 : Df K mg "led" st_led ["wide", "polynomial", "exchange"]
  d44 : Df K mg "_law_box" st__law_box ["script", "k"]
  d45 : Df K mg "_law_take" st__law_take ["box", "size_so"]
  d46 : Df K mg "_law_cells" st__law_cells ["script", "top_so"]
  d47 : Df K mg "_law_same" st__law_same ["got", "due"]
  d48 : Df K mg "_law_of" st__law_of ["box", "pool_so"]
  d49 : Df K mg "_law_pick" st__law_pick ["box", "goods_so", "count_so"]
  d50 : Df K mg "_law_low" st__law_low ["over_so", "under"]
  d51 : Df K mg "_law_added" st__law_added ["one", "other"]
  d52 : Df K mg "_law_multiplied" st__law_multiplied ["one", "other"]
  d53 : Df K mg "_law_share" st__law_share ["box", "before"]
  d54 : Df K mg "_law_order" st__law_order ["powers"]
  d55 : Df K mg "_law_made" st__law_made ["found"]
  d56 : Df K mg "_law_put" st__law_put ["found", "powers", "share"]
  d57 : Df K mg "_law_sum" st__law_sum ["some"]
  d58 : Df K mg "_law_times" st__law_times ["one", "other"]
  d59 : Df K mg "_law_at" st__law_at ["own", "point"]
  d60 : Df K mg "_law_sum_drawn" st__law_sum_drawn ["box", "wide", "most", "high"]
  d61 : Df K mg "_law_exchange" st__law_exchange ["box", "wide"]
  d62 : Df K mg "_law_right" st__law_right ["box"]
  d63 : Df K mg "_law_small" st__law_small ["own"]
  d64 : Df K mg "law" st_law ["script"]
theorem oks (T : Tx K mg) (D : Defs K mg) : ∀ n : Nat, Oks P w K mg base n (callD fns n)
  | 0 => (List.forall_mem_cons.mpr ⟨D.d0.none, (List.forall_mem_cons.mpr ⟨D.d1.none, (List.forall_mem_cons.mpr ⟨D.d2.none, (List.forall_mem_cons.mpr ⟨D.d3.none, (List.forall_mem_cons.mpr ⟨D.d4.none, (List.forall_mem_cons.mpr ⟨D.d5.none, (List.forall_mem_cons.mpr ⟨D.d6.none, (List.forall_mem_cons.mpr ⟨D.d7.none, (List.forall_mem_cons.mpr ⟨D.d8.none, (List.forall_mem_cons.mpr ⟨D.d9.none, (List.forall_mem_cons.mpr ⟨D.d10.none, (List.forall_mem_cons.mpr ⟨D.d11.none, (List.forall_mem_cons.mpr ⟨D.d12.none, (List.forall_mem_cons.mpr ⟨D.d13.none, (List.forall_mem_cons.mpr ⟨D.d14.none, (List.forall_mem_cons.mpr ⟨D.d15.none, (List.forall_mem_cons.mpr ⟨D.d16.none, (List.forall_mem_cons.mpr ⟨D.d17.none, (List.forall_mem_cons.mpr ⟨D.d18.none, (List.forall_mem_cons.mpr ⟨D.d19.none, (List.forall_mem_cons.mpr ⟨D.d20.none, (List.forall_mem_cons.mpr ⟨D.d21.none, (List.forall_mem_cons.mpr ⟨D.d22.none, (List.forall_mem_cons.mpr ⟨D.d23.none, (List.forall_mem_cons.mpr ⟨D.d24.none, (List.forall_mem_cons.mpr ⟨D.d25.none, (List.forall_mem_cons.mpr ⟨D.d26.none, (List.forall_mem_cons.mpr ⟨D.d27.none, (List.forall_mem_cons.mpr ⟨D.d28.none, (List.forall_mem_cons.mpr ⟨D.d29.none, (List.forall_mem_cons.mpr ⟨D.d30.none, (List.forall_mem_cons.mpr ⟨D.d31.none, (List.forall_mem_cons.mpr ⟨D.d32.none, (List.forall_mem_cons.mpr ⟨D.d33.none, (List.forall_mem_cons.mpr ⟨D.d34.none, (List.forall_mem_cons.mpr ⟨D.d35.none, (List.forall_mem_cons.mpr ⟨D.d36.none, (List.forall_mem_cons.mpr ⟨D.d37.none, (List.forall_mem_cons.mpr ⟨D.d38.none, (List.forall_mem_cons.mpr ⟨D.d39.none, (List.forall_mem_cons.mpr ⟨D.d40.none, (List.forall_mem_cons.mpr ⟨D.d41.none, (List.forall_mem_cons.mpr ⟨D.d42.none, (List.forall_mem_cons.mpr ⟨D.d43.none, (List.forall_mem_cons.mpr ⟨D.d44.none, (List.forall_mem_cons.mpr ⟨D.d45.none, (List.forall_mem_cons.mpr ⟨D.d46.none, (List.forall_mem_cons.mpr ⟨D.d47.none, (List.forall_mem_cons.mpr ⟨D.d48.none, (List.forall_mem_cons.mpr ⟨D.d49.none, (List.forall_mem_cons.mpr ⟨D.d50.none, (List.forall_mem_cons.mpr ⟨D.d51.none, (List.forall_mem_cons.mpr ⟨D.d52.none, (List.forall_mem_cons.mpr ⟨D.d53.none, (List.forall_mem_cons.mpr ⟨D.d54.none, (List.forall_mem_cons.mpr ⟨D.d55.none, (List.forall_mem_cons.mpr ⟨D.d56.none, (List.forall_mem_cons.mpr ⟨D.d57.none, (List.forall_mem_cons.mpr ⟨D.d58.none, (List.forall_mem_cons.mpr ⟨D.d59.none, (List.forall_mem_cons.mpr ⟨D.d60.none, (List.forall_mem_cons.mpr ⟨D.d61.none, (List.forall_mem_cons.mpr ⟨D.d62.none, (List.forall_mem_cons.mpr ⟨D.d63.none, (List.forall_mem_cons.mpr ⟨D.d64.none, (fun _ h => nomatch h)⟩)⟩)⟩)⟩)⟩)⟩)⟩)⟩)⟩)⟩)⟩)⟩)⟩)⟩)⟩)⟩)⟩)⟩)⟩)⟩)⟩)⟩)⟩)⟩)⟩)⟩)⟩)⟩)⟩)⟩)⟩)⟩)⟩)⟩)⟩)⟩)⟩)⟩)⟩)⟩)⟩)⟩)⟩)⟩)⟩)⟩)⟩)⟩)⟩)⟩)⟩)⟩)⟩)⟩)⟩)⟩)⟩)⟩)⟩)⟩)⟩)⟩)⟩)⟩)⟩)
  | n + 1 => (List.forall_mem_cons.mpr ⟨D.d0.call fun F => ok_is_number F T (oks T D n), (List.forall_mem_cons.mpr ⟨D.d1.call fun F => ok_is_between F T (oks T D n), (List.forall_mem_cons.mpr ⟨D.d2.call fun F => ok_is_from F T (oks T D n), (List.forall_mem_cons.mpr ⟨D.d3.call fun F => ok_tuple_of F T (oks T D n), (List.forall_mem_cons.mpr ⟨D.d4.call fun F => ok_is_tuple_of F T (oks T D n), (List.forall_mem_cons.mpr ⟨D.d5.call fun F => ok_sure F T (oks T D n), (List.forall_mem_cons.mpr ⟨D.d6.call fun F => ok_is_wide F T (oks T D n), (List.forall_mem_cons.mpr ⟨D.d7.call fun F => ok_sure_wide F T (oks T D n), (List.forall_mem_cons.mpr ⟨D.d8.call fun F => ok_is_exchange F T (oks T D n), (List.forall_mem_cons.mpr ⟨D.d9.call fun F => ok_sure_exchange F T (oks T D n), (List.forall_mem_cons.mpr ⟨D.d10.call fun F => ok_lowest F T (oks T D n), (List.forall_mem_cons.mpr ⟨D.d11.call fun F => ok_is_fraction F T (oks T D n), (List.forall_mem_cons.mpr ⟨D.d12.call fun F => ok_sure_fraction F T (oks T D n), (List.forall_mem_cons.mpr ⟨D.d13.call fun F => ok_plus F T (oks T D n), (List.forall_mem_cons.mpr ⟨D.d14.call fun F => ok_times F T (oks T D n), (List.forall_mem_cons.mpr ⟨D.d15.call fun F => ok_power F T (oks T D n), (List.forall_mem_cons.mpr ⟨D.d16.call fun F => ok_powers_order F T (oks T D n), (List.forall_mem_cons.mpr ⟨D.d17.call fun F => ok_is_powers F T (oks T D n), (List.forall_mem_cons.mpr ⟨D.d18.call fun F => ok_is_term F T (oks T D n), (List.forall_mem_cons.mpr ⟨D.d19.call fun F => ok_is_polynomial F T (oks T D n), (List.forall_mem_cons.mpr ⟨D.d20.call fun F => ok_sure_polynomial F T (oks T D n), (List.forall_mem_cons.mpr ⟨D.d21.call fun F => ok_sure_polynomials F T (oks T D n), (List.forall_mem_cons.mpr ⟨D.d22.call fun F => ok_added_to F T (oks T D n), (List.forall_mem_cons.mpr ⟨D.d23.call fun F => ok_made F T (oks T D n), (List.forall_mem_cons.mpr ⟨D.d24.call fun F => ok_summed F T (oks T D n), (List.forall_mem_cons.mpr ⟨D.d25.call fun F => ok_product F T (oks T D n), (List.forall_mem_cons.mpr ⟨D.d26.call fun F => ok_multiplied F T (oks T D n), (List.forall_mem_cons.mpr ⟨D.d27.call fun F => ok_number F T (oks T D n), (List.forall_mem_cons.mpr ⟨D.d28.call fun F => ok_letter F T (oks T D n), (List.forall_mem_cons.mpr ⟨D.d29.call fun F => ok_number_sum F T (oks T D n), (List.forall_mem_cons.mpr ⟨D.d30.call fun F => ok_letter_sum F T (oks T D n), (List.forall_mem_cons.mpr ⟨D.d31.call fun F => ok_sum_plus F T (oks T D n), (List.forall_mem_cons.mpr ⟨D.d32.call fun F => ok_sum_times F T (oks T D n), (List.forall_mem_cons.mpr ⟨D.d33.call fun F => ok_top_degree F T (oks T D n), (List.forall_mem_cons.mpr ⟨D.d34.call fun F => ok_degree_of F T (oks T D n), (List.forall_mem_cons.mpr ⟨D.d35.call fun F => ok_is_point F T (oks T D n), (List.forall_mem_cons.mpr ⟨D.d36.call fun F => ok_sure_point F T (oks T D n), (List.forall_mem_cons.mpr ⟨D.d37.call fun F => ok_value_of F T (oks T D n), (List.forall_mem_cons.mpr ⟨D.d38.call fun F => ok_value_at F T (oks T D n), (List.forall_mem_cons.mpr ⟨D.d39.call fun F => ok_put_for F T (oks T D n), (List.forall_mem_cons.mpr ⟨D.d40.call fun F => ok_put_in F T (oks T D n), (List.forall_mem_cons.mpr ⟨D.d41.call fun F => ok_lead_powers F T (oks T D n), (List.forall_mem_cons.mpr ⟨D.d42.call fun F => ok_lead F T (oks T D n), (List.forall_mem_cons.mpr ⟨D.d43.call fun F => ok_led F T (oks T D n), (List.forall_mem_cons.mpr ⟨D.d44.call fun F => ok__law_box F T (oks T D n), (List.forall_mem_cons.mpr ⟨D.d45.call fun F => ok__law_take F T (oks T D n), (List.forall_mem_cons.mpr ⟨D.d46.call fun F => ok__law_cells F T (oks T D n), (List.forall_mem_cons.mpr ⟨D.d47.call fun F => ok__law_same F T (oks T D n), (List.forall_mem_cons.mpr ⟨D.d48.call fun F => ok__law_of F T (oks T D n), (List.forall_mem_cons.mpr ⟨D.d49.call fun F => ok__law_pick F T (oks T D n), (List.forall_mem_cons.mpr ⟨D.d50.call fun F => ok__law_low F T (oks T D n), (List.forall_mem_cons.mpr ⟨D.d51.call fun F => ok__law_added F T (oks T D n), (List.forall_mem_cons.mpr ⟨D.d52.call fun F => ok__law_multiplied F T (oks T D n), (List.forall_mem_cons.mpr ⟨D.d53.call fun F => ok__law_share F T (oks T D n), (List.forall_mem_cons.mpr ⟨D.d54.call fun F => ok__law_order F T (oks T D n), (List.forall_mem_cons.mpr ⟨D.d55.call fun F => ok__law_made F T (oks T D n), (List.forall_mem_cons.mpr ⟨D.d56.call fun F => ok__law_put F T (oks T D n), (List.forall_mem_cons.mpr ⟨D.d57.call fun F => ok__law_sum F T (oks T D n), (List.forall_mem_cons.mpr ⟨D.d58.call fun F => ok__law_times F T (oks T D n), (List.forall_mem_cons.mpr ⟨D.d59.call fun F => ok__law_at F T (oks T D n), (List.forall_mem_cons.mpr ⟨D.d60.call fun F => ok__law_sum_drawn F T (oks T D n), (List.forall_mem_cons.mpr ⟨D.d61.call fun F => ok__law_exchange F T (oks T D n), (List.forall_mem_cons.mpr ⟨D.d62.call fun F => ok__law_right F T (oks T D n), (List.forall_mem_cons.mpr ⟨D.d63.call fun F => ok__law_small F T (oks T D n), (List.forall_mem_cons.mpr ⟨D.d64.call fun F => ok_law F T (oks T D n), (fun _ h => nomatch h)⟩)⟩)⟩)⟩)⟩)⟩)⟩)⟩)⟩)⟩)⟩)⟩)⟩)⟩)⟩)⟩)⟩)⟩)⟩)⟩)⟩)⟩)⟩)⟩)⟩)⟩)⟩)⟩)⟩)⟩)⟩)⟩)⟩)⟩)⟩)⟩)⟩)⟩)⟩)⟩)⟩)⟩)⟩)⟩)⟩)⟩)⟩)⟩)⟩)⟩)⟩)⟩)⟩)⟩)⟩)⟩)⟩)⟩)⟩)⟩)⟩)⟩)⟩)⟩)⟩)
/-- what the law comes to -/
def Plain : Prop := ∀ ns : List Int, ns.length ≤ 63 → (∀ z ∈ ns, Builtin.Int.intBits z ≤ 1048576) → ∀ s : Sl, s = .d (scriptD ns) ∨ s = .lk (.lst (ns.map .int)) → ∃ ps, fns 564 (callD fns 40) [s] = some (.v (.bool true), ps)
theorem law_run {l : PySem.W.OpenLaw} {fa : Addr} (T : Tx K mg) (D : Defs K mg) (hfa : mg "law" = some (.ref fa)) (h : Plain) :
    ∃ fd : FuncData, (∀ (s : Shared) (v : Value), BindsTo s fd ⟨[v], []⟩ [("script", v)]) ∧ ∀ base : Heap, K.In base → base.Ns mainGlobals mg → FnOk l.prog w K mg base CX0 (3 * (40 + 1)) fa fd ["script"] (spLaw K) :=
  law_def D.d64 hfa (fun F => ok_law F T (oks T D 40)) h
end
end K22

/-! Q0: running the combinators from left to right: W. -/
namespace MP
open PySem
/-- marks what simp is to leave alone -/
structure Tag {α : Sort u} (a : α) : Type where
/-- it ends, and so -/
def W0 {α : Type} (o : Option α) (Q : α → Prop) : Prop := ∃ a, o = some a ∧ Q a
def W {α : Type} (o : Option α) (Q : α → Prop) (_t : Tag Q := ⟨⟩) : Prop := W0 o Q
theorem W_def {α : Type} {o : Option α} {Q : α → Prop} : W o Q = W0 o Q := rfl
theorem W0_bind {α β : Type} {o : Option α} {f : α → Option β} {Q : β → Prop} : W0 (o.bind f) Q = W0 o (fun a => W0 (f a) Q) := by
  cases o with
  | none => simp [W0]
  | some a => simp [W0]
theorem W0_some {α : Type} {a : α} {Q : α → Prop} : W0 (some a) Q = Q a := by simp [W0]
theorem W0_none {α : Type} {Q : α → Prop} : W0 (none : Option α) Q = False := by simp [W0]
theorem W0_map {α β : Type} {o : Option α} {f : α → β} {Q : β → Prop} : W0 (o.map f) Q = W0 o (fun a => Q (f a)) := by cases o <;> simp [W0]
theorem W0_ite {α : Type} {p : Prop} [Decidable p] {x y : Option α} {Q : α → Prop} : W0 (if p then x else y) Q = if p then W0 x Q else W0 y Q := by split <;> rfl
theorem W0_guard {α : Type} {p : Prop} [Decidable p] {x : Option α} {Q : α → Prop} : W0 (if p then x else none) Q = (p ∧ W0 x Q) := by split <;> simp [*, W0]
theorem W_bind {α β : Type} {o : Option α} {f : α → Option β} {Q : β → Prop} : W (o.bind f) Q = W o (fun a => W (f a) Q) := W0_bind
@[simp] theorem W_some {α : Type} {a : α} {Q : α → Prop} : W (some a) Q = Q a := W0_some
@[simp] theorem W_none {α : Type} {Q : α → Prop} : W (none : Option α) Q = False := W0_none
theorem W_mono {α : Type} {o : Option α} {P Q : α → Prop} (h : W o P) (k : ∀ a, P a → Q a) : W o Q := by
  obtain ⟨a, h1, h2⟩ := h
  exact ⟨a, h1, k a h2⟩
theorem W_eq {α : Type} {o : Option α} {a : α} {Q : α → Prop} (h : o = some a) (k : Q a) : W o Q := ⟨a, h, k⟩
theorem W_get {α : Type} {o : Option α} {a : α} (h : W o fun b => b = a) : o = some a := by
  obtain ⟨b, h1, rfl⟩ := h
  exact h1
@[simp] theorem frz_lst {xs : List PyData} : (Ct.lst xs).frz = .list xs := rfl
/-- a fork of which only the test is looked at -/
def br (b : Bool) (x y : Prop) (_t : Tag x := ⟨⟩) (_u : Tag y := ⟨⟩) : Prop := if b = true then x else y
@[simp] theorem br_true {x y : Prop} : br true x y = x := by simp [br]
@[simp] theorem br_false {x y : Prop} : br false x y = y := by simp [br]
/-- a condition ahead -/
def gp (p x : Prop) (_t : Tag x := ⟨⟩) : Prop := p ∧ x
@[simp] theorem gp_true {x : Prop} : gp True x = x := by simp [gp]
/-- left as it stands -/
def Hd (p : Prop) (_t : Tag p := ⟨⟩) : Prop := p
theorem hd {p : Prop} (h : p) : Hd p := h
theorem gp_mk {p x : Prop} (h : p) (h' : x) : gp p x := ⟨h, h'⟩
def boolO : PyData → Option Bool
  | .bool k => some k
  | _ => none
@[simp] theorem boolO_bool {k : Bool} : boolO (.bool k) = some k := rfl
def intO : PyData → Option Int
  | .int k => some k
  | _ => none
@[simp] theorem intO_int {k : Int} : intO (.int k) = some k := rfl
def rvB : Rv → Option Bool
  | .v (.bool k) => some k
  | _ => none
@[simp] theorem rvB_bool {k : Bool} : rvB (.v (.bool k)) = some k := rfl
def refO : Op → Option Nat
  | .r i => some i
  | _ => none
@[simp] theorem refO_r {i : Nat} : refO (.r i) = some i := rfl
def ownO : Option Sl → Option Ct
  | some (.own c) => some c
  | _ => none
@[simp] theorem ownO_own {c : Ct} : ownO (some (.own c)) = some c := rfl
section
variable {a b : CE} {t : CT} {c d : CS} {e : En} {np i : Nat} {QE : Op × En → Prop} {QT : Bool × En → Prop} {QS : Fl × En → Prop} {QA : List Op × En → Prop} {QF : List PyData × En → Prop}
/-- what a name says -/
def look : En → Nat → Option Op
  | [], _ => none
  | .d x :: _, 0 => some (.v x)
  | .e x :: _, 0 => some (.v x)
  | .own _ :: _, 0 => some (.r 0)
  | .lk _ :: _, 0 => some (.r 0)
  | _ :: _, 0 => none
  | _ :: e, n + 1 => match look e n with
    | some (.r k) => some (.r (k + 1))
    | o => o
theorem cN_eq : cN i e = (match e[i]? with
  | some (.d x) => some (.v x, e)
  | some (.e x) => some (.v x, e)
  | some (.own _) => some (.r i, e)
  | some (.lk _) => some (.r i, e)
  | _ => none) := rfl
@[simp] theorem cK_eq {x : PyData} : cK x e = some (.v x, e) := rfl
@[simp] theorem vw_v {x : PyData} : vw e (.v x) = some x := rfl
@[simp] theorem vw_o {x : Ct} : vw e (.o x) = some x.frz := rfl
theorem vw_r : vw e (.r i) = (match e[i]? with
    | some (.own c) => some c.frz
    | some (.lk c) => some c.frz
    | some (.e x) => some x
    | some (.d x) => some x
    | _ => none) := rfl
theorem vx_r : vx e (.r i) = (match e[i]? with
    | some (.own c) => some c.frz
    | some (.e x) => some x
    | some (.d x) => some x
    | _ => none) := rfl
theorem fz_r : fz e (.r i) = (match e[i]? with
    | some (.own c) => some (c.frz, e.set i (.e c.frz))
    | some (.e x) => some (x, e)
    | some (.d x) => some (x, e)
    | _ => none) := rfl
theorem argSl_r : argSl e (.r i) = (match e[i]? with
    | some (.own c) => some (.own c)
    | some (.lk c) => some (.lk c)
    | some (.e x) => some (.d x)
    | some (.d x) => some (.d x)
    | _ => none) := rfl
theorem stow_r : stow e (.r i) = (match e[i]? with
    | some (.own c) => some (.d c.frz, e.set i (.e c.frz))
    | some (.e x) => some (.d x, e)
    | some (.d x) => some (.d x, e)
    | _ => none) := rfl
theorem retv_r : retv np e (.r i) = (match e[i]? with
    | some (.own c) => if i < np then some (.v c.frz, e.set i (.e c.frz)) else some (.o c, e.set i .no)
    | some (.e x) => some (.v x, e)
    | some (.d x) => some (.v x, e)
    | _ => none) := rfl
@[simp] theorem vx_v {x : PyData} : vx e (.v x) = some x := rfl
@[simp] theorem vx_o {x : Ct} : vx e (.o x) = some x.frz := rfl
@[simp] theorem fz_v {x : PyData} : fz e (.v x) = some (x, e) := rfl
@[simp] theorem fz_o {x : Ct} : fz e (.o x) = some (x.frz, e) := rfl
@[simp ↓] theorem W_c1 {g : PyData → Option Rv} : W (c1 g a e) QE = W (a e) fun p => W (vw p.2 p.1) fun d => W (g d) fun r => QE (r.op, p.2) := by
  simp only [W_def, c1, W0_bind, W0_some]
@[simp ↓] theorem W_c2 {g : PyData → PyData → Option Rv} : W (c2 g a b e) QE = W (a e) fun p => W (b p.2) fun q => W (vw q.2 p.1) fun d => W (vw q.2 q.1) fun d' => W (g d d') fun r => QE (r.op, q.2) := by
  simp only [W_def, c2, W0_bind, W0_some]
@[simp ↓] theorem W_c2x {g : PyData → PyData → Option Rv} : W (c2x g a b e) QE = W (a e) fun p => W (b p.2) fun q => W (vx q.2 p.1) fun d => W (vx q.2 q.1) fun d' => W (g d d') fun r => QE (r.op, q.2) := by
  simp only [W_def, c2x, W0_bind, W0_some]
@[simp] theorem aNil_eq : aNil e = some ([], e) := rfl
@[simp ↓] theorem W_aCons {r : CA} : W (aCons a r e) QA = W (a e) fun p => W (r p.2) fun q => QA (p.1 :: q.1, q.2) := by
  simp only [W_def, aCons, W0_bind, W0_some]
@[simp] theorem fNil_eq : fNil e = some ([], e) := rfl
@[simp ↓] theorem W_fCons {r : En → Option (List PyData × En)} : W (fCons a r e) QF = W (a e) fun p => W (fz p.2 p.1) fun q => W (r q.2) fun s => QF (q.1 :: s.1, s.2) := by
  simp only [W_def, fCons, W0_bind, W0_some]
@[simp ↓] theorem W_cTup {f : En → Option (List PyData × En)} : W (cTup f e) QE = W (f e) fun p => gp (szOk p.1.length = true) (QE (.v (.tuple p.1), p.2)) := by
  simp only [W_def, cTup, W0_bind, W0_guard, W0_some, gp]
@[simp ↓] theorem W_cLst {f : En → Option (List PyData × En)} : W (cLst f e) QE = W (f e) fun p => gp (szOk p.1.length = true) (QE (.o (.lst p.1), p.2)) := by
  simp only [W_def, cLst, W0_bind, W0_guard, W0_some, gp]
@[simp] theorem vws_nil : vws e [] = some [] := rfl
@[simp ↓] theorem W_vws_cons {x : Op} {xs : List Op} {Q : List PyData → Prop} : W (vws e (x :: xs)) Q = W (vw e x) fun d => W (vws e xs) fun ds => Q (d :: ds) := by
  simp only [W_def, vws, W0_bind, W0_some]
@[simp ↓] theorem W_cB {g : List PyData → Option Rv} {f : CA} : W (cB g f e) QE = W (f e) fun p => W (vws p.2 p.1) fun ds => W (g ds) fun r => QE (r.op, p.2) := by
  simp only [W_def, cB, W0_bind, W0_some]
@[simp ↓] theorem W_cIf : W (cIf t a b e) QE = W (t e) fun p => br p.1 (W (a p.2) QE) (W (b p.2) QE) := by
  simp only [W_def, cIf, W0_bind, W0_ite, br]
@[simp ↓] theorem W_cTv : W (cTv t e) QE = W (t e) fun p => QE (.v (.bool p.1), p.2) := by
  simp only [W_def, cTv, W0_bind, W0_some]
@[simp ↓] theorem W_cAndV : W (cAndV a b e) QE = W (a e) fun p => W (vw p.2 p.1) fun d => W (boolO d) fun k => br k (W (b p.2) QE) (QE (.v (.bool false), p.2)) := by
  simp only [W_def, cAndV, W0_bind]
  congr; funext p
  cases vw p.2 p.1 with
  | none => simp only [W_def, W0_none]
  | some d => cases d <;> simp only [W_def, W0_none, W0_some, boolO]; rename_i k; cases k <;> simp [W_def, W0_some, W0_none]
@[simp ↓] theorem W_cOrV : W (cOrV a b e) QE = W (a e) fun p => W (vw p.2 p.1) fun d => W (boolO d) fun k => br k (QE (.v (.bool true), p.2)) (W (b p.2) QE) := by
  simp only [W_def, cOrV, W0_bind]
  congr; funext p
  cases vw p.2 p.1 with
  | none => simp only [W_def, W0_none]
  | some d => cases d <;> simp only [W_def, W0_none, W0_some, boolO]; rename_i k; cases k <;> simp [W_def, W0_some, W0_none]
@[simp ↓] theorem W_cNotV : W (cNotV a e) QE = W (a e) fun p => W (vw p.2 p.1) fun d => W (boolO d) fun k => QE (.v (.bool !k), p.2) := by
  simp only [W_def, cNotV, W0_bind]
  congr; funext p
  cases vw p.2 p.1 with
  | none => simp only [W_def, W0_none]
  | some d => cases d <;> simp only [W_def, W0_none, W0_some, boolO]
@[simp ↓] theorem W_tV : W (tV a e) QT = W (a e) fun p => W (vw p.2 p.1) fun d => W (boolO d) fun k => QT (k, p.2) := by
  simp only [W_def, tV, W0_bind]
  congr; funext p
  cases vw p.2 p.1 with
  | none => simp only [W_def, W0_none]
  | some d => cases d <;> simp only [W_def, W0_none, W0_some, boolO]
@[simp ↓] theorem W_tAnd {u : CT} : W (tAnd t u e) QT = W (t e) fun p => br p.1 (W (u p.2) QT) (QT (false, p.2)) := by
  simp only [W_def, tAnd, W0_bind, W0_ite, W0_some, br]
@[simp ↓] theorem W_tOr {u : CT} : W (tOr t u e) QT = W (t e) fun p => br p.1 (QT (true, p.2)) (W (u p.2) QT) := by
  simp only [W_def, tOr, W0_bind, W0_ite, W0_some, br]
@[simp ↓] theorem W_tNot : W (tNot t e) QT = W (t e) fun p => QT (!p.1, p.2) := by
  simp only [W_def, tNot, W0_bind, W0_some]
@[simp] theorem argSl_v {x : PyData} : argSl e (.v x) = some (.d x) := rfl
@[simp] theorem argSl_o {x : Ct} : argSl e (.o x) = some (.own x) := rfl
@[simp] theorem argSls_nil : argSls e [] = some [] := rfl
@[simp ↓] theorem W_argSls_cons {x : Op} {xs : List Op} {Q : List Sl → Prop} : W (argSls e (x :: xs)) Q = W (argSl e x) fun s => W (argSls e xs) fun r => Q (s :: r) := by
  simp only [W_def, argSls, W0_bind, W0_some]
@[simp] theorem refs_nil : refs [] = [] := rfl
@[simp] theorem refs_v {x : PyData} {xs : List Op} : refs (.v x :: xs) = refs xs := rfl
@[simp] theorem refs_o {x : Ct} {xs : List Op} : refs (.o x :: xs) = refs xs := rfl
@[simp] theorem refs_r {n : Nat} {xs : List Op} : refs (.r n :: xs) = n :: refs xs := rfl
@[simp] theorem putBack_nil : putBack e [] [] = some e := rfl
@[simp] theorem putBack_v {x : PyData} {xs : List Op} {s : Sl} {ss : List Sl} : putBack e (.v x :: xs) (s :: ss) = putBack e xs ss := by rw [putBack]
@[simp] theorem putBack_o {x : Ct} {xs : List Op} {s : Sl} {ss : List Sl} : putBack e (.o x :: xs) (s :: ss) = putBack e xs ss := by rw [putBack]
@[simp] theorem putBack_r {xs : List Op} {s : Sl} {ss : List Sl} : putBack e (.r i :: xs) (s :: ss) = (match e[i]?, s with
    | some (.own _), .own c => putBack (e.set i (.own c)) xs ss
    | some (.own _), .e x => putBack (e.set i (.e x)) xs ss
    | some (.lk _), _ => putBack e xs ss
    | some (.e _), _ => putBack e xs ss
    | some (.d _), _ => putBack e xs ss
    | _, _ => none) := by
  cases h : e[i]? with
  | none => cases s <;> simp [W_def, W0_some, W0_none, putBack, h]
  | some x => cases x <;> cases s <;> simp [W_def, W0_some, W0_none, putBack, h]
@[simp ↓] theorem W_cCall {fn : List Sl → Option (Rv × List Sl)} {f : CA} : W (cCall fn f e) QE = W (f e) fun p => gp (refs p.1).Nodup (W (argSls p.2 p.1) fun ps => W (fn ps) fun r => W (putBack p.2 p.1 r.2) fun e2 => QE (r.1.op, e2)) := by
  simp only [W_def, cCall, W0_bind, W0_guard, W0_some, gp]
@[simp ↓] theorem W_cF : W (cF a e) QE = W (a e) fun p => W (fz p.2 p.1) fun q => QE (.v q.1, q.2) := by
  simp only [W_def, cF, W0_bind, W0_some]
@[simp] theorem sNil_eq : sNil e = some (.nx, e) := rfl
/-- what comes next -/
def nxt (Q : Fl × En → Prop) (d : CS) (p : Fl × En) : Prop := match p.1 with
  | .nx => W (d p.2) Q
  | f => Q (f, p.2)
@[simp ↓] theorem nxt_nx : nxt QS d (.nx, e) = W (d e) QS := rfl
@[simp ↓] theorem nxt_bk : nxt QS d (.bk, e) = QS (.bk, e) := rfl
@[simp ↓] theorem nxt_ct : nxt QS d (.ct, e) = QS (.ct, e) := rfl
@[simp ↓] theorem nxt_rt {r : Rv} : nxt QS d (.rt r, e) = QS (.rt r, e) := rfl
@[simp ↓] theorem W_sSeq : W (sSeq c d e) QS = W (c e) (nxt QS d) := by
  simp only [W_def, sSeq, W0_bind]
  congr; funext ⟨f, e1⟩
  cases f <;> simp [W_def, W0_some, W0_none, nxt]
@[simp ↓] theorem W_sIf : W (sIf t c d e) QS = W (t e) fun p => br p.1 (W (c p.2) QS) (W (d p.2) QS) := by
  simp only [W_def, sIf, W0_bind, W0_ite, br]
@[simp ↓] theorem W_sSet : W (sSet np i a e) QS = W (a e) fun p => W (stow p.2 p.1) fun q => gp (free np q.2 i = true) (QS (.nx, q.2.set i q.1)) := by
  simp only [W_def, sSet, W0_bind, W0_guard, W0_some, gp]
@[simp] theorem stow_v {x : PyData} : stow e (.v x) = some (.d x, e) := rfl
@[simp] theorem stow_o {x : Ct} : stow e (.o x) = some (.own x, e) := rfl
@[simp ↓] theorem W_sExp : W (sExp a e) QS = W (a e) fun p => QS (.nx, p.2) := by
  simp only [W_def, sExp, W0_bind, W0_some]
@[simp] theorem retv_v {x : PyData} : retv np e (.v x) = some (.v x, e) := rfl
@[simp] theorem retv_o {x : Ct} : retv np e (.o x) = some (.o x, e) := rfl
@[simp ↓] theorem W_sRet : W (sRet np a e) QS = W (a e) fun p => W (retv np p.2 p.1) fun q => QS (.rt q.1, q.2) := by
  simp only [W_def, sRet, W0_bind, W0_some]
@[simp] theorem sRetN_eq : sRetN e = some (.rt (.v .none), e) := rfl
@[simp] theorem rvop_v {x : PyData} : Rv.op (.v x) = .v x := rfl
@[simp] theorem rvop_o {x : Ct} : Rv.op (.o x) = .o x := rfl
@[simp ↓] theorem W_cCh {g g' : PyData → PyData → Option Rv} {f : CE} : W (cCh g g' a b f e) QE = W (a e) fun p => W (b p.2) fun q => W (vw q.2 p.1) fun d => W (vw q.2 q.1) fun d' => W (g d d') fun r => W (rvB r) fun k => br k (W (f q.2) fun s => W (vw s.2 q.1) fun d1 => W (vw s.2 s.1) fun d2 => W (g' d1 d2) fun r => QE (r.op, s.2)) (QE (.v (.bool false), q.2)) := by
  simp only [W_def, cCh, W0_bind]
  congr; funext p; congr; funext q; congr; funext d; congr; funext d'
  rcases g d d' with _ | (x | x)
  · simp [W_def, W0_some, W0_none]
  · cases x <;> simp [W_def, W0_some, W0_none, rvB]
    rename_i k
    cases k <;> simp [W_def, W0_some, W0_none, W0_bind]
  · simp [W_def, W0_some, W0_none, rvB]
@[simp ↓] theorem W_cSl {lo hi : CP} : W (cSl a lo hi e) QE = W (a e) fun p => W (lo p.2) fun l => W (hi l.2) fun u => W (vw u.2 p.1) fun d => W (gSl l.1 u.1 d) fun r => QE (r.op, u.2) := by
  simp only [W_def, cSl, W0_bind, W0_some]
@[simp] theorem pNo_eq : pNo e = some (none, e) := rfl
@[simp ↓] theorem W_pAt {Q : Option Int × En → Prop} : W (pAt a e) Q = W (a e) fun p => W (vw p.2 p.1) fun d => W (intO d) fun i => Q (some i, p.2) := by
  simp only [W_def, pAt, W0_bind]
  congr; funext p
  cases vw p.2 p.1 with
  | none => simp [W_def, W0_some, W0_none]
  | some d => cases d <;> simp [W_def, W0_some, W0_none, intO]
@[simp] theorem outs_nil {e : En} : outs [] e = [] := by cases e <;> rfl
@[simp] theorem outs_d {x : PyData} {ps : List Sl} {s : Sl} {e : En} : outs (.d x :: ps) (s :: e) = .no :: outs ps e := by cases s <;> rfl
@[simp] theorem outs_oo {x y : Ct} {ps : List Sl} {e : En} : outs (.own x :: ps) (.own y :: e) = .own y :: outs ps e := rfl
@[simp] theorem outs_oe {x : Ct} {y : PyData} {ps : List Sl} {e : En} : outs (.own x :: ps) (.e y :: e) = .e y :: outs ps e := rfl
@[simp] theorem outs_lk {x : Ct} {ps : List Sl} {s : Sl} {e : En} : outs (.lk x :: ps) (s :: e) = .no :: outs ps e := by cases s <;> rfl
@[simp ↓] theorem W_gN {x : PyData} {Q : En → Prop} : W (gN np i x e) Q = gp (free np e i = true) (Q (e.set i (.d x))) := by
  simp only [W_def, gN, W0_guard, W0_some, gp]
@[simp ↓] theorem W_gT1 {g1 : CG} {x : PyData} {Q : En → Prop} : W (gT [g1] (.tuple [x]) e) Q = W (g1 x e) Q := by
  simp [W_def, W0_some, W0_none, gT]
@[simp ↓] theorem W_gT2 {g1 g2 : CG} {x y : PyData} {Q : En → Prop} : W (gT [g1, g2] (.tuple [x, y]) e) Q = W (g1 x e) fun e1 => W (g2 y e1) Q := by
  simp [W_def, W0_some, W0_none, gT, W0_bind]
@[simp ↓] theorem W_gT3 {g1 g2 g3 : CG} {x y z : PyData} {Q : En → Prop} : W (gT [g1, g2, g3] (.tuple [x, y, z]) e) Q = W (g1 x e) fun e1 => W (g2 y e1) fun e2 => W (g3 z e2) Q := by
  simp [W_def, W0_some, W0_none, gT, W0_bind]
@[simp ↓] theorem W_sAsg {g : CG} : W (sAsg g a e) QS = W (a e) fun p => W (fz p.2 p.1) fun q => W (g q.1 q.2) fun e3 => QS (.nx, e3) := by
  simp only [W_def, sAsg, W0_bind, W0_some]
@[simp] theorem cNewD_eq : cNewD e = some (.o (.dct []), e) := rfl
@[simp ↓] theorem W_cMt {g : Ct → List PyData → Option (PyData × Ct)} {f : En → Option (List PyData × En)} : W (cMt g a f e) QE = W (a e) fun p => W (refO p.1) fun i => gp (isLst p.2[i]? = true) (W (f p.2) fun q => W (ownO q.2[i]?) fun c => W (g c q.1) fun s => QE (.v s.1, q.2.set i (.own s.2))) := by
  simp only [W_def, cMt, W0_bind]
  congr; funext ⟨x, e1⟩
  cases x with
  | v x => simp [W_def, W0_some, W0_none, refO]
  | o x => simp [W_def, W0_some, W0_none, refO]
  | r i =>
    simp only [W_def, W0_guard, W0_bind, refO_r, W0_some, gp, eq_iff_iff, and_congr_right_iff]
    intro _
    apply iff_of_eq
    congr; funext ⟨ds, e2⟩
    simp only
    cases h : e2[i]? with
    | none => simp [W_def, W0_some, W0_none, ownO]
    | some s => cases s <;> simp [W_def, W0_some, W0_none, W0_bind, W0_map, ownO]
@[simp ↓] theorem W_sPar {is : List Nat} {f : CA} : W (sPar np is f e) QS = W (f e) fun p => W (stows p.2 p.1) fun q => W (puts np is q.1 q.2) fun e3 => QS (.nx, e3) := by
  simp only [W_def, sPar, W0_bind, W0_some]
@[simp] theorem stows_nil : stows e [] = some ([], e) := rfl
@[simp ↓] theorem W_stows_cons {x : Op} {xs : List Op} {Q : List Sl × En → Prop} : W (stows e (x :: xs)) Q = W (stow e x) fun p => W (stows p.2 xs) fun q => Q (p.1 :: q.1, q.2) := by
  simp only [W_def, stows, W0_bind, W0_some]
@[simp] theorem puts_nil : puts np [] [] e = some e := rfl
@[simp ↓] theorem W_puts_cons {is : List Nat} {s : Sl} {ss : List Sl} {Q : En → Prop} : W (puts np (i :: is) (s :: ss) e) Q = gp (free np e i = true) (W (puts np is ss (e.set i s)) Q) := by
  simp only [W_def, puts, W0_guard, gp]
@[simp ↓] theorem W_gSubC {set : Ct → PyData → PyData → Option Ct} {x : PyData} {Q : En → Prop} : W (gSubC set a b x e) Q = W (a e) fun p => W (b p.2) fun q => W (vw q.2 q.1) fun kd => W (refO p.1) fun i => W (ownO q.2[i]?) fun c => W (set c kd x) fun c' => Q (q.2.set i (.own c')) := by
  simp only [W_def, gSubC, W0_bind]
  congr; funext ⟨op, e1⟩; congr; funext ⟨k, e2⟩; congr; funext kd
  cases op with
  | v x => simp [W_def, W0_some, W0_none, refO]
  | o x => simp [W_def, W0_some, W0_none, refO]
  | r i =>
    simp only [W_def, refO_r, W0_some]
    cases h : e2[i]? with
    | none => simp [W_def, W0_some, W0_none, ownO]
    | some s => cases s <;> simp [W_def, W0_some, W0_none, W0_bind, W0_map, ownO]
def dctO : Option Sl → Option Kv
  | some (.own (.dct c)) => some c
  | _ => none
@[simp] theorem dctO_own {c : Kv} : dctO (some (.own (.dct c))) = some c := rfl
@[simp ↓] theorem W_sDel : W (sDel a b e) QS = W (a e) fun p => W (b p.2) fun q => W (vw q.2 q.1) fun kd => W (refO p.1) fun i => W (dctO q.2[i]?) fun kvs => W (intK kd) fun k => gp ((dFind kvs k).isSome = true) (QS (.nx, q.2.set i (.own (.dct (dDel kvs k))))) := by
  simp only [W_def, sDel, W0_bind]
  congr; funext ⟨op, e1⟩; congr; funext ⟨k, e2⟩; congr; funext kd
  cases op with
  | v x => simp [W_def, W0_some, W0_none, refO]
  | o x => simp [W_def, W0_some, W0_none, refO]
  | r i =>
    simp only [W_def, refO_r, W0_some]
    cases h : e2[i]? with
    | none => simp [W_def, W0_some, W0_none, dctO]
    | some s =>
      cases s with
      | own c => cases c <;> simp [W_def, W0_some, W0_none, W0_bind, W0_guard, dctO, gp]
      | _ => simp [W_def, W0_some, W0_none, dctO]
@[simp] theorem gLe_int {i j : Int} : gLe (.int i) (.int j) = some (.v (.bool (decide (i ≤ j)))) := by rfl
@[simp] theorem gLt_int {i j : Int} : gLt (.int i) (.int j) = some (.v (.bool (decide (i < j)))) := by rfl
@[simp] theorem gGe_int {i j : Int} : gGe (.int i) (.int j) = some (.v (.bool (decide (j ≤ i)))) := by rfl
@[simp] theorem gGt_int {i j : Int} : gGt (.int i) (.int j) = some (.v (.bool (decide (j < i)))) := by rfl
@[simp] theorem gAdd_int {i j : Int} : gAdd (.int i) (.int j) = some (.v (.int (i + j))) := by rfl
@[simp] theorem gSub_int {i j : Int} : gSub (.int i) (.int j) = some (.v (.int (i - j))) := by rfl
@[simp] theorem gNeg_int {i : Int} : gNeg (.int i) = some (.v (.int (-i))) := by rfl
@[simp] theorem gEq_int {i j : Int} : gEq (.int i) (.int j) = some (.v (.bool (decide (i = j)))) := by rfl
@[simp] theorem gNe_int {i j : Int} : gNe (.int i) (.int j) = some (.v (.bool (decide (i ≠ j)))) := by rfl
@[simp] theorem never_eq {e : En} : (fun _ => none : CS) e = none := rfl
/-- what a def hands back -/
def done (Q : Rv × List Sl → Prop) (ps : List Sl) (p : Fl × En) : Prop := match p.1 with
  | .rt r => Q (r, outs ps p.2)
  | .nx => Q (.v .none, outs ps p.2)
  | _ => False
@[simp ↓] theorem done_rt {Q : Rv × List Sl → Prop} {ps : List Sl} {r : Rv} : done Q ps (.rt r, e) = Q (r, outs ps e) := rfl
@[simp ↓] theorem done_nx {Q : Rv × List Sl → Prop} {ps : List Sl} : done Q ps (.nx, e) = Q (.v .none, outs ps e) := rfl
end
theorem mkFn_go {np ns : Nat} {body : CS} {ps : List Sl} {Q : Rv × List Sl → Prop} (h : ps.length = np) (k : W (body (ps ++ List.replicate (ns - np) .no)) (done Q ps)) : W (mkFn np ns body ps) Q := by
  unfold mkFn
  rw [if_pos h, W_bind]
  refine W_mono k fun p hp => ?_
  obtain ⟨f, e⟩ := p
  cases f with
  | nx => exact ⟨_, rfl, hp⟩
  | rt r => exact ⟨_, rfl, hp⟩
  | bk => exact hp.elim
  | ct => exact hp.elim
theorem callD_succ {fns : Nat → Orc → List Sl → Option (Rv × List Sl)} {n : Nat} {i : Nat} {ps : List Sl} (h : 1 ≤ n) : callD fns n i ps = fns i (callD fns (n - 1)) ps := by
  obtain ⟨m, rfl⟩ : ∃ m, n = m + 1 := ⟨n - 1, by omega⟩
  rfl
/-! loops -/
theorem forL_W {β : Type} {step : PyData → CS} {enc : β → PyData} {I : List β → En → Prop} {Q : Fl × En → Prop} (all : List β) :
    ∀ (ys done : List β) (e : En), all = done ++ ys → I done e →
      (∀ done y rest e, all = done ++ y :: rest → I done e → W (step (enc y) e) fun p => ((p.1 = .nx ∨ p.1 = .ct) ∧ I (done ++ [y]) p.2) ∨ (p.1 = .bk ∧ Q (.nx, p.2)) ∨ (∃ r, p.1 = .rt r ∧ Q p)) →
      (∀ e, I all e → Q (.nx, e)) → W (forL step (ys.map enc) e) Q
  | [], done, e, h, hi, _, hq => by
    rw [List.append_nil] at h
    subst h
    exact ⟨_, rfl, hq e hi⟩
  | y :: ys, done, e, h, hi, hs, hq => by
    obtain ⟨⟨f, e1⟩, h1, h2⟩ := hs done y ys e h hi
    simp only [List.map_cons, forL, h1, Option.bind_some]
    rcases h2 with ⟨h2, h3⟩ | ⟨h2, h3⟩ | ⟨r, h2, h3⟩
    · have := forL_W all ys (done ++ [y]) e1 (by simp [h]) h3 hs hq
      simp only at h2
      rcases h2 with rfl | rfl <;> exact this
    · simp only at h2
      subst h2
      exact ⟨_, rfl, h3⟩
    · simp only at h2
      subst h2
      exact ⟨_, rfl, h3⟩
/-- a for loop; I tells of what is done -/
theorem W_for {β : Type} {ci : CI} {g : CG} {body : CS} {e e1 : En} {Q : Fl × En → Prop} {wk : List Nat} {enc : β → PyData} (ys : List β) (I : List β → En → Prop)
    (hc : ci e = some (ys.map enc, wk, e1)) (h0 : I [] (lock wk e1))
    (hs : ∀ done y rest e, ys = done ++ y :: rest → I done e → W (g (enc y) e) fun e' => W (body e') fun p => ((p.1 = .nx ∨ p.1 = .ct) ∧ Hd (I (done ++ [y]) p.2)) ∨ (p.1 = .bk ∧ Q (.nx, unlock wk p.2)) ∨ (∃ r, p.1 = .rt r ∧ Q (p.1, unlock wk p.2)))
    (hq : ∀ e, I ys e → Q (.nx, unlock wk e)) : W (sFor ci g body e) Q := by
  unfold sFor
  rw [hc]
  simp only [Option.bind_some]
  rw [W_bind]
  refine forL_W (I := I) ys ys [] _ rfl h0 (fun done y rest e h hi => ?_) (fun e hi => ⟨_, rfl, hq e hi⟩)
  rw [W_bind]
  refine W_mono (hs done y rest e h hi) fun e' h' => W_mono h' fun p hp => ?_
  rcases hp with hp | ⟨hp, hq⟩ | ⟨r, hp, hq⟩
  · exact .inl hp
  · exact .inr (.inl ⟨hp, ⟨_, rfl, hq⟩⟩)
  · exact .inr (.inr ⟨r, hp, ⟨_, rfl, hq⟩⟩)
/-- one whose turns all go on -/
theorem W_forN {β : Type} {ci : CI} {g : CG} {body : CS} {e e1 : En} {Q : Fl × En → Prop} {wk : List Nat} {enc : β → PyData} (ys : List β) (I : List β → En → Prop)
    (hc : ci e = some (ys.map enc, wk, e1)) (h0 : I [] (lock wk e1))
    (hs : ∀ done y rest e, ys = done ++ y :: rest → I done e → W (g (enc y) e) fun e' => W (body e') fun p => (p.1 = .nx ∨ p.1 = .ct) ∧ Hd (I (done ++ [y]) p.2))
    (hq : ∀ e, I ys e → Q (.nx, unlock wk e)) : W (sFor ci g body e) Q :=
  W_for ys I hc h0 (fun done y rest e h hi => W_mono (hs done y rest e h hi) fun e' h' => W_mono h' fun p hp => .inl hp) hq
/-- a while loop by a measure -/
theorem W_while {n : Nat} {t : CT} {body : CS} {e : En} {Q : Fl × En → Prop} (m : En → Nat) (P : En → Prop) (hm : m e < n) (hp : P e)
    (hs : ∀ e, P e → W (t e) fun p => (p.1 = false ∧ Q (.nx, p.2)) ∨ (p.1 = true ∧ W (body p.2) fun q => (q.1 = .nx ∨ q.1 = .ct) ∧ P q.2 ∧ m q.2 < m e)) : W (sWhile n t body e) Q := by
  unfold sWhile
  induction n generalizing e with
  | zero => omega
  | succ n ih =>
    obtain ⟨⟨k, e1⟩, h1, h2⟩ := hs e hp
    rcases h2 with ⟨h2, h3⟩ | ⟨h2, h3⟩
    · simp only at h2
      subst h2
      exact ⟨(.nx, e1), by simp [whileL, h1], h3⟩
    · simp only at h2
      subst h2
      obtain ⟨⟨f, e2⟩, q1, q2, q3, q4⟩ := h3
      obtain ⟨r, r1, r2⟩ := ih (e := e2) (by simp only at q4; omega) q3
      refine ⟨r, ?_, r2⟩
      simp only at q1 q2
      rcases q2 with rfl | rfl <;> simp [whileL, h1, q1, r1]
/-! comprehensions -/
theorem lcL_W {β γ : Type} {vs : List Nat} {g : CG} {t : CT} {a : CE} {enc : β → PyData} {enc' : γ → PyData} {I : List β → List γ → En → Prop} {Q : List PyData × En → Prop} (all : List β) :
    ∀ (ys done : List β) (acc : List γ) (e : En), all = done ++ ys → I done acc e → acc.length + ys.length ≤ 16777216 →
      (∀ done y rest acc e, all = done ++ y :: rest → I done acc e → W (g (enc y) e) fun e1 => W (t e1) fun p =>
        (p.1 = false ∧ Hd (I (done ++ [y]) acc (wipeE vs p.2))) ∨ (p.1 = true ∧ W (a p.2) fun q => W (fz q.2 q.1) fun r => Hd (∃ z, r.1 = enc' z ∧ I (done ++ [y]) (acc ++ [z]) (wipeE vs r.2)))) →
      (∀ acc e, I all acc e → Q (acc.map enc', e)) → W (lcL vs g t a (ys.map enc) (acc.map enc') e) Q
  | [], done, acc, e, h, hi, _, _, hq => by
    rw [List.append_nil] at h
    subst h
    exact ⟨_, rfl, hq acc e hi⟩
  | y :: ys, done, acc, e, h, hi, hl, hs, hq => by
    rw [List.length_cons] at hl
    obtain ⟨e1, h1, ⟨k, e2⟩, h2, h3⟩ := hs done y ys acc e h hi
    simp only [List.map_cons, lcL, h1, h2, Option.bind_some]
    rcases h3 with ⟨h3, h4⟩ | ⟨h3, ⟨op, e3⟩, h4, ⟨d, e4⟩, h5, z, h6, h7⟩
    · simp only at h3
      subst h3
      exact lcL_W all ys (done ++ [y]) acc _ (by simp [h]) h4 (by omega) hs hq
    · simp only at h3 h5 h6 h7
      subst h3 h6
      have hlt : (acc.map enc').length < 16777216 := by rw [List.length_map]; omega
      have := lcL_W (g := g) (t := t) (a := a) (enc := enc) (enc' := enc') all ys (done ++ [y]) (acc ++ [z]) _ (by simp [h]) h7 (by simp; omega) hs hq
      simp only [List.map_append, List.map_cons, List.map_nil] at this
      simp only [h4, h5, Option.bind_some, if_true, if_pos hlt]
      exact this
/-- a comprehension; I tells of what is done and what was made of it -/
theorem W_lc {β γ : Type} {vs : List Nat} {ci : CI} {g : CG} {t : CT} {a : CE} {e e1 : En} {Q : Op × En → Prop} {wk : List Nat} {enc : β → PyData} {enc' : γ → PyData} (ys : List β) (I : List β → List γ → En → Prop)
    (hc : ci e = some (ys.map enc, wk, e1)) (hv : vsOk e1 vs = true) (h0 : I [] [] (wipeE vs (lock wk e1))) (hl : ys.length ≤ 16777216)
    (hs : ∀ done y rest acc e, ys = done ++ y :: rest → I done acc e → W (g (enc y) e) fun e1 => W (t e1) fun p =>
        (p.1 = false ∧ Hd (I (done ++ [y]) acc (wipeE vs p.2))) ∨ (p.1 = true ∧ W (a p.2) fun q => W (fz q.2 q.1) fun r => Hd (∃ z, r.1 = enc' z ∧ I (done ++ [y]) (acc ++ [z]) (wipeE vs r.2))))
    (hq : ∀ acc e, I ys acc e → Q (.o (.lst (acc.map enc')), unlock wk (back vs e1 e))) : W (cLc vs ci g t a e) Q := by
  unfold cLc
  rw [hc]
  simp only [Option.bind_some, hv, if_true]
  rw [W_bind]
  exact lcL_W (I := I) (Q := _) ys ys [] [] _ rfl h0 (by simpa using hl) hs (fun acc e hi => ⟨_, rfl, hq acc e hi⟩)
/-- one that changes nothing, each item by itself -/
theorem W_lcP {β γ : Type} {vs : List Nat} {ci : CI} {g : CG} {t : CT} {a : CE} {e e1 : En} {Q : Op × En → Prop} {wk : List Nat} {enc : β → PyData} {enc' : γ → PyData} (ys : List β) (p : β → Bool) (f : β → γ)
    (hc : ci e = some (ys.map enc, wk, e1)) (hv : vsOk e1 vs = true) (hl : ys.length ≤ 16777216)
    (hs : ∀ y ∈ ys, W (g (enc y) (wipeE vs (lock wk e1))) fun e2 => W (t e2) fun b => b.1 = p y ∧ (p y = false → wipeE vs b.2 = wipeE vs (lock wk e1)) ∧ (p y = true → W (a b.2) fun q => W (fz q.2 q.1) fun r => r.1 = enc' (f y) ∧ wipeE vs r.2 = wipeE vs (lock wk e1)))
    (hq : Q (.o (.lst (((ys.filter p).map f).map enc')), unlock wk (back vs e1 (wipeE vs (lock wk e1))))) : W (cLc vs ci g t a e) Q := by
  refine W_lc (enc' := enc') ys (fun done acc e => acc = (done.filter p).map f ∧ e = wipeE vs (lock wk e1)) hc hv ⟨rfl, rfl⟩ hl (fun done y rest acc e h hi => ?_) (fun acc e hi => by rw [hi.1, hi.2]; exact hq)
  obtain ⟨rfl, rfl⟩ := hi
  have hy : y ∈ ys := by rw [h]; simp
  refine W_mono (hs y hy) fun e2 h2 => W_mono h2 fun b hb => ?_
  obtain ⟨b1, b2, b3⟩ := hb
  cases hp : p y with
  | false => exact .inl ⟨b1.trans hp, by simp [hp], b2 hp⟩
  | true => exact .inr ⟨b1.trans hp, W_mono (b3 hp) fun q hq => W_mono hq fun r hr => ⟨f y, hr.1, by simp [hp], hr.2⟩⟩
/-- the same without a test -/
theorem W_lcM {β γ : Type} {vs : List Nat} {ci : CI} {g : CG} {a : CE} {e e1 : En} {Q : Op × En → Prop} {wk : List Nat} {enc : β → PyData} {enc' : γ → PyData} (ys : List β) (f : β → γ)
    (hc : ci e = some (ys.map enc, wk, e1)) (hv : vsOk e1 vs = true) (hl : ys.length ≤ 16777216)
    (hs : ∀ y ∈ ys, W (g (enc y) (wipeE vs (lock wk e1))) fun e2 => W (a e2) fun q => W (fz q.2 q.1) fun r => r.1 = enc' (f y) ∧ wipeE vs r.2 = wipeE vs (lock wk e1))
    (hq : Q (.o (.lst ((ys.map f).map enc')), unlock wk (back vs e1 (wipeE vs (lock wk e1))))) : W (cLc vs ci g tYesT a e) Q := by
  refine W_lcP (enc' := enc') ys (fun _ => true) f hc hv hl (fun y hy => W_mono (hs y hy) fun e2 h2 => ⟨_, rfl, rfl, fun h => (nomatch h), fun _ => h2⟩) ?_
  rwa [List.filter_eq_self.mpr (fun _ _ => rfl)]
end MP

namespace MP
class Kit (fns : Nat → Orc → List Sl → Option (Rv × List Sl)) : Prop where
  is_number : ∀ c, fns 0 c = mkFn 1 1 (b_is_number c)
  is_between : ∀ c, fns 1 c = mkFn 3 3 (b_is_between c)
  is_from : ∀ c, fns 2 c = mkFn 2 2 (b_is_from c)
  tuple_of : ∀ c, fns 3 c = mkFn 1 2 (b_tuple_of c)
  is_tuple_of : ∀ c, fns 4 c = mkFn 2 2 (b_is_tuple_of c)
  sure : ∀ c, fns 5 c = mkFn 1 1 (b_sure c)
  is_wide : ∀ c, fns 6 c = mkFn 1 1 (b_is_wide c)
  sure_wide : ∀ c, fns 7 c = mkFn 1 1 (b_sure_wide c)
  lowest : ∀ c, fns 8 c = mkFn 2 3 (b_lowest c)
  is_fraction : ∀ c, fns 9 c = mkFn 1 2 (b_is_fraction c)
  sure_fraction : ∀ c, fns 10 c = mkFn 1 2 (b_sure_fraction c)
  plus : ∀ c, fns 11 c = mkFn 2 2 (b_plus c)
  times : ∀ c, fns 12 c = mkFn 2 2 (b_times c)
  power : ∀ c, fns 14 c = mkFn 2 4 (b_power c)
  powers_order : ∀ c, fns 18 c = mkFn 1 2 (b_powers_order c)
  is_powers : ∀ c, fns 19 c = mkFn 2 3 (b_is_powers c)
  is_term : ∀ c, fns 21 c = mkFn 2 2 (b_is_term c)
  is_polynomial : ∀ c, fns 22 c = mkFn 2 5 (b_is_polynomial c)
  sure_polynomial : ∀ c, fns 23 c = mkFn 2 3 (b_sure_polynomial c)
  added_to : ∀ c, fns 24 c = mkFn 3 4 (b_added_to c)
  made : ∀ c, fns 25 c = mkFn 1 2 (b_made c)
  summed : ∀ c, fns 26 c = mkFn 1 5 (b_summed c)
  product : ∀ c, fns 28 c = mkFn 2 9 (b_product c)
  multiplied : ∀ c, fns 29 c = mkFn 2 4 (b_multiplied c)
  number : ∀ c, fns 30 c = mkFn 2 2 (b_number c)
  sum_plus : ∀ c, fns 31 c = mkFn 3 3 (b_sum_plus c)
  sum_times : ∀ c, fns 33 c = mkFn 3 5 (b_sum_times c)
  top_degree : ∀ c, fns 36 c = mkFn 1 1 (b_top_degree c)
  degree_of : ∀ c, fns 37 c = mkFn 2 2 (b_degree_of c)
  is_point : ∀ c, fns 42 c = mkFn 2 3 (b_is_point c)
  sure_point : ∀ c, fns 43 c = mkFn 2 3 (b_sure_point c)
  value_of : ∀ c, fns 44 c = mkFn 2 7 (b_value_of c)
  value_at : ∀ c, fns 45 c = mkFn 3 3 (b_value_at c)
  _law_take : ∀ c, fns 47 c = mkFn 2 6 (b__law_take c)
  _law_cells : ∀ c, fns 48 c = mkFn 2 6 (b__law_cells c)
  _law_same : ∀ c, fns 49 c = mkFn 2 4 (b__law_same c)
  _law_of : ∀ c, fns 50 c = mkFn 2 2 (b__law_of c)
  _law_pick : ∀ c, fns 51 c = mkFn 3 6 (b__law_pick c)
  _law_low : ∀ c, fns 52 c = mkFn 2 5 (b__law_low c)
  _law_added : ∀ c, fns 53 c = mkFn 2 2 (b__law_added c)
  _law_multiplied : ∀ c, fns 54 c = mkFn 2 2 (b__law_multiplied c)
  _law_share : ∀ c, fns 55 c = mkFn 2 5 (b__law_share c)
  _law_order : ∀ c, fns 56 c = mkFn 1 2 (b__law_order c)
  _law_made : ∀ c, fns 57 c = mkFn 1 3 (b__law_made c)
  _law_put : ∀ c, fns 58 c = mkFn 3 3 (b__law_put c)
  _law_sum : ∀ c, fns 59 c = mkFn 1 5 (b__law_sum c)
  _law_times : ∀ c, fns 60 c = mkFn 2 9 (b__law_times c)
  _law_at : ∀ c, fns 62 c = mkFn 2 8 (b__law_at c)
  _law_sum_drawn : ∀ c, fns 63 c = mkFn 4 11 (b__law_sum_drawn c)
  is_exchange : ∀ c, fns 69 c = mkFn 2 3 (b_is_exchange c)
  sure_exchange : ∀ c, fns 70 c = mkFn 2 3 (b_sure_exchange c)
  lead_powers : ∀ c, fns 76 c = mkFn 2 5 (b_lead_powers c)
  lead : ∀ c, fns 77 c = mkFn 2 5 (b_lead c)
  led : ∀ c, fns 78 c = mkFn 3 4 (b_led c)
  _law_exchange : ∀ c, fns 98 c = mkFn 2 2 (b__law_exchange c)
  letter : ∀ c, fns 108 c = mkFn 2 3 (b_letter c)
  put_for : ∀ c, fns 109 c = mkFn 3 10 (b_put_for c)
  sure_polynomials : ∀ c, fns 227 c = mkFn 2 4 (b_sure_polynomials c)
  number_sum : ∀ c, fns 494 c = mkFn 2 2 (b_number_sum c)
  letter_sum : ∀ c, fns 495 c = mkFn 2 2 (b_letter_sum c)
  put_in : ∀ c, fns 496 c = mkFn 4 6 (b_put_in c)
  _law_box_23 : ∀ c, fns 497 c = mkFn 2 3 (b__law_box_23 c)
  _law_right_23 : ∀ c, fns 498 c = mkFn 1 23 (b__law_right_23 c)
  _law_small : ∀ c, fns 499 c = mkFn 1 3 (b__law_small c)
  law_23 : ∀ c, fns 564 c = mkFn 1 1 (b_law_23 c)
end MP

/-! M1: polynomials as lists of terms: plain mathematics. -/
namespace MP
open PySem
abbrev Ex := List Nat
abbrev Pl := List (Ex × Rat)
/-- a sum of what terms come to -/
def lin (φ : Ex → Rat) : Pl → Rat
  | [] => 0
  | c :: t => c.2 * φ c.1 + lin φ t
def mono : List Rat → Ex → Rat
  | x :: xs, k :: p => x ^ k * mono xs p
  | _, _ => 1
def ev (t : Pl) (x : List Rat) : Rat := lin (mono x) t
def cf (t : Pl) (p : Ex) : Rat := lin (fun q => if q = p then 1 else 0) t
def nrm : Pl → Rat
  | [] => 0
  | c :: t => c.2.abs + nrm t
section
variable {φ : Ex → Rat} {t s : Pl} {p q : Ex} {c : Rat}
@[simp] theorem lin_nil : lin φ [] = 0 := rfl
@[simp] theorem lin_cons {c : Ex × Rat} : lin φ (c :: t) = c.2 * φ c.1 + lin φ t := rfl
theorem lin_append : lin φ (t ++ s) = lin φ t + lin φ s := by
  induction t with
  | nil => simp; grind
  | cons c t ih => simp only [List.cons_append, lin_cons, ih]; grind
theorem lin_perm (h : t.Perm s) : lin φ t = lin φ s := by
  induction h with
  | nil => rfl
  | cons c _ ih => simp only [lin_cons, ih]
  | swap c d t => simp only [lin_cons]; grind
  | trans _ _ h1 h2 => exact h1.trans h2
theorem lin_filter (f : Ex → Bool) : lin φ t = lin φ (t.filter fun c => f c.1) + lin φ (t.filter fun c => !f c.1) := by
  induction t with
  | nil => simp; grind
  | cons c t ih =>
    simp only [lin_cons, List.filter_cons]
    cases f c.1 <;> simp [ih] <;> grind
theorem nrm_append : nrm (t ++ s) = nrm t + nrm s := by
  induction t with
  | nil => simp [nrm]; grind
  | cons c t ih => simp only [List.cons_append, nrm, ih]; grind
theorem nrm_perm (h : t.Perm s) : nrm t = nrm s := by
  induction h with
  | nil => rfl
  | cons c _ ih => simp only [nrm, ih]
  | swap c d t => simp only [nrm]; grind
  | trans _ _ h1 h2 => exact h1.trans h2
theorem abs_nonneg (a : Rat) : 0 ≤ a.abs := by
  unfold Rat.abs; split <;> grind
theorem abs_add (a b : Rat) : (a + b).abs ≤ a.abs + b.abs := by
  unfold Rat.abs; split <;> split <;> split <;> grind
theorem abs_neg (a : Rat) : (-a).abs = a.abs := by
  unfold Rat.abs; split <;> split <;> grind
theorem abs_mul (a b : Rat) : (a * b).abs = a.abs * b.abs := by
  have key : ∀ x y : Rat, 0 ≤ x → 0 ≤ y → 0 ≤ x * y := fun x y h1 h2 => Rat.mul_nonneg h1 h2
  unfold Rat.abs
  by_cases h1 : 0 ≤ a <;> by_cases h2 : 0 ≤ b
  · rw [if_pos h1, if_pos h2, if_pos (key _ _ h1 h2)]
  · have := key a (-b) h1 (by grind)
    rw [if_pos h1, if_neg h2]
    split
    · have : a * b = 0 := by grind
      grind
    · grind
  · have := key (-a) b (by grind) h2
    rw [if_neg h1, if_pos h2]
    split
    · have : a * b = 0 := by grind
      grind
    · grind
  · have := key (-a) (-b) (by grind) (by grind)
    rw [if_neg h1, if_neg h2, if_pos (by grind)]
    grind
theorem nrm_nonneg : 0 ≤ nrm t := by
  induction t with
  | nil => exact Rat.le_refl
  | cons c t ih => simp only [nrm]; have := abs_nonneg c.2; grind
theorem abs_le_nrm {c : Ex × Rat} (h : c ∈ t) : c.2.abs ≤ nrm t := by
  induction t with
  | nil => simp at h
  | cons d t ih =>
    simp only [nrm]
    have h1 := abs_nonneg d.2
    have h2 := nrm_nonneg (t := t)
    rcases List.mem_cons.mp h with rfl | h
    · grind
    · have := ih h; grind
/-! monomials -/
theorem mono_ones : ∀ (w : Nat) (p : Ex), mono (List.replicate w 1) p = 1
  | 0, p => by cases p <;> rfl
  | w + 1, [] => rfl
  | w + 1, k :: p => by
    rw [List.replicate_succ, mono, mono_ones w p]
    have : (1 : Rat) ^ k = 1 := by
      induction k with
      | zero => exact Rat.pow_zero _
      | succ k ih => rw [Rat.pow_succ, ih]; grind
    rw [this]; grind
theorem mul_pow' (a b : Rat) (k : Nat) : (a * b) ^ k = a ^ k * b ^ k := by
  induction k with
  | zero => simp only [Rat.pow_zero]; grind
  | succ k ih => simp only [Rat.pow_succ, ih]; grind
theorem mono_mul : ∀ (s x : List Rat) (p : Ex), s.length = x.length → mono (List.zipWith (· * ·) s x) p = mono s p * mono x p
  | [], [], p, _ => by cases p <;> simp [mono]
  | a :: s, b :: x, [], _ => by simp [mono]
  | a :: s, b :: x, k :: p, h => by
    simp only [List.zipWith_cons_cons, mono, mono_mul s x p (by simpa using h), mul_pow']
    grind
  | [], _ :: _, _, h => by simp at h
  | _ :: _, [], _, h => by simp at h
theorem two_pow_pos (k : Nat) : (0 : Rat) < 2 ^ k := by
  induction k with
  | zero => rw [Rat.pow_zero]; decide
  | succ k ih => rw [Rat.pow_succ]; grind
theorem two_pow_lt {j k : Nat} (h : j < k) : (2 : Rat) ^ j < 2 ^ k := by
  induction k with
  | zero => omega
  | succ k ih =>
    rw [Rat.pow_succ]
    have := two_pow_pos k
    rcases Nat.lt_or_ge j k with h1 | h1
    · have := ih h1; grind
    · have : j = k := by omega
      subst this; grind
theorem two_pow_ne {j k : Nat} (h : j ≠ k) : (2 : Rat) ^ j ≠ 2 ^ k := by
  rcases Nat.lt_or_gt_of_ne h with h | h
  · have := two_pow_lt h; grind
  · have := two_pow_lt h; grind
theorem mono_sep : ∀ (w : Nat) (p q : Ex), p.length = w → q.length = w → p ≠ q → ∃ s : List Rat, s.length = w ∧ mono s p ≠ mono s q
  | 0, p, q, h1, h2, h => by
    rw [List.length_eq_zero_iff] at h1 h2
    exact absurd (h1.trans h2.symm) h
  | w + 1, [], _, h1, _, _ => by simp at h1
  | w + 1, _ :: _, [], _, h2, _ => by simp at h2
  | w + 1, j :: p, k :: q, h1, h2, h => by
    by_cases hjk : j = k
    · subst hjk
      obtain ⟨s, s1, s2⟩ := mono_sep w p q (by simpa using h1) (by simpa using h2) (fun e => h (by rw [e]))
      refine ⟨2 :: s, by simp [s1], fun e => s2 ?_⟩
      simp only [mono] at e
      have := two_pow_pos j
      generalize (2 : Rat) ^ j = a at e this
      have h0 : a ≠ 0 := by grind
      have e2 : a⁻¹ * (a * mono s p) = a⁻¹ * (a * mono s q) := by rw [e]
      rw [← Rat.mul_assoc, ← Rat.mul_assoc, Rat.inv_mul_cancel _ h0, Rat.one_mul, Rat.one_mul] at e2
      exact e2
    · refine ⟨2 :: List.replicate w 1, by simp, fun e => two_pow_ne hjk ?_⟩
      simp only [mono, mono_ones] at e
      grind
/-- each monomial is told apart from others -/
theorem lin_indep (w : Nat) : ∀ (L : Pl) (p : Ex) (c : Rat), p.length = w → (∀ d ∈ L, d.1.length = w ∧ d.1 ≠ p) → (∀ x : List Rat, x.length = w → c * mono x p + ev L x = 0) → c = 0
  | [], p, c, hp, _, h => by
    have := h (List.replicate w 1) (by simp)
    rw [mono_ones] at this
    simp only [ev, lin_nil] at this
    grind
  | d :: L, p, c, hp, hL, h => by
    obtain ⟨hd1, hd2⟩ := hL d List.mem_cons_self
    obtain ⟨s, s1, s2⟩ := mono_sep w p d.1 hp hd1 (Ne.symm hd2)
    have key : ∀ (x : List Rat), x.length = w → ∀ M : Pl, ev (M.map fun q => (q.1, q.2 * (mono s q.1 - mono s d.1))) x = ev M (List.zipWith (· * ·) s x) - mono s d.1 * ev M x := by
      intro x hx M
      induction M with
      | nil => simp only [List.map_nil, ev, lin_nil]; grind
      | cons q M ih =>
        simp only [ev, List.map_cons, lin_cons] at ih ⊢
        rw [ih, mono_mul s x q.1 (by omega)]
        grind
    have ih := lin_indep w (L.map fun q => (q.1, q.2 * (mono s q.1 - mono s d.1))) p (c * (mono s p - mono s d.1)) hp (fun q hq => by
      obtain ⟨r, hr, rfl⟩ := List.mem_map.mp hq
      exact hL r (List.mem_cons_of_mem _ hr)) (fun x hx => by
      have h1 := h x hx
      have h2 := h (List.zipWith (· * ·) s x) (by simp; omega)
      rw [mono_mul s x p (by omega)] at h2
      rw [key x hx]
      simp only [ev, lin_cons] at h1 h2 ⊢
      rw [mono_mul s x d.1 (by omega)] at h2
      grind)
    grind
termination_by L => L.length
decreasing_by simp
theorem cf_eq_of_ev {w : Nat} (ht : ∀ d ∈ t, d.1.length = w) (hs : ∀ d ∈ s, d.1.length = w) (h : ∀ x : List Rat, x.length = w → ev t x = ev s x) (hp : p.length = w) : cf t p = cf s p := by
  have split : ∀ (u : Pl) (x : List Rat), ev u x = cf u p * mono x p + ev (u.filter fun c => !decide (c.1 = p)) x := by
    intro u x
    induction u with
    | nil => simp only [ev, cf, lin_nil, List.filter_nil]; grind
    | cons c u ih =>
      simp only [ev, cf, lin_cons, List.filter_cons] at ih ⊢
      by_cases hc : c.1 = p
      · simp [hc, ih]; grind
      · simp [hc, ih]; grind
  have neg : ∀ (u : Pl) (x : List Rat), ev (u.map fun c => (c.1, -c.2)) x = - ev u x := by
    intro u x
    induction u with
    | nil => simp [ev]
    | cons c u ih => simp only [ev, List.map_cons, lin_cons] at ih ⊢; rw [ih]; grind
  have := lin_indep w ((t.filter fun c => !decide (c.1 = p)) ++ (s.filter fun c => !decide (c.1 = p)).map fun c => (c.1, -c.2)) p (cf t p - cf s p) hp (fun d hd => by
    rcases List.mem_append.mp hd with hd | hd
    · obtain ⟨h1, h2⟩ := List.mem_filter.mp hd
      exact ⟨ht d h1, by simpa using h2⟩
    · obtain ⟨r, hr, rfl⟩ := List.mem_map.mp hd
      obtain ⟨h1, h2⟩ := List.mem_filter.mp hr
      exact ⟨hs r h1, by simpa using h2⟩) (fun x hx => by
    have h1 := h x hx
    rw [split t x, split s x] at h1
    have h2 := neg (s.filter fun c => !decide (c.1 = p)) x
    simp only [ev, lin_append] at h1 h2 ⊢
    rw [h2]
    grind)
  grind
end
/-! order and canonical lists -/
def okey (p : Ex) : List Int := -(p.sum : Int) :: p.map (fun k : Nat => -(k : Int))
theorem okey_inj {p q : Ex} (h : okey p = okey q) : p = q := by
  have h2 := (List.cons.inj h).2
  exact List.map_inj_right (f := fun k : Nat => -(k : Int)) (fun a b e => by omega) |>.mp h2
def exLt (p q : Ex) : Prop := okey p < okey q
instance (p q : Ex) : Decidable (exLt p q) := inferInstanceAs (Decidable (okey p < okey q))
theorem exLt_irrefl (p : Ex) : ¬ exLt p p := List.lt_irrefl (okey p)
theorem exLt_trans {p q r : Ex} (h1 : exLt p q) (h2 : exLt q r) : exLt p r := List.lt_trans h1 h2
theorem exLt_total {p q : Ex} (h : p ≠ q) : exLt p q ∨ exLt q p := by
  rcases Decidable.em (exLt p q) with h1 | h1
  · exact .inl h1
  · refine .inr ?_
    have : okey q ≤ okey p := List.not_lt.mp h1
    rcases List.le_iff_lt_or_eq.mp this with h2 | h2
    · exact h2
    · exact absurd (okey_inj h2.symm) h
structure Can (w : Nat) (t : Pl) : Prop where
  len : ∀ c ∈ t, c.1.length = w
  nz : ∀ c ∈ t, c.2 ≠ 0
  srt : t.Pairwise fun a b => exLt a.1 b.1
section
variable {w : Nat} {t s : Pl} {p : Ex}
theorem Can.tail {c : Ex × Rat} (h : Can w (c :: t)) : Can w t := ⟨fun d hd => h.len d (List.mem_cons_of_mem _ hd), fun d hd => h.nz d (List.mem_cons_of_mem _ hd), (List.pairwise_cons.mp h.srt).2⟩
theorem cf_zero (h : ∀ c ∈ t, c.1 ≠ p) : cf t p = 0 := by
  induction t with
  | nil => rfl
  | cons c t ih =>
    have h1 := h c List.mem_cons_self
    have h2 := ih fun d hd => h d (List.mem_cons_of_mem _ hd)
    unfold cf at h2 ⊢
    rw [lin_cons, h2, if_neg h1]
    grind
theorem cf_cons {c : Ex × Rat} : cf (c :: t) p = (if c.1 = p then c.2 else 0) + cf t p := by
  unfold cf
  rw [lin_cons]
  split <;> grind
theorem Can.cf_head {c : Ex × Rat} (h : Can w (c :: t)) : cf (c :: t) c.1 = c.2 := by
  rw [cf_cons, if_pos rfl, cf_zero fun d hd e => ?_]
  · grind
  · have := (List.pairwise_cons.mp h.srt).1 d hd
    rw [e] at this
    exact exLt_irrefl _ this
theorem Can.cf_less (h : Can w t) (hp : ∀ c ∈ t, exLt p c.1) : cf t p = 0 := cf_zero fun d hd e => by
  have := hp d hd
  rw [e] at this
  exact exLt_irrefl _ this
theorem Can.ext : ∀ {t s : Pl}, Can w t → Can w s → (∀ p, cf t p = cf s p) → t = s
  | [], [], _, _, _ => rfl
  | [], c :: s, _, h2, h => by
    have := h c.1
    rw [h2.cf_head] at this
    exact absurd this.symm (h2.nz c List.mem_cons_self)
  | c :: t, [], h1, _, h => by
    have := h c.1
    rw [h1.cf_head] at this
    exact absurd this (h1.nz c List.mem_cons_self)
  | c :: t, d :: s, h1, h2, h => by
    have l1 := (List.pairwise_cons.mp h1.srt).1
    have l2 := (List.pairwise_cons.mp h2.srt).1
    have hk : c.1 = d.1 := by
      refine Decidable.byContradiction fun hne => ?_
      rcases exLt_total hne with hl | hl
      · have := h c.1
        rw [h1.cf_head, h2.cf_less fun e he => ?_] at this
        · exact h1.nz c List.mem_cons_self this
        · rcases List.mem_cons.mp he with rfl | he
          · exact hl
          · exact exLt_trans hl (l2 e he)
      · have := h d.1
        rw [h2.cf_head, h1.cf_less fun e he => ?_] at this
        · exact h2.nz d List.mem_cons_self this.symm
        · rcases List.mem_cons.mp he with rfl | he
          · exact hl
          · exact exLt_trans hl (l1 e he)
    have hv : c.2 = d.2 := by
      have := h c.1
      rw [h1.cf_head, hk, h2.cf_head] at this
      exact this
    have hcd : c = d := Prod.ext hk hv
    subst hcd
    rw [Can.ext h1.tail h2.tail fun p => ?_]
    have := h p
    rw [cf_cons, cf_cons] at this
    grind
/-- canonical lists with the same values are the same -/
theorem Can.ext_ev (h1 : Can w t) (h2 : Can w s) (h : ∀ x : List Rat, x.length = w → ev t x = ev s x) : t = s := by
  refine Can.ext h1 h2 fun p => ?_
  by_cases hp : p.length = w
  · exact cf_eq_of_ev h1.len h2.len h hp
  · rw [cf_zero (t := t) fun c hc e => hp (by rw [← e]; exact h1.len c hc), cf_zero (t := s) fun c hc e => hp (by rw [← e]; exact h2.len c hc)]
end
/-! sizes -/
/-- D times it is whole -/
def Dv (D : Nat) (a : Rat) : Prop := ∃ n : Int, a * D = n
theorem Dv.add {D : Nat} {a b : Rat} (h1 : Dv D a) (h2 : Dv D b) : Dv D (a + b) := by
  obtain ⟨m, hm⟩ := h1
  obtain ⟨n, hn⟩ := h2
  exact ⟨m + n, by rw [Rat.intCast_add]; grind⟩
theorem Dv.neg {D : Nat} {a : Rat} (h1 : Dv D a) : Dv D (-a) := by
  obtain ⟨m, hm⟩ := h1
  exact ⟨-m, by rw [Rat.intCast_neg]; grind⟩
theorem Dv.zero {D : Nat} : Dv D 0 := ⟨0, by grind⟩
theorem Dv.one {D : Nat} : Dv D 1 := ⟨D, by rw [Rat.intCast_natCast]; grind⟩
theorem Dv.mul {D E : Nat} {a b : Rat} (h1 : Dv D a) (h2 : Dv E b) : Dv (D * E) (a * b) := by
  obtain ⟨m, hm⟩ := h1
  obtain ⟨n, hn⟩ := h2
  exact ⟨m * n, by rw [Rat.intCast_mul, Rat.natCast_mul]; grind⟩
theorem Dv.more {D E : Nat} {a : Rat} (h1 : Dv D a) : Dv (D * E) a := by
  have := h1.mul (Dv.one (D := E))
  rwa [Rat.mul_one] at this
theorem Dv.pow {D : Nat} {a : Rat} (h : Dv D a) : ∀ k : Nat, Dv (D ^ k) (a ^ k)
  | 0 => by rw [Rat.pow_zero]; exact Dv.one
  | k + 1 => by rw [Rat.pow_succ, Nat.pow_succ]; exact (Dv.pow h k).mul h
theorem den_ne (a : Rat) : (a.den : Rat) ≠ 0 := by
  intro e
  have := congrArg Rat.num e
  have h2 := a.den_nz
  rw [Rat.num_natCast] at this
  have h3 : (a.den : Int) = 0 := this
  omega
theorem den_eq (a : Rat) : a * a.den = a.num := by
  have e : a = a.num / (a.den : Rat) := by rw [← Rat.mkRat_eq_div, Rat.mkRat_self]
  calc a * a.den = (a.num / (a.den : Rat)) * a.den := by rw [← e]
    _ = a.num := Rat.div_mul_cancel (den_ne a)
theorem Dv.self (a : Rat) : Dv a.den a := ⟨a.num, den_eq a⟩
end MP

/-! M2: tables of terms, canonical lists made of them; sizes. -/
namespace MP
open PySem
def addT (T : Pl) (p : Ex) (c : Rat) : Pl := match T.find? (fun d => decide (d.1 = p)) with
  | some d => if d.2 + c = 0 then T.filter (fun e => decide (e.1 ≠ p)) else T.map (fun e => if e.1 = p then (e.1, d.2 + c) else e)
  | none => if c = 0 then T else T ++ [(p, c)]
def putT (T : Pl) (p : Ex) (c : Rat) : Pl := match T.find? (fun d => decide (d.1 = p)) with
  | some d => T.map (fun e => if e.1 = p then (e.1, d.2 + c) else e)
  | none => T ++ [(p, c)]
/-- a term of so many letters, of a degree of at most g, D times it whole -/
def Gd (w g D : Nat) (c : Ex × Rat) : Prop := c.1.length = w ∧ c.1.sum ≤ g ∧ Dv D c.2
structure Tab (w g D : Nat) (T raw : Pl) : Prop where
  nd : (T.map (·.1)).Nodup
  gd : ∀ c ∈ T, Gd w g D c
  eq : ∀ φ, lin φ T = lin φ raw
  nr : nrm T ≤ nrm raw
  ln : T.length ≤ raw.length
def Nz (T : Pl) : Prop := ∀ c ∈ T, c.2 ≠ 0
theorem Tab.nil {w g D : Nat} : Tab w g D [] [] := ⟨List.nodup_nil, fun _ h => (nomatch h), fun _ => rfl, Rat.le_refl, Nat.le_refl _⟩
section
variable {w g D : Nat} {T raw : Pl} {p : Ex} {c : Rat}
theorem find_split {d : Ex × Rat} (nd : (T.map (·.1)).Nodup) (h : T.find? (fun d => decide (d.1 = p)) = some d) : ∃ A B, T = A ++ d :: B ∧ d.1 = p ∧ (∀ e ∈ A, e.1 ≠ p) ∧ (∀ e ∈ B, e.1 ≠ p) := by
  obtain ⟨h1, A, B, h2, h3⟩ := List.find?_eq_some_iff_append.mp h
  have hd : d.1 = p := by simpa using h1
  subst h2
  refine ⟨A, B, rfl, hd, fun e he => by simpa using h3 e he, fun e he hp => ?_⟩
  rw [List.map_append, List.map_cons, List.nodup_append] at nd
  have := (List.nodup_cons.mp nd.2.1).1
  exact this (List.mem_map.mpr ⟨e, he, hp.trans hd.symm⟩)
theorem map_split {A B : Pl} {d : Ex × Rat} {m : Rat} (hd : d.1 = p) (hA : ∀ e ∈ A, e.1 ≠ p) (hB : ∀ e ∈ B, e.1 ≠ p) : (A ++ d :: B).map (fun e => if e.1 = p then (e.1, m) else e) = A ++ (p, m) :: B := by
  have key : ∀ C : Pl, (∀ e ∈ C, e.1 ≠ p) → C.map (fun e => if e.1 = p then (e.1, m) else e) = C := fun C hC => by
    conv => rhs; rw [← List.map_id C]
    exact List.map_congr_left fun e he => by simp [hC e he]
  rw [List.map_append, List.map_cons, key A hA, key B hB, if_pos hd, hd]
theorem filter_split {A B : Pl} {d : Ex × Rat} (hd : d.1 = p) (hA : ∀ e ∈ A, e.1 ≠ p) (hB : ∀ e ∈ B, e.1 ≠ p) : (A ++ d :: B).filter (fun e => decide (e.1 ≠ p)) = A ++ B := by
  have key : ∀ C : Pl, (∀ e ∈ C, e.1 ≠ p) → C.filter (fun e => decide (e.1 ≠ p)) = C := fun C hC => List.filter_eq_self.mpr fun e he => by simpa using hC e he
  rw [List.filter_append, List.filter_cons, key A hA, key B hB, if_neg (by simpa using hd)]
theorem Tab.put (h : Tab w g D T raw) (hc : Gd w g D (p, c)) : Tab w g D (putT T p c) (raw ++ [(p, c)]) := by
  unfold putT
  cases hf : T.find? (fun d => decide (d.1 = p)) with
  | some d =>
    obtain ⟨A, B, rfl, hd, hA, hB⟩ := find_split h.nd hf
    simp only
    rw [map_split hd hA hB]
    have nd := h.nd
    refine ⟨?_, ?_, fun φ => ?_, ?_, ?_⟩
    · rw [List.map_append, List.map_cons] at nd ⊢
      rw [← hd]; exact nd
    · intro e he
      rcases List.mem_append.mp he with he | he
      · exact h.gd e (by simp [he])
      · rcases List.mem_cons.mp he with rfl | he
        · have := h.gd d (by simp)
          exact ⟨hc.1, hc.2.1, this.2.2.add hc.2.2⟩
        · exact h.gd e (by simp [he])
    · have := h.eq φ
      rw [lin_append, lin_cons, hd] at this
      rw [lin_append, lin_cons, lin_append, lin_cons, lin_nil, ← this]
      grind
    · have := h.nr
      rw [nrm_append, nrm] at this
      rw [nrm_append, nrm, nrm_append, nrm, nrm]
      have := abs_add d.2 c
      grind
    · have := h.ln
      simp at this ⊢
      omega
  | none =>
    simp only
    have hp : ∀ e ∈ T, e.1 ≠ p := fun e he => by simpa using List.find?_eq_none.mp hf e he
    refine ⟨?_, ?_, fun φ => ?_, ?_, ?_⟩
    · rw [List.map_append, List.nodup_append]
      exact ⟨h.nd, by simp, fun a ha b hb => by
        obtain ⟨e, he, rfl⟩ := List.mem_map.mp ha
        simp at hb
        subst hb
        exact hp e he⟩
    · intro e he
      rcases List.mem_append.mp he with he | he
      · exact h.gd e he
      · simp at he; subst he; exact hc
    · rw [lin_append, lin_append, h.eq φ]
    · rw [nrm_append, nrm_append]
      have := h.nr
      grind
    · have := h.ln; simp; omega
/-- where a 0 is left out -/
theorem Tab.less {A B : Pl} {q : Ex} (h : Tab w g D (A ++ (q, 0) :: B) raw) : Tab w g D (A ++ B) raw := by
  refine ⟨?_, fun e he => h.gd e ?_, fun φ => ?_, ?_, ?_⟩
  · have nd := h.nd
    rw [List.map_append] at nd ⊢
    exact nd.sublist (List.Sublist.append_left (by rw [List.map_cons]; exact List.sublist_cons_self _ _) _)
  · rcases List.mem_append.mp he with he | he <;> simp [he]
  · rw [← h.eq φ, lin_append, lin_append, lin_cons]
    grind
  · have := h.nr
    rw [nrm_append, nrm] at this
    rw [nrm_append]
    have := abs_nonneg (0 : Rat)
    grind
  · have := h.ln
    simp at this ⊢
    omega
theorem Tab.add (h : Tab w g D T raw) (hc : Gd w g D (p, c)) : Tab w g D (addT T p c) (raw ++ [(p, c)]) := by
  have hp := h.put hc
  unfold putT at hp
  unfold addT
  cases hf : T.find? (fun d => decide (d.1 = p)) with
  | some d =>
    rw [hf] at hp
    simp only at hp ⊢
    split
    · rename_i h0
      obtain ⟨A, B, rfl, hd, hA, hB⟩ := find_split h.nd hf
      rw [map_split hd hA hB, h0] at hp
      rw [filter_split hd hA hB]
      exact hp.less
    · exact hp
  | none =>
    rw [hf] at hp
    simp only at hp ⊢
    split
    · rename_i h0
      subst h0
      have := Tab.less (A := T) (B := []) hp
      rwa [List.append_nil] at this
    · exact hp
theorem Nz.add (h : Nz T) : Nz (addT T p c) := by
  unfold addT
  split
  · split
    · exact fun e he => h e (List.mem_filter.mp he).1
    · intro e he
      obtain ⟨e', he', rfl⟩ := List.mem_map.mp he
      split
      · assumption
      · exact h e' he'
  · split
    · exact h
    · intro e he
      rcases List.mem_append.mp he with he | he
      · exact h e he
      · simp at he; subst he; assumption
/-- sorted -/
def sortT (T : Pl) : Pl := T.mergeSort fun a b => decide (okey a.1 ≤ okey b.1)
theorem sortT_perm : (sortT T).Perm T := List.mergeSort_perm _ _
theorem sortT_can (nd : (T.map (·.1)).Nodup) (hl : ∀ c ∈ T, c.1.length = w) (hz : Nz T) : Can w (sortT T) := by
  have p := sortT_perm (T := T)
  refine ⟨fun c hc => hl c (p.mem_iff.mp hc), fun c hc => hz c (p.mem_iff.mp hc), ?_⟩
  have s : (sortT T).Pairwise fun a b => decide (okey a.1 ≤ okey b.1) = true := List.pairwise_mergeSort (fun a b c h1 h2 => by
    simp only [decide_eq_true_eq] at h1 h2 ⊢
    exact List.le_trans h1 h2) (fun a b => by
    simp only [Bool.or_eq_true, decide_eq_true_eq]
    exact List.le_total _ _) T
  have nd2 : (sortT T).Pairwise fun a b => a.1 ≠ b.1 := by
    have : ((sortT T).map (·.1)).Nodup := (p.map _).nodup_iff.mpr nd
    exact List.pairwise_map.mp this
  refine (s.and nd2).imp fun {a b} h => ?_
  obtain ⟨h1, h2⟩ := h
  simp only [decide_eq_true_eq] at h1
  rcases List.le_iff_lt_or_eq.mp h1 with h3 | h3
  · exact h3
  · exact absurd (okey_inj h3) h2
/-- a canonical list made of raw terms -/
structure Cn (w g D : Nat) (t raw : Pl) : Prop where
  can : Can w t
  gd : ∀ c ∈ t, Gd w g D c
  eq : ∀ φ, lin φ t = lin φ raw
  nr : nrm t ≤ nrm raw
  ln : t.length ≤ raw.length
theorem Tab.cn (h : Tab w g D T raw) (hz : Nz T) : Cn w g D (sortT T) raw := by
  have p := sortT_perm (T := T)
  exact ⟨sortT_can h.nd (fun c hc => (h.gd c hc).1) hz, fun c hc => h.gd c (p.mem_iff.mp hc), fun φ => (lin_perm p).trans (h.eq φ), by rw [nrm_perm p]; exact h.nr, by rw [p.length_eq]; exact h.ln⟩
theorem nrm_filter (f : Ex × Rat → Bool) : nrm (T.filter f) ≤ nrm T := by
  induction T with
  | nil => exact Rat.le_refl
  | cons c T ih =>
    rw [List.filter_cons]
    have := abs_nonneg c.2
    split
    · simp only [nrm]; grind
    · simp only [nrm]; grind
/-- the same where 0s are left out at last -/
theorem Tab.nz (h : Tab w g D T raw) : Tab w g D (T.filter fun c => decide (c.2 ≠ 0)) raw := by
  refine ⟨?_, fun c hc => h.gd c (List.mem_filter.mp hc).1, fun φ => ?_, ?_, ?_⟩
  · exact h.nd.sublist (List.Sublist.map _ List.filter_sublist)
  · rw [← h.eq φ]
    clear h
    induction T with
    | nil => rfl
    | cons c T ih =>
      rw [List.filter_cons]
      split
      · rw [lin_cons, lin_cons, ih]
      · rename_i hc
        have : c.2 = 0 := by simpa using hc
        rw [lin_cons, ih, this]; grind
  · exact Rat.le_trans (nrm_filter _) h.nr
  · exact Nat.le_trans (List.length_filter_le _ _) h.ln
theorem Cn.ev {t : Pl} (h : Cn w g D t raw) (x : List Rat) : MP.ev t x = MP.ev raw x := h.eq _
theorem Cn.uniq {g' D' : Nat} {t s raw' : Pl} (h1 : Cn w g D t raw) (h2 : Cn w g' D' s raw') (h : ∀ x : List Rat, x.length = w → MP.ev raw x = MP.ev raw' x) : t = s :=
  h1.can.ext_ev h2.can fun x hx => by rw [h1.ev, h2.ev, h x hx]
end
/-! small numbers -/
def Fits (D L : Nat) : Prop := D ≠ 0 ∧ D.log2 < 1900 ∧ L.log2 < 1900
theorem Dv.den {D : Nat} {a : Rat} (hD : D ≠ 0) (h : Dv D a) : a.den ∣ D := by
  obtain ⟨n, hn⟩ := h
  have e : a.num * D = n * a.den := by
    have h1 : (a * D) * a.den = n * a.den := by rw [hn]
    have h2 : a * a.den = a.num := by
      have e : a = a.num / (a.den : Rat) := by rw [← Rat.mkRat_eq_div, Rat.mkRat_self]
      calc a * a.den = (a.num / (a.den : Rat)) * a.den := by rw [← e]
        _ = a.num := Rat.div_mul_cancel (den_ne a)
    have h3 : (a.num : Rat) * D = n * a.den := by rw [← h2, ← h1]; grind
    rw [← Rat.intCast_natCast, ← Rat.intCast_natCast, ← Rat.intCast_mul, ← Rat.intCast_mul] at h3
    exact_mod_cast h3
  have e2 : a.num.natAbs * D = n.natAbs * a.den := by
    have := congrArg Int.natAbs e
    rwa [Int.natAbs_mul, Int.natAbs_mul, Int.natAbs_natCast, Int.natAbs_natCast] at this
  have c : Nat.Coprime a.den a.num.natAbs := a.reduced.symm
  exact c.dvd_of_dvd_mul_left (by rw [e2]; exact Nat.dvd_mul_left _ _)
theorem num_le {L : Nat} {a : Rat} (h : a.abs ≤ L) : a.num.natAbs ≤ L * a.den := by
  have h1 : a.num = a * a.den := (den_eq a).symm
  have h2 : (0 : Rat) ≤ a.den := by exact_mod_cast Nat.zero_le a.den
  have h3 : ((a.num.natAbs : Nat) : Rat) = a.abs * a.den := by
    unfold Rat.abs
    split
    · rename_i h0
      have : 0 ≤ a.num := Rat.num_nonneg.mpr h0
      rw [← h1, ← Rat.intCast_natCast, Int.natAbs_of_nonneg this]
    · rename_i h0
      have : a.num < 0 := by
        have : ¬ 0 ≤ a.num := fun e => h0 (Rat.num_nonneg.mp e)
        omega
      rw [Rat.neg_mul, ← h1, ← Rat.intCast_natCast, ← Rat.intCast_neg]
      congr 1
      omega
  have h4 : ((a.num.natAbs : Nat) : Rat) ≤ (L : Rat) * a.den := by
    rw [h3]
    exact Rat.mul_le_mul_of_nonneg_right h h2
  rw [← Rat.natCast_mul] at h4
  exact_mod_cast h4
theorem log2_le {a b : Nat} (h : a ≤ b) (hb : b.log2 < n) : a.log2 < n := by
  by_cases h0 : a = 0
  · subst h0; simp; omega
  · have : a.log2 ≤ b.log2 := by
      rw [Nat.le_log2 (by omega)]
      exact Nat.le_trans (Nat.log2_self_le h0) h
    omega
end MP

/-! Q1: the simple defs: numbers, tuples, fractions. -/
namespace MP
open PySem
/-- a slot that may be written over and walked by a comprehension -/
def Jk (s : Sl) : Prop := s = .no ∨ ∃ x, s = .d x
def tupN : Nat → PyData → Prop
  | 0, x => ∃ i, x = .int i
  | d + 1, x => (∃ i, x = .int i) ∨ ∃ xs, x = .tuple xs ∧ xs.length ≤ 16777216 ∧ ∀ y ∈ xs, tupN d y
def frD (q : Rat) : PyData := .tuple [.int q.num, .int q.den]
theorem frD_zero : frD 0 = .tuple [.int 0, .int 1] := rfl
theorem frD_one : frD 1 = .tuple [.int 1, .int 1] := rfl
theorem mkRat_parts (a : Int) (d : Nat) (h : d ≠ 0) : (mkRat a d).num = a / ((Nat.gcd a.natAbs d : Nat) : Int) ∧ ((mkRat a d).den : Int) = (d : Int) / ((Nat.gcd a.natAbs d : Nat) : Int) := by
  rw [Rat.mkRat_def, dif_neg h, Rat.normalize_eq]
  exact ⟨rfl, by simp⟩
theorem frD_inj {a b : Rat} : frD a = frD b ↔ a = b := by
  constructor
  · intro h
    simp [frD] at h
    exact Rat.ext h.1 (by have := h.2; omega)
  · rintro rfl; rfl
/-- small enough for all that is done with fractions -/
def Sm (q : Rat) : Prop := q.num.natAbs.log2 < 4000 ∧ q.den.log2 < 4000
theorem log2_mul (a b : Nat) : (a * b).log2 ≤ a.log2 + b.log2 + 1 := by
  by_cases h : a * b = 0
  · rw [h]; simp
  · have ha : a ≠ 0 := fun e => h (by rw [e, Nat.zero_mul])
    have hb : b ≠ 0 := fun e => h (by rw [e, Nat.mul_zero])
    have h1 := Nat.lt_log2_self (n := a)
    have h2 := Nat.lt_log2_self (n := b)
    have : a * b < 2 ^ (a.log2 + b.log2 + 2) := by
      rw [show a.log2 + b.log2 + 2 = (a.log2 + 1) + (b.log2 + 1) by omega, Nat.pow_add]
      exact Nat.mul_lt_mul'' h1 h2
    have := (Nat.log2_lt h).mpr this
    omega
theorem gMulA_int {i j : Int} (h : i.natAbs.log2 + j.natAbs.log2 < 1000000) : gMulA (.int i) (.int j) = some (.v (.int (i * j))) := by
  unfold gMulA
  simp [mulOk, h]
theorem gDiv_int {i j : Int} (h : 0 < j) (h2 : j.natAbs.log2 < 9000) : gDiv (.int i) (.int j) = some (.v (.int (i / j))) := by
  unfold gDiv
  simp only
  rw [if_pos]
  simp only [Bool.and_eq_true, decide_eq_true_eq]
  exact ⟨h, h2⟩
theorem atI_nat {α : Type} {xs : List α} {i : Nat} {x : α} (h : xs[i]? = some x) : L2.atI xs (i : Int) = some x := by
  have hl : i < xs.length := (List.getElem?_eq_some_iff.mp h).1
  unfold L2.atI L2.ixN
  rw [if_pos (by omega), if_pos (by omega)]
  simpa using h
@[simp] theorem gIx_0 {x : PyData} {r : List PyData} : gIx (.tuple (x :: r)) (.int 0) = some (.v x) := by
  have : L2.atI (x :: r) 0 = some x := atI_nat (i := 0) rfl
  simp [gIx, gIxS, this]
@[simp] theorem gIx_1 {x y : PyData} {r : List PyData} : gIx (.tuple (x :: y :: r)) (.int 1) = some (.v y) := by
  have : L2.atI (x :: y :: r) 1 = some y := atI_nat (i := 1) rfl
  simp [gIx, gIxS, this]
@[simp] theorem gIxL_0 {x : PyData} {r : List PyData} : gIx (.list (x :: r)) (.int 0) = some (.v x) := by
  have : L2.atI (x :: r) 0 = some x := atI_nat (i := 0) rfl
  simp [gIx, gIxS, this]
@[simp] theorem gIxL_1 {x y : PyData} {r : List PyData} : gIx (.list (x :: y :: r)) (.int 1) = some (.v y) := by
  have : L2.atI (x :: y :: r) 1 = some y := atI_nat (i := 1) rfl
  simp [gIx, gIxS, this]
@[simp] theorem gIxL_2 {x y z : PyData} {r : List PyData} : gIx (.list (x :: y :: z :: r)) (.int 2) = some (.v z) := by
  have : L2.atI (x :: y :: z :: r) 2 = some z := atI_nat (i := 2) rfl
  simp [gIx, gIxS, this]
theorem gIxT {xs : List PyData} {i : Nat} {x : PyData} (h : xs[i]? = some x) : gIx (.tuple xs) (.int i) = some (.v x) := by
  simp [gIx, gIxS, atI_nat h]
theorem gIxL {xs : List PyData} {i : Nat} {x : PyData} (h : xs[i]? = some x) : gIx (.list xs) (.int i) = some (.v x) := by
  simp [gIx, gIxS, atI_nat h]
theorem iE_d {e : En} {xs : List PyData} {i : Nat} (h : e[i]? = some (.d (.tuple xs)) ∨ e[i]? = some (.d (.list xs))) : iE (cN i) e = some (xs, [], e) := by
  rcases h with h | h <;> simp [iE, cN_eq, vw_r, h, seqD, owns]
theorem iE_own {e : En} {xs : List PyData} {i : Nat} (h : e[i]? = some (.own (.lst xs))) : iE (cN i) e = some (xs, [i], e) := by
  simp [iE, cN_eq, vw_r, h, seqD, owns, Ct.frz]
theorem iE_lk {e : En} {xs : List PyData} {i : Nat} (h : e[i]? = some (.lk (.lst xs))) : iE (cN i) e = some (xs, [], e) := by
  simp [iE, cN_eq, vw_r, h, seqD, owns, Ct.frz]
theorem rangeD_nat (m : Nat) : rangeD 0 m 1 = (List.range m).map (fun k : Nat => PyData.int k) := by
  unfold rangeD
  refine List.map_congr_left fun k _ => ?_
  rw [Int.mul_one, Int.zero_add]
theorem small62_nat {m : Nat} (h : m < 4611686018427387904) : small62 (m : Int) = true := by
  simp only [small62, Bool.and_eq_true, decide_eq_true_eq]
  omega
/-- range of a natural number that an expression tells -/
theorem iR1_of {a : CE} {e e1 : En} {m : Nat} {op : Op} (h : a e = some (op, e1)) (hv : vw e1 op = some (.int m)) (hm : m < 4611686018427387904) : iRange1 a e = some ((List.range m).map (fun k : Nat => PyData.int k), [], e1) := by
  unfold iRange1
  rw [h]
  simp only [Option.bind_some, hv, small62_nat hm, if_true, Int.toNat_natCast, rangeD_nat]
theorem iR1_d {e : En} {m i : Nat} (h : e[i]? = some (.d (.int m))) (hm : m < 4611686018427387904) : iRange1 (cN i) e = some ((List.range m).map (fun k : Nat => PyData.int k), [], e) :=
  iR1_of (op := .v (.int m)) (by simp [cN_eq, h]) rfl hm
theorem boolsD_true {α : Type} : ∀ (xs : List α), boolsD (xs.map fun _ => .bool true) = some (xs.map fun _ => true)
  | [] => rfl
  | x :: xs => by simp [boolsD, boolsD_true xs]
theorem boolsD_map {α : Type} (p : α → Bool) : ∀ (xs : List α), boolsD (xs.map fun x => .bool (p x)) = some (xs.map p)
  | [] => rfl
  | x :: xs => by simp [boolsD, boolsD_map p xs]
@[simp] theorem fAll_map {α : Type} (p : α → Bool) (xs : List α) : fAll (.list (xs.map fun x => .bool (p x))) = some (.v (.bool (xs.all p))) := by
  simp [fAll, boolsD_map, List.all_map]
section
variable {fns : Nat → Orc → List Sl → Option (Rv × List Sl)} [Kit fns]
theorem is_number_int {n : Nat} (h : 1 ≤ n) (i : Int) : callD fns n 0 [.d (.int i)] = some (.v (.bool true), [.no]) := by
  rw [callD_succ h, Kit.is_number (fns := fns)]
  rfl
theorem is_between_int {n : Nat} (h : 2 ≤ n) (i a b : Int) : callD fns n 1 [.d (.int i), .d (.int a), .d (.int b)] = some (.v (.bool (decide (a ≤ i) && decide (i ≤ b))), [.no, .no, .no]) := by
  apply W_get
  rw [callD_succ (by omega), Kit.is_between (fns := fns)]
  refine mkFn_go rfl ?_
  simp (disch := omega) [b_is_between, cN_eq, vw_r, vx_r, fz_r, argSl_r, stow_r, retv_r, List.getElem?_cons_zero, List.getElem?_cons_succ, free, szOk, lock, unlock, back, wipeE, is_number_int]
  by_cases h1 : a ≤ i <;> simp [h1] <;> omega
theorem is_from_int {n : Nat} (h : 2 ≤ n) (i a : Int) : callD fns n 2 [.d (.int i), .d (.int a)] = some (.v (.bool (decide (a ≤ i))), [.no, .no]) := by
  apply W_get
  rw [callD_succ (by omega), Kit.is_from (fns := fns)]
  refine mkFn_go rfl ?_
  simp (disch := omega) [b_is_from, cN_eq, vw_r, vx_r, fz_r, argSl_r, stow_r, retv_r, List.getElem?_cons_zero, List.getElem?_cons_succ, free, szOk, lock, unlock, back, wipeE, is_number_int]
theorem sure_true {n : Nat} (h : 1 ≤ n) : callD fns n 5 [.d (.bool true)] = some (.v .none, [.no]) := by
  apply W_get
  rw [callD_succ (by omega), Kit.sure (fns := fns)]
  refine mkFn_go rfl ?_
  simp (disch := omega) [b_sure, cN_eq, vw_r, vx_r, fz_r, argSl_r, stow_r, retv_r, List.getElem?_cons_zero, List.getElem?_cons_succ, free, szOk, lock, unlock, back, wipeE]
theorem is_wide_int {n : Nat} (h : 3 ≤ n) (i : Int) : callD fns n 6 [.d (.int i)] = some (.v (.bool (decide (1 ≤ i) && decide (i ≤ 4))), [.no]) := by
  apply W_get
  rw [callD_succ (by omega), Kit.is_wide (fns := fns)]
  refine mkFn_go rfl ?_
  simp (disch := omega) [b_is_wide, cN_eq, vw_r, vx_r, fz_r, argSl_r, stow_r, retv_r, List.getElem?_cons_zero, List.getElem?_cons_succ, free, szOk, lock, unlock, back, wipeE, is_between_int]
theorem sure_wide_int {n : Nat} (h : 4 ≤ n) (i : Int) (h1 : 1 ≤ i) (h2 : i ≤ 4) : callD fns n 7 [.d (.int i)] = some (.v .none, [.no]) := by
  apply W_get
  rw [callD_succ (by omega), Kit.sure_wide (fns := fns)]
  refine mkFn_go rfl ?_
  simp (disch := omega) [b_sure_wide, cN_eq, vw_r, vx_r, fz_r, argSl_r, stow_r, retv_r, List.getElem?_cons_zero, List.getElem?_cons_succ, free, szOk, lock, unlock, back, wipeE, is_wide_int, sure_true, h1, h2]
theorem tuple_of_int {n : Nat} (h : 1 ≤ n) (i : Int) : callD fns n 3 [.d (.int i)] = some (.v (.int i), [.no]) := by
  rw [callD_succ h, Kit.tuple_of (fns := fns)]
  rfl
theorem tuple_of_id : ∀ (d : Nat) {n : Nat} {x : PyData}, tupN d x → d + 1 ≤ n → callD fns n 3 [.d x] = some (.v x, [.no])
  | 0, n, x, ⟨i, e⟩, h => by subst e; exact tuple_of_int (by omega) i
  | d + 1, n, x, .inl ⟨i, e⟩, h => by subst e; exact tuple_of_int (by omega) i
  | d + 1, n, x, .inr ⟨xs, e, hl, hx⟩, h => by
    subst e
    apply W_get
    rw [callD_succ (by omega), Kit.tuple_of (fns := fns)]
    refine mkFn_go rfl ?_
    simp (disch := omega) [b_tuple_of, cN_eq, vw_r, vx_r, fz_r, argSl_r, stow_r, retv_r, List.getElem?_cons_zero, List.getElem?_cons_succ, free, szOk, lock, unlock, back, wipeE, gIsi, TN.is]
    refine W_lcM (enc := id) (enc' := id) xs id (iE_d (.inl (by simp))) (by rfl) hl (fun y hy => ?_) ?_
    · simp (disch := omega) [cN_eq, vw_r, vx_r, fz_r, argSl_r, stow_r, retv_r, List.getElem?_cons_zero, List.getElem?_cons_succ, free, szOk, lock, unlock, back, wipeE, free, lock, wipeE, tuple_of_id d (hx y hy)]
    · simp (disch := omega) [cN_eq, vw_r, vx_r, fz_r, argSl_r, stow_r, retv_r, List.getElem?_cons_zero, List.getElem?_cons_succ, free, szOk, lock, unlock, back, wipeE, g1, fTuple, lock, unlock, back, wipeE, Ct.frz]
theorem is_tuple_of_eq {n : Nat} (h : 1 ≤ n) (xs : List PyData) (i : Int) : callD fns n 4 [.d (.tuple xs), .d (.int i)] = some (.v (.bool (decide ((xs.length : Int) = i))), [.no, .no]) := by
  apply W_get
  rw [callD_succ (by omega), Kit.is_tuple_of (fns := fns)]
  refine mkFn_go rfl ?_
  simp (disch := omega) [b_is_tuple_of, cN_eq, vw_r, vx_r, fz_r, argSl_r, stow_r, retv_r, List.getElem?_cons_zero, List.getElem?_cons_succ, free, szOk, lock, unlock, back, wipeE, gIsi, TN.is, g1, fLenA, fLen]
theorem tupN_fr (q : Rat) : tupN 1 (frD q) := .inr ⟨_, rfl, by simp, fun y hy => by
  simp at hy
  rcases hy with rfl | rfl <;> exact ⟨_, rfl⟩⟩
theorem lowest_eq {n : Nat} (h : 1 ≤ n) (a : Int) (d : Nat) (hd : d ≠ 0) (hs : d.log2 < 9000) : callD fns n 8 [.d (.int a), .d (.int d)] = some (.v (frD (mkRat a d)), [.no, .no]) := by
  have g0 : 0 < Nat.gcd a.natAbs d := Nat.gcd_pos_of_pos_right _ (Nat.pos_of_ne_zero hd)
  have g1' : Nat.gcd a.natAbs d ≤ d := Nat.gcd_le_right _ (Nat.pos_of_ne_zero hd)
  have g2 : (Nat.gcd a.natAbs d).log2 < 9000 := Nat.lt_of_le_of_lt (by
    rw [Nat.le_log2 hd]
    exact Nat.le_trans (Nat.log2_self_le (by omega)) g1') hs
  obtain ⟨m1, m2⟩ := mkRat_parts a d hd
  have z : ¬ ((d : Int) < 0) := by omega
  have gd : ∀ x : Int, gDiv (.int x) (.int ((Nat.gcd a.natAbs d : Nat) : Int)) = some (.v (.int (x / ((Nat.gcd a.natAbs d : Nat) : Int)))) := fun x => gDiv_int (by omega) (by simpa using g2)
  apply W_get
  rw [callD_succ (by omega), Kit.lowest (fns := fns)]
  refine mkFn_go rfl ?_
  simp (disch := omega) [b_lowest, cN_eq, vw_r, vx_r, fz_r, argSl_r, stow_r, retv_r, List.getElem?_cons_zero, List.getElem?_cons_succ, free, szOk, lock, unlock, back, wipeE, gGcd, z, gd, szOk, free, frD, m1, m2]
theorem plus_eq {n : Nat} (h : 2 ≤ n) {a b : Rat} (ha : Sm a) (hb : Sm b) : callD fns n 11 [.d (frD a), .d (frD b)] = some (.v (frD (a + b)), [.no, .no]) := by
  have m1 : gMulA (.int a.num) (.int b.den) = _ := gMulA_int (by have := ha.1; have := hb.2; simp; omega)
  have m2 : gMulA (.int b.num) (.int a.den) = _ := gMulA_int (by have := hb.1; have := ha.2; simp; omega)
  have m3 : gMulA (.int a.den) (.int b.den) = _ := gMulA_int (by have := ha.2; have := hb.2; simp; omega)
  have hd : a.den * b.den ≠ 0 := Nat.mul_ne_zero a.den_nz b.den_nz
  have l := lowest_eq (fns := fns) (n := n - 1) (by omega) (a.num * b.den + b.num * a.den) (a.den * b.den) hd (by have := log2_mul a.den b.den; have := ha.2; have := hb.2; omega)
  rw [← Rat.add_def', Int.natCast_mul] at l
  apply W_get
  rw [callD_succ (by omega), Kit.plus (fns := fns)]
  refine mkFn_go rfl ?_
  by_cases h1 : a.den = 1 ∧ b.den = 1
  · have p := mkRat_parts (a.num * b.den + b.num * a.den) (a.den * b.den) hd
    rw [← Rat.add_def'] at p
    obtain ⟨e1, e2⟩ := p
    simp [h1.1, h1.2] at e1 e2
    simp [cN_eq, vw_r, vx_r, fz_r, argSl_r, stow_r, retv_r, List.getElem?_cons_zero, List.getElem?_cons_succ, free, szOk, lock, unlock, back, wipeE, b_plus, frD, h1.1, h1.2, szOk, e1, e2]
  · have z : ∀ x y : Nat, ((x : Int) = 1) ↔ x = 1 := fun x y => by omega
    by_cases h2 : (a.den : Int) = 1
    · have h3 : ¬ ((b.den : Int) = 1) := fun e => h1 ⟨by omega, by omega⟩
      simp only [frD] at l ⊢
      rw [h2] at m2 m3 l
      simp only [Int.mul_one, Int.one_mul] at m2 m3 l
      simp [cN_eq, vw_r, vx_r, fz_r, argSl_r, stow_r, retv_r, List.getElem?_cons_zero, List.getElem?_cons_succ, free, szOk, lock, unlock, back, wipeE, b_plus, h2, h3, m1, m2, m3, l]
    · simp only [frD] at l ⊢
      simp [cN_eq, vw_r, vx_r, fz_r, argSl_r, stow_r, retv_r, List.getElem?_cons_zero, List.getElem?_cons_succ, free, szOk, lock, unlock, back, wipeE, b_plus, h2, m1, m2, m3, l]
theorem times_eq {n : Nat} (h : 2 ≤ n) {a b : Rat} (ha : Sm a) (hb : Sm b) : callD fns n 12 [.d (frD a), .d (frD b)] = some (.v (frD (a * b)), [.no, .no]) := by
  have m1 : gMulA (.int a.num) (.int b.num) = _ := gMulA_int (by have := ha.1; have := hb.1; omega)
  have m3 : gMulA (.int a.den) (.int b.den) = _ := gMulA_int (by have := ha.2; have := hb.2; simp; omega)
  have hd : a.den * b.den ≠ 0 := Nat.mul_ne_zero a.den_nz b.den_nz
  have l := lowest_eq (fns := fns) (n := n - 1) (by omega) (a.num * b.num) (a.den * b.den) hd (by have := log2_mul a.den b.den; have := ha.2; have := hb.2; omega)
  rw [← Rat.mul_def', Int.natCast_mul] at l
  apply W_get
  rw [callD_succ (by omega), Kit.times (fns := fns)]
  refine mkFn_go rfl ?_
  by_cases h1 : a.den = 1 ∧ b.den = 1
  · have p := mkRat_parts (a.num * b.num) (a.den * b.den) hd
    rw [← Rat.mul_def'] at p
    obtain ⟨e1, e2⟩ := p
    simp [h1.1, h1.2] at e1 e2
    simp [cN_eq, vw_r, vx_r, fz_r, argSl_r, stow_r, retv_r, List.getElem?_cons_zero, List.getElem?_cons_succ, free, szOk, lock, unlock, back, wipeE, b_times, frD, h1.1, h1.2, szOk, e1, e2, m1]
  · by_cases h2 : (a.den : Int) = 1
    · have h3 : ¬ ((b.den : Int) = 1) := fun e => h1 ⟨by omega, by omega⟩
      simp only [frD] at l ⊢
      rw [h2] at m3 l
      simp only [Int.mul_one, Int.one_mul] at m3 l
      simp [cN_eq, vw_r, vx_r, fz_r, argSl_r, stow_r, retv_r, List.getElem?_cons_zero, List.getElem?_cons_succ, free, szOk, lock, unlock, back, wipeE, b_times, h2, h3, m1, m3, l]
    · simp only [frD] at l ⊢
      simp [cN_eq, vw_r, vx_r, fz_r, argSl_r, stow_r, retv_r, List.getElem?_cons_zero, List.getElem?_cons_succ, free, szOk, lock, unlock, back, wipeE, b_times, h2, m1, m3, l]
theorem is_fraction_eq {n : Nat} (h : 2 ≤ n) (q : Rat) : callD fns n 9 [.d (frD q)] = some (.v (.bool true), [.no]) := by
  have t := is_tuple_of_eq (fns := fns) (n := n - 1) (by omega) [.int q.num, .int q.den] 2
  have g : ((Nat.gcd q.num.natAbs q.den : Nat) : Int) = 1 := by rw [q.reduced]; rfl
  have d0 : (0 : Int) < q.den := by have := q.den_pos; omega
  apply W_get
  rw [callD_succ (by omega), Kit.is_fraction (fns := fns)]
  refine mkFn_go rfl ?_
  simp (disch := omega) [b_is_fraction, cN_eq, vw_r, vx_r, fz_r, argSl_r, stow_r, retv_r, List.getElem?_cons_zero, List.getElem?_cons_succ, free, szOk, lock, unlock, back, wipeE, frD, t]
  refine W_lcM (enc := .int) (enc' := .bool) [q.num, (q.den : Int)] (fun _ => true) (iE_d (.inl (by rfl))) (by rfl) (by simp) (fun y hy => ?_) ?_
  · simp (disch := omega) [cN_eq, vw_r, vx_r, fz_r, argSl_r, stow_r, retv_r, List.getElem?_cons_zero, List.getElem?_cons_succ, free, szOk, lock, unlock, back, wipeE, free, lock, wipeE, is_number_int]
  · simp (disch := omega) [cN_eq, vw_r, vx_r, fz_r, argSl_r, stow_r, retv_r, List.getElem?_cons_zero, List.getElem?_cons_succ, free, szOk, lock, unlock, back, wipeE, g1, fAll, boolsD, lock, unlock, back, wipeE, Ct.frz, gGcd, g, d0, q.den_pos]
theorem sure_fraction_eq {n : Nat} (h : 3 ≤ n) (q : Rat) : callD fns n 10 [.d (frD q)] = some (.v (frD q), [.no]) := by
  apply W_get
  rw [callD_succ (by omega), Kit.sure_fraction (fns := fns)]
  refine mkFn_go rfl ?_
  simp (disch := omega) [b_sure_fraction, cN_eq, vw_r, vx_r, fz_r, argSl_r, stow_r, retv_r, List.getElem?_cons_zero, List.getElem?_cons_succ, free, szOk, lock, unlock, back, wipeE, tuple_of_id (fns := fns) 1 (tupN_fr q), is_fraction_eq, sure_true, free]
theorem power_eq {n : Nat} (h : 3 ≤ n) (q : Rat) (m : Nat) (hm : m < 1000) (hs : ∀ k, k ≤ m → Sm (q ^ k)) : callD fns n 14 [.d (frD q), .d (.int m)] = some (.v (frD (q ^ m)), [.no, .no]) := by
  apply W_get
  have s1 : m = 0 ∨ Sm q := by
    rcases Nat.eq_zero_or_pos m with h0 | h0
    · exact .inl h0
    · exact .inr (by have := hs 1 (by omega); simpa using this)
  have one : (PyData.tuple [PyData.int 1, PyData.int 1]) = frD (q ^ 0) := by rw [Rat.pow_zero]; rfl
  rw [callD_succ (by omega), Kit.power (fns := fns)]
  refine mkFn_go rfl ?_
  simp (disch := omega) [b_power, cN_eq, vw_r, vx_r, fz_r, argSl_r, stow_r, retv_r, List.getElem?_cons_zero, List.getElem?_cons_succ, free, szOk, lock, unlock, back, wipeE, free]
  rw [one]
  refine W_forN (List.range m) (fun done e => ∃ s, Jk s ∧ e = [.d (frD q), .d (.int m), .d (frD (q ^ done.length)), s]) (iR1_d rfl (by omega)) ⟨_, .inl rfl, rfl⟩ (fun done y rest e hy hp => ?_) (fun e hp => ?_)
  · obtain ⟨s, j, rfl⟩ := hp
    have hl : done.length < m := by have := congrArg List.length hy; simp at this; omega
    have sq : Sm q := by rcases s1 with h0 | h0; omega; exact h0
    have t := times_eq (fns := fns) (n := n - 1) (by omega) (hs done.length (by omega)) sq
    rw [← Rat.pow_succ] at t
    simp (disch := omega) [cN_eq, vw_r, vx_r, fz_r, argSl_r, stow_r, retv_r, List.getElem?_cons_zero, List.getElem?_cons_succ, free, szOk, lock, unlock, back, wipeE, free, t]
    exact hd ⟨.d (.int y), .inr ⟨_, rfl⟩, by simp⟩
  · obtain ⟨s, j, rfl⟩ := hp
    simp (disch := omega) [cN_eq, vw_r, vx_r, fz_r, argSl_r, stow_r, retv_r, List.getElem?_cons_zero, List.getElem?_cons_succ, free, szOk, lock, unlock, back, wipeE, unlock]
end
end MP

/-! Q2: data: compared, ordered; tables of terms. -/
namespace MP
open PySem
open PySem.W (dataLt alike alikeAll dataLt_int dataLt_tuple dataLt_cons dataLt_pair dataLt_ints rowLt dataLe dataLe_eq)
/-! nice data: no truth values, no dicts -/
inductive Nd : Nat → PyData → Prop
  | int {k : Nat} {i : Int} : Nd k (.int i)
  | non {k : Nat} : Nd k .none
  | str {k : Nat} {s : Str} : Nd k (.str s)
  | tup {k : Nat} {xs : List PyData} (h : ∀ x ∈ xs, Nd k x) : Nd (k + 1) (.tuple xs)
  | lst {k : Nat} {xs : List PyData} (h : ∀ x ∈ xs, Nd k x) : Nd (k + 1) (.list xs)
theorem Nd.more {k : Nat} {x : PyData} (h : Nd k x) : Nd (k + 1) x := by
  induction h with
  | int => exact .int
  | non => exact .non
  | str => exact .str
  | tup _ ih => exact .tup ih
  | lst _ ih => exact .lst ih
theorem Nd.le {k j : Nat} {x : PyData} (h : Nd k x) (hk : k ≤ j) : Nd j x := by
  induction j with
  | zero => obtain rfl : k = 0 := by omega
            exact h
  | succ j ih =>
    rcases Nat.lt_or_ge j k with h1 | h1
    · obtain rfl : k = j + 1 := by omega
      exact h
    · exact (ih h1).more
theorem Nd.plain {k : Nat} {x : PyData} (h : Nd k x) : x.plain = true := by
  have all : ∀ xs : List PyData, (∀ x ∈ xs, x.plain = true) → PyData.plainAll xs = true := fun xs => by
    induction xs with
    | nil => exact fun _ => rfl
    | cons x xs ih => intro h; rw [PyData.plainAll, h x List.mem_cons_self, ih fun y hy => h y (List.mem_cons_of_mem _ hy)]; rfl
  induction h with
  | int => rfl
  | non => rfl
  | str => rfl
  | tup _ ih => rw [PyData.plain]; exact all _ ih
  | lst _ ih => rw [PyData.plain]; exact all _ ih
theorem Nd.depth {k : Nat} {x : PyData} (h : Nd k x) : x.depth ≤ k := by
  have all : ∀ (xs : List PyData) (k : Nat), (∀ x ∈ xs, x.depth ≤ k) → PyData.depthAll xs ≤ k := fun xs k => by
    induction xs with
    | nil => exact fun _ => Nat.zero_le _
    | cons x xs ih => intro h; rw [PyData.depthAll]; exact Nat.max_le.mpr ⟨h x List.mem_cons_self, ih fun y hy => h y (List.mem_cons_of_mem _ hy)⟩
  induction h with
  | int => exact Nat.zero_le _
  | non => exact Nat.zero_le _
  | str => exact Nat.zero_le _
  | tup _ ih => rw [PyData.depth]; exact Nat.succ_le_succ (all _ _ ih)
  | lst _ ih => rw [PyData.depth]; exact Nat.succ_le_succ (all _ _ ih)
theorem eqvAll_iff : ∀ {xs ys : List PyData}, (∀ x ∈ xs, ∀ y, (∃ k, Nd k y) → (PyData.eqv x y = true ↔ x = y)) → (∀ y ∈ ys, ∃ k, Nd k y) → (PyData.eqvAll xs ys = true ↔ xs = ys)
  | [], [], _, _ => by simp [PyData.eqvAll]
  | [], _ :: _, _, _ => by simp [PyData.eqvAll]
  | _ :: _, [], _, _ => by simp [PyData.eqvAll]
  | x :: xs, y :: ys, h, k => by
    rw [PyData.eqvAll, Bool.and_eq_true, h x List.mem_cons_self y (k y List.mem_cons_self), eqvAll_iff (fun z hz => h z (List.mem_cons_of_mem _ hz)) (fun z hz => k z (List.mem_cons_of_mem _ hz)), List.cons.injEq]
theorem Nd.eqv {k : Nat} {x : PyData} (h : Nd k x) : ∀ y, (∃ j, Nd j y) → (PyData.eqv x y = true ↔ x = y) := by
  induction h with
  | int => rintro _ ⟨j, h⟩; cases h <;> simp [PyData.eqv]
  | non => rintro _ ⟨j, h⟩; cases h <;> simp [PyData.eqv]
  | str => rintro _ ⟨j, h⟩; cases h <;> simp [PyData.eqv]
  | tup _ ih =>
    rintro _ ⟨j, h⟩
    cases h with
    | tup h => rw [PyData.eqv, eqvAll_iff ih fun y hy => ⟨_, h y hy⟩, PyData.tuple.injEq]
    | _ => simp [PyData.eqv]
  | lst _ ih =>
    rintro _ ⟨j, h⟩
    cases h with
    | lst h => rw [PyData.eqv, eqvAll_iff ih fun y hy => ⟨_, h y hy⟩, PyData.list.injEq]
    | _ => simp [PyData.eqv]
theorem Nd.dpOk {k j : Nat} {x y : PyData} (h : Nd k x) (h' : Nd j y) (hk : k ≤ 60) : dpOk x y = true := by
  have := h.depth
  simp only [MP.dpOk, h.plain, h'.plain, Bool.and_self, Bool.true_and, decide_eq_true_eq]
  omega
theorem gEq_yes {k : Nat} {x y : PyData} (h : Nd k x) (hk : k ≤ 60) (e : x = y) : gEq x y = some (.v (.bool true)) := by
  subst e
  unfold gEq
  split
  · simp
  · rw [if_pos (h.dpOk h hk), (h.eqv _ ⟨_, h⟩).mpr rfl]
theorem gEq_no {k j : Nat} {x y : PyData} (h : Nd k x) (h' : Nd j y) (hk : k ≤ 60) (e : x ≠ y) : gEq x y = some (.v (.bool false)) := by
  unfold gEq
  split
  · simp only [ne_eq, PyData.int.injEq] at e; simp [e]
  · rw [if_pos (h.dpOk h' hk), Bool.eq_false_iff.mpr fun hh => e ((h.eqv _ ⟨_, h'⟩).mp hh)]
theorem gNe_yes {k j : Nat} {x y : PyData} (h : Nd k x) (h' : Nd j y) (hk : k ≤ 60) (e : x ≠ y) : gNe x y = some (.v (.bool true)) := by
  unfold gNe
  split
  · simp only [ne_eq, PyData.int.injEq] at e; simp [e]
  · rw [if_pos (h.dpOk h' hk), Bool.eq_false_iff.mpr fun hh => e ((h.eqv _ ⟨_, h'⟩).mp hh)]; rfl
theorem gNe_no {k : Nat} {x y : PyData} (h : Nd k x) (hk : k ≤ 60) (e : x = y) : gNe x y = some (.v (.bool false)) := by
  subst e
  unfold gNe
  split
  · simp
  · rw [if_pos (h.dpOk h hk), (h.eqv _ ⟨_, h⟩).mpr rfl]; rfl
theorem Nd.tupN {k : Nat} {x : PyData} (h : tupN k x) : Nd k x := by
  induction k generalizing x with
  | zero => obtain ⟨i, rfl⟩ := h; exact .int
  | succ k ih =>
    rcases h with ⟨i, rfl⟩ | ⟨xs, rfl, _, h⟩
    · exact .int
    · exact .tup fun y hy => ih (h y hy)
/-! powers, terms, polynomials -/
def exI (p : Ex) : List Int := p.map fun k : Nat => (k : Int)
def exD (p : Ex) : PyData := kD (exI p)
def tmD (c : Ex × Rat) : PyData := .tuple [exD c.1, frD c.2]
def plD (t : Pl) : PyData := .tuple (t.map tmD)
theorem exI_inj {p q : Ex} : exI p = exI q ↔ p = q := List.map_inj_right fun a b e => by omega
theorem exD_inj {p q : Ex} : exD p = exD q ↔ p = q := ⟨fun h => exI_inj.mp (kD_inj h), fun h => by rw [h]⟩
theorem tmD_inj {c d : Ex × Rat} : tmD c = tmD d ↔ c = d := by
  constructor
  · intro h
    simp only [tmD, PyData.tuple.injEq, List.cons.injEq, and_true] at h
    exact Prod.ext (exD_inj.mp h.1) (frD_inj.mp h.2)
  · rintro rfl; rfl
theorem plD_inj {t s : Pl} : plD t = plD s ↔ t = s := by
  constructor
  · intro h
    simp only [plD, PyData.tuple.injEq] at h
    exact (List.map_inj_right fun a b e => tmD_inj.mp e).mp h
  · rintro rfl; rfl
theorem tupN_frD {q : Rat} : tupN 1 (frD q) := tupN_fr q
theorem tupN_exD {p : Ex} (h : p.length ≤ 16777216) : tupN 1 (exD p) := .inr ⟨_, rfl, by simpa [exI] using h, fun y hy => by
  simp only [List.mem_map, exI] at hy
  obtain ⟨i, _, rfl⟩ := hy
  exact ⟨_, rfl⟩⟩
theorem tupN_tmD {c : Ex × Rat} (h : c.1.length ≤ 16777216) : tupN 2 (tmD c) := .inr ⟨_, rfl, by simp, fun y hy => by
  simp only [List.mem_cons, List.not_mem_nil, or_false] at hy
  rcases hy with rfl | rfl
  · exact tupN_exD h
  · exact tupN_fr _⟩
theorem tupN_plD {t : Pl} (hl : t.length ≤ 16777216) (h : ∀ c ∈ t, c.1.length ≤ 16777216) : tupN 3 (plD t) := .inr ⟨_, rfl, by simpa using hl, fun y hy => by
  obtain ⟨c, hc, rfl⟩ := List.mem_map.mp hy
  exact tupN_tmD (h c hc)⟩
theorem Nd_fr (q : Rat) : Nd 1 (frD q) := .tup fun y hy => by
  simp only [List.mem_cons, List.not_mem_nil, or_false] at hy
  rcases hy with rfl | rfl <;> exact .int
theorem Nd_ex (p : Ex) : Nd 1 (exD p) := .tup fun y hy => by
  obtain ⟨i, _, rfl⟩ := List.mem_map.mp hy
  exact .int
theorem Nd_tm (c : Ex × Rat) : Nd 2 (tmD c) := .tup fun y hy => by
  simp only [List.mem_cons, List.not_mem_nil, or_false] at hy
  rcases hy with rfl | rfl
  · exact Nd_ex _
  · exact Nd_fr _
theorem Nd_pl (t : Pl) : Nd 3 (plD t) := .tup fun y hy => by
  obtain ⟨c, _, rfl⟩ := List.mem_map.mp hy
  exact Nd_tm c
theorem gNe_fr0 (m : Rat) : gNe (frD m) (.tuple [.int 0, .int 1]) = some (.v (.bool (decide (m ≠ 0)))) := by
  by_cases h : m = 0
  · subst h; rfl
  · rw [← frD_zero, gNe_yes (Nd_fr m) (Nd_fr 0) (by omega) fun e => h (frD_inj.mp e)]; simp [h]
theorem gEq_fr0 (m : Rat) : gEq (frD m) (.tuple [.int 0, .int 1]) = some (.v (.bool (decide (m = 0)))) := by
  by_cases h : m = 0
  · subst h; rfl
  · rw [← frD_zero, gEq_no (Nd_fr m) (Nd_fr 0) (by omega) fun e => h (frD_inj.mp e)]; simp [h]
/-! order -/
def ordD (p : Ex) : PyData := .tuple [.int (-(p.sum : Int)), .tuple ((p.map fun k : Nat => -(k : Int)).map .int)]
theorem alike_ints : ∀ xs ys : List Int, alikeAll (xs.map .int) (ys.map .int) = true
  | [], ys => by cases ys <;> rfl
  | x :: xs, [] => rfl
  | x :: xs, y :: ys => by rw [List.map_cons, List.map_cons, alikeAll, alike_ints xs ys]; rfl
theorem alike_ord (p q : Ex) : alike (ordD p) (ordD q) = true := by
  simp only [ordD, alike, alikeAll, alike_ints, Bool.and_self]
theorem Nd_ord (p : Ex) : Nd 2 (ordD p) := .tup fun y hy => by
  simp only [List.mem_cons, List.not_mem_nil, or_false] at hy
  rcases hy with rfl | rfl
  · exact .int
  · exact .tup fun z hz => by
      obtain ⟨i, _, rfl⟩ := List.mem_map.mp hz
      exact .int
theorem dataLt_ord (p q : Ex) : dataLt (ordD p) (ordD q) = decide (exLt p q) := by
  unfold ordD
  rw [dataLt_pair (by rfl) (by rw [alike]; exact alike_ints _ _), dataLt_int, dataLt_tuple]
  have h := dataLt_ints (p.map fun k : Nat => -(k : Int)) (q.map fun k : Nat => -(k : Int))
  unfold rowLt at h
  rw [h]
  have e2 := PySem.W.ked_eqvAll (p.map fun k : Nat => -(k : Int)) (q.map fun k : Nat => -(k : Int))
  simp only [PyData.eqv, beq_iff_eq, e2]
  have ex : exLt p q ↔ (-(p.sum : Int) < -(q.sum : Int) ∨ (-(p.sum : Int) = -(q.sum : Int) ∧ (p.map fun k : Nat => -(k : Int)) < (q.map fun k : Nat => -(k : Int)))) := by
    unfold exLt okey
    rw [List.cons_lt_cons_iff]
  by_cases h1 : -(p.sum : Int) = -(q.sum : Int)
  · rw [if_pos h1]
    by_cases h2 : (p.map fun k : Nat => -(k : Int)) = (q.map fun k : Nat => -(k : Int))
    · have : ¬ exLt p q := by
        rw [ex, h2]
        rintro (h | h)
        · omega
        · exact List.lt_irrefl _ h.2
      simp [h2, this]
    · rw [if_neg (by simpa using h2)]
      exact decide_eq_decide.mpr (by rw [ex]; constructor; (intro h; exact .inr ⟨h1, h⟩); (rintro (h | h); omega; exact h.2))
  · rw [if_neg h1]
    exact decide_eq_decide.mpr (by rw [ex]; constructor; (intro h; exact .inl h); (rintro (h | h); exact h; exact absurd h.1 h1))
/-! tables -/
def kvT (T : Pl) : Kv := T.map fun c => (exI c.1, frD c.2)
theorem dFind_T (T : Pl) (p : Ex) : dFind (kvT T) (exI p) = (T.find? fun d => decide (d.1 = p)).map fun d => frD d.2 := by
  unfold dFind kvT
  induction T with
  | nil => rfl
  | cons c T ih =>
    rw [List.map_cons, List.find?_cons, List.find?_cons]
    by_cases h : c.1 = p
    · simp [h]
    · simp [h, exI_inj]
      simpa using ih
theorem isSome_T (T : Pl) (p : Ex) : (dFind (kvT T) (exI p)).isSome = (T.find? fun d => decide (d.1 = p)).isSome := by
  rw [dFind_T, Option.isSome_map]
theorem dPut_T (T : Pl) (p : Ex) (m : Rat) : dPut (kvT T) (exI p) (frD m) = kvT (if (T.find? fun d => decide (d.1 = p)).isSome then T.map (fun e => if e.1 = p then (e.1, m) else e) else T ++ [(p, m)]) := by
  unfold dPut
  rw [isSome_T]
  split
  · unfold kvT
    rw [List.map_map, List.map_map]
    refine List.map_congr_left fun c _ => ?_
    simp only [Function.comp, exI_inj]
    split <;> rfl
  · simp [kvT]
theorem dDel_T (T : Pl) (p : Ex) : dDel (kvT T) (exI p) = kvT (T.filter fun e => decide (e.1 ≠ p)) := by
  unfold dDel kvT
  rw [List.filter_map]
  congr 1
  refine List.filter_congr fun c _ => ?_
  simp [exI_inj]
theorem kvT_len (T : Pl) : (kvT T).length = T.length := List.length_map ..
theorem intK_ex (p : Ex) : intK (exD p) = some (exI p) := intK_kD _
theorem gIn_T (T : Pl) (p : Ex) : gIn (exD p) (Ct.dct (kvT T)).frz = some (.v (.bool (T.find? fun d => decide (d.1 = p)).isSome)) := by
  simp only [gIn, Ct.frz, exD, intK_kD, kvD_frz, Option.bind_some, isSome_T]
theorem gIx_T {T : Pl} {p : Ex} {d : Ex × Rat} (h : (T.find? fun d => decide (d.1 = p)) = some d) : gIx (Ct.dct (kvT T)).frz (exD p) = some (.v (frD d.2)) := by
  simp only [gIx, Ct.frz, exD, intK_kD, kvD_frz, Option.bind_some, dFind_T, h, Option.map_some]
theorem stSub_T {T : Pl} {p : Ex} {m : Rat} (h : T.length < 16777216) : stSub (.dct (kvT T)) (exD p) (frD m) = some (.dct (kvT (if (T.find? fun d => decide (d.1 = p)).isSome then T.map (fun e => if e.1 = p then (e.1, m) else e) else T ++ [(p, m)]))) := by
  simp only [stSub, exD, intK_kD, Option.bind_some, kvT_len, h, decide_true, if_true, dPut_T]
theorem fLenA_T (T : Pl) : fLenA (Ct.dct (kvT T)).frz = some (.v (.int (T.length : Nat))) := by
  simp only [fLenA, Ct.frz, kvD_frz, Option.map_some, kvT_len]
section
variable {fns : Nat → Orc → List Sl → Option (Rv × List Sl)} [Kit fns]
theorem added_to_eq {n : Nat} (h : 3 ≤ n) {T : Pl} {p : Ex} {c : Rat} (hc : Sm c) (hT : ∀ d ∈ T, Sm d.2) (hl : T.length < 16777216) : callD fns n 24 [.own (.dct (kvT T)), .d (exD p), .d (frD c)] = some (.v .none, [.own (.dct (kvT (addT T p c))), .no, .no]) := by
  apply W_get
  cases hf : T.find? (fun d => decide (d.1 = p)) with
  | none =>
    have e : addT T p c = if c = 0 then T else T ++ [(p, c)] := by unfold addT; rw [hf]
    by_cases h0 : c = 0
    · rw [e, if_pos h0]
      rw [callD_succ (by omega), Kit.added_to (fns := fns)]
      refine mkFn_go rfl ?_
      simp (disch := omega) [b_added_to, cN_eq, vw_r, vx_r, fz_r, argSl_r, stow_r, retv_r, List.getElem?_cons_zero, List.getElem?_cons_succ, free, szOk, lock, unlock, back, wipeE, gIn_T, hf, free, gNe_fr0, h0]
    · rw [e, if_neg h0]
      rw [callD_succ (by omega), Kit.added_to (fns := fns)]
      refine mkFn_go rfl ?_
      simp (disch := omega) [b_added_to, cN_eq, vw_r, vx_r, fz_r, argSl_r, stow_r, retv_r, List.getElem?_cons_zero, List.getElem?_cons_succ, free, szOk, lock, unlock, back, wipeE, gIn_T, hf, free, gNe_fr0, h0, stSub_T, hl]
  | some d =>
    have e : addT T p c = if d.2 + c = 0 then T.filter (fun e => decide (e.1 ≠ p)) else T.map (fun e => if e.1 = p then (e.1, d.2 + c) else e) := by unfold addT; rw [hf]
    have hp := plus_eq (fns := fns) (n := n - 1) (by omega) (hT d (List.mem_of_find?_eq_some hf)) hc
    by_cases h0 : d.2 + c = 0
    · rw [e, if_pos h0]
      rw [callD_succ (by omega), Kit.added_to (fns := fns)]
      refine mkFn_go rfl ?_
      simp (disch := omega) [b_added_to, cN_eq, vw_r, vx_r, fz_r, argSl_r, stow_r, retv_r, List.getElem?_cons_zero, List.getElem?_cons_succ, free, szOk, lock, unlock, back, wipeE, gIn_T, hf, gIx_T hf, hp, free, gNe_fr0, h0, intK_ex, isSome_T, dDel_T]
    · rw [e, if_neg h0]
      rw [callD_succ (by omega), Kit.added_to (fns := fns)]
      refine mkFn_go rfl ?_
      simp (disch := omega) [b_added_to, cN_eq, vw_r, vx_r, fz_r, argSl_r, stow_r, retv_r, List.getElem?_cons_zero, List.getElem?_cons_succ, free, szOk, lock, unlock, back, wipeE, gIn_T, hf, gIx_T hf, hp, free, gNe_fr0, h0, stSub_T, hl]
end
end MP

/-! Q3: sums and products of polynomials. -/
namespace MP
open PySem
open PySem.W (dataLt alike alikeAll dataLe dataLe_eq)
theorem Sm_of {D L : Nat} {a : Rat} (h : Fits D L) (h1 : Dv D a) (h2 : a.abs ≤ L) : Sm a := by
  obtain ⟨d0, hd, hl⟩ := h
  have e1 : a.den ≤ D := Nat.le_of_dvd (Nat.pos_of_ne_zero d0) (h1.den d0)
  have e2 := num_le h2
  have e3 : a.num.natAbs ≤ L * D := Nat.le_trans e2 (Nat.mul_le_mul_left _ e1)
  have e4 := log2_mul L D
  exact ⟨log2_le e3 (by omega), log2_le e1 (by omega)⟩
structure Raw (w g D L : Nat) (raw : Pl) : Prop where
  gd : ∀ c ∈ raw, Gd w g D c
  nr : nrm raw ≤ L
  ft : Fits D L
theorem Raw.pre {w g D L : Nat} {a b : Pl} (h : Raw w g D L (a ++ b)) : Raw w g D L a := ⟨fun c hc => h.gd c (List.mem_append_left _ hc), by
  have h1 := h.nr
  rw [nrm_append] at h1
  have h2 := nrm_nonneg (t := b)
  grind, h.ft⟩
theorem Raw.sm {w g D L : Nat} {raw : Pl} {c : Ex × Rat} (h : Raw w g D L raw) (hc : c ∈ raw) : Sm c.2 := Sm_of h.ft (h.gd c hc).2.2 (Rat.le_trans (abs_le_nrm hc) h.nr)
theorem Tab.sm {w g D L : Nat} {T raw : Pl} (t : Tab w g D T raw) (h : Raw w g D L raw) : ∀ d ∈ T, Sm d.2 := fun d hd => Sm_of h.ft (t.gd d hd).2.2 (Rat.le_trans (Rat.le_trans (abs_le_nrm hd) t.nr) h.nr)
theorem Cn.raw {w g D L : Nat} {t raw : Pl} (c : Cn w g D t raw) (h : Raw w g D L raw) : Raw w g D L t := ⟨c.gd, Rat.le_trans c.nr h.nr, h.ft⟩
theorem fSum_ex (p : Ex) : fSum (exD p) = some (.v (.int (p.sum : Nat))) := by
  have : intsD ((exI p).map .int) = some (exI p) := intsD_of _
  simp only [fSum, exD, kD, this, Option.map_some]
  congr 3
  clear this
  unfold exI
  induction p with
  | nil => rfl
  | cons k p ih => simp only [List.map_cons, List.sum_cons, Int.natCast_add]; rw [ih]
theorem iE_o {a : CE} {e e1 : En} {xs : List PyData} (h : a e = some (.o (.lst xs), e1)) : iE a e = some (xs, [], e1) := by
  simp [iE, h, seqD, owns, Ct.frz]
theorem iE_v {a : CE} {e e1 : En} {xs : List PyData} (h : a e = some (.v (.tuple xs), e1) ∨ a e = some (.v (.list xs), e1)) : iE a e = some (xs, [], e1) := by
  rcases h with h | h <;> simp [iE, h, seqD, owns]
theorem tup_ex {p : Ex} : exD p = .tuple (p.map fun k : Nat => PyData.int (k : Int)) := by
  simp [exD, kD, exI, Function.comp]
section
variable {fns : Nat → Orc → List Sl → Option (Rv × List Sl)} [Kit fns]
theorem powers_order_eq {n : Nat} (h : 1 ≤ n) (p : Ex) (hp : p.length ≤ 16777216) : callD fns n 18 [.d (exD p)] = some (.v (ordD p), [.no]) := by
  apply W_get
  rw [callD_succ (by omega), Kit.powers_order (fns := fns)]
  refine mkFn_go rfl ?_
  simp (disch := omega) [b_powers_order, cN_eq, vw_r, vx_r, fz_r, argSl_r, stow_r, retv_r, List.getElem?_cons_zero, List.getElem?_cons_succ, free, szOk, lock, unlock, back, wipeE, fSum_ex, g1]
  refine W_lcM (enc := fun k : Nat => .int (k : Int)) (enc' := .int) p (fun k : Nat => -(k : Int)) (iE_d (.inl (by rw [tup_ex]; rfl))) (by rfl) hp (fun y hy => ?_) ?_
  · simp (disch := omega) [cN_eq, vw_r, vx_r, fz_r, argSl_r, stow_r, retv_r, List.getElem?_cons_zero, List.getElem?_cons_succ, free, szOk, lock, unlock, back, wipeE, free, lock, wipeE]
  · simp (disch := omega) [cN_eq, vw_r, vx_r, fz_r, argSl_r, stow_r, retv_r, List.getElem?_cons_zero, List.getElem?_cons_succ, free, szOk, lock, unlock, back, wipeE, lock, unlock, back, wipeE, Ct.frz, fTuple, szOk, ordD]
theorem sortK_T {n : Nat} (h : 1 ≤ n) {T : Pl} (hl : T.length ≤ 16777216) (hx : ∀ c ∈ T, c.1.length ≤ 16777216) : gSortK false (callD fns n 18) (Ct.dct (kvT T)).frz = some (.o (.lst ((sortT T).map fun c => exD c.1))) := by
  have k : ∀ S : Pl, (∀ c ∈ S, c.1.length ≤ 16777216) → keysOf (callD fns n 18) (S.map fun c => exD c.1) = some (S.map fun c => ordD c.1) := by
    intro S hS
    induction S with
    | nil => rfl
    | cons c S ih =>
      rw [List.map_cons, keysOf, powers_order_eq h c.1 (hS c List.mem_cons_self)]
      simp only [ih fun d hd => hS d (List.mem_cons_of_mem _ hd), Option.map_some, List.map_cons]
  have e0 : (kvT T).map (fun p => kD p.1) = T.map fun c => exD c.1 := by simp [kvT, exD, Function.comp]
  have ok : sortOkB (T.map fun c => ordD c.1) = true := by
    unfold sortOkB
    simp only [Bool.and_eq_true, List.all_eq_true, List.mem_map, Bool.or_eq_true, decide_eq_true_eq]
    refine ⟨⟨?_, .inl ?_⟩, ?_⟩
    · rintro _ ⟨c, _, rfl⟩ _ ⟨d, _, rfl⟩; exact alike_ord _ _
    · rintro _ ⟨c, _, rfl⟩; rfl
    · rintro _ ⟨c, _, rfl⟩
      exact ⟨by have := (Nd_ord c.1).depth; omega, (Nd_ord c.1).plain⟩
  simp only [gSortK, Ct.frz, srcD, kvD_frz, Option.map_some, Option.bind_some, e0, k T hx, ok, List.length_map, szOk, decide_eq_true hl, Bool.and_self, if_true]
  congr 3
  unfold sortK
  rw [List.zip_map', ← List.map_mergeSort (r := fun a b : Ex × Rat => decide (okey a.1 ≤ okey b.1)) (f := fun c : Ex × Rat => (exD c.1, ordD c.1))]
  · rw [List.map_map]; rfl
  · intro a _ b _
    rw [dataLe_eq]
    simp only [cond_false, dataLt_ord]
    unfold exLt
    by_cases hlt : okey b.1 < okey a.1
    · have : ¬ okey a.1 ≤ okey b.1 := fun q => List.not_lt.mpr q hlt
      simp [hlt, this]
    · have : okey a.1 ≤ okey b.1 := List.not_lt.mp hlt
      simp [hlt, this]
theorem find_mem {T : Pl} (nd : (T.map (·.1)).Nodup) {c : Ex × Rat} (hc : c ∈ T) : (T.find? fun d => decide (d.1 = c.1)) = some c := by
  induction T with
  | nil => simp at hc
  | cons d T ih =>
    rw [List.map_cons, List.nodup_cons] at nd
    rw [List.find?_cons]
    rcases List.mem_cons.mp hc with rfl | hc
    · simp
    · have : d.1 ≠ c.1 := fun e => nd.1 (e ▸ List.mem_map.mpr ⟨c, hc, rfl⟩)
      simp [this, ih nd.2 hc]
theorem made_eq {n : Nat} (h : 2 ≤ n) {T : Pl} (nd : (T.map (·.1)).Nodup) (hl : T.length ≤ 5000) (hx : ∀ c ∈ T, c.1.length ≤ 16777216) : callD fns n 25 [.own (.dct (kvT T))] = some (.v (plD (sortT T)), [.own (.dct (kvT T))]) := by
  apply W_get
  have h5 : ¬ (5000 : Int) < (T.length : Nat) := by omega
  have sk := sortK_T (fns := fns) (n := n - 1) (by omega) (by omega : T.length ≤ 16777216) hx
  rw [callD_succ (by omega), Kit.made (fns := fns)]
  refine mkFn_go rfl ?_
  simp (disch := omega) [b_made, cN_eq, vw_r, vx_r, fz_r, argSl_r, stow_r, retv_r, List.getElem?_cons_zero, List.getElem?_cons_succ, free, szOk, lock, unlock, back, wipeE, g1, fLenA_T, h5]
  refine W_lcM (enc := fun c : Ex × Rat => exD c.1) (enc' := tmD) (sortT T) id (e1 := [.own (.dct (kvT T)), .no]) (wk := []) (iE_o (by
    apply W_get
    simp (disch := omega) [cN_eq, vw_r, vx_r, fz_r, argSl_r, stow_r, retv_r, List.getElem?_cons_zero, List.getElem?_cons_succ, free, szOk, lock, unlock, back, wipeE, sk])) (by rfl) (by rw [sortT_perm.length_eq]; omega) (fun y hy => ?_) ?_
  · have := gIx_T (find_mem nd (sortT_perm.mem_iff.mp hy))
    simp (disch := omega) [cN_eq, vw_r, vx_r, fz_r, argSl_r, stow_r, retv_r, List.getElem?_cons_zero, List.getElem?_cons_succ, free, szOk, lock, unlock, back, wipeE, free, lock, wipeE, this, szOk, tmD]
  · simp (disch := omega) [cN_eq, vw_r, vx_r, fz_r, argSl_r, stow_r, retv_r, List.getElem?_cons_zero, List.getElem?_cons_succ, free, szOk, lock, unlock, back, wipeE, lock, unlock, back, wipeE, Ct.frz, fTuple, plD]
theorem added_step {n : Nat} (h : 3 ≤ n) {w g D L : Nat} {T pre post raw : Pl} {c : Ex × Rat} (hr : Raw w g D L raw) (e : raw = pre ++ c :: post) (t : Tab w g D T pre) (hl : raw.length ≤ 16777215) :
    callD fns n 24 [.own (.dct (kvT T)), .d (exD c.1), .d (frD c.2)] = some (.v .none, [.own (.dct (kvT (addT T c.1 c.2))), .no, .no]) ∧ Tab w g D (addT T c.1 c.2) (pre ++ [c]) := by
  subst e
  refine ⟨added_to_eq h (hr.sm (by simp)) (t.sm hr.pre) (by have := t.ln; simp at hl; omega), t.add (hr.gd c (by simp))⟩
theorem summed_W {n : Nat} (h : 4 ≤ n) {w g D L : Nat} {ts : List Pl} (hr : Raw w g D L ts.flatten) (hl : ts.flatten.length ≤ 5000) (hw : w ≤ 16777216) :
    W (callD fns n 26 [.own (.lst (ts.map plD))]) fun p => ∃ t, p = (.v (plD t), [.own (.lst (ts.map plD))]) ∧ Cn w g D t ts.flatten := by
  rw [callD_succ (by omega), Kit.summed (fns := fns)]
  refine mkFn_go rfl ?_
  simp (disch := omega) [b_summed, cN_eq, vw_r, vx_r, fz_r, argSl_r, stow_r, retv_r, List.getElem?_cons_zero, List.getElem?_cons_succ, free, szOk, lock, unlock, back, wipeE, free]
  refine W_forN ts (fun done e => ∃ T s2 s3 s4, e = [.lk (.lst (ts.map plD)), .own (.dct (kvT T)), s2, s3, s4] ∧ Tab w g D T done.flatten ∧ Nz T) (iE_own rfl) ⟨[], .no, .no, .no, rfl, .nil, fun _ h => nomatch h⟩ (fun done y rest e hy hi => ?_) (fun e hi => ?_)
  · obtain ⟨T, s2, s3, s4, rfl, ht, hz⟩ := hi
    simp (disch := omega) [cN_eq, vw_r, vx_r, fz_r, argSl_r, stow_r, retv_r, List.getElem?_cons_zero, List.getElem?_cons_succ, free, szOk, lock, unlock, back, wipeE, free]
    refine W_forN y (fun done2 e => ∃ T s3 s4, e = [.lk (.lst (ts.map plD)), .own (.dct (kvT T)), .d (plD y), s3, s4] ∧ Tab w g D T (done.flatten ++ done2) ∧ Nz T) (enc := tmD) (iE_d (.inl rfl)) ⟨T, s3, s4, rfl, by simpa using ht, hz⟩ (fun done2 c rest2 e2 hy2 hi2 => ?_) (fun e2 hi2 => ?_)
    · obtain ⟨T, s3, s4, rfl, ht, hz⟩ := hi2
      obtain ⟨k1, k2⟩ := added_step (fns := fns) (n := n - 1) (by omega) (c := c) (pre := done.flatten ++ done2) (post := rest2 ++ rest.flatten) hr (by rw [hy, hy2]; simp) ht (by omega)
      simp (disch := omega) [cN_eq, vw_r, vx_r, fz_r, argSl_r, stow_r, retv_r, List.getElem?_cons_zero, List.getElem?_cons_succ, free, szOk, lock, unlock, back, wipeE, free, tmD, k1]
      exact hd ⟨_, _, _, rfl, by simpa using k2, hz.add⟩
    · obtain ⟨T, s3, s4, rfl, ht, hz⟩ := hi2
      simp (disch := omega) [cN_eq, vw_r, vx_r, fz_r, argSl_r, stow_r, retv_r, List.getElem?_cons_zero, List.getElem?_cons_succ, free, szOk, lock, unlock, back, wipeE, unlock]
      exact hd ⟨_, _, _, _, rfl, by simpa using ht, hz⟩
  · obtain ⟨T, s2, s3, s4, rfl, ht, hz⟩ := hi
    have m := made_eq (fns := fns) (n := n - 1) (by omega) ht.nd (by have := ht.ln; omega) (fun c hc => by have := (ht.gd c hc).1; omega)
    simp (disch := omega) [cN_eq, vw_r, vx_r, fz_r, argSl_r, stow_r, retv_r, List.getElem?_cons_zero, List.getElem?_cons_succ, free, szOk, lock, unlock, back, wipeE, unlock, m]
    exact ⟨_, rfl, ht.cn hz⟩
end
end MP

/-! Q4: products of polynomials, with bounds. -/
namespace MP
open PySem
/-- a polynomial with bounds: letters, degree, terms, common under number, sum of sizes -/
structure Bd (w g n D L : Nat) (t : Pl) : Prop where
  can : Can w t
  gd : ∀ c ∈ t, Gd w g D c
  nr : nrm t ≤ L
  ln : t.length ≤ n
theorem Rat_le_of_nat {a b : Nat} (h : a ≤ b) : (a : Rat) ≤ (b : Rat) := by exact_mod_cast h
theorem Gd.more {w g D g' E : Nat} {c : Ex × Rat} (h : Gd w g D c) (hg : g ≤ g') : Gd w g' (D * E) c := ⟨h.1, Nat.le_trans h.2.1 hg, h.2.2.more⟩
theorem Gd.le {w g D g' : Nat} {c : Ex × Rat} (h : Gd w g D c) (hg : g ≤ g') : Gd w g' D c := ⟨h.1, Nat.le_trans h.2.1 hg, h.2.2⟩
theorem Bd.more {w g n D L g' n' L' : Nat} {t : Pl} (h : Bd w g n D L t) (E : Nat) (hg : g ≤ g') (hn : n ≤ n') (hL : L ≤ L') : Bd w g' n' (D * E) L' t :=
  ⟨h.can, fun c hc => (h.gd c hc).more hg, Rat.le_trans h.nr (Rat_le_of_nat hL), Nat.le_trans h.ln hn⟩
theorem Bd.le {w g n D L g' n' L' : Nat} {t : Pl} (h : Bd w g n D L t) (hg : g ≤ g') (hn : n ≤ n') (hL : L ≤ L') : Bd w g' n' D L' t :=
  ⟨h.can, fun c hc => (h.gd c hc).le hg, Rat.le_trans h.nr (Rat_le_of_nat hL), Nat.le_trans h.ln hn⟩
theorem Bd.raw {w g n D L : Nat} {t : Pl} (h : Bd w g n D L t) (f : Fits D L) : Raw w g D L t := ⟨h.gd, h.nr, f⟩
theorem Bd.sm {w g n D L : Nat} {t : Pl} (h : Bd w g n D L t) (f : Fits D L) {c : Ex × Rat} (hc : c ∈ t) : Sm c.2 := (h.raw f).sm hc
theorem Fits.le {D L D' L' : Nat} (h : Fits D L) (h0 : D' ≠ 0) (h1 : D' ≤ D) (h2 : L' ≤ L) : Fits D' L' := ⟨h0, log2_le h1 h.2.1, log2_le h2 h.2.2⟩
/-! products -/
def addEx (p q : Ex) : Ex := List.zipWith (· + ·) p q
def rawMul (a b : Pl) : Pl := a.flatMap fun c => b.map fun d => (addEx c.1 d.1, c.2 * d.2)
theorem pow_add' (a : Rat) (j k : Nat) : a ^ (j + k) = a ^ j * a ^ k := by
  induction k with
  | zero => rw [Nat.add_zero, Rat.pow_zero]; grind
  | succ k ih => rw [← Nat.add_assoc, Rat.pow_succ, Rat.pow_succ, ih]; grind
theorem mono_add : ∀ (x : List Rat) (p q : Ex), p.length = q.length → mono x (addEx p q) = mono x p * mono x q
  | [], p, q, _ => by
    have h : ∀ r : Ex, mono [] r = 1 := fun r => by cases r <;> rfl
    rw [h, h, h]; grind
  | _ :: _, [], [], _ => by simp [addEx, mono]
  | x :: xs, j :: p, k :: q, h => by
    have ih := mono_add xs p q (by simpa using h)
    simp only [addEx] at ih
    simp only [addEx, List.zipWith_cons_cons, mono, ih, pow_add']
    grind
  | _ :: _, [], _ :: _, h => by simp at h
  | _ :: _, _ :: _, [], h => by simp at h
theorem addEx_sum : ∀ (p q : Ex), p.length = q.length → (addEx p q).sum = p.sum + q.sum
  | [], [], _ => rfl
  | j :: p, k :: q, h => by
    have ih := addEx_sum p q (by simpa using h)
    simp only [addEx] at ih
    simp only [addEx, List.zipWith_cons_cons, List.sum_cons, ih]
    omega
  | [], _ :: _, h => by simp at h
  | _ :: _, [], h => by simp at h
theorem rawMul_len (a b : Pl) : (rawMul a b).length = a.length * b.length := by
  induction a with
  | nil => simp [rawMul]
  | cons c a ih =>
    simp only [rawMul] at ih
    simp only [rawMul, List.flatMap_cons, List.length_append, List.length_map, ih, List.length_cons]
    rw [Nat.add_mul]; omega
theorem ev_nil (x : List Rat) : ev [] x = 0 := rfl
theorem ev_cons (c : Ex × Rat) (t : Pl) (x : List Rat) : ev (c :: t) x = c.2 * mono x c.1 + ev t x := rfl
theorem ev_append (t s : Pl) (x : List Rat) : ev (t ++ s) x = ev t x + ev s x := lin_append
theorem ev_rawMul {w : Nat} {a b : Pl} (ha : ∀ c ∈ a, c.1.length = w) (hb : ∀ c ∈ b, c.1.length = w) (x : List Rat) : ev (rawMul a b) x = ev a x * ev b x := by
  induction a with
  | nil => simp [rawMul, ev_nil]
  | cons c a ih =>
    have ih := ih fun d hd => ha d (List.mem_cons_of_mem _ hd)
    have hc := ha c List.mem_cons_self
    have row : ∀ b : Pl, (∀ d ∈ b, d.1.length = w) → ev (b.map fun d => (addEx c.1 d.1, c.2 * d.2)) x = c.2 * mono x c.1 * ev b x := by
      intro b hb
      induction b with
      | nil => simp [ev_nil]
      | cons d b ih =>
        rw [List.map_cons, ev_cons, ih fun e he => hb e (List.mem_cons_of_mem _ he), ev_cons, mono_add x c.1 d.1 (by rw [hc, hb d List.mem_cons_self])]
        grind
    simp only [rawMul] at ih
    simp only [rawMul, List.flatMap_cons]
    rw [ev_append, ih, row b hb, ev_cons]
    grind
theorem nrm_rawMul (a b : Pl) : nrm (rawMul a b) = nrm a * nrm b := by
  induction a with
  | nil => simp [rawMul, nrm]
  | cons c a ih =>
    have row : nrm (b.map fun d => (addEx c.1 d.1, c.2 * d.2)) = c.2.abs * nrm b := by
      clear ih
      induction b with
      | nil => simp [nrm]
      | cons d b ih => rw [List.map_cons, nrm, ih, nrm, abs_mul]; grind
    simp only [rawMul] at ih
    simp only [rawMul, List.flatMap_cons]
    rw [nrm_append, ih, row, nrm]
    grind
theorem mem_rawMul {a b : Pl} {e : Ex × Rat} (h : e ∈ rawMul a b) : ∃ c ∈ a, ∃ d ∈ b, e = (addEx c.1 d.1, c.2 * d.2) := by
  obtain ⟨c, hc, h⟩ := List.mem_flatMap.mp h
  obtain ⟨d, hd, rfl⟩ := List.mem_map.mp h
  exact ⟨c, hc, d, hd, rfl⟩
theorem rawMul_raw {w g1 D1 L1 g2 D2 L2 n1 n2 : Nat} {a b : Pl} (ha : Bd w g1 n1 D1 L1 a) (hb : Bd w g2 n2 D2 L2 b) (f : Fits (D1 * D2) (L1 * L2)) : Raw w (g1 + g2) (D1 * D2) (L1 * L2) (rawMul a b) := by
  refine ⟨fun e he => ?_, ?_, f⟩
  · obtain ⟨c, hc, d, hd, rfl⟩ := mem_rawMul he
    obtain ⟨c1, c2, c3⟩ := ha.gd c hc
    obtain ⟨d1, d2, d3⟩ := hb.gd d hd
    refine ⟨?_, ?_, c3.mul d3⟩
    · simp only [addEx, List.length_zipWith]; omega
    · rw [addEx_sum c.1 d.1 (by omega)]; omega
  · rw [nrm_rawMul, Rat.natCast_mul]
    have h1 := ha.nr
    have h2 := hb.nr
    have h3 := nrm_nonneg (t := a)
    have h4 := nrm_nonneg (t := b)
    exact Rat.le_trans (Rat.mul_le_mul_of_nonneg_right h1 h4) (Rat.mul_le_mul_of_nonneg_left h2 (Rat.le_trans h3 h1))
theorem zip_ex (p q : Ex) : PyData.tuple ((p.zip q).map (fun d : Nat × Nat => PyData.int ((d.1 : Int) + (d.2 : Int)))) = exD (addEx p q) := by
  simp only [tup_ex, addEx, List.zip, List.map_zipWith, Int.natCast_add]
/-- zip of two tuples in slots -/
theorem iZip_d {e : En} {xs ys : List PyData} {i j : Nat} (h : e[i]? = some (.d (.tuple xs))) (h' : e[j]? = some (.d (.tuple ys))) : iZip (cN i) (cN j) e = some ((xs.zip ys).map (fun p => .tuple [p.1, p.2]), [], e) := by
  simp [iZip, cN_eq, h, h', seqD, owns]
section
variable {fns : Nat → Orc → List Sl → Option (Rv × List Sl)} [Kit fns]
theorem product_raw {n : Nat} (h : 4 ≤ n) {w g D L : Nat} {a b : Pl} (hr : Raw w g D L (rawMul a b)) (hl : a.length * b.length ≤ 5000) (hw : w ≤ 16777216) (ha : ∀ c ∈ a, c.1.length = w ∧ Sm c.2) (hb : ∀ c ∈ b, c.1.length = w ∧ Sm c.2) :
    W (callD fns n 28 [.d (plD a), .d (plD b)]) fun p => ∃ t, p = (.v (plD t), [.no, .no]) ∧ Cn w g D t (rawMul a b) := by
  have hrl := rawMul_len a b
  rw [callD_succ (by omega), Kit.product (fns := fns)]
  refine mkFn_go rfl ?_
  simp (disch := omega) [b_product, cN_eq, vw_r, vx_r, fz_r, argSl_r, stow_r, retv_r, List.getElem?_cons_zero, List.getElem?_cons_succ, free, szOk, lock, unlock, back, wipeE, free]
  refine W_forN a (fun done e => ∃ T s3 s4 s5 s6 s7 s8, Jk s7 ∧ Jk s8 ∧ e = [.d (plD a), .d (plD b), .own (.dct (kvT T)), s3, s4, s5, s6, s7, s8] ∧ Tab w g D T (rawMul done b) ∧ Nz T) (enc := tmD) (iE_d (.inl rfl)) ⟨[], .no, .no, .no, .no, .no, .no, .inl rfl, .inl rfl, rfl, .nil, fun _ h => nomatch h⟩ (fun done c rest e hy hi => ?_) (fun e hi => ?_)
  · obtain ⟨T, s3, s4, s5, s6, s7, s8, j7, j8, rfl, ht, hz⟩ := hi
    have hca : c ∈ a := by rw [hy]; simp
    simp (disch := omega) [cN_eq, vw_r, vx_r, fz_r, argSl_r, stow_r, retv_r, List.getElem?_cons_zero, List.getElem?_cons_succ, free, szOk, lock, unlock, back, wipeE, free, tmD]
    refine W_forN b (fun done2 e => ∃ T s5 s6 s7 s8, Jk s7 ∧ Jk s8 ∧ e = [.d (plD a), .d (plD b), .own (.dct (kvT T)), .d (exD c.1), .d (frD c.2), s5, s6, s7, s8] ∧ Tab w g D T (rawMul done b ++ done2.map fun d => (addEx c.1 d.1, c.2 * d.2)) ∧ Nz T) (enc := tmD) (iE_d (.inl rfl)) ⟨T, s5, s6, s7, s8, j7, j8, rfl, by simpa using ht, hz⟩ (fun done2 d rest2 e2 hy2 hi2 => ?_) (fun e2 hi2 => ?_)
    · obtain ⟨T, s5, s6, s7, s8, j7, j8, rfl, ht, hz⟩ := hi2
      have hdb : d ∈ b := by rw [hy2]; simp
      obtain ⟨k1, k2⟩ := added_step (fns := fns) (n := n - 1) (by omega) (c := (addEx c.1 d.1, c.2 * d.2)) (pre := rawMul done b ++ done2.map fun d => (addEx c.1 d.1, c.2 * d.2)) (post := (rest2.map fun d => (addEx c.1 d.1, c.2 * d.2)) ++ rawMul rest b) hr (by
        rw [hy, rawMul, rawMul, rawMul, List.flatMap_append, List.flatMap_cons]
        conv => lhs; rw [show b.map (fun d => (addEx c.1 d.1, c.2 * d.2)) = (done2 ++ d :: rest2).map (fun d => (addEx c.1 d.1, c.2 * d.2)) by rw [← hy2]]
        simp only [List.map_append, List.map_cons, List.append_assoc, List.cons_append]) ht (by omega)
      have tm := times_eq (fns := fns) (n := n - 1) (by omega) (ha c hca).2 (hb d hdb).2
      simp (disch := omega) [cN_eq, vw_r, vx_r, fz_r, argSl_r, stow_r, retv_r, List.getElem?_cons_zero, List.getElem?_cons_succ, free, szOk, lock, unlock, back, wipeE, free, tmD]
      refine W_lcM (enc := fun z : Nat × Nat => .tuple [.int (z.1 : Int), .int (z.2 : Int)]) (enc' := fun z : Nat × Nat => .int ((z.1 : Int) + (z.2 : Int))) (c.1.zip d.1) id (e1 := [.d (plD a), .d (plD b), .own (.dct (kvT T)), .d (exD c.1), .d (frD c.2), .d (exD d.1), .d (frD d.2), s7, s8]) (wk := []) (by
        rw [iZip_d (xs := c.1.map fun k : Nat => .int (k : Int)) (ys := d.1.map fun k : Nat => .int (k : Int)) (by simp [tup_ex]) (by simp [tup_ex])]
        simp [List.zip_map, Function.comp]) (by rcases j7 with rfl | ⟨x, rfl⟩ <;> rcases j8 with rfl | ⟨y, rfl⟩ <;> rfl) (by have := (ha c hca).1; simp; omega) (fun z hz => ?_) ?_
      · simp (disch := omega) [cN_eq, vw_r, vx_r, fz_r, argSl_r, stow_r, retv_r, List.getElem?_cons_zero, List.getElem?_cons_succ, free, szOk, lock, unlock, back, wipeE, free, lock, wipeE]
      · simp (disch := omega) [cN_eq, vw_r, vx_r, fz_r, argSl_r, stow_r, retv_r, List.getElem?_cons_zero, List.getElem?_cons_succ, free, szOk, lock, unlock, back, wipeE, lock, unlock, back, wipeE, Ct.frz, fTuple, g1, zip_ex, tm, k1]
        exact hd ⟨_, _, _, _, _, j7, j8, rfl, by simpa using k2, hz.add⟩
    · obtain ⟨T, s5, s6, s7, s8, j7, j8, rfl, ht, hz⟩ := hi2
      simp (disch := omega) [cN_eq, vw_r, vx_r, fz_r, argSl_r, stow_r, retv_r, List.getElem?_cons_zero, List.getElem?_cons_succ, free, szOk, lock, unlock, back, wipeE, unlock]
      exact hd ⟨_, _, _, _, _, _, _, j7, j8, rfl, by simpa [rawMul] using ht, hz⟩
  · obtain ⟨T, s3, s4, s5, s6, s7, s8, j7, j8, rfl, ht, hz⟩ := hi
    have m := made_eq (fns := fns) (n := n - 1) (by omega) ht.nd (by have := ht.ln; omega) (fun c hc => by have := (ht.gd c hc).1; omega)
    simp (disch := omega) [cN_eq, vw_r, vx_r, fz_r, argSl_r, stow_r, retv_r, List.getElem?_cons_zero, List.getElem?_cons_succ, free, szOk, lock, unlock, back, wipeE, unlock, m]
    exact ⟨_, rfl, ht.cn hz⟩
theorem product_W {n : Nat} (h : 4 ≤ n) {w g1 D1 L1 g2 D2 L2 n1 n2 : Nat} {a b : Pl} (ha : Bd w g1 n1 D1 L1 a) (hb : Bd w g2 n2 D2 L2 b) (f1 : Fits D1 L1) (f2 : Fits D2 L2) (f : Fits (D1 * D2) (L1 * L2)) (hl : n1 * n2 ≤ 5000) (hw : w ≤ 16777216) :
    W (callD fns n 28 [.d (plD a), .d (plD b)]) fun p => ∃ t, p = (.v (plD t), [.no, .no]) ∧ Bd w (g1 + g2) (n1 * n2) (D1 * D2) (L1 * L2) t ∧ ∀ x, ev t x = ev a x * ev b x := by
  have hr := rawMul_raw ha hb f
  have hlen : a.length * b.length ≤ n1 * n2 := Nat.mul_le_mul ha.ln hb.ln
  refine W_mono (product_raw h hr (Nat.le_trans hlen hl) hw (fun c hc => ⟨(ha.gd c hc).1, ha.sm f1 hc⟩) (fun c hc => ⟨(hb.gd c hc).1, hb.sm f2 hc⟩)) ?_
  rintro _ ⟨t, rfl, ht⟩
  refine ⟨t, rfl, ⟨ht.can, ht.gd, Rat.le_trans ht.nr hr.nr, ?_⟩, fun x => (ht.ev x).trans (ev_rawMul (fun c hc => (ha.gd c hc).1) (fun c hc => (hb.gd c hc).1) x)⟩
  have := ht.ln
  rw [rawMul_len] at this
  omega
end
end MP

/-! Q5: numbers, powers, polynomials put in. -/
namespace MP
open PySem
def numP (w : Nat) (c : Rat) : Pl := if c = 0 then [] else [(List.replicate w 0, c)]
theorem mono_zero : ∀ (x : List Rat) (w : Nat), mono x (List.replicate w 0) = 1
  | [], w => by cases w <;> rfl
  | x :: xs, 0 => rfl
  | x :: xs, w + 1 => by rw [List.replicate_succ, mono, mono_zero xs w, Rat.pow_zero]; grind
theorem ev_num (w : Nat) (c : Rat) (x : List Rat) : ev (numP w c) x = c := by
  unfold numP
  split
  · rename_i h; rw [h, ev_nil]
  · rw [ev_cons, ev_nil, mono_zero]; grind
theorem Bd_num {w D L : Nat} {c : Rat} (h : Dv D c) (hL : c.abs ≤ L) : Bd w 0 1 D L (numP w c) := by
  unfold numP
  split
  · refine ⟨⟨fun c h => (nomatch h), fun c h => (nomatch h), List.Pairwise.nil⟩, fun c h => (nomatch h), ?_, by simp⟩
    simp only [nrm]; exact Rat_le_of_nat (Nat.zero_le L)
  · rename_i h0
    refine ⟨⟨fun e he => ?_, fun e he => ?_, by simp⟩, fun e he => ?_, ?_, by simp⟩
    · simp at he; subst he; simp
    · simp at he; subst he; exact h0
    · simp at he; subst he; exact ⟨by simp, by simp, h⟩
    · simp only [nrm]; grind
theorem zeros_D (w : Nat) : exD (List.replicate w 0) = .tuple (List.replicate w (.int 0)) := by
  simp [tup_ex]
theorem gMulA_zeros {w : Nat} (h1 : 1 ≤ w) (h2 : w ≤ 1000) : gMulA (.tuple [.int 0]) (.int w) = some (.v (exD (List.replicate w 0))) := by
  rw [zeros_D]
  unfold gMulA
  simp only
  split
  · rename_i h; have : w = 1 := by omega
    subst this; rfl
  · rename_i h
    unfold gMul
    simp only
    rw [if_pos]
    · simp
    · simp; omega
theorem gMulA_rep {x : PyData} {m : Nat} (h : m ≤ 10000) : gMulA (.list [x]) (.int m) = some (.o (.lst (List.replicate m x))) := by
  have h' : (m : Int) ≤ 10000 := by omega
  simp [gMulA, gMul, h']
def prodR : List Rat → Rat
  | [] => 1
  | x :: xs => x * prodR xs
theorem prodR_snoc (xs : List Rat) (x : Rat) : prodR (xs ++ [x]) = prodR xs * x := by
  induction xs with
  | nil => simp [prodR]
  | cons y ys ih => simp only [List.cons_append, prodR, ih]; grind
theorem prodR_rep (x : Rat) (m : Nat) : prodR (List.replicate m x) = x ^ m := by
  induction m with
  | zero => rw [Rat.pow_zero]; rfl
  | succ m ih => rw [List.replicate_succ, prodR, ih, Rat.pow_succ]; grind
theorem dFind_put (kvs : Kv) (k k' : List Int) (d : PyData) : dFind (dPut kvs k d) k' = if k' = k then some d else dFind kvs k' := by
  unfold dPut
  split
  · rename_i h
    induction kvs with
    | nil => simp [dFind] at h
    | cons p ps ih =>
      unfold dFind at h ih ⊢
      rw [List.map_cons, List.find?_cons, List.find?_cons]
      by_cases h1 : p.1 = k
      · by_cases h2 : k' = k
        · subst h2; simp [h1]
        · have e1 : ¬ p.1 = k' := fun e => h2 (e.symm.trans h1)
          have e2 : ¬ k = k' := fun e => h2 e.symm
          simp only [h1, if_true, e2, decide_false, Bool.false_eq_true, if_false]
          rw [h1] at e1
          simp only [h2, if_false]
          congr 1
          clear ih h
          induction ps with
          | nil => rfl
          | cons q qs ih =>
            rw [List.map_cons, List.find?_cons, List.find?_cons]
            by_cases h3 : q.1 = k
            · simp [h3, e2, ih]
            · simp only [h3, if_false]
              by_cases h4 : q.1 = k'
              · simp [h4]
              · simp [h4, ih]
      · have hs : ((ps.find? fun p => decide (p.1 = k)).map (·.2)).isSome = true := by
          rw [List.find?_cons] at h
          simpa [h1] using h
        simp only [h1, if_false]
        by_cases h2 : p.1 = k'
        · have : ¬ k' = k := fun e => h1 (h2.trans e)
          simp [h2, this]
        · simp only [h2, decide_false]
          exact ih hs
  · rename_i h
    unfold dFind at h ⊢
    rw [List.find?_append]
    by_cases h2 : k' = k
    · subst h2
      cases hh : kvs.find? (fun p => decide (p.1 = k')) with
      | none => simp
      | some x => rw [hh] at h; simp at h
    · have e2 : ¬ k = k' := fun e => h2 e.symm
      simp [h2, e2, List.find?_cons]
theorem dPut_len (kvs : Kv) (k : List Int) (d : PyData) : (dPut kvs k d).length ≤ kvs.length + 1 := by
  unfold dPut; split <;> simp
theorem iEnum_d {e : En} {xs : List PyData} {i : Nat} (h : e[i]? = some (.d (.tuple xs)) ∨ e[i]? = some (.d (.list xs))) : iEnum (cN i) e = some (xs.zipIdx.map (fun p => .tuple [.int p.2, p.1]), [], e) := by
  rcases h with h | h <;> simp [iEnum, cN_eq, h, seqD, owns]
theorem zipIdx_at {α : Type} {xs : List α} {done rest : List (α × Nat)} {m : α} {k : Nat} (h : xs.zipIdx = done ++ (m, k) :: rest) : k = done.length ∧ xs[k]? = some m := by
  have h1 : xs.zipIdx[done.length]? = some (m, k) := by rw [h]; simp
  rw [List.getElem?_zipIdx] at h1
  cases hx : xs[done.length]? with
  | none => rw [hx] at h1; simp at h1
  | some y =>
    rw [hx] at h1
    simp at h1
    obtain ⟨rfl, rfl⟩ := h1
    exact ⟨rfl, hx⟩
/-- the values so often as told -/
def pz (vs : List Rat) : List (Nat × Nat) → Rat
  | [] => 1
  | z :: r => (vs.getD z.2 0) ^ z.1 * pz vs r
theorem pz_snoc (vs : List Rat) (a : List (Nat × Nat)) (z : Nat × Nat) : pz vs (a ++ [z]) = pz vs a * (vs.getD z.2 0) ^ z.1 := by
  induction a with
  | nil => simp [pz]
  | cons y ys ih => simp only [List.cons_append, pz, ih]; grind
theorem pz_mono (vs : List Rat) : ∀ (p : Ex) (j : Nat), j + p.length ≤ vs.length → pz vs (p.zipIdx j) = mono (vs.drop j) p
  | [], j, _ => by cases vs.drop j <;> rfl
  | m :: p, j, h => by
    have hj : j < vs.length := by simp at h; omega
    rw [List.zipIdx_cons, pz, pz_mono vs p (j + 1) (by simp at h ⊢; omega), List.drop_eq_getElem_cons hj, mono]
    simp [List.getD_eq_getElem?_getD, List.getElem?_eq_getElem hj]
theorem pow_pos' {D k : Nat} (h : 1 ≤ D) : 1 ≤ D ^ k := Nat.one_le_iff_ne_zero.mpr (Nat.pow_ne_zero_iff_of_pos h) where
  Nat.pow_ne_zero_iff_of_pos {D k : Nat} (h : 1 ≤ D) : D ^ k ≠ 0 := by
    have := Nat.pow_pos (n := k) h; omega
theorem Fits.pow {D L j k : Nat} (h : Fits (D ^ k) (L ^ k)) (hj : j ≤ k) (hD : 1 ≤ D) (hL : 1 ≤ L) : Fits (D ^ j) (L ^ j) :=
  h.le (by have := Nat.pow_pos (n := j) hD; omega) (Nat.pow_le_pow_right hD hj) (Nat.pow_le_pow_right hL hj)
section
variable {fns : Nat → Orc → List Sl → Option (Rv × List Sl)} [Kit fns]
theorem number_eq {n : Nat} (h : 1 ≤ n) {w : Nat} {c : Rat} (h1 : 1 ≤ w) (h2 : w ≤ 1000) : callD fns n 30 [.d (.int w), .d (frD c)] = some (.v (plD (numP w c)), [.no, .no]) := by
  apply W_get
  by_cases h0 : c = 0
  · rw [callD_succ (by omega), Kit.number (fns := fns)]
    refine mkFn_go rfl ?_
    simp (disch := omega) [b_number, cN_eq, vw_r, vx_r, fz_r, argSl_r, stow_r, retv_r, List.getElem?_cons_zero, List.getElem?_cons_succ, free, szOk, lock, unlock, back, wipeE, gEq_fr0, h0, szOk]
    rfl
  · rw [callD_succ (by omega), Kit.number (fns := fns)]
    refine mkFn_go rfl ?_
    simp (disch := omega) [b_number, cN_eq, vw_r, vx_r, fz_r, argSl_r, stow_r, retv_r, List.getElem?_cons_zero, List.getElem?_cons_succ, free, szOk, lock, unlock, back, wipeE, gEq_fr0, h0, szOk, gMulA_zeros h1 h2]
    simp [numP, h0, plD, tmD]
theorem multiplied_W {n : Nat} (h : 5 ≤ n) {w g k D L : Nat} {ts : List Pl} (hw1 : 1 ≤ w) (hw2 : w ≤ 1000) (hts : ∀ t ∈ ts, Bd w g k D L t) (hD : 1 ≤ D) (hL : 1 ≤ L) (hk : 1 ≤ k) (f : Fits (D ^ ts.length) (L ^ ts.length)) (hl : k ^ ts.length ≤ 5000) :
    W (callD fns n 29 [.d (.int w), .own (.lst (ts.map plD))]) fun p => ∃ t, p = (.v (plD t), [.no, .own (.lst (ts.map plD))]) ∧ Bd w (ts.length * g) (k ^ ts.length) (D ^ ts.length) (L ^ ts.length) t ∧ ∀ x, ev t x = prodR (ts.map fun t => ev t x) := by
  have nm := number_eq (fns := fns) (n := n - 1) (by omega) (w := w) (c := 1) hw1 hw2
  rw [frD_one] at nm
  rw [callD_succ (by omega), Kit.multiplied (fns := fns)]
  refine mkFn_go rfl ?_
  simp (disch := omega) [b_multiplied, cN_eq, vw_r, vx_r, fz_r, argSl_r, stow_r, retv_r, List.getElem?_cons_zero, List.getElem?_cons_succ, free, szOk, lock, unlock, back, wipeE, free, nm]
  refine W_forN ts (fun done e => ∃ t s3, e = [.d (.int w), .lk (.lst (ts.map plD)), .d (plD t), s3] ∧ Bd w (done.length * g) (k ^ done.length) (D ^ done.length) (L ^ done.length) t ∧ ∀ x, ev t x = prodR (done.map fun t => ev t x)) (enc := plD) (iE_own rfl) ⟨numP w 1, .no, rfl, by simpa using Bd_num (w := w) (L := 1) (D := 1) (c := 1) Dv.one (by decide), fun x => ev_num w 1 x⟩ (fun done y rest e hy hi => ?_) (fun e hi => ?_)
  · obtain ⟨t, s3, rfl, hb, he⟩ := hi
    have hlen : done.length + 1 ≤ ts.length := by rw [hy]; simp
    have hyb := hts y (by rw [hy]; simp)
    have f1 : Fits (D ^ 1) (L ^ 1) := f.pow (by omega) hD hL
    rw [Nat.pow_one, Nat.pow_one] at f1
    have pw := product_W (fns := fns) (n := n - 1) (by omega) hb hyb (f.pow (by omega) hD hL) f1 (by rw [← Nat.pow_succ, ← Nat.pow_succ]; exact f.pow (by omega) hD hL) (by rw [← Nat.pow_succ]; exact Nat.le_trans (Nat.pow_le_pow_right hk hlen) hl) (by omega)
    simp (disch := omega) [cN_eq, vw_r, vx_r, fz_r, argSl_r, stow_r, retv_r, List.getElem?_cons_zero, List.getElem?_cons_succ, free, szOk, lock, unlock, back, wipeE, free]
    refine W_mono pw ?_
    rintro _ ⟨t', rfl, hb', he'⟩
    simp (disch := omega) [cN_eq, vw_r, vx_r, fz_r, argSl_r, stow_r, retv_r, List.getElem?_cons_zero, List.getElem?_cons_succ, free, szOk, lock, unlock, back, wipeE, free]
    refine hd ⟨t', _, rfl, ?_, fun x => ?_⟩
    · rw [List.length_append, List.length_singleton, Nat.pow_succ, Nat.pow_succ, Nat.pow_succ, Nat.succ_mul]; exact hb'
    · rw [he', he, List.map_append, List.map_singleton, prodR_snoc]
  · obtain ⟨t, s3, rfl, hb, he⟩ := hi
    simp (disch := omega) [cN_eq, vw_r, vx_r, fz_r, argSl_r, stow_r, retv_r, List.getElem?_cons_zero, List.getElem?_cons_succ, free, szOk, lock, unlock, back, wipeE, unlock]
    exact ⟨t, rfl, hb, he⟩
/-- so often with itself -/
theorem multiplied_rep {n : Nat} (h : 5 ≤ n) {w g k D L m : Nat} {so : Pl} (hw1 : 1 ≤ w) (hw2 : w ≤ 1000) (hso : Bd w g k D L so) (hD : 1 ≤ D) (hL : 1 ≤ L) (hk : 1 ≤ k) (f : Fits (D ^ m) (L ^ m)) (hl : k ^ m ≤ 5000) :
    W (callD fns n 29 [.d (.int w), .own (.lst (List.replicate m (plD so)))]) fun p => ∃ t, p = (.v (plD t), [.no, .own (.lst (List.replicate m (plD so)))]) ∧ Bd w (m * g) (k ^ m) (D ^ m) (L ^ m) t ∧ ∀ x, ev t x = (ev so x) ^ m := by
  have := multiplied_W (fns := fns) h (ts := List.replicate m so) hw1 hw2 (fun t ht => by rw [List.eq_of_mem_replicate ht]; exact hso) hD hL hk (by simpa using f) (by simpa using hl)
  rw [List.map_replicate] at this
  refine W_mono this ?_
  rintro _ ⟨t, rfl, hb, he⟩
  simp only [List.length_replicate] at hb
  exact ⟨t, rfl, hb, fun x => by rw [he, List.map_replicate, prodR_rep]⟩
structure Kn (w g1 n1 D1 L1 : Nat) (some_ : List Pl) (kvs : Kv) : Prop where
  ok : ∀ (k m : Nat) (d : PyData), dFind kvs [(k : Int), (m : Int)] = some d → ∃ t so, some_[k]? = some so ∧ d = plD t ∧ Bd w (m * g1) (n1 ^ m) (D1 ^ m) (L1 ^ m) t ∧ ∀ x, ev t x = (ev so x) ^ m
theorem put_for_W {n : Nat} (h : 6 ≤ n) {w g0 n0 D0 L0 g1 n1 D1 L1 : Nat} {own : Pl} {so : List Pl} (hw1 : 1 ≤ w) (hw2 : w ≤ 1000) (ho : Bd so.length g0 n0 D0 L0 own) (hs : ∀ t ∈ so, Bd w g1 n1 D1 L1 t)
    (hk : so.length ≤ 1000) (hg0 : g0 ≤ 1000) (hD0 : 1 ≤ D0) (hL0 : 1 ≤ L0) (hD1 : 1 ≤ D1) (hL1 : 1 ≤ L1) (hn0 : 1 ≤ n0) (hn1 : 1 ≤ n1) (f : Fits (D0 * D1 ^ g0) (n0 * (L0 * L1 ^ g0))) (hl : n0 * n1 ^ g0 ≤ 5000) :
    W (callD fns n 109 [.d (.int w), .d (plD own), .d (.tuple (so.map plD))]) fun p => ∃ t, p = (.v (plD t), [.no, .no, .no]) ∧ Bd w (g0 * g1) (n0 * n1 ^ g0) (D0 * D1 ^ g0) (n0 * (L0 * L1 ^ g0)) t ∧ ∀ x, ev t x = ev own (so.map fun t => ev t x) := by
  have pD : 1 ≤ D1 ^ g0 := Nat.pow_pos hD1
  have pL : 1 ≤ L1 ^ g0 := Nat.pow_pos hL1
  have pn : 1 ≤ n1 ^ g0 := Nat.pow_pos hn1
  have fit : ∀ s, s ≤ g0 → Fits (D0 * D1 ^ s) (L0 * L1 ^ s) := fun s hs => f.le (by have := Nat.mul_pos hD0 (Nat.pow_pos (n := s) hD1); omega) (Nat.mul_le_mul_left _ (Nat.pow_le_pow_right hD1 hs)) (Nat.le_trans (Nat.mul_le_mul_left _ (Nat.pow_le_pow_right hL1 hs)) (Nat.le_mul_of_pos_left _ hn0))
  have fit1 : ∀ s, s ≤ g0 → Fits (D1 ^ s) (L1 ^ s) := fun s hs => (fit s hs).le (by have := Nat.pow_pos (n := s) hD1; omega) (Nat.le_mul_of_pos_left _ hD0) (Nat.le_mul_of_pos_left _ hL0)
  have nn : ∀ s, s ≤ g0 → n1 ^ s ≤ 5000 := fun s hs => Nat.le_trans (Nat.le_trans (Nat.pow_le_pow_right hn1 hs) (Nat.le_mul_of_pos_left _ hn0)) hl
  have n05 : n0 ≤ 5000 := Nat.le_trans (Nat.le_mul_of_pos_right _ pn) hl
  rw [callD_succ (by omega), Kit.put_for (fns := fns)]
  refine mkFn_go rfl ?_
  simp (disch := omega) [b_put_for, cN_eq, vw_r, vx_r, fz_r, argSl_r, stow_r, retv_r, List.getElem?_cons_zero, List.getElem?_cons_succ, free, szOk, lock, unlock, back, wipeE]
  refine W_forN own (fun done e => ∃ rows kvs s5 s6 s7 s8 s9, e = [.d (.int w), .d (plD own), .d (.tuple (so.map plD)), .own (.lst (rows.map plD)), .own (.dct kvs), s5, s6, s7, s8, s9] ∧ Kn w g1 n1 D1 L1 so kvs ∧ kvs.length ≤ done.length * so.length ∧ rows.length = done.length ∧ (∀ r ∈ rows, Bd w (g0 * g1) (n1 ^ g0) (D0 * D1 ^ g0) (L0 * L1 ^ g0) r) ∧ ∀ x, ev rows.flatten x = ev done (so.map fun t => ev t x)) (enc := tmD) (iE_d (.inl rfl))
    ⟨[], [], .no, .no, .no, .no, .no, rfl, ⟨fun k m d h => by simp [dFind] at h⟩, by simp, rfl, fun r h => (nomatch h), fun x => rfl⟩ (fun done c rest e hy hi => ?_) (fun e hi => ?_)
  · obtain ⟨rows, kvs, s5, s6, s7, s8, s9, rfl, hK, hkl, hrl, hrows, hev⟩ := hi
    have hc : c ∈ own := by rw [hy]; simp
    obtain ⟨hc1, hc2, hc3⟩ := ho.gd c hc
    have hcL : c.2.abs ≤ L0 := Rat.le_trans (abs_le_nrm hc) ho.nr
    have hdl : done.length + 1 ≤ n0 := by have := ho.ln; rw [hy] at this; simp at this; omega
    simp (disch := omega) [cN_eq, vw_r, vx_r, fz_r, argSl_r, stow_r, retv_r, List.getElem?_cons_zero, List.getElem?_cons_succ, free, szOk, lock, unlock, back, wipeE, free, tmD, number_eq (fns := fns) (n := n - 1) (by omega) (w := w) (c := c.2) hw1 hw2]
    refine W_forN c.1.zipIdx (fun done2 e => ∃ r kvs s8 s9, e = [.d (.int w), .d (plD own), .d (.tuple (so.map plD)), .own (.lst (rows.map plD)), .own (.dct kvs), .d (exD c.1), .d (frD c.2), .d (plD r), s8, s9] ∧ Kn w g1 n1 D1 L1 so kvs ∧ kvs.length ≤ done.length * so.length + done2.length ∧ (done2.map (·.1)).sum ≤ g0 ∧ Bd w ((done2.map (·.1)).sum * g1) (n1 ^ (done2.map (·.1)).sum) (D0 * D1 ^ (done2.map (·.1)).sum) (L0 * L1 ^ (done2.map (·.1)).sum) r ∧ ∀ x, ev r x = c.2 * pz (so.map fun t => ev t x) done2)
      (enc := fun z : Nat × Nat => .tuple [.int z.2, .int z.1]) (e1 := [.d (.int w), .d (plD own), .d (.tuple (so.map plD)), .own (.lst (rows.map plD)), .own (.dct kvs), .d (exD c.1), .d (frD c.2), .d (plD (numP w c.2)), s8, s9]) (wk := []) (by
        rw [iEnum_d (xs := c.1.map fun k : Nat => .int (k : Int)) (.inl (by simp [tup_ex]))]
        simp [List.zipIdx_map, Function.comp]) ⟨numP w c.2, kvs, s8, s9, rfl, hK, by simpa using hkl, by simp, by simpa using Bd_num (w := w) hc3 hcL, fun x => by simp only [pz]; rw [ev_num]; grind⟩ (fun done2 z rest2 e2 hy2 hi2 => ?_) (fun e2 hi2 => ?_)
    · obtain ⟨r, kvs, s8, s9, rfl, hK, hkl, hsum, hb, he⟩ := hi2
      obtain ⟨m, k⟩ := z
      obtain ⟨hk1, hk2⟩ := zipIdx_at hy2
      have hkl2 : k < so.length := by have := (List.getElem?_eq_some_iff.mp hk2).1; omega
      have hd2 : done2.length + 1 ≤ so.length := by omega
      have hms : ((done2 ++ [(m, k)]).map (·.1)).sum ≤ g0 := by
        have : (c.1.zipIdx.map (·.1)).sum ≤ g0 := by rw [List.zipIdx_map_fst]; exact hc2
        rw [hy2] at this
        simp at this ⊢
        omega
      have hms' : (done2.map (·.1)).sum + m ≤ g0 := by simpa using hms
      have hso : so[k]? = some so[k] := List.getElem?_eq_getElem hkl2
      have hsob := hs so[k] (List.getElem_mem hkl2)
      have hkv : kvs.length < 16777216 := by
        have : done.length * so.length ≤ 5000 * 1000 := Nat.mul_le_mul (by omega) hk
        omega
      by_cases hm : m = 0
      · subst hm
        simp (disch := omega) [cN_eq, vw_r, vx_r, fz_r, argSl_r, stow_r, retv_r, List.getElem?_cons_zero, List.getElem?_cons_succ, free, szOk, lock, unlock, back, wipeE, free]
        refine hd ⟨r, kvs, _, _, rfl, hK, by simp; omega, hms, by simpa using hb, fun x => ?_⟩
        rw [he, pz_snoc, Rat.pow_zero]; grind
      · have hm0 : 0 < m := by omega
        have mr := multiplied_rep (fns := fns) (n := n - 1) (by omega) (m := m) hw1 hw2 hsob hD1 hL1 hn1 (fit1 m (by omega)) (nn m (by omega))
        have step : ∀ (kvs : Kv) (t : Pl), dFind kvs [(k : Int), (m : Int)] = some (plD t) → Bd w (m * g1) (n1 ^ m) (D1 ^ m) (L1 ^ m) t → (∀ x, ev t x = (ev so[k] x) ^ m) →
            gIx (Ct.dct kvs).frz (.tuple [.int k, .int m]) = some (.v (plD t)) ∧ W (callD fns (n - 1) 28 [.d (plD r), .d (plD t)]) fun p => ∃ t', p = (.v (plD t'), [.no, .no]) ∧ Bd w (((done2 ++ [(m, k)]).map (·.1)).sum * g1) (n1 ^ ((done2 ++ [(m, k)]).map (·.1)).sum) (D0 * D1 ^ ((done2 ++ [(m, k)]).map (·.1)).sum) (L0 * L1 ^ ((done2 ++ [(m, k)]).map (·.1)).sum) t' ∧ ∀ x, ev t' x = c.2 * pz (so.map fun t => ev t x) (done2 ++ [(m, k)]) := by
          intro kvs t hfind htb hte
          refine ⟨?_, ?_⟩
          · have ik : intK (.tuple [.int (k : Int), .int (m : Int)]) = some [(k : Int), (m : Int)] := rfl
            simp only [gIx, Ct.frz, kvD_frz, ik, Option.bind_some, hfind, Option.map_some]
          have pw := product_W (fns := fns) (n := n - 1) (by omega) hb htb (fit _ hsum) (fit1 m (by omega)) (by
            rw [Nat.mul_assoc, ← Nat.pow_add, Nat.mul_assoc, ← Nat.pow_add]; exact fit _ hms') (by rw [← Nat.pow_add]; exact nn _ hms') (by omega)
          refine W_mono pw ?_
          rintro _ ⟨t', rfl, hb', he'⟩
          refine ⟨t', rfl, ?_, fun x => ?_⟩
          · have e1 : ((done2 ++ [(m, k)]).map (·.1)).sum = (done2.map (·.1)).sum + m := by simp
            rw [e1, Nat.add_mul, Nat.pow_add, Nat.pow_add, Nat.pow_add, ← Nat.mul_assoc, ← Nat.mul_assoc]
            exact hb'
          · rw [he', he, pz_snoc, hte]
            have : (so.map fun t => ev t x).getD k 0 = ev so[k] x := by simp [List.getD_eq_getElem?_getD, List.getElem?_map, hso]
            simp only [this]
            grind
        have ik : intK (.tuple [.int (k : Int), .int (m : Int)]) = some [(k : Int), (m : Int)] := rfl
        cases hf : dFind kvs [(k : Int), (m : Int)] with
        | some d =>
          obtain ⟨t, so', q1, rfl, q3, q4⟩ := hK.ok k m d hf
          rw [hso] at q1
          cases q1
          have nin : gNotIn (.tuple [.int (k : Int), .int (m : Int)]) (Ct.dct kvs).frz = some (.v (.bool false)) := by
            simp only [gNotIn, Ct.frz, kvD_frz, ik, Option.bind_some, hf]; rfl
          obtain ⟨gx, pw⟩ := step kvs t hf q3 q4
          simp (disch := omega) [cN_eq, vw_r, vx_r, fz_r, argSl_r, stow_r, retv_r, List.getElem?_cons_zero, List.getElem?_cons_succ, free, szOk, lock, unlock, back, wipeE, hm0, nin, gx]
          refine W_mono pw ?_
          rintro _ ⟨t', rfl, hb', he'⟩
          simp (disch := omega) [cN_eq, vw_r, vx_r, fz_r, argSl_r, stow_r, retv_r, List.getElem?_cons_zero, List.getElem?_cons_succ, free, szOk, lock, unlock, back, wipeE]
          exact hd ⟨t', kvs, _, _, rfl, hK, by simp; omega, hms, hb', he'⟩
        | none =>
          have nin : gNotIn (.tuple [.int (k : Int), .int (m : Int)]) (Ct.dct kvs).frz = some (.v (.bool true)) := by
            simp only [gNotIn, Ct.frz, kvD_frz, ik, Option.bind_some, hf]; rfl
          have gk : gIx (.tuple (so.map plD)) (.int (k : Nat)) = some (.v (plD so[k])) := gIxT (by rw [List.getElem?_map, hso]; rfl)
          have gm := gMulA_rep (x := plD so[k]) (m := m) (by omega)
          simp (disch := omega) [cN_eq, vw_r, vx_r, fz_r, argSl_r, stow_r, retv_r, List.getElem?_cons_zero, List.getElem?_cons_succ, free, szOk, lock, unlock, back, wipeE, free, hm0, szOk, nin, gk, gm]
          refine W_mono mr ?_
          rintro _ ⟨t, rfl, htb, hte⟩
          have st : stSub (.dct kvs) (.tuple [.int (k : Int), .int (m : Int)]) (plD t) = some (.dct (dPut kvs [(k : Int), (m : Int)] (plD t))) := by
            simp only [stSub, ik, Option.bind_some, hkv, decide_true, if_true]
          obtain ⟨gx, pw⟩ := step (dPut kvs [(k : Int), (m : Int)] (plD t)) t (by rw [dFind_put, if_pos rfl]) htb hte
          simp (disch := omega) [cN_eq, vw_r, vx_r, fz_r, argSl_r, stow_r, retv_r, List.getElem?_cons_zero, List.getElem?_cons_succ, free, szOk, lock, unlock, back, wipeE, st, gx]
          refine W_mono pw ?_
          rintro _ ⟨t', rfl, hb', he'⟩
          simp (disch := omega) [cN_eq, vw_r, vx_r, fz_r, argSl_r, stow_r, retv_r, List.getElem?_cons_zero, List.getElem?_cons_succ, free, szOk, lock, unlock, back, wipeE]
          refine hd ⟨t', _, _, _, rfl, ⟨fun k' m' d hd => ?_⟩, by have := dPut_len kvs [(k : Int), (m : Int)] (plD t); simp; omega, hms, hb', he'⟩
          rw [dFind_put] at hd
          split at hd
          · rename_i he
            simp only [List.cons.injEq, and_true] at he
            have e1 : k' = k := by omega
            have e2 : m' = m := by omega
            subst e1 e2
            cases hd
            exact ⟨t, so[k'], hso, rfl, htb, hte⟩
          · exact hK.ok k' m' d hd
    · obtain ⟨r, kvs, s8, s9, rfl, hK, hkl, hsum, hb, he⟩ := hi2
      have hz : c.1.zipIdx.length = so.length := by simp [hc1]
      rw [hz] at hkl
      rw [List.zipIdx_map_fst] at hsum hb
      have ap : mAppend (.lst (rows.map plD)) [plD r] = some (.none, .lst ((rows ++ [r]).map plD)) := by
        have : rows.length < 16777216 := by omega
        simp [mAppend, this]
      simp (disch := omega) [cN_eq, vw_r, vx_r, fz_r, argSl_r, stow_r, retv_r, List.getElem?_cons_zero, List.getElem?_cons_succ, free, szOk, lock, unlock, back, wipeE, unlock, isLst, ap]
      refine hd ⟨rows ++ [r], kvs, _, _, _, _, _, by rw [List.map_append]; rfl, hK, by simp [Nat.add_mul]; omega, by simp [hrl], fun q hq => ?_, fun x => ?_⟩
      · rcases List.mem_append.mp hq with hq | hq
        · exact hrows q hq
        · simp at hq
          subst hq
          have e1 : D0 * D1 ^ g0 = D0 * D1 ^ c.1.sum * D1 ^ (g0 - c.1.sum) := by
            rw [Nat.mul_assoc, ← Nat.pow_add]; congr 2; omega
          rw [e1]
          exact hb.more _ (Nat.mul_le_mul_right _ hsum) (Nat.pow_le_pow_right hn1 hsum) (Nat.mul_le_mul_left _ (Nat.pow_le_pow_right hL1 hsum))
      · rw [List.flatten_append, ev_append, hev x, ev_append, List.flatten_singleton, he, pz_mono _ _ 0 (by simp [hc1]), ev_cons, ev_nil]
        simp; grind
  · obtain ⟨rows, kvs, s5, s6, s7, s8, s9, rfl, hK, hkl, hrl, hrows, hev⟩ := hi
    have hrn : rows.length ≤ n0 := by have := ho.ln; omega
    have raw : ∀ rs : List Pl, (∀ r ∈ rs, Bd w (g0 * g1) (n1 ^ g0) (D0 * D1 ^ g0) (L0 * L1 ^ g0) r) → (∀ c ∈ rs.flatten, Gd w (g0 * g1) (D0 * D1 ^ g0) c) ∧ nrm rs.flatten ≤ ((rs.length * (L0 * L1 ^ g0) : Nat) : Rat) ∧ rs.flatten.length ≤ rs.length * n1 ^ g0 := by
      intro rs
      induction rs with
      | nil => exact fun _ => ⟨fun c h => (nomatch h), by simp [nrm], by simp⟩
      | cons r rs ih =>
        intro hr
        obtain ⟨i1, i2, i3⟩ := ih fun q hq => hr q (List.mem_cons_of_mem _ hq)
        have hb := hr r List.mem_cons_self
        refine ⟨fun c hc => ?_, ?_, ?_⟩
        · rw [List.flatten_cons] at hc
          rcases List.mem_append.mp hc with hc | hc
          · exact hb.gd c hc
          · exact i1 c hc
        · rw [List.flatten_cons, nrm_append, List.length_cons, Nat.succ_mul, Rat.natCast_add]
          have := hb.nr
          grind
        · rw [List.flatten_cons, List.length_append, List.length_cons, Nat.succ_mul]
          have := hb.ln
          omega
    obtain ⟨r1, r2, r3⟩ := raw rows hrows
    have hraw : Raw w (g0 * g1) (D0 * D1 ^ g0) (n0 * (L0 * L1 ^ g0)) rows.flatten := ⟨r1, Rat.le_trans r2 (Rat_le_of_nat (Nat.mul_le_mul_right _ hrn)), f⟩
    have hfl : rows.flatten.length ≤ n0 * n1 ^ g0 := Nat.le_trans r3 (Nat.mul_le_mul_right _ hrn)
    have sw := summed_W (fns := fns) (n := n - 1) (by omega) hraw (Nat.le_trans hfl hl) (by omega)
    simp (disch := omega) [cN_eq, vw_r, vx_r, fz_r, argSl_r, stow_r, retv_r, List.getElem?_cons_zero, List.getElem?_cons_succ, free, szOk, lock, unlock, back, wipeE, unlock]
    refine W_mono sw ?_
    rintro _ ⟨t, rfl, ht⟩
    simp (disch := omega) [cN_eq, vw_r, vx_r, fz_r, argSl_r, stow_r, retv_r, List.getElem?_cons_zero, List.getElem?_cons_succ, free, szOk, lock, unlock, back, wipeE, unlock]
    exact ⟨t, rfl, ⟨ht.can, ht.gd, Rat.le_trans ht.nr hraw.nr, Nat.le_trans ht.ln hfl⟩, fun x => (ht.ev x).trans (hev x)⟩
end
end MP

/-! Q6: what is looked at; values. -/
namespace MP
open PySem
@[simp] theorem all_yes {α : Type} (xs : List α) : (xs.all fun _ => true) = true := by simp [List.all_eq_true]
theorem fAll_comp {α : Type} (p : α → Bool) (xs : List α) : fAll (.list (xs.map (PyData.bool ∘ p))) = some (.v (.bool (xs.all p))) := fAll_map p xs
/-- D times it is whole; it is at most L in size -/
def Sz (D L : Nat) (a : Rat) : Prop := Dv D a ∧ a.abs ≤ (L : Rat)
theorem Sz.sm {D L : Nat} {a : Rat} (h : Sz D L a) (f : Fits D L) : Sm a := Sm_of f h.1 h.2
theorem nat_cast_nonneg (n : Nat) : (0 : Rat) ≤ (n : Rat) := by exact_mod_cast Nat.zero_le n
theorem Sz.mul {D L E M : Nat} {a b : Rat} (h : Sz D L a) (h' : Sz E M b) : Sz (D * E) (L * M) (a * b) := ⟨h.1.mul h'.1, by
  rw [abs_mul, Rat.natCast_mul]
  exact Rat.le_trans (Rat.mul_le_mul_of_nonneg_right h.2 (abs_nonneg b)) (Rat.mul_le_mul_of_nonneg_left h'.2 (nat_cast_nonneg L))⟩
theorem Sz.add {D L M : Nat} {a b : Rat} (h : Sz D L a) (h' : Sz D M b) : Sz D (L + M) (a + b) := ⟨h.1.add h'.1, by
  rw [Rat.natCast_add]
  have := abs_add a b
  have := h.2
  have := h'.2
  grind⟩
theorem Sz.le {D L M : Nat} {a : Rat} (h : Sz D L a) (hL : L ≤ M) : Sz D M a := ⟨h.1, Rat.le_trans h.2 (Rat_le_of_nat hL)⟩
theorem Sz.more {D L : Nat} {a : Rat} (h : Sz D L a) (E : Nat) : Sz (D * E) L a := ⟨h.1.more, h.2⟩
theorem Sz.one {D L : Nat} (h : 1 ≤ L) : Sz D L 1 := ⟨Dv.one, by
  have := Rat_le_of_nat h
  have e : (1 : Rat).abs = ((1 : Nat) : Rat) := by decide
  rw [e]; exact this⟩
theorem Sz.zero {D L : Nat} : Sz D L 0 := ⟨Dv.zero, by
  have e : (0 : Rat).abs = 0 := by decide
  rw [e]; exact nat_cast_nonneg L⟩
theorem Sz.neg {D L : Nat} {a : Rat} (h : Sz D L a) : Sz D L (-a) := ⟨h.1.neg, by rw [abs_neg]; exact h.2⟩
theorem Sz.pow {D L : Nat} {a : Rat} (h : Sz D L a) : ∀ k : Nat, Sz (D ^ k) (L ^ k) (a ^ k)
  | 0 => by rw [Rat.pow_zero]; exact Sz.one (by simp)
  | k + 1 => by rw [Rat.pow_succ, Nat.pow_succ, Nat.pow_succ]; exact (Sz.pow h k).mul h
theorem Bd.sz {w g n D L : Nat} {t : Pl} (h : Bd w g n D L t) {c : Ex × Rat} (hc : c ∈ t) : Sz D L c.2 := ⟨(h.gd c hc).2.2, Rat.le_trans (abs_le_nrm hc) h.nr⟩
def ptD (x : List Rat) : PyData := .tuple (x.map frD)
theorem Nd_pt (x : List Rat) : Nd 2 (ptD x) := .tup fun y hy => by
  obtain ⟨q, _, rfl⟩ := List.mem_map.mp hy
  exact Nd_fr q
theorem tupN_pt {x : List Rat} (h : x.length ≤ 16777216) : tupN 2 (ptD x) := .inr ⟨_, rfl, by simpa using h, fun y hy => by
  obtain ⟨q, _, rfl⟩ := List.mem_map.mp hy
  exact tupN_fr q⟩
theorem gLt_ord (p q : Ex) : gLt (ordD p) (ordD q) = some (.v (.bool (decide (exLt p q)))) := by
  have h : ltOk (ordD p) (ordD q) = true := by
    have h1 := (Nd_ord p).plain
    have h2 := (Nd_ord q).plain
    have h3 := (Nd_ord p).depth
    simp only [ltOk, alike_ord, h1, h2, Bool.and_self, Bool.true_and]
    have : min (ordD p).depth (ordD q).depth ≤ 60 := by omega
    simp only [this, decide_true, Bool.true_and]
    rfl
  have e : gLt (ordD p) (ordD q) = if ltOk (ordD p) (ordD q) then some (.v (.bool (PySem.W.dataLt (ordD p) (ordD q)))) else none := rfl
  rw [e, if_pos h, dataLt_ord]
theorem iR1_int {a : CE} {e e1 : En} {j : Int} {op : Op} (h : a e = some (op, e1)) (hv : vw e1 op = some (.int j)) (hj : small62 j = true) : iRange1 a e = some ((List.range j.toNat).map (fun k : Nat => PyData.int k), [], e1) := by
  unfold iRange1
  rw [h]
  simp only [Option.bind_some, hv, hj, if_true, rangeD_nat]
section
variable {fns : Nat → Orc → List Sl → Option (Rv × List Sl)} [Kit fns]
theorem is_powers_eq {n w : Nat} (h : 5 ≤ n) {p : Ex} (h1 : 1 ≤ w) (h2 : w ≤ 4) (hp : p.length = w) : callD fns n 19 [.d (.int w), .d (exD p)] = some (.v (.bool true), [.no, .no]) := by
  apply W_get
  have sw := sure_wide_int (fns := fns) (n := n - 1) (by omega) (w : Int) (by omega) (by omega)
  have tp := is_tuple_of_eq (fns := fns) (n := n - 1) (by omega) (p.map fun k : Nat => .int (k : Int)) w
  rw [← tup_ex, List.length_map, hp] at tp
  rw [callD_succ (by omega), Kit.is_powers (fns := fns)]
  refine mkFn_go rfl ?_
  simp (disch := omega) [b_is_powers, cN_eq, vw_r, vx_r, fz_r, argSl_r, stow_r, retv_r, List.getElem?_cons_zero, List.getElem?_cons_succ, free, szOk, lock, unlock, back, wipeE, sw, tp]
  refine W_lcM (enc := fun k : Nat => .int (k : Int)) (enc' := .bool) p (fun _ => true) (iE_d (.inl (by rw [tup_ex]; rfl))) (by rfl) (by omega) (fun y hy => ?_) ?_
  · have : (0 : Int) ≤ (y : Int) := by omega
    simp (disch := omega) [cN_eq, vw_r, vx_r, fz_r, argSl_r, stow_r, retv_r, List.getElem?_cons_zero, List.getElem?_cons_succ, free, szOk, lock, unlock, back, wipeE, is_from_int, this]
  · simp (disch := omega) [cN_eq, vw_r, vx_r, fz_r, argSl_r, stow_r, retv_r, List.getElem?_cons_zero, List.getElem?_cons_succ, free, szOk, lock, unlock, back, wipeE, g1, fAll_comp]
theorem is_term_eq {n w : Nat} (h : 6 ≤ n) {c : Ex × Rat} (h1 : 1 ≤ w) (h2 : w ≤ 4) (hp : c.1.length = w) (hc : c.2 ≠ 0) : callD fns n 21 [.d (.int w), .d (tmD c)] = some (.v (.bool true), [.no, .no]) := by
  apply W_get
  have tp := is_tuple_of_eq (fns := fns) (n := n - 1) (by omega) [exD c.1, frD c.2] 2
  have ip := is_powers_eq (fns := fns) (n := n - 1) (by omega) h1 h2 hp
  rw [callD_succ (by omega), Kit.is_term (fns := fns)]
  refine mkFn_go rfl ?_
  simp (disch := omega) [b_is_term, cN_eq, vw_r, vx_r, fz_r, argSl_r, stow_r, retv_r, List.getElem?_cons_zero, List.getElem?_cons_succ, free, szOk, lock, unlock, back, wipeE, tmD, tp, ip, is_fraction_eq, gNe_fr0, hc]
theorem is_polynomial_eq {n w : Nat} (h : 7 ≤ n) {t : Pl} (h1 : 1 ≤ w) (h2 : w ≤ 4) (ht : Can w t) (hl : t.length ≤ 16777216) : callD fns n 22 [.d (.int w), .d (plD t)] = some (.v (.bool true), [.no, .no]) := by
  apply W_get
  have sw := sure_wide_int (fns := fns) (n := n - 1) (by omega) (w : Int) (by omega) (by omega)
  rw [callD_succ (by omega), Kit.is_polynomial (fns := fns)]
  refine mkFn_go rfl ?_
  simp (disch := omega) [b_is_polynomial, cN_eq, vw_r, vx_r, fz_r, argSl_r, stow_r, retv_r, List.getElem?_cons_zero, List.getElem?_cons_succ, free, szOk, lock, unlock, back, wipeE, sw, gIsi, TN.is, plD]
  refine W_lcM (enc := tmD) (enc' := .bool) t (fun _ => true) (iE_d (.inl rfl)) (by rfl) hl (fun y hy => ?_) ?_
  · have it := is_term_eq (fns := fns) (n := n - 1) (by omega) h1 h2 (ht.len y hy) (ht.nz y hy)
    simp (disch := omega) [cN_eq, vw_r, vx_r, fz_r, argSl_r, stow_r, retv_r, List.getElem?_cons_zero, List.getElem?_cons_succ, free, szOk, lock, unlock, back, wipeE, it]
  · simp (disch := omega) [cN_eq, vw_r, vx_r, fz_r, argSl_r, stow_r, retv_r, List.getElem?_cons_zero, List.getElem?_cons_succ, free, szOk, lock, unlock, back, wipeE, g1, fAll_comp, gIsi, TN.is]
    refine W_lcM (enc := tmD) (enc' := fun c : Ex × Rat => ordD c.1) t id (iE_d (.inl rfl)) (by rfl) hl (fun y hy => ?_) ?_
    · have po := powers_order_eq (fns := fns) (n := n - 1) (by omega) y.1 (by have := ht.len y hy; omega)
      simp (disch := omega) [cN_eq, vw_r, vx_r, fz_r, argSl_r, stow_r, retv_r, List.getElem?_cons_zero, List.getElem?_cons_succ, free, szOk, lock, unlock, back, wipeE, tmD, po]
    · simp (disch := omega) [cN_eq, vw_r, vx_r, fz_r, argSl_r, stow_r, retv_r, List.getElem?_cons_zero, List.getElem?_cons_succ, free, szOk, lock, unlock, back, wipeE]
      refine W_lcM (enc := fun k : Nat => .int (k : Int)) (enc' := .bool) (List.range ((t.length : Int) - 1).toNat) (fun _ => true) (e1 := [.d (.int w), .d (.tuple (t.map tmD)), .own (.lst (t.map fun c => ordD c.1)), .no, .no]) (wk := []) (iR1_int (op := .v (.int ((t.length : Int) - 1))) (by
        apply W_get
        simp (disch := omega) [cN_eq, vw_r, vx_r, fz_r, argSl_r, stow_r, retv_r, List.getElem?_cons_zero, List.getElem?_cons_succ, free, szOk, lock, unlock, back, wipeE, g1, fLenA, fLen]) rfl (by simp only [small62, Bool.and_eq_true, decide_eq_true_eq]; omega)) (by rfl) (by simp; omega) (fun k hk => ?_) ?_
      · have hk' : k + 1 < t.length := by simp at hk; omega
        have g1' : gIx (.list (t.map fun c => ordD c.1)) (.int (k : Nat)) = some (.v (ordD t[k].1)) := gIxL (by rw [List.getElem?_map, List.getElem?_eq_getElem (by omega)]; rfl)
        have g2' : gIx (.list (t.map fun c => ordD c.1)) (.int ((k : Int) + 1)) = some (.v (ordD t[k + 1].1)) := gIxL (i := k + 1) (by rw [List.getElem?_map, List.getElem?_eq_getElem hk']; rfl)
        have lt : exLt t[k].1 t[k + 1].1 := List.pairwise_iff_getElem.mp ht.srt k (k + 1) (by omega) hk' (by omega)
        simp (disch := omega) [cN_eq, vw_r, vx_r, fz_r, argSl_r, stow_r, retv_r, List.getElem?_cons_zero, List.getElem?_cons_succ, free, szOk, lock, unlock, back, wipeE, g1', g2', gLt_ord, lt]
      · simp (disch := omega) [cN_eq, vw_r, vx_r, fz_r, argSl_r, stow_r, retv_r, List.getElem?_cons_zero, List.getElem?_cons_succ, free, szOk, lock, unlock, back, wipeE, g1, fAll_comp]
theorem sure_polynomial_eq {n w : Nat} (h : 8 ≤ n) {t : Pl} (h1 : 1 ≤ w) (h2 : w ≤ 4) (ht : Can w t) (hl : t.length ≤ 16777216) : callD fns n 23 [.d (.int w), .d (plD t)] = some (.v (plD t), [.no, .no]) := by
  apply W_get
  have tn := tuple_of_id (fns := fns) 3 (n := n - 1) (tupN_plD hl fun c hc => by have := ht.len c hc; omega) (by omega)
  have ip := is_polynomial_eq (fns := fns) (n := n - 1) (by omega) h1 h2 ht hl
  rw [callD_succ (by omega), Kit.sure_polynomial (fns := fns)]
  refine mkFn_go rfl ?_
  simp (disch := omega) [b_sure_polynomial, cN_eq, vw_r, vx_r, fz_r, argSl_r, stow_r, retv_r, List.getElem?_cons_zero, List.getElem?_cons_succ, free, szOk, lock, unlock, back, wipeE, tn, ip, sure_true]
theorem sure_polynomials_eq {n w : Nat} (h : 8 ≤ n) {ts : List Pl} (h1 : 1 ≤ w) (h2 : w ≤ 4) (ht : ∀ t ∈ ts, Can w t ∧ t.length ≤ 16777216) (hl : ts.length ≤ 16777216) : callD fns n 227 [.d (.int w), .d (.tuple (ts.map plD))] = some (.v (.tuple (ts.map plD)), [.no, .no]) := by
  apply W_get
  have tn := tuple_of_id (fns := fns) 4 (n := n - 1) (x := .tuple (ts.map plD)) (.inr ⟨_, rfl, by simpa using hl, fun y hy => by
    obtain ⟨t, ht', rfl⟩ := List.mem_map.mp hy
    obtain ⟨k1, k2⟩ := ht t ht'
    exact tupN_plD k2 fun c hc => by have := k1.len c hc; omega⟩) (by omega)
  rw [callD_succ (by omega), Kit.sure_polynomials (fns := fns)]
  refine mkFn_go rfl ?_
  simp (disch := omega) [b_sure_polynomials, cN_eq, vw_r, vx_r, fz_r, argSl_r, stow_r, retv_r, List.getElem?_cons_zero, List.getElem?_cons_succ, free, szOk, lock, unlock, back, wipeE, tn, gIsi, TN.is]
  refine W_lcM (enc := plD) (enc' := .bool) ts (fun _ => true) (iE_d (.inl rfl)) (by rfl) hl (fun y hy => ?_) ?_
  · have ip := is_polynomial_eq (fns := fns) (n := n - 1) (by omega) h1 h2 (ht y hy).1 (ht y hy).2
    simp (disch := omega) [cN_eq, vw_r, vx_r, fz_r, argSl_r, stow_r, retv_r, List.getElem?_cons_zero, List.getElem?_cons_succ, free, szOk, lock, unlock, back, wipeE, ip]
  · simp (disch := omega) [cN_eq, vw_r, vx_r, fz_r, argSl_r, stow_r, retv_r, List.getElem?_cons_zero, List.getElem?_cons_succ, free, szOk, lock, unlock, back, wipeE, g1, fAll_comp, sure_true]
theorem is_point_eq {n w : Nat} (h : 5 ≤ n) {x : List Rat} (h1 : 1 ≤ w) (h2 : w ≤ 4) (hx : x.length = w) : callD fns n 42 [.d (.int w), .d (ptD x)] = some (.v (.bool true), [.no, .no]) := by
  apply W_get
  have sw := sure_wide_int (fns := fns) (n := n - 1) (by omega) (w : Int) (by omega) (by omega)
  have tp := is_tuple_of_eq (fns := fns) (n := n - 1) (by omega) (x.map frD) w
  rw [List.length_map, hx] at tp
  rw [callD_succ (by omega), Kit.is_point (fns := fns)]
  refine mkFn_go rfl ?_
  simp (disch := omega) [b_is_point, cN_eq, vw_r, vx_r, fz_r, argSl_r, stow_r, retv_r, List.getElem?_cons_zero, List.getElem?_cons_succ, free, szOk, lock, unlock, back, wipeE, sw, tp, ptD]
  refine W_lcM (enc := frD) (enc' := .bool) x (fun _ => true) (iE_d (.inl rfl)) (by rfl) (by omega) (fun y hy => ?_) ?_
  · simp (disch := omega) [cN_eq, vw_r, vx_r, fz_r, argSl_r, stow_r, retv_r, List.getElem?_cons_zero, List.getElem?_cons_succ, free, szOk, lock, unlock, back, wipeE, is_fraction_eq]
  · simp (disch := omega) [cN_eq, vw_r, vx_r, fz_r, argSl_r, stow_r, retv_r, List.getElem?_cons_zero, List.getElem?_cons_succ, free, szOk, lock, unlock, back, wipeE, g1, fAll_comp]
theorem sure_point_eq {n w : Nat} (h : 6 ≤ n) {x : List Rat} (h1 : 1 ≤ w) (h2 : w ≤ 4) (hx : x.length = w) : callD fns n 43 [.d (.int w), .d (ptD x)] = some (.v (ptD x), [.no, .no]) := by
  apply W_get
  have tn := tuple_of_id (fns := fns) 2 (n := n - 1) (tupN_pt (x := x) (by omega)) (by omega)
  have ip := is_point_eq (fns := fns) (n := n - 1) (by omega) h1 h2 hx
  rw [callD_succ (by omega), Kit.sure_point (fns := fns)]
  refine mkFn_go rfl ?_
  simp (disch := omega) [b_sure_point, cN_eq, vw_r, vx_r, fz_r, argSl_r, stow_r, retv_r, List.getElem?_cons_zero, List.getElem?_cons_succ, free, szOk, lock, unlock, back, wipeE, tn, ip, sure_true]
/-- what letters come to -/
def pzq : List (Rat × Nat) → Rat
  | [] => 1
  | z :: r => z.1 ^ z.2 * pzq r
theorem pzq_snoc (a : List (Rat × Nat)) (z : Rat × Nat) : pzq (a ++ [z]) = pzq a * z.1 ^ z.2 := by
  induction a with
  | nil => simp [pzq]
  | cons y ys ih => simp only [List.cons_append, pzq, ih]; grind
theorem pzq_mono : ∀ (x : List Rat) (p : Ex), pzq (x.zip p) = mono x p
  | [], p => by cases p <;> rfl
  | _ :: _, [] => rfl
  | x :: xs, k :: p => by rw [List.zip_cons_cons, pzq, pzq_mono xs p]; rfl
theorem zip_snd_sum (x : List Rat) (p : Ex) (h : x.length = p.length) : ((x.zip p).map (·.2)).sum = p.sum := by
  rw [List.map_snd_zip (by omega)]
theorem value_of_eq {n : Nat} (h : 4 ≤ n) {w g k D L E M : Nat} {t : Pl} {x : List Rat} (ht : Bd w g k D L t) (hx : x.length = w) (hE : 1 ≤ E) (hM : 1 ≤ M) (hD : 1 ≤ D) (hL : 1 ≤ L) (hs : ∀ a ∈ x, Sz E M a) (hg : g < 1000) (hw : w ≤ 16777216) (f : Fits (D * E ^ g) (k * (L * M ^ g))) (hk : 1 ≤ k) :
    callD fns n 44 [.d (plD t), .d (ptD x)] = some (.v (frD (ev t x)), [.no, .no]) := by
  apply W_get
  have fit : ∀ s, s ≤ g → Fits (D * E ^ s) (L * M ^ s) := fun s hs => f.le (by have := Nat.mul_pos hD (Nat.pow_pos (n := s) hE); omega) (Nat.mul_le_mul_left _ (Nat.pow_le_pow_right hE hs)) (Nat.le_trans (Nat.mul_le_mul_left _ (Nat.pow_le_pow_right hM hs)) (Nat.le_mul_of_pos_left _ hk))
  have fit1 : ∀ s, s ≤ g → Fits (E ^ s) (M ^ s) := fun s hs => (fit s hs).le (by have := Nat.pow_pos (n := s) hE; omega) (Nat.le_mul_of_pos_left _ hD) (Nat.le_mul_of_pos_left _ hL)
  have fit2 : ∀ j, j ≤ k → Fits (D * E ^ g) (j * (L * M ^ g)) := fun j hj => f.le f.1 (Nat.le_refl _) (Nat.mul_le_mul_right _ hj)
  rw [callD_succ (by omega), Kit.value_of (fns := fns)]
  refine mkFn_go rfl ?_
  simp (disch := omega) [b_value_of, cN_eq, vw_r, vx_r, fz_r, argSl_r, stow_r, retv_r, List.getElem?_cons_zero, List.getElem?_cons_succ, free, szOk, lock, unlock, back, wipeE]
  rw [← frD_zero]
  refine W_forN t (fun done e => ∃ s3 s4 s5 s6, e = [.d (plD t), .d (ptD x), .d (frD (ev done x)), s3, s4, s5, s6] ∧ Sz (D * E ^ g) (done.length * (L * M ^ g)) (ev done x)) (enc := tmD) (iE_d (.inl rfl)) ⟨.no, .no, .no, .no, rfl, Sz.zero⟩ (fun done c rest e hy hi => ?_) (fun e hi => ?_)
  · obtain ⟨s3, s4, s5, s6, rfl, hsz⟩ := hi
    have hc : c ∈ t := by rw [hy]; simp
    obtain ⟨c1, c2, c3⟩ := ht.gd c hc
    have hdl : done.length + 1 ≤ k := by have := ht.ln; rw [hy] at this; simp at this; omega
    have csum := zip_snd_sum x c.1 (by omega)
    simp (disch := omega) [cN_eq, vw_r, vx_r, fz_r, argSl_r, stow_r, retv_r, List.getElem?_cons_zero, List.getElem?_cons_succ, free, szOk, lock, unlock, back, wipeE, tmD]
    refine W_forN (x.zip c.1) (fun done2 e => ∃ s5 s6, e = [.d (plD t), .d (ptD x), .d (frD (ev done x)), .d (exD c.1), .d (frD (c.2 * pzq done2)), s5, s6] ∧ Sz (D * E ^ (done2.map (·.2)).sum) (L * M ^ (done2.map (·.2)).sum) (c.2 * pzq done2)) (enc := fun z : Rat × Nat => .tuple [frD z.1, .int z.2])
      (e1 := [.d (plD t), .d (ptD x), .d (frD (ev done x)), .d (exD c.1), .d (frD c.2), s5, s6]) (wk := []) (by
        rw [iZip_d (xs := x.map frD) (ys := c.1.map fun k : Nat => .int (k : Int)) (by simp [ptD]) (by simp [tup_ex])]
        simp [List.zip_map, Function.comp]) ⟨s5, s6, by simp only [pzq, Rat.mul_one]; rfl, by simpa [pzq, Rat.mul_one] using ht.sz hc⟩ (fun done2 z rest2 e2 hy2 hi2 => ?_) (fun e2 hi2 => ?_)
    · obtain ⟨s5, s6, rfl, hsz2⟩ := hi2
      have hzx : z.1 ∈ x := (List.of_mem_zip (show (z.1, z.2) ∈ x.zip c.1 by rw [hy2]; simp)).1
      have hms : (done2.map (·.2)).sum + z.2 ≤ g := by
        have : ((x.zip c.1).map (·.2)).sum ≤ g := by omega
        rw [hy2] at this
        simp at this
        omega
      have pw := power_eq (fns := fns) (n := n - 1) (by omega) z.1 z.2 (by omega) (fun j hj => ((hs z.1 hzx).pow j).sm (fit1 j (by omega)))
      have tm := times_eq (fns := fns) (n := n - 1) (by omega) (hsz2.sm (fit _ (by omega))) (((hs z.1 hzx).pow z.2).sm (fit1 z.2 (by omega)))
      simp (disch := omega) [cN_eq, vw_r, vx_r, fz_r, argSl_r, stow_r, retv_r, List.getElem?_cons_zero, List.getElem?_cons_succ, free, szOk, lock, unlock, back, wipeE, pw, tm]
      refine hd ⟨_, _, by rw [pzq_snoc, ← Rat.mul_assoc], ?_⟩
      have := hsz2.mul ((hs z.1 hzx).pow z.2)
      rw [pzq_snoc, ← Rat.mul_assoc]
      simp only [List.map_append, List.map_singleton, List.sum_append, List.sum_singleton, Nat.pow_add, ← Nat.mul_assoc]
      exact this
    · obtain ⟨s5, s6, rfl, hsz2⟩ := hi2
      rw [csum] at hsz2
      have hsz3 : Sz (D * E ^ g) (L * M ^ g) (c.2 * pzq (x.zip c.1)) := by
        have e1 : D * E ^ g = D * E ^ c.1.sum * E ^ (g - c.1.sum) := by rw [Nat.mul_assoc, ← Nat.pow_add]; congr 2; omega
        rw [e1]
        exact (hsz2.more _).le (Nat.mul_le_mul_left _ (Nat.pow_le_pow_right hM c2))
      have pl := plus_eq (fns := fns) (n := n - 1) (by omega) (hsz.sm (fit2 _ (by omega))) (hsz3.sm (fit g (Nat.le_refl _)))
      simp (disch := omega) [cN_eq, vw_r, vx_r, fz_r, argSl_r, stow_r, retv_r, List.getElem?_cons_zero, List.getElem?_cons_succ, free, szOk, lock, unlock, back, wipeE, pl]
      have e2 : ev (done ++ [c]) x = ev done x + c.2 * pzq (x.zip c.1) := by rw [ev_append, ev_cons, ev_nil, pzq_mono]; grind
      refine hd ⟨_, _, _, _, by rw [e2], ?_⟩
      rw [e2, List.length_append, List.length_singleton, Nat.add_mul, Nat.one_mul]
      exact hsz.add hsz3
  · obtain ⟨s3, s4, s5, s6, rfl, hsz⟩ := hi
    simp (disch := omega) [cN_eq, vw_r, vx_r, fz_r, argSl_r, stow_r, retv_r, List.getElem?_cons_zero, List.getElem?_cons_succ, free, szOk, lock, unlock, back, wipeE]
end
end MP

/-! Q7: the package's doors for polynomials. -/
namespace MP
open PySem
section
variable {fns : Nat → Orc → List Sl → Option (Rv × List Sl)} [Kit fns]
theorem Bd.len5 {w g k D L : Nat} {t : Pl} (h : Bd w g k D L t) (hk : k ≤ 5000) : t.length ≤ 16777216 := by have := h.ln; omega
/-- a sum of two -/
theorem sum_plus_W {n : Nat} (h : 9 ≤ n) {w g k1 k2 D L1 L2 : Nat} {a b : Pl} (h1 : 1 ≤ w) (h2 : w ≤ 4) (ha : Bd w g k1 D L1 a) (hb : Bd w g k2 D L2 b) (f : Fits D (L1 + L2)) (hk : k1 + k2 ≤ 5000) :
    W (callD fns n 31 [.d (.int w), .d (plD a), .d (plD b)]) fun p => ∃ t, p = (.v (plD t), [.no, .no, .no]) ∧ Bd w g (k1 + k2) D (L1 + L2) t ∧ ∀ x, ev t x = ev a x + ev b x := by
  have s1 := sure_polynomial_eq (fns := fns) (n := n - 1) (by omega) h1 h2 ha.can (ha.len5 (by omega))
  have s2 := sure_polynomial_eq (fns := fns) (n := n - 1) (by omega) h1 h2 hb.can (hb.len5 (by omega))
  have hraw : Raw w g D (L1 + L2) ([a, b] : List Pl).flatten := by
    refine ⟨fun c hc => ?_, ?_, f⟩
    · simp at hc
      rcases hc with hc | hc
      · exact ha.gd c hc
      · exact hb.gd c hc
    · simp only [List.flatten_cons, List.flatten_nil, List.append_nil, nrm_append, Rat.natCast_add]
      have := ha.nr
      have := hb.nr
      grind
  have sw := summed_W (fns := fns) (n := n - 1) (by omega) hraw (by have := ha.ln; have := hb.ln; simp; omega) (by omega)
  rw [callD_succ (by omega), Kit.sum_plus (fns := fns)]
  refine mkFn_go rfl ?_
  simp (disch := omega) [b_sum_plus, cN_eq, vw_r, vx_r, fz_r, argSl_r, stow_r, retv_r, List.getElem?_cons_zero, List.getElem?_cons_succ, free, szOk, lock, unlock, back, wipeE, s1, s2]
  refine W_mono sw ?_
  rintro _ ⟨t, rfl, ht⟩
  simp (disch := omega) [cN_eq, vw_r, vx_r, fz_r, argSl_r, stow_r, retv_r, List.getElem?_cons_zero, List.getElem?_cons_succ, free, szOk, lock, unlock, back, wipeE]
  exact ⟨t, rfl, ⟨ht.can, ht.gd, Rat.le_trans ht.nr hraw.nr, by have := ht.ln; have := ha.ln; have := hb.ln; simp at *; omega⟩, fun x => by rw [ht.ev]; simp [ev_append]⟩
theorem sum_times_W {n : Nat} (h : 9 ≤ n) {w g1 D1 L1 g2 D2 L2 n1 n2 : Nat} {a b : Pl} (h1 : 1 ≤ w) (h2 : w ≤ 4) (ha : Bd w g1 n1 D1 L1 a) (hb : Bd w g2 n2 D2 L2 b) (f1 : Fits D1 L1) (f2 : Fits D2 L2) (f : Fits (D1 * D2) (L1 * L2)) (hn1 : n1 ≤ 5000) (hn2 : n2 ≤ 5000) (hl : n1 * n2 ≤ 5000) :
    W (callD fns n 33 [.d (.int w), .d (plD a), .d (plD b)]) fun p => ∃ t, p = (.v (plD t), [.no, .no, .no]) ∧ Bd w (g1 + g2) (n1 * n2) (D1 * D2) (L1 * L2) t ∧ ∀ x, ev t x = ev a x * ev b x := by
  have s1 := sure_polynomial_eq (fns := fns) (n := n - 1) (by omega) h1 h2 ha.can (ha.len5 hn1)
  have s2 := sure_polynomial_eq (fns := fns) (n := n - 1) (by omega) h1 h2 hb.can (hb.len5 hn2)
  have pw := product_W (fns := fns) (n := n - 1) (by omega) ha hb f1 f2 f hl (by omega)
  rw [callD_succ (by omega), Kit.sum_times (fns := fns)]
  refine mkFn_go rfl ?_
  simp (disch := omega) [b_sum_times, cN_eq, vw_r, vx_r, fz_r, argSl_r, stow_r, retv_r, List.getElem?_cons_zero, List.getElem?_cons_succ, free, szOk, lock, unlock, back, wipeE, s1, s2]
  refine W_mono pw ?_
  rintro _ ⟨t, rfl, ht, he⟩
  simp (disch := omega) [cN_eq, vw_r, vx_r, fz_r, argSl_r, stow_r, retv_r, List.getElem?_cons_zero, List.getElem?_cons_succ, free, szOk, lock, unlock, back, wipeE]
  exact ⟨t, rfl, ht, he⟩
/-- the greatest degree -/
def topP (t : Pl) : Int := match t with
  | [] => -1
  | c :: _ => (c.1.sum : Int)
theorem top_degree_eq {n : Nat} (h : 1 ≤ n) (t : Pl) : callD fns n 36 [.d (plD t)] = some (.v (.int (topP t)), [.no]) := by
  apply W_get
  cases t with
  | nil =>
    have e : gNe (plD []) (.tuple []) = some (.v (.bool false)) := rfl
    rw [callD_succ (by omega), Kit.top_degree (fns := fns)]
    refine mkFn_go rfl ?_
    simp (disch := omega) [b_top_degree, cN_eq, vw_r, vx_r, fz_r, argSl_r, stow_r, retv_r, List.getElem?_cons_zero, List.getElem?_cons_succ, free, szOk, lock, unlock, back, wipeE, e, topP]
  | cons c t =>
    have e : gNe (plD (c :: t)) (.tuple []) = some (.v (.bool true)) := gNe_yes (Nd_pl _) (Nd_pl []) (by omega) (by simp [plD])
    rw [callD_succ (by omega), Kit.top_degree (fns := fns)]
    refine mkFn_go rfl ?_
    simp (disch := omega) [b_top_degree, cN_eq, vw_r, vx_r, fz_r, argSl_r, stow_r, retv_r, List.getElem?_cons_zero, List.getElem?_cons_succ, free, szOk, lock, unlock, back, wipeE, e, topP, g1]
    simp [plD, tmD, fSum_ex]
theorem degree_of_eq {n w : Nat} (h : 9 ≤ n) {t : Pl} (h1 : 1 ≤ w) (h2 : w ≤ 4) (ht : Can w t) (hl : t.length ≤ 16777216) : callD fns n 37 [.d (.int w), .d (plD t)] = some (.v (.int (topP t)), [.no, .no]) := by
  apply W_get
  have s1 := sure_polynomial_eq (fns := fns) (n := n - 1) (by omega) h1 h2 ht hl
  rw [callD_succ (by omega), Kit.degree_of (fns := fns)]
  refine mkFn_go rfl ?_
  simp (disch := omega) [b_degree_of, cN_eq, vw_r, vx_r, fz_r, argSl_r, stow_r, retv_r, List.getElem?_cons_zero, List.getElem?_cons_succ, free, szOk, lock, unlock, back, wipeE, s1, top_degree_eq]
theorem value_at_eq {n : Nat} (h : 9 ≤ n) {w g k D L E M : Nat} {t : Pl} {x : List Rat} (h1 : 1 ≤ w) (h2 : w ≤ 4) (ht : Bd w g k D L t) (hx : x.length = w) (hE : 1 ≤ E) (hM : 1 ≤ M) (hD : 1 ≤ D) (hL : 1 ≤ L) (hs : ∀ a ∈ x, Sz E M a) (hg : g < 1000) (f : Fits (D * E ^ g) (k * (L * M ^ g))) (hk : 1 ≤ k) (hk5 : k ≤ 5000) :
    callD fns n 45 [.d (.int w), .d (plD t), .d (ptD x)] = some (.v (frD (ev t x)), [.no, .no, .no]) := by
  apply W_get
  have s1 := sure_polynomial_eq (fns := fns) (n := n - 1) (by omega) h1 h2 ht.can (ht.len5 hk5)
  have s2 := sure_point_eq (fns := fns) (n := n - 1) (by omega) h1 h2 hx
  have vo := value_of_eq (fns := fns) (n := n - 1) (by omega) ht hx hE hM hD hL hs hg (by omega) f hk
  rw [callD_succ (by omega), Kit.value_at (fns := fns)]
  refine mkFn_go rfl ?_
  simp (disch := omega) [b_value_at, cN_eq, vw_r, vx_r, fz_r, argSl_r, stow_r, retv_r, List.getElem?_cons_zero, List.getElem?_cons_succ, free, szOk, lock, unlock, back, wipeE, s1, s2, vo]
theorem number_sum_eq {n w : Nat} (h : 5 ≤ n) {c : Rat} (h1 : 1 ≤ w) (h2 : w ≤ 4) : callD fns n 494 [.d (.int w), .d (frD c)] = some (.v (plD (numP w c)), [.no, .no]) := by
  apply W_get
  have sw := sure_wide_int (fns := fns) (n := n - 1) (by omega) (w : Int) (by omega) (by omega)
  have sf := sure_fraction_eq (fns := fns) (n := n - 1) (by omega) c
  have nm := number_eq (fns := fns) (n := n - 1) (by omega) (c := c) h1 (show w ≤ 1000 by omega)
  rw [callD_succ (by omega), Kit.number_sum (fns := fns)]
  refine mkFn_go rfl ?_
  simp (disch := omega) [b_number_sum, cN_eq, vw_r, vx_r, fz_r, argSl_r, stow_r, retv_r, List.getElem?_cons_zero, List.getElem?_cons_succ, free, szOk, lock, unlock, back, wipeE, sw, sf, nm]
/-- a letter; places from 0 on -/
def letP (w k : Nat) : Pl := [((List.range w).map fun j => if j = k then 1 else 0, 1)]
theorem letter_eq {n w k : Nat} (h : 1 ≤ n) (hw : w ≤ 1000) : callD fns n 108 [.d (.int w), .d (.int ((k : Int) + 1))] = some (.v (plD (letP w k)), [.no, .no]) := by
  apply W_get
  rw [callD_succ (by omega), Kit.letter (fns := fns)]
  refine mkFn_go rfl ?_
  simp (disch := omega) [b_letter, cN_eq, vw_r, vx_r, fz_r, argSl_r, stow_r, retv_r, List.getElem?_cons_zero, List.getElem?_cons_succ, free, szOk, lock, unlock, back, wipeE]
  refine W_lcM (enc := fun j : Nat => .int (j : Int)) (enc' := fun j : Nat => .int (j : Int)) (List.range w) (fun j => if j = k then 1 else 0) (iR1_d rfl (by omega)) (by rfl) (by simp; omega) (fun j hj => ?_) ?_
  · by_cases hjk : j = k
    · subst hjk
      simp (disch := omega) [cN_eq, vw_r, vx_r, fz_r, argSl_r, stow_r, retv_r, List.getElem?_cons_zero, List.getElem?_cons_succ, free, szOk, lock, unlock, back, wipeE, g1, fInt]
    · have e : ¬ ((j : Int) + 1 = (k : Int) + 1) := by omega
      simp (disch := omega) [cN_eq, vw_r, vx_r, fz_r, argSl_r, stow_r, retv_r, List.getElem?_cons_zero, List.getElem?_cons_succ, free, szOk, lock, unlock, back, wipeE, g1, fInt, e, hjk]
  · simp (disch := omega) [cN_eq, vw_r, vx_r, fz_r, argSl_r, stow_r, retv_r, List.getElem?_cons_zero, List.getElem?_cons_succ, free, szOk, lock, unlock, back, wipeE, g1, fTuple, letP, plD, tmD, tup_ex, frD_one]
theorem letter_sum_eq {n w k : Nat} (h : 5 ≤ n) (h1 : 1 ≤ w) (h2 : w ≤ 4) (hk : k < w) : callD fns n 495 [.d (.int w), .d (.int ((k : Int) + 1))] = some (.v (plD (letP w k)), [.no, .no]) := by
  apply W_get
  have sw := sure_wide_int (fns := fns) (n := n - 1) (by omega) (w : Int) (by omega) (by omega)
  have ib := is_between_int (fns := fns) (n := n - 1) (by omega) ((k : Int) + 1) 1 w
  have e1 : (1 : Int) ≤ (k : Int) + 1 := by omega
  have e2 : (k : Int) + 1 ≤ (w : Int) := by omega
  simp only [e1, e2, decide_true, Bool.and_self] at ib
  rw [callD_succ (by omega), Kit.letter_sum (fns := fns)]
  refine mkFn_go rfl ?_
  simp (disch := omega) [b_letter_sum, cN_eq, vw_r, vx_r, fz_r, argSl_r, stow_r, retv_r, List.getElem?_cons_zero, List.getElem?_cons_succ, free, szOk, lock, unlock, back, wipeE, sw, ib, sure_true, letter_eq]
theorem ev_let {w k : Nat} (hk : k < w) {x : List Rat} (hx : x.length = w) : ev (letP w k) x = x[k] := by
  subst hx
  unfold letP
  rw [ev_cons, ev_nil]
  have key : ∀ (x : List Rat) (k : Nat) (j : Nat), (hk : k < x.length) → mono x ((List.range' j x.length).map fun i => if i = j + k then 1 else 0) = x[k] := by
    intro x
    induction x with
    | nil => intro k j hk; simp at hk
    | cons a x ih =>
      intro k j hk
      rw [List.length_cons, List.range'_succ, List.map_cons, mono]
      cases k with
      | zero =>
        have z : ∀ (x : List Rat) (l : List Nat), (∀ i ∈ l, i ≠ j) → mono x (l.map fun i => if i = j + 0 then 1 else 0) = 1 := by
          intro x
          induction x with
          | nil => intro l _; cases l <;> rfl
          | cons b x ih2 =>
            intro l hl
            cases l with
            | nil => rfl
            | cons i l =>
              have := hl i List.mem_cons_self
              rw [List.map_cons, mono, ih2 l fun q hq => hl q (List.mem_cons_of_mem _ hq), if_neg (by omega), Rat.pow_zero]
              grind
        rw [z x _ fun i hi => by have := List.mem_range'.mp hi; omega]
        simp
      | succ k =>
        have := ih k (j + 1) (by simpa using hk)
        rw [if_neg (by omega), Rat.pow_zero]
        simp only [show j + 1 + k = j + (k + 1) by omega] at this
        rw [this]; simp
  have := key x k 0 hk
  simp only [Nat.zero_add, ← List.range_eq_range'] at this
  rw [this]; grind
theorem put_in_W {n : Nat} (h : 9 ≤ n) {w w0 g0 n0 D0 L0 g1 n1 D1 L1 : Nat} {own : Pl} {so : List Pl} (hw1 : 1 ≤ w) (hw2 : w ≤ 4) (hv1 : 1 ≤ w0) (hv2 : w0 ≤ 4) (hl0 : so.length = w0) (ho : Bd w0 g0 n0 D0 L0 own) (hs : ∀ t ∈ so, Bd w g1 n1 D1 L1 t)
    (hg0 : g0 ≤ 1000) (hD0 : 1 ≤ D0) (hL0 : 1 ≤ L0) (hD1 : 1 ≤ D1) (hL1 : 1 ≤ L1) (hn0 : 1 ≤ n0) (hn1 : 1 ≤ n1) (hn15 : n1 ≤ 5000) (f : Fits (D0 * D1 ^ g0) (n0 * (L0 * L1 ^ g0))) (hl : n0 * n1 ^ g0 ≤ 5000) :
    W (callD fns n 496 [.d (.int w0), .d (plD own), .d (.int w), .d (.tuple (so.map plD))]) fun p => ∃ t, p = (.v (plD t), [.no, .no, .no, .no]) ∧ Bd w (g0 * g1) (n0 * n1 ^ g0) (D0 * D1 ^ g0) (n0 * (L0 * L1 ^ g0)) t ∧ ∀ x, ev t x = ev own (so.map fun t => ev t x) := by
  subst hl0
  have n05 : n0 ≤ 5000 := Nat.le_trans (Nat.le_mul_of_pos_right _ (Nat.pow_pos hn1)) hl
  have s1 := sure_polynomial_eq (fns := fns) (n := n - 1) (by omega) hv1 hv2 ho.can (ho.len5 n05)
  have s2 := sure_polynomials_eq (fns := fns) (n := n - 1) (by omega) hw1 hw2 (ts := so) (fun t ht => ⟨(hs t ht).can, (hs t ht).len5 hn15⟩) (by omega)
  have iw := is_wide_int (fns := fns) (n := n - 1) (by omega) (w : Int)
  have e1 : (1 : Int) ≤ (w : Int) := by omega
  have e2 : (w : Int) ≤ 4 := by omega
  simp only [e1, e2, decide_true, Bool.and_self] at iw
  have pw := put_for_W (fns := fns) (n := n - 1) (by omega) hw1 (show w ≤ 1000 by omega) ho hs (by omega) hg0 hD0 hL0 hD1 hL1 hn0 hn1 f hl
  rw [callD_succ (by omega), Kit.put_in (fns := fns)]
  refine mkFn_go rfl ?_
  simp (disch := omega) [b_put_in, cN_eq, vw_r, vx_r, fz_r, argSl_r, stow_r, retv_r, List.getElem?_cons_zero, List.getElem?_cons_succ, free, szOk, lock, unlock, back, wipeE, s1, s2, iw, sure_true, MP.g1, fLenA, fLen]
  refine W_mono pw ?_
  rintro _ ⟨t, rfl, ht, he⟩
  simp (disch := omega) [cN_eq, vw_r, vx_r, fz_r, argSl_r, stow_r, retv_r, List.getElem?_cons_zero, List.getElem?_cons_succ, free, szOk, lock, unlock, back, wipeE]
  exact ⟨t, rfl, ht, he⟩
end
end MP

/-! Q8: draws; the law's own fractions. -/
namespace MP
open PySem
abbrev Box := Int × Int × Int
def bxC (b : Box) : Ct := .lst [.int b.1, .int b.2.1, .int b.2.2]
def Bx (N : Nat) (b : Box) : Prop := 0 ≤ b.2.2 ∧ b.2.2 ≤ (N : Int)
theorem Bx.le {N M : Nat} {b : Box} (h : Bx N b) (hN : N ≤ M) : Bx M b := ⟨h.1, by have := h.2; omega⟩
theorem gMulA_l {i j : Int} (h : -18446744073709551616 < i ∧ i < 18446744073709551616) : gMulA (.int i) (.int j) = some (.v (.int (i * j))) := by
  have : small64 i = true := by simp only [small64, Bool.and_eq_true, decide_eq_true_eq]; omega
  simp [gMulA, this]
theorem gMulA_r {i j : Int} (h : -18446744073709551616 < j ∧ j < 18446744073709551616) : gMulA (.int i) (.int j) = some (.v (.int (i * j))) := by
  have : small64 j = true := by simp only [small64, Bool.and_eq_true, decide_eq_true_eq]; omega
  simp [gMulA, this]
theorem gMod_pos {i j : Int} (h : 0 < j) : gMod (.int i) (.int j) = some (.v (.int (i % j))) := by simp [gMod, h]
theorem log2_small {s : Nat} (h : s < 1152921504606846976) : s.log2 < 9000 := by
  by_cases h0 : s = 0
  · subst h0; simp
  · have : s.log2 < 60 := (Nat.log2_lt h0).mpr (by omega)
    omega
@[simp] theorem fInt_int {i : Int} : fInt (.int i) = some (.v (.int i)) := rfl
@[simp] theorem stSub_0 {a x : PyData} {r : List PyData} : stSub (.lst (a :: r)) (.int 0) x = some (.lst (x :: r)) := by
  have : L2.ixN (r.length + 1) 0 = some 0 := by unfold L2.ixN; rw [if_pos (by omega), if_pos (by omega)]; rfl
  simp [stSub, this]
@[simp] theorem stSub_2 {a b c x : PyData} {r : List PyData} : stSub (.lst (a :: b :: c :: r)) (.int 2) x = some (.lst (a :: b :: x :: r)) := by
  have : L2.ixN (r.length + 1 + 1 + 1) 2 = some 2 := by unfold L2.ixN; rw [if_pos (by omega), if_pos (by omega)]; rfl
  simp [stSub, this]
theorem stSub_n {xs : List PyData} {i : Nat} {x : PyData} (h : i < xs.length) : stSub (.lst xs) (.int i) x = some (.lst (xs.set i x)) := by
  have : L2.ixN xs.length (i : Int) = some i := by unfold L2.ixN; rw [if_pos (by omega), if_pos (by omega)]; simp
  simp [stSub, this]
/-- how often the greatest common divisor's loop turns -/
def eu (a b : Nat) : Nat := if h : b = 0 then 0 else 1 + eu b (a % b)
termination_by b
decreasing_by exact Nat.mod_lt _ (by omega)
theorem eu_le : ∀ (k a b : Nat), b < 2 ^ k → eu a b ≤ 2 * k + 2
  | 0, a, b, h => by
    have : b = 0 := by simp at h; omega
    subst this
    rw [eu]; simp
  | k + 1, a, b, h => by
    rw [eu]
    split
    · omega
    · rename_i hb
      rw [eu]
      split
      · omega
      · rename_i hr
        have h1 : a % b < b := Nat.mod_lt _ (by omega)
        have h2 : b % (a % b) < a % b := Nat.mod_lt _ (by omega)
        have h3 : b % (a % b) < 2 ^ k := by
          have h4 := Nat.div_add_mod b (a % b)
          have h5 : 1 ≤ b / (a % b) := (Nat.one_le_div_iff (by omega)).mpr (by omega)
          have h6 : a % b ≤ (a % b) * (b / (a % b)) := Nat.le_mul_of_pos_right _ h5
          rw [Nat.pow_succ] at h
          omega
        have := eu_le k (a % b) (b % (a % b)) h3
        omega
section
variable {fns : Nat → Orc → List Sl → Option (Rv × List Sl)} [Kit fns]
theorem take_W {n N s : Nat} {b : Box} (h : 1 ≤ n) (hb : Bx N b) (hN : N ≤ 4611686018427387904) (hs : 0 < s) (hs2 : s < 1152921504606846976) :
    W (callD fns n 47 [.own (bxC b), .d (.int (s : Nat))]) fun p => ∃ (r : Nat) (b' : Box), p = (.v (.int (r : Nat)), [.own (bxC b'), .no]) ∧ r < s ∧ Bx (N + 1) b' := by
  obtain ⟨a, b, c⟩ := b
  obtain ⟨c0, c1⟩ := hb
  simp only at c0 c1
  have s0 : (0 : Int) < s := by omega
  have nat : ∀ x : Int, ∃ r : Nat, x % (s : Int) = (r : Int) ∧ r < s := fun x => ⟨(x % (s : Int)).toNat, by
    have := Int.emod_nonneg x (show (s : Int) ≠ 0 by omega)
    omega, by
    have := Int.emod_nonneg x (show (s : Int) ≠ 0 by omega)
    have := Int.emod_lt_of_pos x s0
    omega⟩
  by_cases ha : 0 < a
  · rw [callD_succ (by omega), Kit._law_take (fns := fns)]
    refine mkFn_go rfl ?_
    simp (disch := omega) [b__law_take, cN_eq, vw_r, vx_r, fz_r, argSl_r, stow_r, retv_r, List.getElem?_cons_zero, List.getElem?_cons_succ, free, szOk, lock, unlock, back, wipeE, bxC, ha, g1, gMod_pos s0, gDiv_int s0 (by simpa using log2_small hs2)]
    obtain ⟨r, e, hr⟩ := nat a
    exact ⟨r, a / s, b, c, ⟨by rw [e], rfl, rfl, rfl⟩, hr, c0, by simp only; omega⟩
  · have d1 : ∀ x : Int, gDiv (.int x) (.int 1000003) = some (.v (.int (x / 1000003))) := fun x => gDiv_int (by omega) (log2_small (by decide))
    have d2 : ∀ x : Int, gDiv (.int x) (.int 64) = some (.v (.int (x / 64))) := fun x => gDiv_int (by omega) (log2_small (by decide))
    rw [callD_succ (by omega), Kit._law_take (fns := fns)]
    refine mkFn_go rfl ?_
    simp (disch := omega) [b__law_take, cN_eq, vw_r, vx_r, fz_r, argSl_r, stow_r, retv_r, List.getElem?_cons_zero, List.getElem?_cons_succ, free, szOk, lock, unlock, back, wipeE, bxC, ha, g1, gMulA_l, gMulA_r, gMod_pos, d1, d2]
    obtain ⟨r, e, hr⟩ := nat _
    exact ⟨r, a, b, c + 1, ⟨e, rfl, rfl, rfl⟩, hr, by simp only; omega, by simp only; omega⟩
/-- one of a list of one's own -/
theorem of_W {α : Type} {enc : α → PyData} {n N : Nat} {b : Box} {xs : List α} (h : 2 ≤ n) (hb : Bx N b) (hN : N ≤ 4611686018427387904) (h0 : xs ≠ []) (hl : xs.length < 1000000) :
    W (callD fns n 50 [.own (bxC b), .own (.lst (xs.map enc))]) fun p => Hd (∃ (x : α) (b' : Box), p = (.v (enc x), [.own (bxC b'), .own (.lst (xs.map enc))]) ∧ x ∈ xs ∧ Bx (N + 1) b') := by
  have hp : 0 < xs.length := List.length_pos_iff.mpr h0
  have tk := take_W (fns := fns) (n := n - 1) (s := xs.length) (by omega) hb hN hp (by omega)
  rw [callD_succ (by omega), Kit._law_of (fns := fns)]
  refine mkFn_go rfl ?_
  simp (disch := omega) [b__law_of, cN_eq, vw_r, vx_r, fz_r, argSl_r, stow_r, retv_r, List.getElem?_cons_zero, List.getElem?_cons_succ, free, szOk, lock, unlock, back, wipeE, bxC, g1, fLenA, fLen]
  simp only [bxC] at tk
  refine W_mono tk ?_
  rintro _ ⟨r, ⟨a', b', c'⟩, rfl, hr, hb'⟩
  have gi : gIx (.list (xs.map enc)) (.int (r : Nat)) = some (.v (enc xs[r])) := gIxL (by rw [List.getElem?_map, List.getElem?_eq_getElem hr]; rfl)
  simp (disch := omega) [cN_eq, vw_r, vx_r, fz_r, argSl_r, stow_r, retv_r, List.getElem?_cons_zero, List.getElem?_cons_succ, free, szOk, lock, unlock, back, wipeE, bxC, gi]
  exact hd ⟨xs[r], (a', b', c'), rfl, List.getElem_mem hr, hb'⟩
/-- a fraction in lowest terms -/
theorem low_eq {n : Nat} (h : 1 ≤ n) (a b : Int) (hb : b ≠ 0) (hs : b.natAbs.log2 < 9000) : callD fns n 52 [.d (.int a), .d (.int b)] = some (.v (frD ((a : Rat) / (b : Rat))), [.no, .no]) := by
  apply W_get
  have pa : ∀ x : Int, fAbs (.int x) = some (.v (.int (x.natAbs : Nat))) := fun x => by
    simp only [fAbs]; congr 3; split <;> omega
  have g0 : 0 < Nat.gcd a.natAbs b.natAbs := Nat.gcd_pos_of_pos_right _ (by omega)
  have g2 : (Nat.gcd a.natAbs b.natAbs).log2 < 9000 := log2_le (Nat.gcd_le_right _ (by omega)) hs
  have gd : ∀ x : Int, gDiv (.int x) (.int ((Nat.gcd a.natAbs b.natAbs : Nat) : Int)) = some (.v (.int (x / ((Nat.gcd a.natAbs b.natAbs : Nat) : Int)))) := fun x => gDiv_int (by omega) (by simpa using g2)
  rw [callD_succ (by omega), Kit._law_low (fns := fns)]
  refine mkFn_go rfl ?_
  simp (disch := omega) [b__law_low, cN_eq, vw_r, vx_r, fz_r, argSl_r, stow_r, retv_r, List.getElem?_cons_zero, List.getElem?_cons_succ, free, szOk, lock, unlock, back, wipeE, g1, pa]
  refine W_while (fun e => match e with
    | [_, _, .d (.int x), .d (.int y), _] => eu x.toNat y.toNat
    | _ => 0) (fun e => ∃ x y : Nat, e = [.d (.int a), .d (.int b), .d (.int (x : Nat)), .d (.int (y : Nat)), .no] ∧ Nat.gcd x y = Nat.gcd a.natAbs b.natAbs) ?_ ⟨a.natAbs, b.natAbs, rfl, rfl⟩ (fun e he => ?_)
  · have h1 : eu a.natAbs b.natAbs ≤ 2 * 9001 + 2 := eu_le 9001 _ _ ((Nat.log2_lt (by omega)).mp (by omega))
    show eu (a.natAbs : Int).toNat (b.natAbs : Int).toNat < fuel
    simp only [Int.toNat_natCast, fuel]
    omega
  · obtain ⟨x, y, rfl, hg⟩ := he
    by_cases hy : y = 0
    · subst hy
      have hx : x = Nat.gcd a.natAbs b.natAbs := by simpa using hg
      subst hx
      by_cases hb0 : 0 < b
      · simp (disch := omega) [cN_eq, vw_r, vx_r, fz_r, argSl_r, stow_r, retv_r, List.getElem?_cons_zero, List.getElem?_cons_succ, free, szOk, lock, unlock, back, wipeE, hb0, gMulA_l, gd]
        have e : (a : Rat) / (b : Rat) = mkRat a b.natAbs := by
          rw [Rat.mkRat_eq_div]; congr 1
          rw [← Rat.intCast_natCast]; congr 1; omega
        obtain ⟨m1, m2⟩ := mkRat_parts a b.natAbs (by omega)
        rw [e, frD, m1, m2]
        have : ((b.natAbs : Nat) : Int) = b := by omega
        simp [this]
      · simp (disch := omega) [cN_eq, vw_r, vx_r, fz_r, argSl_r, stow_r, retv_r, List.getElem?_cons_zero, List.getElem?_cons_succ, free, szOk, lock, unlock, back, wipeE, hb0, gMulA_l, gd]
        have e : (a : Rat) / (b : Rat) = mkRat (-a) b.natAbs := by
          rw [Rat.mkRat_eq_div]
          have : ((b.natAbs : Nat) : Rat) = -(b : Rat) := by
            rw [← Rat.intCast_natCast, ← Rat.intCast_neg]; congr 1; omega
          rw [this, Rat.intCast_neg]
          grind
        obtain ⟨m1, m2⟩ := mkRat_parts (-a) b.natAbs (by omega)
        rw [e, frD, m1, m2]
        have : ((b.natAbs : Nat) : Int) = -b := by omega
        simp [this]
    · have hy0 : 0 < y := by omega
      have hy1 : (0 : Int) < (y : Int) := by omega
      simp (disch := omega) [cN_eq, vw_r, vx_r, fz_r, argSl_r, stow_r, retv_r, List.getElem?_cons_zero, List.getElem?_cons_succ, free, szOk, lock, unlock, back, wipeE, hy0, g1, gMod_pos]
      refine ⟨⟨y, x % y, ⟨rfl, rfl⟩, ?_⟩, ?_⟩
      · rw [← hg, Nat.gcd_comm x y, Nat.gcd_rec y x, Nat.gcd_comm]
      · have e1 : ((x : Int) % (y : Int)).toNat = x % y := by omega
        rw [e1]
        conv => rhs; rw [eu, dif_neg hy]
        omega
theorem rat_split (a : Rat) : a = (a.num : Rat) / (a.den : Rat) := by rw [← Rat.mkRat_eq_div, Rat.mkRat_self]
theorem div_add' {a b c d : Rat} (hb : b ≠ 0) (hd : d ≠ 0) : (a * d + c * b) / (b * d) = a / b + c / d := by
  rw [Rat.div_def, Rat.div_def, Rat.div_def, Rat.inv_mul_rev]
  have h1 := Rat.mul_inv_cancel b hb
  have h2 := Rat.mul_inv_cancel d hd
  grind
theorem div_mul' {a b c d : Rat} : (a * c) / (b * d) = a / b * (c / d) := by
  rw [Rat.div_def, Rat.div_def, Rat.div_def, Rat.inv_mul_rev]
  grind
theorem ladded_eq {n : Nat} (h : 2 ≤ n) {a b : Rat} (ha : Sm a) (hb : Sm b) : callD fns n 53 [.d (frD a), .d (frD b)] = some (.v (frD (a + b)), [.no, .no]) := by
  apply W_get
  have m1 : gMulA (.int a.num) (.int b.den) = _ := gMulA_int (by have := ha.1; have := hb.2; simp; omega)
  have m2 : gMulA (.int b.num) (.int a.den) = _ := gMulA_int (by have := hb.1; have := ha.2; simp; omega)
  have m3 : gMulA (.int a.den) (.int b.den) = _ := gMulA_int (by have := ha.2; have := hb.2; simp; omega)
  have hd : a.den * b.den ≠ 0 := Nat.mul_ne_zero a.den_nz b.den_nz
  have l := low_eq (fns := fns) (n := n - 1) (by omega) (a.num * b.den + b.num * a.den) ((a.den : Int) * (b.den : Int)) (by rw [← Int.natCast_mul]; omega) (by rw [← Int.natCast_mul, Int.natAbs_natCast]; have := log2_mul a.den b.den; have := ha.2; have := hb.2; omega)
  have e : (((a.num * b.den + b.num * a.den : Int) : Rat) / (((a.den : Int) * (b.den : Int) : Int) : Rat)) = a + b := by
    simp only [Rat.intCast_add, Rat.intCast_mul, Rat.intCast_natCast]
    rw [div_add' (den_ne a) (den_ne b), ← rat_split, ← rat_split]
  rw [e] at l
  simp only [frD] at l ⊢
  rw [callD_succ (by omega), Kit._law_added (fns := fns)]
  refine mkFn_go rfl ?_
  simp [cN_eq, vw_r, vx_r, fz_r, argSl_r, stow_r, retv_r, List.getElem?_cons_zero, List.getElem?_cons_succ, free, szOk, lock, unlock, back, wipeE, b__law_added, m1, m2, m3, l]
theorem lmul_eq {n : Nat} (h : 2 ≤ n) {a b : Rat} (ha : Sm a) (hb : Sm b) : callD fns n 54 [.d (frD a), .d (frD b)] = some (.v (frD (a * b)), [.no, .no]) := by
  apply W_get
  have m1 : gMulA (.int a.num) (.int b.num) = _ := gMulA_int (by have := ha.1; have := hb.1; omega)
  have m3 : gMulA (.int a.den) (.int b.den) = _ := gMulA_int (by have := ha.2; have := hb.2; simp; omega)
  have hd : a.den * b.den ≠ 0 := Nat.mul_ne_zero a.den_nz b.den_nz
  have l := low_eq (fns := fns) (n := n - 1) (by omega) (a.num * b.num) ((a.den : Int) * (b.den : Int)) (by rw [← Int.natCast_mul]; omega) (by rw [← Int.natCast_mul, Int.natAbs_natCast]; have := log2_mul a.den b.den; have := ha.2; have := hb.2; omega)
  have e : (((a.num * b.num : Int) : Rat) / (((a.den : Int) * (b.den : Int) : Int) : Rat)) = a * b := by
    simp only [Rat.intCast_mul, Rat.intCast_natCast]
    rw [div_mul', ← rat_split, ← rat_split]
  rw [e] at l
  simp only [frD] at l ⊢
  rw [callD_succ (by omega), Kit._law_multiplied (fns := fns)]
  refine mkFn_go rfl ?_
  simp [cN_eq, vw_r, vx_r, fz_r, argSl_r, stow_r, retv_r, List.getElem?_cons_zero, List.getElem?_cons_succ, free, szOk, lock, unlock, back, wipeE, b__law_multiplied, m1, m3, l]
/-- a drawn fraction -/
def Sh (q : Rat) : Prop := q ≠ 0 ∧ q.den ≤ 9999 ∧ q.num.natAbs ≤ 999999
theorem Sh_mk {t u : Nat} (ht : 0 < t) (ht2 : t ≤ 999999) (hu : 0 < u) (hu2 : u ≤ 9999) (s : Int) (hs : s = (t : Int) ∨ s = -(t : Int)) : Sh ((s : Rat) / ((u : Int) : Rat)) := by
  have e : (s : Rat) / ((u : Int) : Rat) = mkRat s u := by rw [Rat.mkRat_eq_div, Rat.intCast_natCast]
  obtain ⟨m1, m2⟩ := mkRat_parts s u (by omega)
  rw [e]
  have hg : 0 < Nat.gcd s.natAbs u := Nat.gcd_pos_of_pos_right _ hu
  refine ⟨fun h0 => ?_, ?_, ?_⟩
  · have := (Rat.mkRat_eq_zero (by omega : u ≠ 0)).mp h0
    omega
  · have : ((mkRat s u).den : Int) ≤ u := by rw [m2]; exact Int.ediv_le_self _ (by omega)
    omega
  · rw [m1, Int.natAbs_ediv_of_dvd]
    · have h1 : s.natAbs ≤ 999999 := by omega
      exact Nat.le_trans (Nat.div_le_self _ _) h1
    · exact Int.ofNat_dvd_left.mpr (Nat.gcd_dvd_left _ _)
theorem share_W {n N : Nat} {b : Box} {bs : List Rat} (h : 4 ≤ n) (hb : Bx N b) (hN : N + 10 ≤ 4611686018427387904) (hbs : ∀ q ∈ bs, Sh q) (hl : bs.length < 1000000) :
    W (callD fns n 55 [.own (bxC b), .own (.lst (bs.map frD))]) fun p => Hd (∃ (q : Rat) (b' : Box), p = (.v (frD q), [.own (bxC b'), .own (.lst (bs.map frD))]) ∧ Sh q ∧ Bx (N + 10) b') := by
  have tk : ∀ {M s : Nat} {b : Box}, Bx M b → M ≤ N + 9 → 0 < s → s < 1152921504606846976 → _ := fun {M s b} hb hM h0 h1 => take_W (fns := fns) (n := n - 1) (N := M) (s := s) (b := b) (by omega) hb (by omega) h0 h1
  have low : ∀ (s : Int) (u : Nat), 0 < u → u ≤ 9999 → callD fns (n - 1) 52 [.d (.int s), .d (.int (u : Nat))] = some (.v (frD ((s : Rat) / ((u : Int) : Rat))), [.no, .no]) := fun s u h0 h1 => low_eq (by omega) s u (by omega) (by simp only [Int.natAbs_natCast]; exact log2_small (by omega))
  rw [callD_succ (by omega), Kit._law_share (fns := fns)]
  refine mkFn_go rfl ?_
  simp (disch := omega) [b__law_share, cN_eq, vw_r, vx_r, fz_r, argSl_r, stow_r, retv_r, List.getElem?_cons_zero, List.getElem?_cons_succ, free, szOk, lock, unlock, back, wipeE]
  refine W_mono (tk (s := 5) hb (by omega) (by omega) (by omega)) ?_
  rintro _ ⟨k, b1, rfl, hk, hb1⟩
  have tail : ∀ (k : Nat) (b1 : Box), Bx (N + 1) b1 → W (sSeq (sPar 2 [3, 4] (aCons (c2x gAdd (cK (.int 1)) (cCall (callD fns (n - 1) 47) (aCons (cN 0) (aCons (cK (.int 6)) aNil)))) (aCons (c2x gAdd (cK (.int 1)) (cCall (callD fns (n - 1) 47) (aCons (cN 0) (aCons (cK (.int 3)) aNil)))) aNil))) (sSeq (sIf (tV (c2 gEq (cN 2) (cK (.int 1)))) (sPar 2 [3, 4] (aCons (c2x gAdd (cK (.int 1)) (cCall (callD fns (n - 1) 47) (aCons (cN 0) (aCons (cK (.int 999999)) aNil)))) (aCons (c2x gAdd (cK (.int 1)) (cCall (callD fns (n - 1) 47) (aCons (cN 0) (aCons (cK (.int 9999)) aNil)))) aNil))) sNil) (sRet 2 (cCall (callD fns (n - 1) 52) (aCons (cIf (tV (c2 gEq (cCall (callD fns (n - 1) 47) (aCons (cN 0) (aCons (cK (.int 2)) aNil))) (cK (.int 0)))) (cN 3) (c1 gNeg (cN 3))) (aCons (cN 4) aNil))))) [.own (bxC b1), .own (.lst (bs.map frD)), .d (.int k), .no, .no])
      (done (fun p => Hd (∃ (q : Rat) (b' : Box), p = (.v (frD q), [.own (bxC b'), .own (.lst (bs.map frD))]) ∧ Sh q ∧ Bx (N + 10) b')) [.own (bxC b), .own (.lst (bs.map frD))]) := by
    intro k b1 hb1
    simp (disch := omega) [cN_eq, vw_r, vx_r, fz_r, argSl_r, stow_r, retv_r, List.getElem?_cons_zero, List.getElem?_cons_succ, free, szOk, lock, unlock, back, wipeE]
    refine W_mono (tk (s := 6) hb1 (by omega) (by omega) (by omega)) ?_
    rintro _ ⟨t, b2, rfl, ht, hb2⟩
    simp (disch := omega) [cN_eq, vw_r, vx_r, fz_r, argSl_r, stow_r, retv_r, List.getElem?_cons_zero, List.getElem?_cons_succ, free, szOk, lock, unlock, back, wipeE]
    refine W_mono (tk (s := 3) hb2 (by omega) (by omega) (by omega)) ?_
    rintro _ ⟨u, b3, rfl, hu, hb3⟩
    have fin : ∀ (t u : Nat) (b4 : Box) (M : Nat), Bx M b4 → M ≤ N + 9 → t < 999999 → u < 9999 → W (callD fns (n - 1) 47 [.own (bxC b4), .d (.int ((2 : Nat) : Int))]) fun p => ∃ (r : Nat) (b5 : Box), p = (.v (.int (r : Nat)), [.own (bxC b5), .no]) ∧ Bx (N + 10) b5 ∧ ∀ s : Int, (s = 1 + (t : Int) ∨ s = -(1 + (t : Int))) → ∃ q, callD fns (n - 1) 52 [.d (.int s), .d (.int (1 + (u : Int)))] = some (.v (frD q), [.no, .no]) ∧ Sh q := by
      intro t u b4 M hb4 hM ht hu
      refine W_mono (tk (s := 2) hb4 (by omega) (by omega) (by omega)) ?_
      rintro _ ⟨r, b5, rfl, hr, hb5⟩
      refine ⟨r, b5, rfl, hb5.le (by omega), fun s hs => ⟨_, ?_, Sh_mk (t := 1 + t) (u := 1 + u) (by omega) (by omega) (by omega) (by omega) s (by omega)⟩⟩
      have := low s (1 + u) (by omega) (by omega)
      rw [show (((1 + u : Nat)) : Int) = 1 + (u : Int) by omega] at this
      rw [this]
      simp
    by_cases hk1 : k = 1
    · subst hk1
      simp (disch := omega) [cN_eq, vw_r, vx_r, fz_r, argSl_r, stow_r, retv_r, List.getElem?_cons_zero, List.getElem?_cons_succ, free, szOk, lock, unlock, back, wipeE]
      refine W_mono (tk (s := 999999) hb3 (by omega) (by omega) (by omega)) ?_
      rintro _ ⟨t, b4, rfl, ht, hb4⟩
      simp (disch := omega) [cN_eq, vw_r, vx_r, fz_r, argSl_r, stow_r, retv_r, List.getElem?_cons_zero, List.getElem?_cons_succ, free, szOk, lock, unlock, back, wipeE]
      refine W_mono (tk (s := 9999) hb4 (by omega) (by omega) (by omega)) ?_
      rintro _ ⟨u, b5, rfl, hu, hb5⟩
      simp (disch := omega) [cN_eq, vw_r, vx_r, fz_r, argSl_r, stow_r, retv_r, List.getElem?_cons_zero, List.getElem?_cons_succ, free, szOk, lock, unlock, back, wipeE]
      refine W_mono (fin t u b5 _ hb5 (by omega) (by omega) (by omega)) ?_
      rintro _ ⟨r, b6, rfl, hb6, hlow⟩
      by_cases hr : r = 0
      · obtain ⟨q, l1, l2⟩ := hlow _ (.inl rfl)
        simp (disch := omega) [cN_eq, vw_r, vx_r, fz_r, argSl_r, stow_r, retv_r, List.getElem?_cons_zero, List.getElem?_cons_succ, free, szOk, lock, unlock, back, wipeE, hr, l1]
        exact hd ⟨_, b6, rfl, l2, hb6⟩
      · obtain ⟨q, l1, l2⟩ := hlow _ (.inr rfl)
        simp (disch := omega) [cN_eq, vw_r, vx_r, fz_r, argSl_r, stow_r, retv_r, List.getElem?_cons_zero, List.getElem?_cons_succ, free, szOk, lock, unlock, back, wipeE, hr, l1]
        exact hd ⟨_, b6, rfl, l2, hb6⟩
    · have hk1' : ¬ ((k : Int) = 1) := by omega
      simp (disch := omega) [cN_eq, vw_r, vx_r, fz_r, argSl_r, stow_r, retv_r, List.getElem?_cons_zero, List.getElem?_cons_succ, free, szOk, lock, unlock, back, wipeE, hk1']
      refine W_mono (fin t u b3 _ hb3 (by omega) (by omega) (by omega)) ?_
      rintro _ ⟨r, b6, rfl, hb6, hlow⟩
      by_cases hr : r = 0
      · obtain ⟨q, l1, l2⟩ := hlow _ (.inl rfl)
        simp (disch := omega) [cN_eq, vw_r, vx_r, fz_r, argSl_r, stow_r, retv_r, List.getElem?_cons_zero, List.getElem?_cons_succ, free, szOk, lock, unlock, back, wipeE, hr, l1]
        exact hd ⟨_, b6, rfl, l2, hb6⟩
      · obtain ⟨q, l1, l2⟩ := hlow _ (.inr rfl)
        simp (disch := omega) [cN_eq, vw_r, vx_r, fz_r, argSl_r, stow_r, retv_r, List.getElem?_cons_zero, List.getElem?_cons_succ, free, szOk, lock, unlock, back, wipeE, hr, l1]
        exact hd ⟨_, b6, rfl, l2, hb6⟩
  by_cases hk0 : k = 0 ∧ bs ≠ []
  · obtain ⟨rfl, hne⟩ := hk0
    have hpos : 0 < bs.length := List.length_pos_iff.mpr hne
    have ow := of_W (fns := fns) (n := n - 1) (enc := frD) (by omega) hb1 (by omega) hne hl
    simp (disch := omega) [cN_eq, vw_r, vx_r, fz_r, argSl_r, stow_r, retv_r, List.getElem?_cons_zero, List.getElem?_cons_succ, free, szOk, lock, unlock, back, wipeE, g1, fLenA, fLen, hpos]
    refine W_mono ow ?_
    rintro _ ⟨q, b2, rfl, hq, hb2⟩
    simp (disch := omega) [cN_eq, vw_r, vx_r, fz_r, argSl_r, stow_r, retv_r, List.getElem?_cons_zero, List.getElem?_cons_succ, free, szOk, lock, unlock, back, wipeE]
    exact hd ⟨q, b2, rfl, hbs q hq, hb2.le (by omega)⟩
  · by_cases hk1 : k = 0
    · have hbs0 : bs = [] := Classical.byContradiction fun e => hk0 ⟨hk1, e⟩
      subst hk1 hbs0
      simp (disch := omega) [cN_eq, vw_r, vx_r, fz_r, argSl_r, stow_r, retv_r, List.getElem?_cons_zero, List.getElem?_cons_succ, free, szOk, lock, unlock, back, wipeE, g1, fLenA, fLen]
      have := tail 0 b1 hb1
      simp (disch := omega) [cN_eq, vw_r, vx_r, fz_r, argSl_r, stow_r, retv_r, List.getElem?_cons_zero, List.getElem?_cons_succ, free, szOk, lock, unlock, back, wipeE] at this
      exact this
    · simp (disch := omega) [cN_eq, vw_r, vx_r, fz_r, argSl_r, stow_r, retv_r, List.getElem?_cons_zero, List.getElem?_cons_succ, free, szOk, lock, unlock, back, wipeE, hk1]
      have := tail k b1 hb1
      simp (disch := omega) [cN_eq, vw_r, vx_r, fz_r, argSl_r, stow_r, retv_r, List.getElem?_cons_zero, List.getElem?_cons_succ, free, szOk, lock, unlock, back, wipeE] at this
      exact this
end
end MP

/-! Q9: the law's own polynomials. -/
namespace MP
open PySem
open PySem.W (dataLt alike alikeAll dataLe dataLe_eq)
theorem sortK_gen {fn : List Sl → Option (Rv × List Sl)} {d : PyData} {T : Pl} (hd : srcD d = some (T.map fun c => exD c.1)) (hfn : ∀ c ∈ T, ∃ ps, fn [.d (exD c.1)] = some (.v (ordD c.1), ps)) (hl : T.length ≤ 16777216) : gSortK false fn d = some (.o (.lst ((sortT T).map fun c => exD c.1))) := by
  have k : ∀ S : Pl, (∀ c ∈ S, ∃ ps, fn [.d (exD c.1)] = some (.v (ordD c.1), ps)) → keysOf fn (S.map fun c => exD c.1) = some (S.map fun c => ordD c.1) := by
    intro S hS
    induction S with
    | nil => rfl
    | cons c S ih =>
      obtain ⟨ps, e⟩ := hS c List.mem_cons_self
      rw [List.map_cons, keysOf, e]
      simp only [ih fun d hd => hS d (List.mem_cons_of_mem _ hd), Option.map_some, List.map_cons]
  have ok : sortOkB (T.map fun c => ordD c.1) = true := by
    unfold sortOkB
    simp only [Bool.and_eq_true, List.all_eq_true, List.mem_map, Bool.or_eq_true, decide_eq_true_eq]
    refine ⟨⟨?_, .inl ?_⟩, ?_⟩
    · rintro _ ⟨c, _, rfl⟩ _ ⟨d, _, rfl⟩; exact alike_ord _ _
    · rintro _ ⟨c, _, rfl⟩; rfl
    · rintro _ ⟨c, _, rfl⟩
      exact ⟨by have := (Nd_ord c.1).depth; omega, (Nd_ord c.1).plain⟩
  simp only [gSortK, hd, Option.bind_some, k T hfn, ok, List.length_map, szOk, decide_eq_true hl, Bool.and_self, if_true]
  congr 3
  unfold sortK
  rw [List.zip_map', ← List.map_mergeSort (r := fun a b : Ex × Rat => decide (okey a.1 ≤ okey b.1)) (f := fun c : Ex × Rat => (exD c.1, ordD c.1))]
  · rw [List.map_map]; rfl
  · intro a _ b _
    rw [dataLe_eq]
    simp only [cond_false, dataLt_ord]
    unfold exLt
    by_cases hlt : okey b.1 < okey a.1
    · have : ¬ okey a.1 ≤ okey b.1 := fun q => List.not_lt.mpr q hlt
      simp [hlt, this]
    · have : okey a.1 ≤ okey b.1 := List.not_lt.mp hlt
      simp [hlt, this]
def nzT (T : Pl) : Pl := T.filter fun c => !decide (c.2 = 0)
theorem nzT_eq (T : Pl) : nzT T = T.filter fun c => decide (c.2 ≠ 0) := by simp [nzT]
theorem Tab.nzT {w g D : Nat} {T raw : Pl} (h : Tab w g D T raw) : Tab w g D (nzT T) raw := by rw [nzT_eq]; exact h.nz
theorem nzT_nz (T : Pl) : Nz (nzT T) := fun c hc => by simpa [MP.nzT] using (List.mem_filter.mp hc).2
/-- over the keys of a dict of one's own -/
theorem W_lcD {i : Nat} {vs : List Nat} {g : CG} {t : CT} {a : CE} {e : En} {kvs : Kv} {Q : Op × En → Prop} (h : e[i]? = some (.own (.dct kvs)))
    (k : W (cLc vs (iLkD i) g t a (e.set i (.lk (.dct kvs)))) fun p => ∃ c kvs', p.1 = .o c ∧ p.2[i]? = some (.lk (.dct kvs')) ∧ Q (.o c, p.2.set i (.own (.dct kvs')))) : W (cLcD i vs g t a e) Q := by
  obtain ⟨⟨x, e1⟩, h1, c, kvs', h2, h3, h4⟩ := k
  simp only at h2 h3 h4
  subst h2
  exact ⟨_, by simp only [cLcD, h, h1, Option.bind_some, h3], h4⟩
section
variable {fns : Nat → Orc → List Sl → Option (Rv × List Sl)} [Kit fns]
theorem lorder_eq {n : Nat} (h : 1 ≤ n) (p : Ex) (hp : p.length ≤ 16777216) : callD fns n 56 [.d (exD p)] = some (.v (ordD p), [.no]) := by
  apply W_get
  rw [callD_succ (by omega), Kit._law_order (fns := fns)]
  refine mkFn_go rfl ?_
  simp (disch := omega) [b__law_order, cN_eq, vw_r, vx_r, fz_r, argSl_r, stow_r, retv_r, List.getElem?_cons_zero, List.getElem?_cons_succ, free, szOk, lock, unlock, back, wipeE, fSum_ex, g1]
  refine W_lcM (enc := fun k : Nat => .int (k : Int)) (enc' := .int) p (fun k : Nat => -(k : Int)) (iE_d (.inl (by rw [tup_ex]; rfl))) (by rfl) hp (fun y hy => ?_) ?_
  · simp (disch := omega) [cN_eq, vw_r, vx_r, fz_r, argSl_r, stow_r, retv_r, List.getElem?_cons_zero, List.getElem?_cons_succ, free, szOk, lock, unlock, back, wipeE]
  · simp (disch := omega) [cN_eq, vw_r, vx_r, fz_r, argSl_r, stow_r, retv_r, List.getElem?_cons_zero, List.getElem?_cons_succ, free, szOk, lock, unlock, back, wipeE, fTuple, ordD]
theorem lmade_eq {n : Nat} (h : 2 ≤ n) {T : Pl} (nd : (T.map (·.1)).Nodup) (hl : T.length ≤ 16777216) (hx : ∀ c ∈ T, c.1.length ≤ 16777216) : callD fns n 57 [.own (.dct (kvT T))] = some (.v (plD (sortT (nzT T))), [.own (.dct (kvT T))]) := by
  apply W_get
  have hz : ∀ c : Ex × Rat, (c.2.num = 0) ↔ c.2 = 0 := fun c => Rat.num_eq_zero
  rw [callD_succ (by omega), Kit._law_made (fns := fns)]
  refine mkFn_go rfl ?_
  simp (disch := omega) [b__law_made, cN_eq, vw_r, vx_r, fz_r, argSl_r, stow_r, retv_r, List.getElem?_cons_zero, List.getElem?_cons_succ, free, szOk, lock, unlock, back, wipeE]
  refine W_lcD (by rfl) ?_
  refine W_lcP (enc := fun c : Ex × Rat => exD c.1) (enc' := fun c : Ex × Rat => exD c.1) T (fun c => !decide (c.2 = 0)) id (e1 := [.lk (.dct (kvT T)), .no, .no]) (wk := []) (by simp [iLkD, kvT, exD, Function.comp]) (by rfl) hl (fun y hy => ?_) ?_
  · have gi := gIx_T (find_mem nd hy)
    have g0 : gIx (frD y.2) (.int 0) = some (.v (.int y.2.num)) := by simp [frD]
    by_cases hy0 : y.2 = 0
    · have hn : y.2.num = 0 := (hz y).mpr hy0
      simp (disch := omega) [cN_eq, vw_r, vx_r, fz_r, argSl_r, stow_r, retv_r, List.getElem?_cons_zero, List.getElem?_cons_succ, free, szOk, lock, unlock, back, wipeE, gi, g0, hn]
      simp [hy0]
    · simp (disch := omega) [cN_eq, vw_r, vx_r, fz_r, argSl_r, stow_r, retv_r, List.getElem?_cons_zero, List.getElem?_cons_succ, free, szOk, lock, unlock, back, wipeE, gi, g0, hz, hy0]
  · have nd2 : ((nzT T).map (·.1)).Nodup := nd.sublist (List.Sublist.map _ List.filter_sublist)
    have sk := sortK_gen (fn := callD fns (n - 1) 56) (d := .list ((nzT T).map fun c => exD c.1)) (T := nzT T) rfl (fun c hc => ⟨_, lorder_eq (by omega) c.1 (hx c (List.mem_filter.mp hc).1)⟩) (Nat.le_trans (List.length_filter_le _ _) hl)
    refine ⟨_, _, rfl, rfl, ?_⟩
    rw [List.map_id]
    change gSortK false (callD fns (n - 1) 56) (.list ((T.filter fun c => !decide (c.2 = 0)).map fun c => exD c.1)) = _ at sk
    simp (disch := omega) [cN_eq, vw_r, vx_r, fz_r, argSl_r, stow_r, retv_r, List.getElem?_cons_zero, List.getElem?_cons_succ, free, szOk, lock, unlock, back, wipeE, sk]
    refine W_lcM (enc := fun c : Ex × Rat => exD c.1) (enc' := tmD) (sortT (nzT T)) id (iE_own rfl) (by rfl) (by rw [sortT_perm.length_eq]; exact Nat.le_trans (List.length_filter_le _ _) hl) (fun y hy => ?_) ?_
    · have gi := gIx_T (find_mem nd (List.mem_filter.mp (sortT_perm.mem_iff.mp hy)).1)
      simp (disch := omega) [cN_eq, vw_r, vx_r, fz_r, argSl_r, stow_r, retv_r, List.getElem?_cons_zero, List.getElem?_cons_succ, free, szOk, lock, unlock, back, wipeE, gi, tmD]
    · simp (disch := omega) [cN_eq, vw_r, vx_r, fz_r, argSl_r, stow_r, retv_r, List.getElem?_cons_zero, List.getElem?_cons_succ, free, szOk, lock, unlock, back, wipeE, g1, fTuple, plD]
theorem lput_eq {n : Nat} (h : 3 ≤ n) {T : Pl} {p : Ex} {c : Rat} (hc : Sm c) (hT : ∀ d ∈ T, Sm d.2) (hl : T.length < 16777216) : callD fns n 58 [.own (.dct (kvT T)), .d (exD p), .d (frD c)] = some (.v .none, [.own (.dct (kvT (putT T p c))), .no, .no]) := by
  apply W_get
  cases hf : T.find? (fun d => decide (d.1 = p)) with
  | none =>
    have e : putT T p c = T ++ [(p, c)] := by unfold putT; rw [hf]
    rw [e]
    rw [callD_succ (by omega), Kit._law_put (fns := fns)]
    refine mkFn_go rfl ?_
    simp (disch := omega) [b__law_put, cN_eq, vw_r, vx_r, fz_r, argSl_r, stow_r, retv_r, List.getElem?_cons_zero, List.getElem?_cons_succ, free, szOk, lock, unlock, back, wipeE, gIn_T, hf, stSub_T, hl]
  | some d =>
    have e : putT T p c = T.map (fun e => if e.1 = p then (e.1, d.2 + c) else e) := by unfold putT; rw [hf]
    have hp := ladded_eq (fns := fns) (n := n - 1) (by omega) (hT d (List.mem_of_find?_eq_some hf)) hc
    rw [e]
    rw [callD_succ (by omega), Kit._law_put (fns := fns)]
    refine mkFn_go rfl ?_
    simp (disch := omega) [b__law_put, cN_eq, vw_r, vx_r, fz_r, argSl_r, stow_r, retv_r, List.getElem?_cons_zero, List.getElem?_cons_succ, free, szOk, lock, unlock, back, wipeE, gIn_T, hf, gIx_T hf, hp, stSub_T, hl]
theorem put_step {n : Nat} (h : 3 ≤ n) {w g D L : Nat} {T pre post raw : Pl} {c : Ex × Rat} (hr : Raw w g D L raw) (e : raw = pre ++ c :: post) (t : Tab w g D T pre) (hl : raw.length ≤ 16777215) :
    callD fns n 58 [.own (.dct (kvT T)), .d (exD c.1), .d (frD c.2)] = some (.v .none, [.own (.dct (kvT (putT T c.1 c.2))), .no, .no]) ∧ Tab w g D (putT T c.1 c.2) (pre ++ [c]) := by
  subst e
  refine ⟨lput_eq h (hr.sm (by simp)) (t.sm hr.pre) (by have := t.ln; simp at hl; omega), t.put (hr.gd c (by simp))⟩
theorem lsum_W {n : Nat} (h : 4 ≤ n) {w g D L : Nat} {ts : List Pl} (hr : Raw w g D L ts.flatten) (hl : ts.flatten.length ≤ 16777215) (hw : w ≤ 16777216) :
    W (callD fns n 59 [.own (.lst (ts.map plD))]) fun p => ∃ t, p = (.v (plD t), [.own (.lst (ts.map plD))]) ∧ Cn w g D t ts.flatten := by
  rw [callD_succ (by omega), Kit._law_sum (fns := fns)]
  refine mkFn_go rfl ?_
  simp (disch := omega) [b__law_sum, cN_eq, vw_r, vx_r, fz_r, argSl_r, stow_r, retv_r, List.getElem?_cons_zero, List.getElem?_cons_succ, free, szOk, lock, unlock, back, wipeE]
  refine W_forN ts (fun done e => ∃ T s2 s3 s4, e = [.lk (.lst (ts.map plD)), .own (.dct (kvT T)), s2, s3, s4] ∧ Tab w g D T done.flatten) (iE_own rfl) ⟨[], .no, .no, .no, rfl, .nil⟩ (fun done y rest e hy hi => ?_) (fun e hi => ?_)
  · obtain ⟨T, s2, s3, s4, rfl, ht⟩ := hi
    simp (disch := omega) [cN_eq, vw_r, vx_r, fz_r, argSl_r, stow_r, retv_r, List.getElem?_cons_zero, List.getElem?_cons_succ, free, szOk, lock, unlock, back, wipeE]
    refine W_forN y (fun done2 e => ∃ T s3 s4, e = [.lk (.lst (ts.map plD)), .own (.dct (kvT T)), .d (plD y), s3, s4] ∧ Tab w g D T (done.flatten ++ done2)) (enc := tmD) (iE_d (.inl rfl)) ⟨T, s3, s4, rfl, by simpa using ht⟩ (fun done2 c rest2 e2 hy2 hi2 => ?_) (fun e2 hi2 => ?_)
    · obtain ⟨T, s3, s4, rfl, ht⟩ := hi2
      obtain ⟨k1, k2⟩ := put_step (fns := fns) (n := n - 1) (by omega) (c := c) (pre := done.flatten ++ done2) (post := rest2 ++ rest.flatten) hr (by rw [hy, hy2]; simp) ht (by omega)
      simp (disch := omega) [cN_eq, vw_r, vx_r, fz_r, argSl_r, stow_r, retv_r, List.getElem?_cons_zero, List.getElem?_cons_succ, free, szOk, lock, unlock, back, wipeE, tmD, k1]
      exact hd ⟨_, _, _, rfl, by simpa using k2⟩
    · obtain ⟨T, s3, s4, rfl, ht⟩ := hi2
      simp (disch := omega) [cN_eq, vw_r, vx_r, fz_r, argSl_r, stow_r, retv_r, List.getElem?_cons_zero, List.getElem?_cons_succ, free, szOk, lock, unlock, back, wipeE]
      exact hd ⟨_, _, _, _, rfl, by simpa using ht⟩
  · obtain ⟨T, s2, s3, s4, rfl, ht⟩ := hi
    have m := lmade_eq (fns := fns) (n := n - 1) (by omega) ht.nd (by have := ht.ln; omega) (fun c hc => by have := (ht.gd c hc).1; omega)
    simp (disch := omega) [cN_eq, vw_r, vx_r, fz_r, argSl_r, stow_r, retv_r, List.getElem?_cons_zero, List.getElem?_cons_succ, free, szOk, lock, unlock, back, wipeE, m]
    exact ⟨_, rfl, ht.nzT.cn (nzT_nz T)⟩
theorem ltimes_W {n : Nat} (h : 4 ≤ n) {w g D L : Nat} {a b : Pl} (hr : Raw w g D L (rawMul a b)) (hl : a.length * b.length ≤ 16777215) (hw : w ≤ 16777216) (ha : ∀ c ∈ a, c.1.length = w ∧ Sm c.2) (hb : ∀ c ∈ b, c.1.length = w ∧ Sm c.2) :
    W (callD fns n 60 [.d (plD a), .d (plD b)]) fun p => ∃ t, p = (.v (plD t), [.no, .no]) ∧ Cn w g D t (rawMul a b) := by
  have hrl := rawMul_len a b
  rw [callD_succ (by omega), Kit._law_times (fns := fns)]
  refine mkFn_go rfl ?_
  simp (disch := omega) [b__law_times, cN_eq, vw_r, vx_r, fz_r, argSl_r, stow_r, retv_r, List.getElem?_cons_zero, List.getElem?_cons_succ, free, szOk, lock, unlock, back, wipeE]
  refine W_forN a (fun done e => ∃ T s3 s4 s5 s6 s7 s8, Jk s7 ∧ Jk s8 ∧ e = [.d (plD a), .d (plD b), .own (.dct (kvT T)), s3, s4, s5, s6, s7, s8] ∧ Tab w g D T (rawMul done b)) (enc := tmD) (iE_d (.inl rfl)) ⟨[], .no, .no, .no, .no, .no, .no, .inl rfl, .inl rfl, rfl, .nil⟩ (fun done c rest e hy hi => ?_) (fun e hi => ?_)
  · obtain ⟨T, s3, s4, s5, s6, s7, s8, j7, j8, rfl, ht⟩ := hi
    have hca : c ∈ a := by rw [hy]; simp
    simp (disch := omega) [cN_eq, vw_r, vx_r, fz_r, argSl_r, stow_r, retv_r, List.getElem?_cons_zero, List.getElem?_cons_succ, free, szOk, lock, unlock, back, wipeE, tmD]
    refine W_forN b (fun done2 e => ∃ T s5 s6 s7 s8, Jk s7 ∧ Jk s8 ∧ e = [.d (plD a), .d (plD b), .own (.dct (kvT T)), .d (exD c.1), .d (frD c.2), s5, s6, s7, s8] ∧ Tab w g D T (rawMul done b ++ done2.map fun d => (addEx c.1 d.1, c.2 * d.2))) (enc := tmD) (iE_d (.inl rfl)) ⟨T, s5, s6, s7, s8, j7, j8, rfl, by simpa using ht⟩ (fun done2 d rest2 e2 hy2 hi2 => ?_) (fun e2 hi2 => ?_)
    · obtain ⟨T, s5, s6, s7, s8, j7, j8, rfl, ht⟩ := hi2
      have hdb : d ∈ b := by rw [hy2]; simp
      obtain ⟨k1, k2⟩ := put_step (fns := fns) (n := n - 1) (by omega) (c := (addEx c.1 d.1, c.2 * d.2)) (pre := rawMul done b ++ done2.map fun d => (addEx c.1 d.1, c.2 * d.2)) (post := (rest2.map fun d => (addEx c.1 d.1, c.2 * d.2)) ++ rawMul rest b) hr (by
        rw [hy, rawMul, rawMul, rawMul, List.flatMap_append, List.flatMap_cons]
        conv => lhs; rw [show b.map (fun d => (addEx c.1 d.1, c.2 * d.2)) = (done2 ++ d :: rest2).map (fun d => (addEx c.1 d.1, c.2 * d.2)) by rw [← hy2]]
        simp only [List.map_append, List.map_cons, List.append_assoc, List.cons_append]) ht (by omega)
      have tm := lmul_eq (fns := fns) (n := n - 1) (by omega) (ha c hca).2 (hb d hdb).2
      simp (disch := omega) [cN_eq, vw_r, vx_r, fz_r, argSl_r, stow_r, retv_r, List.getElem?_cons_zero, List.getElem?_cons_succ, free, szOk, lock, unlock, back, wipeE, tmD]
      refine W_lcM (enc := fun z : Nat × Nat => .tuple [.int (z.1 : Int), .int (z.2 : Int)]) (enc' := fun z : Nat × Nat => .int ((z.1 : Int) + (z.2 : Int))) (c.1.zip d.1) id (e1 := [.d (plD a), .d (plD b), .own (.dct (kvT T)), .d (exD c.1), .d (frD c.2), .d (exD d.1), .d (frD d.2), s7, s8]) (wk := []) (by
        rw [iZip_d (xs := c.1.map fun k : Nat => .int (k : Int)) (ys := d.1.map fun k : Nat => .int (k : Int)) (by simp [tup_ex]) (by simp [tup_ex])]
        simp [List.zip_map, Function.comp]) (by rcases j7 with rfl | ⟨x, rfl⟩ <;> rcases j8 with rfl | ⟨y, rfl⟩ <;> rfl) (by have := (ha c hca).1; simp; omega) (fun z hz => ?_) ?_
      · simp (disch := omega) [cN_eq, vw_r, vx_r, fz_r, argSl_r, stow_r, retv_r, List.getElem?_cons_zero, List.getElem?_cons_succ, free, szOk, lock, unlock, back, wipeE]
      · simp (disch := omega) [cN_eq, vw_r, vx_r, fz_r, argSl_r, stow_r, retv_r, List.getElem?_cons_zero, List.getElem?_cons_succ, free, szOk, lock, unlock, back, wipeE, fTuple, g1, zip_ex, tm, k1]
        exact hd ⟨_, _, _, _, _, j7, j8, rfl, by simpa using k2⟩
    · obtain ⟨T, s5, s6, s7, s8, j7, j8, rfl, ht⟩ := hi2
      simp (disch := omega) [cN_eq, vw_r, vx_r, fz_r, argSl_r, stow_r, retv_r, List.getElem?_cons_zero, List.getElem?_cons_succ, free, szOk, lock, unlock, back, wipeE]
      exact hd ⟨_, _, _, _, _, _, _, j7, j8, rfl, by simpa [rawMul] using ht⟩
  · obtain ⟨T, s3, s4, s5, s6, s7, s8, j7, j8, rfl, ht⟩ := hi
    have m := lmade_eq (fns := fns) (n := n - 1) (by omega) ht.nd (by have := ht.ln; omega) (fun c hc => by have := (ht.gd c hc).1; omega)
    simp (disch := omega) [cN_eq, vw_r, vx_r, fz_r, argSl_r, stow_r, retv_r, List.getElem?_cons_zero, List.getElem?_cons_succ, free, szOk, lock, unlock, back, wipeE, m]
    exact ⟨_, rfl, ht.nzT.cn (nzT_nz T)⟩
theorem lat_eq {n : Nat} (h : 4 ≤ n) {w g k D L E M : Nat} {t : Pl} {x : List Rat} (ht : Bd w g k D L t) (hx : x.length = w) (hE : 1 ≤ E) (hM : 1 ≤ M) (hD : 1 ≤ D) (hL : 1 ≤ L) (hs : ∀ a ∈ x, Sz E M a) (hg : g < 1000) (hw : w ≤ 16777216) (f : Fits (D * E ^ g) (k * (L * M ^ g))) (hk : 1 ≤ k) :
    callD fns n 62 [.d (plD t), .d (ptD x)] = some (.v (frD (ev t x)), [.no, .no]) := by
  apply W_get
  have fit : ∀ s, s ≤ g → Fits (D * E ^ s) (L * M ^ s) := fun s hs => f.le (by have := Nat.mul_pos hD (Nat.pow_pos (n := s) hE); omega) (Nat.mul_le_mul_left _ (Nat.pow_le_pow_right hE hs)) (Nat.le_trans (Nat.mul_le_mul_left _ (Nat.pow_le_pow_right hM hs)) (Nat.le_mul_of_pos_left _ hk))
  have fit1 : ∀ s, s ≤ g → Fits (E ^ s) (M ^ s) := fun s hs => (fit s hs).le (by have := Nat.pow_pos (n := s) hE; omega) (Nat.le_mul_of_pos_left _ hD) (Nat.le_mul_of_pos_left _ hL)
  have fit2 : ∀ j, j ≤ k → Fits (D * E ^ g) (j * (L * M ^ g)) := fun j hj => f.le f.1 (Nat.le_refl _) (Nat.mul_le_mul_right _ hj)
  rw [callD_succ (by omega), Kit._law_at (fns := fns)]
  refine mkFn_go rfl ?_
  simp (disch := omega) [b__law_at, cN_eq, vw_r, vx_r, fz_r, argSl_r, stow_r, retv_r, List.getElem?_cons_zero, List.getElem?_cons_succ, free, szOk, lock, unlock, back, wipeE]
  rw [← frD_zero]
  refine W_forN t (fun done e => ∃ s3 s4 s5 s6 s7, e = [.d (plD t), .d (ptD x), .d (frD (ev done x)), s3, s4, s5, s6, s7] ∧ Sz (D * E ^ g) (done.length * (L * M ^ g)) (ev done x)) (enc := tmD) (iE_d (.inl rfl)) ⟨.no, .no, .no, .no, .no, rfl, Sz.zero⟩ (fun done c rest e hy hi => ?_) (fun e hi => ?_)
  · obtain ⟨s3, s4, s5, s6, s7, rfl, hsz⟩ := hi
    have hc : c ∈ t := by rw [hy]; simp
    obtain ⟨c1, c2, c3⟩ := ht.gd c hc
    have hdl : done.length + 1 ≤ k := by have := ht.ln; rw [hy] at this; simp at this; omega
    have csum := zip_snd_sum x c.1 (by omega)
    simp (disch := omega) [cN_eq, vw_r, vx_r, fz_r, argSl_r, stow_r, retv_r, List.getElem?_cons_zero, List.getElem?_cons_succ, free, szOk, lock, unlock, back, wipeE, tmD]
    refine W_forN (x.zip c.1) (fun done2 e => ∃ s5 s6 s7, e = [.d (plD t), .d (ptD x), .d (frD (ev done x)), .d (exD c.1), .d (frD (c.2 * pzq done2)), s5, s6, s7] ∧ Sz (D * E ^ (done2.map (·.2)).sum) (L * M ^ (done2.map (·.2)).sum) (c.2 * pzq done2)) (enc := fun z : Rat × Nat => .tuple [frD z.1, .int z.2])
      (e1 := [.d (plD t), .d (ptD x), .d (frD (ev done x)), .d (exD c.1), .d (frD c.2), s5, s6, s7]) (wk := []) (by
        rw [iZip_d (xs := x.map frD) (ys := c.1.map fun k : Nat => .int (k : Int)) (by simp [ptD]) (by simp [tup_ex])]
        simp [List.zip_map, Function.comp]) ⟨s5, s6, s7, by simp only [pzq, Rat.mul_one]; rfl, by simpa [pzq, Rat.mul_one] using ht.sz hc⟩ (fun done2 z rest2 e2 hy2 hi2 => ?_) (fun e2 hi2 => ?_)
    · obtain ⟨s5, s6, s7, rfl, hsz2⟩ := hi2
      have hzx : z.1 ∈ x := (List.of_mem_zip (show (z.1, z.2) ∈ x.zip c.1 by rw [hy2]; simp)).1
      have hms : (done2.map (·.2)).sum + z.2 ≤ g := by
        have : ((x.zip c.1).map (·.2)).sum ≤ g := by omega
        rw [hy2] at this
        simp at this
        omega
      simp (disch := omega) [cN_eq, vw_r, vx_r, fz_r, argSl_r, stow_r, retv_r, List.getElem?_cons_zero, List.getElem?_cons_succ, free, szOk, lock, unlock, back, wipeE]
      refine W_forN (List.range z.2) (fun done3 e => ∃ s7, e = [.d (plD t), .d (ptD x), .d (frD (ev done x)), .d (exD c.1), .d (frD (c.2 * pzq done2 * z.1 ^ done3.length)), .d (frD z.1), .d (.int z.2), s7]) (iR1_d rfl (by omega)) ⟨s7, by simp only [List.length_nil, Rat.pow_zero, Rat.mul_one]; rfl⟩ (fun done3 y rest3 e3 hy3 hi3 => ?_) (fun e3 hi3 => ?_)
      · obtain ⟨s7, rfl⟩ := hi3
        have hl3 : done3.length + 1 ≤ z.2 := by have := congrArg List.length hy3; simp at this; omega
        have sz := hsz2.mul ((hs z.1 hzx).pow done3.length)
        rw [Nat.mul_assoc, ← Nat.pow_add, Nat.mul_assoc, ← Nat.pow_add] at sz
        have sx := (hs z.1 hzx).pow 1
        rw [Rat.pow_succ, Rat.pow_zero, Rat.one_mul] at sx
        have tm := lmul_eq (fns := fns) (n := n - 1) (by omega) (sz.sm (fit _ (by omega))) (sx.sm (fit1 1 (by omega)))
        simp (disch := omega) [cN_eq, vw_r, vx_r, fz_r, argSl_r, stow_r, retv_r, List.getElem?_cons_zero, List.getElem?_cons_succ, free, szOk, lock, unlock, back, wipeE, tm]
        refine hd ⟨_, by rw [List.length_append, List.length_singleton, Rat.pow_succ, ← Rat.mul_assoc]⟩
      · obtain ⟨s7, rfl⟩ := hi3
        rw [List.length_range]
        simp (disch := omega) [cN_eq, vw_r, vx_r, fz_r, argSl_r, stow_r, retv_r, List.getElem?_cons_zero, List.getElem?_cons_succ, free, szOk, lock, unlock, back, wipeE]
        refine hd ⟨_, _, _, by rw [pzq_snoc, ← Rat.mul_assoc], ?_⟩
        have := hsz2.mul ((hs z.1 hzx).pow z.2)
        rw [pzq_snoc, ← Rat.mul_assoc]
        simp only [List.map_append, List.map_singleton, List.sum_append, List.sum_singleton, Nat.pow_add, ← Nat.mul_assoc]
        exact this
    · obtain ⟨s5, s6, s7, rfl, hsz2⟩ := hi2
      rw [csum] at hsz2
      have hsz3 : Sz (D * E ^ g) (L * M ^ g) (c.2 * pzq (x.zip c.1)) := by
        have e1 : D * E ^ g = D * E ^ c.1.sum * E ^ (g - c.1.sum) := by rw [Nat.mul_assoc, ← Nat.pow_add]; congr 2; omega
        rw [e1]
        exact (hsz2.more _).le (Nat.mul_le_mul_left _ (Nat.pow_le_pow_right hM c2))
      have pl := ladded_eq (fns := fns) (n := n - 1) (by omega) (hsz.sm (fit2 _ (by omega))) (hsz3.sm (fit g (Nat.le_refl _)))
      simp (disch := omega) [cN_eq, vw_r, vx_r, fz_r, argSl_r, stow_r, retv_r, List.getElem?_cons_zero, List.getElem?_cons_succ, free, szOk, lock, unlock, back, wipeE, pl]
      have e2 : ev (done ++ [c]) x = ev done x + c.2 * pzq (x.zip c.1) := by rw [ev_append, ev_cons, ev_nil, pzq_mono]; grind
      refine hd ⟨_, _, _, _, _, by rw [e2], ?_⟩
      rw [e2, List.length_append, List.length_singleton, Nat.add_mul, Nat.one_mul]
      exact hsz.add hsz3
  · obtain ⟨s3, s4, s5, s6, s7, rfl, hsz⟩ := hi
    simp (disch := omega) [cN_eq, vw_r, vx_r, fz_r, argSl_r, stow_r, retv_r, List.getElem?_cons_zero, List.getElem?_cons_succ, free, szOk, lock, unlock, back, wipeE]
end
end MP

/-! Q10: drawn polynomials. -/
namespace MP
open PySem
/-- a coefficient with bounds -/
def Cb (d m : Nat) (q : Rat) : Prop := q ≠ 0 ∧ q.den ≤ d ∧ q.num.natAbs ≤ m
theorem abs_le_num (q : Rat) : q.abs ≤ ((q.num.natAbs : Nat) : Rat) := by
  have h2 : (1 : Rat) ≤ (q.den : Rat) := by exact_mod_cast q.den_pos
  have h3 : ((q.num.natAbs : Nat) : Rat) = q.abs * q.den := by
    have h1 : (q.num : Rat) = q * q.den := (den_eq q).symm
    unfold Rat.abs
    split
    · rename_i h0
      have : 0 ≤ q.num := Rat.num_nonneg.mpr h0
      rw [← h1, ← Rat.intCast_natCast, Int.natAbs_of_nonneg this]
    · rename_i h0
      have : q.num < 0 := by
        have : ¬ 0 ≤ q.num := fun e => h0 (Rat.num_nonneg.mp e)
        omega
      rw [Rat.neg_mul, ← h1, ← Rat.intCast_natCast, ← Rat.intCast_neg]
      congr 1
      omega
  rw [h3]
  have := Rat.mul_le_mul_of_nonneg_left h2 (abs_nonneg q)
  rwa [Rat.mul_one] at this
theorem Cb.sz {d m : Nat} {q : Rat} (h : Cb d m q) : Sz q.den m q := ⟨Dv.self q, Rat.le_trans (abs_le_num q) (Rat_le_of_nat h.2.2)⟩
theorem Sh.sm {q : Rat} (h : Sh q) : Sm q := by
  have l1 : (999999 : Nat).log2 < 4000 := by decide
  have l2 : (9999 : Nat).log2 < 4000 := by decide
  exact ⟨log2_le h.2.2 l1, log2_le h.2.1 l2⟩
/-- a polynomial of so many letters, with coefficients with bounds -/
structure Pc (w g k d m : Nat) (t : Pl) : Prop where
  can : Can w t
  deg : ∀ c ∈ t, c.1.sum ≤ g
  cb : ∀ c ∈ t, Cb d m c.2
  ln : t.length ≤ k
theorem common (d m : Nat) (hd : 1 ≤ d) : ∀ t : Pl, (∀ c ∈ t, Cb d m c.2) → ∃ D, 1 ≤ D ∧ D ≤ d ^ t.length ∧ (∀ c ∈ t, Dv D c.2) ∧ nrm t ≤ ((t.length * m : Nat) : Rat)
  | [], _ => ⟨1, by omega, by simp, fun c h => (nomatch h), by simp [nrm]⟩
  | c :: t, h => by
    obtain ⟨D, h1, h2, h3, h4⟩ := common d m hd t fun e he => h e (List.mem_cons_of_mem _ he)
    have hc := h c List.mem_cons_self
    refine ⟨c.2.den * D, Nat.mul_pos c.2.den_pos h1, ?_, fun e he => ?_, ?_⟩
    · rw [List.length_cons, Nat.pow_succ, Nat.mul_comm]; exact Nat.mul_le_mul h2 hc.2.1
    · rcases List.mem_cons.mp he with rfl | he
      · exact (Dv.self _).more
      · rw [Nat.mul_comm]; exact (h3 e he).more
    · rw [nrm, List.length_cons, Nat.succ_mul, Rat.natCast_add]
      have := hc.sz.2
      grind
theorem Pc.bd {w g k d m : Nat} {t : Pl} (h : Pc w g k d m t) (hd : 1 ≤ d) : ∃ D, 1 ≤ D ∧ D ≤ d ^ k ∧ Bd w g k D (k * m) t := by
  obtain ⟨D, h1, h2, h3, h4⟩ := common d m hd t h.cb
  exact ⟨D, h1, Nat.le_trans h2 (Nat.pow_le_pow_right hd h.ln), h.can, fun c hc => ⟨h.can.len c hc, h.deg c hc, h3 c hc⟩, Rat.le_trans h4 (Rat_le_of_nat (Nat.mul_le_mul_right _ h.ln)), h.ln⟩
/-- several, with one common under number -/
theorem commons {w g k L B : Nat} (hB : 1 ≤ B) : ∀ ts : List Pl, (∀ t ∈ ts, ∃ D, 1 ≤ D ∧ D ≤ B ∧ Bd w g k D L t) → ∃ D, 1 ≤ D ∧ D ≤ B ^ ts.length ∧ ∀ t ∈ ts, Bd w g k D L t
  | [], _ => ⟨1, by omega, by simp, fun t h => (nomatch h)⟩
  | t :: ts, h => by
    obtain ⟨D, h1, h2, h3⟩ := commons hB ts fun e he => h e (List.mem_cons_of_mem _ he)
    obtain ⟨E, e1, e2, e3⟩ := h t List.mem_cons_self
    refine ⟨E * D, Nat.mul_pos e1 h1, ?_, fun s hs => ?_⟩
    · rw [List.length_cons, Nat.pow_succ, Nat.mul_comm]; exact Nat.mul_le_mul h2 e2
    · rcases List.mem_cons.mp hs with rfl | hs
      · exact e3.more D (Nat.le_refl _) (Nat.le_refl _) (Nat.le_refl _)
      · rw [Nat.mul_comm]; exact (h3 s hs).more E (Nat.le_refl _) (Nat.le_refl _) (Nat.le_refl _)
theorem gAdd_list {xs ys : List PyData} (h : xs.length + ys.length ≤ 16777216) : gAdd (.list xs) (.list ys) = some (.o (.lst (xs ++ ys))) := by
  simp [gAdd, szOk, h]
theorem gNotIn_T (T : Pl) (p : Ex) : gNotIn (exD p) (Ct.dct (kvT T)).frz = some (.v (.bool (!(T.find? fun d => decide (d.1 = p)).isSome))) := by
  simp only [gNotIn, Ct.frz, exD, intK_kD, kvD_frz, Option.bind_some, isSome_T]
def natsD (p : List Nat) : List PyData := p.map fun k : Nat => .int (k : Int)
theorem sum_set : ∀ (p : List Nat) (i : Nat) (h : i < p.length), (p.set i (p[i] + 1)).sum = p.sum + 1
  | [], i, h => by simp at h
  | k :: p, 0, h => by simp; omega
  | k :: p, i + 1, h => by
    have := sum_set p i (by simpa using h)
    simp only [List.set_cons_succ, List.sum_cons, List.getElem_cons_succ, this]; omega
section
variable {fns : Nat → Orc → List Sl → Option (Rv × List Sl)} [Kit fns]
theorem sum_drawn_W {n N w most high : Nat} {b : Box} (h : 5 ≤ n) (hb : Bx N b) (hN : N ≤ 1000000000) (hw1 : 1 ≤ w) (hw2 : w ≤ 4) (hm1 : 1 ≤ most) (hm2 : most ≤ 100) (hh : high ≤ 100) :
    W (callD fns n 63 [.own (bxC b), .d (.int w), .d (.int most), .d (.int high)]) fun p => Hd (∃ (t : Pl) (b' : Box), p = (.v (plD t), [.own (bxC b'), .no, .no, .no]) ∧ Pc w high most 9999 999999 t ∧ t ≠ [] ∧ Bx (N + 100000) b') := by
  have tk : ∀ {M s : Nat} {b : Box}, Bx M b → M ≤ N + 99999 → 0 < s → s < 1152921504606846976 → _ := fun {M s b} hb hM h0 h1 => take_W (fns := fns) (n := n - 1) (N := M) (s := s) (b := b) (by omega) hb (by omega) h0 h1
  rw [callD_succ (by omega), Kit._law_sum_drawn (fns := fns)]
  refine mkFn_go rfl ?_
  simp (disch := omega) [b__law_sum_drawn, cN_eq, vw_r, vx_r, fz_r, argSl_r, stow_r, retv_r, List.getElem?_cons_zero, List.getElem?_cons_succ, free, szOk, lock, unlock, back, wipeE]
  obtain ⟨_, hcall, r, b1, rfl, hr, hb1⟩ := tk (s := most) hb (by omega) (by omega) (by omega)
  refine W_forN (List.range (1 + r)) (fun done e => ∃ (b : Box) (T : Pl) (bs : List Rat) (s6 s7 s8 s9 s10 : Sl), e = [.own (bxC b), .d (.int w), .d (.int most), .d (.int high), .own (.dct (kvT T)), .own (.lst (bs.map frD)), s6, s7, s8, s9, s10] ∧ Bx (N + 1 + done.length * 200) b ∧ (T.map (·.1)).Nodup ∧ (∀ c ∈ T, c.1.length = w ∧ c.1.sum ≤ high ∧ Sh c.2) ∧ T.length ≤ done.length ∧ (1 ≤ done.length → 1 ≤ T.length) ∧ bs.length = 2 * done.length ∧ ∀ q ∈ bs, Sh q)
    (iR1_of (op := .v (.int ((1 + r : Nat) : Int))) (e1 := [.own (bxC b1), .d (.int w), .d (.int most), .d (.int high), .own (.dct []), .own (.lst []), .no, .no, .no, .no, .no]) (by
      apply W_get
      simp (disch := omega) [cN_eq, vw_r, vx_r, fz_r, argSl_r, stow_r, retv_r, List.getElem?_cons_zero, List.getElem?_cons_succ, free, szOk, lock, unlock, back, wipeE, hcall]) rfl (by omega)) ⟨b1, [], [], .no, .no, .no, .no, .no, rfl, hb1, List.nodup_nil, fun c h => (nomatch h), by simp, by simp, rfl, fun q h => (nomatch h)⟩ (fun done y rest e hy hi => ?_) (fun e hi => ?_)
  · obtain ⟨b, T, bs, s6, s7, s8, s9, s10, rfl, hb, hnd, hT, hTl, hT1, hbl, hbs⟩ := hi
    have hdl : done.length + 1 ≤ 1 + r := by have := congrArg List.length hy; simp at this; omega
    have gm := gMulA_rep (x := .int 0) (m := w) (by omega)
    simp (disch := omega) [cN_eq, vw_r, vx_r, fz_r, argSl_r, stow_r, retv_r, List.getElem?_cons_zero, List.getElem?_cons_succ, free, szOk, lock, unlock, back, wipeE, gm]
    obtain ⟨_, hcall2, r2, b2, rfl, hr2, hb2⟩ := tk (s := high + 1) hb (by omega) (by omega) (by omega)
    refine W_forN (List.range r2) (fun done2 e => ∃ (b : Box) (p : Ex) (s8 s9 : Sl), e = [.own (bxC b), .d (.int w), .d (.int most), .d (.int high), .own (.dct (kvT T)), .own (.lst (bs.map frD)), .d (.int y), .own (.lst (natsD p)), s8, s9, s10] ∧ Bx (N + 1 + done.length * 200 + 1 + done2.length) b ∧ p.length = w ∧ p.sum = done2.length)
      (iR1_of (op := .v (.int ((r2 : Nat) : Int))) (e1 := [.own (bxC b2), .d (.int w), .d (.int most), .d (.int high), .own (.dct (kvT T)), .own (.lst (bs.map frD)), .d (.int y), .own (.lst (List.replicate w (.int 0))), s8, s9, s10]) (by
        apply W_get
        rw [Int.natCast_add] at hcall2
        simp (disch := omega) [cN_eq, vw_r, vx_r, fz_r, argSl_r, stow_r, retv_r, List.getElem?_cons_zero, List.getElem?_cons_succ, free, szOk, lock, unlock, back, wipeE]
        refine ⟨_, hcall2, ?_⟩
        simp (disch := omega) [cN_eq, vw_r, vx_r, fz_r, argSl_r, stow_r, retv_r, List.getElem?_cons_zero, List.getElem?_cons_succ, free, szOk, lock, unlock, back, wipeE]) rfl (by omega)) ⟨b2, List.replicate w 0, s8, s9, by simp [natsD]; rfl, hb2, by simp, by simp⟩ (fun done2 y2 rest2 e2 hy2 hi2 => ?_) (fun e2 hi2 => ?_)
    · obtain ⟨b3, p, s8, s9, rfl, hb3, hpl, hps⟩ := hi2
      have hdl2 : done2.length + 1 ≤ r2 := by have := congrArg List.length hy2; simp at this; omega
      simp (disch := omega) [cN_eq, vw_r, vx_r, fz_r, argSl_r, stow_r, retv_r, List.getElem?_cons_zero, List.getElem?_cons_succ, free, szOk, lock, unlock, back, wipeE]
      refine W_mono (tk (s := w) hb3 (by omega) (by omega) (by omega)) ?_
      rintro _ ⟨i, b4, rfl, hi, hb4⟩
      have hip : i < p.length := by omega
      have gx : gIx (.list (natsD p)) (.int (i : Nat)) = some (.v (.int (p[i] : Nat))) := gIxL (by rw [natsD, List.getElem?_map, List.getElem?_eq_getElem hip]; rfl)
      have st : stSub (.lst (natsD p)) (.int (i : Nat)) (.int ((p[i] : Nat) + 1)) = some (.lst (natsD (p.set i (p[i] + 1)))) := by
        rw [stSub_n (by simpa [natsD] using hip), natsD, natsD, List.map_set]; simp
      simp (disch := omega) [cN_eq, vw_r, vx_r, fz_r, argSl_r, stow_r, retv_r, List.getElem?_cons_zero, List.getElem?_cons_succ, free, szOk, lock, unlock, back, wipeE, gx, st]
      exact hd ⟨b4, p.set i (p[i] + 1), _, _, rfl, by rw [List.length_append]; exact hb4.le (by simp; omega), by simpa using hpl, by rw [sum_set p i hip, hps]; simp⟩
    · obtain ⟨b3, p, s8, s9, rfl, hb3, hpl, hps⟩ := hi2
      rw [List.length_range] at hb3 hps
      simp (disch := omega) [cN_eq, vw_r, vx_r, fz_r, argSl_r, stow_r, retv_r, List.getElem?_cons_zero, List.getElem?_cons_succ, free, szOk, lock, unlock, back, wipeE]
      refine W_mono (share_W (fns := fns) (n := n - 1) (by omega) hb3 (by omega) hbs (by omega)) ?_
      rintro _ ⟨q, b4, rfl, hq, hb4⟩
      have ln := lmul_eq (fns := fns) (n := n - 1) (by omega) hq.sm (b := -1) ⟨by decide, by decide⟩
      have e1 : frD (-1) = .tuple [.int (-1), .int 1] := rfl
      rw [e1] at ln
      have gl : gAdd (.list (bs.map frD)) (.list [frD q, frD (q * -1)]) = some (.o (.lst ((bs ++ [q, q * -1]).map frD))) := by
        rw [gAdd_list (by simp; omega)]; simp
      have tp : fTuple (.list (natsD p)) = some (.v (exD p)) := by simp [fTuple, natsD, tup_ex]
      have hqn : Sh (q * -1) := by
        have e : q * -1 = -q := by grind
        rw [e]
        refine ⟨fun h0 => hq.1 (by grind), by rw [Rat.neg_den]; exact hq.2.1, by rw [Rat.neg_num, Int.natAbs_neg]; exact hq.2.2⟩
      have hbs' : ∀ z ∈ bs ++ [q, q * -1], Sh z := fun z hz => by
        rcases List.mem_append.mp hz with hz | hz
        · exact hbs z hz
        · simp only [List.mem_cons, List.not_mem_nil, or_false] at hz
          rcases hz with rfl | rfl
          · exact hq
          · exact hqn
      have hbx : Bx (N + 1 + (done ++ [y]).length * 200) b4 := hb4.le (by simp; omega)
      cases hf : T.find? (fun d => decide (d.1 = p)) with
      | some d =>
        simp (disch := omega) [cN_eq, vw_r, vx_r, fz_r, argSl_r, stow_r, retv_r, List.getElem?_cons_zero, List.getElem?_cons_succ, free, szOk, lock, unlock, back, wipeE, ln, gl, g1, tp, gNotIn_T, hf]
        refine hd ⟨b4, T, bs ++ [q, q * -1], _, _, _, _, _, by rw [List.map_append]; rfl, hbx, hnd, hT, by simp; omega, fun _ => ?_, by simp; omega, hbs'⟩
        exact List.length_pos_of_mem (List.mem_of_find?_eq_some hf)
      | none =>
        have st := stSub_T (T := T) (p := p) (m := q) (by omega)
        rw [hf] at st
        simp (disch := omega) [cN_eq, vw_r, vx_r, fz_r, argSl_r, stow_r, retv_r, List.getElem?_cons_zero, List.getElem?_cons_succ, free, szOk, lock, unlock, back, wipeE, ln, gl, g1, tp, gNotIn_T, hf, st]
        refine hd ⟨b4, T ++ [(p, q)], bs ++ [q, q * -1], _, _, _, _, _, by rw [List.map_append]; rfl, hbx, ?_, fun c hc => ?_, by simp; omega, by simp, by simp; omega, hbs'⟩
        · rw [List.map_append, List.nodup_append]
          exact ⟨hnd, by simp, fun a ha b hb e => by
            obtain ⟨c, hc, rfl⟩ := List.mem_map.mp ha
            simp at hb
            have := List.find?_eq_none.mp hf c hc
            simp [e, hb] at this⟩
        · rcases List.mem_append.mp hc with hc | hc
          · exact hT c hc
          · simp at hc
            subst hc
            exact ⟨hpl, by simp only [hps]; omega, hq⟩
  · obtain ⟨b, T, bs, s6, s7, s8, s9, s10, rfl, hb, hnd, hT, hTl, hT1, hbl, hbs⟩ := hi
    rw [List.length_range] at hb hTl hT1
    have m := lmade_eq (fns := fns) (n := n - 1) (by omega) hnd (by omega) (fun c hc => by have := (hT c hc).1; omega)
    have hz : nzT T = T := List.filter_eq_self.mpr fun c hc => by simp [(hT c hc).2.2.1]
    rw [hz] at m
    simp (disch := omega) [cN_eq, vw_r, vx_r, fz_r, argSl_r, stow_r, retv_r, List.getElem?_cons_zero, List.getElem?_cons_succ, free, szOk, lock, unlock, back, wipeE, m]
    have p := sortT_perm (T := T)
    refine hd ⟨sortT T, b, rfl, ⟨sortT_can hnd (fun c hc => (hT c hc).1) fun c hc => (hT c hc).2.2.1, fun c hc => (hT c (p.mem_iff.mp hc)).2.1, fun c hc => (hT c (p.mem_iff.mp hc)).2.2, by rw [p.length_eq]; omega⟩, fun e => ?_, hb.le (by omega)⟩
    have := p.length_eq
    rw [e] at this
    simp at this
    omega
end
end MP

/-! Q11: the same at every depth; small ones; exchanges. -/
namespace MP
open PySem
theorem zip_self (xs : List PyData) : (xs.zip xs).map (fun p => PyData.tuple [p.1, p.2]) = xs.map fun x => .tuple [x, x] := by
  induction xs with
  | nil => rfl
  | cons x xs ih => rw [List.zip_cons_cons, List.map_cons, List.map_cons, ih]
section
variable {fns : Nat → Orc → List Sl → Option (Rv × List Sl)} [Kit fns]
theorem same_lst {n : Nat} {xs : List PyData} (ih : ∀ x ∈ xs, callD fns (n - 1) 49 [.d x, .d x] = some (.v (.bool true), [.no, .no])) (hl : xs.length ≤ 16777216) (h1 : 1 ≤ n) :
    callD fns n 49 [.d (.list xs), .d (.list xs)] = some (.v (.bool true), [.no, .no]) := by
  apply W_get
  have gt : gNe (.bool true) (.bool true) = some (.v (.bool false)) := rfl
  have gf : gNe (.bool false) (.bool false) = some (.v (.bool false)) := rfl
  rw [callD_succ (by omega), Kit._law_same (fns := fns)]
  refine mkFn_go rfl ?_
  simp (disch := omega) [b__law_same, cN_eq, vw_r, vx_r, fz_r, argSl_r, stow_r, retv_r, List.getElem?_cons_zero, List.getElem?_cons_succ, free, szOk, lock, unlock, back, wipeE, gIsi, TN.is, gt, gf, g1, fLenA, fLen]
  refine W_lcM (enc := fun x : PyData => .tuple [x, x]) (enc' := .bool) xs (fun _ => true) (e1 := [.d (.list xs), .d (.list xs), .no, .no]) (wk := []) (by
    rw [← zip_self]
    simp [iZip, cN_eq, seqD, owns]) (by rfl) hl (fun x hx => ?_) ?_
  · simp (disch := omega) [cN_eq, vw_r, vx_r, fz_r, argSl_r, stow_r, retv_r, List.getElem?_cons_zero, List.getElem?_cons_succ, free, szOk, lock, unlock, back, wipeE, ih x hx]
  · simp (disch := omega) [cN_eq, vw_r, vx_r, fz_r, argSl_r, stow_r, retv_r, List.getElem?_cons_zero, List.getElem?_cons_succ, free, szOk, lock, unlock, back, wipeE, fAll_comp]
theorem same_tup {n : Nat} {xs : List PyData} (ih : ∀ x ∈ xs, callD fns (n - 1) 49 [.d x, .d x] = some (.v (.bool true), [.no, .no])) (hl : xs.length ≤ 16777216) (h1 : 1 ≤ n) :
    callD fns n 49 [.d (.tuple xs), .d (.tuple xs)] = some (.v (.bool true), [.no, .no]) := by
  apply W_get
  have gt : gNe (.bool true) (.bool true) = some (.v (.bool false)) := rfl
  have gf : gNe (.bool false) (.bool false) = some (.v (.bool false)) := rfl
  rw [callD_succ (by omega), Kit._law_same (fns := fns)]
  refine mkFn_go rfl ?_
  simp (disch := omega) [b__law_same, cN_eq, vw_r, vx_r, fz_r, argSl_r, stow_r, retv_r, List.getElem?_cons_zero, List.getElem?_cons_succ, free, szOk, lock, unlock, back, wipeE, gIsi, TN.is, gt, gf, g1, fLenA, fLen]
  refine W_lcM (enc := fun x : PyData => .tuple [x, x]) (enc' := .bool) xs (fun _ => true) (e1 := [.d (.tuple xs), .d (.tuple xs), .no, .no]) (wk := []) (by
    rw [← zip_self]
    simp [iZip, cN_eq, seqD, owns]) (by rfl) hl (fun x hx => ?_) ?_
  · simp (disch := omega) [cN_eq, vw_r, vx_r, fz_r, argSl_r, stow_r, retv_r, List.getElem?_cons_zero, List.getElem?_cons_succ, free, szOk, lock, unlock, back, wipeE, ih x hx]
  · simp (disch := omega) [cN_eq, vw_r, vx_r, fz_r, argSl_r, stow_r, retv_r, List.getElem?_cons_zero, List.getElem?_cons_succ, free, szOk, lock, unlock, back, wipeE, fAll_comp]
theorem same_own {n : Nat} {xs : List PyData} (ih : ∀ x ∈ xs, callD fns (n - 1) 49 [.d x, .d x] = some (.v (.bool true), [.no, .no])) (hl : xs.length ≤ 16777216) (h1 : 1 ≤ n) :
    callD fns n 49 [.own (.lst xs), .own (.lst xs)] = some (.v (.bool true), [.own (.lst xs), .own (.lst xs)]) := by
  apply W_get
  have gt : gNe (.bool true) (.bool true) = some (.v (.bool false)) := rfl
  have gf : gNe (.bool false) (.bool false) = some (.v (.bool false)) := rfl
  rw [callD_succ (by omega), Kit._law_same (fns := fns)]
  refine mkFn_go rfl ?_
  simp (disch := omega) [b__law_same, cN_eq, vw_r, vx_r, fz_r, argSl_r, stow_r, retv_r, List.getElem?_cons_zero, List.getElem?_cons_succ, free, szOk, lock, unlock, back, wipeE, gIsi, TN.is, gt, gf, g1, fLenA, fLen]
  refine W_lcM (enc := fun x : PyData => .tuple [x, x]) (enc' := .bool) xs (fun _ => true) (e1 := [.own (.lst xs), .own (.lst xs), .no, .no]) (wk := [0, 1]) (by
    rw [← zip_self]
    simp [iZip, cN_eq, vw_r, seqD, owns, Ct.frz]) (by rfl) hl (fun x hx => ?_) ?_
  · simp (disch := omega) [cN_eq, vw_r, vx_r, fz_r, argSl_r, stow_r, retv_r, List.getElem?_cons_zero, List.getElem?_cons_succ, free, szOk, lock, unlock, back, wipeE, ih x hx]
  · simp (disch := omega) [cN_eq, vw_r, vx_r, fz_r, argSl_r, stow_r, retv_r, List.getElem?_cons_zero, List.getElem?_cons_succ, free, szOk, lock, unlock, back, wipeE, fAll_comp]
theorem same_int {n : Nat} (h : 1 ≤ n) (i : Int) : callD fns n 49 [.d (.int i), .d (.int i)] = some (.v (.bool true), [.no, .no]) := by
  apply W_get
  have gi : gIs (.int i) .none = some (.v (.bool false)) := by simp [gIs, isNonD]
  rw [callD_succ (by omega), Kit._law_same (fns := fns)]
  refine mkFn_go rfl ?_
  simp (disch := omega) [b__law_same, cN_eq, vw_r, vx_r, fz_r, argSl_r, stow_r, retv_r, List.getElem?_cons_zero, List.getElem?_cons_succ, free, szOk, lock, unlock, back, wipeE, gIsi, TN.is, gi]
theorem same_str {n : Nat} (h : 1 ≤ n) (i : Str) : callD fns n 49 [.d (.str i), .d (.str i)] = some (.v (.bool true), [.no, .no]) := by
  apply W_get
  have gi : gIs (.str i) .none = some (.v (.bool false)) := by simp [gIs, isNonD]
  have ge : gEq (.str i) (.str i) = some (.v (.bool true)) := gEq_yes (.str (k := 0)) (by omega) rfl
  have gf : gEq (.bool false) (.bool false) = some (.v (.bool true)) := rfl
  rw [callD_succ (by omega), Kit._law_same (fns := fns)]
  refine mkFn_go rfl ?_
  simp (disch := omega) [b__law_same, cN_eq, vw_r, vx_r, fz_r, argSl_r, stow_r, retv_r, List.getElem?_cons_zero, List.getElem?_cons_succ, free, szOk, lock, unlock, back, wipeE, gIsi, TN.is, gi, ge, gf]
theorem same_non {n : Nat} (h : 1 ≤ n) : callD fns n 49 [.d .none, .d .none] = some (.v (.bool true), [.no, .no]) := by
  apply W_get
  have gi : gIs .none .none = some (.v (.bool true)) := by simp [gIs, isNonD]
  have ge : gEq .none .none = some (.v (.bool true)) := rfl
  have gf : gEq (.bool false) (.bool false) = some (.v (.bool true)) := rfl
  have gt : gEq (.bool true) (.bool true) = some (.v (.bool true)) := rfl
  rw [callD_succ (by omega), Kit._law_same (fns := fns)]
  refine mkFn_go rfl ?_
  simp (disch := omega) [b__law_same, cN_eq, vw_r, vx_r, fz_r, argSl_r, stow_r, retv_r, List.getElem?_cons_zero, List.getElem?_cons_succ, free, szOk, lock, unlock, back, wipeE, gIsi, TN.is, gi, ge, gf, gt]
theorem same_bool {n : Nat} (h : 1 ≤ n) (b : Bool) : callD fns n 49 [.d (.bool b), .d (.bool b)] = some (.v (.bool true), [.no, .no]) := by
  apply W_get
  have gi : gIs (.bool b) .none = some (.v (.bool false)) := by simp [gIs, isNonD]
  have ge : gEq (.bool b) (.bool b) = some (.v (.bool true)) := by cases b <;> rfl
  have gf : gEq (.bool false) (.bool false) = some (.v (.bool true)) := rfl
  have gt : gEq (.bool true) (.bool true) = some (.v (.bool true)) := rfl
  rw [callD_succ (by omega), Kit._law_same (fns := fns)]
  refine mkFn_go rfl ?_
  simp (disch := omega) [b__law_same, cN_eq, vw_r, vx_r, fz_r, argSl_r, stow_r, retv_r, List.getElem?_cons_zero, List.getElem?_cons_succ, free, szOk, lock, unlock, back, wipeE, gIsi, TN.is, gi, ge, gf, gt]
/-- what may be asked to be the same: with truth values -/
inductive Nb : Nat → PyData → Prop
  | int {k : Nat} {i : Int} : Nb k (.int i)
  | non {k : Nat} : Nb k .none
  | str {k : Nat} {s : Str} : Nb k (.str s)
  | bool {k : Nat} {b : Bool} : Nb k (.bool b)
  | tup {k : Nat} {xs : List PyData} (hl : xs.length ≤ 16777216) (h : ∀ x ∈ xs, Nb k x) : Nb (k + 1) (.tuple xs)
  | lst {k : Nat} {xs : List PyData} (hl : xs.length ≤ 16777216) (h : ∀ x ∈ xs, Nb k x) : Nb (k + 1) (.list xs)
theorem same_eq {k : Nat} {x : PyData} (h : Nb k x) : ∀ {n : Nat}, k + 1 ≤ n → callD fns n 49 [.d x, .d x] = some (.v (.bool true), [.no, .no]) := by
  induction h with
  | int => exact fun h => same_int (by omega) _
  | non => exact fun h => same_non (by omega)
  | str => exact fun h => same_str (by omega) _
  | bool => exact fun h => same_bool (by omega) _
  | tup hl _ ih => exact fun h => same_tup (fun x hx => ih x hx (by omega)) hl (by omega)
  | lst hl _ ih => exact fun h => same_lst (fun x hx => ih x hx (by omega)) hl (by omega)
theorem Nb_tupN {k : Nat} {x : PyData} (h : tupN k x) : Nb k x := by
  induction k generalizing x with
  | zero => obtain ⟨i, rfl⟩ := h; exact .int
  | succ k ih =>
    rcases h with ⟨i, rfl⟩ | ⟨xs, rfl, hl, h⟩
    · exact .int
    · exact .tup hl fun y hy => ih (h y hy)
theorem Nb_fr (q : Rat) : Nb 1 (frD q) := Nb_tupN (tupN_fr q)
theorem Nb_pl {w g k D L : Nat} {t : Pl} (h : Bd w g k D L t) (hk : k ≤ 16777216) (hw : w ≤ 16777216) : Nb 3 (plD t) := Nb_tupN (tupN_plD (by have := h.ln; omega) fun c hc => by have := (h.gd c hc).1; omega)
/-! small ones -/
def smQ (q : Rat) : Rat := if (max q.num.natAbs q.den) < 99 then q else mkRat 1 2
def smP (t : Pl) : Pl := t.map fun c => (c.1, smQ c.2)
theorem Cb_sm {q : Rat} (h : q ≠ 0) : Cb 98 98 (smQ q) := by
  unfold smQ
  split
  · rename_i hq
    exact ⟨h, by omega, by omega⟩
  · exact ⟨by decide, by decide, by decide⟩
theorem Pc_sm {w g k d m : Nat} {t : Pl} (h : Pc w g k d m t) : Pc w g k 98 98 (smP t) := by
  unfold smP
  refine ⟨⟨fun c hc => ?_, fun c hc => ?_, ?_⟩, fun c hc => ?_, fun c hc => ?_, by simpa using h.ln⟩
  · obtain ⟨e, he, rfl⟩ := List.mem_map.mp hc; exact h.can.len e he
  · obtain ⟨e, he, rfl⟩ := List.mem_map.mp hc; exact (Cb_sm (h.can.nz e he)).1
  · rw [List.pairwise_map]; exact h.can.srt
  · obtain ⟨e, he, rfl⟩ := List.mem_map.mp hc; exact h.deg e he
  · obtain ⟨e, he, rfl⟩ := List.mem_map.mp hc; exact Cb_sm (h.can.nz e he)
theorem small_eq {n : Nat} (h : 1 ≤ n) {t : Pl} (hl : t.length ≤ 16777216) : callD fns n 499 [.d (plD t)] = some (.v (plD (smP t)), [.no]) := by
  apply W_get
  rw [callD_succ (by omega), Kit._law_small (fns := fns)]
  refine mkFn_go rfl ?_
  simp (disch := omega) [b__law_small, cN_eq, vw_r, vx_r, fz_r, argSl_r, stow_r, retv_r, List.getElem?_cons_zero, List.getElem?_cons_succ, free, szOk, lock, unlock, back, wipeE]
  refine W_lcM (enc := tmD) (enc' := tmD) t (fun c => (c.1, smQ c.2)) (iE_d (.inl rfl)) (by rfl) hl (fun c hc => ?_) ?_
  · have gm : gMax2 [.int (if c.2.num < 0 then -c.2.num else c.2.num), .int (c.2.den : Int)] = some (.v (.int ((max c.2.num.natAbs c.2.den : Nat) : Int))) := by
      simp only [gMax2]; congr 3; split <;> split <;> omega
    by_cases hs : (max c.2.num.natAbs c.2.den) < 99
    · have hs' : (((max c.2.num.natAbs c.2.den : Nat)) : Int) < 99 := by omega
      simp (disch := omega) [cN_eq, vw_r, vx_r, fz_r, argSl_r, stow_r, retv_r, List.getElem?_cons_zero, List.getElem?_cons_succ, free, szOk, lock, unlock, back, wipeE, tmD, frD, g1, fAbs, gm, hs', smQ, hs]
    · have hs' : ¬ (((max c.2.num.natAbs c.2.den : Nat)) : Int) < 99 := by omega
      simp (disch := omega) [cN_eq, vw_r, vx_r, fz_r, argSl_r, stow_r, retv_r, List.getElem?_cons_zero, List.getElem?_cons_succ, free, szOk, lock, unlock, back, wipeE, tmD, frD, g1, fAbs, gm, hs', smQ, hs]
      exact ⟨by decide, by decide⟩
  · simp (disch := omega) [cN_eq, vw_r, vx_r, fz_r, argSl_r, stow_r, retv_r, List.getElem?_cons_zero, List.getElem?_cons_succ, free, szOk, lock, unlock, back, wipeE, g1, fTuple, smP, plD]
end
end MP

/-! Q12: picks, exchanges, polynomials led. -/
namespace MP
open PySem
theorem mPop_n {xs : List PyData} {i : Nat} {x : PyData} (h : xs[i]? = some x) (hl : xs.length ≤ 1000000) : mPop (.lst xs) [.int i] = some (x, .lst (xs.eraseIdx i)) := by
  have hi := (List.getElem?_eq_some_iff.mp h).1
  have e : L2.ixN xs.length (i : Int) = some i := by unfold L2.ixN; rw [if_pos (by omega), if_pos (by omega)]; simp
  have h1 : -1000000 ≤ (i : Int) := by omega
  have h2 : (i : Int) ≤ 1000000 := by omega
  simp [mPop, e, h, h1, h2]
theorem mAppend_l {xs : List PyData} {x : PyData} (h : xs.length < 16777216) : mAppend (.lst xs) [x] = some (.none, .lst (xs ++ [x])) := by simp [mAppend, h]
theorem gMin2_nat (a b : Nat) : gMin2 [.int (a : Nat), .int (b : Nat)] = some (.v (.int ((min a b : Nat) : Int))) := by
  simp only [gMin2]; congr 3; split <;> omega
theorem eraseIdx_map' {α β : Type} (f : α → β) : ∀ (xs : List α) (i : Nat), (xs.map f).eraseIdx i = (xs.eraseIdx i).map f
  | [], i => by simp
  | x :: xs, 0 => by simp
  | x :: xs, i + 1 => by simp [eraseIdx_map' f xs i]
theorem perm_erase {α : Type} : ∀ (xs : List α) (i : Nat) (h : i < xs.length), (xs[i] :: xs.eraseIdx i).Perm xs
  | [], i, h => by simp at h
  | x :: xs, 0, h => by simp
  | x :: xs, i + 1, h => by
    have := perm_erase xs i (by simpa using h)
    simp only [List.getElem_cons_succ, List.eraseIdx_cons_succ]
    exact (List.Perm.swap _ _ _).trans (List.Perm.cons _ this)
theorem mono_set : ∀ (x : List Rat) (f : Ex) (i m : Nat), f.length = x.length → i < f.length → f.getD i 0 = 0 → mono x (f.set i m) = mono x f * (x.getD i 0) ^ m
  | [], [], i, m, _, h, _ => by simp at h
  | a :: x, k :: f, 0, m, _, _, h0 => by
    simp at h0
    subst h0
    simp only [List.set_cons_zero, mono, Rat.pow_zero]
    simp; grind
  | a :: x, k :: f, i + 1, m, hl, h, h0 => by
    have := mono_set x f i m (by simpa using hl) (by simpa using h) (by simpa using h0)
    simp only [List.set_cons_succ, mono, this]
    simp; grind
  | [], _ :: _, _, _, hl, _, _ => by simp at hl
  | _ :: _, [], _, _, hl, _, _ => by simp at hl
/-- what holds of a row half led -/
structure Half (s : List Nat) (p : Ex) (w : Nat) (k : Nat) (f : Ex) : Prop where
  len : f.length = w
  at_ : ∀ j, j < k → f[(s.getD j 0) - 1]? = p[j]?
  zero : ∀ j, k ≤ j → j < w → f.getD ((s.getD j 0) - 1) 0 = 0
  mono : ∀ x : List Rat, x.length = w → MP.mono x f = pz (s.map fun a => x.getD (a - 1) 0) (p.zipIdx.take k)
  sum : f.sum = (p.take k).sum
/-- an exchange of w letters -/
structure Ex_ (w : Nat) (s : List Nat) : Prop where
  len : s.length = w
  nd : s.Nodup
  rg : ∀ a ∈ s, 1 ≤ a ∧ a ≤ w
theorem sum_set0 : ∀ (f : Ex) (i m : Nat), i < f.length → f.getD i 0 = 0 → (f.set i m).sum = f.sum + m
  | [], i, m, h, _ => by simp at h
  | k :: f, 0, m, _, h0 => by simp at h0; subst h0; simp; omega
  | k :: f, i + 1, m, h, h0 => by
    have := sum_set0 f i m (by simpa using h) (by simpa using h0)
    simp only [List.set_cons_succ, List.sum_cons, this]; omega
theorem Half.step {s : List Nat} {p f : Ex} {w k m : Nat} (e : Ex_ w s) (hp : p.length = w) (h : Half s p w k f) (hk : k < w) (hm : p[k]? = some m) : Half s p w (k + 1) (f.set (s.getD k 0 - 1) m) := by
  have hks : k < s.length := by rw [e.len]; exact hk
  have sk : s[k]? = some s[k] := List.getElem?_eq_getElem hks
  have gk : s.getD k 0 = s[k] := by simp [List.getD_eq_getElem?_getD, sk]
  have r := e.rg s[k] (List.getElem_mem _)
  have hi : s.getD k 0 - 1 < f.length := by rw [gk, h.len]; omega
  have z := h.zero k (Nat.le_refl _) hk
  have inj : ∀ j, j < w → j ≠ k → s.getD j 0 - 1 ≠ s.getD k 0 - 1 := by
    intro j hj hjk he
    have hjs : j < s.length := by rw [e.len]; exact hj
    have sj : s[j]? = some s[j] := List.getElem?_eq_getElem hjs
    have gj : s.getD j 0 = s[j] := by simp [List.getD_eq_getElem?_getD, sj]
    have r2 := e.rg s[j] (List.getElem_mem _)
    have : s[j] = s[k] := by omega
    exact hjk ((List.getElem_inj e.nd).mp this)
  refine ⟨by simpa using h.len, fun j hj => ?_, fun j hj hjw => ?_, fun x hx => ?_, ?_⟩
  · rcases Nat.lt_or_ge j k with h1 | h1
    · rw [List.getElem?_set_ne (Ne.symm (inj j (by omega) (by omega)))]
      exact h.at_ j h1
    · obtain rfl : j = k := by omega
      rw [List.getElem?_set_self hi, hm]
  · have := inj j hjw (by omega)
    have h0 := h.zero j (by omega) hjw
    simp only [List.getD_eq_getElem?_getD] at h0 ⊢
    simp only [List.getD_eq_getElem?_getD] at this
    rw [List.getElem?_set_ne (Ne.symm this)]
    exact h0
  · rw [mono_set x f _ m (by rw [h.len, hx]) hi z, h.mono x hx, List.take_succ, List.getElem?_zipIdx, hm]
    simp only [Option.map_some, Option.toList_some, Nat.zero_add, pz_snoc]
    congr 2
    simp [List.getD_eq_getElem?_getD, List.getElem?_map, sk]
  · rw [sum_set0 f _ m hi z, h.sum, List.take_succ, hm]
    simp
theorem Half.zero_ {s : List Nat} {p : Ex} {w : Nat} : Half s p w 0 (List.replicate w 0) := by
  refine ⟨by simp, fun j hj => by omega, fun j _ hj => ?_, fun x hx => by rw [mono_zero]; rfl, by simp⟩
  simp only [List.getD_eq_getElem?_getD, List.getElem?_replicate]
  split <;> rfl
/-- what a row led is -/
structure Led (w : Nat) (s : List Nat) (p q : Ex) : Prop where
  len : q.length = w
  at_ : ∀ j, j < w → q[(s.getD j 0) - 1]? = p[j]?
  mono : ∀ x : List Rat, x.length = w → MP.mono x q = MP.mono (s.map fun a => x.getD (a - 1) 0) p
  sum : q.sum = p.sum
theorem Half.led {s : List Nat} {p f : Ex} {w : Nat} (e : Ex_ w s) (hp : p.length = w) (h : Half s p w w f) : Led w s p f := by
  refine ⟨h.len, h.at_, fun x hx => ?_, ?_⟩
  · rw [h.mono x hx, List.take_of_length_le (by simp; omega)]
    have := pz_mono (s.map fun a => x.getD (a - 1) 0) p 0 (by simp [e.len, hp])
    simpa using this
  · rw [h.sum, List.take_of_length_le (by omega)]
theorem Led.inj {s : List Nat} {p p' q q' : Ex} {w : Nat} (hp : p.length = w) (hp' : p'.length = w) (h : Led w s p q) (h' : Led w s p' q') (e : q = q') : p = p' := by
  subst e
  refine List.ext_getElem? fun j => ?_
  rcases Nat.lt_or_ge j w with h1 | h1
  · rw [← h.at_ j h1, h'.at_ j h1]
  · rw [List.getElem?_eq_none (by omega), List.getElem?_eq_none (by omega)]
section
variable {fns : Nat → Orc → List Sl → Option (Rv × List Sl)} [Kit fns]
theorem pick_W {α : Type} {enc : α → PyData} {n N m : Nat} {b : Box} {xs : List α} (h : 2 ≤ n) (hb : Bx N b) (hN : N ≤ 1000000000) (hl : xs.length ≤ 1000) (hm : m ≤ 1000000) :
    W (callD fns n 51 [.own (bxC b), .own (.lst (xs.map enc)), .d (.int m)]) fun p => Hd (∃ (ys rest : List α) (b' : Box), p = (.o (.lst (ys.map enc)), [.own (bxC b'), .own (.lst (xs.map enc)), .no]) ∧ (ys ++ rest).Perm xs ∧ ys.length = min m xs.length ∧ Bx (N + 1000) b') := by
  have fl : fListA (.list (xs.map enc)) = some (.o (.lst (xs.map enc))) := by
    have : xs.length ≤ 16777216 := by omega
    simp [fListA, fList, szOk, this]
  have fln : fLenA (.list (xs.map enc)) = some (.v (.int (xs.length : Nat))) := by simp [fLenA, fLen]
  rw [callD_succ (by omega), Kit._law_pick (fns := fns)]
  refine mkFn_go rfl ?_
  simp (disch := omega) [b__law_pick, cN_eq, vw_r, vx_r, fz_r, argSl_r, stow_r, retv_r, List.getElem?_cons_zero, List.getElem?_cons_succ, free, szOk, lock, unlock, back, wipeE, g1, fl]
  refine W_forN (List.range (min m xs.length)) (fun done e => ∃ (b : Box) (ys rest : List α) (s5 : Sl), e = [.own (bxC b), .own (.lst (xs.map enc)), .d (.int m), .own (.lst (rest.map enc)), .own (.lst (ys.map enc)), s5] ∧ Bx (N + done.length) b ∧ (ys ++ rest).Perm xs ∧ ys.length = done.length)
    (iR1_of (op := .v (.int ((min m xs.length : Nat) : Int))) (e1 := [.own (bxC b), .own (.lst (xs.map enc)), .d (.int m), .own (.lst (xs.map enc)), .own (.lst []), .no]) (by
      apply W_get
      simp (disch := omega) [cN_eq, vw_r, vx_r, fz_r, argSl_r, stow_r, retv_r, List.getElem?_cons_zero, List.getElem?_cons_succ, free, szOk, lock, unlock, back, wipeE, g1, fln, gMin2_nat]) rfl (by omega)) ⟨b, [], xs, .no, rfl, hb, by simp, rfl⟩ (fun done y r e hy hi => ?_) (fun e hi => ?_)
  · obtain ⟨b, ys, rest, s5, rfl, hb, hp, hyl⟩ := hi
    have hdl : done.length + 1 ≤ min m xs.length := by have := congrArg List.length hy; simp at this; omega
    have hlen := hp.length_eq
    simp only [List.length_append] at hlen
    have fln2 : fLenA (.list (rest.map enc)) = some (.v (.int (rest.length : Nat))) := by simp [fLenA, fLen]
    simp (disch := omega) [cN_eq, vw_r, vx_r, fz_r, argSl_r, stow_r, retv_r, List.getElem?_cons_zero, List.getElem?_cons_succ, free, szOk, lock, unlock, back, wipeE, isLst, g1, fln2]
    refine W_mono (take_W (fns := fns) (n := n - 1) (by omega) hb (by omega) (s := rest.length) (by omega) (by omega)) ?_
    rintro _ ⟨i, b2, rfl, hi, hb2⟩
    have pp : mPop (.lst (rest.map enc)) [.int (i : Nat)] = some (enc rest[i], .lst ((rest.eraseIdx i).map enc)) := by
      rw [mPop_n (x := enc rest[i]) (by rw [List.getElem?_map, List.getElem?_eq_getElem hi]; rfl) (by simp; omega), eraseIdx_map']
    have ap : mAppend (.lst (ys.map enc)) [enc rest[i]] = some (.none, .lst (ys.map enc ++ [enc rest[i]])) := mAppend_l (by simp; omega)
    simp (disch := omega) [cN_eq, vw_r, vx_r, fz_r, argSl_r, stow_r, retv_r, List.getElem?_cons_zero, List.getElem?_cons_succ, free, szOk, lock, unlock, back, wipeE, isLst, pp, ap]
    refine hd ⟨b2, ys ++ [rest[i]], rest.eraseIdx i, _, by rw [List.map_append]; rfl, hb2.le (by simp; omega), ?_, by simp [hyl]⟩
    refine List.Perm.trans ?_ hp
    rw [List.append_assoc]
    exact List.Perm.append_left _ (by simpa using perm_erase rest i hi)
  · obtain ⟨b, ys, rest, s5, rfl, hb, hp, hyl⟩ := hi
    rw [List.length_range] at hb hyl
    simp (disch := omega) [cN_eq, vw_r, vx_r, fz_r, argSl_r, stow_r, retv_r, List.getElem?_cons_zero, List.getElem?_cons_succ, free, szOk, lock, unlock, back, wipeE]
    exact hd ⟨ys, rest, b, rfl, hp, hyl, hb.le (by omega)⟩
theorem exchange_W {n N w : Nat} {b : Box} (h : 3 ≤ n) (hb : Bx N b) (hN : N ≤ 1000000000) (hw1 : 1 ≤ w) (hw2 : w ≤ 4) :
    W (callD fns n 98 [.own (bxC b), .d (.int w)]) fun p => Hd (∃ (s : List Nat) (b' : Box), p = (.v (exD s), [.own (bxC b'), .no]) ∧ Ex_ w s ∧ Bx (N + 1000) b') := by
  have rg : gLstRg2 (.int 1) (.int ((w : Int) + 1)) = some (.o (.lst ((List.range' 1 w).map fun k : Nat => .int (k : Int)))) := by
    have : w = 1 ∨ w = 2 ∨ w = 3 ∨ w = 4 := by omega
    rcases this with rfl | rfl | rfl | rfl <;> rfl
  rw [callD_succ (by omega), Kit._law_exchange (fns := fns)]
  refine mkFn_go rfl ?_
  simp (disch := omega) [b__law_exchange, cN_eq, vw_r, vx_r, fz_r, argSl_r, stow_r, retv_r, List.getElem?_cons_zero, List.getElem?_cons_succ, free, szOk, lock, unlock, back, wipeE, rg]
  refine W_mono (pick_W (fns := fns) (n := n - 1) (m := w) (xs := List.range' 1 w) (enc := fun k : Nat => .int (k : Int)) (by omega) hb hN (by simp; omega) (by omega)) ?_
  rintro _ ⟨ys, rest, b2, rfl, hp, hyl, hb2⟩
  have hrest : rest = [] := by
    have := hp.length_eq
    simp at this hyl
    exact List.length_eq_zero_iff.mp (by omega)
  subst hrest
  rw [List.append_nil] at hp
  have tp : fTuple (.list (ys.map fun k : Nat => .int (k : Int))) = some (.v (exD ys)) := by simp [fTuple, tup_ex]
  simp (disch := omega) [cN_eq, vw_r, vx_r, fz_r, argSl_r, stow_r, retv_r, List.getElem?_cons_zero, List.getElem?_cons_succ, free, szOk, lock, unlock, back, wipeE, g1, tp]
  exact hd ⟨ys, b2, rfl, ⟨by simpa using hyl, hp.nodup_iff.mpr List.nodup_range', fun a ha => by have := List.mem_range'_1.mp (hp.mem_iff.mp ha); omega⟩, hb2⟩
theorem is_exchange_eq {n w : Nat} (h : 5 ≤ n) {s : List Nat} (h1 : 1 ≤ w) (h2 : w ≤ 4) (e : Ex_ w s) : callD fns n 69 [.d (.int w), .d (exD s)] = some (.v (.bool true), [.no, .no]) := by
  apply W_get
  have sw := sure_wide_int (fns := fns) (n := n - 1) (by omega) (w : Int) (by omega) (by omega)
  have tp := is_tuple_of_eq (fns := fns) (n := n - 1) (by omega) (s.map fun k : Nat => .int (k : Int)) w
  rw [← tup_ex, List.length_map, e.len] at tp
  have gs : gLenSet (exD s) = some (.v (.int (w : Nat))) := by
    have hl : s.length ≤ 4000 := by rw [e.len]; omega
    have nd : (exI s).Nodup := List.pairwise_map.mpr (e.nd.imp fun {a b} hab => by omega)
    have dd : (ddI (exI s)).length = w := by
      have := len_sub (l := exI s) (D := ddI (exI s)) nd fun x hx => ddI_mem.mpr hx
      have := len_sub (l := ddI (exI s)) (D := exI s) (ddI_nodup _) fun x hx => ddI_mem.mp hx
      have : (exI s).length = w := by simp [exI, e.len]
      omega
    have ii : intsD ((exI s).map .int) = some (exI s) := intsD_of _
    have hl2 : (exI s).length ≤ 4000 := by simpa [exI] using hl
    simp only [gLenSet, exD, kD, ii, Option.bind_some, hl2, decide_true, if_true, dd]
  rw [callD_succ (by omega), Kit.is_exchange (fns := fns)]
  refine mkFn_go rfl ?_
  simp (disch := omega) [b_is_exchange, cN_eq, vw_r, vx_r, fz_r, argSl_r, stow_r, retv_r, List.getElem?_cons_zero, List.getElem?_cons_succ, free, szOk, lock, unlock, back, wipeE, sw, tp]
  refine W_lcM (enc := fun k : Nat => .int (k : Int)) (enc' := .bool) s (fun _ => true) (iE_d (.inl (by rw [tup_ex]; rfl))) (by rfl) (by rw [e.len]; omega) (fun y hy => ?_) ?_
  · have r := e.rg y hy
    have e1 : (1 : Int) ≤ (y : Int) := by omega
    have e2 : (y : Int) ≤ (w : Int) := by omega
    have ib := is_between_int (fns := fns) (n := n - 1) (by omega) (y : Int) 1 w
    simp only [e1, e2, decide_true, Bool.and_self] at ib
    simp (disch := omega) [cN_eq, vw_r, vx_r, fz_r, argSl_r, stow_r, retv_r, List.getElem?_cons_zero, List.getElem?_cons_succ, free, szOk, lock, unlock, back, wipeE, ib]
  · simp (disch := omega) [cN_eq, vw_r, vx_r, fz_r, argSl_r, stow_r, retv_r, List.getElem?_cons_zero, List.getElem?_cons_succ, free, szOk, lock, unlock, back, wipeE, g1, fAll_comp, gs]
theorem sure_exchange_eq {n w : Nat} (h : 6 ≤ n) {s : List Nat} (h1 : 1 ≤ w) (h2 : w ≤ 4) (e : Ex_ w s) : callD fns n 70 [.d (.int w), .d (exD s)] = some (.v (exD s), [.no, .no]) := by
  apply W_get
  have tn := tuple_of_id (fns := fns) 1 (n := n - 1) (tupN_exD (p := s) (by rw [e.len]; omega)) (by omega)
  have ip := is_exchange_eq (fns := fns) (n := n - 1) (by omega) h1 h2 e
  rw [callD_succ (by omega), Kit.sure_exchange (fns := fns)]
  refine mkFn_go rfl ?_
  simp (disch := omega) [b_sure_exchange, cN_eq, vw_r, vx_r, fz_r, argSl_r, stow_r, retv_r, List.getElem?_cons_zero, List.getElem?_cons_succ, free, szOk, lock, unlock, back, wipeE, tn, ip, sure_true]
theorem lead_powers_W {n w : Nat} (h : 1 ≤ n) {s : List Nat} {p : Ex} (e : Ex_ w s) (hp : p.length = w) (hw : w ≤ 1000) : ∃ q, callD fns n 76 [.d (exD s), .d (exD p)] = some (.v (exD q), [.no, .no]) ∧ Led w s p q := by
  have key : W (callD fns n 76 [.d (exD s), .d (exD p)]) fun z => Hd (∃ q, z = (.v (exD q), [.no, .no]) ∧ Led w s p q) := by
    have fl : fLenA (exD p) = some (.v (.int (w : Nat))) := by simp [tup_ex, fLenA, fLen, hp]
    rw [callD_succ (by omega), Kit.lead_powers (fns := fns)]
    refine mkFn_go rfl ?_
    simp (disch := omega) [b_lead_powers, cN_eq, vw_r, vx_r, fz_r, argSl_r, stow_r, retv_r, List.getElem?_cons_zero, List.getElem?_cons_succ, free, szOk, lock, unlock, back, wipeE, g1, fl, gMulA_rep]
    refine W_forN p.zipIdx (fun done e => ∃ f s3 s4, e = [.d (exD s), .d (exD p), .own (.lst (natsD f)), s3, s4] ∧ Half s p w done.length f) (enc := fun z : Nat × Nat => .tuple [.int z.2, .int z.1]) (e1 := [.d (exD s), .d (exD p), .own (.lst (List.replicate w (.int 0))), .no, .no]) (wk := []) (by
        rw [iEnum_d (xs := p.map fun k : Nat => .int (k : Int)) (.inl (by simp [tup_ex]))]
        simp [List.zipIdx_map, Function.comp]) ⟨List.replicate w 0, .no, .no, by simp [natsD]; rfl, Half.zero_⟩ (fun done z rest e2 hy hi => ?_) (fun e2 hi => ?_)
    · obtain ⟨f, s3, s4, rfl, hf⟩ := hi
      obtain ⟨m, k⟩ := z
      obtain ⟨hk1, hk2⟩ := zipIdx_at hy
      have hkw : k < w := by have := (List.getElem?_eq_some_iff.mp hk2).1; omega
      have hks : k < s.length := by rw [e.len]; exact hkw
      have r := e.rg s[k] (List.getElem_mem hks)
      have gk : s.getD k 0 = s[k] := by simp [List.getD_eq_getElem?_getD, List.getElem?_eq_getElem hks]
      have gx : gIx (exD s) (.int (k : Nat)) = some (.v (.int (s[k] : Nat))) := by rw [tup_ex]; exact gIxT (by rw [List.getElem?_map, List.getElem?_eq_getElem hks]; rfl)
      have st : stSub (.lst (natsD f)) (.int ((s[k] : Nat) - 1)) (.int (m : Nat)) = some (.lst (natsD (f.set (s[k] - 1) m))) := by
        rw [show ((s[k] : Nat) : Int) - 1 = ((s[k] - 1 : Nat) : Int) by omega, stSub_n (by simp [natsD, hf.len]; omega), natsD, natsD, List.map_set]
      simp (disch := omega) [cN_eq, vw_r, vx_r, fz_r, argSl_r, stow_r, retv_r, List.getElem?_cons_zero, List.getElem?_cons_succ, free, szOk, lock, unlock, back, wipeE, gx, st]
      refine hd ⟨f.set (s[k] - 1) m, _, _, rfl, ?_⟩
      rw [List.length_append, List.length_singleton, ← gk]
      rw [← hk1] at hf ⊢
      exact hf.step e hp hkw hk2
    · obtain ⟨f, s3, s4, rfl, hf⟩ := hi
      rw [List.length_zipIdx, hp] at hf
      have tp : fTuple (.list (natsD f)) = some (.v (exD f)) := by simp [fTuple, natsD, tup_ex]
      simp (disch := omega) [cN_eq, vw_r, vx_r, fz_r, argSl_r, stow_r, retv_r, List.getElem?_cons_zero, List.getElem?_cons_succ, free, szOk, lock, unlock, back, wipeE, g1, tp]
      exact hd ⟨f, rfl, hf.led e hp⟩
  obtain ⟨_, h1, q, rfl, h2⟩ := key
  exact ⟨q, h1, h2⟩
theorem kvT_put_new {T : Pl} {p : Ex} {c : Rat} (h : ∀ d ∈ T, d.1 ≠ p) : (if (T.find? fun d => decide (d.1 = p)).isSome then T.map (fun e => if e.1 = p then (e.1, c) else e) else T ++ [(p, c)]) = T ++ [(p, c)] := by
  have : T.find? (fun d => decide (d.1 = p)) = none := List.find?_eq_none.mpr fun d hd => by simpa using h d hd
  simp [this]
theorem lead_W {n w g k D L : Nat} (h : 3 ≤ n) {s : List Nat} {t : Pl} (e : Ex_ w s) (ht : Bd w g k D L t) (hw : w ≤ 1000) (hk : k ≤ 5000) :
    W (callD fns n 77 [.d (exD s), .d (plD t)]) fun z => Hd (∃ t', z = (.v (plD t'), [.no, .no]) ∧ Bd w g k D L t' ∧ ∀ x : List Rat, x.length = w → ev t' x = ev t (s.map fun a => x.getD (a - 1) 0)) := by
  rw [callD_succ (by omega), Kit.lead (fns := fns)]
  refine mkFn_go rfl ?_
  simp (disch := omega) [b_lead, cN_eq, vw_r, vx_r, fz_r, argSl_r, stow_r, retv_r, List.getElem?_cons_zero, List.getElem?_cons_succ, free, szOk, lock, unlock, back, wipeE]
  refine W_forN t (fun done e => ∃ T s3 s4, e = [.d (exD s), .d (plD t), .own (.dct (kvT T)), s3, s4] ∧ T.length = done.length ∧ (T.map (·.2) = done.map (·.2)) ∧ (∀ j, ∀ c d : Ex × Rat, done[j]? = some c → T[j]? = some d → Led w s c.1 d.1)) (enc := tmD) (iE_d (.inl rfl)) ⟨[], .no, .no, rfl, rfl, rfl, fun j c d h _ => by rw [List.getElem?_nil] at h; cases h⟩ (fun done c rest e2 hy hi => ?_) (fun e2 hi => ?_)
  · obtain ⟨T, s3, s4, rfl, hl, hv, hL⟩ := hi
    have hc : c ∈ t := by rw [hy]; simp
    have hcw := (ht.gd c hc).1
    obtain ⟨q, hq1, hq2⟩ := lead_powers_W (fns := fns) (n := n - 1) (by omega) e hcw hw
    have hdl : done.length + 1 ≤ k := by have := ht.ln; rw [hy] at this; simp at this; omega
    have hnew : ∀ d ∈ T, d.1 ≠ q := fun d hd he => by
      obtain ⟨j, hj, rfl⟩ := List.getElem_of_mem hd
      have hj2 : j < done.length := by omega
      have l := hL j done[j] T[j] (List.getElem?_eq_getElem hj2) (List.getElem?_eq_getElem hj)
      have hmem : done[j] ∈ t := by rw [hy]; simp
      have := Led.inj (ht.gd _ hmem).1 hcw l hq2 he
      have srt := ht.can.srt
      rw [hy, List.pairwise_append] at srt
      have := srt.2.2 done[j] (List.getElem_mem hj2) c (by simp)
      rw [‹done[j].1 = c.1›] at this
      exact exLt_irrefl _ this
    have st := stSub_T (T := T) (p := q) (m := c.2) (by omega)
    rw [kvT_put_new hnew] at st
    simp (disch := omega) [cN_eq, vw_r, vx_r, fz_r, argSl_r, stow_r, retv_r, List.getElem?_cons_zero, List.getElem?_cons_succ, free, szOk, lock, unlock, back, wipeE, tmD, hq1, st]
    refine hd ⟨T ++ [(q, c.2)], _, _, rfl, by simp [hl], by simp [hv], fun j c' d h1 h2 => ?_⟩
    rcases Nat.lt_or_ge j done.length with hj | hj
    · rw [List.getElem?_append_left hj] at h1
      rw [List.getElem?_append_left (by omega)] at h2
      exact hL j c' d h1 h2
    · rw [List.getElem?_append_right hj] at h1
      rw [List.getElem?_append_right (by omega)] at h2
      have : j - done.length = 0 := by
        have := (List.getElem?_eq_some_iff.mp h1).1
        simp at this; omega
      rw [this] at h1
      rw [show j - T.length = 0 by omega] at h2
      simp at h1 h2
      subst h1 h2
      exact hq2
  · obtain ⟨T, s3, s4, rfl, hl, hv, hL⟩ := hi
    have at_ : ∀ d ∈ T, ∃ c ∈ t, Led w s c.1 d.1 ∧ c.2 = d.2 := fun d hd => by
      obtain ⟨j, hj, rfl⟩ := List.getElem_of_mem hd
      have hj2 : j < t.length := by omega
      refine ⟨t[j], List.getElem_mem hj2, hL j _ _ (List.getElem?_eq_getElem hj2) (List.getElem?_eq_getElem hj), ?_⟩
      have := congrArg (fun l : List Rat => l[j]?) hv
      simp only [List.getElem?_map, List.getElem?_eq_getElem hj, List.getElem?_eq_getElem hj2, Option.map_some] at this
      exact (Option.some.inj this).symm
    have nd : (T.map (·.1)).Nodup := by
      rw [List.nodup_iff_pairwise_ne, List.pairwise_map, List.pairwise_iff_getElem]
      intro i j hi hj hij he
      have l1 := hL i _ _ (List.getElem?_eq_getElem (by omega)) (List.getElem?_eq_getElem hi)
      have l2 := hL j _ _ (List.getElem?_eq_getElem (by omega)) (List.getElem?_eq_getElem hj)
      have := Led.inj (ht.gd _ (List.getElem_mem (by omega))).1 (ht.gd _ (List.getElem_mem (by omega))).1 l1 l2 he
      have srt := List.pairwise_iff_getElem.mp ht.can.srt i j (by omega) (by omega) hij
      rw [this] at srt
      exact exLt_irrefl _ srt
    have hTl : T.length ≤ 5000 := by have := ht.ln; omega
    have m := made_eq (fns := fns) (n := n - 1) (by omega) nd hTl (fun c hc => by obtain ⟨c', _, l, _⟩ := at_ c hc; have := l.len; omega)
    have pm := sortT_perm (T := T)
    simp (disch := omega) [cN_eq, vw_r, vx_r, fz_r, argSl_r, stow_r, retv_r, List.getElem?_cons_zero, List.getElem?_cons_succ, free, szOk, lock, unlock, back, wipeE, m]
    refine hd ⟨sortT T, rfl, ⟨sortT_can nd (fun c hc => by obtain ⟨c', _, l, _⟩ := at_ c hc; exact l.len) (fun c hc => by obtain ⟨c', h1, l, h2⟩ := at_ c hc; rw [← h2]; exact ht.can.nz c' h1), fun c hc => ?_, ?_, by rw [pm.length_eq, hl]; exact ht.ln⟩, fun x hx => ?_⟩
    · obtain ⟨c', h1, l, h2⟩ := at_ c (pm.mem_iff.mp hc)
      obtain ⟨g1, g2, g3⟩ := ht.gd c' h1
      exact ⟨l.len, by rw [l.sum]; exact g2, by rw [← h2]; exact g3⟩
    · rw [nrm_perm pm]
      have : ∀ a b : Pl, a.map (·.2) = b.map (·.2) → nrm a = nrm b := by
        intro a
        induction a with
        | nil => intro b h; cases b with
          | nil => rfl
          | cons _ _ => simp at h
        | cons c a ih => intro b h; cases b with
          | nil => simp at h
          | cons d b =>
            simp only [List.map_cons, List.cons.injEq] at h
            rw [nrm, nrm, h.1, ih b h.2]
      rw [this T t hv]
      exact ht.nr
    · have e1 : ev (sortT T) x = ev T x := lin_perm pm
      rw [e1]
      have key : ∀ a b : Pl, a.length = b.length → a.map (·.2) = b.map (·.2) → (∀ (j : Nat) (c d : Ex × Rat), b[j]? = some c → a[j]? = some d → Led w s c.1 d.1) → ev a x = ev b (s.map fun a => x.getD (a - 1) 0) := by
        intro a
        induction a with
        | nil => intro b h _ _; cases b with
          | nil => rfl
          | cons _ _ => simp at h
        | cons d a ih => intro b h hv hL; cases b with
          | nil => simp at h
          | cons c b =>
            simp only [List.map_cons, List.cons.injEq] at hv
            rw [ev_cons, ev_cons, ih b (by simpa using h) hv.2 fun j c' d' h1 h2 => hL (j + 1) c' d' (by simpa using h1) (by simpa using h2), hv.1]
            rw [(hL 0 c d rfl rfl).mono x hx]
      exact key T t hl hv hL
theorem led_W {n w g k D L : Nat} (h : 9 ≤ n) {s : List Nat} {t : Pl} (h1 : 1 ≤ w) (h2 : w ≤ 4) (e : Ex_ w s) (ht : Bd w g k D L t) (hk : k ≤ 5000) :
    W (callD fns n 78 [.d (.int w), .d (plD t), .d (exD s)]) fun z => Hd (∃ t', z = (.v (plD t'), [.no, .no, .no]) ∧ Bd w g k D L t' ∧ ∀ x : List Rat, x.length = w → ev t' x = ev t (s.map fun a => x.getD (a - 1) 0)) := by
  have s1 := sure_polynomial_eq (fns := fns) (n := n - 1) (by omega) h1 h2 ht.can (ht.len5 hk)
  have s2 := sure_exchange_eq (fns := fns) (n := n - 1) (by omega) h1 h2 e
  rw [callD_succ (by omega), Kit.led (fns := fns)]
  refine mkFn_go rfl ?_
  simp (disch := omega) [b_led, cN_eq, vw_r, vx_r, fz_r, argSl_r, stow_r, retv_r, List.getElem?_cons_zero, List.getElem?_cons_succ, free, szOk, lock, unlock, back, wipeE, s1, s2]
  refine W_mono (lead_W (fns := fns) (n := n - 1) (by omega) e ht (by omega) hk) ?_
  rintro _ ⟨t', rfl, hb, he⟩
  simp (disch := omega) [cN_eq, vw_r, vx_r, fz_r, argSl_r, stow_r, retv_r, List.getElem?_cons_zero, List.getElem?_cons_succ, free, szOk, lock, unlock, back, wipeE]
  exact hd ⟨t', rfl, hb, he⟩
end
end MP

/-! Q13: the law's beginning; degrees; sizes of values. -/
namespace MP
open PySem
theorem ev_sz {w g k D L E M : Nat} {t : Pl} {x : List Rat} (ht : Bd w g k D L t) (hx : x.length = w) (hE : 1 ≤ E) (hM : 1 ≤ M) (hs : ∀ a ∈ x, Sz E M a) : Sz (D * E ^ g) (k * (L * M ^ g)) (ev t x) := by
  have mz : ∀ (x : List Rat) (p : Ex), (∀ a ∈ x, Sz E M a) → x.length = p.length → Sz (E ^ p.sum) (M ^ p.sum) (mono x p) := by
    intro x
    induction x with
    | nil => intro p _ hp; cases p with
      | nil => exact Sz.one (by simp)
      | cons _ _ => simp at hp
    | cons a x ih => intro p hs hp; cases p with
      | nil => simp at hp
      | cons k p =>
        rw [mono, List.sum_cons, Nat.pow_add, Nat.pow_add]
        exact ((hs a List.mem_cons_self).pow k).mul (ih p (fun b hb => hs b (List.mem_cons_of_mem _ hb)) (by simpa using hp))
  have key : ∀ t : Pl, (∀ c ∈ t, c.1.length = w ∧ c.1.sum ≤ g ∧ Sz D L c.2) → Sz (D * E ^ g) (t.length * (L * M ^ g)) (ev t x) := by
    intro t
    induction t with
    | nil => intro _; exact Sz.zero
    | cons c t ih =>
      intro h
      obtain ⟨h1, h2, h3⟩ := h c List.mem_cons_self
      have i := ih fun d hd => h d (List.mem_cons_of_mem _ hd)
      rw [ev_cons, List.length_cons, Nat.succ_mul, Nat.add_comm]
      refine Sz.add ?_ i
      have m := h3.mul (mz x c.1 hs (by omega))
      have e1 : D * E ^ g = D * E ^ c.1.sum * E ^ (g - c.1.sum) := by rw [Nat.mul_assoc, ← Nat.pow_add]; congr 2; omega
      rw [e1]
      exact (m.more _).le (Nat.mul_le_mul_left _ (Nat.pow_le_pow_right hM h2))
  exact (key t fun c hc => ⟨(ht.gd c hc).1, (ht.gd c hc).2.1, ht.sz hc⟩).le (Nat.mul_le_mul_right _ ht.ln)
theorem topP_le {w : Nat} {t : Pl} (h : Can w t) : ∀ c ∈ t, (c.1.sum : Int) ≤ topP t := by
  cases t with
  | nil => intro c hc; simp at hc
  | cons d t =>
    intro c hc
    simp only [topP]
    rcases List.mem_cons.mp hc with rfl | hc
    · exact Int.le_refl _
    · have l := (List.pairwise_cons.mp h.srt).1 c hc
      unfold exLt okey at l
      rw [List.cons_lt_cons_iff] at l
      omega
theorem topP_of {t : Pl} {g : Nat} (h : ∀ c ∈ t, c.1.sum ≤ g) : topP t ≤ (g : Int) := by
  cases t with
  | nil => simp only [topP]; omega
  | cons c t => have := h c List.mem_cons_self; simp only [topP]; omega
theorem fMax_spec (xs : List Int) (i : Int) : ∃ m, gMax2 [.list ((xs ++ [i]).map .int)] = some (.v (.int m)) ∧ (∀ y ∈ xs, y ≤ m) ∧ i ≤ m ∧ (m ∈ xs ∨ m = i) := by
  have ii : intsD ((xs ++ [i]).map .int) = some (xs ++ [i]) := intsD_of _
  cases hx : xs ++ [i] with
  | nil => simp at hx
  | cons a r =>
    obtain ⟨h1, h2⟩ := maxL_spec r a
    rw [hx] at ii
    refine ⟨maxL a r, ?_, fun y hy => h2 y (hx ▸ List.mem_append_left _ hy), h2 i (hx ▸ by simp), ?_⟩
    · simp only [gMax2, fMax, ii, Option.bind_some]
    · rw [← hx] at h1
      simpa using h1
section
variable {a b : CE} {e : En} {QE : Op × En → Prop}
def lstO : Option PyData → Option Bool
  | some (.list []) => some false
  | some (.list (_ :: _)) => some true
  | _ => none
@[simp] theorem lstO_nil : lstO (some (.list [])) = some false := rfl
@[simp] theorem lstO_cons {x : PyData} {xs : List PyData} : lstO (some (.list (x :: xs))) = some true := rfl
@[simp ↓] theorem W_cOrL : W (cOrL a b e) QE = W (a e) fun p => W (lstO (vw p.2 p.1)) fun k => br k (QE p) (W (b p.2) QE) := by
  simp only [W_def, cOrL, W0_bind]
  congr; funext p
  cases vw p.2 p.1 with
  | none => simp [W_def, W0_none, lstO]
  | some d =>
    cases d with
    | list xs => cases xs <;> simp [W_def, W0_some, lstO]
    | _ => simp [W_def, W0_none, lstO]
theorem iEnum_o {a : CE} {e e1 : En} {xs : List PyData} (h : a e = some (.o (.lst xs), e1)) : iEnum a e = some (xs.zipIdx.map (fun p => .tuple [.int p.2, p.1]), [], e1) := by
  simp [iEnum, h, seqD, owns, Ct.frz]
end
/-- the script's slot -/
def Scr (ns : List Int) (s : Sl) : Prop := s = .d (.list (ns.map .int)) ∨ s = .lk (.lst (ns.map .int))
theorem cutD_1 (ns : List Int) : cutD (ns.map .int) none (some 1) = ((ns.take 1).map .int) := by
  unfold cutD
  rw [HT.sIx_none, show (1 : Int) = ((1 : Nat) : Int) by rfl, HT.sIx_nat]
  cases ns with
  | nil => simp
  | cons a r => simp
section
variable {fns : Nat → Orc → List Sl → Option (Rv × List Sl)} [Kit fns]
theorem cells_W {n : Nat} (h : 1 ≤ n) {ns : List Int} {s : Sl} (hs : Scr ns s) (hl : ns.length ≤ 63) :
    W (callD fns n 48 [s, .d (.int 1)]) fun p => Hd (∃ (z : Int) , p = (.o (.lst [.int z]), [.no, .no])) := by
  have hv : ∀ r : List Sl, vw (s :: r) (.v (.list (ns.map .int))) = some (.list (ns.map .int)) := fun _ => rfl
  have g1' : gSl none (some 1) (.list (ns.map .int)) = some (.o (.lst ((ns.take 1).map .int))) := by simp [gSl, cutD_1]
  obtain ⟨zs, g2'⟩ : ∃ zs : List Int, gSl (some 1) (some 63) (.list (ns.map .int)) = some (.o (.lst (zs.map .int))) := by
    simp only [gSl, cutD]
    exact ⟨(ns.drop (HT.sIx ns.length 0 (some 1))).take (HT.sIx ns.length ns.length (some 63) - HT.sIx ns.length 0 (some 1)), by simp⟩
  have hzl : zs.length ≤ 63 := by
    simp only [gSl, cutD, Option.some.injEq, Rv.o.injEq, Ct.lst.injEq] at g2'
    have := congrArg List.length g2'
    simp at this
    omega
  have fl : fListA (.list ((ns.take 1).map .int)) = some (.o (.lst ((ns.take 1).map .int))) := by
    have : (ns.take 1).length ≤ 16777216 := by simp; omega
    simp [fListA, fList, szOk]
  have loop : ∀ z : Int, W (sFor (iEnum (cSl (cN 0) (pAt (cN 1)) (pAt (cK (.int 63))))) (gT [(gN 2 3), (gN 2 4)]) (sSeq (sSet 2 5 (c2x gMod (cB (g1 fInt) (aCons (cN 3) aNil)) (cN 1))) (sAsg (gSubC stSub (cN 2) (cN 5)) (c2x gAdd (c2 gIx (cN 2) (cN 5)) (c2x gMulA (cN 4) (c2x gAdd (cN 3) (cK (.int 2)))))))
      [s, .d (.int 1), .own (.lst [.int z]), .no, .no, .no]) fun p => ∃ z s3 s4 s5, p = (.nx, [s, .d (.int 1), .own (.lst [.int z]), s3, s4, s5]) := by
    intro z
    refine W_forN zs.zipIdx (fun done e => ∃ (z : Int) (s3 s4 s5 : Sl), e = [s, .d (.int 1), .own (.lst [.int z]), s3, s4, s5]) (enc := fun p : Int × Nat => .tuple [.int p.2, .int p.1]) (e1 := [s, .d (.int 1), .own (.lst [.int z]), .no, .no, .no]) (wk := []) (by
      rw [iEnum_o (xs := zs.map .int) (e1 := [s, .d (.int 1), .own (.lst [.int z]), .no, .no, .no]) (by
        apply W_get
        rcases hs with rfl | rfl
        · simp (disch := omega) [cN_eq, vw_r, vx_r, fz_r, argSl_r, stow_r, retv_r, List.getElem?_cons_zero, List.getElem?_cons_succ, free, szOk, lock, unlock, back, wipeE, g2']
        · simp (disch := omega) [cN_eq, vw_r, vx_r, fz_r, argSl_r, stow_r, retv_r, List.getElem?_cons_zero, List.getElem?_cons_succ, free, szOk, lock, unlock, back, wipeE, g2'])]
      simp [List.zipIdx_map, Function.comp]) ⟨z, .no, .no, .no, rfl⟩ (fun done y rest e hy hi => ?_) (fun e hi => ?_)
    · obtain ⟨z, s3, s4, s5, rfl⟩ := hi
      obtain ⟨m, k⟩ := y
      obtain ⟨hk1, hk2⟩ := zipIdx_at hy
      have hk : k < 63 := by have := (List.getElem?_eq_some_iff.mp hk2).1; omega
      simp (disch := omega) [cN_eq, vw_r, vx_r, fz_r, argSl_r, stow_r, retv_r, List.getElem?_cons_zero, List.getElem?_cons_succ, free, szOk, lock, unlock, back, wipeE, MP.g1, gMod_pos, gMulA_r, Int.emod_one]
      exact hd ⟨_, _, _, _, rfl⟩
    · obtain ⟨z, s3, s4, s5, rfl⟩ := hi
      simp (disch := omega) [cN_eq, vw_r, vx_r, fz_r, argSl_r, stow_r, retv_r, List.getElem?_cons_zero, List.getElem?_cons_succ, free, szOk, lock, unlock, back, wipeE]
  rw [callD_succ (by omega), Kit._law_cells (fns := fns)]
  refine mkFn_go rfl ?_
  have two : ns.take 1 = [] ∨ ∃ a, ns.take 1 = [a] := by
    cases ns with
    | nil => exact .inl rfl
    | cons a r => exact .inr ⟨a, by simp⟩
  rcases two with h0 | ⟨a, h0⟩
  · rw [h0] at g1' fl
    simp only [List.map_nil] at g1' fl
    rcases hs with rfl | rfl
    · simp (disch := omega) [cN_eq, vw_r, vx_r, fz_r, argSl_r, stow_r, retv_r, List.getElem?_cons_zero, List.getElem?_cons_succ, free, szOk, lock, unlock, back, wipeE, b__law_cells, g1', MP.g1, fl]
      refine W_mono (loop 0) ?_
      rintro _ ⟨z, s3, s4, s5, rfl⟩
      simp (disch := omega) [cN_eq, vw_r, vx_r, fz_r, argSl_r, stow_r, retv_r, List.getElem?_cons_zero, List.getElem?_cons_succ, free, szOk, lock, unlock, back, wipeE]
      exact hd ⟨z, rfl⟩
    · simp (disch := omega) [cN_eq, vw_r, vx_r, fz_r, argSl_r, stow_r, retv_r, List.getElem?_cons_zero, List.getElem?_cons_succ, free, szOk, lock, unlock, back, wipeE, b__law_cells, g1', MP.g1, fl]
      refine W_mono (loop 0) ?_
      rintro _ ⟨z, s3, s4, s5, rfl⟩
      simp (disch := omega) [cN_eq, vw_r, vx_r, fz_r, argSl_r, stow_r, retv_r, List.getElem?_cons_zero, List.getElem?_cons_succ, free, szOk, lock, unlock, back, wipeE]
      exact hd ⟨z, rfl⟩
  · rw [h0] at g1' fl
    simp only [List.map_cons, List.map_nil] at g1' fl
    rcases hs with rfl | rfl
    · simp (disch := omega) [cN_eq, vw_r, vx_r, fz_r, argSl_r, stow_r, retv_r, List.getElem?_cons_zero, List.getElem?_cons_succ, free, szOk, lock, unlock, back, wipeE, b__law_cells, g1', MP.g1, fl]
      refine W_mono (loop a) ?_
      rintro _ ⟨z, s3, s4, s5, rfl⟩
      simp (disch := omega) [cN_eq, vw_r, vx_r, fz_r, argSl_r, stow_r, retv_r, List.getElem?_cons_zero, List.getElem?_cons_succ, free, szOk, lock, unlock, back, wipeE]
      exact hd ⟨z, rfl⟩
    · simp (disch := omega) [cN_eq, vw_r, vx_r, fz_r, argSl_r, stow_r, retv_r, List.getElem?_cons_zero, List.getElem?_cons_succ, free, szOk, lock, unlock, back, wipeE, b__law_cells, g1', MP.g1, fl]
      refine W_mono (loop a) ?_
      rintro _ ⟨z, s3, s4, s5, rfl⟩
      simp (disch := omega) [cN_eq, vw_r, vx_r, fz_r, argSl_r, stow_r, retv_r, List.getElem?_cons_zero, List.getElem?_cons_succ, free, szOk, lock, unlock, back, wipeE]
      exact hd ⟨z, rfl⟩
end
end MP

/-! R22: sums put in one another. -/
namespace MP
open PySem
theorem mulb {a b x y : Nat} (h : a ≤ 2 ^ x) (h' : b ≤ 2 ^ y) : a * b ≤ 2 ^ (x + y) := by rw [Nat.pow_add]; exact Nat.mul_le_mul h h'
theorem powb {a x : Nat} (h : a ≤ 2 ^ x) (k : Nat) : a ^ k ≤ 2 ^ (x * k) := by rw [Nat.pow_mul]; exact Nat.pow_le_pow_left h k
theorem addb {a b x y : Nat} (h : a ≤ 2 ^ x) (h' : b ≤ 2 ^ y) : a + b ≤ 2 ^ (x + y + 1) := by
  have h1 : (2 : Nat) ^ x ≤ 2 ^ (x + y) := Nat.pow_le_pow_right (by omega) (by omega)
  have h2 : (2 : Nat) ^ y ≤ 2 ^ (x + y) := Nat.pow_le_pow_right (by omega) (by omega)
  rw [Nat.pow_succ]; omega
theorem fitz {D L x y : Nat} (h0 : 1 ≤ D) (h1 : D ≤ 2 ^ x) (h2 : L ≤ 2 ^ y) (hx : x < 1900) (hy : y < 1900) : Fits D L :=
  ⟨by omega, log2_le h1 (by rw [Nat.log2_two_pow]; exact hx), log2_le h2 (by rw [Nat.log2_two_pow]; exact hy)⟩
theorem leb {a x y : Nat} (h : a ≤ 2 ^ x) (hx : x ≤ y) : a ≤ 2 ^ y := Nat.le_trans h (Nat.pow_le_pow_right (by omega) hx)
theorem Nd_pls (ts : List Pl) : Nd 4 (.list (ts.map plD)) := .lst fun y hy => by
  obtain ⟨t, _, rfl⟩ := List.mem_map.mp hy
  exact Nd_pl t
theorem gNe_pls (ts : List Pl) : gNe (.list (ts.map plD)) (.list []) = some (.v (.bool (decide (ts ≠ [])))) := by
  cases ts with
  | nil => rfl
  | cons t ts =>
    have := gNe_yes (Nd_pls (t :: ts)) (Nd_pls []) (by omega) (by simp)
    rw [List.map_nil] at this
    rw [this]; simp
theorem Pc_nil {w g k d m : Nat} : Pc w g k d m [] := ⟨⟨fun c h => (nomatch h), fun c h => (nomatch h), List.Pairwise.nil⟩, fun c h => (nomatch h), fun c h => (nomatch h), by simp⟩
theorem fTuple_l {xs : List PyData} : fTuple (.list xs) = some (.v (.tuple xs)) := rfl
theorem g1_one {f : PyData → Option Rv} {d : PyData} : MP.g1 f [d] = f d := rfl
@[simp] theorem tYesT_eq {e : En} : tYesT e = some (true, e) := rfl
theorem plD_nil : plD [] = .tuple [] := rfl
theorem Nb.more {k : Nat} {x : PyData} (h : Nb k x) : Nb (k + 1) x := by
  induction h with
  | int => exact .int
  | non => exact .non
  | str => exact .str
  | bool => exact .bool
  | tup hl _ ih => exact .tup hl ih
  | lst hl _ ih => exact .lst hl ih
theorem half_sz (r u : Nat) (hr : r < 9) (hu : u = 1 ∨ u = 2) : Sz 2 4 ((((r : Int) - 4 : Int) : Rat) / ((u : Int) : Rat)) := by
  have h1 : (-4 : Rat) ≤ (((r : Int) - 4 : Int) : Rat) := by
    have : (-4 : Int) ≤ (r : Int) - 4 := by omega
    have := Rat.intCast_le_intCast.mpr this
    exact this
  have h2 : (((r : Int) - 4 : Int) : Rat) ≤ 4 := by
    have : (r : Int) - 4 ≤ 4 := by omega
    have := Rat.intCast_le_intCast.mpr this
    exact this
  generalize hs : ((r : Int) - 4 : Int) = s at h1 h2
  have e4 : ((4 : Nat) : Rat) = 4 := rfl
  have e2 : ((2 : Nat) : Rat) = 2 := rfl
  rcases hu with rfl | rfl
  · have e : (s : Rat) / (((1 : Nat) : Int) : Rat) = s := by
      have : (((1 : Nat) : Int) : Rat) = 1 := rfl
      rw [this]; grind
    rw [e]
    refine ⟨⟨2 * s, by rw [Rat.intCast_mul, e2]; have : ((2 : Int) : Rat) = 2 := rfl; rw [this]; grind⟩, ?_⟩
    rw [e4]; unfold Rat.abs; split <;> grind
  · have e : (s : Rat) / (((2 : Nat) : Int) : Rat) * 2 = s := by
      have : (((2 : Nat) : Int) : Rat) = 2 := rfl
      rw [this]; exact Rat.div_mul_cancel (by decide)
    generalize (s : Rat) / (((2 : Nat) : Int) : Rat) = q at e
    refine ⟨⟨s, by rw [e2]; exact e⟩, ?_⟩
    rw [e4]; unfold Rat.abs; split <;> grind
def tq (k : Nat) : Rat := if k % 2 = 0 then mkRat ((k : Int) - 1) 2 else (k : Rat)
theorem tq_0 : frD (tq 0) = .tuple [.int (-1), .int 2] := by
  have h1 : (tq 0).num = -1 := by decide
  have h2 : (tq 0).den = 2 := by decide
  simp [frD, h1, h2]
theorem tq_1 : frD (tq 1) = .tuple [.int 1, .int 1] := by
  have h1 : (tq 1).num = 1 := by decide
  have h2 : (tq 1).den = 1 := by decide
  simp [frD, h1, h2]
theorem tq_2 : frD (tq 2) = .tuple [.int 1, .int 2] := by
  have h1 : (tq 2).num = 1 := by decide
  have h2 : (tq 2).den = 2 := by decide
  simp [frD, h1, h2]
theorem tq_3 : frD (tq 3) = .tuple [.int 3, .int 1] := by
  have h1 : (tq 3).num = 3 := by decide
  have h2 : (tq 3).den = 1 := by decide
  simp [frD, h1, h2]
theorem tq_sz {k : Nat} (h : k < 4) : Sz 2 4 (tq k) := by
  have : k = 0 ∨ k = 1 ∨ k = 2 ∨ k = 3 := by omega
  rcases this with rfl | rfl | rfl | rfl
  · exact ⟨⟨-1, by decide +kernel⟩, by decide +kernel⟩
  · exact ⟨⟨2, by decide +kernel⟩, by decide +kernel⟩
  · exact ⟨⟨1, by decide +kernel⟩, by decide +kernel⟩
  · exact ⟨⟨6, by decide +kernel⟩, by decide +kernel⟩
theorem Bd_let {w k : Nat} (hk : k < w) : Bd w 1 1 1 1 (letP w k) := by
  have hs : ∀ j n : Nat, ((List.range' j n).map fun i => if i = k then 1 else 0).sum ≤ if j ≤ k then 1 else 0 := by
    intro j n
    induction n generalizing j with
    | zero => simp
    | succ n ih =>
      have := ih (j + 1)
      rw [List.range'_succ, List.map_cons, List.sum_cons]
      by_cases h1 : j = k
      · subst h1
        rw [if_neg (by omega)] at this
        simp
        omega
      · rw [if_neg h1]
        split at this <;> split <;> omega
  refine ⟨⟨fun c hc => ?_, fun c hc => ?_, by simp [letP]⟩, fun c hc => ?_, ?_, by simp [letP]⟩
  · simp [letP] at hc; subst hc; simp
  · simp [letP] at hc; subst hc; simp
  · simp [letP] at hc
    subst hc
    refine ⟨by simp, ?_, Dv.one⟩
    have := hs 0 w
    rw [← List.range_eq_range'] at this
    simpa using this
  · simp only [letP, nrm]; decide +kernel
section
variable {fns : Nat → Orc → List Sl → Option (Rv × List Sl)} [Kit fns]
theorem box22_W {n : Nat} (h : 1 ≤ n) (z : Int) : W (callD fns n 497 [.own (.lst [.int z]), .d (.int 0)]) fun p => Hd (∃ b : Box, p = (.o (bxC b), [.own (.lst [.int z]), .no]) ∧ Bx 0 b) := by
  have gp : gPow (.int 10) (.int 18) = some (.v (.int 1000000000000000000)) := by rfl
  have fb : ∀ b : Bool, fInt (.bool b) = some (.v (.int (if b then 1 else 0))) := fun b => rfl
  have ab : fAbs (.int z) = some (.v (.int (z.natAbs : Nat))) := by simp only [fAbs]; congr 3; split <;> omega
  have ln : fLenA (.list [.int z]) = some (.v (.int 1)) := rfl
  rw [callD_succ (by omega), Kit._law_box_23 (fns := fns)]
  refine mkFn_go rfl ?_
  simp (disch := omega) [b__law_box_23, cN_eq, vw_r, vx_r, fz_r, argSl_r, stow_r, retv_r, List.getElem?_cons_zero, List.getElem?_cons_succ, free, szOk, lock, unlock, back, wipeE, MP.g1, ln, ab, gp, fb]
  rw [gMulA_r (by split <;> omega)]
  simp (disch := omega) [cN_eq, vw_r, vx_r, fz_r, argSl_r, stow_r, retv_r, List.getElem?_cons_zero, List.getElem?_cons_succ, free, szOk, lock, unlock, back, wipeE, MP.g1, gMod_pos, gMulA_l]
  exact hd ⟨(_, _, _), rfl, by simp only [Bx]; omega⟩
theorem right22 {n : Nat} (h : 30 ≤ n) {b : Box} (hb : Bx 0 b) : W (callD fns n 498 [.own (bxC b)]) fun p => ∃ s, p = (.v (.bool true), [s]) := by
  have tk : ∀ {M s : Nat} {b : Box}, Bx M b → M ≤ 1000000000 → 0 < s → s < 1152921504606846976 → _ := fun {M s b} hb hM h0 h1 => take_W (fns := fns) (n := n - 1) (N := M) (s := s) (b := b) (by omega) hb (by omega) h0 h1
  rw [callD_succ (by omega), Kit._law_right_23 (fns := fns)]
  refine mkFn_go rfl ?_
  simp (disch := omega) [b__law_right_23, cN_eq, vw_r, vx_r, fz_r, argSl_r, stow_r, retv_r, List.getElem?_cons_zero, List.getElem?_cons_succ, free, szOk, lock, unlock, back, wipeE]
  refine W_mono (tk (s := 4) hb (by omega) (by omega) (by omega)) ?_
  rintro _ ⟨w', b1, rfl, hw', hb1⟩
  simp (disch := omega) [cN_eq, vw_r, vx_r, fz_r, argSl_r, stow_r, retv_r, List.getElem?_cons_zero, List.getElem?_cons_succ, free, szOk, lock, unlock, back, wipeE]
  refine W_mono (tk (s := 4) hb1 (by omega) (by omega) (by omega)) ?_
  rintro _ ⟨v', b2, rfl, hv', hb2⟩
  simp (disch := omega) [cN_eq, vw_r, vx_r, fz_r, argSl_r, stow_r, retv_r, List.getElem?_cons_zero, List.getElem?_cons_succ, free, szOk, lock, unlock, back, wipeE]
  refine W_mono (tk (s := 3) hb2 (by omega) (by omega) (by omega)) ?_
  rintro _ ⟨u', b3, rfl, hu', hb3⟩
  simp (disch := omega) [cN_eq, vw_r, vx_r, fz_r, argSl_r, stow_r, retv_r, List.getElem?_cons_zero, List.getElem?_cons_succ, free, szOk, lock, unlock, back, wipeE]
  rw [show (1 + (w' : Int)) = ((w' + 1 : Nat) : Int) by omega, show (1 + (v' : Int)) = ((v' + 1 : Nat) : Int) by omega, show (1 + (u' : Int)) = ((u' + 1 : Nat) : Int) by omega]
  obtain ⟨w, ew, hw1, hw2⟩ : ∃ w, w' + 1 = w ∧ 1 ≤ w ∧ w ≤ 4 := ⟨_, rfl, by omega, by omega⟩
  obtain ⟨v, ev_, hv1, hv2⟩ : ∃ w, v' + 1 = w ∧ 1 ≤ w ∧ w ≤ 4 := ⟨_, rfl, by omega, by omega⟩
  obtain ⟨u, eu_, hu1, hu2⟩ : ∃ w, u' + 1 = w ∧ 1 ≤ w ∧ w ≤ 4 := ⟨_, rfl, by omega, by omega⟩
  rw [ew, ev_, eu_]
  clear ew ev_ eu_ hw' hv' hu' w' v' u'
  refine W_mono (sum_drawn_W (fns := fns) (n := n - 1) (most := 6) (high := 3) (by omega) hb3 (by omega) hw1 hw2 (by omega) (by omega) (by omega)) ?_
  rintro _ ⟨one, b4, rfl, pc1, ne1, hb4⟩
  simp (disch := omega) [cN_eq, vw_r, vx_r, fz_r, argSl_r, stow_r, retv_r, List.getElem?_cons_zero, List.getElem?_cons_succ, free, szOk, lock, unlock, back, wipeE]
  refine W_mono (sum_drawn_W (fns := fns) (n := n - 1) (most := 3) (high := 2) (by omega) hb4 (by omega) hw1 hw2 (by omega) (by omega) (by omega)) ?_
  rintro _ ⟨two, b5, rfl, pc2, ne2, hb5⟩
  simp (disch := omega) [cN_eq, vw_r, vx_r, fz_r, argSl_r, stow_r, retv_r, List.getElem?_cons_zero, List.getElem?_cons_succ, free, szOk, lock, unlock, back, wipeE]
  -- the sums put in
  refine W_forN (List.range w) (fun done e => ∃ (b : Box) (so : List Pl) (s7 s8 : Sl), Jk s7 ∧ e = [.own (bxC b), .d (.int w), .d (.int v), .d (.int u), .d (plD one), .d (plD two), .own (.lst (so.map plD)), s7, s8, .no, .no, .no, .no, .no, .no, .no, .no, .no, .no, .no, .no, .no, .no] ∧ Bx (300000 + done.length * 200000) b ∧ so.length = done.length ∧ ∀ t ∈ so, Pc v 2 3 98 98 t)
    (iR1_d rfl (by omega)) ⟨b5, [], .no, .no, .inl rfl, rfl, hb5.le (by simp), rfl, fun t h => (nomatch h)⟩ (fun done y rest e hy hi => ?_) (fun e hi => ?_)
  · obtain ⟨b6, so, s7, s8, j7, rfl, hb6, hsl, hso⟩ := hi
    have hdl : done.length + 1 ≤ w := by have := congrArg List.length hy; simp at this; omega
    simp (disch := omega) [cN_eq, vw_r, vx_r, fz_r, argSl_r, stow_r, retv_r, List.getElem?_cons_zero, List.getElem?_cons_succ, free, szOk, lock, unlock, back, wipeE]
    refine W_mono (tk (s := 4) hb6 (by omega) (by omega) (by omega)) ?_
    rintro _ ⟨kind, b7, rfl, hk, hb7⟩
    have ap : ∀ t : Pl, mAppend (.lst (so.map plD)) [plD t] = some (.none, .lst (so.map plD ++ [plD t])) := fun t => mAppend_l (by simp; omega)
    have fin : ∀ (t : Pl) (b8 : Box) (s7 s8 : Sl), Jk s7 → Pc v 2 3 98 98 t → Bx (300000 + done.length * 200000 + 200000) b8 → ∃ (b : Box) (so' : List Pl) (s7' s8' : Sl), Jk s7' ∧ ([.own (bxC b8), .d (.int w), .d (.int v), .d (.int u), .d (plD one), .d (plD two), .own (.lst (so.map plD ++ [plD t])), s7, s8, .no, .no, .no, .no, .no, .no, .no, .no, .no, .no, .no, .no, .no, .no] : En) = [.own (bxC b), .d (.int w), .d (.int v), .d (.int u), .d (plD one), .d (plD two), .own (.lst (so'.map plD)), s7', s8', .no, .no, .no, .no, .no, .no, .no, .no, .no, .no, .no, .no, .no, .no] ∧ Bx (300000 + (done ++ [y]).length * 200000) b ∧ so'.length = (done ++ [y]).length ∧ ∀ t ∈ so', Pc v 2 3 98 98 t := by
      intro t b8 s7 s8 j7 ht hb8
      refine ⟨b8, so ++ [t], s7, s8, j7, by rw [List.map_append]; rfl, hb8.le (by simp; omega), by simp [hsl], fun q hq => ?_⟩
      rcases List.mem_append.mp hq with hq | hq
      · exact hso q hq
      · simp at hq; subst hq; exact ht
    have mk : kind ≠ 0 ∨ so = [] → True := fun _ => trivial
    by_cases hk0 : kind = 0
    · subst hk0
      by_cases hne : so = []
      · subst hne
        have gn0 : gNe (.list []) (.list []) = some (.v (.bool false)) := rfl
        simp (disch := omega) [cN_eq, vw_r, vx_r, fz_r, argSl_r, stow_r, retv_r, List.getElem?_cons_zero, List.getElem?_cons_succ, free, szOk, lock, unlock, back, wipeE, gn0, isLst]
        refine W_mono (sum_drawn_W (fns := fns) (n := n - 1) (most := 3) (high := 2) (by omega) hb7 (by omega) hv1 hv2 (by omega) (by omega) (by omega)) ?_
        rintro _ ⟨t, b8, rfl, pct, _, hb8⟩
        have sm := small_eq (fns := fns) (n := n - 1) (by omega) (t := t) (by have := pct.ln; omega)
        have ap' := ap (smP t)
        simp only [List.map_nil, List.nil_append] at ap'
        simp (disch := omega) [cN_eq, vw_r, vx_r, fz_r, argSl_r, stow_r, retv_r, List.getElem?_cons_zero, List.getElem?_cons_succ, free, szOk, lock, unlock, back, wipeE, sm, isLst, ap']
        exact hd (fin (smP t) b8 _ _ (.inr ⟨_, rfl⟩) (Pc_sm pct) (hb8.le (by omega)))
      · simp (disch := omega) [cN_eq, vw_r, vx_r, fz_r, argSl_r, stow_r, retv_r, List.getElem?_cons_zero, List.getElem?_cons_succ, free, szOk, lock, unlock, back, wipeE, gNe_pls, hne, isLst]
        refine W_mono (of_W (fns := fns) (n := n - 1) (enc := plD) (by omega) hb7 (by omega) hne (by omega)) ?_
        rintro _ ⟨t, b8, rfl, ht, hb8⟩
        simp (disch := omega) [cN_eq, vw_r, vx_r, fz_r, argSl_r, stow_r, retv_r, List.getElem?_cons_zero, List.getElem?_cons_succ, free, szOk, lock, unlock, back, wipeE, isLst, ap]
        exact hd (fin t b8 _ _ (.inr ⟨_, rfl⟩) (hso t ht) (hb8.le (by omega)))
    · by_cases hk1 : kind = 1
      · subst hk1
        have ap' := ap []
        rw [plD_nil] at ap'
        simp (disch := omega) [cN_eq, vw_r, vx_r, fz_r, argSl_r, stow_r, retv_r, List.getElem?_cons_zero, List.getElem?_cons_succ, free, szOk, lock, unlock, back, wipeE, isLst, ap']
        exact hd (fin [] b7 _ _ (.inr ⟨_, rfl⟩) Pc_nil (hb7.le (by omega)))
      · have hk1' : ¬ ((kind : Int) = 1) := by omega
        simp (disch := omega) [cN_eq, vw_r, vx_r, fz_r, argSl_r, stow_r, retv_r, List.getElem?_cons_zero, List.getElem?_cons_succ, free, szOk, lock, unlock, back, wipeE, hk0, hk1', isLst]
        refine W_mono (sum_drawn_W (fns := fns) (n := n - 1) (most := 3) (high := 2) (by omega) hb7 (by omega) hv1 hv2 (by omega) (by omega) (by omega)) ?_
        rintro _ ⟨t, b8, rfl, pct, _, hb8⟩
        have sm := small_eq (fns := fns) (n := n - 1) (by omega) (t := t) (by have := pct.ln; omega)
        simp (disch := omega) [cN_eq, vw_r, vx_r, fz_r, argSl_r, stow_r, retv_r, List.getElem?_cons_zero, List.getElem?_cons_succ, free, szOk, lock, unlock, back, wipeE, sm, isLst, ap]
        exact hd (fin (smP t) b8 _ _ (.inr ⟨_, rfl⟩) (Pc_sm pct) (hb8.le (by omega)))
  · obtain ⟨b6, so, s7, s8, j7, rfl, hb6, hsl, hso⟩ := hi
    rw [List.length_range] at hb6 hsl
    simp (disch := omega) [cN_eq, vw_r, vx_r, fz_r, argSl_r, stow_r, retv_r, List.getElem?_cons_zero, List.getElem?_cons_succ, free, szOk, lock, unlock, back, wipeE, g1_one, fTuple_l]
    -- the point
    refine W_lc (enc := fun k : Nat => .int (k : Int)) (enc' := frD) (List.range v) (fun done acc e => ∃ b : Box, e = [.own (bxC b), .d (.int w), .d (.int v), .d (.int u), .d (plD one), .d (plD two), .d (.tuple (so.map plD)), .no, s8, .no, .no, .no, .no, .no, .no, .no, .no, .no, .no, .no, .no, .no, .no] ∧ Bx (2000000 + done.length * 2) b ∧ acc.length = done.length ∧ ∀ a ∈ acc, Sz 2 4 a) (iR1_d rfl (by omega)) (by rcases j7 with rfl | ⟨x, rfl⟩ <;> rfl) ⟨b6, rfl, hb6.le (by omega), rfl, fun a h => (nomatch h)⟩ (by simp; omega) (fun done y rest acc e hy hi => ?_) (fun acc e hi => ?_)
    · obtain ⟨b, rfl, hb, hal, has⟩ := hi
      have hdl : done.length + 1 ≤ v := by have := congrArg List.length hy; simp at this; omega
      simp (disch := omega) [cN_eq, vw_r, vx_r, fz_r, argSl_r, stow_r, retv_r, List.getElem?_cons_zero, List.getElem?_cons_succ, free, szOk, lock, unlock, back, wipeE]
      refine W_mono (tk (s := 9) hb (by omega) (by omega) (by omega)) ?_
      rintro _ ⟨r, b2, rfl, hr, hb2⟩
      simp (disch := omega) [cN_eq, vw_r, vx_r, fz_r, argSl_r, stow_r, retv_r, List.getElem?_cons_zero, List.getElem?_cons_succ, free, szOk, lock, unlock, back, wipeE]
      refine W_mono (tk (s := 2) hb2 (by omega) (by omega) (by omega)) ?_
      rintro _ ⟨r2, b3, rfl, hr2, hb3⟩
      have lo := low_eq (fns := fns) (n := n - 1) (by omega) ((r : Int) - 4) ((1 + r2 : Nat) : Int) (by omega) (by rw [Int.natAbs_natCast]; exact log2_small (by omega))
      rw [show ((1 + r2 : Nat) : Int) = 1 + (r2 : Int) by omega] at lo
      have hz := half_sz r (1 + r2) (by omega) (by omega)
      rw [show ((1 + r2 : Nat) : Int) = 1 + (r2 : Int) by omega] at hz
      generalize ((((r : Int) - 4 : Int) : Rat) / ((1 + (r2 : Int) : Int) : Rat)) = q at lo hz
      simp (disch := omega) [cN_eq, vw_r, vx_r, fz_r, argSl_r, stow_r, retv_r, List.getElem?_cons_zero, List.getElem?_cons_succ, free, szOk, lock, unlock, back, wipeE, lo]
      exact hd ⟨q, rfl, b3, rfl, hb3.le (by simp; omega), by simp [hal], fun a ha => by
        rcases List.mem_append.mp ha with ha | ha
        · exact has a ha
        · simp only [List.mem_singleton] at ha; subst ha; exact hz⟩
    · obtain ⟨b, rfl, hb, hal, has⟩ := hi
      rw [List.length_range] at hb hal
      have hpt : fTuple (.list (acc.map frD)) = some (.v (ptD acc)) := rfl
      -- one common under number
      have hso5 : ∀ t ∈ so, t.length ≤ 5000 := fun t ht => by have := (hso t ht).ln; omega
      obtain ⟨D1, d11, d12, bd1⟩ := pc1.bd (by omega)
      obtain ⟨D2, d21, d22, bd2⟩ := pc2.bd (by omega)
      obtain ⟨Ds, ds1, ds2, bds⟩ := commons (B := 98 ^ 3) (by decide) so (fun t ht => (hso t ht).bd (by omega))
      have e1 : D1 ≤ 2 ^ 80 := Nat.le_trans d12 (by decide)
      have e2 : D2 ≤ 2 ^ 40 := Nat.le_trans d22 (by decide)
      have es : Ds ≤ 2 ^ 80 := by
        have : (98 ^ 3) ^ so.length ≤ (98 ^ 3) ^ 4 := Nat.pow_le_pow_right (by decide) (by omega)
        exact Nat.le_trans (Nat.le_trans ds2 this) (by decide)
      have lsz : (3 * 98 : Nat) ≤ 2 ^ 9 := by decide
      have l1z : (6 * 999999 : Nat) ≤ 2 ^ 23 := by decide
      have l2z : (3 * 999999 : Nat) ≤ 2 ^ 22 := by decide
      simp (disch := omega) [cN_eq, vw_r, vx_r, fz_r, argSl_r, stow_r, retv_r, List.getElem?_cons_zero, List.getElem?_cons_succ, free, szOk, lock, unlock, back, wipeE, g1_one, hpt]
      -- the values
      have lav : ∀ t ∈ so, callD fns (n - 1) 62 [.d (plD t), .d (ptD acc)] = some (.v (frD (ev t acc)), [.no, .no]) := fun t ht => lat_eq (by omega) (bds t ht) hal (E := 2) (M := 4) (by omega) (by omega) ds1 (by omega) has (by omega) (by omega) (fitz (Nat.mul_pos ds1 (by decide)) (mulb es (by decide : 2 ^ 2 ≤ 2 ^ 2)) (by decide : 3 * (3 * 98 * 4 ^ 2) ≤ 2 ^ 14) (by omega) (by omega)) (by omega)
      obtain ⟨vals, hvals⟩ : ∃ vals, vals = so.map fun t => ev t acc := ⟨_, rfl⟩
      have hvt : fTuple (.list (so.map (frD ∘ fun t => ev t acc))) = some (.v (ptD vals)) := by rw [hvals, ptD, List.map_map]; rfl
      have hvl : vals.length = w := by rw [hvals, List.length_map, hsl]
      have hvs : ∀ a ∈ vals, Sz (Ds * 2 ^ 2) (3 * (3 * 98 * 4 ^ 2)) a := fun a ha => by
        rw [hvals] at ha
        obtain ⟨t, ht, rfl⟩ := List.mem_map.mp ha
        exact ev_sz (bds t ht) hal (by omega) (by omega) has
      refine W_lcM (enc := plD) (enc' := frD) so (fun t => ev t acc) (iE_d (.inl rfl)) (by rfl) (by omega) (fun t ht => ?_) ?_
      · simp (disch := omega) [cN_eq, vw_r, vx_r, fz_r, argSl_r, stow_r, retv_r, List.getElem?_cons_zero, List.getElem?_cons_succ, free, szOk, lock, unlock, back, wipeE, lav t ht]
      simp (disch := omega) [cN_eq, vw_r, vx_r, fz_r, argSl_r, stow_r, retv_r, List.getElem?_cons_zero, List.getElem?_cons_succ, free, szOk, lock, unlock, back, wipeE, g1_one, hvt]
      -- put in
      obtain ⟨m, hm1, hm2, hm3, hm4⟩ := fMax_spec (so.map topP) 1
      have hm5 : m ≤ 2 := by
        rcases hm4 with hm4 | hm4
        · obtain ⟨t, ht, rfl⟩ := List.mem_map.mp hm4
          exact topP_of (hso t ht).deg
        · omega
      obtain ⟨gm, hgm⟩ : ∃ gm : Nat, m = (gm : Int) := ⟨m.toNat, by omega⟩
      have bdm : ∀ t ∈ so, Bd v gm 3 Ds (3 * 98) t := fun t ht => ⟨(bds t ht).can, fun c hc => ⟨((bds t ht).gd c hc).1, by
        have a1 := topP_le (bds t ht).can c hc
        have a2 := hm2 (topP t) (List.mem_map_of_mem ht)
        omega, ((bds t ht).gd c hc).2.2⟩, (bds t ht).nr, (bds t ht).ln⟩
      obtain ⟨d1, hd1⟩ : ∃ d1 : Nat, topP one = (d1 : Int) := ⟨(topP one).toNat, by
        cases one with
        | nil => exact absurd rfl ne1
        | cons c t => simp only [topP]; omega⟩
      have hd13 : d1 ≤ 3 := by have := topP_of pc1.deg; omega
      have bd1' : Bd w d1 6 D1 (6 * 999999) one := ⟨bd1.can, fun c hc => ⟨(bd1.gd c hc).1, by have := topP_le bd1.can c hc; omega, (bd1.gd c hc).2.2⟩, bd1.nr, bd1.ln⟩
      have p3 : 3 ^ d1 ≤ 27 := Nat.le_trans (Nat.pow_le_pow_right (by decide) hd13) (by decide : 3 ^ 3 ≤ 27)
      refine W_mono (put_in_W (fns := fns) (n := n - 1) (by omega) hv1 hv2 hw1 hw2 hsl bd1' bdm (by omega) d11 (by omega) ds1 (by omega) (by omega) (by omega) (by omega) (fitz (Nat.mul_pos d11 (Nat.pow_pos ds1)) (mulb e1 (powb es d1)) (mulb (by decide : 6 ≤ 2 ^ 3) (mulb l1z (powb lsz d1))) (by omega) (by omega)) (by omega)) ?_
      rintro _ ⟨near, rfl, bn0, hnear⟩
      simp (disch := omega) [cN_eq, vw_r, vx_r, fz_r, argSl_r, stow_r, retv_r, List.getElem?_cons_zero, List.getElem?_cons_succ, free, szOk, lock, unlock, back, wipeE]
      refine W_mono (put_in_W (fns := fns) (n := n - 1) (by omega) hv1 hv2 hw1 hw2 hsl bd2 bds (by omega) d21 (by omega) ds1 (by omega) (by omega) (by omega) (by omega) (fitz (Nat.mul_pos d21 (Nat.pow_pos ds1)) (mulb e2 (powb es 2)) (mulb (by decide : 3 ≤ 2 ^ 2) (mulb l2z (powb lsz 2))) (by omega) (by omega)) (by decide)) ?_
      rintro _ ⟨far, rfl, bf, hfar⟩
      -- bounds of near and far
      have bn : Bd v 6 162 (D1 * Ds ^ 3) (6 * (6 * 999999 * (3 * 98) ^ 3)) near := by
        have e3 : D1 * Ds ^ 3 = D1 * Ds ^ d1 * Ds ^ (3 - d1) := by rw [Nat.mul_assoc, ← Nat.pow_add]; congr 2; omega
        rw [e3]
        refine bn0.more _ ?_ (by omega) (Nat.mul_le_mul_left _ (Nat.mul_le_mul_left _ (Nat.pow_le_pow_right (by decide) hd13)))
        have : d1 * gm ≤ 3 * 2 := Nat.mul_le_mul hd13 (by omega)
        omega
      obtain ⟨Dn, hDn⟩ : ∃ Dn, Dn = D1 * Ds ^ 3 := ⟨_, rfl⟩
      obtain ⟨Df, hDf⟩ : ∃ Df, Df = D2 * Ds ^ 2 := ⟨_, rfl⟩
      obtain ⟨Ln, hLn⟩ : ∃ Ln, Ln = 6 * (6 * 999999 * (3 * 98) ^ 3) := ⟨_, rfl⟩
      obtain ⟨Lf, hLf⟩ : ∃ Lf, Lf = 3 * (3 * 999999 * (3 * 98) ^ 2) := ⟨_, rfl⟩
      have bf' : Bd v 4 27 (D2 * Ds ^ 2) (3 * (3 * 999999 * (3 * 98) ^ 2)) far := bf
      rw [← hDn, ← hLn] at bn
      rw [← hDf, ← hLf] at bf'
      have n1 : 1 ≤ Dn := by rw [hDn]; exact Nat.mul_pos d11 (Nat.pow_pos ds1)
      have n2 : Dn ≤ 2 ^ 320 := by rw [hDn]; exact mulb e1 (powb es 3)
      have n3 : 1 ≤ Ln := by rw [hLn]; decide
      have n4 : Ln ≤ 2 ^ 53 := by rw [hLn]; decide
      have f1 : 1 ≤ Df := by rw [hDf]; exact Nat.mul_pos d21 (Nat.pow_pos ds1)
      have f2 : Df ≤ 2 ^ 200 := by rw [hDf]; exact mulb e2 (powb es 2)
      have f3 : 1 ≤ Lf := by rw [hLf]; decide
      have f4 : Lf ≤ 2 ^ 42 := by rw [hLf]; decide
      clear hDn hDf hLn hLf bf
      -- values of values
      have la1 := lat_eq (fns := fns) (n := n - 1) (by omega) bn hal (E := 2) (M := 4) (by omega) (by omega) n1 n3 has (by omega) (by omega) (fitz (Nat.mul_pos n1 (by decide)) (mulb n2 (by decide : 2 ^ 6 ≤ 2 ^ 6)) (mulb (by decide : 162 ≤ 2 ^ 8) (mulb n4 (by decide : 4 ^ 6 ≤ 2 ^ 12))) (by omega) (by omega)) (by omega)
      have la2 := value_at_eq (fns := fns) (n := n - 1) (by omega) hv1 hv2 bf' hal (E := 2) (M := 4) (by omega) (by omega) f1 f3 has (by omega) (fitz (Nat.mul_pos f1 (by decide)) (mulb f2 (by decide : 2 ^ 4 ≤ 2 ^ 4)) (mulb (by decide : 27 ≤ 2 ^ 5) (mulb f4 (by decide : 4 ^ 4 ≤ 2 ^ 8))) (by omega) (by omega)) (by omega) (by omega)
      have es2 : Ds * 2 ^ 2 ≤ 2 ^ 82 := mulb es (by decide : 2 ^ 2 ≤ 2 ^ 2)
      have es1 : 1 ≤ Ds * 2 ^ 2 := Nat.mul_pos ds1 (by decide)
      have ms2 : (3 * (3 * 98 * 4 ^ 2)) ≤ 2 ^ 14 := by decide
      have la3 := lat_eq (fns := fns) (n := n - 1) (by omega) bd1 hvl es1 (by decide) d11 (by omega) hvs (by omega) (by omega) (fitz (Nat.mul_pos d11 (Nat.pow_pos es1)) (mulb e1 (powb es2 3)) (mulb (by decide : 6 ≤ 2 ^ 3) (mulb l1z (powb ms2 3))) (by omega) (by omega)) (by omega)
      have la4 := lat_eq (fns := fns) (n := n - 1) (by omega) bd2 hvl es1 (by decide) d21 (by omega) hvs (by omega) (by omega) (fitz (Nat.mul_pos d21 (Nat.pow_pos es1)) (mulb e2 (powb es2 2)) (mulb (by decide : 3 ≤ 2 ^ 2) (mulb l2z (powb ms2 2))) (by omega) (by omega)) (by omega)
      rw [hnear acc, ← hvals] at la1
      rw [hfar acc, ← hvals] at la2
      have two_ : ∀ x y : PyData, Nb 6 x → Nb 6 y → callD fns (n - 1) 49 [.own (.lst [x, y]), .own (.lst [x, y])] = some (.v (.bool true), [.own (.lst [x, y]), .own (.lst [x, y])]) := fun x y hx hy => same_own (fun z hz => by
        simp only [List.mem_cons, List.not_mem_nil, or_false] at hz
        rcases hz with rfl | rfl
        · exact same_eq hx (by omega)
        · exact same_eq hy (by omega)) (by simp) (by omega)
      have nbfr : ∀ q : Rat, Nb 6 (frD q) := fun q => (Nb_fr q).more.more.more.more.more
      have sm1 := two_ (frD (ev one vals)) (frD (ev two vals)) (nbfr _) (nbfr _)
      simp (disch := omega) [cN_eq, vw_r, vx_r, fz_r, argSl_r, stow_r, retv_r, List.getElem?_cons_zero, List.getElem?_cons_succ, free, szOk, lock, unlock, back, wipeE, la1, la2, la3, la4, sm1]
      -- sums and products put in
      have bd1p : Bd w 3 6 (D1 * D2) (6 * 999999) one := bd1.more D2 (by omega) (by omega) (by omega)
      have bd2p : Bd w 3 3 (D1 * D2) (3 * 999999) two := by rw [Nat.mul_comm]; exact bd2.more D1 (by omega) (by omega) (by omega)
      have d12p : 1 ≤ D1 * D2 := Nat.mul_pos d11 d21
      have e12 : D1 * D2 ≤ 2 ^ 120 := mulb e1 e2
      refine W_mono (sum_plus_W (fns := fns) (n := n - 1) (by omega) hw1 hw2 bd1p bd2p (fitz d12p e12 (by decide : 6 * 999999 + 3 * 999999 ≤ 2 ^ 24) (by omega) (by omega)) (by omega)) ?_
      rintro _ ⟨sp, rfl, bsp, hsp⟩
      simp (disch := omega) [cN_eq, vw_r, vx_r, fz_r, argSl_r, stow_r, retv_r, List.getElem?_cons_zero, List.getElem?_cons_succ, free, szOk, lock, unlock, back, wipeE]
      refine W_mono (put_in_W (fns := fns) (n := n - 1) (by omega) hv1 hv2 hw1 hw2 hsl bsp bds (by omega) d12p (by omega) ds1 (by omega) (by omega) (by omega) (by omega) (fitz (Nat.mul_pos d12p (Nat.pow_pos ds1)) (mulb e12 (powb es 3)) (mulb (by decide : 6 + 3 ≤ 2 ^ 4) (mulb (by decide : 6 * 999999 + 3 * 999999 ≤ 2 ^ 24) (powb lsz 3))) (by omega) (by omega)) (by decide)) ?_
      rintro _ ⟨gp_, rfl, bgp, hgp⟩
      simp (disch := omega) [cN_eq, vw_r, vx_r, fz_r, argSl_r, stow_r, retv_r, List.getElem?_cons_zero, List.getElem?_cons_succ, free, szOk, lock, unlock, back, wipeE]
      refine W_mono (sum_times_W (fns := fns) (n := n - 1) (by omega) hw1 hw2 bd1 bd2 (fitz d11 e1 l1z (by omega) (by omega)) (fitz d21 e2 l2z (by omega) (by omega)) (fitz d12p e12 (mulb l1z l2z) (by omega) (by omega)) (by omega) (by omega) (by omega)) ?_
      rintro _ ⟨st, rfl, bst, hst⟩
      simp (disch := omega) [cN_eq, vw_r, vx_r, fz_r, argSl_r, stow_r, retv_r, List.getElem?_cons_zero, List.getElem?_cons_succ, free, szOk, lock, unlock, back, wipeE]
      refine W_mono (put_in_W (fns := fns) (n := n - 1) (by omega) hv1 hv2 hw1 hw2 hsl bst bds (by omega) d12p (by decide) ds1 (by omega) (by omega) (by omega) (by omega) (fitz (Nat.mul_pos d12p (Nat.pow_pos ds1)) (mulb e12 (powb es (3 + 2))) (mulb (by decide : 6 * 3 ≤ 2 ^ 5) (mulb (mulb l1z l2z) (powb lsz (3 + 2)))) (by omega) (by omega)) (by decide)) ?_
      rintro _ ⟨gt_, rfl, bgt, hgt⟩
      simp (disch := omega) [cN_eq, vw_r, vx_r, fz_r, argSl_r, stow_r, retv_r, List.getElem?_cons_zero, List.getElem?_cons_succ, free, szOk, lock, unlock, back, wipeE]
      have rawS : Raw v 6 (Dn * Df) (Ln + Lf) ([near, far] : List Pl).flatten := by
        refine ⟨fun c hc => ?_, ?_, fitz (Nat.mul_pos n1 f1) (mulb n2 f2) (addb n4 f4) (by omega) (by omega)⟩
        · simp at hc
          rcases hc with hc | hc
          · exact (bn.gd c hc).more (by omega)
          · rw [Nat.mul_comm]; exact (bf'.gd c hc).more (by omega)
        · simp only [List.flatten_cons, List.flatten_nil, List.append_nil, nrm_append, Rat.natCast_add]
          have := bn.nr
          have := bf'.nr
          grind
      refine W_mono (lsum_W (fns := fns) (n := n - 1) (by omega) rawS (by have := bn.ln; have := bf'.ln; simp; omega) (by omega)) ?_
      rintro _ ⟨ls, rfl, cls⟩
      simp (disch := omega) [cN_eq, vw_r, vx_r, fz_r, argSl_r, stow_r, retv_r, List.getElem?_cons_zero, List.getElem?_cons_succ, free, szOk, lock, unlock, back, wipeE]
      have fn_ : Fits Dn Ln := fitz n1 n2 n4 (by omega) (by omega)
      have ff_ : Fits Df Lf := fitz f1 f2 f4 (by omega) (by omega)
      refine W_mono (ltimes_W (fns := fns) (n := n - 1) (by omega) (rawMul_raw bn bf' (fitz (Nat.mul_pos n1 f1) (mulb n2 f2) (mulb n4 f4) (by omega) (by omega))) (by have := Nat.mul_le_mul bn.ln bf'.ln; omega) (by omega) (fun c hc => ⟨(bn.gd c hc).1, bn.sm fn_ hc⟩) (fun c hc => ⟨(bf'.gd c hc).1, bf'.sm ff_ hc⟩)) ?_
      rintro _ ⟨lt, rfl, clt⟩
      obtain rfl : gp_ = ls := Can.ext_ev bgp.can cls.can fun x hx => by
        rw [hgp, hsp, cls.ev, ← hnear, ← hfar]; simp [ev_append]
      obtain rfl : gt_ = lt := Can.ext_ev bgt.can clt.can fun x hx => by
        rw [hgt, hst, clt.ev, ev_rawMul (fun c hc => (bn.gd c hc).1) (fun c hc => (bf'.gd c hc).1), ← hnear, ← hfar]
      have nbpl : ∀ {w g k D L : Nat} {t : Pl}, Bd w g k D L t → k ≤ 16777216 → w ≤ 4 → Nb 6 (plD t) := fun h hk hw => (Nb_pl h hk (by omega)).more.more.more
      have sm2 := two_ (plD gp_) (plD gt_) (nbpl bgp (by decide) hv2) (nbpl bgt (by decide) hv2)
      simp (disch := omega) [cN_eq, vw_r, vx_r, fz_r, argSl_r, stow_r, retv_r, List.getElem?_cons_zero, List.getElem?_cons_succ, free, szOk, lock, unlock, back, wipeE, sm2]
      -- degrees
      have dg1 := degree_of_eq (fns := fns) (n := n - 1) (by omega) hv1 hv2 bn.can (by have := bn.ln; omega)
      have dg2 := degree_of_eq (fns := fns) (n := n - 1) (by omega) hw1 hw2 bd1.can (by have := bd1.ln; omega)
      simp (disch := omega) [cN_eq, vw_r, vx_r, fz_r, argSl_r, stow_r, retv_r, List.getElem?_cons_zero, List.getElem?_cons_succ, free, szOk, lock, unlock, back, wipeE, dg1, dg2]
      have hga : gAdd (.list (so.map (PyData.int ∘ topP))) (.list [.int 1]) = some (.o (.lst (so.map (PyData.int ∘ topP) ++ [.int 1]))) := gAdd_list (by simp; omega)
      have hmx : gMax2 [.list (so.map (PyData.int ∘ topP) ++ [.int 1])] = some (.v (.int m)) := by simpa using hm1
      have hmu : gMulA (.int (topP one)) (.int m) = some (.v (.int (topP one * m))) := gMulA_l (by omega)
      have hle : ¬ (topP one * m < topP near) := by
        have := topP_of (t := near) (g := d1 * gm) fun c hc => (bn0.gd c hc).2.1
        rw [hd1, hgm, ← Int.natCast_mul]
        omega
      refine W_lcM (enc := plD) (enc' := .int) so topP (iE_d (.inl rfl)) (by rfl) (by omega) (fun t ht => ?_) ?_
      · have dg := degree_of_eq (fns := fns) (n := n - 1) (by omega) hv1 hv2 (bds t ht).can (by have := (bds t ht).ln; omega)
        simp (disch := omega) [cN_eq, vw_r, vx_r, fz_r, argSl_r, stow_r, retv_r, List.getElem?_cons_zero, List.getElem?_cons_succ, free, szOk, lock, unlock, back, wipeE, dg]
      simp (disch := omega) [cN_eq, vw_r, vx_r, fz_r, argSl_r, stow_r, retv_r, List.getElem?_cons_zero, List.getElem?_cons_succ, free, szOk, lock, unlock, back, wipeE, hga, hmx, hmu, hle]
      -- one behind the other
      refine W_lc (enc := fun k : Nat => .int (k : Int)) (enc' := plD) (List.range v) (fun done mo e => ∃ b : Box, e = [.own (bxC b), .d (.int w), .d (.int v), .d (.int u), .d (plD one), .d (plD two), .d (.tuple (so.map plD)), .no, s8, .d (ptD acc), .d (ptD vals), .d (plD near), .d (plD far), .own (.lst [plD gp_, plD gt_]), .no, .no, .no, .no, .no, .no, .no, .no, .no] ∧ Bx (3000000 + done.length * 200000) b ∧ mo.length = done.length ∧ ∀ t ∈ mo, Pc u 1 2 98 98 t) (iR1_d rfl (by omega)) (by rcases j7 with rfl | ⟨x, rfl⟩ <;> rfl) ⟨b, rfl, hb.le (by omega), rfl, fun a h => (nomatch h)⟩ (by simp; omega) (fun done y rest mo e hy hi => ?_) (fun mo e hi => ?_)
      · obtain ⟨b, rfl, hb, hml, hmo⟩ := hi
        have hdl : done.length + 1 ≤ v := by have := congrArg List.length hy; simp at this; omega
        simp (disch := omega) [cN_eq, vw_r, vx_r, fz_r, argSl_r, stow_r, retv_r, List.getElem?_cons_zero, List.getElem?_cons_succ, free, szOk, lock, unlock, back, wipeE]
        refine W_mono (sum_drawn_W (fns := fns) (n := n - 1) (most := 2) (high := 1) (by omega) hb (by omega) hu1 hu2 (by omega) (by omega) (by omega)) ?_
        rintro _ ⟨t, b8, rfl, pct, _, hb8⟩
        have sm := small_eq (fns := fns) (n := n - 1) (by omega) (t := t) (by have := pct.ln; omega)
        simp (disch := omega) [cN_eq, vw_r, vx_r, fz_r, argSl_r, stow_r, retv_r, List.getElem?_cons_zero, List.getElem?_cons_succ, free, szOk, lock, unlock, back, wipeE, sm]
        exact hd ⟨_, rfl, b8, rfl, hb8.le (by simp; omega), by simp [hml], fun q hq => by
          rcases List.mem_append.mp hq with hq | hq
          · exact hmo q hq
          · simp only [List.mem_singleton] at hq; subst hq; exact Pc_sm pct⟩
      · obtain ⟨b, rfl, hb, hml, hmo⟩ := hi
        rw [List.length_range] at hb hml
        obtain ⟨Dm, dm1, dm2, bdm_⟩ := commons (B := 98 ^ 2) (by decide) mo (fun t ht => (hmo t ht).bd (by omega))
        have em : Dm ≤ 2 ^ 54 := by
          have : (98 ^ 2) ^ mo.length ≤ (98 ^ 2) ^ 4 := Nat.pow_le_pow_right (by decide) (by omega)
          exact Nat.le_trans (Nat.le_trans dm2 this) (by decide)
        have lmz : (2 * 98 : Nat) ≤ 2 ^ 8 := by decide
        simp (disch := omega) [cN_eq, vw_r, vx_r, fz_r, argSl_r, stow_r, retv_r, List.getElem?_cons_zero, List.getElem?_cons_succ, free, szOk, lock, unlock, back, wipeE, g1_one, fTuple_l]
        refine W_mono (put_in_W (fns := fns) (n := n - 1) (by omega) hu1 hu2 hv1 hv2 hml bf' bdm_ (by omega) f1 f3 dm1 (by omega) (by omega) (by omega) (by omega) (fitz (Nat.mul_pos f1 (Nat.pow_pos dm1)) (mulb f2 (powb em 4)) (mulb (by decide : 27 ≤ 2 ^ 5) (mulb f4 (powb lmz 4))) (by omega) (by omega)) (by decide)) ?_
        rintro _ ⟨whole, rfl, bwh, hwh⟩
        simp (disch := omega) [cN_eq, vw_r, vx_r, fz_r, argSl_r, stow_r, retv_r, List.getElem?_cons_zero, List.getElem?_cons_succ, free, szOk, lock, unlock, back, wipeE]
        refine W_lc (enc := plD) (enc' := plD) so (fun done inn e => e = [.own (bxC b), .d (.int w), .d (.int v), .d (.int u), .d (plD one), .d (plD two), .d (.tuple (so.map plD)), s7, s8, .d (ptD acc), .d (ptD vals), .d (plD near), .d (plD far), .own (.lst [plD gp_, plD gt_]), .d (.tuple (mo.map plD)), .d (plD whole), .no, .no, .no, .no, .no, .no, .no] ∧ inn.length = done.length ∧ (∀ t ∈ inn, Bd u (2 * 1) (3 * 2 ^ 2) (Ds * Dm ^ 2) (3 * (3 * 98 * (2 * 98) ^ 2)) t) ∧ ∀ x, inn.map (fun t => ev t x) = done.map fun t => ev t (mo.map fun s => ev s x)) (iE_d (.inl rfl)) (by rfl) ⟨rfl, rfl, fun t h => (nomatch h), fun x => rfl⟩ (by omega) (fun done y rest inn e hy hi => ?_) (fun inn e hi => ?_)
        · obtain ⟨rfl, hil, hib, hie⟩ := hi
          have hys : y ∈ so := by rw [hy]; simp
          simp (disch := omega) [cN_eq, vw_r, vx_r, fz_r, argSl_r, stow_r, retv_r, List.getElem?_cons_zero, List.getElem?_cons_succ, free, szOk, lock, unlock, back, wipeE]
          refine W_mono (put_in_W (fns := fns) (n := n - 1) (by omega) hu1 hu2 hv1 hv2 hml (bds y hys) bdm_ (by omega) ds1 (by omega) dm1 (by omega) (by omega) (by omega) (by omega) (fitz (Nat.mul_pos ds1 (Nat.pow_pos dm1)) (mulb es (powb em 2)) (mulb (by decide : 3 ≤ 2 ^ 2) (mulb lsz (powb lmz 2))) (by omega) (by omega)) (by decide)) ?_
          rintro _ ⟨t, rfl, bt, ht⟩
          simp (disch := omega) [cN_eq, vw_r, vx_r, fz_r, argSl_r, stow_r, retv_r, List.getElem?_cons_zero, List.getElem?_cons_succ, free, szOk, lock, unlock, back, wipeE]
          exact hd ⟨t, rfl, rfl, by simp [hil], fun q hq => by
            rcases List.mem_append.mp hq with hq | hq
            · exact hib q hq
            · simp only [List.mem_singleton] at hq; subst hq; exact bt, fun x => by rw [List.map_append, List.map_append, hie x]; simp [ht x]⟩
        · obtain ⟨rfl, hil, hib, hie⟩ := hi
          simp (disch := omega) [cN_eq, vw_r, vx_r, fz_r, argSl_r, stow_r, retv_r, List.getElem?_cons_zero, List.getElem?_cons_succ, free, szOk, lock, unlock, back, wipeE, g1_one, fTuple_l]
          have esm : Ds * Dm ^ 2 ≤ 2 ^ 188 := mulb es (powb em 2)
          have esm1 : 1 ≤ Ds * Dm ^ 2 := Nat.mul_pos ds1 (Nat.pow_pos dm1)
          refine W_mono (put_in_W (fns := fns) (n := n - 1) (by omega) hu1 hu2 hw1 hw2 (by rw [hil, hsl]) bd2 hib (by omega) d21 (by omega) esm1 (by decide) (by omega) (by decide) (by decide) (fitz (Nat.mul_pos d21 (Nat.pow_pos esm1)) (mulb e2 (powb esm 2)) (mulb (by decide : 3 ≤ 2 ^ 2) (mulb l2z (powb (by decide : 3 * (3 * 98 * (2 * 98) ^ 2) ≤ 2 ^ 26) 2))) (by omega) (by omega)) (by decide)) ?_
          rintro _ ⟨tw, rfl, btw, htw⟩
          obtain rfl : tw = whole := Can.ext_ev btw.can bwh.can fun x hx => by rw [htw, hwh, hfar, hie x]
          have sm3 := same_eq (fns := fns) (nbpl btw (by decide) hu2) (n := n - 1) (by omega)
          simp (disch := omega) [cN_eq, vw_r, vx_r, fz_r, argSl_r, stow_r, retv_r, List.getElem?_cons_zero, List.getElem?_cons_succ, free, szOk, lock, unlock, back, wipeE, sm3]
          -- letters
          refine W_mono (exchange_W (fns := fns) (n := n - 1) (by omega) hb (by omega) hw1 hw2) ?_
          rintro _ ⟨sg, b9, rfl, hsg, hb9⟩
          simp (disch := omega) [cN_eq, vw_r, vx_r, fz_r, argSl_r, stow_r, retv_r, List.getElem?_cons_zero, List.getElem?_cons_succ, free, szOk, lock, unlock, back, wipeE]
          refine W_lcM (enc := fun k : Nat => .int (k : Int)) (enc' := plD) sg (fun a => letP w (a - 1)) (iE_d (.inl (by rw [tup_ex]; rfl))) (by rfl) (by rw [hsg.len]; omega) (fun a ha => ?_) ?_
          · have r := hsg.rg a ha
            have le := letter_sum_eq (fns := fns) (n := n - 1) (w := w) (k := a - 1) (by omega) hw1 hw2 (by omega)
            rw [show ((a - 1 : Nat) : Int) + 1 = (a : Int) by omega] at le
            simp (disch := omega) [cN_eq, vw_r, vx_r, fz_r, argSl_r, stow_r, retv_r, List.getElem?_cons_zero, List.getElem?_cons_succ, free, szOk, lock, unlock, back, wipeE, le]
          obtain ⟨ll, hll⟩ : ∃ ll, ll = sg.map fun a => letP w (a - 1) := ⟨_, rfl⟩
          have lts : fTuple (.list (sg.map (plD ∘ fun a => letP w (a - 1)))) = some (.v (.tuple (ll.map plD))) := by rw [hll, List.map_map]; rfl
          simp (disch := omega) [cN_eq, vw_r, vx_r, fz_r, argSl_r, stow_r, retv_r, List.getElem?_cons_zero, List.getElem?_cons_succ, free, szOk, lock, unlock, back, wipeE, g1_one, lts]
          -- numbers
          refine W_lcM (enc := fun k : Nat => .int (k : Int)) (enc' := frD) (List.range w) tq (iR1_d rfl (by omega)) (by rcases j7 with rfl | ⟨x, rfl⟩ <;> rfl) (by simp; omega) (fun k hk => ?_) ?_
          · have d2 : ∀ x : Int, gDiv (.int x) (.int 2) = some (.v (.int (x / 2))) := fun x => gDiv_int (by omega) (log2_small (by decide))
            have hk4 : k = 0 ∨ k = 1 ∨ k = 2 ∨ k = 3 := by have := List.mem_range.mp hk; omega
            rcases hk4 with rfl | rfl | rfl | rfl
            · simp (disch := omega) [cN_eq, vw_r, vx_r, fz_r, argSl_r, stow_r, retv_r, List.getElem?_cons_zero, List.getElem?_cons_succ, free, szOk, lock, unlock, back, wipeE, d2, gMulA_r, tq_0]
            · simp (disch := omega) [cN_eq, vw_r, vx_r, fz_r, argSl_r, stow_r, retv_r, List.getElem?_cons_zero, List.getElem?_cons_succ, free, szOk, lock, unlock, back, wipeE, d2, gMulA_r, tq_1]
            · simp (disch := omega) [cN_eq, vw_r, vx_r, fz_r, argSl_r, stow_r, retv_r, List.getElem?_cons_zero, List.getElem?_cons_succ, free, szOk, lock, unlock, back, wipeE, d2, gMulA_r, tq_2]
            · simp (disch := omega) [cN_eq, vw_r, vx_r, fz_r, argSl_r, stow_r, retv_r, List.getElem?_cons_zero, List.getElem?_cons_succ, free, szOk, lock, unlock, back, wipeE, d2, gMulA_r, tq_3]
          obtain ⟨tv, htv⟩ : ∃ tv, tv = (List.range w).map tq := ⟨_, rfl⟩
          have htt : fTuple (.list ((List.range w).map (frD ∘ tq))) = some (.v (ptD tv)) := by rw [htv, ptD, List.map_map]; rfl
          have htl : tv.length = w := by simp [htv]
          have hts : ∀ q ∈ tv, Sz 2 4 q := fun q hq => by
            rw [htv] at hq
            obtain ⟨k, hk, rfl⟩ := List.mem_map.mp hq
            exact tq_sz (by have := List.mem_range.mp hk; omega)
          simp (disch := omega) [cN_eq, vw_r, vx_r, fz_r, argSl_r, stow_r, retv_r, List.getElem?_cons_zero, List.getElem?_cons_succ, free, szOk, lock, unlock, back, wipeE, g1_one, htt]
          refine W_lcM (enc := frD) (enc' := plD) tv (numP v) (iE_d (.inl rfl)) (by rfl) (by omega) (fun q hq => ?_) ?_
          · have ns := number_sum_eq (fns := fns) (n := n - 1) (w := v) (c := q) (by omega) hv1 hv2
            simp (disch := omega) [cN_eq, vw_r, vx_r, fz_r, argSl_r, stow_r, retv_r, List.getElem?_cons_zero, List.getElem?_cons_succ, free, szOk, lock, unlock, back, wipeE, ns]
          have la5 := lat_eq (fns := fns) (n := n - 1) (by omega) bd1 htl (E := 2) (M := 4) (by omega) (by omega) d11 (by omega) hts (by omega) (by omega) (fitz (Nat.mul_pos d11 (by decide)) (mulb e1 (by decide : 2 ^ 3 ≤ 2 ^ 3)) (mulb (by decide : 6 ≤ 2 ^ 3) (mulb l1z (by decide : 4 ^ 3 ≤ 2 ^ 6))) (by omega) (by omega)) (by omega)
          obtain ⟨nl, hnl⟩ : ∃ nl, nl = tv.map (numP v) := ⟨_, rfl⟩
          have nts : fTuple (.list (tv.map (plD ∘ numP v))) = some (.v (.tuple (nl.map plD))) := by rw [hnl, List.map_map]; rfl
          simp (disch := omega) [cN_eq, vw_r, vx_r, fz_r, argSl_r, stow_r, retv_r, List.getElem?_cons_zero, List.getElem?_cons_succ, free, szOk, lock, unlock, back, wipeE, g1_one, nts, la5]
          refine W_mono (put_in_W (fns := fns) (n := n - 1) (w := w) (w0 := w) (so := ll) (g1 := 1) (n1 := 1) (D1 := 1) (L1 := 1) (by omega) hw1 hw2 hw1 hw2 (by rw [hll, List.length_map, hsg.len]) bd1 (fun t ht => by
            rw [hll] at ht
            obtain ⟨a, ha, rfl⟩ := List.mem_map.mp ht
            exact Bd_let (by have := hsg.rg a ha; omega)) (by omega) d11 (by omega) (by omega) (by omega) (by omega) (by omega) (by omega) (fitz (by simpa using d11) (by rw [Nat.one_pow, Nat.mul_one]; exact e1) (by decide : 6 * (6 * 999999 * 1 ^ 3) ≤ 2 ^ 30) (by omega) (by omega)) (by decide)) ?_
          rintro _ ⟨ga, rfl, bga, hga_⟩
          simp (disch := omega) [cN_eq, vw_r, vx_r, fz_r, argSl_r, stow_r, retv_r, List.getElem?_cons_zero, List.getElem?_cons_succ, free, szOk, lock, unlock, back, wipeE]
          refine W_mono (put_in_W (fns := fns) (n := n - 1) (w := v) (w0 := w) (so := nl) (g1 := 0) (n1 := 1) (D1 := 2) (L1 := 4) (by omega) hv1 hv2 hw1 hw2 (by rw [hnl, List.length_map, htl]) bd1 (fun t ht => by
            rw [hnl] at ht
            obtain ⟨q, hq, rfl⟩ := List.mem_map.mp ht
            exact Bd_num (hts q hq).1 (hts q hq).2) (by omega) d11 (by omega) (by omega) (by omega) (by omega) (by omega) (by omega) (fitz (Nat.mul_pos d11 (by decide)) (mulb e1 (by decide : 2 ^ 3 ≤ 2 ^ 3)) (by decide : 6 * (6 * 999999 * 4 ^ 3) ≤ 2 ^ 40) (by omega) (by omega)) (by decide)) ?_
          rintro _ ⟨gb, rfl, bgb, hgb⟩
          simp (disch := omega) [cN_eq, vw_r, vx_r, fz_r, argSl_r, stow_r, retv_r, List.getElem?_cons_zero, List.getElem?_cons_succ, free, szOk, lock, unlock, back, wipeE]
          refine W_mono (led_W (fns := fns) (n := n - 1) (by omega) hw1 hw2 hsg bd1 (by omega)) ?_
          rintro _ ⟨gl, rfl, bgl, hgl⟩
          have ns := number_sum_eq (fns := fns) (n := n - 1) (w := v) (c := ev one tv) (by omega) hv1 hv2
          have dsz := ev_sz bd1 htl (E := 2) (M := 4) (by omega) (by omega) hts
          have bdu := Bd_num (w := v) dsz.1 dsz.2
          obtain rfl : ga = gl := Can.ext_ev bga.can bgl.can fun x hx => by
            rw [hga_, hgl x hx, hll, List.map_map]
            congr 1
            refine List.map_congr_left fun a ha => ?_
            have r := hsg.rg a ha
            have hax : a - 1 < x.length := by omega
            simp only [Function.comp]
            rw [ev_let (by omega) hx]
            simp [List.getD_eq_getElem?_getD, List.getElem?_eq_getElem hax]
          obtain rfl : gb = numP v (ev one tv) := Can.ext_ev bgb.can bdu.can fun x hx => by
            rw [hgb, ev_num, hnl, List.map_map]
            congr 1
            conv => rhs; rw [← List.map_id tv]
            exact List.map_congr_left fun q _ => ev_num v q x
          have sm4 := two_ (plD ga) (plD (numP v (ev one tv))) (nbpl bga (by decide) hw2) (nbpl bdu (by decide) hv2)
          simp (disch := omega) [cN_eq, vw_r, vx_r, fz_r, argSl_r, stow_r, retv_r, List.getElem?_cons_zero, List.getElem?_cons_succ, free, szOk, lock, unlock, back, wipeE, ns, sm4]
theorem law_k22 {n : Nat} (h : 32 ≤ n) {ns : List Int} {s : Sl} (hs : Scr ns s) (hl : ns.length ≤ 63) : W (callD fns n 564 [s]) fun p => p.1 = .v (.bool true) := by
  have cw := cells_W (fns := fns) (n := n - 1) (by omega) hs hl
  rcases hs with rfl | rfl
  · rw [callD_succ (by omega), Kit.law_23 (fns := fns)]
    refine mkFn_go rfl ?_
    simp (disch := omega) [b_law_23, cN_eq, vw_r, vx_r, fz_r, argSl_r, stow_r, retv_r, List.getElem?_cons_zero, List.getElem?_cons_succ, free, szOk, lock, unlock, back, wipeE]
    refine W_mono cw ?_
    rintro _ ⟨z, rfl⟩
    simp (disch := omega) [cN_eq, vw_r, vx_r, fz_r, argSl_r, stow_r, retv_r, List.getElem?_cons_zero, List.getElem?_cons_succ, free, szOk, lock, unlock, back, wipeE]
    refine W_mono (box22_W (fns := fns) (n := n - 1) (by omega) z) ?_
    rintro _ ⟨b, rfl, hb⟩
    simp (disch := omega) [cN_eq, vw_r, vx_r, fz_r, argSl_r, stow_r, retv_r, List.getElem?_cons_zero, List.getElem?_cons_succ, free, szOk, lock, unlock, back, wipeE]
    refine W_mono (right22 (fns := fns) (n := n - 1) (by omega) hb) ?_
    rintro _ ⟨r, rfl⟩
    simp (disch := omega) [cN_eq, vw_r, vx_r, fz_r, argSl_r, stow_r, retv_r, List.getElem?_cons_zero, List.getElem?_cons_succ, free, szOk, lock, unlock, back, wipeE]
  · rw [callD_succ (by omega), Kit.law_23 (fns := fns)]
    refine mkFn_go rfl ?_
    simp (disch := omega) [b_law_23, cN_eq, vw_r, vx_r, fz_r, argSl_r, stow_r, retv_r, List.getElem?_cons_zero, List.getElem?_cons_succ, free, szOk, lock, unlock, back, wipeE]
    refine W_mono cw ?_
    rintro _ ⟨z, rfl⟩
    simp (disch := omega) [cN_eq, vw_r, vx_r, fz_r, argSl_r, stow_r, retv_r, List.getElem?_cons_zero, List.getElem?_cons_succ, free, szOk, lock, unlock, back, wipeE]
    refine W_mono (box22_W (fns := fns) (n := n - 1) (by omega) z) ?_
    rintro _ ⟨b, rfl, hb⟩
    simp (disch := omega) [cN_eq, vw_r, vx_r, fz_r, argSl_r, stow_r, retv_r, List.getElem?_cons_zero, List.getElem?_cons_succ, free, szOk, lock, unlock, back, wipeE]
    refine W_mono (right22 (fns := fns) (n := n - 1) (by omega) hb) ?_
    rintro _ ⟨r, rfl⟩
    simp (disch := omega) [cN_eq, vw_r, vx_r, fz_r, argSl_r, stow_r, retv_r, List.getElem?_cons_zero, List.getElem?_cons_succ, free, szOk, lock, unlock, back, wipeE]
end
end MP

instance : MP.Kit K22.fns := by constructor <;> intro c <;> rfl
theorem K22.plain : K22.Plain := by
  intro ns hl _ s hs
  obtain ⟨⟨r, ps⟩, h1, h2⟩ := MP.law_k22 (fns := K22.fns) (n := 41) (by omega) (ns := ns) (s := s) hs hl
  refine ⟨ps, ?_⟩
  simp only at h2
  subst h2
  exact h1
open PySem PySem.W PyProof.Rows
set_option maxRecDepth 100000 in
set_option maxHeartbeats 0 in
theorem PySem.Challenge.cw_keptsums_k22_sums_put_in_one_another_holds : PySem.Challenge.rw_keptsums_k22_sums_put_in_one_another.Holds := by
  w_on; o_law; k_head; (case hw => w_witness2)
  k_fill
  refine MP.walk (l := PySem.Challenge.rw_keptsums_k22_sums_put_in_one_another) (k := 3 * (40 + 1)) rfl rfl ⟨rfl, by decide, by decide⟩ (fun w h Y => PySem.W.kIn_of Y) ?F
  case F =>
    intro w mg fa h KX G hmg
    have z_abs := PySem.W.mg_none_of (n := "abs") KX G (by k_is)
    have z_all := PySem.W.mg_none_of (n := "all") KX G (by k_is)
    have z_bool := PySem.W.mg_none_of (n := "bool") KX G (by k_is)
    have z_enumerate := PySem.W.mg_none_of (n := "enumerate") KX G (by k_is)
    have z_gcd := PySem.W.mg_of (n := "gcd") (v := .builtin "math.gcd") KX G (by k_is)
    have z_int := PySem.W.mg_none_of (n := "int") KX G (by k_is)
    have z_isinstance := PySem.W.mg_none_of (n := "isinstance") KX G (by k_is)
    have z_len := PySem.W.mg_none_of (n := "len") KX G (by k_is)
    have z_list := PySem.W.mg_none_of (n := "list") KX G (by k_is)
    have z_max := PySem.W.mg_none_of (n := "max") KX G (by k_is)
    have z_min := PySem.W.mg_none_of (n := "min") KX G (by k_is)
    have z_range := PySem.W.mg_none_of (n := "range") KX G (by k_is)
    have z_set := PySem.W.mg_none_of (n := "set") KX G (by k_is)
    have z_sorted := PySem.W.mg_none_of (n := "sorted") KX G (by k_is)
    have z_str := PySem.W.mg_none_of (n := "str") KX G (by k_is)
    have z_sum := PySem.W.mg_none_of (n := "sum") KX G (by k_is)
    have z_tuple := PySem.W.mg_none_of (n := "tuple") KX G (by k_is)
    have z_zip := PySem.W.mg_none_of (n := "zip") KX G (by k_is)
    have z_MOST_TERMS : ∃ t : PySem.Tok, mg "MOST_TERMS" = some (.int 5000 t) := ⟨_, PySem.W.mg_of KX G (by k_is)⟩
    have z_MOST_WIDE : ∃ t : PySem.Tok, mg "MOST_WIDE" = some (.int 4 t) := ⟨_, PySem.W.mg_of KX G (by k_is)⟩
    have z_ONE := by refine' MP.tup_mk (mg := mg) (x := "ONE") (ks := [1, 1]) KX G ?a ?l ?c ?d ?s ?t; (case a => k_is); (case l => k_is); (case c => rfl); (case d => rfl); (case s => decide); (case t => rfl)
    have z_ZERO := by refine' MP.tup_mk (mg := mg) (x := "ZERO") (ks := [0, 1]) KX G ?a ?l ?c ?d ?s ?t; (case a => k_is); (case l => k_is); (case c => rfl); (case d => rfl); (case s => decide); (case t => rfl)
    have d0 := by refine' MP.df_mk (mg := mg) (x := "is_number") (st := K22.st_is_number) (ps := ["thing"]) KX G (fun _ _ _ _ _ _ us hl => match us, hl with | [_], _ => rfl) ?a ?l ?c ?k; (case a => k_is); (case l => k_is); (case c => k_is); (case k => k_is)
    have d1 := by refine' MP.df_mk (mg := mg) (x := "is_between") (st := K22.st_is_between) (ps := ["thing", "least", "most"]) KX G (fun _ _ _ _ _ _ us hl => match us, hl with | [_, _, _], _ => rfl) ?a ?l ?c ?k; (case a => k_is); (case l => k_is); (case c => k_is); (case k => k_is)
    have d2 := by refine' MP.df_mk (mg := mg) (x := "is_from") (st := K22.st_is_from) (ps := ["thing", "least"]) KX G (fun _ _ _ _ _ _ us hl => match us, hl with | [_, _], _ => rfl) ?a ?l ?c ?k; (case a => k_is); (case l => k_is); (case c => k_is); (case k => k_is)
    have d3 := by refine' MP.df_mk (mg := mg) (x := "tuple_of") (st := K22.st_tuple_of) (ps := ["thing"]) KX G (fun _ _ _ _ _ _ us hl => match us, hl with | [_], _ => rfl) ?a ?l ?c ?k; (case a => k_is); (case l => k_is); (case c => k_is); (case k => k_is)
    have d4 := by refine' MP.df_mk (mg := mg) (x := "is_tuple_of") (st := K22.st_is_tuple_of) (ps := ["thing", "many"]) KX G (fun _ _ _ _ _ _ us hl => match us, hl with | [_, _], _ => rfl) ?a ?l ?c ?k; (case a => k_is); (case l => k_is); (case c => k_is); (case k => k_is)
    have d5 := by refine' MP.df_mk (mg := mg) (x := "sure") (st := K22.st_sure) (ps := ["flag"]) KX G (fun _ _ _ _ _ _ us hl => match us, hl with | [_], _ => rfl) ?a ?l ?c ?k; (case a => k_is); (case l => k_is); (case c => k_is); (case k => k_is)
    have d6 := by refine' MP.df_mk (mg := mg) (x := "is_wide") (st := K22.st_is_wide) (ps := ["thing"]) KX G (fun _ _ _ _ _ _ us hl => match us, hl with | [_], _ => rfl) ?a ?l ?c ?k; (case a => k_is); (case l => k_is); (case c => k_is); (case k => k_is)
    have d7 := by refine' MP.df_mk (mg := mg) (x := "sure_wide") (st := K22.st_sure_wide) (ps := ["wide"]) KX G (fun _ _ _ _ _ _ us hl => match us, hl with | [_], _ => rfl) ?a ?l ?c ?k; (case a => k_is); (case l => k_is); (case c => k_is); (case k => k_is)
    have d8 := by refine' MP.df_mk (mg := mg) (x := "is_exchange") (st := K22.st_is_exchange) (ps := ["wide", "thing"]) KX G (fun _ _ _ _ _ _ us hl => match us, hl with | [_, _], _ => rfl) ?a ?l ?c ?k; (case a => k_is); (case l => k_is); (case c => k_is); (case k => k_is)
    have d9 := by refine' MP.df_mk (mg := mg) (x := "sure_exchange") (st := K22.st_sure_exchange) (ps := ["wide", "exchange"]) KX G (fun _ _ _ _ _ _ us hl => match us, hl with | [_, _], _ => rfl) ?a ?l ?c ?k; (case a => k_is); (case l => k_is); (case c => k_is); (case k => k_is)
    have d10 := by refine' MP.df_mk (mg := mg) (x := "lowest") (st := K22.st_lowest) (ps := ["over", "under"]) KX G (fun _ _ _ _ _ _ us hl => match us, hl with | [_, _], _ => rfl) ?a ?l ?c ?k; (case a => k_is); (case l => k_is); (case c => k_is); (case k => k_is)
    have d11 := by refine' MP.df_mk (mg := mg) (x := "is_fraction") (st := K22.st_is_fraction) (ps := ["thing"]) KX G (fun _ _ _ _ _ _ us hl => match us, hl with | [_], _ => rfl) ?a ?l ?c ?k; (case a => k_is); (case l => k_is); (case c => k_is); (case k => k_is)
    have d12 := by refine' MP.df_mk (mg := mg) (x := "sure_fraction") (st := K22.st_sure_fraction) (ps := ["thing"]) KX G (fun _ _ _ _ _ _ us hl => match us, hl with | [_], _ => rfl) ?a ?l ?c ?k; (case a => k_is); (case l => k_is); (case c => k_is); (case k => k_is)
    have d13 := by refine' MP.df_mk (mg := mg) (x := "plus") (st := K22.st_plus) (ps := ["one", "other"]) KX G (fun _ _ _ _ _ _ us hl => match us, hl with | [_, _], _ => rfl) ?a ?l ?c ?k; (case a => k_is); (case l => k_is); (case c => k_is); (case k => k_is)
    have d14 := by refine' MP.df_mk (mg := mg) (x := "times") (st := K22.st_times) (ps := ["one", "other"]) KX G (fun _ _ _ _ _ _ us hl => match us, hl with | [_, _], _ => rfl) ?a ?l ?c ?k; (case a => k_is); (case l => k_is); (case c => k_is); (case k => k_is)
    have d15 := by refine' MP.df_mk (mg := mg) (x := "power") (st := K22.st_power) (ps := ["one", "many"]) KX G (fun _ _ _ _ _ _ us hl => match us, hl with | [_, _], _ => rfl) ?a ?l ?c ?k; (case a => k_is); (case l => k_is); (case c => k_is); (case k => k_is)
    have d16 := by refine' MP.df_mk (mg := mg) (x := "powers_order") (st := K22.st_powers_order) (ps := ["powers"]) KX G (fun _ _ _ _ _ _ us hl => match us, hl with | [_], _ => rfl) ?a ?l ?c ?k; (case a => k_is); (case l => k_is); (case c => k_is); (case k => k_is)
    have d17 := by refine' MP.df_mk (mg := mg) (x := "is_powers") (st := K22.st_is_powers) (ps := ["wide", "thing"]) KX G (fun _ _ _ _ _ _ us hl => match us, hl with | [_, _], _ => rfl) ?a ?l ?c ?k; (case a => k_is); (case l => k_is); (case c => k_is); (case k => k_is)
    have d18 := by refine' MP.df_mk (mg := mg) (x := "is_term") (st := K22.st_is_term) (ps := ["wide", "thing"]) KX G (fun _ _ _ _ _ _ us hl => match us, hl with | [_, _], _ => rfl) ?a ?l ?c ?k; (case a => k_is); (case l => k_is); (case c => k_is); (case k => k_is)
    have d19 := by refine' MP.df_mk (mg := mg) (x := "is_polynomial") (st := K22.st_is_polynomial) (ps := ["wide", "thing"]) KX G (fun _ _ _ _ _ _ us hl => match us, hl with | [_, _], _ => rfl) ?a ?l ?c ?k; (case a => k_is); (case l => k_is); (case c => k_is); (case k => k_is)
    have d20 := by refine' MP.df_mk (mg := mg) (x := "sure_polynomial") (st := K22.st_sure_polynomial) (ps := ["wide", "polynomial"]) KX G (fun _ _ _ _ _ _ us hl => match us, hl with | [_, _], _ => rfl) ?a ?l ?c ?k; (case a => k_is); (case l => k_is); (case c => k_is); (case k => k_is)
    have d21 := by refine' MP.df_mk (mg := mg) (x := "sure_polynomials") (st := K22.st_sure_polynomials) (ps := ["wide", "polynomials"]) KX G (fun _ _ _ _ _ _ us hl => match us, hl with | [_, _], _ => rfl) ?a ?l ?c ?k; (case a => k_is); (case l => k_is); (case c => k_is); (case k => k_is)
    have d22 := by refine' MP.df_mk (mg := mg) (x := "added_to") (st := K22.st_added_to) (ps := ["found", "powers", "share"]) KX G (fun _ _ _ _ _ _ us hl => match us, hl with | [_, _, _], _ => rfl) ?a ?l ?c ?k; (case a => k_is); (case l => k_is); (case c => k_is); (case k => k_is)
    have d23 := by refine' MP.df_mk (mg := mg) (x := "made") (st := K22.st_made) (ps := ["found"]) KX G (fun _ _ _ _ _ _ us hl => match us, hl with | [_], _ => rfl) ?a ?l ?c ?k; (case a => k_is); (case l => k_is); (case c => k_is); (case k => k_is)
    have d24 := by refine' MP.df_mk (mg := mg) (x := "summed") (st := K22.st_summed) (ps := ["some"]) KX G (fun _ _ _ _ _ _ us hl => match us, hl with | [_], _ => rfl) ?a ?l ?c ?k; (case a => k_is); (case l => k_is); (case c => k_is); (case k => k_is)
    have d25 := by refine' MP.df_mk (mg := mg) (x := "product") (st := K22.st_product) (ps := ["one", "other"]) KX G (fun _ _ _ _ _ _ us hl => match us, hl with | [_, _], _ => rfl) ?a ?l ?c ?k; (case a => k_is); (case l => k_is); (case c => k_is); (case k => k_is)
    have d26 := by refine' MP.df_mk (mg := mg) (x := "multiplied") (st := K22.st_multiplied) (ps := ["wide", "some"]) KX G (fun _ _ _ _ _ _ us hl => match us, hl with | [_, _], _ => rfl) ?a ?l ?c ?k; (case a => k_is); (case l => k_is); (case c => k_is); (case k => k_is)
    have d27 := by refine' MP.df_mk (mg := mg) (x := "number") (st := K22.st_number) (ps := ["wide", "share"]) KX G (fun _ _ _ _ _ _ us hl => match us, hl with | [_, _], _ => rfl) ?a ?l ?c ?k; (case a => k_is); (case l => k_is); (case c => k_is); (case k => k_is)
    have d28 := by refine' MP.df_mk (mg := mg) (x := "letter") (st := K22.st_letter) (ps := ["wide", "place"]) KX G (fun _ _ _ _ _ _ us hl => match us, hl with | [_, _], _ => rfl) ?a ?l ?c ?k; (case a => k_is); (case l => k_is); (case c => k_is); (case k => k_is)
    have d29 := by refine' MP.df_mk (mg := mg) (x := "number_sum") (st := K22.st_number_sum) (ps := ["wide", "fraction"]) KX G (fun _ _ _ _ _ _ us hl => match us, hl with | [_, _], _ => rfl) ?a ?l ?c ?k; (case a => k_is); (case l => k_is); (case c => k_is); (case k => k_is)
    have d30 := by refine' MP.df_mk (mg := mg) (x := "letter_sum") (st := K22.st_letter_sum) (ps := ["wide", "place"]) KX G (fun _ _ _ _ _ _ us hl => match us, hl with | [_, _], _ => rfl) ?a ?l ?c ?k; (case a => k_is); (case l => k_is); (case c => k_is); (case k => k_is)
    have d31 := by refine' MP.df_mk (mg := mg) (x := "sum_plus") (st := K22.st_sum_plus) (ps := ["wide", "one", "other"]) KX G (fun _ _ _ _ _ _ us hl => match us, hl with | [_, _, _], _ => rfl) ?a ?l ?c ?k; (case a => k_is); (case l => k_is); (case c => k_is); (case k => k_is)
    have d32 := by refine' MP.df_mk (mg := mg) (x := "sum_times") (st := K22.st_sum_times) (ps := ["wide", "one", "other"]) KX G (fun _ _ _ _ _ _ us hl => match us, hl with | [_, _, _], _ => rfl) ?a ?l ?c ?k; (case a => k_is); (case l => k_is); (case c => k_is); (case k => k_is)
    have d33 := by refine' MP.df_mk (mg := mg) (x := "top_degree") (st := K22.st_top_degree) (ps := ["own"]) KX G (fun _ _ _ _ _ _ us hl => match us, hl with | [_], _ => rfl) ?a ?l ?c ?k; (case a => k_is); (case l => k_is); (case c => k_is); (case k => k_is)
    have d34 := by refine' MP.df_mk (mg := mg) (x := "degree_of") (st := K22.st_degree_of) (ps := ["wide", "polynomial"]) KX G (fun _ _ _ _ _ _ us hl => match us, hl with | [_, _], _ => rfl) ?a ?l ?c ?k; (case a => k_is); (case l => k_is); (case c => k_is); (case k => k_is)
    have d35 := by refine' MP.df_mk (mg := mg) (x := "is_point") (st := K22.st_is_point) (ps := ["wide", "thing"]) KX G (fun _ _ _ _ _ _ us hl => match us, hl with | [_, _], _ => rfl) ?a ?l ?c ?k; (case a => k_is); (case l => k_is); (case c => k_is); (case k => k_is)
    have d36 := by refine' MP.df_mk (mg := mg) (x := "sure_point") (st := K22.st_sure_point) (ps := ["wide", "point"]) KX G (fun _ _ _ _ _ _ us hl => match us, hl with | [_, _], _ => rfl) ?a ?l ?c ?k; (case a => k_is); (case l => k_is); (case c => k_is); (case k => k_is)
    have d37 := by refine' MP.df_mk (mg := mg) (x := "value_of") (st := K22.st_value_of) (ps := ["own", "point"]) KX G (fun _ _ _ _ _ _ us hl => match us, hl with | [_, _], _ => rfl) ?a ?l ?c ?k; (case a => k_is); (case l => k_is); (case c => k_is); (case k => k_is)
    have d38 := by refine' MP.df_mk (mg := mg) (x := "value_at") (st := K22.st_value_at) (ps := ["wide", "polynomial", "point"]) KX G (fun _ _ _ _ _ _ us hl => match us, hl with | [_, _, _], _ => rfl) ?a ?l ?c ?k; (case a => k_is); (case l => k_is); (case c => k_is); (case k => k_is)
    have d39 := by refine' MP.df_mk (mg := mg) (x := "put_for") (st := K22.st_put_for) (ps := ["wide", "own", "some"]) KX G (fun _ _ _ _ _ _ us hl => match us, hl with | [_, _, _], _ => rfl) ?a ?l ?c ?k; (case a => k_is); (case l => k_is); (case c => k_is); (case k => k_is)
    have d40 := by refine' MP.df_mk (mg := mg) (x := "put_in") (st := K22.st_put_in) (ps := ["wide", "polynomial", "other_wide", "polynomials"]) KX G (fun _ _ _ _ _ _ us hl => match us, hl with | [_, _, _, _], _ => rfl) ?a ?l ?c ?k; (case a => k_is); (case l => k_is); (case c => k_is); (case k => k_is)
    have d41 := by refine' MP.df_mk (mg := mg) (x := "lead_powers") (st := K22.st_lead_powers) (ps := ["exchange", "powers"]) KX G (fun _ _ _ _ _ _ us hl => match us, hl with | [_, _], _ => rfl) ?a ?l ?c ?k; (case a => k_is); (case l => k_is); (case c => k_is); (case k => k_is)
    have d42 := by refine' MP.df_mk (mg := mg) (x := "lead") (st := K22.st_lead) (ps := ["exchange", "own"]) KX G (fun _ _ _ _ _ _ us hl => match us, hl with | [_, _], _ => rfl) ?a ?l ?c ?k; (case a => k_is); (case l => k_is); (case c => k_is); (case k => k_is)
    have d43 := by refine' MP.df_mk (mg := mg) (x := "led") (st := K22.st_led) (ps := ["wide", "polynomial", "exchange"]) KX G (fun _ _ _ _ _ _ us hl => match us, hl with | [_, _, _], _ => rfl) ?a ?l ?c ?k; (case a => k_is); (case l => k_is); (case c => k_is); (case k => k_is)
    have d44 := by refine' MP.df_mk (mg := mg) (x := "_law_box") (st := K22.st__law_box) (ps := ["script", "k"]) KX G (fun _ _ _ _ _ _ us hl => match us, hl with | [_, _], _ => rfl) ?a ?l ?c ?k; (case a => k_is); (case l => k_is); (case c => k_is); (case k => k_is)
    have d45 := by refine' MP.df_mk (mg := mg) (x := "_law_take") (st := K22.st__law_take) (ps := ["box", "size_so"]) KX G (fun _ _ _ _ _ _ us hl => match us, hl with | [_, _], _ => rfl) ?a ?l ?c ?k; (case a => k_is); (case l => k_is); (case c => k_is); (case k => k_is)
    have d46 := by refine' MP.df_mk (mg := mg) (x := "_law_cells") (st := K22.st__law_cells) (ps := ["script", "top_so"]) KX G (fun _ _ _ _ _ _ us hl => match us, hl with | [_, _], _ => rfl) ?a ?l ?c ?k; (case a => k_is); (case l => k_is); (case c => k_is); (case k => k_is)
    have d47 := by refine' MP.df_mk (mg := mg) (x := "_law_same") (st := K22.st__law_same) (ps := ["got", "due"]) KX G (fun _ _ _ _ _ _ us hl => match us, hl with | [_, _], _ => rfl) ?a ?l ?c ?k; (case a => k_is); (case l => k_is); (case c => k_is); (case k => k_is)
    have d48 := by refine' MP.df_mk (mg := mg) (x := "_law_of") (st := K22.st__law_of) (ps := ["box", "pool_so"]) KX G (fun _ _ _ _ _ _ us hl => match us, hl with | [_, _], _ => rfl) ?a ?l ?c ?k; (case a => k_is); (case l => k_is); (case c => k_is); (case k => k_is)
    have d49 := by refine' MP.df_mk (mg := mg) (x := "_law_pick") (st := K22.st__law_pick) (ps := ["box", "goods_so", "count_so"]) KX G (fun _ _ _ _ _ _ us hl => match us, hl with | [_, _, _], _ => rfl) ?a ?l ?c ?k; (case a => k_is); (case l => k_is); (case c => k_is); (case k => k_is)
    have d50 := by refine' MP.df_mk (mg := mg) (x := "_law_low") (st := K22.st__law_low) (ps := ["over_so", "under"]) KX G (fun _ _ _ _ _ _ us hl => match us, hl with | [_, _], _ => rfl) ?a ?l ?c ?k; (case a => k_is); (case l => k_is); (case c => k_is); (case k => k_is)
    have d51 := by refine' MP.df_mk (mg := mg) (x := "_law_added") (st := K22.st__law_added) (ps := ["one", "other"]) KX G (fun _ _ _ _ _ _ us hl => match us, hl with | [_, _], _ => rfl) ?a ?l ?c ?k; (case a => k_is); (case l => k_is); (case c => k_is); (case k => k_is)
    have d52 := by refine' MP.df_mk (mg := mg) (x := "_law_multiplied") (st := K22.st__law_multiplied) (ps := ["one", "other"]) KX G (fun _ _ _ _ _ _ us hl => match us, hl with | [_, _], _ => rfl) ?a ?l ?c ?k; (case a => k_is); (case l => k_is); (case c => k_is); (case k => k_is)
    have d53 := by refine' MP.df_mk (mg := mg) (x := "_law_share") (st := K22.st__law_share) (ps := ["box", "before"]) KX G (fun _ _ _ _ _ _ us hl => match us, hl with | [_, _], _ => rfl) ?a ?l ?c ?k; (case a => k_is); (case l => k_is); (case c => k_is); (case k => k_is)
    have d54 := by refine' MP.df_mk (mg := mg) (x := "_law_order") (st := K22.st__law_order) (ps := ["powers"]) KX G (fun _ _ _ _ _ _ us hl => match us, hl with | [_], _ => rfl) ?a ?l ?c ?k; (case a => k_is); (case l => k_is); (case c => k_is); (case k => k_is)
    have d55 := by refine' MP.df_mk (mg := mg) (x := "_law_made") (st := K22.st__law_made) (ps := ["found"]) KX G (fun _ _ _ _ _ _ us hl => match us, hl with | [_], _ => rfl) ?a ?l ?c ?k; (case a => k_is); (case l => k_is); (case c => k_is); (case k => k_is)
    have d56 := by refine' MP.df_mk (mg := mg) (x := "_law_put") (st := K22.st__law_put) (ps := ["found", "powers", "share"]) KX G (fun _ _ _ _ _ _ us hl => match us, hl with | [_, _, _], _ => rfl) ?a ?l ?c ?k; (case a => k_is); (case l => k_is); (case c => k_is); (case k => k_is)
    have d57 := by refine' MP.df_mk (mg := mg) (x := "_law_sum") (st := K22.st__law_sum) (ps := ["some"]) KX G (fun _ _ _ _ _ _ us hl => match us, hl with | [_], _ => rfl) ?a ?l ?c ?k; (case a => k_is); (case l => k_is); (case c => k_is); (case k => k_is)
    have d58 := by refine' MP.df_mk (mg := mg) (x := "_law_times") (st := K22.st__law_times) (ps := ["one", "other"]) KX G (fun _ _ _ _ _ _ us hl => match us, hl with | [_, _], _ => rfl) ?a ?l ?c ?k; (case a => k_is); (case l => k_is); (case c => k_is); (case k => k_is)
    have d59 := by refine' MP.df_mk (mg := mg) (x := "_law_at") (st := K22.st__law_at) (ps := ["own", "point"]) KX G (fun _ _ _ _ _ _ us hl => match us, hl with | [_, _], _ => rfl) ?a ?l ?c ?k; (case a => k_is); (case l => k_is); (case c => k_is); (case k => k_is)
    have d60 := by refine' MP.df_mk (mg := mg) (x := "_law_sum_drawn") (st := K22.st__law_sum_drawn) (ps := ["box", "wide", "most", "high"]) KX G (fun _ _ _ _ _ _ us hl => match us, hl with | [_, _, _, _], _ => rfl) ?a ?l ?c ?k; (case a => k_is); (case l => k_is); (case c => k_is); (case k => k_is)
    have d61 := by refine' MP.df_mk (mg := mg) (x := "_law_exchange") (st := K22.st__law_exchange) (ps := ["box", "wide"]) KX G (fun _ _ _ _ _ _ us hl => match us, hl with | [_, _], _ => rfl) ?a ?l ?c ?k; (case a => k_is); (case l => k_is); (case c => k_is); (case k => k_is)
    have d62 := by refine' MP.df_mk (mg := mg) (x := "_law_right") (st := K22.st__law_right) (ps := ["box"]) KX G (fun _ _ _ _ _ _ us hl => match us, hl with | [_], _ => rfl) ?a ?l ?c ?k; (case a => k_is); (case l => k_is); (case c => k_is); (case k => k_is)
    have d63 := by refine' MP.df_mk (mg := mg) (x := "_law_small") (st := K22.st__law_small) (ps := ["own"]) KX G (fun _ _ _ _ _ _ us hl => match us, hl with | [_], _ => rfl) ?a ?l ?c ?k; (case a => k_is); (case l => k_is); (case c => k_is); (case k => k_is)
    have d64 := by refine' MP.df_mk (mg := mg) (x := "law") (st := K22.st_law) (ps := ["script"]) KX G (fun _ _ _ _ _ _ us hl => match us, hl with | [_], _ => rfl) ?a ?l ?c ?k; (case a => k_is); (case l => k_is); (case c => k_is); (case k => k_is)
    exact K22.law_run ⟨z_abs, z_all, z_bool, z_enumerate, z_gcd, z_int, z_isinstance, z_len, z_list, z_max, z_min, z_range, z_set, z_sorted, z_str, z_sum, z_tuple, z_zip, z_MOST_TERMS, z_MOST_WIDE, z_ONE, z_ZERO⟩ ⟨d0, d1, d2, d3, d4, d5, d6, d7, d8, d9, d10, d11, d12, d13, d14, d15, d16, d17, d18, d19, d20, d21, d22, d23, d24, d25, d26, d27, d28, d29, d30, d31, d32, d33, d34, d35, d36, d37, d38, d39, d40, d41, d42, d43, d44, d45, d46, d47, d48, d49, d50, d51, d52, d53, d54, d55, d56, d57, d58, d59, d60, d61, d62, d63, d64⟩ hmg K22.plain
