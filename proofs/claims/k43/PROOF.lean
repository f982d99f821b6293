import PyProof.Rows.All
import Wide.All
import OpenK.AllK
import Wide.FinOn
import KE.SortData
import HandS.ForMost
import HandS.Exc
import HandS.ExcOwn
import HandS.WordsExc
import HandS.CallSlots
import HandS.Flow
import HandS.Walk
import HandS.Zip
import HandS.Rev
import HandS.Comp
import HandS.TupAny
import HandS.Wide
import HandS.Style
import HandS.Deep
import HandS.IsInst
import KE.LtData
import HandS.Text
import HandS.Dict
import HandS.List
import HandS.Small
import HandS.Star
import HandS.Conv
import HandS.SortInts
import HandS.RevTup
import PyProof.ZipIter
import KE.KDictZip
import HandS.ListItems
import HandS.DictComp
import HandS.TryOnly
import HandS.Defaults
import HandS.HeadHook1
import HandS.HeadHook2
import KE.KStateDown
import HandS.Head0
import HandS.Head1
import HandS.Head2
import HandS.HeadEnd
import PySem.Challenge.RW_borderward_k43_whole_long_stays
set_option Elab.async false
set_option linter.all false
/-! DC: what a def computes, over plain data: values, slots, continuations. No heap here. -/
namespace DL
open PySem
abbrev D := PyData
/-- what a slot holds: data that no one changes; a list or dict of this def alone; one of the caller's that may be changed here -/
inductive EV where
  | sh (d : D) | ow (d : D) | io (d : D)
def EV.d : EV → D
  | .sh d => d
  | .ow d => d
  | .io d => d
def EV.mine : EV → Bool
  | .sh _ => false
  | _ => true
/-- what an expression gives: data; a new list or dict; what stands in slot i -/
inductive RV where
  | sh (d : D) | ow (d : D) | vr (i : Nat)
abbrev Env := List (Option EV)
structure Exn where
  nm : Str
  pay : D
/-- fin: what the parameters that may be changed hold at the end -/
inductive Out where
  | ret (v : EV) (fin : List (Option D))
  | exc (x : Exn) (fin : List (Option D))
/-- none: nothing is claimed -/
abbrev Res := Option Out
abbrev KV := RV → Env → Res
abbrev KX := Exn → Env → Res
abbrev DE := Env → KV → KX → Res
abbrev KL := List RV → Env → Res
abbrev DA := Env → KL → KX → Res
structure Conts where
  nx : Env → Res
  rt : EV → Env → Res
  bk : Env → Res
  ct : Env → Res
  ex : KX
abbrev DS := Env → Conts → Res
abbrev DDef := List EV → Res
def slot (ρ : Env) (i : Nat) : Option EV := match ρ[i]? with
  | some (some e) => some e
  | _ => none
/-- the data that a value stands for, read only -/
def peek (ρ : Env) : RV → Option D
  | .sh d => some d
  | .ow d => some d
  | .vr i => (slot ρ i).map EV.d
/-- the value as data that no one changes from now on -/
def freeze (ρ : Env) (r : RV) (k : D → Env → Res) : Res := match r with
  | .sh d => k d ρ
  | .ow d => k d ρ
  | .vr i => match slot ρ i with
    | some (.sh d) => k d ρ
    | some (.ow d) => k d (ρ.set i (some (.sh d)))
    | _ => none
/-- the value given out -/
def give (ρ : Env) (r : RV) (k : EV → Env → Res) : Res := match r with
  | .sh d => k (.sh d) ρ
  | .ow d => k (.ow d) ρ
  | .vr i => match slot ρ i with
    | some (.sh d) => k (.sh d) ρ
    | some (.ow d) => k (.ow d) (ρ.set i none)
    | _ => none
def RV.w : RV → RV
  | .ow d => .sh d
  | r => r
def opt {α : Type} (o : Option α) (k : α → Res) : Res := match o with
  | some a => k a
  | none => none
def peeks (ρ : Env) : List RV → Option (List D)
  | [] => some []
  | r :: rs => match peek ρ r, peeks ρ rs with
    | some d, some ds => some (d :: ds)
    | _, _ => none
def freezes (ρ : Env) : List RV → (List D → Env → Res) → Res
  | [], k => k [] ρ
  | r :: rs, k => freeze ρ r fun d ρ1 => freezes ρ1 rs fun ds ρ2 => k (d :: ds) ρ2
/-! ### expressions -/
def eC (d : D) : DE := fun ρ k _ => k (.sh d) ρ
def eVar (i : Nat) : DE := fun ρ k _ => match slot ρ i with
  | some _ => k (.vr i) ρ
  | none => none
/-- of two values -/
def eOp (f : D → D → Option RV) (a b : DE) : DE := fun ρ k h => a ρ (fun x ρ1 => b ρ1 (fun y ρ2 => match peek ρ2 x.w, peek ρ2 y.w with
  | some p, some q => opt (f p q) fun r => k r ρ2
  | _, _ => none) h) h
def eUn (f : D → Option RV) (a : DE) : DE := fun ρ k h => a ρ (fun x ρ1 => opt (peek ρ1 x.w) fun p => opt (f p) fun r => k r ρ1) h
def aNil : DA := fun ρ k _ => k [] ρ
def aCons (a : DE) (as : DA) : DA := fun ρ k h => a ρ (fun x ρ1 => as ρ1 (fun xs ρ2 => k (x.w :: xs) ρ2) h) h
/-- a built-in's call, by its arguments' data -/
def eFn (f : List D → Option RV) (as : DA) : DE := fun ρ k h => as ρ (fun xs ρ1 => opt (peeks ρ1 xs) fun ds => opt (f ds) fun r => k r ρ1) h
/-- a display -/
def sizeLim : Nat := 16777216
def eLst (as : DA) : DE := fun ρ k h => as ρ (fun xs ρ1 => freezes ρ1 xs fun ds ρ2 => if ds.length ≤ sizeLim then k (.ow (.list ds)) ρ2 else none) h
def eTup (as : DA) : DE := fun ρ k h => as ρ (fun xs ρ1 => freezes ρ1 xs fun ds ρ2 => if ds.length ≤ sizeLim then k (.sh (.tuple ds)) ρ2 else none) h
/-- the truth of data; of a dict nothing is said -/
def truth? : D → Option Bool
  | .none => some false
  | .bool b => some b
  | .int i => some (!decide (i = 0))
  | .str x => if x.cps.size ≤ sizeLim then some (!decide (x.cps.size = 0)) else none
  | .list xs => some (!xs.isEmpty)
  | .tuple xs => some (!xs.isEmpty)
  | .dict _ => none
/-- tests -/
abbrev KB := Bool → Env → Res
abbrev DB := Env → KB → KX → Res
def cVal (a : DE) : DB := fun ρ k h => a ρ (fun x ρ1 => opt ((peek ρ1 x.w).bind truth?) fun p => k p ρ1) h
def cAnd (a b : DB) : DB := fun ρ k h => a ρ (fun p ρ1 => if p = true then b ρ1 k h else k false ρ1) h
def cOr (a b : DB) : DB := fun ρ k h => a ρ (fun p ρ1 => if p = true then k true ρ1 else b ρ1 k h) h
def cNot (a : DB) : DB := fun ρ k h => a ρ (fun p ρ1 => k (!p) ρ1) h
def eIf (c : DB) (a b : DE) : DE := fun ρ k h => c ρ (fun p ρ1 => if p = true then a ρ1 k h else b ρ1 k h) h
/-- and, or, not as values -/
def eAnd (a b : DE) : DE := fun ρ k h => a ρ (fun x ρ1 => opt ((peek ρ1 x.w).bind truth?) fun p => if p = true then b ρ1 k h else k x.w ρ1) h
def eOr (a b : DE) : DE := fun ρ k h => a ρ (fun x ρ1 => opt ((peek ρ1 x.w).bind truth?) fun p => if p = true then k x.w ρ1 else b ρ1 k h) h
def eNot (a : DE) : DE := fun ρ k h => a ρ (fun x ρ1 => opt ((peek ρ1 x.w).bind truth?) fun p => k (.sh (.bool (!p))) ρ1) h
/-- comparisons: of two, of three in a row -/
def cCmp (f : D → D → Option Bool) (a b : DE) : DB := fun ρ k h => a ρ (fun x ρ1 => b ρ1 (fun y ρ2 => match peek ρ2 x.w, peek ρ2 y.w with
  | some p, some q => opt (f p q) fun t => k t ρ2
  | _, _ => none) h) h
def cChain (f g : D → D → Option Bool) (a b c : DE) : DB := fun ρ k h => a ρ (fun x ρ1 => b ρ1 (fun y ρ2 => match peek ρ2 x.w, peek ρ2 y.w with
  | some p, some q => opt (f p q) fun t => if t = true then c ρ2 (fun z ρ3 => match peek ρ3 y.w, peek ρ3 z.w with
      | some q, some s => opt (g q s) fun t => k t ρ3
      | _, _ => none) h else k false ρ2
  | _, _ => none) h) h
/-- a test as a value -/
def eB (c : DB) : DE := fun ρ k h => c ρ (fun t ρ1 => k (.sh (.bool t)) ρ1) h
/-! ### calls of one's own defs -/
mutual
/-- data without a list or dict within -/
def still : D → Bool
  | .list _ => false
  | .dict _ => false
  | .tuple xs => stills xs
  | _ => true
def stills : List D → Bool
  | [] => true
  | x :: xs => still x && stills xs
end
/-- data whose parts have no list or dict within -/
def stillIn : D → Bool
  | .list xs => stills xs
  | .dict kvs => kvs.all fun p => still p.1 && still p.2
  | d => still d
def EV.safe : EV → Bool
  | .sh d => still d
  | .ow d => stillIn d
  | .io _ => false
/-- an argument, for a parameter that is changed (io) or not -/
def argOf (ρ : Env) (io : Bool) : RV → Option EV
  | .sh d => if io = true then none else some (.sh d)
  | .ow d => if io = true then none else some (.sh d)
  | .vr i => match slot ρ i with
    | some (.sh d) => if io = true then none else some (.sh d)
    | some e => if io = true then some (.io e.d) else some (.sh e.d)
    | none => none
def argsOf (ρ : Env) : List Bool → List RV → Option (List EV)
  | [], [] => some []
  | b :: bs, r :: rs => match argOf ρ b r, argsOf ρ bs rs with
    | some e, some es => some (e :: es)
    | _, _ => none
  | _, _ => none
/-- the slots of the arguments that are changed; of those of one's own that are lent -/
def ioSlots : List Bool → List RV → List Nat
  | true :: bs, .vr i :: rs => i :: ioSlots bs rs
  | _ :: bs, _ :: rs => ioSlots bs rs
  | _, _ => []
def lent (ρ : Env) : List Bool → List RV → List Nat
  | false :: bs, .vr i :: rs => match slot ρ i with
    | some e => if e.mine = true then i :: lent ρ bs rs else lent ρ bs rs
    | none => lent ρ bs rs
  | _ :: bs, _ :: rs => lent ρ bs rs
  | _, _ => []
def EV.put : EV → D → EV
  | .sh _, d => .sh d
  | .ow _, d => .ow d
  | .io _, d => .io d
def put1 (ρ : Env) (i : Nat) (d : D) : Env := match slot ρ i with
  | some e => ρ.set i (some (e.put d))
  | none => ρ
def putBack (ρ : Env) : List Bool → List RV → List (Option D) → Env
  | b :: bs, r :: rs, f :: fs => putBack (match b, r, f with
    | true, .vr i, some d => put1 ρ i d
    | _, _, _ => ρ) bs rs fs
  | _, _, _ => ρ
def apart : List Nat → Bool
  | [] => true
  | i :: is => !is.contains i && apart is
def stillO : Option D → Bool
  | some d => stillIn d
  | none => true
/-- what stands behind a call -/
def behind (ρ : Env) (bs : List Bool) (rs : List RV) (ln : List Nat) (o : Out) (k : KV) (h : KX) : Res := match o with
  | .ret v fin => if ln.isEmpty || (v.safe && fin.all stillO) then
      (match v with
        | .sh d => k (.sh d) (putBack ρ bs rs fin)
        | .ow d => k (.ow d) (putBack ρ bs rs fin)
        | .io _ => none)
    else none
  | .exc x fin => if ln.isEmpty || fin.all stillO then h x (putBack ρ bs rs fin) else none
def eCall (f : DDef) (bs : List Bool) (as : DA) : DE := fun ρ k h => as ρ (fun xs ρ1 =>
  if apart (ioSlots bs xs) && (ioSlots bs xs).all (fun i => !(lent ρ1 bs xs).contains i) then
    opt (argsOf ρ1 bs xs) fun es => opt (f es) fun o => behind ρ1 bs xs (lent ρ1 bs xs) o k h
  else none) h
/-! ### statements -/
def sNil : DS := fun ρ C => C.nx ρ
def sSeq (a b : DS) : DS := fun ρ C => a ρ { C with nx := fun ρ1 => b ρ1 C }
/-- a slot's old value may be thrown away -/
def loose (ρ : Env) (i : Nat) : Bool := match slot ρ i with
  | some (.io _) => false
  | _ => decide (i < ρ.length)
def put (ρ : Env) (i : Nat) (e : EV) (k : Env → Res) : Res := if loose ρ i then k (ρ.set i (some e)) else none
def keep (ρ : Env) (r : RV) (k : EV → Env → Res) : Res := match r with
  | .sh d => k (.sh d) ρ
  | .ow d => k (.ow d) ρ
  | .vr _ => freeze ρ r fun d ρ1 => k (.sh d) ρ1
def sSet (i : Nat) (e : DE) : DS := fun ρ C => e ρ (fun r ρ1 => keep ρ1 r fun v ρ2 => put ρ2 i v C.nx) C.ex
def sExpr (e : DE) : DS := fun ρ C => e ρ (fun _ ρ1 => C.nx ρ1) C.ex
def sRet (e : DE) : DS := fun ρ C => e ρ (fun r ρ1 => give ρ1 r C.rt) C.ex
def sRetN : DS := fun ρ C => C.rt (.sh .none) ρ
def sIf (c : DB) (a b : DS) : DS := fun ρ C => c ρ (fun p ρ1 => if p = true then a ρ1 C else b ρ1 C) C.ex
def sPass : DS := fun ρ C => C.nx ρ
def sBreak : DS := fun ρ C => C.bk ρ
def sCont : DS := fun ρ C => C.ct ρ
/-- nothing is claimed of it -/
def sNo : DS := fun _ _ => none
def eNo : DE := fun _ _ _ => none
/-- targets, given data that no one changes -/
abbrev DT := D → Env → (Env → Res) → Res
def tName (i : Nat) : DT := fun d ρ k => put ρ i (.sh d) k
abbrev DTs := List D → Env → (Env → Res) → Res
def tsNil : DTs := fun ds ρ k => match ds with
  | [] => k ρ
  | _ => none
def tsCons (t : DT) (ts : DTs) : DTs := fun ds ρ k => match ds with
  | d :: r => t d ρ fun ρ1 => ts r ρ1 k
  | [] => none
def itemsOf : D → Option (List D)
  | .list xs => some xs
  | .tuple xs => some xs
  | _ => none
def tTup (ts : DTs) : DT := fun d ρ k => match d with
  | .tuple xs => ts xs ρ k
  | _ => none
def tSeq (ts : DTs) : DT := fun d ρ k => match d with
  | .tuple xs => ts xs ρ k
  | .list xs => ts xs ρ k
  | _ => none
def sAsg (t : DT) (e : DE) : DS := fun ρ C => e ρ (fun r ρ1 => freeze ρ1 r fun d ρ2 => t d ρ2 C.nx) C.ex
/-- a, b, .. = x, y, .. with names on the left -/
abbrev DKs := Env → (List EV → Env → Res) → KX → Res
def kNil : DKs := fun ρ k _ => k [] ρ
def kCons (a : DE) (as : DKs) : DKs := fun ρ k h => a ρ (fun x ρ1 => keep ρ1 x fun u ρ2 => as ρ2 (fun us ρ3 => k (u :: us) ρ3) h) h
def setAll {α : Type} : List α → List Nat → List α → List α
  | ρ, i :: is, u :: us => setAll (ρ.set i u) is us
  | ρ, _, _ => ρ
def sPar (is : List Nat) (as : DKs) : DS := fun ρ C => as ρ (fun us ρ1 => if is.all (loose ρ1) && apart is && decide (us.length = is.length) then C.nx (setAll ρ1 is (us.map some)) else none) C.ex
/-! ### loops -/
def loop (t : DT) (body : DS) (C : Conts) : List D → Env → Res
  | [], ρ => C.nx ρ
  | x :: xs, ρ => t x ρ fun ρ1 => body ρ1 { C with nx := loop t body C xs, ct := loop t body C xs, bk := C.nx }
/-- for t in (the items that it gives) -/
abbrev DI := Env → (List D → Env → Res) → KX → Res
def sFor (it : DI) (t : DT) (body : DS) : DS := fun ρ C => it ρ (fun xs ρ1 => loop t body C xs ρ1) C.ex
def signs (x : Str) : List D := x.cps.toList.map fun c => .str ⟨#[c]⟩
/-- a list that stands in the text's own heap (the script may), in the guise of a dict that no dict is -/
def klOf : List (D × D) → Option (List D)
  | [(.list xs, .none)] => some xs
  | _ => none
/-- the items of a list, a tuple, a text; of the script's list -/
def walked : D → Option (List D)
  | .dict kvs => klOf kvs
  | .list xs => some xs
  | .tuple xs => some xs
  | .str x => some (signs x)
  | _ => none
def iSeq (e : DE) : DI := fun ρ k h => e ρ (fun r ρ1 => freeze ρ1 r.w fun d ρ2 => opt (walked d) fun xs => k xs ρ2) h
def lim62 : Int := 4611686018427387904
def in62 (i : Int) : Bool := decide (-lim62 ≤ i) && decide (i < lim62)
def rangeD (i j : Int) : List D := (List.range (j - i).toNat).map fun m => .int (i + (m : Nat))
def rangeC (i c : Int) (n : Nat) : List D := (List.range n).map fun m => .int (i + (m : Nat) * c)
/-- range(..) that is walked -/
def ranged1 : List D → Option (List D)
  | [.int j] => if in62 j then some (rangeD 0 j) else none
  | _ => none
def ranged2 : List D → Option (List D)
  | [.int i, .int j] => if in62 i && in62 j then some (rangeD i j) else none
  | _ => none
def ranged3 : List D → Option (List D)
  | [.int i, .int j, .int c] => if in62 i && in62 j && decide (c = -1) then some (rangeC i (-1) (i - j).toNat) else none
  | _ => none
def iRange (f : List D → Option (List D)) (as : DA) : DI := fun ρ k h => as ρ (fun xs ρ1 => opt (peeks ρ1 xs) fun ds => opt (f ds) fun is => k is ρ1) h
def enumD (xs : List D) : List D := xs.mapIdx fun i x => .tuple [.int (i : Nat), x]
def zipD (xs ys : List D) : List D := List.zipWith (fun x y => .tuple [x, y]) xs ys
def iEnum (as : DA) : DI := fun ρ k h => as ρ (fun xs ρ1 => freezes ρ1 xs fun ds ρ2 => match ds with
  | [.list xs] => k (enumD xs) ρ2
  | _ => none) h
def iZip (as : DA) : DI := fun ρ k h => as ρ (fun xs ρ1 => freezes ρ1 xs fun ds ρ2 => match ds with
  | [.list xs, .list ys] => k (zipD xs ys) ρ2
  | [.tuple xs, .tuple ys] => k (zipD xs ys) ρ2
  | _ => none) h
def iRev (e : DE) : DI := fun ρ k h => e ρ (fun r ρ1 => freeze ρ1 r.w fun d ρ2 => match d with
  | .list xs => k xs.reverse ρ2
  | .tuple xs => k xs.reverse ρ2
  | _ => none) h
def whileN (c : DB) (body : DS) (C : Conts) : Nat → Env → Res
  | 0, _ => none
  | n + 1, ρ => c ρ (fun p ρ1 => if p = true then body ρ1 { C with nx := whileN c body C n, ct := whileN c body C n, bk := C.nx } else C.nx ρ1) C.ex
theorem fuel_is : ∃ n : Nat, n = 2 ^ 80 := ⟨_, rfl⟩
/-- not to be unfolded -/
noncomputable def fuel : Nat := Classical.choose fuel_is
theorem fuel_eq : fuel = 2 ^ 80 := Classical.choose_spec fuel_is
noncomputable def sWhile (c : DB) (body : DS) : DS := fun ρ C => whileN c body C fuel ρ
/-! ### comprehensions: the names of the block are empty ahead and behind -/
def wipe (ρ : Env) : List Nat → Env
  | [] => ρ
  | i :: is => (wipe ρ is).set i none
def bare (ρ : Env) : List Nat → Bool
  | [] => true
  | i :: is => (match slot ρ i with
    | some e => !e.mine
    | none => true) && bare ρ is
/-- the block's slots as they were -/
def back (ρ ρ1 : Env) : List Nat → Env
  | [] => ρ1
  | i :: is => (back ρ ρ1 is).set i (match ρ[i]? with
    | some o => o
    | none => none)
def noX : KX := fun _ _ => none
def lc (vs : List Nat) (t : DT) (c : DB) (e : DE) (k : List D → Env → Res) : List D → Env → List D → Res
  | [], ρ, acc => k acc ρ
  | x :: xs, ρ, acc => t x ρ fun ρ1 => c ρ1 (fun b ρ2 => if b = true then
      e ρ2 (fun r ρ3 => freeze ρ3 r.w fun d ρ4 => if bare ρ4 vs && decide (acc.length < sizeLim) then lc vs t c e k xs (wipe ρ4 vs) (acc ++ [d]) else none) noX
    else (if bare ρ2 vs then lc vs t c e k xs (wipe ρ2 vs) acc else none)) noX
def eLC (vs : List Nat) (it : DI) (t : DT) (c : DB) (e : DE) : DE := fun ρ k h => it ρ (fun xs ρ1 => if bare ρ1 vs then
    lc vs t c e (fun ds ρ2 => k (.ow (.list ds)) (back ρ1 ρ2 vs)) xs (wipe ρ1 vs) [] else none) h
def yes : DB := fun ρ k _ => k true ρ
/-- the inner walk of two: the names vs1 of its target are empty at each turn -/
def lcIn (vs1 : List Nat) (t : DT) (c : DB) (e : DE) (k : Env → List D → Res) : List D → Env → List D → Res
  | [], ρ, acc => k ρ acc
  | x :: xs, ρ, acc => t x ρ fun ρ1 => c ρ1 (fun b ρ2 => if b = true then
      e ρ2 (fun r ρ3 => freeze ρ3 r.w fun d ρ4 => if bare ρ4 vs1 && decide (acc.length < sizeLim) then lcIn vs1 t c e k xs (wipe ρ4 vs1) (acc ++ [d]) else none) noX
    else (if bare ρ2 vs1 then lcIn vs1 t c e k xs (wipe ρ2 vs1) acc else none)) noX
def lc2 (vs vs1 : List Nat) (t : DT) (c : DB) (it1 : DI) (t1 : DT) (c1 : DB) (e : DE) (k : List D → Env → Res) : List D → Env → List D → Res
  | [], ρ, acc => k acc ρ
  | x :: xs, ρ, acc => t x ρ fun ρ1 => c ρ1 (fun b ρ2 => if b = true then
      it1 ρ2 (fun ys ρ3 => if bare ρ3 vs1 then lcIn vs1 t1 c1 e (fun ρ4 acc => if bare ρ4 vs then lc2 vs vs1 t c it1 t1 c1 e k xs (wipe ρ4 vs) acc else none) ys (wipe ρ3 vs1) acc else none) noX
    else (if bare ρ2 vs then lc2 vs vs1 t c it1 t1 c1 e k xs (wipe ρ2 vs) acc else none)) noX
def eLC2 (vs vs1 : List Nat) (it : DI) (t : DT) (c : DB) (it1 : DI) (t1 : DT) (c1 : DB) (e : DE) : DE := fun ρ k h => it ρ (fun xs ρ1 => if bare ρ1 vs then
    lc2 vs vs1 t c it1 t1 c1 e (fun ds ρ2 => k (.ow (.list ds)) (back ρ1 ρ2 vs)) xs (wipe ρ1 vs) [] else none) h
/-! ### a def -/
def ios (n : Nat) (ρ : Env) : List (Option D) := (ρ.take n).map fun o => match o with
  | some (.io d) => some d
  | _ => none
def topC (n : Nat) : Conts where
  nx := fun ρ => some (.ret (.sh .none) (ios n ρ))
  rt := fun v ρ => some (.ret v (ios n ρ))
  bk := fun _ => none
  ct := fun _ => none
  ex := fun x ρ => some (.exc x (ios n ρ))
/-- a def of n names in all -/
def dDef (n : Nat) (body : DS) : DDef := fun es => if es.length ≤ n then body (es.map some ++ List.replicate (n - es.length) none) (topC es.length) else none
/-! ### operators, by plain data -/
def mulOk (i j : Int) : Bool := decide (-18446744073709551616 < i) && decide (i < 18446744073709551616) || decide (-18446744073709551616 < j) && decide (j < 18446744073709551616) || decide (i.natAbs.log2 + j.natAbs.log2 < 1000000)
def divOk (j : Int) : Bool := decide (0 < j) && decide (j.natAbs.log2 < 9000)
def powOk (i j : Int) : Bool := decide (0 ≤ j) && decide (j ≤ 1000000) && decide (i.natAbs < 18446744073709551616)
def addD : D → D → Option RV
  | .int i, .int j => some (.sh (.int (i + j)))
  | .str x, .str y => if x.cps.size + y.cps.size ≤ sizeLim then some (.sh (.str (x ++ y))) else none
  | .list xs, .list ys => if xs.length + ys.length ≤ sizeLim then some (.ow (.list (xs ++ ys))) else none
  | .tuple xs, .tuple ys => if xs.length + ys.length ≤ sizeLim then some (.sh (.tuple (xs ++ ys))) else none
  | _, _ => none
def subD : D → D → Option RV
  | .int i, .int j => some (.sh (.int (i - j)))
  | _, _ => none
def mulD : D → D → Option RV
  | .int i, .int j => if mulOk i j = true then some (.sh (.int (i * j))) else none
  | _, _ => none
def fdivD : D → D → Option RV
  | .int i, .int j => if divOk j = true then some (.sh (.int (i / j))) else none
  | _, _ => none
def modD : D → D → Option RV
  | .int i, .int j => if 0 < j then some (.sh (.int (i % j))) else none
  | _, _ => none
def powD : D → D → Option RV
  | .int i, .int j => if powOk i j = true then some (.sh (.int (i ^ j.toNat))) else none
  | _, _ => none
def negD : D → Option RV
  | .int i => some (.sh (.int (-i)))
  | _ => none
/-- comparisons -/
def eqD (x y : D) : Option Bool := if SeqAt.shaped x && SeqAt.shaped y then some (PyData.eqv x y) else none
def neD (x y : D) : Option Bool := if SeqAt.shaped x && SeqAt.shaped y then some (!PyData.eqv x y) else none
def ltD : D → D → Option Bool
  | .int i, .int j => some (decide (i < j))
  | .str x, .str y => some (decide (x.cps.toList < y.cps.toList))
  | .tuple xs, .tuple ys => if W.alike (.tuple xs) (.tuple ys) && SeqAt.shaped (.tuple xs) && SeqAt.shaped (.tuple ys) then some (W.dataLt (.tuple xs) (.tuple ys)) else none
  | .list xs, .list ys => if W.alike (.list xs) (.list ys) && SeqAt.shaped (.list xs) && SeqAt.shaped (.list ys) then some (W.dataLt (.list xs) (.list ys)) else none
  | _, _ => none
def leD : D → D → Option Bool
  | .int i, .int j => some (decide (i ≤ j))
  | .str x, .str y => some (!decide (y.cps.toList < x.cps.toList))
  | _, _ => none
def gtD : D → D → Option Bool
  | .int i, .int j => some (decide (j < i))
  | .str x, .str y => some (decide (y.cps.toList < x.cps.toList))
  | _, _ => none
def geD : D → D → Option Bool
  | .int i, .int j => some (decide (j ≤ i))
  | .str x, .str y => some (!decide (x.cps.toList < y.cps.toList))
  | _, _ => none
def isD : D → D → Option Bool
  | x, .none => some (match x with | .none => true | _ => false)
  | .bool a, .bool b => some (decide (a = b))
  | _, _ => none
def isNotD (x y : D) : Option Bool := (isD x y).map (!·)
def isKey : D → Bool
  | .int _ => true
  | .str _ => true
  | _ => false
/-- the key of an entry -/
def keyEq : D → D → Bool
  | .int i, .int j => decide (i = j)
  | .str x, .str y => decide (x = y)
  | .tuple xs, .tuple ys => keysEq xs ys
  | _, _ => false
where keysEq : List D → List D → Bool
  | [], [] => true
  | .int i :: xs, .int j :: ys => decide (i = j) && keysEq xs ys
  | .str x :: xs, .str y :: ys => decide (x = y) && keysEq xs ys
  | _, _ => false
/-- a dict whose keys are ints and texts; the empty one too -/
def plainKeys (kvs : List (D × D)) : Bool := kvs.all fun p => isKey p.1
def lookD (kvs : List (D × D)) (k : D) : Option D := (kvs.find? fun p => keyEq p.1 k).map (·.2)
def putD (kvs : List (D × D)) (k v : D) : List (D × D) := if (kvs.any fun p => keyEq p.1 k) = true then kvs.map fun p => if keyEq p.1 k = true then (p.1, v) else p else kvs ++ [(k, v)]
def flat : D → Bool
  | .none => true
  | .bool _ => true
  | .int _ => true
  | .str _ => true
  | _ => false
def inD : D → D → Option Bool
  | x, .list ys => if SeqAt.shaped x && SeqAt.shaped (.list ys) then some (ys.any fun z => PyData.eqv z x) else none
  | x, .tuple ys => if flat x && ys.all flat then some (ys.any fun z => PyData.eqv z x) else none
  | .str x, .str y => match x.cps.toList with
    | [c] => some (y.cps.toList.contains c)
    | _ => none
  | k, .dict kvs => if isKey k && plainKeys kvs then some (lookD kvs k).isSome else none
  | _, _ => none
def notInD (x y : D) : Option Bool := (inD x y).map (!·)
/-- o[i] -/
def idx {α : Type} (xs : List α) (i : Int) : Option α := if 0 ≤ i then xs[i.toNat]? else if -(xs.length : Int) ≤ i then xs[(i + xs.length).toNat]? else none
def ixD : D → D → Option RV
  | .list xs, .int i => (idx xs i).map .sh
  | .tuple xs, .int i => (idx xs i).map .sh
  | .str x, .int i => if x.cps.size ≤ sizeLim then (idx x.cps.toList i).map fun c => .sh (.str ⟨#[c]⟩) else none
  | .dict kvs, k => match klOf kvs with
    | some xs => (match k with
      | .int i => (idx xs i).map .sh
      | _ => none)
    | none => if isKey k && plainKeys kvs then (lookD kvs k).map .sh else none
  | _, _ => none
/-- o[lo:hi] -/
def cutIx (n d : Nat) : Option Int → Nat
  | none => d
  | some v => if v < 0 then (v + (n : Int)).toNat else min v.toNat n
def cut {α : Type} (xs : List α) (lo hi : Option Int) : List α := (xs.drop (cutIx xs.length 0 lo)).take (cutIx xs.length xs.length hi - cutIx xs.length 0 lo)
def sliceD (d : D) (lo hi : Option Int) : Option RV := match d with
  | .list xs => some (.ow (.list (cut xs lo hi)))
  | .tuple xs => some (.sh (.tuple (cut xs lo hi)))
  | .str x => if x.cps.size ≤ sizeLim then some (.sh (.str ⟨(cut x.cps.toList lo hi).toArray⟩)) else none
  | _ => none
abbrev DPt := Env → (Option Int → Env → Res) → KX → Res
def pNo : DPt := fun ρ k _ => k none ρ
def pAt (e : DE) : DPt := fun ρ k h => e ρ (fun r ρ1 => match peek ρ1 r.w with
  | some (.int i) => k (some i) ρ1
  | _ => none) h
def eSl (e : DE) (lo hi : DPt) : DE := fun ρ k h => e ρ (fun x ρ1 => lo ρ1 (fun l ρ2 => hi ρ2 (fun u ρ3 => opt (peek ρ3 x.w) fun d => opt (sliceD d l u) fun r => k r ρ3) h) h) h
/-! ### built-in functions -/
def lenD : List D → Option RV
  | [.list xs] => some (.sh (.int xs.length))
  | [.tuple xs] => some (.sh (.int xs.length))
  | [.str x] => if x.cps.size ≤ sizeLim then some (.sh (.int x.cps.size)) else none
  | [.dict kvs] => match klOf kvs with
    | some xs => some (.sh (.int xs.length))
    | none => some (.sh (.int kvs.length))
  | _ => none
def absD : List D → Option RV
  | [.int i] => some (.sh (.int (if i < 0 then -i else i)))
  | _ => none
def intsOf : List D → Option (List Int)
  | [] => some []
  | .int i :: r => (intsOf r).map (i :: ·)
  | _ => none
def boolsOf : List D → Option (List Bool)
  | [] => some []
  | .bool i :: r => (boolsOf r).map (i :: ·)
  | _ => none
def most : Int → List Int → Int
  | m, [] => m
  | m, i :: r => most (if m < i then i else m) r
def least : Int → List Int → Int
  | m, [] => m
  | m, i :: r => least (if i < m then i else m) r
def maxD : List D → Option RV
  | [.int i, .int j] => some (.sh (.int (if j > i then j else i)))
  | _ => none
def minD : List D → Option RV
  | [.int i, .int j] => some (.sh (.int (if j < i then j else i)))
  | _ => none
def maxLD : List D → Option RV
  | [.list xs] => match intsOf xs with
    | some (i :: r) => some (.sh (.int (most i r)))
    | _ => none
  | _ => none
def minLD : List D → Option RV
  | [.list xs] => match intsOf xs with
    | some (i :: r) => some (.sh (.int (least i r)))
    | _ => none
  | _ => none
def sumD : List D → Option RV
  | [.list xs] => (intsOf xs).map fun is => .sh (.int is.sum)
  | _ => none
def anyD : List D → Option RV
  | [.list xs] => (boolsOf xs).map fun bs => .sh (.bool (bs.any id))
  | _ => none
def allD : List D → Option RV
  | [.list xs] => (boolsOf xs).map fun bs => .sh (.bool (bs.all id))
  | _ => none
def intD : List D → Option RV
  | [.int i] => some (.sh (.int i))
  | [.bool b] => some (.sh (.int (if b then 1 else 0)))
  | _ => none
def listD : List D → Option RV
  | [.list xs] => some (.ow (.list xs))
  | [.tuple xs] => some (.ow (.list xs))
  | _ => none
def tupleD : List D → Option RV
  | [.list xs] => some (.sh (.tuple xs))
  | [.tuple xs] => some (.sh (.tuple xs))
  | _ => none
/-- isinstance(x, T), by T's name -/
def isiD (T : String) : D → Option Bool
  | .none => some false
  | .bool _ => some (T == "bool" || T == "int")
  | .int _ => some (T == "int")
  | .str _ => some (T == "str")
  | .list _ => some (T == "list")
  | .tuple _ => some (T == "tuple")
  | .dict kvs => match klOf kvs with
    | some _ => none
    | none => some (T == "dict")
def eIsi (T : String) (a : DE) : DE := eUn (fun d => (isiD T d).map fun b => .sh (.bool b)) a
/-! ### methods of one's own lists and dicts -/
def slotL (ρ : Env) (i : Nat) : Option (EV × List D) := match slot ρ i with
  | some (.ow (.list xs)) => some (.ow (.list xs), xs)
  | some (.io (.list xs)) => some (.io (.list xs), xs)
  | _ => none
/-- x.append(e) -/
def eAppend (i : Nat) (e : DE) : DE := fun ρ k h => opt (slotL ρ i) fun _ => e ρ (fun r ρ1 => freeze ρ1 r.w fun d ρ2 => opt (slotL ρ2 i) fun q =>
  if q.2.length < sizeLim then k (.sh .none) (ρ2.set i (some (q.1.put (.list (q.2 ++ [d]))))) else none) h
/-- x.pop() -/
def ePop (i : Nat) : DE := fun ρ k _ => opt (slotL ρ i) fun q => match q.2.getLast? with
  | some d => k (.sh d) (ρ.set i (some (q.1.put (.list q.2.dropLast))))
  | none => none
/-- x.pop(j) -/
def ePopAt (i : Nat) (e : DE) : DE := fun ρ k h => opt (slotL ρ i) fun _ => e ρ (fun r ρ1 => match peek ρ1 r.w with
  | some (.int j) => opt (slotL ρ1 i) fun q => if 0 ≤ j ∧ j ≤ (sizeLim : Int) then opt (q.2[j.toNat]?) fun d => k (.sh d) (ρ1.set i (some (q.1.put (.list (q.2.eraseIdx j.toNat))))) else none
  | _ => none) h
/-- x[j] = e -/
def slotM (ρ : Env) (i : Nat) : Option EV := match slot ρ i with
  | some (.ow d) => some (.ow d)
  | some (.io d) => some (.io d)
  | _ => none
def place (n : Nat) (j : Int) : Option Nat := if 0 ≤ j then (if j < n then some j.toNat else none) else if -(n : Int) ≤ j then some (j + n).toNat else none
def setAt (j d : D) : D → Option D
  | .list xs => match j with
    | .int j => (place xs.length j).map fun n => .list (xs.set n d)
    | _ => none
  | .dict kvs => if isKey j && decide (kvs.length < sizeLim) then some (.dict (putD kvs j d)) else none
  | _ => none
def sSetIx (i : Nat) (ix e : DE) : DS := fun ρ C => e ρ (fun r ρ1 => freeze ρ1 r.w fun d ρ2 => opt (slotM ρ2 i) fun _ => ix ρ2 (fun j ρ3 => opt (peek ρ3 j.w) fun jd => opt (slotM ρ3 i) fun q =>
  opt (setAt jd d q.d) fun c => C.nx (ρ3.set i (some (q.put c)))) C.ex) C.ex
/-- x op= e, of data -/
def sAug (f : D → D → Option RV) (i : Nat) (e : DE) : DS := fun ρ C => match slot ρ i with
  | some (.sh p) => e ρ (fun r ρ1 => opt (peek ρ1 r.w) fun q => match f p q with
    | some (.sh d) => put ρ1 i (.sh d) C.nx
    | _ => none) C.ex
  | _ => none
end DL
set_option maxRecDepth 100000
set_option maxHeartbeats 1000000
/-! DB: how plain data stands in the heap; what an expression's reading is by its plain function. -/
namespace DL
open PySem PySem.Spec PyProof.Rows L2
def mutD : D → Bool
  | .list _ => true
  | .dict [(.list _, .none)] => false
  | .dict _ => true
  | _ => false
def mutO : HO → Prop
  | .lst _ => True
  | .dK _ => True
  | _ => False
def kD : Key → D
  | .inl i => .int i
  | .inr x => .str x
mutual
/-- d stands at v. O: what may be changed by someone; no part of it, but for the top, is one of them -/
inductive RepT (K : PySem.W.Frag) (O : Addr → Prop) (H : Hp) : D → V → Prop
  | non : RepT K O H .none .non
  | bl (b : Bool) : RepT K O H (.bool b) (.bl b)
  | int (i : Int) : RepT K O H (.int i) (.int i)
  | str (x : Str) : RepT K O H (.str x) (.str x)
  | lst {a : Addr} {vs : List V} {ds : List D} : Rd H a (.lst vs) → RepL K O H ds vs → RepT K O H (.list ds) (.ref a)
  | tup {a : Addr} {vs : List V} {ds : List D} : SqT K H a vs → RepL K O H ds vs → RepT K O H (.tuple ds) (.ref a)
  | dic {a : Addr} {us : List (Key × V)} {kvs : List (D × D)} : Rd H a (.dK us) → RepK K O H kvs us → RepT K O H (.dict kvs) (.ref a)
  | kls {a : Addr} {ns : List Int} : (∀ H' : Hp, SqL K H' a (ns.map V.int)) → RepT K O H (.dict [(.list (ns.map .int), .none)]) (.ref a)
inductive RepL (K : PySem.W.Frag) (O : Addr → Prop) (H : Hp) : List D → List V → Prop
  | nil : RepL K O H [] []
  | cons {d : D} {v : V} {ds : List D} {vs : List V} : RepT K O H d v → (mutD d = true → ∀ a, v = .ref a → ¬ O a) → RepL K O H ds vs → RepL K O H (d :: ds) (v :: vs)
inductive RepK (K : PySem.W.Frag) (O : Addr → Prop) (H : Hp) : List (D × D) → List (Key × V) → Prop
  | nil : RepK K O H [] []
  | cons {k : Key} {d : D} {v : V} {ds : List (D × D)} {vs : List (Key × V)} : RepT K O H d v → (mutD d = true → ∀ a, v = .ref a → ¬ O a) → RepK K O H ds vs → RepK K O H ((kD k, d) :: ds) ((k, v) :: vs)
end
def OutO (O : Addr → Prop) (d : D) (v : V) : Prop := mutD d = true → ∀ a, v = .ref a → ¬ O a
def Rep (K : PySem.W.Frag) (O : Addr → Prop) (H : Hp) (d : D) (v : V) : Prop := RepT K O H d v ∧ OutO O d v
/-- one's own list or dict, at a -/
def RepO (K : PySem.W.Frag) (O : Addr → Prop) (H : Hp) (d : D) (a : Addr) : Prop := match d with
  | .list ds => ∃ vs, H a = some (.lst vs) ∧ RepL K O H ds vs
  | .dict kvs => ∃ us, H a = some (.dK us) ∧ RepK K O H kvs us
  | _ => False
theorem klOf_rep {K : PySem.W.Frag} {O : Addr → Prop} {H : Hp} {kvs : List (D × D)} {us : List (Key × V)} (l : RepK K O H kvs us) : klOf kvs = none := by
  cases l with
  | nil => rfl
  | cons r n l =>
    rename_i k d v ds vs
    cases k <;> rfl
theorem repk_mut {K : PySem.W.Frag} {O : Addr → Prop} {H : Hp} {kvs : List (D × D)} {us : List (Key × V)} (l : RepK K O H kvs us) : mutD (.dict kvs) = true := by
  cases l with
  | nil => rfl
  | cons r n l =>
    rename_i k d v ds vs
    cases k <;> rfl
/-- what may be changed is a list or dict -/
def HO' (O : Addr → Prop) (H : Hp) : Prop := ∀ a o, O a → H a = some o → mutO o
/-- what is read stays to be read -/
def Kp (O : Addr → Prop) (H H' : Hp) : Prop := ∀ a u, ¬ O a → Rd H a u → Rd H' a u
theorem Kp.of {O : Addr → Prop} {H H' : Hp} (h : ∀ a o, ¬ O a → H a = some o → H' a = some o) : Kp O H H' := fun a u n r => by
  rcases r with r | ⟨ob, r⟩
  · exact .inl (h a _ n r)
  · exact .inr ⟨ob, h a _ n r⟩
section
variable {K : PySem.W.Frag} {O O' : Addr → Prop} {H H' : Hp}
theorem not_tup (hO : HO' O H) {a : Addr} {vs : List V} (r : Rd H a (.tup vs)) : ¬ O a := fun z => by
  rcases r with r | ⟨ob, r⟩
  · exact hO a _ z r
  · exact hO a _ z r
theorem SqT.kp (hO : HO' O H) (k : Kp O H H') {a : Addr} {vs : List V} (r : SqT K H a vs) : SqT K H' a vs := by
  rcases r with r | r
  · exact .inl (k a _ (not_tup hO r) r)
  · exact .inr r
mutual
theorem RepT.kp (hO : HO' O H) (k : Kp O H H') : ∀ {d : D} {v : V}, RepT K O H d v → OutO O d v → RepT K O H' d v
  | _, _, .non, _ => .non
  | _, _, .bl b, _ => .bl b
  | _, _, .int i, _ => .int i
  | _, _, .str x, _ => .str x
  | _, _, .lst r l, n => .lst (k _ _ (n rfl _ rfl) r) (RepL.kp hO k l)
  | _, _, .tup r l, _ => .tup (SqT.kp hO k r) (RepL.kp hO k l)
  | _, _, .dic r l, n => .dic (k _ _ (n (repk_mut l) _ rfl) r) (RepK.kp hO k l)
  | _, _, .kls q, _ => .kls q
theorem RepL.kp (hO : HO' O H) (k : Kp O H H') : ∀ {ds : List D} {vs : List V}, RepL K O H ds vs → RepL K O H' ds vs
  | _, _, .nil => .nil
  | _, _, .cons r n l => .cons (RepT.kp hO k r n) n (RepL.kp hO k l)
theorem RepK.kp (hO : HO' O H) (k : Kp O H H') : ∀ {ds : List (D × D)} {vs : List (Key × V)}, RepK K O H ds vs → RepK K O H' ds vs
  | _, _, .nil => .nil
  | _, _, .cons r n l => .cons (RepT.kp hO k r n) n (RepK.kp hO k l)
end
/-! fewer things may be changed -/
mutual
theorem RepT.anti (s : ∀ a, O' a → O a) : ∀ {d : D} {v : V}, RepT K O H d v → RepT K O' H d v
  | _, _, .non => .non
  | _, _, .bl b => .bl b
  | _, _, .int i => .int i
  | _, _, .str x => .str x
  | _, _, .lst r l => .lst r (RepL.anti s l)
  | _, _, .tup r l => .tup r (RepL.anti s l)
  | _, _, .dic r l => .dic r (RepK.anti s l)
  | _, _, .kls q => .kls q
theorem RepL.anti (s : ∀ a, O' a → O a) : ∀ {ds : List D} {vs : List V}, RepL K O H ds vs → RepL K O' H ds vs
  | _, _, .nil => .nil
  | _, _, .cons r n l => .cons (RepT.anti s r) (fun m a e z => n m a e (s a z)) (RepL.anti s l)
theorem RepK.anti (s : ∀ a, O' a → O a) : ∀ {ds : List (D × D)} {vs : List (Key × V)}, RepK K O H ds vs → RepK K O' H ds vs
  | _, _, .nil => .nil
  | _, _, .cons r n l => .cons (RepT.anti s r) (fun m a e z => n m a e (s a z)) (RepK.anti s l)
end
/-- more things may be changed: none of them was tracked -/
def Fresh (O O' : Addr → Prop) (H : Hp) : Prop := ∀ a, O' a → O a ∨ H a = none
theorem rd_there {a : Addr} {u : HO} (r : Rd H a u) : H a ≠ none := by
  rcases r with r | ⟨_, r⟩ <;> (rw [r]; exact fun z => nomatch z)
theorem RepT.there {d : D} {v : V} (m : mutD d = true) (r : RepT K O H d v) : ∃ a, v = .ref a ∧ H a ≠ none := by
  cases r with
  | lst r l => exact ⟨_, rfl, rd_there r⟩
  | dic r l => exact ⟨_, rfl, rd_there r⟩
  | _ => cases m
theorem out_fresh (f : Fresh O O' H) {d : D} {v : V} (r : RepT K O H d v) (n : OutO O d v) : OutO O' d v := fun m a e z => by
  rcases f a z with z | z
  · exact n m a e z
  · obtain ⟨b, e2, h⟩ := r.there m
    rw [e] at e2; cases e2
    exact h z
mutual
theorem RepT.fresh (f : Fresh O O' H) : ∀ {d : D} {v : V}, RepT K O H d v → RepT K O' H d v
  | _, _, .non => .non
  | _, _, .bl b => .bl b
  | _, _, .int i => .int i
  | _, _, .str x => .str x
  | _, _, .lst r l => .lst r (RepL.fresh f l)
  | _, _, .tup r l => .tup r (RepL.fresh f l)
  | _, _, .dic r l => .dic r (RepK.fresh f l)
  | _, _, .kls q => .kls q
theorem RepL.fresh (f : Fresh O O' H) : ∀ {ds : List D} {vs : List V}, RepL K O H ds vs → RepL K O' H ds vs
  | _, _, .nil => .nil
  | _, _, .cons r n l => .cons (RepT.fresh f r) (out_fresh f r n) (RepL.fresh f l)
theorem RepK.fresh (f : Fresh O O' H) : ∀ {ds : List (D × D)} {vs : List (Key × V)}, RepK K O H ds vs → RepK K O' H ds vs
  | _, _, .nil => .nil
  | _, _, .cons r n l => .cons (RepT.fresh f r) (out_fresh f r n) (RepK.fresh f l)
end
theorem still_mut {d : D} (h : still d = true) : mutD d = false := by
  cases d <;> first | rfl | (simp [still] at h)
/-! data without a list or dict within: whatever may be changed -/
mutual
theorem RepT.still : ∀ {d : D} {v : V}, RepT K O H d v → still d = true → RepT K O' H d v
  | _, _, .non, _ => .non
  | _, _, .bl b, _ => .bl b
  | _, _, .int i, _ => .int i
  | _, _, .str x, _ => .str x
  | _, _, .lst r l, h => by simp [DL.still] at h
  | _, _, .tup r l, h => .tup r (RepL.still l (by simpa [DL.still] using h))
  | _, _, .dic r l, h => by simp [DL.still] at h
  | _, _, .kls q, h => .kls q
theorem RepL.still : ∀ {ds : List D} {vs : List V}, RepL K O H ds vs → stills ds = true → RepL K O' H ds vs
  | _, _, .nil, _ => .nil
  | _, _, .cons (d := d) r n l, h => by
    simp only [stills, Bool.and_eq_true] at h
    exact .cons (RepT.still r h.1) (fun m => by rw [still_mut h.1] at m; cases m) (RepL.still l h.2)
end
theorem RepK.still : ∀ {ds : List (D × D)} {vs : List (Key × V)}, RepK K O H ds vs → (ds.all fun p => DL.still p.1 && DL.still p.2) = true → RepK K O' H ds vs
  | _, _, .nil, _ => .nil
  | _, _, .cons (d := d) r n l, h => by
    simp only [List.all_cons, Bool.and_eq_true] at h
    exact .cons (RepT.still r h.1.2) (fun m => by rw [still_mut h.1.2] at m; cases m) (RepK.still l (by simpa using h.2))
theorem Rep.still {d : D} {v : V} (r : RepT K O H d v) (h : DL.still d = true) : Rep K O' H d v := ⟨RepT.still r h, fun m => by rw [still_mut h] at m; cases m⟩
theorem Rep.kp {d : D} {v : V} (hO : HO' O H) (k : Kp O H H') (r : Rep K O H d v) : Rep K O H' d v := ⟨r.1.kp hO k r.2, r.2⟩
theorem Rep.anti {d : D} {v : V} (s : ∀ a, O' a → O a) (r : Rep K O H d v) : Rep K O' H d v := ⟨r.1.anti s, fun m a e z => r.2 m a e (s a z)⟩
theorem Rep.fresh {d : D} {v : V} (f : Fresh O O' H) (r : Rep K O H d v) : Rep K O' H d v := ⟨r.1.fresh f, out_fresh f r.1 r.2⟩
theorem RepO.top {d : D} {a : Addr} (r : RepO K O H d a) : RepT K O H d (.ref a) := by
  cases d with
  | list ds => obtain ⟨vs, e, l⟩ := r; exact .lst (.inl e) l
  | dict kvs =>
    obtain ⟨us, e, l⟩ := r
    exact .dic (.inl e) l
  | _ => exact r.elim
theorem RepO.mut {d : D} {a : Addr} (r : RepO K O H d a) : mutD d = true ∧ ∃ o, H a = some o ∧ mutO o := by
  cases d with
  | list ds => obtain ⟨vs, e, l⟩ := r; exact ⟨rfl, _, e, trivial⟩
  | dict kvs =>
    obtain ⟨us, e, l⟩ := r
    exact ⟨repk_mut l, _, e, trivial⟩
  | _ => exact r.elim
theorem RepO.kp {d : D} {a : Addr} (hO : HO' O H) (k : Kp O H H') (e : H' a = H a) (r : RepO K O H d a) : RepO K O H' d a := by
  cases d with
  | list ds => obtain ⟨vs, q, l⟩ := r; exact ⟨vs, e.trans q, l.kp hO k⟩
  | dict kvs =>
    obtain ⟨us, q, l⟩ := r
    exact ⟨us, e.trans q, l.kp hO k⟩
  | _ => exact r.elim
theorem RepO.anti {d : D} {a : Addr} (s : ∀ a, O' a → O a) (r : RepO K O H d a) : RepO K O' H d a := by
  cases d with
  | list ds => obtain ⟨vs, q, l⟩ := r; exact ⟨vs, q, l.anti s⟩
  | dict kvs =>
    obtain ⟨us, q, l⟩ := r
    exact ⟨us, q, l.anti s⟩
  | _ => exact r.elim
theorem RepO.fresh {d : D} {a : Addr} (s : Fresh O O' H) (r : RepO K O H d a) : RepO K O' H d a := by
  cases d with
  | list ds => obtain ⟨vs, q, l⟩ := r; exact ⟨vs, q, l.fresh s⟩
  | dict kvs =>
    obtain ⟨us, q, l⟩ := r
    exact ⟨us, q, l.fresh s⟩
  | _ => exact r.elim
theorem RepO.still {d : D} {a : Addr} (h : stillIn d = true) (r : RepO K O H d a) : RepO K O' H d a := by
  cases d with
  | list ds => obtain ⟨vs, q, l⟩ := r; exact ⟨vs, q, l.still h⟩
  | dict kvs =>
    obtain ⟨us, q, l⟩ := r
    exact ⟨us, q, l.still h⟩
  | _ => exact r.elim
/-- one's own, given away -/
theorem RepO.rep {d : D} {a : Addr} (n : ¬ O a) (r : RepO K O H d a) : Rep K O H d (.ref a) := ⟨r.top, fun _ b e => by cases e; exact n⟩
theorem RepL.length {ds : List D} {vs : List V} : RepL K O H ds vs → ds.length = vs.length
  | .nil => rfl
  | .cons _ _ l => by simp [RepL.length l]
theorem RepL.append {ds es : List D} {vs us : List V} : RepL K O H ds vs → RepL K O H es us → RepL K O H (ds ++ es) (vs ++ us)
  | .nil, r => r
  | .cons r n l, q => .cons r n (RepL.append l q)
theorem RepL.get {ds : List D} {vs : List V} : ∀ {i : Nat} {d : D}, RepL K O H ds vs → ds[i]? = some d → ∃ v, vs[i]? = some v ∧ Rep K O H d v
  | _, _, .nil, e => by simp at e
  | 0, _, .cons r n l, e => by simp at e; subst e; exact ⟨_, rfl, r, n⟩
  | i + 1, d, .cons r n l, e => by
    obtain ⟨v, h1, h2⟩ := RepL.get (i := i) (d := d) l (by simpa using e)
    exact ⟨v, by simpa using h1, h2⟩
theorem RepL.get' {ds : List D} {vs : List V} : ∀ {i : Nat} {v : V}, RepL K O H ds vs → vs[i]? = some v → ∃ d, ds[i]? = some d ∧ Rep K O H d v
  | _, _, .nil, e => by simp at e
  | 0, _, .cons r n l, e => by simp at e; subst e; exact ⟨_, rfl, r, n⟩
  | i + 1, v, .cons r n l, e => by
    obtain ⟨d, h1, h2⟩ := RepL.get' (i := i) (v := v) l (by simpa using e)
    exact ⟨d, by simpa using h1, h2⟩
theorem RepL.one {d : D} {v : V} (r : Rep K O H d v) : RepL K O H [d] [v] := .cons r.1 r.2 .nil
end
end DL
set_option maxRecDepth 100000
set_option maxHeartbeats 1000000
/-! DR: the slots' state by plain data; an expression, a statement by its plain function. -/
namespace DL
open PySem PySem.Spec PyProof.Rows L2
structure Fx where
  N0 : Addr → Prop
  Ox : Addr → Prop
  own0 : Nat → Option Addr
abbrev Own := Nat → Option Addr
def Fx.add (fx : Fx) (a : Addr) : Fx := { fx with Ox := fun b => fx.Ox b ∨ b = a }
def OO (fx : Fx) (own : Own) : Addr → Prop := fun a => fx.Ox a ∨ ∃ i, own i = some a
structure Rp (K : PySem.W.Frag) (fx : Fx) (own : Own) (σ : L2.St) (H : Hp) (ρ : Env) : Prop where
  len : σ.length = ρ.length
  old : ∀ a, ¬ fx.N0 a → H a ≠ none
  trk : ∀ a, fx.Ox a → ∃ o, H a = some o ∧ mutO o
  sh : ∀ i d, slot ρ i = some (.sh d) → ∃ v, σ[i]? = some (some v) ∧ Rep K (OO fx own) H d v
  ow : ∀ i e, slot ρ i = some e → e.mine = true → ∃ a, own i = some a ∧ σ[i]? = some (some (.ref a)) ∧ RepO K (OO fx own) H e.d a
  dom : ∀ i a, own i = some a → ∃ e, slot ρ i = some e ∧ e.mine = true
  inj : ∀ i j a, own i = some a → own j = some a → i = j
  nox : ∀ i a, own i = some a → ¬ fx.Ox a
  new : ∀ i a d, own i = some a → slot ρ i = some (.ow d) → fx.N0 a
  ios : ∀ i a, fx.own0 i = some a → own i = some a ∧ ∃ d, slot ρ i = some (.io d)
structure StepE (H : Hp) (own : Own) (H' : Hp) (own' : Own) : Prop where
  keep : ∀ a o, H a = some o → (∀ i, own i ≠ some a) → H' a = some o
  le : ∀ i a, own' i = some a → own i = some a
  al : ∀ a, H a ≠ none → H' a ≠ none
theorem StepE.refl {H : Hp} {own : Own} : StepE H own H own := ⟨fun _ _ e _ => e, fun _ _ e => e, fun _ e => e⟩
theorem StepE.trans {H H1 H2 : Hp} {o o1 o2 : Own} (a : StepE H o H1 o1) (b : StepE H1 o1 H2 o2) : StepE H o H2 o2 :=
  ⟨fun c u e n => b.keep c u (a.keep c u e n) fun i z => n i (a.le i c z), fun i c e => a.le i c (b.le i c e), fun c e => b.al c (a.al c e)⟩
theorem StepE.of_same {H H' : Hp} {own : Own} (s : Same H H') : StepE H own H' own := ⟨fun a o e _ => s a o e, fun _ _ e => e, fun a n z => by
    cases q : H a with
    | none => exact n q
    | some o => rw [s a o q] at z; cases z⟩
section
variable {K : PySem.W.Frag} {fx : Fx} {own own' : Own} {σ : L2.St} {H H' : Hp} {ρ ρ' : Env}
theorem Rp.ho (R : Rp K fx own σ H ρ) : HO' (OO fx own) H := fun a u z hu => by
  rcases z with z | ⟨i, z⟩
  · obtain ⟨o, e, m⟩ := R.trk a z
    rw [hu] at e; cases e
    exact m
  · obtain ⟨e, he, m⟩ := R.dom i a z
    obtain ⟨b, hb, _, r⟩ := R.ow i e he m
    rw [z] at hb; cases hb
    obtain ⟨o, q, m'⟩ := r.mut.2
    rw [hu] at q; cases q
    exact m'
theorem StepE.kp (s : StepE H own H' own') {fx : Fx} : Kp (OO fx own) H H' := .of fun a o n e => s.keep a o e fun i z => n (.inr ⟨i, z⟩)
theorem oo_le (s : ∀ i a, own' i = some a → own i = some a) : ∀ a, OO fx own' a → OO fx own a := fun a z => by
  rcases z with z | ⟨i, z⟩
  · exact .inl z
  · exact .inr ⟨i, s i a z⟩
/-- data stays over a step -/
theorem Rep.step {d : D} {v : V} (R : Rp K fx own σ H ρ) (s : StepE H own H' own') (r : Rep K (OO fx own) H d v) : Rep K (OO fx own') H' d v :=
  (r.kp R.ho s.kp).anti (oo_le s.le)
theorem slot_get {i : Nat} {e : EV} (h : slot ρ i = some e) : ρ[i]? = some (some e) := by
  unfold slot at h
  split at h
  · rename_i q; cases h; exact q
  · cases h
theorem slot_of {i : Nat} {e : EV} (h : ρ[i]? = some (some e)) : slot ρ i = some e := by unfold slot; rw [h]
theorem slot_lt {i : Nat} {e : EV} (h : slot ρ i = some e) : i < ρ.length := (List.getElem?_eq_some_iff.mp (slot_get h)).1
theorem slot_set_same {i : Nat} {o : Option EV} (h : i < ρ.length) : slot (ρ.set i o) i = o := by
  unfold slot; rw [List.getElem?_set_self h]; cases o <;> rfl
theorem slot_set_ne {i j : Nat} {o : Option EV} (h : j ≠ i) : slot (ρ.set i o) j = slot ρ j := by
  unfold slot; rw [List.getElem?_set_ne (Ne.symm h)]
/-- the own slots' data may be read -/
theorem Rp.sl (R : Rp K fx own σ H ρ) {i : Nat} {e : EV} (h : slot ρ i = some e) : ∃ v, σ[i]? = some (some v) ∧ RepT K (OO fx own) H e.d v := by
  cases e with
  | sh d => obtain ⟨v, h1, h2⟩ := R.sh i d h; exact ⟨v, h1, h2.1⟩
  | ow d => obtain ⟨a, _, h1, h2⟩ := R.ow i _ h rfl; exact ⟨_, h1, h2.top⟩
  | io d => obtain ⟨a, _, h1, h2⟩ := R.ow i _ h rfl; exact ⟨_, h1, h2.top⟩
/-- all that was tracked stands, new things beside -/
theorem Rp.same (R : Rp K fx own σ H ρ) (s : Same H H') : Rp K fx own σ H' ρ := by
  have k : Kp (OO fx own) H H' := .of fun a o _ e => s a o e
  exact { len := R.len, old := fun a n z => (by
            cases q : H a with
            | none => exact R.old a n q
            | some o => rw [s a o q] at z; cases z), trk := fun a z => let ⟨o, e, m⟩ := R.trk a z; ⟨o, s a o e, m⟩,
          sh := fun i d e => let ⟨v, h1, h2⟩ := R.sh i d e; ⟨v, h1, h2.kp R.ho k⟩,
          ow := fun i e h m => by
            obtain ⟨a, h1, h2, h3⟩ := R.ow i e h m
            obtain ⟨o, q, _⟩ := h3.mut.2
            exact ⟨a, h1, h2, h3.kp R.ho k ((s a o q).trans q.symm)⟩
          dom := R.dom, inj := R.inj, nox := R.nox, new := R.new, ios := R.ios }
/-- a new list or dict is put aside -/
theorem add_fresh {a : Addr} (n : H a = none) : Fresh (OO fx own) (OO (fx.add a) own) H := fun b z => by
  rcases z with (z | z) | z
  · exact .inl (.inl z)
  · rw [z]; exact .inr n
  · exact .inl (.inr z)
theorem Rp.ho_add (R : Rp K fx own σ H ρ) {a : Addr} (n : H a = none) : HO' (OO (fx.add a) own) H := fun b o z e => by
  rcases add_fresh n b z with z | z
  · exact R.ho b o z e
  · rw [z] at e; cases e
theorem Rep.aside {d : D} {v : V} (R : Rp K fx own σ H ρ) (s : Same H H') {a : Addr} (n : H a = none) (r : Rep K (OO fx own) H d v) : Rep K (OO (fx.add a) own) H' d v :=
  (r.fresh (add_fresh n)).kp (R.ho_add n) (.of fun b o _ e => s b o e)
theorem Rp.aside (R : Rp K fx own σ H ρ) (s : Same H H') {a : Addr} (n : H a = none) (t : ∃ o, H' a = some o ∧ mutO o) : Rp K (fx.add a) own σ H' ρ where
  len := R.len
  old := (R.same s).old
  trk := fun b z => by
    rcases z with z | z
    · exact (R.same s).trk b z
    · rw [z]; exact t
  sh := fun i d e => let ⟨v, h1, h2⟩ := R.sh i d e; ⟨v, h1, h2.aside R s n⟩
  ow := fun i e h m => by
    obtain ⟨b, h1, h2, h3⟩ := R.ow i e h m
    obtain ⟨o, q, _⟩ := h3.mut.2
    exact ⟨b, h1, h2, (h3.fresh (add_fresh n)).kp (R.ho_add n) (.of fun b o _ e => s b o e) ((s b o q).trans q.symm)⟩
  dom := R.dom
  inj := R.inj
  nox := fun i b e z => by
    rcases z with z | z
    · exact R.nox i b e z
    · obtain ⟨ev, he, m⟩ := R.dom i b e
      obtain ⟨c, hc, _, r⟩ := R.ow i ev he m
      rw [e] at hc; cases hc
      obtain ⟨o, q, _⟩ := r.mut.2
      rw [z, n] at q; cases q
  new := R.new
  ios := R.ios
theorem oo_add {a : Addr} : ∀ b, OO fx own b → OO (fx.add a) own b := fun b z => by
  rcases z with z | z
  · exact .inl (.inl z)
  · exact .inr z
/-- what was put aside is given back -/
theorem Rp.unadd {a : Addr} (R : Rp K (fx.add a) own σ H ρ) : Rp K fx own σ H ρ where
  len := R.len
  old := R.old
  trk := fun b z => R.trk b (.inl z)
  sh := fun i d e => let ⟨v, h1, h2⟩ := R.sh i d e; ⟨v, h1, h2.anti oo_add⟩
  ow := fun i e h m => let ⟨b, h1, h2, h3⟩ := R.ow i e h m; ⟨b, h1, h2, h3.anti oo_add⟩
  dom := R.dom
  inj := R.inj
  nox := fun i b e z => R.nox i b e (.inl z)
  new := R.new
  ios := R.ios
end
/-! ### what an expression gives -/
def ValR (K : PySem.W.Frag) (fx : Fx) (own : Own) (σ : L2.St) (H0 H : Hp) (ρ : Env) (r : RV) (v : V) : Prop := match r with
  | .sh d => Rp K fx own σ H ρ ∧ Rep K (OO fx own) H d v
  | .ow d => ∃ a, v = .ref a ∧ H0 a = none ∧ Rp K (fx.add a) own σ H ρ ∧ RepO K (OO (fx.add a) own) H d a
  | .vr i => Rp K fx own σ H ρ ∧ σ[i]? = some (some v)
section
variable {K : PySem.W.Frag} {fx : Fx} {own own' : Own} {σ : L2.St} {H H0 H' : Hp} {ρ ρ' : Env} {r : RV} {v : V}
theorem not_oo {a : Addr} (R : Rp K (fx.add a) own σ H ρ) (n : ¬ fx.Ox a) : ¬ OO fx own a := fun z => by
  rcases z with z | ⟨i, z⟩
  · exact n z
  · exact R.nox i a z (.inr rfl)
/-- the value as it is used up -/
theorem ValR.w (h : ValR K fx own σ H0 H ρ r v) (t : ∀ a, fx.Ox a → H0 a ≠ none) : Rp K fx own σ H ρ ∧ ValR K fx own σ H0 H ρ r.w v := by
  cases r with
  | sh d => exact ⟨h.1, h⟩
  | vr i => exact ⟨h.1, h⟩
  | ow d =>
    obtain ⟨a, e, n, R, q⟩ := h
    have R' := R.unadd
    refine ⟨R', R', ?_⟩
    rw [e]
    exact (q.anti oo_add).rep (not_oo R fun z => t a z n)
/-- what a used value is: data, or a slot's -/
def UseR (K : PySem.W.Frag) (fx : Fx) (own : Own) (σ : L2.St) (H : Hp) (r : RV) (v : V) : Prop := match r with
  | .sh d => Rep K (OO fx own) H d v
  | .ow _ => False
  | .vr i => σ[i]? = some (some v)
theorem ValR.use (h : ValR K fx own σ H0 H ρ r v) (t : ∀ a, fx.Ox a → H0 a ≠ none) : Rp K fx own σ H ρ ∧ UseR K fx own σ H r.w v := by
  have q := h.w t
  refine ⟨q.1, ?_⟩
  cases r with
  | sh d => exact q.2.2
  | ow d => exact q.2.2
  | vr i => exact q.2.2
theorem UseR.step (R : Rp K fx own σ H ρ) (s : StepE H own H' own') (h : UseR K fx own σ H r v) : UseR K fx own' σ H' r v := by
  cases r with
  | sh d => exact Rep.step R s h
  | ow d => exact h
  | vr i => exact h
theorem UseR.peek (R : Rp K fx own σ H ρ) (h : UseR K fx own σ H r v) {d : D} (e : peek ρ r = some d) : RepT K (OO fx own) H d v := by
  cases r with
  | sh d' =>
    have e' : some d' = some d := e
    cases e'
    exact h.1
  | ow d' => exact h.elim
  | vr i =>
    have e' : (slot ρ i).map EV.d = some d := e
    cases q : slot ρ i with
    | none => rw [q] at e'; cases e'
    | some ev =>
      rw [q] at e'
      obtain rfl : ev.d = d := Option.some.inj e'
      obtain ⟨u, h1, h2⟩ := R.sl q
      have : some (some v) = some (some u) := h.symm.trans h1
      cases this
      exact h2
end
end DL
set_option maxRecDepth 100000
set_option maxHeartbeats 1000000
/-! DX: expressions by their plain functions. -/
namespace DL
open PySem PySem.Spec PyProof.Rows L2
theorem PE.imp {X : Cx} {e : Expr} {t t' : TE} (h : PE X e t) (f : ∀ σ H Q, t' σ H Q → t σ H Q) : PE X e t' := ⟨fun pins s σ H Q I q => h.run pins s σ H Q I (f σ H Q q)⟩
theorem PT.imp {X : Cx} {e : Expr} {t t' : TT} (h : PT X e t) (f : ∀ σ H Q, t' σ H Q → t σ H Q) : PT X e t' := ⟨fun pins s σ H Q I q => h.run pins s σ H Q I (f σ H Q q)⟩
theorem PA.imp {X : Cx} {es : List Expr} {t t' : TA} (h : PA X es t) (f : ∀ σ H Q, t' σ H Q → t σ H Q) : PA X es t' := ⟨fun pos pins s σ H Q I q => h.run pos pins s σ H Q I (f σ H Q q)⟩
theorem PS.imp {X : Cx} {e : Stmt} {t t' : TS} (h : PS X e t) (f : ∀ D σ H, t' D σ H → t D σ H) : PS X e t' := ⟨fun pins s σ H D I q => h.run pins s σ H D I (f D σ H q)⟩
theorem PSs.imp {X : Cx} {e : List Stmt} {t t' : TS} (h : PSs X e t) (f : ∀ D σ H, t' D σ H → t D σ H) : PSs X e t' := ⟨fun pins s σ H D I q => h.run pins s σ H D I (f D σ H q)⟩
/-- an error: its class by its name, what it carries -/
def RepX (K : PySem.W.Frag) (mg : Str → Option Value) (x : Exn) (cls : Value) (d : Option Addr) (H : Hp) : Prop :=
  mg x.nm = some cls ∧ ((x.pay = .none ∧ d = none) ∨ ∃ a v, d = some a ∧ H a = some (.xd [("at", v)]) ∧ RepT K (fun _ => False) H x.pay v)
def tE (K : PySem.W.Frag) (mg : Str → Option Value) (W : WX) (F : DE) : TE := fun σ H Q => ∃ (fx : Fx) (own : Own) (ρ : Env) (k : KV) (h : KX) (o : Out), Rp K fx own σ H ρ ∧ F ρ k h = some o ∧
  (∀ r ρ' v H' own', StepE H own H' own' → ValR K fx own' σ H H' ρ' r v → k r ρ' = some o → Q v H') ∧
  (∀ x ρ' cls d H' own', StepE H own H' own' → Rp K fx own' σ H' ρ' → RepX K mg x cls d H' → h x ρ' = some o → W cls d σ H')
def RE (X : Cx) (W : WX) (e : Expr) (F : DE) : Prop := PE X e (tE X.K X.mg W F)
/-- values that are used -/
def UseL (K : PySem.W.Frag) (fx : Fx) (own : Own) (σ : L2.St) (H : Hp) : List RV → List V → Prop
  | [], [] => True
  | r :: rs, v :: vs => UseR K fx own σ H r v ∧ UseL K fx own σ H rs vs
  | _, _ => False
def tA (K : PySem.W.Frag) (mg : Str → Option Value) (W : WX) (F : DA) : TA := fun σ H Q => ∃ (fx : Fx) (own : Own) (ρ : Env) (k : KL) (h : KX) (o : Out), Rp K fx own σ H ρ ∧ F ρ k h = some o ∧
  (∀ rs ρ' vs H' own', StepE H own H' own' → Rp K fx own' σ H' ρ' → UseL K fx own' σ H' rs vs → k rs ρ' = some o → Q vs H') ∧
  (∀ x ρ' cls d H' own', StepE H own H' own' → Rp K fx own' σ H' ρ' → RepX K mg x cls d H' → h x ρ' = some o → W cls d σ H')
def RA (X : Cx) (W : WX) (es : List Expr) (F : DA) : Prop := PA X es (tA X.K X.mg W F)
section
variable {K : PySem.W.Frag} {mg : Str → Option Value} {W : WX} {fx : Fx} {own own' : Own} {σ : L2.St} {H H' H0 : Hp} {ρ ρ' : Env} {Q : VK}
theorem Rp.there (R : Rp K fx own σ H ρ) : ∀ a, fx.Ox a → H a ≠ none := fun a z => by
  obtain ⟨o, e, _⟩ := R.trk a z
  rw [e]; exact fun z => nomatch z
theorem UseL.step (R : Rp K fx own σ H ρ) (s : StepE H own H' own') : ∀ {rs : List RV} {vs : List V}, UseL K fx own σ H rs vs → UseL K fx own' σ H' rs vs
  | [], [], _ => trivial
  | _ :: _, _ :: _, ⟨a, b⟩ => ⟨a.step R s, UseL.step R s b⟩
  | [], _ :: _, h => h.elim
  | _ :: _, [], h => h.elim
/-- pairwise -/
def RepTs (K : PySem.W.Frag) (O : Addr → Prop) (H : Hp) : List D → List V → Prop
  | [], [] => True
  | d :: ds, v :: vs => RepT K O H d v ∧ RepTs K O H ds vs
  | _, _ => False
theorem UseL.peeks (R : Rp K fx own σ H ρ) : ∀ {rs : List RV} {vs : List V} {ds : List D}, UseL K fx own σ H rs vs → peeks ρ rs = some ds → RepTs K (OO fx own) H ds vs
  | [], [], ds, _, e => by
    have e' : some [] = some ds := e
    cases e'
    trivial
  | r :: rs, v :: vs, ds, ⟨a, b⟩, e => by
    unfold DL.peeks at e
    split at e
    · rename_i d ds' e1 e2
      cases e
      exact ⟨a.peek R e1, UseL.peeks R b e2⟩
    · cases e
  | [], _ :: _, _, h, _ => h.elim
  | _ :: _, [], _, h, _ => h.elim
/-- what a rule gives: data, or something new -/
def NewV (K : PySem.W.Frag) (O : Addr → Prop) (H H' : Hp) (r : RV) (v : V) : Prop := match r with
  | .sh d => Rep K O H' d v
  | .ow d => ∃ a, v = .ref a ∧ H a = none ∧ RepO K (fun b => O b ∨ b = a) H' d a
  | .vr _ => False
theorem NewV.val {r : RV} {v : V} (R : Rp K fx own σ H ρ) (s : Same H H') (n : NewV K (OO fx own) H H' r v) : ValR K fx own σ H H' ρ r v := by
  cases r with
  | sh d => exact ⟨R.same s, n⟩
  | vr i => exact n.elim
  | ow d =>
    obtain ⟨a, e, h, q⟩ := n
    refine ⟨a, e, h, R.aside s h q.mut.2, q.anti fun b z => ?_⟩
    rcases z with (z | z) | z
    · exact .inl (.inl z)
    · exact .inr z
    · exact .inl (.inr z)
theorem ValR.from {r : RV} {v : V} (h : ∀ a, H0 a ≠ none → H a ≠ none) (q : ValR K fx own σ H H' ρ r v) : ValR K fx own σ H0 H' ρ r v := by
  cases r with
  | sh d => exact q
  | vr i => exact q
  | ow d =>
    obtain ⟨a, e, n, R, z⟩ := q
    exact ⟨a, e, Classical.byContradiction fun w => h a w n, R, z⟩
/-- how a rule of two values is met -/
def OpOk (K : PySem.W.Frag) (rr : R2) (f : D → D → Option RV) : Prop := ∀ (O : Addr → Prop) (H : Hp) (p q : D) (v1 v2 : V) (r : RV) (Q : VK), HO' O H → RepT K O H p v1 → RepT K O H q v2 → f p q = some r → (∀ v H', Same H H' → NewV K O H H' r v → Q v H') → rr v1 v2 H Q
def UnOk (K : PySem.W.Frag) (rr : V → Hp → VK → Prop) (f : D → Option RV) : Prop := ∀ (O : Addr → Prop) (H : Hp) (p : D) (v1 : V) (r : RV) (Q : VK), HO' O H → RepT K O H p v1 → f p = some r → (∀ v H', Same H H' → NewV K O H H' r v → Q v H') → rr v1 H Q
def FnOk' (K : PySem.W.Frag) (rr : List V → Hp → VK → Prop) (f : List D → Option RV) : Prop := ∀ (O : Addr → Prop) (H : Hp) (ds : List D) (vs : List V) (r : RV) (Q : VK), HO' O H → RepTs K O H ds vs → f ds = some r → (∀ v H', Same H H' → NewV K O H H' r v → Q v H') → rr vs H Q
theorem opt_some {α : Type} {x : Option α} {k : α → Res} {o : Out} (h : opt x k = some o) : ∃ a, x = some a ∧ k a = some o := by
  cases x with
  | none => cases h
  | some a => exact ⟨a, rfl, h⟩
theorem tE_op {rr : R2} {f : D → D → Option RV} {A B : DE} (ok : OpOk K rr f) (h : tE K mg W (eOp f A B) σ H Q) : tOp rr (tE K mg W A) (tE K mg W B) σ H Q := by
  obtain ⟨fx, own, ρ, k, hx, o, R, e, kn, kx⟩ := h
  refine ⟨fx, own, ρ, _, hx, o, R, e, fun r1 ρ1 v1 H1 own1 st1 val1 e1 => ?_, kx⟩
  obtain ⟨R1, u1⟩ := val1.use R.there
  refine ⟨fx, own1, ρ1, _, hx, o, R1, e1, fun r2 ρ2 v2 H2 own2 st2 val2 e2 => ?_, fun x ρ2 cls d H2 own2 st2 R2 rx e2 => kx x ρ2 cls d H2 own2 (st1.trans st2) R2 rx e2⟩
  obtain ⟨R2, u2⟩ := val2.use R1.there
  split at e2
  · rename_i p q ep eq
    obtain ⟨r, er, e3⟩ := opt_some e2
    refine ok _ H2 p q v1 v2 r Q R2.ho ((u1.step R1 st2).peek R2 ep) (u2.peek R2 eq) er fun v H' s n => ?_
    exact kn r ρ2 v H' own2 ((st1.trans st2).trans (.of_same s)) ((n.val R2 s).from (st1.trans st2).al) e3
  · cases e2
theorem tE_un {rr : V → Hp → VK → Prop} {f : D → Option RV} {A : DE} (ok : UnOk K rr f) (h : tE K mg W (eUn f A) σ H Q) : tUn rr (tE K mg W A) σ H Q := by
  obtain ⟨fx, own, ρ, k, hx, o, R, e, kn, kx⟩ := h
  refine ⟨fx, own, ρ, _, hx, o, R, e, fun r1 ρ1 v1 H1 own1 st1 val1 e1 => ?_, kx⟩
  obtain ⟨R1, u1⟩ := val1.use R.there
  obtain ⟨p, ep, e2⟩ := opt_some e1
  obtain ⟨r, er, e3⟩ := opt_some e2
  exact ok _ H1 p v1 r Q R1.ho (u1.peek R1 ep) er fun v H' s n => kn r ρ1 v H' own1 (st1.trans (.of_same s)) ((n.val R1 s).from st1.al) e3
theorem tE_fn {rr : List V → Hp → VK → Prop} {f : List D → Option RV} {A : DA} (ok : FnOk' K rr f) (h : tE K mg W (eFn f A) σ H Q) : tCB rr (tA K mg W A) σ H Q := by
  obtain ⟨fx, own, ρ, k, hx, o, R, e, kn, kx⟩ := h
  refine ⟨fx, own, ρ, _, hx, o, R, e, fun rs ρ1 vs H1 own1 st1 R1 u1 e1 => ?_, kx⟩
  obtain ⟨ds, ep, e2⟩ := opt_some e1
  obtain ⟨r, er, e3⟩ := opt_some e2
  exact ok _ H1 ds vs r Q R1.ho (u1.peeks R1 ep) er fun v H' s n => kn r ρ1 v H' own1 (st1.trans (.of_same s)) ((n.val R1 s).from st1.al) e3
end
section
variable {X : Cx} {W : WX} {a b : Expr} {es : List Expr} {A B : DE} {AS : DA} {pos : Pos}
theorem re_op {op : Operator} {rr : R2} {f : D → D → Option RV} (ho : OpR X (binaryOp op) rr) (ok : OpOk X.K rr f) (ha : RE X W a A) (hb : RE X W b B) : RE X W (.BinOp a op b pos) (eOp f A B) :=
  PE.imp (pe_op ho ha hb) fun _ _ _ h => tE_op ok h
theorem re_ix {rr : R2} {f : D → D → Option RV} (hr : IxR X rr) (ok : OpOk X.K rr f) (ha : RE X W a A) (hb : RE X W b B) (hs : PlainIx b) : RE X W (.Subscript a b pos) (eOp f A B) :=
  PE.imp (pe_ix hr ha hb hs) fun _ _ _ h => tE_op ok h
theorem re_un {op : UnaryOp} {rr : V → Hp → VK → Prop} {f : D → Option RV} (ho : UnR X (unaryOp op) rr) (ok : UnOk X.K rr f) (ha : RE X W a A) : RE X W (.UnaryOp op a pos) (eUn f A) :=
  PE.imp (pe_un ho ha) fun _ _ _ h => tE_un ok h
theorem re_const {e : Expr} {d : D} {v : V} (h : PE X e (tC v)) (r : ∀ (K : PySem.W.Frag) (O : Addr → Prop) (H : Hp), Rep K O H d v) : RE X W e (eC d) :=
  PE.imp h fun σ H Q ⟨fx, own, ρ, k, hx, o, R, e, kn, kx⟩ => kn (.sh d) ρ v H own .refl ⟨R, r _ _ _⟩ e
theorem re_int {i j pos} : RE X W (.Constant (.int i) j pos) (eC (.int i)) := re_const pe_int fun _ _ _ => ⟨.int i, fun m => nomatch m⟩
theorem re_bl {b j pos} : RE X W (.Constant (.bool b) j pos) (eC (.bool b)) := re_const pe_bl fun _ _ _ => ⟨.bl b, fun m => nomatch m⟩
theorem re_non {j pos} : RE X W (.Constant .none j pos) (eC .none) := re_const pe_non fun _ _ _ => ⟨.non, fun m => nomatch m⟩
theorem re_str {x j pos} : RE X W (.Constant (.str x) j pos) (eC (.str x)) := re_const pe_str fun _ _ _ => ⟨.str x, fun m => nomatch m⟩
theorem re_var {i : Nat} {x : Str} {pos : Pos} (hN : X.N[i]? = some x := by rfl) (hv : Vis X.env.scope x := by first | exact Or.inl rfl | exact Or.inr (Or.inl rfl) | exact Or.inr (Or.inr rfl)) (hd : (x == ("__debug__" : Str)) = false := by decide)
    (hcd : (x == ("__classdict__" : Str)) = false := by decide) : RE X W (.Name x pos) (eVar i) := by
  refine PE.imp (pe_var hN hv hd hcd) fun σ H Q ⟨fx, own, ρ, k, hx, o, R, e, kn, kx⟩ => ?_
  unfold eVar at e
  split at e
  · rename_i ev es
    obtain ⟨v, h1, _⟩ := R.sl es
    exact ⟨v, h1, kn (.vr i) ρ v H own .refl ⟨R, h1⟩ e⟩
  · cases e
theorem ra_nil : RA X W [] aNil := PA.imp pa_nil fun σ H Q ⟨fx, own, ρ, k, hx, o, R, e, kn, kx⟩ => kn [] ρ [] H own .refl R trivial e
theorem ra_cons (ha : RE X W a A) (hr : RA X W es AS) (hs : starEach (a :: es) X.env = (false, eval a X.env) :: starEach es X.env := by rfl) : RA X W (a :: es) (aCons A AS) := by
  refine PA.imp (pa_cons ha hr hs) fun σ H Q ⟨fx, own, ρ, k, hx, o, R, e, kn, kx⟩ => ?_
  refine ⟨fx, own, ρ, _, hx, o, R, e, fun r1 ρ1 v1 H1 own1 st1 val1 e1 => ?_, kx⟩
  obtain ⟨R1, u1⟩ := val1.use R.there
  refine ⟨fx, own1, ρ1, _, hx, o, R1, e1, fun rs ρ2 vs H2 own2 st2 R2 us e2 => ?_, fun x ρ2 cls d H2 own2 st2 R2 rx e2 => kx x ρ2 cls d H2 own2 (st1.trans st2) R2 rx e2⟩
  exact kn (r1.w :: rs) ρ2 (v1 :: vs) H2 own2 (st1.trans st2) R2 ⟨u1.step R1 st2, us⟩ e2
/-- a built-in function, a built-in class called -/
theorem re_fnB {x : Str} {id : String} {rr : List V → Hp → VK → Prop} {f : List D → Option RV} {p : Pos} (hc : CallR X (.builtin id) rr) (ok : FnOk' X.K rr f) (hg : Gl X x) (hm : X.mg x = none) (hv : bootBuiltins x = some (.builtin id)) (ha : RA X W (a :: es) AS) (hn : x ≠ "__name__" := by decide) (hdb : (x == ("__debug__" : Str)) = false := by decide)
    (he : starEach (a :: es) X.env = (false, eval a X.env) :: starEach es X.env := by rfl) (hpl : (backTo pos (starEach es X.env)).any (·.1) = false := by rfl) : RE X W (.Call (.Name x p) (a :: es) [] pos) (eFn f AS) :=
  PE.imp (pe_callB hc hg hm hv ha hn hdb he hpl) fun _ _ _ h => tE_fn ok h
theorem re_fnT {x : Str} {T : String} {rr : List V → Hp → VK → Prop} {f : List D → Option RV} {p : Pos} (hc : CallR X (.type T) rr) (ok : FnOk' X.K rr f) (hg : Gl X x) (hm : X.mg x = none) (hv : bootBuiltins x = some (.type T)) (ha : RA X W (a :: es) AS) (hn : x ≠ "__name__" := by decide) (hdb : (x == ("__debug__" : Str)) = false := by decide)
    (he : starEach (a :: es) X.env = (false, eval a X.env) :: starEach es X.env := by rfl) (hpl : (backTo pos (starEach es X.env)).any (·.1) = false := by rfl) : RE X W (.Call (.Name x p) (a :: es) [] pos) (eFn f AS) :=
  PE.imp (pe_callTy hc hg hm hv ha hn hdb he hpl) fun _ _ _ h => tE_fn ok h
end
end DL
set_option maxRecDepth 100000
set_option maxHeartbeats 1000000
/-! DY: tests, choices, displays; what is frozen, given, kept. -/
namespace DL
open PySem PySem.Spec PyProof.Rows L2
def tT (K : PySem.W.Frag) (mg : Str → Option Value) (W : WX) (F : DB) : TT := fun σ H Q => ∃ (fx : Fx) (own : Own) (ρ : Env) (k : KB) (h : KX) (o : Out), Rp K fx own σ H ρ ∧ F ρ k h = some o ∧
  (∀ b ρ' H' own', StepE H own H' own' → Rp K fx own' σ H' ρ' → k b ρ' = some o → Q b H') ∧
  (∀ x ρ' cls d H' own', StepE H own H' own' → Rp K fx own' σ H' ρ' → RepX K mg x cls d H' → h x ρ' = some o → W cls d σ H')
def RT (X : Cx) (W : WX) (e : Expr) (F : DB) : Prop := PT X e (tT X.K X.mg W F)
def RW (X : Cx) (W : WX) (e : Expr) (F : DB) : Prop := PW X e (tT X.K X.mg W F)
section
variable {K : PySem.W.Frag} {mg : Str → Option Value} {W : WX} {fx : Fx} {own own' : Own} {σ : L2.St} {H H' H0 : Hp} {ρ ρ' : Env} {Q : VK}
theorem sizeLim_eq : sizeLim = sizeLine := by rw [sizeLine_eq]; rfl
theorem tru_of {O : Addr → Prop} {d : D} {v : V} {b : Bool} (r : RepT K O H d v) (e : truth? d = some b) : TruV K v H b := by
  cases r with
  | non => cases e; rfl
  | bl c => cases e; rfl
  | int i =>
    have e' : some (!decide (i = 0)) = some b := e
    cases e'
    show (!decide (i = 0)) = (i != 0)
    rw [bne, Bool.beq_eq_decide_eq]
  | str x =>
    have e' : (if x.cps.size ≤ sizeLim then some (!decide (x.cps.size = 0)) else none) = some b := e
    split at e'
    · rename_i z
      cases e'
      refine ⟨by rw [← sizeLim_eq]; exact z, ?_⟩
      show (!decide (x.cps.size = 0)) = (((x.cps.size : Nat) : Int) != 0)
      rw [bne, Bool.beq_eq_decide_eq]
      congr 1
      by_cases q : x.cps.size = 0
      · simp [q]
      · have : ¬ ((x.cps.size : Nat) : Int) = 0 := by omega
        simp [q]
    · cases e'
  | lst r l =>
    rename_i a vs ds
    have e' : some (!ds.isEmpty) = some b := e
    cases e'
    refine .inl ⟨vs, .inl r, ?_⟩
    have := l.length
    cases ds <;> cases vs <;> first | rfl | (simp at this)
  | tup r l =>
    rename_i a vs ds
    have e' : some (!ds.isEmpty) = some b := e
    cases e'
    refine .inr (.inl ⟨vs, r, ?_⟩)
    have := l.length
    cases ds <;> cases vs <;> first | rfl | (simp at this)
  | dic r l => cases e
  | kls q => cases e
theorem tru_use (R : Rp K fx own σ H ρ) {r : RV} {v : V} {b : Bool} (u : UseR K fx own σ H r v) (e : (peek ρ r).bind truth? = some b) : TruV K v H b := by
  cases q : peek ρ r with
  | none => rw [q] at e; cases e
  | some d => rw [q] at e; exact tru_of (u.peek R q) e
end
section
variable {X : Cx} {W : WX} {a b c : Expr} {es rest : List Expr} {A B C : DE} {P S : DB} {AS : DA} {pos : Pos}
/-- a test by its value's truth -/
theorem rt_val (ha : RE X W a A) (he : ∀ whole, isTrue a X.env whole = (do let v ← whole; standAt a.pos; holding [v] (PySem.truthy v)) := by intro _; rfl) : RT X W a (cVal A) := by
  refine PT.imp (pt_truth ha he) fun σ H Q ⟨fx, own, ρ, k, hx, o, R, e, kn, kx⟩ => ?_
  refine ⟨fx, own, ρ, _, hx, o, R, e, fun r1 ρ1 v1 H1 own1 st1 val1 e1 => ?_, kx⟩
  obtain ⟨R1, u1⟩ := val1.use R.there
  obtain ⟨p, ep, e2⟩ := opt_some e1
  exact ⟨p, tru_use R1 u1 ep, kn p ρ1 H1 own1 st1 R1 e2⟩
/-- how a comparison's rule is met -/
def CmOk (K : PySem.W.Frag) (rr : R2) (f : D → D → Option Bool) : Prop := ∀ (O : Addr → Prop) (H : Hp) (p q : D) (v1 v2 : V) (b : Bool) (Q : VK), HO' O H → RepT K O H p v1 → RepT K O H q v2 → f p q = some b → Q (.bl b) H → rr v1 v2 H Q
theorem tE_cmp {K : PySem.W.Frag} {mg : Str → Option Value} {rr : R2} {f : D → D → Option Bool} {σ : L2.St} {H : Hp} {Q : Bool → Hp → Prop} (ok : CmOk K rr f) {Q' : VK} (hq : ∀ b H', Q b H' → Q' (.bl b) H') (h : tT K mg W (cCmp f A B) σ H Q) :
    tOp rr (tE K mg W A) (tE K mg W B) σ H Q' := by
  obtain ⟨fx, own, ρ, k, hx, o, R, e, kn, kx⟩ := h
  refine ⟨fx, own, ρ, _, hx, o, R, e, fun r1 ρ1 v1 H1 own1 st1 val1 e1 => ?_, kx⟩
  obtain ⟨R1, u1⟩ := val1.use R.there
  refine ⟨fx, own1, ρ1, _, hx, o, R1, e1, fun r2 ρ2 v2 H2 own2 st2 val2 e2 => ?_, fun x ρ2 cls d H2 own2 st2 R2 rx e2 => kx x ρ2 cls d H2 own2 (st1.trans st2) R2 rx e2⟩
  obtain ⟨R2, u2⟩ := val2.use R1.there
  split at e2
  · rename_i p q ep eq
    obtain ⟨t, er, e3⟩ := opt_some e2
    exact ok _ H2 p q v1 v2 t _ R2.ho ((u1.step R1 st2).peek R2 ep) (u2.peek R2 eq) er (hq _ _ (kn t ρ2 H2 own2 (st1.trans st2) R2 e3))
  · cases e2
theorem tE_chain {K : PySem.W.Frag} {mg : Str → Option Value} {rr rr' : R2} {f g : D → D → Option Bool} {σ : L2.St} {H : Hp} {Q : Bool → Hp → Prop} (ok : CmOk K rr f) (ok' : CmOk K rr' g) {Q' : VK} (hq : ∀ b H', Q b H' → Q' (.bl b) H') (h : tT K mg W (cChain f g A B C) σ H Q) :
    tChain rr rr' (tE K mg W A) (tE K mg W B) (tE K mg W C) σ H Q' := by
  obtain ⟨fx, own, ρ, k, hx, o, R, e, kn, kx⟩ := h
  refine ⟨fx, own, ρ, _, hx, o, R, e, fun r1 ρ1 v1 H1 own1 st1 val1 e1 => ?_, kx⟩
  obtain ⟨R1, u1⟩ := val1.use R.there
  refine ⟨fx, own1, ρ1, _, hx, o, R1, e1, fun r2 ρ2 v2 H2 own2 st2 val2 e2 => ?_, fun x ρ2 cls d H2 own2 st2 R2 rx e2 => kx x ρ2 cls d H2 own2 (st1.trans st2) R2 rx e2⟩
  obtain ⟨R2, u2⟩ := val2.use R1.there
  split at e2
  · rename_i p q ep eq
    obtain ⟨t, er, e3⟩ := opt_some e2
    refine ok _ H2 p q v1 v2 t _ R2.ho ((u1.step R1 st2).peek R2 ep) (u2.peek R2 eq) er ⟨t, rfl, ?_⟩
    cases t with
    | false => exact ite_ff (hq _ _ (kn false ρ2 H2 own2 (st1.trans st2) R2 e3))
    | true =>
      refine ite_tt ⟨fx, own2, ρ2, _, hx, o, R2, e3, fun r3 ρ3 v3 H3 own3 st3 val3 e4 => ?_, fun x ρ3 cls d H3 own3 st3 R3 rx e4 => kx x ρ3 cls d H3 own3 ((st1.trans st2).trans st3) R3 rx e4⟩
      obtain ⟨R3, u3⟩ := val3.use R2.there
      split at e4
      · rename_i q' s eq' es
        obtain ⟨t', er', e5⟩ := opt_some e4
        exact ok' _ H3 q' s v2 v3 t' _ R3.ho ((u2.step R2 st3).peek R3 eq') (u3.peek R3 es) er' (hq _ _ (kn t' ρ3 H3 own3 ((st1.trans st2).trans st3) R3 e5))
      · cases e4
  · cases e2
theorem tE_B {K : PySem.W.Frag} {mg : Str → Option Value} {σ : L2.St} {H : Hp} {Q : VK} (h : tE K mg W (eB P) σ H Q) : tT K mg W P σ H fun b H' => Q (.bl b) H' := by
  obtain ⟨fx, own, ρ, k, hx, o, R, e, kn, kx⟩ := h
  exact ⟨fx, own, ρ, _, hx, o, R, e, fun b ρ1 H1 own1 st1 R1 e1 => kn (.sh (.bool b)) ρ1 (.bl b) H1 own1 st1 ⟨R1, .bl b, fun m => nomatch m⟩ e1, kx⟩
theorem rt_cmp {op : CmpOp} {rr : R2} {f : D → D → Option Bool} (ho : OpR X (compareOp op) rr) (ok : CmOk X.K rr f) (ha : RE X W a A) (hb : RE X W b B) (hm : behindInMarks op b = false := by first | exact nobehind _ (by decide) (by decide) | rfl) : RT X W (.Compare a [op] [b] pos) (cCmp f A B) :=
  PT.imp (pt_cmpR ho ha hb hm) fun _ _ _ h => tE_cmp ok (fun b _ q => ⟨b, rfl, q⟩) h
theorem re_cmp {op : CmpOp} {rr : R2} {f : D → D → Option Bool} (ho : OpR X (compareOp op) rr) (ok : CmOk X.K rr f) (ha : RE X W a A) (hb : RE X W b B) (hm : behindInMarks op b = false := by first | exact nobehind _ (by decide) (by decide) | rfl) : RE X W (.Compare a [op] [b] pos) (eB (cCmp f A B)) :=
  PE.imp (pe_cmpR ho ha hb hm) fun _ _ _ h => tE_cmp ok (fun _ _ q => q) (tE_B h)
theorem rt_chain {op op' : CmpOp} {rr rr' : R2} {f g : D → D → Option Bool} (ho : OpR X (compareOp op) rr) (ho' : OpR X (compareOp op') rr') (ok : CmOk X.K rr f) (ok' : CmOk X.K rr' g) (ha : RE X W a A) (hb : RE X W b B) (hc : RE X W c C)
    (hm : lastMarks [op, op'] [b, c] = false := by with_unfolding_all rfl) : RT X W (.Compare a [op, op'] [b, c] pos) (cChain f g A B C) :=
  PT.imp (pt_chain ho ho' ha hb hc hm) fun _ _ _ h => tE_chain ok ok' (fun b _ q => ⟨b, rfl, q⟩) h
theorem re_chain {op op' : CmpOp} {rr rr' : R2} {f g : D → D → Option Bool} (ho : OpR X (compareOp op) rr) (ho' : OpR X (compareOp op') rr') (ok : CmOk X.K rr f) (ok' : CmOk X.K rr' g) (ha : RE X W a A) (hb : RE X W b B) (hc : RE X W c C)
    (hm : lastMarks [op, op'] [b, c] = false := by with_unfolding_all rfl) : RE X W (.Compare a [op, op'] [b, c] pos) (eB (cChain f g A B C)) :=
  PE.imp (pe_chain ho ho' ha hb hc hm) fun _ _ _ h => tE_chain ok ok' (fun _ _ q => q) (tE_B h)
/-! ### and, or, not as tests -/
theorem rw_and1 (ha : RT X W a P) : RW X W (.BoolOp .And [a] pos) P := pw_and1 ha
theorem rw_or1 (ha : RT X W a P) : RW X W (.BoolOp .Or [a] pos) P := pw_or1 ha
theorem PW.imp {X : Cx} {e : Expr} {t t' : TT} (h : PW X e t) (f : ∀ σ H Q, t' σ H Q → t σ H Q) : PW X e t' := ⟨fun wh pins s σ H Q I q => h.run wh pins s σ H Q I (f σ H Q q)⟩
theorem rw_and (ha : RT X W a P) (hb : RW X W (.BoolOp .And (b :: rest) pos) S) : RW X W (.BoolOp .And (a :: b :: rest) pos) (cAnd P S) := by
  refine PW.imp (pw_and ha hb) fun σ H Q ⟨fx, own, ρ, k, hx, o, R, e, kn, kx⟩ => ?_
  refine ⟨fx, own, ρ, _, hx, o, R, e, fun b1 ρ1 H1 own1 st1 R1 e1 => ?_, kx⟩
  cases b1 with
  | true => exact ite_tt ⟨fx, own1, ρ1, k, hx, o, R1, e1, fun b2 ρ2 H2 own2 st2 R2 e2 => kn b2 ρ2 H2 own2 (st1.trans st2) R2 e2, fun x ρ2 cls d H2 own2 st2 R2 rx e2 => kx x ρ2 cls d H2 own2 (st1.trans st2) R2 rx e2⟩
  | false => exact ite_ff (kn false ρ1 H1 own1 st1 R1 e1)
theorem rw_or (ha : RT X W a P) (hb : RW X W (.BoolOp .Or (b :: rest) pos) S) : RW X W (.BoolOp .Or (a :: b :: rest) pos) (cOr P S) := by
  refine PW.imp (pw_or ha hb) fun σ H Q ⟨fx, own, ρ, k, hx, o, R, e, kn, kx⟩ => ?_
  refine ⟨fx, own, ρ, _, hx, o, R, e, fun b1 ρ1 H1 own1 st1 R1 e1 => ?_, kx⟩
  cases b1 with
  | false => exact ite_ff ⟨fx, own1, ρ1, k, hx, o, R1, e1, fun b2 ρ2 H2 own2 st2 R2 e2 => kn b2 ρ2 H2 own2 (st1.trans st2) R2 e2, fun x ρ2 cls d H2 own2 st2 R2 rx e2 => kx x ρ2 cls d H2 own2 (st1.trans st2) R2 rx e2⟩
  | true => exact ite_tt (kn true ρ1 H1 own1 st1 R1 e1)
theorem rt_of (h : RW X W a P) : RT X W a P := PW.pt h
theorem rt_not (ha : RT X W a P) : RT X W (.UnaryOp .Not a pos) (cNot P) := by
  refine PT.imp (pt_not ha) fun σ H Q ⟨fx, own, ρ, k, hx, o, R, e, kn, kx⟩ => ?_
  exact ⟨fx, own, ρ, _, hx, o, R, e, fun b1 ρ1 H1 own1 st1 R1 e1 => kn _ ρ1 H1 own1 st1 R1 e1, kx⟩
/-! ### as values -/
theorem re_one {op} (h : RE X W a A) : RE X W (.BoolOp op [a] pos) A := pe_one h
theorem re_and (ha : RE X W a A) (hb : RE X W (.BoolOp .And (b :: rest) pos) B) : RE X W (.BoolOp .And (a :: b :: rest) pos) (eAnd A B) := by
  refine PE.imp (pe_andT ha hb) fun σ H Q ⟨fx, own, ρ, k, hx, o, R, e, kn, kx⟩ => ?_
  refine ⟨fx, own, ρ, _, hx, o, R, e, fun r1 ρ1 v1 H1 own1 st1 val1 e1 => ?_, kx⟩
  obtain ⟨R1, u1⟩ := val1.use R.there
  obtain ⟨p, ep, e2⟩ := opt_some e1
  refine ⟨p, tru_use R1 u1 ep, ?_⟩
  cases p with
  | true => exact ite_tt ⟨fx, own1, ρ1, k, hx, o, R1, e2, fun r2 ρ2 v2 H2 own2 st2 val2 e2 => kn r2 ρ2 v2 H2 own2 (st1.trans st2) (val2.from st1.al) e2, fun x ρ2 cls d H2 own2 st2 R2 rx e2 => kx x ρ2 cls d H2 own2 (st1.trans st2) R2 rx e2⟩
  | false => exact ite_ff (kn r1.w ρ1 v1 H1 own1 st1 (val1.w R.there).2 e2)
theorem re_or (ha : RE X W a A) (hb : RE X W (.BoolOp .Or (b :: rest) pos) B) : RE X W (.BoolOp .Or (a :: b :: rest) pos) (eOr A B) := by
  refine PE.imp (pe_orT ha hb) fun σ H Q ⟨fx, own, ρ, k, hx, o, R, e, kn, kx⟩ => ?_
  refine ⟨fx, own, ρ, _, hx, o, R, e, fun r1 ρ1 v1 H1 own1 st1 val1 e1 => ?_, kx⟩
  obtain ⟨R1, u1⟩ := val1.use R.there
  obtain ⟨p, ep, e2⟩ := opt_some e1
  refine ⟨p, tru_use R1 u1 ep, ?_⟩
  cases p with
  | false => exact ite_ff ⟨fx, own1, ρ1, k, hx, o, R1, e2, fun r2 ρ2 v2 H2 own2 st2 val2 e2 => kn r2 ρ2 v2 H2 own2 (st1.trans st2) (val2.from st1.al) e2, fun x ρ2 cls d H2 own2 st2 R2 rx e2 => kx x ρ2 cls d H2 own2 (st1.trans st2) R2 rx e2⟩
  | true => exact ite_tt (kn r1.w ρ1 v1 H1 own1 st1 (val1.w R.there).2 e2)
theorem re_not (ha : RE X W a A) : RE X W (.UnaryOp .Not a pos) (eNot A) := by
  refine PE.imp (pe_notT ha) fun σ H Q ⟨fx, own, ρ, k, hx, o, R, e, kn, kx⟩ => ?_
  refine ⟨fx, own, ρ, _, hx, o, R, e, fun r1 ρ1 v1 H1 own1 st1 val1 e1 => ?_, kx⟩
  obtain ⟨R1, u1⟩ := val1.use R.there
  obtain ⟨p, ep, e2⟩ := opt_some e1
  exact ⟨p, tru_use R1 u1 ep, kn (.sh (.bool (!p))) ρ1 _ H1 own1 st1 ⟨R1, .bl _, fun m => nomatch m⟩ e2⟩
theorem re_if (hc : RT X W c P) (ha : RE X W a A) (hb : RE X W b B) : RE X W (.IfExp c a b pos) (eIf P A B) := by
  refine PE.imp (pe_ifExp hc ha hb) fun σ H Q ⟨fx, own, ρ, k, hx, o, R, e, kn, kx⟩ => ?_
  refine ⟨fx, own, ρ, _, hx, o, R, e, fun b1 ρ1 H1 own1 st1 R1 e1 => ?_, kx⟩
  cases b1 with
  | true => exact ite_tt ⟨fx, own1, ρ1, k, hx, o, R1, e1, fun r2 ρ2 v2 H2 own2 st2 val2 e2 => kn r2 ρ2 v2 H2 own2 (st1.trans st2) (val2.from st1.al) e2, fun x ρ2 cls d H2 own2 st2 R2 rx e2 => kx x ρ2 cls d H2 own2 (st1.trans st2) R2 rx e2⟩
  | false => exact ite_ff ⟨fx, own1, ρ1, k, hx, o, R1, e1, fun r2 ρ2 v2 H2 own2 st2 val2 e2 => kn r2 ρ2 v2 H2 own2 (st1.trans st2) (val2.from st1.al) e2, fun x ρ2 cls d H2 own2 st2 R2 rx e2 => kx x ρ2 cls d H2 own2 (st1.trans st2) R2 rx e2⟩
end
/-! ### what is frozen -/
section
variable {K : PySem.W.Frag} {mg : Str → Option Value} {W : WX} {fx : Fx} {own own' : Own} {σ : L2.St} {H H' H0 : Hp} {ρ ρ' : Env} {Q : VK}
def drop (own : Own) (i : Nat) : Own := fun j => if j = i then none else own j
theorem drop_le {i : Nat} : ∀ j a, drop own i j = some a → own j = some a := fun j a e => by
  unfold drop at e
  split at e
  · cases e
  · exact e
theorem drop_ne {i j : Nat} {a : Addr} (e : drop own i j = some a) : j ≠ i := fun z => by
  unfold drop at e
  rw [if_pos z] at e; cases e
theorem drop_of {i j : Nat} (n : j ≠ i) : drop own i j = own j := if_neg n
theorem StepE.drop {i : Nat} : StepE H own H (drop own i) := ⟨fun _ _ e _ => e, drop_le, fun _ e => e⟩
/-- one's own is taken out of its slot, by another thing there -/
theorem Rp.freeze (R : Rp K fx own σ H ρ) {i : Nat} {d : D} (h : DL.slot ρ i = some (.ow d)) : ∃ a, σ[i]? = some (some (.ref a)) ∧ own i = some a ∧ ¬ OO fx (drop own i) a ∧ RepO K (OO fx (drop own i)) H d a ∧ Rp K fx (drop own i) σ H (ρ.set i (some (.sh d))) := by
  obtain ⟨a, h1, h2, h3⟩ := R.ow i _ h rfl
  have le := oo_le (fx := fx) (own := own) (own' := drop own i) drop_le
  have na : ¬ OO fx (drop own i) a := fun z => by
    rcases z with z | ⟨j, z⟩
    · exact R.nox i a h1 z
    · exact drop_ne z (R.inj j i a (drop_le j a z) h1)
  have hl := slot_lt h
  refine ⟨a, h2, h1, na, h3.anti le, ?_⟩
  exact { len := by rw [R.len, List.length_set], old := R.old, trk := R.trk,
          sh := fun j d' e => by
            by_cases hj : j = i
            · subst hj
              rw [slot_set_same hl] at e
              cases e
              exact ⟨_, h2, (h3.anti le).rep na⟩
            · rw [slot_set_ne hj] at e
              obtain ⟨v, q1, q2⟩ := R.sh j d' e
              exact ⟨v, q1, q2.anti le⟩
          ow := fun j e q m => by
            by_cases hj : j = i
            · subst hj
              rw [slot_set_same hl] at q
              cases q
              cases m
            · rw [slot_set_ne hj] at q
              obtain ⟨b, q1, q2, q3⟩ := R.ow j e q m
              exact ⟨b, (drop_of hj).trans q1, q2, q3.anti le⟩
          dom := fun j b e => by
            obtain ⟨ev, q, m⟩ := R.dom j b (drop_le j b e)
            exact ⟨ev, (slot_set_ne (drop_ne e)).trans q, m⟩
          inj := fun j l b e1 e2 => R.inj j l b (drop_le j b e1) (drop_le l b e2)
          nox := fun j b e => R.nox j b (drop_le j b e)
          new := fun j b d' e q => R.new j b d' (drop_le j b e) ((slot_set_ne (drop_ne e)).symm.trans q)
          ios := fun j b e => by
            obtain ⟨q1, d', q2⟩ := R.ios j b e
            have hj : j ≠ i := fun z => by
              subst z
              rw [h] at q2; cases q2
            exact ⟨(drop_of hj).trans q1, d', (slot_set_ne hj).trans q2⟩ }
theorem freeze_ok (R : Rp K fx own σ H ρ) {r : RV} {v : V} (u : UseR K fx own σ H r v) {k : D → Env → Res} {o : Out} (e : DL.freeze ρ r k = some o) : ∃ d ρ' own', k d ρ' = some o ∧ StepE H own H own' ∧ Rp K fx own' σ H ρ' ∧ Rep K (OO fx own') H d v := by
  cases r with
  | sh d => exact ⟨d, ρ, own, e, .refl, R, u⟩
  | ow d => exact u.elim
  | vr i =>
    have e : (match DL.slot ρ i with
      | some (.sh d) => k d ρ
      | some (.ow d) => k d (ρ.set i (some (.sh d)))
      | _ => none) = some o := e
    split at e
    · rename_i d h
      obtain ⟨w, h1, h2⟩ := R.sh _ d h
      have : some (some v) = some (some w) := (show σ[_]? = some (some v) from u).symm.trans h1
      cases this
      exact ⟨d, ρ, own, e, .refl, R, h2⟩
    · rename_i d h
      obtain ⟨a, h1, h2, h3, h4, h5⟩ := R.freeze h
      have : some (some v) = some (some (.ref a)) := (show σ[_]? = some (some v) from u).symm.trans h1
      cases this
      exact ⟨d, _, _, e, .drop, h5, h4.rep h3⟩
    · cases e
theorem freezes_ok : ∀ {rs : List RV} {vs : List V} {own : Own} {ρ : Env} (R : Rp K fx own σ H ρ) (u : UseL K fx own σ H rs vs) {k : List D → Env → Res} {o : Out} (e : DL.freezes ρ rs k = some o), ∃ ds ρ' own', k ds ρ' = some o ∧ StepE H own H own' ∧ Rp K fx own' σ H ρ' ∧ RepL K (OO fx own') H ds vs
  | [], [], own, ρ, R, _, k, o, e => ⟨[], ρ, own, e, .refl, R, .nil⟩
  | r :: rs, v :: vs, own, ρ, R, ⟨u, us⟩, k, o, e => by
    obtain ⟨d, ρ1, own1, e1, s1, R1, q1⟩ := freeze_ok R u (show DL.freeze ρ r (fun d ρ1 => freezes ρ1 rs fun ds ρ2 => k (d :: ds) ρ2) = some o from e)
    obtain ⟨ds, ρ2, own2, e2, s2, R2, q2⟩ := freezes_ok (rs := rs) (vs := vs) R1 (us.step R s1) e1
    have q1' := Rep.step R1 s2 q1
    exact ⟨d :: ds, ρ2, own2, e2, s1.trans s2, R2, .cons q1'.1 q1'.2 q2⟩
  | [], _ :: _, _, _, _, h, _, _, _ => h.elim
  | _ :: _, [], _, _, _, h, _, _, _ => h.elim
theorem same_upd' {p : Addr} {o : HO} (hp : H p = none) : Same H (upd H p o) := fun b u q => by
  rw [upd_ne (ne_of_none q hp)]; exact q
end
section
variable {X : Cx} {W : WX} {es : List Expr} {AS : DA} {pos : Pos}
theorem re_lst (h : RA X W es AS) : RE X W (.List es pos) (eLst AS) := by
  refine PE.imp (pe_lst h) fun σ H Q ⟨fx, own, ρ, k, hx, o, R, e, kn, kx⟩ => ?_
  refine ⟨fx, own, ρ, _, hx, o, R, e, fun rs ρ1 vs H1 own1 st1 R1 u1 e1 => ?_, kx⟩
  obtain ⟨ds, ρ2, own2, e2, s2, R2, q2⟩ := freezes_ok R1 u1 e1
  split at e2
  · rename_i hz
    refine ⟨by rw [← q2.length, ← sizeLim_eq]; exact hz, fun p hp => ?_⟩
    have s : Same H1 (upd H1 p (.lst vs)) := same_upd' hp
    refine kn (.ow (.list ds)) ρ2 (.ref p) _ own2 ((st1.trans s2).trans (.of_same s)) (ValR.from (st1.trans s2).al (NewV.val R2 s ⟨p, rfl, hp, vs, upd_same, ?_⟩)) e2
    exact (q2.fresh (O' := fun b => OO fx own2 b ∨ b = p) fun b z => z.elim .inl fun z => .inr (by rw [z]; exact hp)).kp (fun b o z e => z.elim (fun z => R2.ho b o z e) fun z => by rw [z, hp] at e; cases e) (.of fun b o _ e => s b o e)
  · cases e2
theorem re_tup {x1} (h : RA X W es AS) : RE X W (.Tuple es x1 pos) (eTup AS) := by
  refine PE.imp (pe_tup h) fun σ H Q ⟨fx, own, ρ, k, hx, o, R, e, kn, kx⟩ => ?_
  refine ⟨fx, own, ρ, _, hx, o, R, e, fun rs ρ1 vs H1 own1 st1 R1 u1 e1 => ?_, kx⟩
  obtain ⟨ds, ρ2, own2, e2, s2, R2, q2⟩ := freezes_ok R1 u1 e1
  split at e2
  · rename_i hz
    refine ⟨by rw [← q2.length, ← sizeLim_eq]; exact hz, fun p hp => ?_⟩
    have s : Same H1 (upd H1 p (.tup vs)) := same_upd' hp
    refine kn (.sh (.tuple ds)) ρ2 (.ref p) _ own2 ((st1.trans s2).trans (.of_same s)) ⟨R2.same s, .tup (SqT.of upd_same) ?_, fun m => nomatch m⟩ e2
    exact q2.kp R2.ho (.of fun b o _ e => s b o e)
  · cases e2
end
end DL
set_option maxRecDepth 100000
set_option maxHeartbeats 1000000
/-! DZ: statements by their plain functions. -/
namespace DL
open PySem PySem.Spec PyProof.Rows L2
structure StepS (H : Hp) (own : Own) (H' : Hp) (own' : Own) : Prop where
  keep : ∀ a o, H a = some o → (∀ i, own i ≠ some a) → H' a = some o
  le : ∀ i a, own' i = some a → (∃ j, own j = some a) ∨ H a = none
  al : ∀ a, H a ≠ none → H' a ≠ none
theorem StepE.s {H H' : Hp} {own own' : Own} (s : StepE H own H' own') : StepS H own H' own' := ⟨s.keep, fun i a e => .inl ⟨i, s.le i a e⟩, s.al⟩
theorem StepS.refl {H : Hp} {own : Own} : StepS H own H own := StepE.refl.s
theorem StepS.trans {H H1 H2 : Hp} {o o1 o2 : Own} (a : StepS H o H1 o1) (b : StepS H1 o1 H2 o2) : StepS H o H2 o2 where
  keep := fun c u e n => b.keep c u (a.keep c u e n) fun i z => by
    rcases a.le i c z with ⟨j, q⟩ | q
    · exact n j q
    · rw [e] at q; cases q
  le := fun i c e => by
    rcases b.le i c e with ⟨j, q⟩ | q
    · exact a.le j c q
    · exact .inr (Classical.byContradiction fun z => a.al c z q)
  al := fun c e => b.al c (a.al c e)
section
variable {K : PySem.W.Frag} {mg : Str → Option Value} {W : WX} {fx : Fx} {own own' : Own} {σ σ' : L2.St} {H H' H0 : Hp} {ρ ρ' : Env} {Q : VK}
/-- data stays over statements -/
theorem Rep.stepS {d : D} {v : V} (R : Rp K fx own σ H ρ) (s : StepS H own H' own') (r : Rep K (OO fx own) H d v) : Rep K (OO fx own') H' d v := by
  have f : Fresh (OO fx own) (fun a => OO fx own a ∨ OO fx own' a) H := fun a z => by
    rcases z with z | z | ⟨i, z⟩
    · exact .inl z
    · exact .inl (.inl z)
    · rcases s.le i a z with q | q
      · exact .inl (.inr q)
      · exact .inr q
  have hO : HO' (fun a => OO fx own a ∨ OO fx own' a) H := fun a o z e => by
    rcases f a z with q | q
    · exact R.ho a o q e
    · rw [e] at q; cases q
  have k : Kp (fun a => OO fx own a ∨ OO fx own' a) H H' := .of fun a o n e => s.keep a o e fun i z => n (.inl (.inr ⟨i, z⟩))
  exact ((r.fresh f).kp hO k).anti fun a z => .inr z
/-- what is given out -/
def ValE (K : PySem.W.Frag) (fx : Fx) (own : Own) (σ : L2.St) (H : Hp) (ρ : Env) (e : EV) (v : V) : Prop := match e with
  | .sh d => Rp K fx own σ H ρ ∧ Rep K (OO fx own) H d v
  | .ow d => ∃ a, v = .ref a ∧ fx.N0 a ∧ Rp K (fx.add a) own σ H ρ ∧ RepO K (OO (fx.add a) own) H d a
  | .io _ => False
def tS (K : PySem.W.Frag) (mg : Str → Option Value) (W : WX) (F : DS) : TS := fun Ed σ H => ∃ (fx : Fx) (own : Own) (ρ : Env) (C : Conts) (o : Out), Rp K fx own σ H ρ ∧ F ρ C = some o ∧
  (∀ ρ' σ' H' own', StepS H own H' own' → Rp K fx own' σ' H' ρ' → C.nx ρ' = some o → Ed.nx σ' H') ∧
  (∀ e ρ' v σ' H' own', StepS H own H' own' → ValE K fx own' σ' H' ρ' e v → C.rt e ρ' = some o → Ed.rt v H') ∧
  (∀ ρ' σ' H' own', StepS H own H' own' → Rp K fx own' σ' H' ρ' → C.bk ρ' = some o → Ed.bk σ' H') ∧
  (∀ ρ' σ' H' own', StepS H own H' own' → Rp K fx own' σ' H' ρ' → C.ct ρ' = some o → Ed.ct σ' H') ∧
  (∀ x ρ' cls d σ' H' own', StepS H own H' own' → Rp K fx own' σ' H' ρ' → RepX K mg x cls d H' → C.ex x ρ' = some o → W cls d σ' H')
def RS (X : Cx) (W : WX) (st : Stmt) (F : DS) : Prop := PS X st (tS X.K X.mg W F)
def RSs (X : Cx) (W : WX) (st : List Stmt) (F : DS) : Prop := PSs X st (tS X.K X.mg W F)
theorem Rp.n0 (R : Rp K fx own σ H ρ) {a : Addr} (h : H a = none) : fx.N0 a := Classical.byContradiction fun z => R.old a z h
/-- a slot is stored: data -/
theorem Rp.put_sh (R : Rp K fx own σ H ρ) {i : Nat} {d : D} {v : V} (hl : loose ρ i = true) (r : Rep K (OO fx own) H d v) : Rp K fx (drop own i) (σ.set i (some v)) H (ρ.set i (some (.sh d))) := by
  have le := oo_le (fx := fx) (own := own) (own' := drop own i) drop_le
  have hi : i < ρ.length := by
    unfold loose at hl
    split at hl
    · cases hl
    · exact of_decide_eq_true hl
  have hio : ∀ d', DL.slot ρ i ≠ some (.io d') := fun d' z => by
    unfold loose at hl
    rw [z] at hl; cases hl
  have hσ : i < σ.length := by rw [R.len]; exact hi
  exact { len := by rw [List.length_set, List.length_set, R.len], old := R.old, trk := R.trk,
          sh := fun j d' e => by
            by_cases hj : j = i
            · subst hj
              rw [slot_set_same hi] at e
              cases e
              exact ⟨v, List.getElem?_set_self hσ, r.anti le⟩
            · rw [slot_set_ne hj] at e
              obtain ⟨u, q1, q2⟩ := R.sh j d' e
              exact ⟨u, by rw [List.getElem?_set_ne (Ne.symm hj)]; exact q1, q2.anti le⟩
          ow := fun j e q m => by
            by_cases hj : j = i
            · subst hj
              rw [slot_set_same hi] at q
              cases q
              cases m
            · rw [slot_set_ne hj] at q
              obtain ⟨b, q1, q2, q3⟩ := R.ow j e q m
              exact ⟨b, (drop_of hj).trans q1, by rw [List.getElem?_set_ne (Ne.symm hj)]; exact q2, q3.anti le⟩
          dom := fun j b e => by
            obtain ⟨ev, q, m⟩ := R.dom j b (drop_le j b e)
            exact ⟨ev, (slot_set_ne (drop_ne e)).trans q, m⟩
          inj := fun j l b e1 e2 => R.inj j l b (drop_le j b e1) (drop_le l b e2)
          nox := fun j b e => R.nox j b (drop_le j b e)
          new := fun j b d' e q => R.new j b d' (drop_le j b e) ((slot_set_ne (drop_ne e)).symm.trans q)
          ios := fun j b e => by
            obtain ⟨q1, d', q2⟩ := R.ios j b e
            have hj : j ≠ i := fun z => by
              subst z
              exact hio _ q2
            exact ⟨(drop_of hj).trans q1, d', (slot_set_ne hj).trans q2⟩ }
def take (own : Own) (i : Nat) (a : Addr) : Own := fun j => if j = i then some a else own j
theorem take_ne {i j : Nat} {a : Addr} (h : j ≠ i) : take own i a j = own j := if_neg h
theorem take_at {i : Nat} {a : Addr} : take own i a i = some a := if_pos rfl
theorem oo_take {i : Nat} {a : Addr} : ∀ b, OO fx (take own i a) b → OO (fx.add a) own b := fun b z => by
  rcases z with z | ⟨j, z⟩
  · exact .inl (.inl z)
  · by_cases hj : j = i
    · subst hj
      rw [take_at] at z
      cases z
      exact .inl (.inr rfl)
    · rw [take_ne hj] at z
      exact .inr ⟨j, z⟩
/-- .. a list or dict of one's own -/
theorem Rp.put_ow {i : Nat} {d : D} {a : Addr} (R : Rp K (fx.add a) own σ H ρ) (hl : loose ρ i = true) (r : RepO K (OO (fx.add a) own) H d a) (n0 : fx.N0 a) (na : ¬ fx.Ox a) : Rp K fx (take own i a) (σ.set i (some (.ref a))) H (ρ.set i (some (.ow d))) := by
  have hi : i < ρ.length := by
    unfold loose at hl
    split at hl
    · cases hl
    · exact of_decide_eq_true hl
  have hio : ∀ d', DL.slot ρ i ≠ some (.io d') := fun d' z => by
    unfold loose at hl
    rw [z] at hl; cases hl
  have hσ : i < σ.length := by rw [R.len]; exact hi
  have nown : ∀ j, own j ≠ some a := fun j z => R.nox j a z (.inr rfl)
  exact { len := by rw [List.length_set, List.length_set, R.len], old := R.old, trk := fun b z => R.trk b (.inl z),
          sh := fun j d' e => by
            by_cases hj : j = i
            · subst hj
              rw [slot_set_same hi] at e
              cases e
            · rw [slot_set_ne hj] at e
              obtain ⟨u, q1, q2⟩ := R.sh j d' e
              exact ⟨u, by rw [List.getElem?_set_ne (Ne.symm hj)]; exact q1, q2.anti oo_take⟩
          ow := fun j e q m => by
            by_cases hj : j = i
            · subst hj
              rw [slot_set_same hi] at q
              cases q
              exact ⟨a, take_at, List.getElem?_set_self hσ, r.anti oo_take⟩
            · rw [slot_set_ne hj] at q
              obtain ⟨b, q1, q2, q3⟩ := R.ow j e q m
              exact ⟨b, (take_ne hj).trans q1, by rw [List.getElem?_set_ne (Ne.symm hj)]; exact q2, q3.anti oo_take⟩
          dom := fun j b e => by
            by_cases hj : j = i
            · subst hj
              exact ⟨_, slot_set_same hi, rfl⟩
            · rw [take_ne hj] at e
              obtain ⟨ev, q, m⟩ := R.dom j b e
              exact ⟨ev, (slot_set_ne hj).trans q, m⟩
          inj := fun j l b e1 e2 => by
            by_cases hj : j = i
            · by_cases hm : l = i
              · rw [hj, hm]
              · rw [hj, take_at] at e1; cases e1
                rw [take_ne hm] at e2
                exact absurd e2 (nown l)
            · rw [take_ne hj] at e1
              by_cases hm : l = i
              · rw [hm, take_at] at e2; cases e2
                exact absurd e1 (nown j)
              · rw [take_ne hm] at e2
                exact R.inj j l b e1 e2
          nox := fun j b e => by
            by_cases hj : j = i
            · subst hj
              rw [take_at] at e; cases e
              exact na
            · rw [take_ne hj] at e
              exact fun z => R.nox j b e (.inl z)
          new := fun j b d' e q => by
            by_cases hj : j = i
            · subst hj
              rw [take_at] at e; cases e
              exact n0
            · rw [take_ne hj] at e
              rw [slot_set_ne hj] at q
              exact R.new j b d' e q
          ios := fun j b e => by
            obtain ⟨q1, d', q2⟩ := R.ios j b e
            have hj : j ≠ i := fun z => by
              subst z
              exact hio _ q2
            exact ⟨(take_ne hj).trans q1, d', (slot_set_ne hj).trans q2⟩ }
theorem put_some {i : Nat} {e : EV} {k : Env → Res} {o : Out} (h : DL.put ρ i e k = some o) : loose ρ i = true ∧ k (ρ.set i (some e)) = some o := by
  unfold DL.put at h
  split at h
  · rename_i z; exact ⟨z, h⟩
  · cases h
/-- the value kept for a store -/
theorem keep_ok (R0 : ∀ a, fx.Ox a → H0 a ≠ none) {r : RV} {v : V} (q : ValR K fx own σ H0 H ρ r v) {k : EV → Env → Res} {o : Out} (e : DL.keep ρ r k = some o) :
    ∃ ev ρ' own', k ev ρ' = some o ∧ StepE H own H own' ∧ ((∃ d, ev = .sh d ∧ Rp K fx own' σ H ρ' ∧ Rep K (OO fx own') H d v) ∨ ∃ d a, ev = .ow d ∧ v = .ref a ∧ H0 a = none ∧ ¬ fx.Ox a ∧ own' = own ∧ ρ' = ρ ∧ Rp K (fx.add a) own' σ H ρ' ∧ RepO K (OO (fx.add a) own') H d a) := by
  cases r with
  | sh d => exact ⟨.sh d, ρ, own, e, .refl, .inl ⟨d, rfl, q⟩⟩
  | ow d =>
    obtain ⟨a, q1, q2, q3, q4⟩ := q
    exact ⟨.ow d, ρ, own, e, .refl, .inr ⟨d, a, rfl, q1, q2, fun z => R0 a z q2, rfl, rfl, q3, q4⟩⟩
  | vr i =>
    obtain ⟨d, ρ1, own1, e1, s1, R1, q1⟩ := freeze_ok (r := .vr i) q.1 q.2 (show DL.freeze ρ (.vr i) (fun d ρ1 => k (.sh d) ρ1) = some o from e)
    exact ⟨.sh d, ρ1, own1, e1, s1, .inl ⟨d, rfl, R1, q1⟩⟩
/-- .. put into a slot -/
theorem kept_put {i : Nat} {ev : EV} {v : V} (h : (∃ d, ev = .sh d ∧ Rp K fx own σ H ρ ∧ Rep K (OO fx own) H d v) ∨ ∃ d a, ev = .ow d ∧ v = .ref a ∧ H0 a = none ∧ ¬ fx.Ox a ∧ Rp K (fx.add a) own σ H ρ ∧ RepO K (OO (fx.add a) own) H d a)
    (hl : loose ρ i = true) (n0 : ∀ a, H0 a = none → fx.N0 a) : ∃ own', (∀ j a, own' j = some a → (∃ l, own l = some a) ∨ H0 a = none) ∧ Rp K fx own' (σ.set i (some v)) H (ρ.set i (some ev)) := by
  rcases h with ⟨d, rfl, R, r⟩ | ⟨d, a, rfl, rfl, hn, na, R, r⟩
  · exact ⟨_, fun j a e => .inl ⟨j, drop_le j a e⟩, R.put_sh hl r⟩
  · refine ⟨_, fun j b e => ?_, R.put_ow hl r (n0 a hn) na⟩
    by_cases hj : j = i
    · subst hj
      rw [take_at] at e; cases e
      exact .inr hn
    · rw [take_ne hj] at e
      exact .inl ⟨j, e⟩
/-- the value given out -/
theorem give_ok (R0 : ∀ a, fx.Ox a → H0 a ≠ none) (n0 : ∀ a, H0 a = none → fx.N0 a) {r : RV} {v : V} (q : ValR K fx own σ H0 H ρ r v) {k : EV → Env → Res} {o : Out} (e : DL.give ρ r k = some o) :
    ∃ ev ρ' own', k ev ρ' = some o ∧ StepE H own H own' ∧ ValE K fx own' σ H ρ' ev v := by
  cases r with
  | sh d => exact ⟨.sh d, ρ, own, e, .refl, q⟩
  | ow d =>
    obtain ⟨a, q1, q2, q3, q4⟩ := q
    exact ⟨.ow d, ρ, own, e, .refl, a, q1, n0 a q2, q3, q4⟩
  | vr i =>
    obtain ⟨R, u⟩ := q
    have e : (match DL.slot ρ i with
      | some (.sh d) => k (.sh d) ρ
      | some (.ow d) => k (.ow d) (ρ.set i none)
      | _ => none) = some o := e
    split at e
    · rename_i d h
      obtain ⟨w, h1, h2⟩ := R.sh _ d h
      have : some (some v) = some (some w) := u.symm.trans h1
      cases this
      exact ⟨.sh d, ρ, own, e, .refl, R, h2⟩
    · rename_i d h
      obtain ⟨a, h1, h2, h3, h4, h5⟩ := R.freeze h
      have : some (some v) = some (some (.ref a)) := u.symm.trans h1
      cases this
      have n := R.new i a d h2 h
      have hl := slot_lt h
      have sub : ∀ b, OO (fx.add a) (drop own i) b → OO fx own b := fun b z => by
        rcases z with (z | z) | ⟨j, z⟩
        · exact .inl z
        · rw [z]; exact .inr ⟨i, h2⟩
        · exact .inr ⟨j, drop_le j b z⟩
      refine ⟨.ow d, _, DL.drop own i, e, StepE.drop, a, rfl, n, ?_, ?_⟩
      · exact { len := by rw [R.len, List.length_set], old := R.old,
                trk := fun b z => by
                  rcases z with z | z
                  · exact R.trk b z
                  · rw [z]; exact h4.mut.2
                sh := fun j d' q => by
                  by_cases hj : j = i
                  · subst hj
                    rw [slot_set_same hl] at q
                    cases q
                  · rw [slot_set_ne hj] at q
                    obtain ⟨w, q1, q2⟩ := R.sh j d' q
                    exact ⟨w, q1, q2.anti sub⟩
                ow := fun j e' q m => by
                  by_cases hj : j = i
                  · subst hj
                    rw [slot_set_same hl] at q
                    cases q
                  · rw [slot_set_ne hj] at q
                    obtain ⟨b, q1, q2, q3⟩ := R.ow j e' q m
                    exact ⟨b, (drop_of hj).trans q1, q2, q3.anti sub⟩
                dom := fun j b e' => by
                  obtain ⟨ev, q, m⟩ := R.dom j b (drop_le j b e')
                  exact ⟨ev, (slot_set_ne (drop_ne e')).trans q, m⟩
                inj := fun j l b e1 e2 => R.inj j l b (drop_le j b e1) (drop_le l b e2)
                nox := fun j b e' z => by
                  rcases z with z | z
                  · exact R.nox j b (drop_le j b e') z
                  · rw [z] at e'
                    exact drop_ne e' (R.inj j i a (drop_le j a e') h2)
                new := fun j b d' e' q => R.new j b d' (drop_le j b e') ((slot_set_ne (drop_ne e')).symm.trans q)
                ios := fun j b e' => by
                  obtain ⟨q1, d', q2⟩ := R.ios j b e'
                  have hj : j ≠ i := fun z => by
                    subst z
                    rw [h] at q2; cases q2
                  exact ⟨(drop_of hj).trans q1, d', (slot_set_ne hj).trans q2⟩ }
      · have hx := R.ow i _ h rfl
        obtain ⟨a', w1, w2, w3⟩ := hx
        rw [h2] at w1; cases w1
        exact w3.anti sub
    · cases e
end
section
variable {X : Cx} {W : WX} {st : Stmt} {sts : List Stmt} {e c : Expr} {F G : DS} {A : DE} {P : DB} {pos : Pos}
theorem rss_nil : RSs X W [] sNil := PSs.imp pss_nil fun Ed σ H ⟨fx, own, ρ, C, o, R, e, kn, kr, kb, kc, kx⟩ => kn ρ σ H own .refl R e
theorem rss_cons (h1 : RS X W st F) (h2 : RSs X W sts G) : RSs X W (st :: sts) (sSeq F G) := by
  refine PSs.imp (pss_cons h1 h2) fun Ed σ H ⟨fx, own, ρ, C, o, R, e, kn, kr, kb, kc, kx⟩ => ?_
  exact ⟨fx, own, ρ, _, o, R, e, fun ρ1 σ1 H1 own1 s1 R1 e1 => ⟨fx, own1, ρ1, C, o, R1, e1,
      fun ρ2 σ2 H2 own2 s2 R2 e2 => kn ρ2 σ2 H2 own2 (s1.trans s2) R2 e2, fun ev ρ2 v σ2 H2 own2 s2 R2 e2 => kr ev ρ2 v σ2 H2 own2 (s1.trans s2) R2 e2,
      fun ρ2 σ2 H2 own2 s2 R2 e2 => kb ρ2 σ2 H2 own2 (s1.trans s2) R2 e2, fun ρ2 σ2 H2 own2 s2 R2 e2 => kc ρ2 σ2 H2 own2 (s1.trans s2) R2 e2,
      fun x ρ2 cls d σ2 H2 own2 s2 R2 rx e2 => kx x ρ2 cls d σ2 H2 own2 (s1.trans s2) R2 rx e2⟩, kr, kb, kc, kx⟩
theorem rss_one (h1 : RS X W st F) : RSs X W [st] F := pss_one h1
theorem rs_pass : RS X W (.Pass pos) sPass := PS.imp ps_pass fun Ed σ H ⟨fx, own, ρ, C, o, R, e, kn, kr, kb, kc, kx⟩ => kn ρ σ H own .refl R e
theorem rs_break : RS X W (.Break pos) sBreak := PS.imp ps_break fun Ed σ H ⟨fx, own, ρ, C, o, R, e, kn, kr, kb, kc, kx⟩ => kb ρ σ H own .refl R e
theorem rs_cont : RS X W (.Continue pos) sCont := PS.imp ps_continue fun Ed σ H ⟨fx, own, ρ, C, o, R, e, kn, kr, kb, kc, kx⟩ => kc ρ σ H own .refl R e
theorem rs_never : RS X W st sNo := PS.imp ps_never fun Ed σ H ⟨fx, own, ρ, C, o, R, e, _⟩ => nomatch e
theorem rs_expr (he : RE X W e A) (hs : swapsWith e none pos.line X.env = pure false := by rfl) : RS X W (.Expr e pos) (sExpr A) := by
  refine PS.imp (ps_expr he hs) fun Ed σ H ⟨fx, own, ρ, C, o, R, e, kn, kr, kb, kc, kx⟩ => ?_
  exact ⟨fx, own, ρ, _, C.ex, o, R, e, fun r ρ1 v H1 own1 s1 q1 e1 => kn ρ1 σ H1 own1 s1.s (q1.use R.there).1 e1, fun x ρ1 cls d H1 own1 s1 R1 rx e1 => kx x ρ1 cls d σ H1 own1 s1.s R1 rx e1⟩
theorem rs_ret (he : RE X W e A) : RS X W (.Return (some e) pos) (sRet A) := by
  refine PS.imp (ps_ret he) fun Ed σ H ⟨fx, own, ρ, C, o, R, e, kn, kr, kb, kc, kx⟩ => ?_
  refine ⟨fx, own, ρ, _, C.ex, o, R, e, fun r ρ1 v H1 own1 s1 q1 e1 => ?_, fun x ρ1 cls d H1 own1 s1 R1 rx e1 => kx x ρ1 cls d σ H1 own1 s1.s R1 rx e1⟩
  obtain ⟨ev, ρ2, own2, e2, s2, q2⟩ := give_ok R.there (fun a z => R.n0 z) q1 e1
  exact kr ev ρ2 v σ H1 own2 (s1.trans s2).s q2 e2
theorem rs_retN : RS X W (.Return none pos) sRetN := PS.imp ps_retN fun Ed σ H ⟨fx, own, ρ, C, o, R, e, kn, kr, kb, kc, kx⟩ => kr (.sh .none) ρ .non σ H own .refl ⟨R, .non, fun m => nomatch m⟩ e
theorem rs_if (hc : RT X W c P) (ha : RSs X W sts F) {sts' : List Stmt} (hb : RSs X W sts' G) : RS X W (.If c sts sts' pos) (sIf P F G) := by
  refine PS.imp (ps_if hc ha hb) fun Ed σ H ⟨fx, own, ρ, C, o, R, e, kn, kr, kb, kc, kx⟩ => ?_
  refine ⟨fx, own, ρ, _, C.ex, o, R, e, fun b ρ1 H1 own1 s1 R1 e1 => ?_, fun x ρ1 cls d H1 own1 s1 R1 rx e1 => kx x ρ1 cls d σ H1 own1 s1.s R1 rx e1⟩
  have go : ∀ {F : DS}, F ρ1 C = some o → tS X.K X.mg W F Ed σ H1 := fun {F} z => ⟨fx, own1, ρ1, C, o, R1, z,
      fun ρ2 σ2 H2 own2 s2 R2 e2 => kn ρ2 σ2 H2 own2 (s1.s.trans s2) R2 e2, fun ev ρ2 v σ2 H2 own2 s2 R2 e2 => kr ev ρ2 v σ2 H2 own2 (s1.s.trans s2) R2 e2,
      fun ρ2 σ2 H2 own2 s2 R2 e2 => kb ρ2 σ2 H2 own2 (s1.s.trans s2) R2 e2, fun ρ2 σ2 H2 own2 s2 R2 e2 => kc ρ2 σ2 H2 own2 (s1.s.trans s2) R2 e2,
      fun x ρ2 cls d σ2 H2 own2 s2 R2 rx e2 => kx x ρ2 cls d σ2 H2 own2 (s1.s.trans s2) R2 rx e2⟩
  cases b with
  | true => exact ite_tt (go e1)
  | false => exact ite_ff (go e1)
theorem sset_ok {i : Nat} {K : PySem.W.Frag} {mg : Str → Option Value} {σ : L2.St} {H : Hp} {Ed : Ends} (h : tS K mg W (sSet i A) Ed σ H) : tAsg (tE K mg W A) (gName i) Ed σ H := by
  obtain ⟨fx, own, ρ, C, o, R, e, kn, kr, kb, kc, kx⟩ := h
  refine ⟨fx, own, ρ, _, C.ex, o, R, e, fun r ρ1 v H1 own1 s1 q1 e1 => ?_, fun x ρ1 cls d H1 own1 s1 R1 rx e1 => kx x ρ1 cls d σ H1 own1 s1.s R1 rx e1⟩
  obtain ⟨ev, ρ2, own2, e2, s2, q2⟩ := keep_ok R.there q1 e1
  obtain ⟨hl, e3⟩ := put_some e2
  obtain ⟨own3, le3, R3⟩ := kept_put (H0 := H) (by
    rcases q2 with q2 | ⟨d, a, q2, q3, q4, q5, _, _, q6, q7⟩
    · exact .inl q2
    · exact .inr ⟨d, a, q2, q3, q4, q5, q6, q7⟩) hl (fun a z => R.n0 z)
  refine kn _ _ H1 own3 ⟨(s1.trans s2).keep, fun j a z => ?_, (s1.trans s2).al⟩ R3 e3
  rcases le3 j a z with ⟨l, q⟩ | q
  · exact .inl ⟨l, (s1.trans s2).le l a q⟩
  · exact .inr q
theorem rs_set {i : Nat} {x : Str} {pos' : Pos} (hN : X.N.Nodup) (he : RE X W e A) (hi : X.N[i]? = some x := by rfl) (hx : Loc X.env.scope x := by first | exact Or.inl rfl | exact Or.inr rfl) (hs : swapsWith e (some (.Name x pos')) pos.line X.env = pure false := by rfl)
    (hf : X.fn x = true ∨ X.env.scope.names.lookup x = some .local := by first | exact .inl rfl | exact .inr rfl | assumption) : RS X W (.Assign [.Name x pos'] e pos) (sSet i A) := by
  exact PS.imp (ps_set hN hi hx he hs hf) fun Ed σ H h => sset_ok h
end
end DL
set_option maxRecDepth 100000
set_option maxHeartbeats 1000000
/-! DW: targets, loops. -/
namespace DL
open PySem PySem.Spec PyProof.Rows L2
/-- S: the slots that are stored -/
def Else (S : List Nat) (σ σ' : L2.St) : Prop := σ'.length = σ.length ∧ ∀ i, i ∉ S → σ'[i]? = σ[i]?
def tG (K : PySem.W.Frag) (S : List Nat) (T : DT) : TG := fun v σ H Q => ∃ (fx : Fx) (own : Own) (ρ : Env) (d : D) (k : Env → Res) (o : Out), Rp K fx own σ H ρ ∧ Rep K (OO fx own) H d v ∧ T d ρ k = some o ∧
  ∀ ρ' σ' own', StepE H own H own' → Rp K fx own' σ' H ρ' → Else S σ σ' → k ρ' = some o → Q σ' H
def tGs (K : PySem.W.Frag) (S : List Nat) (T : DTs) : TGs := fun vs σ H Q => ∃ (fx : Fx) (own : Own) (ρ : Env) (ds : List D) (k : Env → Res) (o : Out), Rp K fx own σ H ρ ∧ RepL K (OO fx own) H ds vs ∧ T ds ρ k = some o ∧
  ∀ ρ' σ' own', StepE H own H own' → Rp K fx own' σ' H ρ' → Else S σ σ' → k ρ' = some o → Q σ' H
def RG (X : Cx) (e : Expr) (S : List Nat) (T : DT) : Prop := PG X e (tG X.K S T)
def RGs (X : Cx) (es : List Expr) (S : List Nat) (T : DTs) : Prop := PGs X es (tGs X.K S T)
theorem PG.imp {X : Cx} {e : Expr} {t t' : TG} (h : PG X e t) (f : ∀ v σ H Q, t' v σ H Q → t v σ H Q) : PG X e t' := ⟨fun pins s σ H v u Q I r q => h.run pins s σ H v u Q I r (f v σ H Q q)⟩
theorem PGs.imp {X : Cx} {e : List Expr} {t t' : TGs} (h : PGs X e t) (f : ∀ v σ H Q, t' v σ H Q → t v σ H Q) : PGs X e t' := ⟨fun pins s σ H v u Q I r q => h.run pins s σ H v u Q I r (f v σ H Q q)⟩
theorem RepL.step {K : PySem.W.Frag} {fx : Fx} {own own' : Own} {σ : L2.St} {H H' : Hp} {ρ : Env} (R : Rp K fx own σ H ρ) (s : StepE H own H' own') {ds : List D} {vs : List V} (r : RepL K (OO fx own) H ds vs) : RepL K (OO fx own') H' ds vs :=
  (r.kp R.ho s.kp).anti (oo_le s.le)
section
variable {X : Cx} {W : WX} {tg e : Expr} {es : List Expr} {T : DT} {TS' : DTs} {S S' : List Nat} {A : DE} {F : DS} {P : DB} {body : List Stmt} {pos : Pos}
theorem rg_name {i : Nat} {x : Str} (hN : X.N.Nodup) (hi : X.N[i]? = some x := by rfl) (hx : Loc X.env.scope x := by first | exact Or.inl rfl | exact Or.inr rfl) (hf : X.fn x = true ∨ X.env.scope.names.lookup x = some .local := by first | exact .inl rfl | exact .inr rfl | assumption) : RG X (.Name x pos) [i] (tName i) := by
  refine PG.imp (pg_name hN hi hx hf) fun v σ H Q ⟨fx, own, ρ, d, k, o, R, r, e, kn⟩ => ?_
  obtain ⟨hl, e1⟩ := put_some e
  exact kn _ _ _ .drop (R.put_sh hl r) ⟨List.length_set, fun j hj => List.getElem?_set_ne fun z => hj (by rw [← z]; exact List.mem_cons_self)⟩ e1
theorem rgs_nil : RGs X [] [] tsNil := by
  refine PGs.imp pgs_nil fun v σ H Q ⟨fx, own, ρ, d, k, o, R, r, e, kn⟩ => ?_
  cases r with
  | nil => exact ⟨rfl, kn ρ σ own .refl R ⟨rfl, fun _ _ => rfl⟩ e⟩
  | cons _ _ _ => cases e
theorem rgs_cons (h1 : RG X e S T) (h2 : RGs X es S' TS') (hs : (assignEach (e :: es) X.env).map (·.2) = assign e X.env :: (assignEach es X.env).map (·.2) := by rfl) : RGs X (e :: es) (S ++ S') (tsCons T TS') := by
  refine PGs.imp (pgs_cons h1 h2 hs) fun v σ H Q ⟨fx, own, ρ, d, k, o, R, r, e, kn⟩ => ?_
  cases r with
  | nil => cases e
  | cons r n l =>
    refine ⟨_, _, rfl, fx, own, ρ, _, _, o, R, ⟨r, n⟩, e, fun ρ1 σ1 own1 s1 R1 w1 e1 => ?_⟩
    exact ⟨fx, own1, ρ1, _, k, o, R1, RepL.step R s1 l, e1, fun ρ2 σ2 own2 s2 R2 w2 e2 => kn ρ2 σ2 own2 (s1.trans s2) R2 ⟨w2.1.trans w1.1, fun i hi => (w2.2 i fun z => hi (List.mem_append_right _ z)).trans (w1.2 i fun z => hi (List.mem_append_left _ z))⟩ e2⟩
theorem rg_tup {k : Nat} {n : Nat} (hc : X.calm = true) (h : RGs X es S TS') (hlen : ∀ ds ρ k o, TS' ds ρ k = some o → ds.length = n)
    (hn : (assignEach es X.env).length = n := by rfl) (hst : (assignEach es X.env).findIdx? (·.1) = none := by rfl) : RG X (.Tuple es k pos) S (tTup TS') := by
  refine PG.imp (pg_tup hc h hn hst) fun v σ H Q ⟨fx, own, ρ, d, k, o, R, r, e, kn⟩ => ?_
  cases d with
  | tuple ds =>
    have e : TS' ds ρ k = some o := e
    obtain ⟨r1, r2⟩ := r
    cases r1 with
    | tup q l => exact ⟨_, _, rfl, q, by rw [← l.length]; exact hlen ds ρ k o e, fx, own, ρ, ds, k, o, R, l, e, kn⟩
  | _ => cases e
theorem ts_nil_len : ∀ (ds : List D) (ρ : Env) (k : Env → Res) (o : Out), tsNil ds ρ k = some o → ds.length = 0 := fun ds ρ k o e => by
  cases ds with
  | nil => rfl
  | cons _ _ => cases e
theorem ts_name_len {i n : Nat} {T : DTs} (h : ∀ ds ρ k o, T ds ρ k = some o → ds.length = n) : ∀ (ds : List D) (ρ : Env) (k : Env → Res) (o : Out), tsCons (tName i) T ds ρ k = some o → ds.length = n + 1 := fun ds ρ k o e => by
  cases ds with
  | nil => cases e
  | cons d r =>
    have e : DL.put ρ i (.sh d) (fun ρ1 => T r ρ1 k) = some o := e
    obtain ⟨_, e1⟩ := put_some e
    rw [List.length_cons, h _ _ _ _ e1]
theorem ts_tup_len {n : Nat} {S T : DTs} (h : ∀ ds ρ k o, T ds ρ k = some o → ds.length = n) (hS : ∀ ds ρ k o, S ds ρ k = some o → ∃ ρ', k ρ' = some o) : ∀ (ds : List D) (ρ : Env) (k : Env → Res) (o : Out), tsCons (tTup S) T ds ρ k = some o → ds.length = n + 1 := fun ds ρ k o e => by
  cases ds with
  | nil => cases e
  | cons d r =>
    have e : tTup S d ρ (fun ρ1 => T r ρ1 k) = some o := e
    cases d with
    | tuple xs =>
      obtain ⟨ρ', e1⟩ := hS _ _ _ _ e
      rw [List.length_cons, h _ _ _ _ e1]
    | _ => cases e
theorem ts_nil_k : ∀ (ds : List D) (ρ : Env) (k : Env → Res) (o : Out), tsNil ds ρ k = some o → ∃ ρ', k ρ' = some o := fun ds ρ k o e => by
  cases ds with
  | nil => exact ⟨ρ, e⟩
  | cons _ _ => cases e
theorem ts_name_k {i : Nat} {T : DTs} (h : ∀ ds ρ k o, T ds ρ k = some o → ∃ ρ', k ρ' = some o) : ∀ (ds : List D) (ρ : Env) (k : Env → Res) (o : Out), tsCons (tName i) T ds ρ k = some o → ∃ ρ', k ρ' = some o := fun ds ρ k o e => by
  cases ds with
  | nil => cases e
  | cons d r =>
    have e : DL.put ρ i (.sh d) (fun ρ1 => T r ρ1 k) = some o := e
    obtain ⟨_, e1⟩ := put_some e
    exact h _ _ _ _ e1
/-- target = e, the target of several names -/
theorem rs_asg (he : RE X W e A) (hg : RG X tg S T) (hs : swapsWithSole [tg] e pos.line X.env = pure false := by rfl) (hw : swappedStores [tg] e X.env = pure none := by rfl)
    (h1 : (assignEach [tg] X.env).map (·.2) = [assign tg X.env] := by rfl) : RS X W (.Assign [tg] e pos) (sAsg T A) := by
  refine PS.imp (ps_asg he hg hs hw h1) fun Ed σ H ⟨fx, own, ρ, C, o, R, e, kn, kr, kb, kc, kx⟩ => ?_
  refine ⟨fx, own, ρ, _, C.ex, o, R, e, fun r ρ1 v H1 own1 s1 q1 e1 => ?_, fun x ρ1 cls d H1 own1 s1 R1 rx e1 => kx x ρ1 cls d σ H1 own1 s1.s R1 rx e1⟩
  have fr : ∀ {r : RV}, DL.freeze ρ1 r (fun d ρ2 => T d ρ2 C.nx) = some o → DL.freeze ρ1 r.w (fun d ρ2 => T d ρ2 C.nx) = some o := fun {r} z => by
    cases r <;> exact z
  obtain ⟨R1, u1⟩ := q1.use R.there
  obtain ⟨d, ρ2, own2, e2, s2, R2, q2⟩ := freeze_ok R1 u1 (fr e1)
  exact ⟨fx, own2, ρ2, d, C.nx, o, R2, q2, e2, fun ρ3 σ3 own3 s3 R3 _ e3 => kn ρ3 σ3 H1 own3 (s1.trans (s2.trans s3)).s R3 e3⟩
end
/-! ### what is walked -/
/-- J walks the items xs while P holds -/
structure Wk (K : PySem.W.Frag) (J : It) (xs : List D) (P : (Addr → Prop) → Hp → Prop) : Prop where
  ev : ∀ O H O' H', P O H → (∀ d v, Rep K O H d v → Rep K O' H' d v) → P O' H'
  stop : ∀ O H, P O H → J.stop xs.length H
  go : ∀ O H i d, P O H → xs[i]? = some d → J.go i H ∧ ∀ x H', J.yld i H x H' → Same H H' ∧ (HO' O H → Rep K O H' d x)
def tI (K : PySem.W.Frag) (mg : Str → Option Value) (W : WX) (F : DI) : TI := fun σ H R => ∃ (fx : Fx) (own : Own) (ρ : Env) (k : List D → Env → Res) (h : KX) (o : Out), Rp K fx own σ H ρ ∧ F ρ k h = some o ∧
  (∀ xs ρ' J H' own' P, StepE H own H' own' → Rp K fx own' σ H' ρ' → Wk K J xs P → P (OO fx own') H' → k xs ρ' = some o → R J H') ∧
  (∀ x ρ' cls d H' own', StepE H own H' own' → Rp K fx own' σ H' ρ' → RepX K mg x cls d H' → h x ρ' = some o → W cls d σ H')
def RI (X : Cx) (W : WX) (tg iter : Expr) (F : DI) : Prop := PI X tg iter (tI X.K X.mg W F)
theorem PI.imp {X : Cx} {tg e : Expr} {t t' : TI} (h : PI X tg e t) (f : ∀ σ H R, t' σ H R → t σ H R) : PI X tg e t' := ⟨fun pins s σ H R I q => h.run pins s σ H R I (f σ H R q)⟩
section
variable {K : PySem.W.Frag} {mg : Str → Option Value} {W : WX} {fx : Fx} {own own' : Own} {σ σ' : L2.St} {H H' H0 : Hp} {ρ ρ' : Env} {Q : VK}
theorem Rep.sameR {d : D} {v : V} (R : Rp K fx own σ H ρ) (s : Same H H') (r : Rep K (OO fx own) H d v) : Rep K (OO fx own) H' d v := r.kp R.ho (.of fun a o _ e => s a o e)
theorem loop_ok {wi : TI} {T : DT} {S : List Nat} {F : DS} {IT : DI} (Ed : Ends) (h : tS K mg W (sFor IT T F) Ed σ H) : tFor (tI K mg W IT) (tG K S T) (tS K mg W F) Ed σ H := by
  obtain ⟨fx, own, ρ, C, o, R, e, kn, kr, kb, kc, kx⟩ := h
  refine ⟨fx, own, ρ, _, C.ex, o, R, e, fun xs ρ1 J H1 own1 P s1 R1 wk p1 e1 => ?_, fun x ρ1 cls d H1 own1 s1 R1 rx e1 => kx x ρ1 cls d σ H1 own1 s1.s R1 rx e1⟩
  refine ⟨fun i m σ2 H2 => m = xs.length - i ∧ i ≤ xs.length ∧ ∃ own2 ρ2, StepS H own H2 own2 ∧ Rp K fx own2 σ2 H2 ρ2 ∧ P (OO fx own2) H2 ∧ DL.loop T F C (xs.drop i) ρ2 = some o,
    ⟨xs.length, by simp, Nat.zero_le _, own1, ρ1, s1.s, R1, p1, e1⟩, ?_⟩
  rintro i m σ2 H2 ⟨rfl, hi, own2, ρ2, s2, R2, p2, e2⟩
  by_cases hlt : i < xs.length
  · refine .inr ?_
    obtain ⟨hgo, hy⟩ := wk.go _ _ i xs[i] p2 (by simp [hlt])
    rw [List.drop_eq_getElem_cons hlt] at e2
    refine ⟨hgo, fun σ' H' => ∃ own3 ρ3, StepS H own H' own3 ∧ Rp K fx own3 σ' H' ρ3 ∧ P (OO fx own3) H' ∧ DL.loop T F C (xs.drop (i + 1)) ρ3 = some o, ?_, ?_⟩
    · rintro σ' H' ⟨own3, ρ3, q1, q2, q3, q4⟩
      exact ⟨xs.length - (i + 1), by omega, rfl, hlt, own3, ρ3, q1, q2, q3, q4⟩
    · intro x H3 y
      obtain ⟨same, rx⟩ := hy x H3 y
      have R3 := R2.same same
      have p3 : P (OO fx own2) H3 := wk.ev _ _ _ _ p2 fun d v r => Rep.sameR R2 same r
      have s3 : StepS H own H3 own2 := s2.trans (StepE.of_same same).s
      refine ⟨fx, own2, ρ2, xs[i], _, o, R3, rx R2.ho, e2, fun ρ4 σ4 own4 st4 R4 _ e4 => ?_⟩
      have s4 : StepS H own H3 own4 := s3.trans st4.s
      have p4 : P (OO fx own4) H3 := wk.ev _ _ _ _ p3 fun d v r => Rep.step R3 st4 r
      have nx : ∀ ρ5 σ5 H5 own5, StepS H3 own4 H5 own5 → Rp K fx own5 σ5 H5 ρ5 → DL.loop T F C (xs.drop (i + 1)) ρ5 = some o →
          ∃ own3 ρ3, StepS H own H5 own3 ∧ Rp K fx own3 σ5 H5 ρ3 ∧ P (OO fx own3) H5 ∧ DL.loop T F C (xs.drop (i + 1)) ρ3 = some o :=
        fun ρ5 σ5 H5 own5 st5 R5 e5 => ⟨own5, ρ5, s4.trans st5, R5, wk.ev _ _ _ _ p4 fun d v r => Rep.stepS R4 st5 r, e5⟩
      exact ⟨fx, own4, ρ4, _, o, R4, e4, nx, fun ev ρ5 v σ5 H5 own5 st5 q5 e5 => kr ev ρ5 v σ5 H5 own5 (s4.trans st5) q5 e5,
        fun ρ5 σ5 H5 own5 st5 R5 e5 => kn ρ5 σ5 H5 own5 (s4.trans st5) R5 e5, nx,
        fun x ρ5 cls d σ5 H5 own5 st5 R5 rx e5 => kx x ρ5 cls d σ5 H5 own5 (s4.trans st5) R5 rx e5⟩
  · have hie : i = xs.length := by omega
    subst hie
    rw [List.drop_length] at e2
    exact .inl ⟨wk.stop _ _ p2, kn ρ2 σ2 H2 own2 s2 R2 e2⟩
theorem while_ok {P : DB} {F : DS} (Ed : Ends) (h : tS K mg W (sWhile P F) Ed σ H) : tWhile (tT K mg W P) (tS K mg W F) Ed σ H := by
  obtain ⟨fx, own, ρ, C, o, R, e, kn, kr, kb, kc, kx⟩ := h
  refine ⟨fun m σ2 H2 => ∃ own2 ρ2, StepS H own H2 own2 ∧ Rp K fx own2 σ2 H2 ρ2 ∧ DL.whileN P F C m ρ2 = some o, ⟨fuel, own, ρ, .refl, R, e⟩, ?_⟩
  rintro m σ2 H2 ⟨own2, ρ2, s2, R2, e2⟩
  cases m with
  | zero => cases e2
  | succ n =>
    refine ⟨fx, own2, ρ2, _, C.ex, o, R2, e2, fun b ρ3 H3 own3 st3 R3 e3 => ?_, fun x ρ1 cls d H1 own1 s1 R1 rx e1 => kx x ρ1 cls d σ2 H1 own1 (s2.trans s1.s) R1 rx e1⟩
    have s3 := s2.trans st3.s
    cases b with
    | false => exact ite_ff (kn ρ3 σ2 H3 own3 s3 R3 e3)
    | true =>
      refine ite_tt ⟨fun σ' H' => ∃ own2 ρ2, StepS H own H' own2 ∧ Rp K fx own2 σ' H' ρ2 ∧ DL.whileN P F C n ρ2 = some o, fun σ' H' q => ⟨n, Nat.lt_succ_self n, q⟩, ?_⟩
      have nx : ∀ ρ5 σ5 H5 own5, StepS H3 own3 H5 own5 → Rp K fx own5 σ5 H5 ρ5 → DL.whileN P F C n ρ5 = some o → ∃ own2 ρ2, StepS H own H5 own2 ∧ Rp K fx own2 σ5 H5 ρ2 ∧ DL.whileN P F C n ρ2 = some o :=
        fun ρ5 σ5 H5 own5 st5 R5 e5 => ⟨own5, ρ5, s3.trans st5, R5, e5⟩
      exact ⟨fx, own3, ρ3, _, o, R3, e3, nx, fun ev ρ5 v σ5 H5 own5 st5 q5 e5 => kr ev ρ5 v σ5 H5 own5 (s3.trans st5) q5 e5,
        fun ρ5 σ5 H5 own5 st5 R5 e5 => kn ρ5 σ5 H5 own5 (s3.trans st5) R5 e5, nx,
        fun x ρ5 cls d σ5 H5 own5 st5 R5 rx e5 => kx x ρ5 cls d σ5 H5 own5 (s3.trans st5) R5 rx e5⟩
end
section
variable {X : Cx} {W : WX} {tg iter c : Expr} {T : DT} {S : List Nat} {F : DS} {P : DB} {IT : DI} {body : List Stmt} {pos : Pos}
theorem rs_for (hp : PassesOwn (model X.prog X.w) X.A X.env X.xe) (hc : X.calm = true) (hi : RI X W tg iter IT) (hg : RG X tg S T) (hb : RSs X W body F) (hs : ∀ x, foldedSetIterable iter X.env x = pure x := by intro _; rfl) : RS X W (.For tg iter body [] pos) (sFor IT T F) :=
  PS.imp (ps_for hp hc hi hg hb hs) fun Ed σ H h => loop_ok (wi := tI X.K X.mg W IT) Ed h
theorem rs_while (hp : PassesOwn (model X.prog X.w) X.A X.env X.xe) (hc : RT X W c P) (hb : RSs X W body F) : RS X W (.While c body [] pos) (sWhile P F) :=
  PS.imp (ps_while hp hc hb) fun Ed σ H h => while_ok Ed h
end
end DL
set_option maxRecDepth 100000
set_option maxHeartbeats 1000000
/-! DV: what a for or a comprehension walks, by plain lists. -/
namespace DL
open PySem PySem.Spec PyProof.Rows L2 RZ RT
theorem wk_of {K : PySem.W.Frag} {J : It} {n : Nat} {G : Hp → Prop} {Y : Nat → Hp → V → Hp → Prop} {xs : List D} {P : (Addr → Prop) → Hp → Prop} (w : Walk J n G Y) (hn : n = xs.length)
    (ev : ∀ O H O' H', P O H → (∀ d v, Rep K O H d v → Rep K O' H' d v) → P O' H') (hG : ∀ O H, P O H → G H)
    (hY : ∀ O H i x H' d, xs[i]? = some d → P O H → Y i H x H' → Same H H' ∧ (HO' O H → Rep K O H' d x)) : Wk K J xs P where
  ev := ev
  stop := fun O H p => by rw [← hn]; exact w.stops H (hG O H p)
  go := fun O H i d p e => by
    have hi : i < n := by rw [hn]; exact (List.getElem?_eq_some_iff.mp e).1
    exact ⟨w.goes i H hi (hG O H p), fun x H' y => hY O H i x H' d e p (w.yields i H x H' hi (hG O H p) y)⟩
section
variable {K : PySem.W.Frag} {O : Addr → Prop} {H H' : Hp}
theorem rep_list {ds : List D} {v : V} (r : Rep K O H (.list ds) v) : ∃ a vs, v = .ref a ∧ Rd H a (.lst vs) ∧ RepL K O H ds vs := by
  obtain ⟨r, n⟩ := r
  cases r with
  | lst q l => exact ⟨_, _, rfl, q, l⟩
theorem rep_tuple {ds : List D} {v : V} (r : Rep K O H (.tuple ds) v) : ∃ a vs, v = .ref a ∧ SqT K H a vs ∧ RepL K O H ds vs := by
  obtain ⟨r, n⟩ := r
  cases r with
  | tup q l => exact ⟨_, _, rfl, q, l⟩
theorem rep_pair {x y : V} {d e : D} (hO : HO' O H) (rx : Rep K O H d x) (ry : Rep K O H e y) {T : Addr} (n : H T = none) : Same H (upd H T (.tup [x, y])) ∧ Rep K O (upd H T (.tup [x, y])) (.tuple [d, e]) (.ref T) := by
  have s : Same H (upd H T (.tup [x, y])) := same_upd' n
  have k : Kp O H (upd H T (.tup [x, y])) := .of fun a o _ e => s a o e
  have r1 := rx.kp hO k
  have r2 := ry.kp hO k
  exact ⟨s, .tup (SqT.of upd_same) (.cons r1.1 r1.2 (.cons r2.1 r2.2 .nil)), fun m => nomatch m⟩
end
section
variable {K : PySem.W.Frag}
theorem wk_list (K : PySem.W.Frag) (a : Addr) (vs : List V) (xs : List D) (hl : xs.length = vs.length) : Wk K (Itl K a) xs (fun O H => Rep K O H (.list xs) (.ref a) ∧ ∀ us, SqL K H a us → us = vs ∨ True) where
  ev := fun O H O' H' p f => ⟨f _ _ p.1, fun _ _ => .inr trivial⟩
  stop := fun O H p => by
    obtain ⟨b, us, e, q, l⟩ := rep_list p.1
    cases e
    exact ⟨us, .inl q, by rw [l.length]; exact Nat.le_refl _⟩
  go := fun O H i d p e => by
    obtain ⟨b, us, eb, q, l⟩ := rep_list p.1
    cases eb
    obtain ⟨x, hx, rx⟩ := l.get e
    refine ⟨⟨us, x, .inl q, hx⟩, fun y H' hy => ?_⟩
    obtain ⟨e1, e2⟩ := hy
    subst e1
    have := e2 us (.inl q)
    rw [hx] at this
    cases this
    exact ⟨fun _ _ z => z, fun _ => rx⟩
theorem wk_kls (K : PySem.W.Frag) (a : Addr) (ns : List Int) (h : ∀ H' : Hp, SqL K H' a (ns.map V.int)) : Wk K (Itl K a) (ns.map PyData.int) (fun _ _ => True) where
  ev := fun _ _ _ _ _ _ => trivial
  stop := fun O H _ => ⟨_, h H, by simp⟩
  go := fun O H i d _ e => by
    rw [List.getElem?_map] at e
    obtain ⟨n, hn, rfl⟩ := Option.map_eq_some_iff.mp e
    have hx : (ns.map V.int)[i]? = some (.int n) := by rw [List.getElem?_map, hn]; rfl
    refine ⟨⟨_, _, h H, hx⟩, fun y H' hy => ?_⟩
    obtain ⟨e1, e2⟩ := hy
    subst e1
    have := e2 _ (h _)
    rw [hx] at this
    cases this
    exact ⟨fun _ _ z => z, fun _ => ⟨.int n, fun m => nomatch m⟩⟩
theorem wk_tup (K : PySem.W.Frag) (a : Addr) (xs : List D) : Wk K (Itt K a) xs (fun O H => Rep K O H (.tuple xs) (.ref a)) where
  ev := fun O H O' H' p f => f _ _ p
  stop := fun O H p => by
    obtain ⟨b, us, e, q, l⟩ := rep_tuple p
    cases e
    exact ⟨us, q, by rw [l.length]; exact Nat.le_refl _⟩
  go := fun O H i d p e => by
    obtain ⟨b, us, eb, q, l⟩ := rep_tuple p
    cases eb
    obtain ⟨x, hx, rx⟩ := l.get e
    refine ⟨⟨us, x, q, hx⟩, fun y H' hy => ?_⟩
    obtain ⟨e1, e2⟩ := hy
    subst e1
    have := e2 us q
    rw [hx] at this
    cases this
    exact ⟨fun _ _ z => z, fun _ => rx⟩
theorem wk_str (K : PySem.W.Frag) (x : Str) : Wk K (Its x) (signs x) (fun _ _ => True) :=
  wk_of walk_str (by simp [signs]) (fun _ _ _ _ _ _ => trivial) (fun _ _ _ => trivial) fun O H i v H' d e _ y => by
    obtain ⟨rfl, c, hc, rfl⟩ := y
    refine ⟨fun _ _ z => z, fun _ => ?_⟩
    unfold signs at e
    rw [List.getElem?_map, Array.getElem?_toList, hc] at e
    cases e
    exact ⟨.str _, fun m => nomatch m⟩
theorem wk_range (K : PySem.W.Frag) (lo hi : Int) : Wk K (Itr lo (hi - lo).toNat) (rangeD lo hi) (fun _ _ => True) :=
  wk_of walk_range (by simp [rangeD]) (fun _ _ _ _ _ _ => trivial) (fun _ _ _ => trivial) fun O H i v H' d e _ y => by
    obtain ⟨rfl, rfl⟩ := y
    refine ⟨fun _ _ z => z, fun _ => ?_⟩
    unfold rangeD at e
    rw [List.getElem?_map] at e
    obtain ⟨m, hm, rfl⟩ := Option.map_eq_some_iff.mp e
    have : m = i := by
      obtain ⟨h, e⟩ := List.getElem?_eq_some_iff.mp hm
      simpa using e.symm
    subst this
    exact ⟨.int _, fun m => nomatch m⟩
theorem wk_rangeC (K : PySem.W.Frag) (lo c : Int) (n : Nat) : Wk K (Itc lo c n) (rangeC lo c n) (fun _ _ => True) :=
  wk_of walk_rangeC (by simp [rangeC]) (fun _ _ _ _ _ _ => trivial) (fun _ _ _ => trivial) fun O H i v H' d e _ y => by
    obtain ⟨rfl, rfl⟩ := y
    refine ⟨fun _ _ z => z, fun _ => ?_⟩
    unfold rangeC at e
    rw [List.getElem?_map] at e
    obtain ⟨m, hm, rfl⟩ := Option.map_eq_some_iff.mp e
    have : m = i := by
      obtain ⟨h, e⟩ := List.getElem?_eq_some_iff.mp hm
      simpa using e.symm
    subst this
    exact ⟨.int _, fun m => nomatch m⟩
theorem wk_enum (K : PySem.W.Frag) (a : Addr) (xs : List D) : Wk K (Ite K a) (enumD xs) (fun O H => Rep K O H (.list xs) (.ref a)) where
  ev := fun O H O' H' p f => f _ _ p
  stop := fun O H p => by
    obtain ⟨b, us, e, q, l⟩ := rep_list p
    cases e
    exact ⟨us, .inl q, by simp [enumD, l.length]⟩
  go := fun O H i d p e => by
    obtain ⟨b, us, eb, q, l⟩ := rep_list p
    cases eb
    unfold enumD at e
    rw [List.getElem?_mapIdx] at e
    obtain ⟨x, hx, rfl⟩ := Option.map_eq_some_iff.mp e
    obtain ⟨v, hv, rv⟩ := l.get hx
    refine ⟨⟨us, v, .inl q, hv⟩, fun y H' hy => ?_⟩
    obtain ⟨T, w, rfl, hT, rfl, hw⟩ := hy
    have := hw us (.inl q)
    rw [hv] at this
    cases this
    refine ⟨same_upd' hT, fun hO => (rep_pair hO ⟨.int _, fun m => nomatch m⟩ rv hT).2⟩
theorem wk_zip (K : PySem.W.Frag) (a b : Addr) (xs ys : List D) : Wk K (Itz K a b) (zipD xs ys) (fun O H => Rep K O H (.list xs) (.ref a) ∧ Rep K O H (.list ys) (.ref b)) where
  ev := fun O H O' H' p f => ⟨f _ _ p.1, f _ _ p.2⟩
  stop := fun O H p => by
    obtain ⟨_, us, e, q, l⟩ := rep_list p.1
    cases e
    obtain ⟨_, us', e, q', l'⟩ := rep_list p.2
    cases e
    refine ⟨us, us', .inl q, .inl q', ?_⟩
    simp only [zipD, List.length_zipWith, l.length, l'.length]
    omega
  go := fun O H i d p e => by
    obtain ⟨_, us, eb, q, l⟩ := rep_list p.1
    cases eb
    obtain ⟨_, us', eb, q', l'⟩ := rep_list p.2
    cases eb
    unfold zipD at e
    rw [List.getElem?_zipWith] at e
    cases hx : xs[i]? with
    | none => rw [hx] at e; cases e
    | some x =>
      cases hy : ys[i]? with
      | none => rw [hx, hy] at e; cases e
      | some y =>
        rw [hx, hy] at e
        cases e
        obtain ⟨v, hv, rv⟩ := l.get hx
        obtain ⟨u, hu, ru⟩ := l'.get hy
        refine ⟨⟨us, us', v, u, .inl q, .inl q', hv, hu⟩, fun z H' hz => ?_⟩
        obtain ⟨T, w, w', rfl, hT, rfl, h1, h2⟩ := hz
        have e1 := h1 us (.inl q)
        have e2 := h2 us' (.inl q')
        rw [hv] at e1
        rw [hu] at e2
        cases e1
        cases e2
        exact ⟨same_upd' hT, fun hO => (rep_pair hO rv ru hT).2⟩
theorem wk_zipT (K : PySem.W.Frag) (a b : Addr) (xs ys : List D) : Wk K (ItzT K a b) (zipD xs ys) (fun O H => Rep K O H (.tuple xs) (.ref a) ∧ Rep K O H (.tuple ys) (.ref b)) where
  ev := fun O H O' H' p f => ⟨f _ _ p.1, f _ _ p.2⟩
  stop := fun O H p => by
    obtain ⟨_, us, e, q, l⟩ := rep_tuple p.1
    cases e
    obtain ⟨_, us', e, q', l'⟩ := rep_tuple p.2
    cases e
    refine ⟨us, us', q, q', ?_⟩
    simp only [zipD, List.length_zipWith, l.length, l'.length]
    omega
  go := fun O H i d p e => by
    obtain ⟨_, us, eb, q, l⟩ := rep_tuple p.1
    cases eb
    obtain ⟨_, us', eb, q', l'⟩ := rep_tuple p.2
    cases eb
    unfold zipD at e
    rw [List.getElem?_zipWith] at e
    cases hx : xs[i]? with
    | none => rw [hx] at e; cases e
    | some x =>
      cases hy : ys[i]? with
      | none => rw [hx, hy] at e; cases e
      | some y =>
        rw [hx, hy] at e
        cases e
        obtain ⟨v, hv, rv⟩ := l.get hx
        obtain ⟨u, hu, ru⟩ := l'.get hy
        refine ⟨⟨us, us', v, u, q, q', hv, hu⟩, fun z H' hz => ?_⟩
        obtain ⟨T, w, w', rfl, hT, rfl, h1, h2⟩ := hz
        have e1 := h1 us q
        have e2 := h2 us' q'
        rw [hv] at e1
        rw [hu] at e2
        cases e1
        cases e2
        exact ⟨same_upd' hT, fun hO => (rep_pair hO rv ru hT).2⟩
theorem wk_rev (K : PySem.W.Frag) (a : Addr) (xs : List D) (n : Nat) (hn : n = xs.length) : Wk K (Itv K a n) xs.reverse (fun O H => Rep K O H (.list xs) (.ref a)) where
  ev := fun O H O' H' p f => f _ _ p
  stop := fun O H p => by
    show n ≤ xs.reverse.length
    simp [hn]
  go := fun O H i d p e => by
    obtain ⟨b, us, eb, q, l⟩ := rep_list p
    cases eb
    have hi : i < xs.length := by
      have := (List.getElem?_eq_some_iff.mp e).1
      simpa using this
    rw [List.getElem?_reverse hi] at e
    obtain ⟨v, hv, rv⟩ := l.get e
    have w := walk_rev (K := K) (a := a) (xs := us)
    rw [← l.length, ← hn] at w
    refine ⟨w.goes i H (by omega) (.inl q), fun y H' hy => ?_⟩
    obtain ⟨rfl, e2⟩ := w.yields i H y H' (by omega) (.inl q) hy
    rw [hn, hv] at e2
    cases e2
    exact ⟨fun _ _ z => z, fun _ => rv⟩
theorem wk_revT (K : PySem.W.Frag) (a : Addr) (xs : List D) (n : Nat) (hn : n = xs.length) : Wk K (ItvT K a n) xs.reverse (fun O H => Rep K O H (.tuple xs) (.ref a)) where
  ev := fun O H O' H' p f => f _ _ p
  stop := fun O H p => by
    show n ≤ xs.reverse.length
    simp [hn]
  go := fun O H i d p e => by
    obtain ⟨b, us, eb, q, l⟩ := rep_tuple p
    cases eb
    have hi : i < xs.length := by
      have := (List.getElem?_eq_some_iff.mp e).1
      simpa using this
    rw [List.getElem?_reverse hi] at e
    obtain ⟨v, hv, rv⟩ := l.get e
    refine ⟨⟨by omega, us, v, q, by rw [hn]; exact hv⟩, fun y H' hy => ?_⟩
    obtain ⟨rfl, e2⟩ := hy
    have e3 := e2 us q
    rw [hn, hv] at e3
    cases e3
    exact ⟨fun _ _ z => z, fun _ => rv⟩
end
section
variable {X : Cx} {W : WX} {tg l a b c : Expr} {A : DE} {AS : DA} {pos p : Pos}
def iSq (K : PySem.W.Frag) (tl : TE) : TI := fun σ H R => tl σ H fun x H1 => (∃ a vs, x = .ref a ∧ SqL K H1 a vs ∧ R (Itl K a) H1) ∨ (∃ a vs, x = .ref a ∧ SqT K H1 a vs ∧ R (Itt K a) H1) ∨ ∃ z, x = .str z ∧ R (Its z) H1
theorem pi_sq {tl : TE} (hl : PE X l tl) : PI X tg l (iSq X.K tl) := by
  refine ⟨fun pins s σ H R I hw => ?_⟩
  refine thn (hl.run pins s σ H _ I hw) fun val sA ⟨x, HA, IA, rA, qA⟩ => ?_
  rcases qA with ⟨a, vs, ex, hq, q⟩ | ⟨a, vs, ex, hq, q⟩ | ⟨z, ex, q⟩
  · subst ex
    cases rA
    obtain ⟨its, rv, pl, hz⟩ := IA.list hq
    exact wpAny_pyIter_list pl.isList (pi_one (tk := sA.toks) IA _ (turn_list a _) ⟨_, Heap.get?_push_size _ rfl, rfl, rfl⟩ q)
  · subst ex
    cases rA
    obtain ⟨its, rv, pl, hz⟩ := IA.tuple hq
    exact wpAny_pyIter_tuple (show sA.heap.IsTuple a its.toArray from pl) (pi_one (tk := sA.toks) IA _ (turn_tuple a _) ⟨_, Heap.get?_push_size _ rfl, rfl, rfl⟩ q)
  · subst ex
    obtain ⟨t, rfl⟩ := rA
    cases ha : z.cps.all (· < 128)
    · exact wpAny_pyIter_wide ha (pi_one (tk := sA.toks) IA _ (turn_str _ z t "str_iterator" (.inr rfl)) ⟨_, Heap.get?_push_size _ rfl, rfl, rfl⟩ q)
    · exact wpAny_pyIter_ascii ha (pi_one (tk := sA.toks) IA _ (turn_str _ z t "str_ascii_iterator" (.inl rfl)) ⟨_, Heap.get?_push_size _ rfl, rfl, rfl⟩ q)
theorem ri_seq (hl : RE X W l A) : RI X W tg l (iSeq A) := by
  refine PI.imp (pi_sq hl) fun σ H R ⟨fx, own, ρ, k, hx, o, Rr, e, kn, kx⟩ => ?_
  refine ⟨fx, own, ρ, _, hx, o, Rr, e, fun r1 ρ1 v1 H1 own1 st1 val1 e1 => ?_, kx⟩
  obtain ⟨R1, u1⟩ := val1.use Rr.there
  obtain ⟨d, ρ2, own2, e2, s2, R2, q2⟩ := freeze_ok R1 u1 e1
  obtain ⟨xs, ew, e3⟩ := opt_some e2
  cases d with
  | list ds =>
    have ew : ds = xs := Option.some.inj ew
    subst ew
    obtain ⟨a, vs, rfl, q, l⟩ := rep_list q2
    exact .inl ⟨a, vs, rfl, .inl q, kn ds ρ2 _ H1 own2 _ (st1.trans s2) R2 (wk_list X.K a vs ds l.length) ⟨q2, fun _ _ => .inr trivial⟩ e3⟩
  | tuple ds =>
    have ew : ds = xs := Option.some.inj ew
    subst ew
    obtain ⟨a, vs, rfl, q, l⟩ := rep_tuple q2
    exact .inr (.inl ⟨a, vs, rfl, q, kn ds ρ2 _ H1 own2 _ (st1.trans s2) R2 (wk_tup X.K a ds) q2 e3⟩)
  | str x =>
    cases ew
    obtain ⟨q2, _⟩ := q2
    cases q2
    exact .inr (.inr ⟨x, rfl, kn _ ρ2 _ H1 own2 _ (st1.trans s2) R2 (wk_str X.K x) trivial e3⟩)
  | dict kvs =>
    obtain ⟨q2, _⟩ := q2
    cases q2 with
    | dic r l =>
      have ew : klOf _ = some xs := ew
      rw [klOf_rep l] at ew
      cases ew
    | kls h =>
      cases ew
      exact .inl ⟨_, _, rfl, h H1, kn _ ρ2 _ H1 own2 _ (st1.trans s2) R2 (wk_kls X.K _ _ h) trivial e3⟩
  | _ => cases ew
theorem in62_of {i : Int} (h : in62 i = true) : -(2 ^ 62) ≤ i ∧ i < 2 ^ 62 := by
  unfold in62 lim62 at h
  simp only [Bool.and_eq_true, decide_eq_true_eq] at h
  omega
section
variable {K : PySem.W.Frag} {O : Addr → Prop} {H : Hp} {vs : List V} {i j c : Int}
theorem reps1 {d : D} (r : RepTs K O H [d] vs) : ∃ v, vs = [v] ∧ RepT K O H d v := by
  match vs, r with
  | [v], ⟨a, _⟩ => exact ⟨v, rfl, a⟩
theorem reps2 {d e : D} (r : RepTs K O H [d, e] vs) : ∃ v u, vs = [v, u] ∧ RepT K O H d v ∧ RepT K O H e u := by
  match vs, r with
  | [v, u], ⟨a, b, _⟩ => exact ⟨v, u, rfl, a, b⟩
theorem reps3 {d e f : D} (r : RepTs K O H [d, e, f] vs) : ∃ v u w, vs = [v, u, w] ∧ RepT K O H d v ∧ RepT K O H e u ∧ RepT K O H f w := by
  match vs, r with
  | [v, u, w], ⟨a, b, c, _⟩ => exact ⟨v, u, w, rfl, a, b, c⟩
theorem repl1 {d : D} (r : RepL K O H [d] vs) : ∃ v, vs = [v] ∧ Rep K O H d v := by
  cases r with
  | cons a n l => cases l; exact ⟨_, rfl, a, n⟩
theorem repl2 {d e : D} (r : RepL K O H [d, e] vs) : ∃ v u, vs = [v, u] ∧ Rep K O H d v ∧ Rep K O H e u := by
  cases r with
  | cons a n l =>
    obtain ⟨u, rfl, q⟩ := repl1 l
    exact ⟨_, u, rfl, ⟨a, n⟩, q⟩
end
theorem ri_range1 (hg : Gl X "range") (hm : X.mg "range" = none) (ha : RA X W [a] AS) (hs : starEach [a] X.env = [(false, eval a X.env)] := by rfl) : RI X W tg (.Call (.Name "range" p) [a] [] pos) (iRange ranged1 AS) := by
  refine PI.imp (pi_range1 hg hm ha hs) fun σ H R ⟨fx, own, ρ, k, hx, o, Rr, e, kn, kx⟩ => ?_
  refine ⟨fx, own, ρ, _, hx, o, Rr, e, fun rs ρ1 vs H1 own1 st1 R1 u1 e1 => ?_, kx⟩
  obtain ⟨ds, ep, e2⟩ := opt_some e1
  obtain ⟨is, ei, e3⟩ := opt_some e2
  have q := u1.peeks R1 ep
  unfold ranged1 at ei
  split at ei
  · rename_i j
    split at ei
    · rename_i hj
      have ei : rangeD 0 j = is := Option.some.inj ei
      subst ei
      obtain ⟨v, rfl, rv⟩ := reps1 q
      cases rv
      obtain ⟨b1, b2⟩ := in62_of hj
      have w := wk_range X.K 0 j
      rw [Int.sub_zero] at w
      exact ⟨j, rfl, b1, b2, kn _ ρ1 _ H1 own1 _ st1 R1 w trivial e3⟩
    · cases ei
  · cases ei
theorem ri_range2 (hg : Gl X "range") (hm : X.mg "range" = none) (ha : RA X W [a, b] AS) (hs : starEach [a, b] X.env = [(false, eval a X.env), (false, eval b X.env)] := by rfl) (hs2 : starEach [b] X.env = [(false, eval b X.env)] := by rfl) : RI X W tg (.Call (.Name "range" p) [a, b] [] pos) (iRange ranged2 AS) := by
  refine PI.imp (pi_range2 hg hm ha hs hs2) fun σ H R ⟨fx, own, ρ, k, hx, o, Rr, e, kn, kx⟩ => ?_
  refine ⟨fx, own, ρ, _, hx, o, Rr, e, fun rs ρ1 vs H1 own1 st1 R1 u1 e1 => ?_, kx⟩
  obtain ⟨ds, ep, e2⟩ := opt_some e1
  obtain ⟨is, ei, e3⟩ := opt_some e2
  have q := u1.peeks R1 ep
  unfold ranged2 at ei
  split at ei
  · rename_i i j
    split at ei
    · rename_i hj
      have ei : rangeD i j = is := Option.some.inj ei
      subst ei
      obtain ⟨v, u, rfl, rv, ru⟩ := reps2 q
      cases rv
      cases ru
      rw [Bool.and_eq_true] at hj
      obtain ⟨b1, b2⟩ := in62_of hj.1
      obtain ⟨b3, b4⟩ := in62_of hj.2
      exact ⟨i, j, rfl, ⟨b1, b2, b3, b4⟩, kn _ ρ1 _ H1 own1 _ st1 R1 (wk_range X.K i j) trivial e3⟩
    · cases ei
  · cases ei
theorem ri_range3 (hg : Gl X "range") (hm : X.mg "range" = none) (ha : RA X W [a, b, c] AS) (hs : starEach [a, b, c] X.env = (false, eval a X.env) :: starEach [b, c] X.env := by rfl) (hpl : (backTo pos (starEach [b, c] X.env)).any (·.1) = false := by rfl) : RI X W tg (.Call (.Name "range" p) [a, b, c] [] pos) (iRange ranged3 AS) := by
  refine PI.imp (pi_range3 hg hm ha hs hpl) fun σ H R ⟨fx, own, ρ, k, hx, o, Rr, e, kn, kx⟩ => ?_
  refine ⟨fx, own, ρ, _, hx, o, Rr, e, fun rs ρ1 vs H1 own1 st1 R1 u1 e1 => ?_, kx⟩
  obtain ⟨ds, ep, e2⟩ := opt_some e1
  obtain ⟨is, ei, e3⟩ := opt_some e2
  have q := u1.peeks R1 ep
  unfold ranged3 at ei
  split at ei
  · rename_i i j c
    split at ei
    · rename_i hj
      have ei : rangeC i (-1) (i - j).toNat = is := Option.some.inj ei
      subst ei
      obtain ⟨v, u, w, rfl, rv, ru, rw'⟩ := reps3 q
      cases rv
      cases ru
      cases rw'
      simp only [Bool.and_eq_true, decide_eq_true_eq] at hj
      obtain ⟨⟨h1, h2⟩, rfl⟩ := hj
      obtain ⟨b1, b2⟩ := in62_of h1
      obtain ⟨b3, b4⟩ := in62_of h2
      exact ⟨i, j, -1, _, rfl, RgC.neg b1 b2 b3 b4, kn _ ρ1 _ H1 own1 _ st1 R1 (wk_rangeC X.K i (-1) _) trivial e3⟩
    · cases ei
  · cases ei
theorem ri_enum {tpos : Pos} {elts : List Expr} {kk : Nat} (hg : Gl X "enumerate") (hm : X.mg "enumerate" = none) (ha : RA X W [a] AS) (hs : starEach [a] X.env = [(false, eval a X.env)] := by rfl) : RI X W (.Tuple elts kk tpos) (.Call (.Name "enumerate" p) [a] [] pos) (iEnum AS) := by
  refine PI.imp (pi_enum hg hm ha hs) fun σ H R ⟨fx, own, ρ, k, hx, o, Rr, e, kn, kx⟩ => ?_
  refine ⟨fx, own, ρ, _, hx, o, Rr, e, fun rs ρ1 vs H1 own1 st1 R1 u1 e1 => ?_, kx⟩
  obtain ⟨ds, ρ2, own2, e2, s2, R2, q2⟩ := freezes_ok R1 u1 e1
  split at e2
  · rename_i xs
    obtain ⟨v, rfl, rv⟩ := repl1 q2
    obtain ⟨b, us, rfl, q, l⟩ := rep_list rv
    exact ⟨b, us, rfl, .inl q, kn _ ρ2 _ H1 own2 _ (st1.trans s2) R2 (wk_enum X.K b xs) rv e2⟩
  · cases e2
theorem ri_zip {tpos : Pos} {elts : List Expr} {kk : Nat} (hg : Gl X "zip") (hm : X.mg "zip" = none) (ha : RA X W [a, b] AS) (hs : starEach [a, b] X.env = (false, eval a X.env) :: starEach [b] X.env := by rfl) (hpl : (backTo pos (starEach [b] X.env)).any (·.1) = false := by rfl) :
    RI X W (.Tuple elts kk tpos) (.Call (.Name "zip" p) [a, b] [] pos) (iZip AS) := by
  refine PI.imp (pi_zipA hg hm ha hs hpl) fun σ H R ⟨fx, own, ρ, k, hx, o, Rr, e, kn, kx⟩ => ?_
  refine ⟨fx, own, ρ, _, hx, o, Rr, e, fun rs ρ1 vs H1 own1 st1 R1 u1 e1 => ?_, kx⟩
  obtain ⟨ds, ρ2, own2, e2, s2, R2, q2⟩ := freezes_ok R1 u1 e1
  split at e2
  · rename_i xs ys
    obtain ⟨v, u, rfl, rv, ru⟩ := repl2 q2
    obtain ⟨b, us, rfl, q, l⟩ := rep_list rv
    obtain ⟨b', us', rfl, q', l'⟩ := rep_list ru
    exact ⟨b, b', us, us', rfl, .inl ⟨.inl q, .inl q', kn _ ρ2 _ H1 own2 _ (st1.trans s2) R2 (wk_zip X.K b b' xs ys) ⟨rv, ru⟩ e2⟩⟩
  · rename_i xs ys
    obtain ⟨v, u, rfl, rv, ru⟩ := repl2 q2
    obtain ⟨b, us, rfl, q, l⟩ := rep_tuple rv
    obtain ⟨b', us', rfl, q', l'⟩ := rep_tuple ru
    exact ⟨b, b', us, us', rfl, .inr ⟨q, q', kn _ ρ2 _ H1 own2 _ (st1.trans s2) R2 (wk_zipT X.K b b' xs ys) ⟨rv, ru⟩ e2⟩⟩
  · cases e2
theorem ri_rev (hg : Gl X "reversed") (hm : X.mg "reversed" = none) (he : RE X W a A) (hs : starEach [a] X.env = (false, eval a X.env) :: starEach [] X.env := by rfl) : RI X W tg (.Call (.Name "reversed" p) [a] [] pos) (iRev A) := by
  refine PI.imp (pi_revA hg hm he hs) fun σ H R ⟨fx, own, ρ, k, hx, o, Rr, e, kn, kx⟩ => ?_
  refine ⟨fx, own, ρ, _, hx, o, Rr, e, fun r1 ρ1 v1 H1 own1 st1 val1 e1 => ?_, kx⟩
  obtain ⟨R1, u1⟩ := val1.use Rr.there
  obtain ⟨d, ρ2, own2, e2, s2, R2, q2⟩ := freeze_ok R1 u1 e1
  cases d with
  | list ds =>
    obtain ⟨b, us, rfl, q, l⟩ := rep_list q2
    exact ⟨b, us, rfl, .inl ⟨.inl q, kn _ ρ2 _ H1 own2 _ (st1.trans s2) R2 (wk_rev X.K b ds _ l.length.symm) q2 e2⟩⟩
  | tuple ds =>
    obtain ⟨b, us, rfl, q, l⟩ := rep_tuple q2
    exact ⟨b, us, rfl, .inr ⟨q, kn _ ρ2 _ H1 own2 _ (st1.trans s2) R2 (wk_revT X.K b ds _ l.length.symm) q2 e2⟩⟩
  | _ => cases e2
end
end DL
set_option maxRecDepth 100000
set_option maxHeartbeats 1000000
/-! DF: defs and their calls. -/
namespace DL
open PySem PySem.Spec PyProof.Rows L2
/-- behind a def: what stands, what the changed arguments hold -/
structure Aft (K : PySem.W.Frag) (fx : Fx) (own : Own) (H : Hp) (fin : List (Option D)) (H' : Hp) : Prop where
  keep : ∀ a o, H a = some o → (∀ i, own i ≠ some a) → H' a = some o
  al : ∀ a, H a ≠ none → H' a ≠ none
  io : ∀ j a, own j = some a → ∃ d, fin[j]? = some (some d) ∧ RepO K (OO fx own) H' d a
def isIo : EV → Bool
  | .io _ => true
  | _ => false
def spF (K : PySem.W.Frag) (mg : Str → Option Value) (bs : List Bool) (f : DDef) : Sp := fun vs H Q E => ∃ (fx : Fx) (own : Own) (es : List EV) (o : Out),
  Rp K fx own (vs.map some) H (es.map some) ∧ es.map isIo = bs ∧ (∀ e ∈ es, ∀ d, e ≠ .ow d) ∧ fx.own0 = own ∧ fx.N0 = (fun a => H a = none) ∧ f es = some o ∧
  (∀ d fin v H', o = .ret (.sh d) fin → Aft K fx own H fin H' → Rep K (OO fx own) H' d v → Q v H') ∧
  (∀ d fin a H', o = .ret (.ow d) fin → H a = none → Aft K (fx.add a) own H fin H' → RepO K (OO (fx.add a) own) H' d a → Q (.ref a) H') ∧
  (∀ x fin cls d H', o = .exc x fin → Aft K fx own H fin H' → RepX K mg x cls d H' → E cls d H')
theorem spF_len {K : PySem.W.Frag} {mg : Str → Option Value} {bs : List Bool} {f : DDef} {vs : List V} {H : Hp} {Q : VK} {E : XK} (h : spF K mg bs f vs H Q E) : vs.length = bs.length := by
  obtain ⟨fx, own, es, o, R, hb, _⟩ := h
  have := R.len
  rw [← hb]
  simpa using this
/-- a def x of the text keeps the promise of its plain function -/
structure Fn (P : Program) (w : World) (K : PySem.W.Frag) (mg : Str → Option Value) (base : Heap) (k : Nat) (x : Str) (bs : List Bool) (f : DDef) : Prop where
  ex : ∃ (a : Addr) (fd : FuncData) (ps : List Str), FnOk P w K mg base (L2.CX P w) k a fd ps (spF K mg bs f) ∧ mg x = some (.ref a) ∧ PySem.W.keepIn K (.ref a) = true ∧ Binds K fd ps []
section
variable {K : PySem.W.Frag} {mg : Str → Option Value} {fx : Fx} {own own' : Own} {σ : L2.St} {H H' : Hp} {ρ : Env}
/-! ### the body of a def, from its plain function -/
theorem slot_map {es : List EV} {i : Nat} {n : Nat} (h : i < es.length) : slot (es.map some ++ List.replicate n none) i = some es[i] := by
  unfold slot
  rw [List.getElem?_append_left (by simpa using h), List.getElem?_map, List.getElem?_eq_getElem h]
  rfl
theorem slot_rep {es : List EV} {i : Nat} {n : Nat} {e : EV} (h : slot (es.map some ++ List.replicate n none) i = some e) : slot (es.map some) i = some e := by
  have h := slot_get h
  apply slot_of
  by_cases hi : i < es.length
  · rw [List.getElem?_append_left (by simpa using hi)] at h
    exact h
  · rw [List.getElem?_append_right (by simpa using hi), List.getElem?_replicate] at h
    split at h <;> cases h
theorem slot_rep' {es : List EV} {i : Nat} {n : Nat} {e : EV} (h : slot (es.map some) i = some e) : slot (es.map some ++ List.replicate n none) i = some e := by
  have h := slot_get h
  apply slot_of
  rw [List.getElem?_append_left (List.getElem?_eq_some_iff.mp h).1]
  exact h
theorem Rp.start {es : List EV} {vs : List V} {n : Nat} (R : Rp K fx own (vs.map some) H (es.map some)) : Rp K fx own (vs.map some ++ List.replicate n none) H (es.map some ++ List.replicate n none) where
  len := by have := R.len; simp at this ⊢; exact this
  old := R.old
  trk := R.trk
  sh := fun i d e => by
    obtain ⟨v, h1, h2⟩ := R.sh i d (slot_rep e)
    exact ⟨v, by rw [List.getElem?_append_left (List.getElem?_eq_some_iff.mp h1).1]; exact h1, h2⟩
  ow := fun i e q m => by
    obtain ⟨a, h0, h1, h2⟩ := R.ow i e (slot_rep q) m
    exact ⟨a, h0, by rw [List.getElem?_append_left (List.getElem?_eq_some_iff.mp h1).1]; exact h1, h2⟩
  dom := fun i a e => let ⟨ev, q, m⟩ := R.dom i a e; ⟨ev, slot_rep' q, m⟩
  inj := R.inj
  nox := R.nox
  new := fun i a d e q => R.new i a d e (slot_rep q)
  ios := fun i a e => let ⟨q, d, z⟩ := R.ios i a e; ⟨q, d, slot_rep' z⟩
theorem ios_at {n i : Nat} {d : D} (h : slot ρ i = some (.io d)) (hi : i < n) : (DL.ios n ρ)[i]? = some (some d) := by
  unfold DL.ios
  rw [List.getElem?_map, List.getElem?_take_of_lt hi, slot_get h]
  rfl
/-- at the end of the body -/
theorem aft_end {n : Nat} {σ' : L2.St} {fx' : Fx} (hf : fx'.own0 = own) (ho : ∀ a, OO fx' own a → OO fx' own' a) (hn : ∀ j a, own j = some a → j < n) (s : StepS H own H' own') (R : Rp K fx' own' σ' H' ρ) : Aft K fx' own H (DL.ios n ρ) H' where
  keep := s.keep
  al := s.al
  io := fun j a e => by
    obtain ⟨q, d, z⟩ := R.ios j a (by rw [hf]; exact e)
    obtain ⟨b, h1, _, h2⟩ := R.ow j _ z rfl
    rw [q] at h1; cases h1
    exact ⟨d, ios_at z (hn j a e), h2.anti ho⟩
theorem oo_own0 {fx' : Fx} {σ' : L2.St} (hf : fx'.own0 = own) (R : Rp K fx' own' σ' H' ρ) : ∀ a, OO fx' own a → OO fx' own' a := fun a z => by
  rcases z with z | ⟨i, z⟩
  · exact .inl z
  · exact .inr ⟨i, (R.ios i a (by rw [hf]; exact z)).1⟩
theorem body_ok {bs : List Bool} {n : Nat} {F : DS} {vs : List V} {Q : VK} {E : XK} (h : spF K mg bs (dDef n F) vs H Q E) : tS K mg (fun cls d _ H => E cls d H) F { nx := fun _ H' => Q .non H', rt := Q } (vs.map some ++ List.replicate (n - vs.length) none) H := by
  obtain ⟨fx, own, es, o, R, hb, how, h0, hN, e, kr, ko, kx⟩ := h
  have hle : vs.length = es.length := by have := R.len; simpa using this
  unfold dDef at e
  split at e
  · rename_i hlen
    have hn : ∀ j a, own j = some a → j < es.length := fun j a z => by
      obtain ⟨ev, q, _⟩ := R.dom j a z
      simpa using slot_lt q
    refine ⟨fx, own, _, _, o, by rw [hle]; exact R.start, e, fun ρ' σ' H' own' s R' e' => ?_, fun ev ρ' v σ' H' own' s q e' => ?_, (fun _ _ _ _ _ _ z => nomatch z), (fun _ _ _ _ _ _ z => nomatch z), fun x ρ' cls d σ' H' own' s R' rx e' => ?_⟩
    · have e' : some (Out.ret (.sh .none) (DL.ios es.length ρ')) = some o := e'
      cases e'
      exact kr .none _ .non H' rfl (aft_end h0 (oo_own0 h0 R') hn s R') ⟨.non, fun m => nomatch m⟩
    · have e' : some (Out.ret ev (DL.ios es.length ρ')) = some o := e'
      cases e'
      cases ev with
      | sh d =>
        obtain ⟨R', r⟩ := q
        exact kr d _ v H' rfl (aft_end h0 (oo_own0 h0 R') hn s R') (r.anti (oo_own0 h0 R'))
      | ow d =>
        obtain ⟨a, rfl, n0, R', r⟩ := q
        have h0' : (fx.add a).own0 = own := h0
        have n0' : H a = none := by rw [hN] at n0; exact n0
        exact ko d _ a H' rfl n0' (aft_end h0' (oo_own0 h0' R') hn s R') (r.anti (oo_own0 h0' R'))
      | io d => exact q.elim
    · have e' : some (Out.exc x (DL.ios es.length ρ')) = some o := e'
      cases e'
      exact kx x _ cls d H' rfl (aft_end h0 (oo_own0 h0 R') hn s R') rx
  · cases e
end
end DL
set_option maxRecDepth 100000
set_option maxHeartbeats 1000000
/-! DG: calls of one's own defs. -/
namespace DL
open PySem PySem.Spec PyProof.Rows L2
theorem mem_io : ∀ {bs : List Bool} {rs : List RV} {j i : Nat}, bs[j]? = some true → rs[j]? = some (.vr i) → i ∈ ioSlots bs rs
  | [], _, _, _, h, _ => by simp at h
  | _ :: _, [], _, _, _, h => by simp at h
  | b :: bs, r :: rs, 0, i, h1, h2 => by
    simp at h1 h2
    subst h1 h2
    exact List.mem_cons_self
  | b :: bs, r :: rs, j + 1, i, h1, h2 => by
    have q := mem_io (bs := bs) (rs := rs) (j := j) (i := i) (by simpa using h1) (by simpa using h2)
    cases b with
    | false => exact q
    | true =>
      cases r with
      | vr m => exact List.mem_cons_of_mem _ q
      | sh d => exact q
      | ow d => exact q
theorem of_mem_io : ∀ {bs : List Bool} {rs : List RV} {i : Nat}, i ∈ ioSlots bs rs → ∃ j : Nat, bs[j]? = some true ∧ rs[j]? = some (RV.vr i)
  | [], _, _, h => by simp [ioSlots] at h
  | b :: bs, [], _, h => by cases b <;> simp [ioSlots] at h
  | b :: bs, r :: rs, i, h => by
    have more : i ∈ ioSlots bs rs → ∃ j : Nat, (b :: bs)[j]? = some true ∧ (r :: rs)[j]? = some (RV.vr i) := fun q => by
      obtain ⟨j, h1, h2⟩ := of_mem_io q
      exact ⟨j + 1, by simpa using h1, by simpa using h2⟩
    cases b with
    | false => exact more h
    | true =>
      cases r with
      | vr m =>
        rcases List.mem_cons.mp h with e | q
        · subst e; exact ⟨0, rfl, rfl⟩
        · exact more q
      | sh d => exact more h
      | ow d => exact more h
theorem apart_inj : ∀ {bs : List Bool} {rs : List RV} {j l i : Nat}, apart (ioSlots bs rs) = true → bs[j]? = some true → rs[j]? = some (.vr i) → bs[l]? = some true → rs[l]? = some (.vr i) → j = l
  | [], _, _, _, _, _, h, _, _, _ => by simp at h
  | _ :: _, [], _, _, _, _, _, h, _, _ => by simp at h
  | b :: bs, r :: rs, j, l, i, ha, h1, h2, h3, h4 => by
    have tl : apart (ioSlots bs rs) = true := by
      cases b with
      | false => exact ha
      | true =>
        cases r with
        | vr m =>
          have ha : (!(ioSlots bs rs).contains m && apart (ioSlots bs rs)) = true := ha
          rw [Bool.and_eq_true] at ha
          exact ha.2
        | sh d => exact ha
        | ow d => exact ha
    have no : ∀ j : Nat, b = true → r = .vr i → bs[j]? = some true → rs[j]? = some (RV.vr i) → False := fun j e1 e2 q1 q2 => by
      subst e1 e2
      have ha : (!(ioSlots bs rs).contains i && apart (ioSlots bs rs)) = true := ha
      rw [Bool.and_eq_true] at ha
      have := mem_io q1 q2
      simp [this] at ha
    cases j with
    | zero =>
      cases l with
      | zero => rfl
      | succ l => exact (no l (by simpa using h1) (by simpa using h2) (by simpa using h3) (by simpa using h4)).elim
    | succ j =>
      cases l with
      | zero => exact (no j (by simpa using h3) (by simpa using h4) (by simpa using h1) (by simpa using h2)).elim
      | succ l => exact congrArg (· + 1) (apart_inj (bs := bs) (rs := rs) (i := i) tl (by simpa using h1) (by simpa using h2) (by simpa using h3) (by simpa using h4))
theorem mem_lent {ρ : Env} {e : EV} : ∀ {bs : List Bool} {rs : List RV} {j i : Nat}, bs[j]? = some false → rs[j]? = some (.vr i) → slot ρ i = some e → e.mine = true → i ∈ lent ρ bs rs
  | [], _, _, _, h, _, _, _ => by simp at h
  | _ :: _, [], _, _, _, h, _, _ => by simp at h
  | b :: bs, r :: rs, 0, i, h1, h2, h3, h4 => by
    simp at h1 h2
    subst h1 h2
    unfold lent
    rw [h3]
    simp [h4]
  | b :: bs, r :: rs, j + 1, i, h1, h2, h3, h4 => by
    have q := mem_lent (bs := bs) (rs := rs) (j := j) (i := i) (by simpa using h1) (by simpa using h2) h3 h4
    cases b with
    | true => exact q
    | false =>
      cases r with
      | vr m =>
        unfold lent
        split
        · split
          · exact List.mem_cons_of_mem _ q
          · exact q
        · exact q
      | sh d => exact q
      | ow d => exact q
theorem argsOf_len {ρ : Env} : ∀ {bs : List Bool} {rs : List RV} {es : List EV}, argsOf ρ bs rs = some es → es.length = bs.length ∧ rs.length = bs.length
  | [], [], es, h => by
    have h : some [] = some es := h
    cases h; exact ⟨rfl, rfl⟩
  | [], _ :: _, es, h => by cases h
  | _ :: _, [], es, h => by cases h
  | b :: bs, r :: rs, es, h => by
    unfold argsOf at h
    split at h
    · rename_i e es' h1 h2
      cases h
      obtain ⟨q1, q2⟩ := argsOf_len h2
      simp [q1, q2]
    · cases h
theorem argsOf_get {ρ : Env} : ∀ {bs : List Bool} {rs : List RV} {es : List EV} {j : Nat} {e : EV}, argsOf ρ bs rs = some es → es[j]? = some e → ∃ b r, bs[j]? = some b ∧ rs[j]? = some r ∧ argOf ρ b r = some e
  | [], [], es, j, e, h, he => by
    have h : some [] = some es := h
    cases h; simp at he
  | [], _ :: _, es, _, _, h, _ => by cases h
  | _ :: _, [], es, _, _, h, _ => by cases h
  | b :: bs, r :: rs, es, j, e, h, he => by
    unfold argsOf at h
    split at h
    · rename_i e' es' h1 h2
      cases h
      cases j with
      | zero => simp at he; subst he; exact ⟨b, r, rfl, rfl, h1⟩
      | succ j =>
        obtain ⟨b', r', q1, q2, q3⟩ := argsOf_get (j := j) h2 (by simpa using he)
        exact ⟨b', r', by simpa using q1, by simpa using q2, q3⟩
    · cases h
theorem put1_len (ρ : Env) (i : Nat) (d : D) : (put1 ρ i d).length = ρ.length := by
  unfold put1
  split
  · rw [List.length_set]
  · rfl
theorem put1_ne {ρ : Env} {i j : Nat} {d : D} (h : j ≠ i) : slot (put1 ρ i d) j = slot ρ j := by
  unfold put1
  split
  · exact slot_set_ne h
  · rfl
theorem put1_at {ρ : Env} {i : Nat} {d : D} {e : EV} (h : slot ρ i = some e) : slot (put1 ρ i d) i = some (e.put d) := by
  unfold put1
  rw [h]
  exact slot_set_same (slot_lt h)
theorem putBack_len : ∀ (bs : List Bool) (ρ : Env) (rs : List RV) (fin : List (Option D)), (putBack ρ bs rs fin).length = ρ.length
  | [], _, _, _ => rfl
  | _ :: _, _, [], _ => rfl
  | _ :: _, _, _ :: _, [] => rfl
  | b :: bs, ρ, r :: rs, f :: fs => by
    unfold putBack
    rw [putBack_len bs]
    split
    · exact put1_len _ _ _
    · rfl
theorem putBack_ne {i : Nat} : ∀ (bs : List Bool) (ρ : Env) (rs : List RV) (fin : List (Option D)), i ∉ ioSlots bs rs → slot (putBack ρ bs rs fin) i = slot ρ i
  | [], _, _, _, _ => rfl
  | _ :: _, _, [], _, _ => rfl
  | _ :: _, _, _ :: _, [], _ => rfl
  | b :: bs, ρ, r :: rs, f :: fs, h => by
    unfold putBack
    have h2 : i ∉ ioSlots bs rs := fun z => h (by
      cases b with
      | false => exact z
      | true =>
        cases r with
        | vr m => exact List.mem_cons_of_mem _ z
        | sh d => exact z
        | ow d => exact z)
    rw [putBack_ne bs _ rs fs h2]
    split
    · rename_i m d
      exact put1_ne fun z => h (by subst z; exact List.mem_cons_self)
    · rfl
theorem putBack_at {i : Nat} {d : D} {e : EV} : ∀ (bs : List Bool) (ρ : Env) (rs : List RV) (fin : List (Option D)) (j : Nat), apart (ioSlots bs rs) = true → bs[j]? = some true → rs[j]? = some (.vr i) → fin[j]? = some (some d) → slot ρ i = some e → slot (putBack ρ bs rs fin) i = some (e.put d)
  | [], _, _, _, _, _, h, _, _, _ => by simp at h
  | _ :: _, _, [], _, _, _, _, h, _, _ => by simp at h
  | _ :: _, _, _ :: _, [], _, _, _, _, h, _ => by simp at h
  | b :: bs, ρ, r :: rs, f :: fs, j, ha, h1, h2, h3, h4 => by
    have tl : apart (ioSlots bs rs) = true := by
      cases b with
      | false => exact ha
      | true =>
        cases r with
        | vr m =>
          have ha : (!(ioSlots bs rs).contains m && apart (ioSlots bs rs)) = true := ha
          rw [Bool.and_eq_true] at ha
          exact ha.2
        | sh d => exact ha
        | ow d => exact ha
    unfold putBack
    cases j with
    | zero =>
      simp at h1 h2 h3
      subst h1 h2 h3
      have ha : (!(ioSlots bs rs).contains i && apart (ioSlots bs rs)) = true := ha
      rw [Bool.and_eq_true] at ha
      have n : i ∉ ioSlots bs rs := fun z => by simp [z] at ha
      rw [putBack_ne bs _ rs fs n]
      exact put1_at h4
    | succ j =>
      have q1 : bs[j]? = some true := by simpa using h1
      have q2 : rs[j]? = some (.vr i) := by simpa using h2
      refine putBack_at bs _ rs fs j tl q1 q2 (by simpa using h3) ?_
      split
      · rename_i m d'
        have n : i ≠ m := fun z => by
          subst z
          have ha : (!(ioSlots bs rs).contains i && apart (ioSlots bs rs)) = true := ha
          rw [Bool.and_eq_true] at ha
          have := mem_io q1 q2
          simp [this] at ha
        exact (put1_ne n).trans h4
      · exact h4
theorem put_mine {e : EV} {d : D} : (e.put d).mine = e.mine := by cases e <;> rfl
theorem put_d {e : EV} {d : D} : (e.put d).d = d := by cases e <;> rfl
def argOwn (own : Own) (bs : List Bool) (rs : List RV) : Own := fun j => match bs[j]?, rs[j]? with
  | some true, some (.vr i) => own i
  | _, _ => none
theorem argOwn_of {own : Own} {bs : List Bool} {rs : List RV} {j : Nat} {a : Addr} (h : argOwn own bs rs j = some a) : ∃ i, bs[j]? = some true ∧ rs[j]? = some (.vr i) ∧ own i = some a := by
  unfold argOwn at h
  split at h
  · rename_i i h1 h2; exact ⟨i, h1, h2, h⟩
  · cases h
theorem argOwn_at {own : Own} {bs : List Bool} {rs : List RV} {j i : Nat} (h1 : bs[j]? = some true) (h2 : rs[j]? = some (.vr i)) : argOwn own bs rs j = own i := by
  unfold argOwn
  rw [h1, h2]
section
variable {K : PySem.W.Frag} {mg : Str → Option Value} {W : WX} {fx fx' : Fx} {own own' : Own} {σ : L2.St} {H H' : Hp} {ρ : Env} {bs : List Bool} {rs : List RV} {fin : List (Option D)}
/-- the caller's slots behind a call -/
theorem called_rp (R : Rp K fx own σ H ρ) (hk : ∀ a o, H a = some o → (∀ j, argOwn own bs rs j ≠ some a) → H' a = some o) (hal : ∀ a, H a ≠ none → H' a ≠ none) (ha : apart (ioSlots bs rs) = true)
    (hN : fx'.N0 = fx.N0) (h0 : fx'.own0 = fx.own0) (hf : Fresh (OO fx own) (OO fx' own) H) (ht : ∀ a, fx'.Ox a → fx.Ox a ∨ (H a = none ∧ ∃ o, H' a = some o ∧ mutO o))
    (hio : ∀ (j i : Nat), bs[j]? = some true → rs[j]? = some (RV.vr i) → ∃ a, own i = some a) (hfin : ∀ (j i : Nat) a, bs[j]? = some true → rs[j]? = some (RV.vr i) → own i = some a → ∃ d, fin[j]? = some (some d) ∧ RepO K (OO fx' own) H' d a) : Rp K fx' own σ H' (putBack ρ bs rs fin) := by
  have hO : HO' (OO fx' own) H := fun a o z e => by
    rcases hf a z with q | q
    · exact R.ho a o q e
    · rw [e] at q; cases q
  have arg_oo : ∀ {a j}, argOwn own bs rs j = some a → OO fx own a := fun {a j} z => by
    obtain ⟨i, _, _, q⟩ := argOwn_of z
    exact .inr ⟨i, q⟩
  have kp : Kp (OO fx' own) H H' := .of fun a o n e => hk a o e fun j z => n (by
    obtain ⟨i, _, _, q⟩ := argOwn_of z
    exact .inr ⟨i, q⟩)
  have own_there : ∀ {i a}, own i = some a → ∃ e, slot ρ i = some e ∧ e.mine = true ∧ σ[i]? = some (some (.ref a)) ∧ RepO K (OO fx own) H e.d a := fun {i a} q => by
    obtain ⟨e, h1, h2⟩ := R.dom i a q
    obtain ⟨b, q1, q2, q3⟩ := R.ow i e h1 h2
    rw [q] at q1; cases q1
    exact ⟨e, h1, h2, q2, q3⟩
  -- a slot behind the call
  have sl : ∀ i, (∃ j d e a, bs[j]? = some true ∧ rs[j]? = some (RV.vr i) ∧ fin[j]? = some (some d) ∧ slot ρ i = some e ∧ e.mine = true ∧ own i = some a ∧ RepO K (OO fx' own) H' d a ∧ slot (putBack ρ bs rs fin) i = some (e.put d)) ∨ (slot (putBack ρ bs rs fin) i = slot ρ i ∧ i ∉ ioSlots bs rs) := fun i => by
    by_cases hi : i ∈ ioSlots bs rs
    · obtain ⟨j, h1, h2⟩ := of_mem_io hi
      obtain ⟨a, q⟩ := hio j i h1 h2
      obtain ⟨d, h3, h5⟩ := hfin j i a h1 h2 q
      obtain ⟨e, h4, hm, _⟩ := own_there q
      exact .inl ⟨j, d, e, a, h1, h2, h3, h4, hm, q, h5, putBack_at bs ρ rs fin j ha h1 h2 h3 h4⟩
    · exact .inr ⟨putBack_ne bs ρ rs fin hi, hi⟩
  have kept : ∀ {i a}, own i = some a → i ∉ ioSlots bs rs → H' a = H a := fun {i a} q n => by
    obtain ⟨e, _, _, _, r⟩ := own_there q
    obtain ⟨o, ho, _⟩ := r.mut.2
    rw [ho]
    refine hk a o ho fun j z => n ?_
    obtain ⟨l, h1, h2, h3⟩ := argOwn_of z
    have := R.inj l i a h3 q
    subst this
    exact mem_io h1 h2
  exact { len := by rw [putBack_len]; exact R.len
          old := fun a n => hal a (R.old a (by rw [← hN]; exact n))
          trk := fun a z => by
            rcases ht a z with z | ⟨_, z⟩
            · obtain ⟨o, e, m⟩ := R.trk a z
              exact ⟨o, hk a o e fun j q => by
                obtain ⟨i, _, _, q⟩ := argOwn_of q
                exact R.nox i a q z, m⟩
            · exact z
          sh := fun i d e => by
            rcases sl i with ⟨j, d', e', a, _, _, _, h4, hm, _, _, h6⟩ | ⟨h6, _⟩
            · rw [h6] at e
              have : (e'.put d').mine = false := by rw [Option.some.inj e]; rfl
              rw [put_mine, hm] at this; cases this
            · rw [h6] at e
              obtain ⟨v, q1, q2⟩ := R.sh i d e
              exact ⟨v, q1, (q2.fresh hf).kp hO kp⟩
          ow := fun i e q m => by
            rcases sl i with ⟨j, d', e', a, _, _, _, h4, hm, h7, h5, h6⟩ | ⟨h6, hn⟩
            · rw [h6] at q
              cases q
              obtain ⟨_, _, _, s, _⟩ := own_there h7
              exact ⟨a, h7, s, by rw [put_d]; exact h5⟩
            · rw [h6] at q
              obtain ⟨a, q1, q2, q3⟩ := R.ow i e q m
              exact ⟨a, q1, q2, (q3.fresh hf).kp hO kp (kept q1 hn)⟩
          dom := fun i a q => by
            obtain ⟨e, h1, h2, _⟩ := own_there q
            rcases sl i with ⟨j, d', e', a', _, _, _, h4, hm, h7, h5, h6⟩ | ⟨h6, hn⟩
            · exact ⟨_, h6, by rw [put_mine]; exact hm⟩
            · exact ⟨e, h6.trans h1, h2⟩
          inj := R.inj
          nox := fun i a q z => by
            rcases ht a z with z | ⟨z, _⟩
            · exact R.nox i a q z
            · obtain ⟨_, _, _, _, r⟩ := own_there q
              obtain ⟨o, ho, _⟩ := r.mut.2
              rw [z] at ho; cases ho
          new := fun i a d q h => by
            rw [hN]
            rcases sl i with ⟨j, d', e', a', _, _, _, h4, hm, h7, h5, h6⟩ | ⟨h6, hn⟩
            · rw [h6] at h
              have : ∃ c, e' = .ow c := by
                cases e' with
                | sh c => cases h
                | ow c => exact ⟨c, rfl⟩
                | io c => cases h
              obtain ⟨c, rfl⟩ := this
              exact R.new i a c q h4
            · exact R.new i a d q (h6.symm.trans h)
          ios := fun i a q => by
            rw [h0] at q
            obtain ⟨q1, d, q2⟩ := R.ios i a q
            refine ⟨q1, ?_⟩
            rcases sl i with ⟨j, d', e', a', _, _, _, h4, hm, h7, h5, h6⟩ | ⟨h6, hn⟩
            · rw [q2] at h4
              cases h4
              exact ⟨d', h6⟩
            · exact ⟨d, h6.trans q2⟩ }
/-- the callee's view of the heap -/
def calleeFx (fx : Fx) (own : Own) (H : Hp) (ln : List Nat) (bs : List Bool) (rs : List RV) : Fx where
  N0 := fun a => H a = none
  Ox := fun a => OO fx own a ∧ (∀ i ∈ ln, own i ≠ some a) ∧ ∀ j, argOwn own bs rs j ≠ some a
  own0 := argOwn own bs rs
theorem callee_le {ln : List Nat} : ∀ a, OO (calleeFx fx own H ln bs rs) (argOwn own bs rs) a → OO fx own a := fun a z => by
  rcases z with ⟨z, _⟩ | ⟨j, z⟩
  · exact z
  · obtain ⟨i, _, _, q⟩ := argOwn_of z
    exact .inr ⟨i, q⟩
theorem callee_ge : ∀ a, OO fx own a → OO (calleeFx fx own H [] bs rs) (argOwn own bs rs) a := fun a z => by
  by_cases q : ∃ j, argOwn own bs rs j = some a
  · exact .inr q
  · exact .inl ⟨z, (fun _ h => nomatch h), fun j h => q ⟨j, h⟩⟩
theorem argOf_cases {b : Bool} {r : RV} {e : EV} {v : V} (R : Rp K fx own σ H ρ) (u : UseR K fx own σ H r v) (h : argOf ρ b r = some e) :
    (b = false ∧ ∃ d, e = .sh d ∧ (Rep K (OO fx own) H d v ∨ ∃ i a ev, r = .vr i ∧ slot ρ i = some ev ∧ ev.mine = true ∧ own i = some a ∧ v = .ref a ∧ d = ev.d ∧ RepO K (OO fx own) H d a)) ∨
    (b = true ∧ ∃ i a ev, r = .vr i ∧ slot ρ i = some ev ∧ ev.mine = true ∧ own i = some a ∧ v = .ref a ∧ e = .io ev.d ∧ RepO K (OO fx own) H ev.d a) := by
  cases r with
  | sh d =>
    cases b with
    | true => cases h
    | false => cases h; exact .inl ⟨rfl, d, rfl, .inl u⟩
  | ow d => exact u.elim
  | vr i =>
    have u : σ[i]? = some (some v) := u
    have h : (match slot ρ i with
      | some (.sh d) => if b = true then none else some (EV.sh d)
      | some e => if b = true then some (EV.io e.d) else some (EV.sh e.d)
      | none => none) = some e := h
    cases q : slot ρ i with
    | none => rw [q] at h; cases h
    | some ev =>
      cases ev with
      | sh d =>
        rw [q] at h
        cases b with
        | true => cases h
        | false =>
          cases h
          obtain ⟨w, h1, h2⟩ := R.sh i d q
          rw [u] at h1; cases h1
          exact .inl ⟨rfl, d, rfl, .inl h2⟩
      | ow d =>
        obtain ⟨a, q1, q2, q3⟩ := R.ow i _ q rfl
        rw [u] at q2; cases q2
        rw [q] at h
        cases b with
        | true => cases h; exact .inr ⟨rfl, i, a, _, rfl, q, rfl, q1, rfl, rfl, q3⟩
        | false => cases h; exact .inl ⟨rfl, d, rfl, .inr ⟨i, a, _, rfl, q, rfl, q1, rfl, rfl, q3⟩⟩
      | io d =>
        obtain ⟨a, q1, q2, q3⟩ := R.ow i _ q rfl
        rw [u] at q2; cases q2
        rw [q] at h
        cases b with
        | true => cases h; exact .inr ⟨rfl, i, a, _, rfl, q, rfl, q1, rfl, rfl, q3⟩
        | false => cases h; exact .inl ⟨rfl, d, rfl, .inr ⟨i, a, _, rfl, q, rfl, q1, rfl, rfl, q3⟩⟩
theorem UseL.len : ∀ {rs : List RV} {vs : List V}, UseL K fx own σ H rs vs → rs.length = vs.length
  | [], [], _ => rfl
  | _ :: _, _ :: _, h => by simp [UseL.len h.2]
  | [], _ :: _, h => h.elim
  | _ :: _, [], h => h.elim
theorem UseL.at : ∀ {rs : List RV} {vs : List V} {j : Nat} {r : RV}, UseL K fx own σ H rs vs → rs[j]? = some r → ∃ v, vs[j]? = some v ∧ UseR K fx own σ H r v
  | [], [], _, _, _, h => by simp at h
  | r :: rs, v :: vs, 0, _, u, h => by simp at h; subst h; exact ⟨v, rfl, u.1⟩
  | r :: rs, v :: vs, j + 1, _, u, h => by
    obtain ⟨w, h1, h2⟩ := UseL.at (j := j) u.2 (by simpa using h)
    exact ⟨w, by simpa using h1, h2⟩
  | [], _ :: _, _, _, h, _ => h.elim
  | _ :: _, [], _, _, h, _ => h.elim
theorem call_rp {vs : List V} {es : List EV} {ln : List Nat} (R : Rp K fx own σ H ρ) (u : UseL K fx own σ H rs vs) (he : argsOf ρ bs rs = some es) (ha : apart (ioSlots bs rs) = true) (hln : ln = lent ρ bs rs) (hdis : ∀ i ∈ ioSlots bs rs, i ∉ ln) :
    Rp K (calleeFx fx own H ln bs rs) (argOwn own bs rs) (vs.map some) H (es.map some) ∧ es.map isIo = bs ∧ (∀ e ∈ es, ∀ d, e ≠ .ow d) ∧ (∀ (j i : Nat), bs[j]? = some true → rs[j]? = some (RV.vr i) → ∃ a, own i = some a) := by
  obtain ⟨l1, l2⟩ := argsOf_len he
  have l3 := u.len
  have at_ : ∀ {j : Nat} {e : EV}, slot (es.map some) j = some e → ∃ b r v, bs[j]? = some b ∧ rs[j]? = some r ∧ vs[j]? = some v ∧
    ((b = false ∧ ∃ d, e = .sh d ∧ (Rep K (OO fx own) H d v ∨ ∃ i a ev, r = .vr i ∧ slot ρ i = some ev ∧ ev.mine = true ∧ own i = some a ∧ v = .ref a ∧ d = ev.d ∧ RepO K (OO fx own) H d a)) ∨
    (b = true ∧ ∃ i a ev, r = .vr i ∧ slot ρ i = some ev ∧ ev.mine = true ∧ own i = some a ∧ v = .ref a ∧ e = .io ev.d ∧ RepO K (OO fx own) H ev.d a)) := fun {j e} h => by
    have h := slot_get h
    rw [List.getElem?_map] at h
    obtain ⟨e', he', ee⟩ := Option.map_eq_some_iff.mp h
    cases ee
    obtain ⟨b, r, h1, h2, h3⟩ := argsOf_get he he'
    obtain ⟨v, h4, h5⟩ := u.at h2
    exact ⟨b, r, v, h1, h2, h4, argOf_cases R h5 h3⟩
  have io_own : ∀ (j i : Nat), bs[j]? = some true → rs[j]? = some (RV.vr i) → ∃ a, own i = some a := fun j i h1 h2 => by
    have hj : j < es.length := by rw [l1]; exact (List.getElem?_eq_some_iff.mp h1).1
    obtain ⟨b, r, v, q1, q2, q3, q4⟩ := at_ (j := j) (e := es[j]) (slot_of (by simp [hj]))
    rw [h1] at q1; cases q1
    rw [h2] at q2; cases q2
    rcases q4 with ⟨z, _⟩ | ⟨_, i', a, ev, q5, _, _, q6, _⟩
    · cases z
    · cases q5; exact ⟨a, q6⟩
  refine ⟨?_, ?_, ?_, io_own⟩
  · exact { len := by simp; omega
            old := fun a n z => n z
            trk := fun a z => by
              obtain ⟨z, _⟩ := z
              rcases z with z | ⟨i, z⟩
              · exact R.trk a z
              · obtain ⟨e, h1, h2⟩ := R.dom i a z
                obtain ⟨b, q1, _, q3⟩ := R.ow i e h1 h2
                rw [z] at q1; cases q1
                exact q3.mut.2
            sh := fun j d e => by
              obtain ⟨b, r, v, h1, h2, h3, h4⟩ := at_ e
              refine ⟨v, by rw [List.getElem?_map, h3]; rfl, ?_⟩
              rcases h4 with ⟨rfl, d', e', h5⟩ | ⟨_, _, _, _, _, _, _, _, _, e', _⟩
              · cases e'
                rcases h5 with h5 | ⟨i, a, ev, rfl, h6, h7, h8, rfl, h9, h10⟩
                · exact h5.anti callee_le
                · refine (h10.anti callee_le).rep fun z => ?_
                  have hi : i ∈ ln := by rw [hln]; exact mem_lent h1 h2 h6 h7
                  rcases z with ⟨_, z, _⟩ | ⟨l, z⟩
                  · exact z i hi h8
                  · obtain ⟨i', q1, q2, q3⟩ := argOwn_of z
                    have := R.inj i' i a q3 h8
                    subst this
                    exact hdis i' (mem_io q1 q2) hi
              · cases e'
            ow := fun j e q m => by
              obtain ⟨b, r, v, h1, h2, h3, h4⟩ := at_ q
              rcases h4 with ⟨_, d', e', _⟩ | ⟨rfl, i, a, ev, rfl, h6, h7, h8, rfl, e', h9⟩
              · subst e'; cases m
              · subst e'
                exact ⟨a, (argOwn_at h1 h2).trans h8, by rw [List.getElem?_map, h3]; rfl, h9.anti callee_le⟩
            dom := fun j a q => by
              obtain ⟨i, h1, h2, h3⟩ := argOwn_of q
              have hj : j < es.length := by rw [l1]; exact (List.getElem?_eq_some_iff.mp h1).1
              have hs : slot (es.map some) j = some es[j] := slot_of (by simp [hj])
              obtain ⟨b, r, v, q1, q2, q3, q4⟩ := at_ hs
              rw [h1] at q1; cases q1
              rcases q4 with ⟨z, _⟩ | ⟨_, i', a', ev, _, _, _, _, _, q5, _⟩
              · cases z
              · exact ⟨_, hs, by rw [q5]; rfl⟩
            inj := fun j l a q1 q2 => by
              obtain ⟨i, h1, h2, h3⟩ := argOwn_of q1
              obtain ⟨i', h1', h2', h3'⟩ := argOwn_of q2
              have := R.inj i i' a h3 h3'
              subst this
              exact apart_inj ha h1 h2 h1' h2'
            nox := fun j a q z => z.2.2 j q
            new := fun j a d q z => by
              obtain ⟨b, r, v, h1, h2, h3, h4⟩ := at_ z
              rcases h4 with ⟨_, d', e', _⟩ | ⟨_, _, _, _, _, _, _, _, _, e', _⟩ <;> cases e'
            ios := fun j a q => by
              refine ⟨q, ?_⟩
              obtain ⟨i, h1, h2, h3⟩ := argOwn_of (show argOwn own bs rs j = some a from q)
              have hj : j < es.length := by rw [l1]; exact (List.getElem?_eq_some_iff.mp h1).1
              have hs : slot (es.map some) j = some es[j] := slot_of (by simp [hj])
              obtain ⟨b, r, v, q1, q2, q3, q4⟩ := at_ hs
              rw [h1] at q1; cases q1
              rcases q4 with ⟨z, _⟩ | ⟨_, i', a', ev, _, _, _, _, _, q5, _⟩
              · cases z
              · exact ⟨_, hs.trans (by rw [q5])⟩ }
  · apply List.ext_getElem?
    intro j
    by_cases hj : j < es.length
    · obtain ⟨b, r, v, q1, q2, q3, q4⟩ := at_ (j := j) (e := es[j]) (slot_of (by simp [hj]))
      rw [List.getElem?_map, List.getElem?_eq_getElem hj, q1]
      rcases q4 with ⟨z, _, e', _⟩ | ⟨z, _, _, _, _, _, _, _, _, e', _⟩
      · rw [e', z]; rfl
      · rw [e', z]; rfl
    · rw [List.getElem?_eq_none (by simpa using hj), List.getElem?_eq_none (by omega)]
  · intro e hm d z
    obtain ⟨j, hj, rfl⟩ := List.mem_iff_getElem.mp hm
    obtain ⟨b, r, v, q1, q2, q3, q4⟩ := at_ (j := j) (e := es[j]) (slot_of (by simp [hj]))
    rw [z] at q4
    rcases q4 with ⟨_, _, e', _⟩ | ⟨_, _, _, _, _, _, _, _, _, e', _⟩ <;> cases e'
theorem ln_cases {ln : List Nat} {c : Bool} (h : (ln.isEmpty || c) = true) : ln = [] ∨ c = true := by
  cases ln with
  | nil => exact .inl rfl
  | cons _ _ => exact .inr (by simpa using h)
theorem stillO_at {fin : List (Option D)} (h : fin.all stillO = true) {j : Nat} {d : D} (e : fin[j]? = some (some d)) : stillIn d = true :=
  List.all_eq_true.mp h _ (List.mem_of_getElem? e)
theorem call_ok {f : DDef} {AS : DA} {Q : VK} (h : tE K mg W (eCall f bs AS) σ H Q) : tCallS (spF K mg bs f) (WE W) (tA K mg W AS) σ H Q := by
  obtain ⟨fx, own, ρ, k, hx, o, R, e, kn, kx⟩ := h
  refine ⟨fx, own, ρ, _, hx, o, R, e, fun rs ρ1 vs H1 own1 st1 R1 u1 e1 => ?_, kx⟩
  split at e1
  · rename_i hc
    rw [Bool.and_eq_true, List.all_eq_true] at hc
    obtain ⟨ha, hd⟩ := hc
    obtain ⟨es, he, e2⟩ := opt_some e1
    obtain ⟨o', hf, e3⟩ := opt_some e2
    have hdis : ∀ i ∈ ioSlots bs rs, i ∉ lent ρ1 bs rs := fun i hi z => by
      have := hd i hi
      simp [z] at this
    obtain ⟨Rc, c1, c2, hio⟩ := call_rp R1 u1 he ha rfl hdis
    have le2 : ∀ {a : Addr} b, OO ((calleeFx fx own1 H1 (lent ρ1 bs rs) bs rs).add a) (argOwn own1 bs rs) b → OO (fx.add a) own1 b := fun {a} b z => by
      rcases z with (z | z) | z
      · exact oo_add b (callee_le (H := H1) (ln := lent ρ1 bs rs) b (.inl z))
      · exact .inl (.inr z)
      · exact oo_add b (callee_le (H := H1) (ln := lent ρ1 bs rs) b (.inr z))
    have ge2 : lent ρ1 bs rs = [] → ∀ {a : Addr} b, OO (fx.add a) own1 b → OO ((calleeFx fx own1 H1 (lent ρ1 bs rs) bs rs).add a) (argOwn own1 bs rs) b := fun hz {a} b z => by
      rw [hz]
      rcases z with (z | z) | z
      · exact oo_add b (callee_ge b (.inl z))
      · exact .inl (.inr z)
      · exact oo_add b (callee_ge b (.inr z))
    have ge1 : lent ρ1 bs rs = [] → ∀ b, OO fx own1 b → OO (calleeFx fx own1 H1 (lent ρ1 bs rs) bs rs) (argOwn own1 bs rs) b := fun hz b z => by
      rw [hz]
      exact callee_ge b z
    have stp : ∀ {H'}, (∀ a o, H1 a = some o → (∀ j, argOwn own1 bs rs j ≠ some a) → H' a = some o) → (∀ a, H1 a ≠ none → H' a ≠ none) → StepE H1 own1 H' own1 := fun {H'} q1 q2 =>
      ⟨fun a o e n => q1 a o e fun j z => by
        obtain ⟨i, _, _, q⟩ := argOwn_of z
        exact n i q, fun _ _ e => e, q2⟩
    refine ⟨_, _, es, o', Rc, c1, c2, rfl, rfl, hf, fun d fin v H' eo A r => ?_, fun d fin a H' eo hn A r => ?_, fun x fin cls d H' eo A rx => ?_⟩
    · subst eo
      have e3 : (if ((lent ρ1 bs rs).isEmpty || ((EV.sh d).safe && fin.all stillO)) = true then k (.sh d) (putBack ρ1 bs rs fin) else none) = some o := e3
      split at e3
      · rename_i hs
        have hs := ln_cases hs
        have R' : Rp K fx own1 σ H' (putBack ρ1 bs rs fin) := called_rp R1 A.keep A.al ha rfl rfl (fun a z => .inl z) (fun a z => .inl z) hio fun j i a h1 h2 h3 => by
          obtain ⟨d', q1, q2⟩ := A.io j a ((argOwn_at h1 h2).trans h3)
          refine ⟨d', q1, ?_⟩
          rcases hs with hs | hs
          · exact q2.anti (ge1 hs)
          · rw [Bool.and_eq_true] at hs
            exact q2.still (stillO_at hs.2 q1)
        refine kn (.sh d) _ v H' own1 (st1.trans (stp A.keep A.al)) ⟨R', ?_⟩ e3
        rcases hs with hs | hs
        · exact r.anti (ge1 hs)
        · rw [Bool.and_eq_true] at hs
          exact Rep.still r.1 hs.1
      · cases e3
    · subst eo
      have e3 : (if ((lent ρ1 bs rs).isEmpty || ((EV.ow d).safe && fin.all stillO)) = true then k (.ow d) (putBack ρ1 bs rs fin) else none) = some o := e3
      split at e3
      · rename_i hs
        have hs := ln_cases hs
        have r' : RepO K (OO (fx.add a) own1) H' d a := by
          rcases hs with hs | hs
          · exact r.anti (ge2 hs)
          · rw [Bool.and_eq_true] at hs
            exact r.still hs.1
        have R' : Rp K (fx.add a) own1 σ H' (putBack ρ1 bs rs fin) := called_rp R1 A.keep A.al ha rfl rfl (add_fresh hn) (fun b z => z.elim .inl fun z => .inr ⟨by rw [z]; exact hn, by rw [z]; exact r'.mut.2⟩) hio fun j i b h1 h2 h3 => by
          obtain ⟨d', q1, q2⟩ := A.io j b ((argOwn_at h1 h2).trans h3)
          refine ⟨d', q1, ?_⟩
          rcases hs with hs | hs
          · exact q2.anti (ge2 hs)
          · rw [Bool.and_eq_true] at hs
            exact q2.still (stillO_at hs.2 q1)
        exact kn (.ow d) _ (.ref a) H' own1 (st1.trans (stp A.keep A.al)) (ValR.from st1.al ⟨a, rfl, hn, R', r'⟩) e3
      · cases e3
    · subst eo
      have e3 : (if ((lent ρ1 bs rs).isEmpty || fin.all stillO) = true then hx x (putBack ρ1 bs rs fin) else none) = some o := e3
      split at e3
      · rename_i hs
        have hs := ln_cases hs
        have R' : Rp K fx own1 σ H' (putBack ρ1 bs rs fin) := called_rp R1 A.keep A.al ha rfl rfl (fun a z => .inl z) (fun a z => .inl z) hio fun j i a h1 h2 h3 => by
          obtain ⟨d', q1, q2⟩ := A.io j a ((argOwn_at h1 h2).trans h3)
          refine ⟨d', q1, ?_⟩
          rcases hs with hs | hs
          · exact q2.anti (ge1 hs)
          · exact q2.still (stillO_at hs q1)
        exact kx x _ cls d H' own1 (st1.trans (stp A.keep A.al)) R' rx e3
      · cases e3
  · cases e1
end
section
variable {X : Cx} {W : WX} {a : Expr} {es : List Expr} {AS : DA} {pos p : Pos} {x : Str} {bs : List Bool} {f : DDef} {k j : Nat}
/-- x(a, ..): a def of the text -/
theorem re_call (C : Fn X.prog X.w X.K X.mg X.base j x bs f) (hr : Room k X.A) (hjk : j ≤ k) (tk : Takes X W) (ha : RA X W (a :: es) AS) (hg : Gl X x := by rfl) (hdb : (x == ("__debug__" : Str)) = false := by decide)
    (he : starEach (a :: es) X.env = (false, eval a X.env) :: starEach es X.env := by rfl) (hpl : (backTo pos (starEach es X.env)).any (·.1) = false := by rfl) : RE X W (.Call (.Name x p) (a :: es) [] pos) (eCall f bs AS) := by
  obtain ⟨A, fd, ps, F, hm, hk, hb⟩ := C.ex
  exact PE.imp (pe_callS (F.mono hjk) hr hg hm hk hb (fun σ => passAt tk σ) ha hdb he hpl) fun _ _ _ h => call_ok h
/-- x(), raising nothing -/
def eCall0 (f : DDef) : DE := fun ρ k _ => match f [] with
  | some (.ret (.sh d) _) => k (.sh d) ρ
  | _ => none
theorem re_call0 (C : Fn X.prog X.w X.K X.mg X.base j x [] f) (hr : Room k X.A) (hjk : j ≤ k) (hg : Gl X x := by rfl) (hdb : (x == ("__debug__" : Str)) = false := by decide) : RE X W (.Call (.Name x p) [] [] pos) (eCall0 f) := by
  obtain ⟨A, fd, ps, F, hm, hk, hb⟩ := C.ex
  refine PE.imp (pe_call0 (dvs := []) (F.mono hjk) hr hg hm hk hb .nil passL hdb) fun σ H Q ⟨fx, own, ρ, k, hx, o, R, e, kn, kx⟩ => ?_
  have e : (match f [] with
    | some (.ret (.sh d) _) => k (.sh d) ρ
    | _ => none) = some o := e
  split at e
  · rename_i d fin hf
    refine ⟨⟨fun a => H a = none, OO fx own, fun _ => none⟩, fun _ => none, [], _, ?_, rfl, (fun _ h => nomatch h), rfl, rfl, hf, fun d' fin' v H' eo A r => ?_, (fun d' fin' a H' eo => nomatch eo), fun x fin' cls d' H' eo => nomatch eo⟩
    · exact ⟨rfl, fun a n z => n z, fun a z => by
        rcases z with z | ⟨i, z⟩
        · exact R.trk a z
        · obtain ⟨e, h1, h2⟩ := R.dom i a z
          obtain ⟨b, q1, _, q3⟩ := R.ow i e h1 h2
          rw [z] at q1; cases q1
          exact q3.mut.2, (fun i d h => nomatch h), (fun i e h => nomatch h), (fun i a h => nomatch h), (fun i j a h => nomatch h), (fun i a h => nomatch h), (fun i a d h => nomatch h), fun i a h => nomatch h⟩
    · cases eo
      have s : Same H H' := fun b u q => A.keep b u q fun i z => nomatch z
      exact kn (.sh d) ρ v H' own (.of_same s) ⟨R.same s, r.anti fun b z => .inl z⟩ e
  · cases e
end
end DL
set_option maxRecDepth 100000
set_option maxHeartbeats 1000000
/-! DK: comprehensions. -/
namespace DL
open PySem PySem.Spec PyProof.Rows L2
/-- nothing is raised -/
def W0 : WX := fun _ _ _ _ => False
section
variable {K : PySem.W.Frag} {mg : Str → Option Value} {W : WX} {fx fx' : Fx} {own own' : Own} {σ : L2.St} {H H' : Hp} {ρ ρ' : Env} {vs : List Nat}
theorem wipeD_len : ∀ vs : List Nat, (DL.wipe ρ vs).length = ρ.length
  | [] => rfl
  | i :: is => by unfold DL.wipe; rw [List.length_set, wipeD_len is]
theorem slot_wipe_in {i : Nat} : ∀ {vs : List Nat}, i ∈ vs → slot (DL.wipe ρ vs) i = none
  | v :: vs, h => by
    unfold DL.wipe
    by_cases e : i = v
    · subst e
      by_cases hl : i < (DL.wipe ρ vs).length
      · exact slot_set_same hl
      · unfold slot; rw [List.getElem?_eq_none (by simpa using hl)]
    · rw [slot_set_ne e]
      rcases List.mem_cons.mp h with q | q
      · exact absurd q e
      · exact slot_wipe_in q
theorem slot_wipe_out {i : Nat} : ∀ {vs : List Nat}, i ∉ vs → slot (DL.wipe ρ vs) i = slot ρ i
  | [], _ => rfl
  | v :: vs, h => by
    unfold DL.wipe
    rw [slot_set_ne fun e => h (by rw [e]; exact List.mem_cons_self)]
    exact slot_wipe_out fun q => h (List.mem_cons_of_mem _ q)
theorem slot_wipe {i : Nat} {e : EV} (h : slot (DL.wipe ρ vs) i = some e) : i ∉ vs ∧ slot ρ i = some e := by
  by_cases hi : i ∈ vs
  · rw [slot_wipe_in hi] at h; cases h
  · exact ⟨hi, (slot_wipe_out hi).symm.trans h⟩
theorem bare_of : ∀ {vs : List Nat}, bare ρ vs = true → ∀ i ∈ vs, ∀ e, slot ρ i = some e → e.mine = false
  | v :: vs, h, i, hi, e, he => by
    have h : ((match slot ρ v with | some e => !e.mine | none => true) && bare ρ vs) = true := h
    rw [Bool.and_eq_true] at h
    rcases List.mem_cons.mp hi with q | q
    · subst q
      rw [he] at h
      simpa using h.1
    · exact bare_of h.2 i q e he
/-- the block's slots emptied -/
theorem Rp.wiped (R : Rp K fx own σ H ρ) (hb : bare ρ vs = true) : Rp K fx own (L2.wipe σ vs) H (DL.wipe ρ vs) where
  len := by rw [L2.wipe_length, wipeD_len]; exact R.len
  old := R.old
  trk := R.trk
  sh := fun i d e => by
    obtain ⟨hi, e⟩ := slot_wipe e
    obtain ⟨v, h1, h2⟩ := R.sh i d e
    exact ⟨v, (L2.wipe_out hi).trans h1, h2⟩
  ow := fun i e q m => by
    obtain ⟨hi, q⟩ := slot_wipe q
    obtain ⟨a, h0, h1, h2⟩ := R.ow i e q m
    exact ⟨a, h0, (L2.wipe_out hi).trans h1, h2⟩
  dom := fun i a q => by
    obtain ⟨e, h1, h2⟩ := R.dom i a q
    have hi : i ∉ vs := fun z => by
      have := bare_of hb i z e h1
      rw [h2] at this; cases this
    exact ⟨e, (slot_wipe_out hi).trans h1, h2⟩
  inj := R.inj
  nox := R.nox
  new := fun i a d q h => R.new i a d q (slot_wipe h).2
  ios := fun i a q => by
    obtain ⟨q1, d, q2⟩ := R.ios i a q
    have hi : i ∉ vs := fun z => by
      have := bare_of hb i z _ q2
      cases this
    exact ⟨q1, d, (slot_wipe_out hi).trans q2⟩
theorem wipe_else {σ' : L2.St} {S : List Nat} (h : Else S σ σ') (hs : ∀ i ∈ S, i ∈ vs) : L2.wipe σ' vs = L2.wipe σ vs := by
  have hl := h.1
  apply List.ext_getElem?
  intro i
  by_cases hi : i ∈ vs
  · have w : ∀ {τ : L2.St}, i < τ.length → (L2.wipe τ vs)[i]? = some none := fun {τ} hτ => by
      cases q : (L2.wipe τ vs)[i]? with
      | none =>
        rw [List.getElem?_eq_none_iff, L2.wipe_length] at q
        omega
      | some o =>
        cases o with
        | none => rfl
        | some x => exact absurd hi (L2.wipe_some q).2
    by_cases hx : i < σ.length
    · rw [w (by omega), w hx]
    · rw [List.getElem?_eq_none (by rw [L2.wipe_length]; omega), List.getElem?_eq_none (by rw [L2.wipe_length]; omega)]
  · rw [L2.wipe_out hi, L2.wipe_out hi]
    exact h.2 i fun z => hi (hs i z)
theorem wipe_wipe : L2.wipe (L2.wipe σ vs) vs = L2.wipe σ vs := wipe_else (S := vs) ⟨L2.wipe_length σ vs, fun i hi => L2.wipe_out hi⟩ fun _ h => h
theorem back_len : ∀ vs : List Nat, (DL.back ρ ρ' vs).length = ρ'.length
  | [] => rfl
  | i :: is => by unfold DL.back; rw [List.length_set, back_len is]
theorem slot_back_out {i : Nat} : ∀ {vs : List Nat}, i ∉ vs → slot (DL.back ρ ρ' vs) i = slot ρ' i
  | [], _ => rfl
  | v :: vs, h => by
    unfold DL.back
    rw [slot_set_ne fun e => h (by rw [e]; exact List.mem_cons_self)]
    exact slot_back_out fun q => h (List.mem_cons_of_mem _ q)
theorem slot_back_in {i : Nat} (hl : ρ'.length = ρ.length) : ∀ {vs : List Nat}, i ∈ vs → slot (DL.back ρ ρ' vs) i = slot ρ i
  | v :: vs, h => by
    unfold DL.back
    by_cases e : i = v
    · subst e
      by_cases hi : i < (DL.back ρ ρ' vs).length
      · rw [slot_set_same hi]
        unfold slot
        cases ρ[i]? with
        | none => rfl
        | some o => cases o <;> rfl
      · unfold slot
        rw [List.getElem?_eq_none (by simpa using hi), List.getElem?_eq_none (by rw [back_len] at hi; omega)]
    · rw [slot_set_ne e]
      rcases List.mem_cons.mp h with q | q
      · exact absurd q e
      · exact slot_back_in hl q
/-- behind the block: its slots are as they were ahead, the others as they have become -/
theorem Rp.backed {H1 : Hp} {own1 : Own} {ρ1 : Env} (R1 : Rp K fx own1 σ H1 ρ1) (R : Rp K fx' own (L2.wipe σ vs) H ρ) (hb : bare ρ1 vs = true) (hn : ∀ i ∈ vs, slot ρ i = none) (hr : ∀ d v, Rep K (OO fx own1) H1 d v → Rep K (OO fx' own) H d v) :
    Rp K fx' own σ H (DL.back ρ1 ρ vs) := by
  have hl : ρ.length = ρ1.length := by
    have h1 := R.len
    have h2 := R1.len
    rw [L2.wipe_length] at h1
    omega
  have mine_out : ∀ {i e}, slot ρ i = some e → i ∉ vs := fun {i e} q z => by rw [hn i z] at q; cases q
  exact { len := by rw [back_len, ← R.len, L2.wipe_length]
          old := R.old
          trk := R.trk
          sh := fun i d e => by
            by_cases hi : i ∈ vs
            · rw [slot_back_in hl hi] at e
              obtain ⟨v, h1, h2⟩ := R1.sh i d e
              exact ⟨v, h1, hr d v h2⟩
            · rw [slot_back_out hi] at e
              obtain ⟨v, h1, h2⟩ := R.sh i d e
              exact ⟨v, (L2.wipe_out hi).symm.trans h1, h2⟩
          ow := fun i e q m => by
            by_cases hi : i ∈ vs
            · rw [slot_back_in hl hi] at q
              have := bare_of hb i hi e q
              rw [m] at this; cases this
            · rw [slot_back_out hi] at q
              obtain ⟨a, h0, h1, h2⟩ := R.ow i e q m
              exact ⟨a, h0, (L2.wipe_out hi).symm.trans h1, h2⟩
          dom := fun i a q => by
            obtain ⟨e, h1, h2⟩ := R.dom i a q
            exact ⟨e, (slot_back_out (mine_out h1)).trans h1, h2⟩
          inj := R.inj
          nox := R.nox
          new := fun i a d q h => by
            by_cases hi : i ∈ vs
            · rw [slot_back_in hl hi] at h
              have := bare_of hb i hi _ h
              cases this
            · rw [slot_back_out hi] at h
              exact R.new i a d q h
          ios := fun i a q => by
            obtain ⟨q1, d, q2⟩ := R.ios i a q
            exact ⟨q1, d, (slot_back_out (mine_out q2)).trans q2⟩ }
/-- the new list grows by one -/
theorem grow {D0 : Addr} {acc : List V} {accD : List D} {d : D} {y : V} (R : Rp K (fx.add D0) own σ H ρ) (hD : H D0 = some (.lst acc)) (l : RepL K (OO (fx.add D0) own) H accD acc) (r : Rep K (OO (fx.add D0) own) H d y) :
    Rp K (fx.add D0) own σ (upd H D0 (.lst (acc ++ [y]))) ρ ∧ RepL K (OO (fx.add D0) own) (upd H D0 (.lst (acc ++ [y]))) (accD ++ [d]) (acc ++ [y]) ∧ ∀ d v, Rep K (OO (fx.add D0) own) H d v → Rep K (OO (fx.add D0) own) (upd H D0 (.lst (acc ++ [y]))) d v := by
  have hO := R.ho
  have kp : Kp (OO (fx.add D0) own) H (upd H D0 (.lst (acc ++ [y]))) := .of fun a o n e => by
    rw [upd_ne fun z => n (by rw [z]; exact .inl (.inr rfl))]; exact e
  have nown : ∀ i, own i ≠ some D0 := fun i z => R.nox i D0 z (.inr rfl)
  refine ⟨?_, ((l.append (.one r)).kp hO kp), fun d v q => q.kp hO kp⟩
  exact { len := R.len
          old := fun a n => by
            by_cases z : a = D0
            · subst z; rw [upd_same]; exact fun z => nomatch z
            · rw [upd_ne z]; exact R.old a n
          trk := fun a q => by
            by_cases z : a = D0
            · subst z; exact ⟨_, upd_same, trivial⟩
            · obtain ⟨o, e, m⟩ := R.trk a q
              exact ⟨o, by rw [upd_ne z]; exact e, m⟩
          sh := fun i d e => let ⟨v, h1, h2⟩ := R.sh i d e; ⟨v, h1, h2.kp hO kp⟩
          ow := fun i e q m => by
            obtain ⟨a, h1, h2, h3⟩ := R.ow i e q m
            exact ⟨a, h1, h2, h3.kp hO kp (upd_ne fun z => nown i (by rw [← z]; exact h1))⟩
          dom := R.dom
          inj := R.inj
          nox := R.nox
          new := R.new
          ios := R.ios }
theorem grow_step {D0 : Addr} {acc : List V} {H1 : Hp} {own1 : Own} (s : StepE H1 own1 H own) (hn : H1 D0 = none) : StepE H1 own1 (upd H D0 (.lst acc)) own := ⟨fun a o e n => by
    rw [upd_ne fun z => by rw [z, hn] at e; cases e]; exact s.keep a o e n, s.le, fun a n => by
    by_cases z : a = D0
    · subst z; rw [upd_same]; exact fun z => nomatch z
    · rw [upd_ne z]; exact s.al a n⟩
theorem Rp.newlist {D0 : Addr} (R : Rp K fx own σ H ρ) (hn : H D0 = none) : Rp K (fx.add D0) own σ (upd H D0 (.lst [])) ρ := R.aside (same_upd' hn) hn ⟨_, upd_same, trivial⟩
theorem use_w {r : RV} {v : V} {H0 : Hp} (R : ∀ a, fx.Ox a → H0 a ≠ none) (q : ValR K fx own σ H0 H ρ r v) : Rp K fx own σ H ρ ∧ UseR K fx own σ H r.w v := q.use R
theorem lc_ok {it : DI} {S : List Nat} {t : DT} {c : DB} {e : DE} {Q : VK} (hs : ∀ i ∈ S, i ∈ vs) (h : tE K mg W (eLC vs it t c e) σ H Q) : tLc (tI K mg W it) (tG K S t) (tT K mg W0 c) (tE K mg W0 e) vs σ H Q := by
  obtain ⟨fx, own, ρ, k, hx, o, R, e0, kn, kx⟩ := h
  refine ⟨fx, own, ρ, _, hx, o, R, e0, fun xs ρ1 J H1 own1 P st1 R1 wk p1 e1 => fun D0 hD => ?_, kx⟩
  split at e1
  · rename_i hb
    have Rw := (R1.wiped hb).newlist hD
    have fr : ∀ d v, Rep K (OO fx own1) H1 d v → Rep K (OO (fx.add D0) own1) (upd H1 D0 (.lst [])) d v := fun d v r => r.aside R1 (same_upd' hD) hD
    have pA : P (OO (fx.add D0) own1) (upd H1 D0 (.lst [])) := wk.ev _ _ _ _ p1 fr
    refine ⟨fun i m H2 => m = xs.length - i ∧ i ≤ xs.length ∧ ∃ own2 ρ2 accD acc, StepE H1 own1 H2 own2 ∧ Rp K (fx.add D0) own2 (L2.wipe σ vs) H2 ρ2 ∧ (∀ i ∈ vs, slot ρ2 i = none) ∧ H2 D0 = some (.lst acc) ∧
        RepL K (OO (fx.add D0) own2) H2 accD acc ∧ P (OO (fx.add D0) own2) H2 ∧ (∀ d v, Rep K (OO fx own1) H1 d v → Rep K (OO (fx.add D0) own2) H2 d v) ∧
        DL.lc vs t c e (fun ds ρ2 => k (.ow (.list ds)) (DL.back ρ1 ρ2 vs)) (xs.drop i) ρ2 accD = some o,
      ⟨xs.length, by simp, Nat.zero_le _, own1, DL.wipe ρ1 vs, [], [], StepE.of_same (same_upd' hD), Rw, fun i hi => slot_wipe_in hi, upd_same, .nil, pA, fr, e1⟩, ?_⟩
    rintro i m H2 ⟨rfl, hi, own2, ρ2, accD, acc, s2, R2, n2, hD2, l2, p2, f2, e2⟩
    by_cases hlt : i < xs.length
    · refine .inr ?_
      obtain ⟨hgo, hy⟩ := wk.go _ _ i xs[i] p2 (by simp [hlt])
      rw [List.drop_eq_getElem_cons hlt] at e2
      refine ⟨hgo, fun H' => ∃ own2 ρ2 accD acc, StepE H1 own1 H' own2 ∧ Rp K (fx.add D0) own2 (L2.wipe σ vs) H' ρ2 ∧ (∀ i ∈ vs, slot ρ2 i = none) ∧ H' D0 = some (.lst acc) ∧
        RepL K (OO (fx.add D0) own2) H' accD acc ∧ P (OO (fx.add D0) own2) H' ∧ (∀ d v, Rep K (OO fx own1) H1 d v → Rep K (OO (fx.add D0) own2) H' d v) ∧
        DL.lc vs t c e (fun ds ρ2 => k (.ow (.list ds)) (DL.back ρ1 ρ2 vs)) (xs.drop (i + 1)) ρ2 accD = some o, ?_, ?_⟩
      · rintro H' q
        exact ⟨xs.length - (i + 1), by omega, rfl, hlt, q⟩
      · intro x H3 y
        obtain ⟨same, rx⟩ := hy x H3 y
        have R3 := R2.same same
        have s3 : StepE H1 own1 H3 own2 := s2.trans (.of_same same)
        have sr3 : ∀ d v, Rep K (OO (fx.add D0) own2) H2 d v → Rep K (OO (fx.add D0) own2) H3 d v := fun d v r => Rep.sameR R2 same r
        have hD3 : H3 D0 = some (.lst acc) := same _ _ hD2
        have l3 : RepL K (OO (fx.add D0) own2) H3 accD acc := l2.kp R2.ho (.of fun a o _ e => same a o e)
        refine ⟨fx.add D0, own2, ρ2, xs[i], _, o, R3, rx R2.ho, e2, fun ρ4 σ4 own4 st4 R4 w4 e4 => ?_⟩
        have hw : L2.wipe σ4 vs = L2.wipe (L2.wipe σ vs) vs := wipe_else w4 hs
        rw [wipe_wipe] at hw
        refine ⟨hw, ?_⟩
        have s4 := s3.trans st4
        have sr4 : ∀ d v, Rep K (OO (fx.add D0) own2) H2 d v → Rep K (OO (fx.add D0) own4) H3 d v := fun d v r => Rep.step R3 st4 (sr3 d v r)
        have l4 : RepL K (OO (fx.add D0) own4) H3 accD acc := RepL.step R3 st4 l3
        refine ⟨fx.add D0, own4, ρ4, _, _, o, R4, e4, fun b ρ5 H5 own5 st5 R5 e5 => ?_, fun x ρ5 cls d H5 own5 st5 R5 rx e5 => nomatch e5⟩
        have s5 := s4.trans st5
        have sr5 : ∀ d v, Rep K (OO (fx.add D0) own2) H2 d v → Rep K (OO (fx.add D0) own5) H5 d v := fun d v r => Rep.step R4 st5 (sr4 d v r)
        have nD : ∀ {own' : Own} {σ' H' ρ'}, Rp K (fx.add D0) own' σ' H' ρ' → ∀ i, own' i ≠ some D0 := fun {_ _ _ _} R i z => R.nox i D0 z (.inr rfl)
        have hD5 : H5 D0 = some (.lst acc) := st5.keep _ _ hD3 (nD R4)
        have l5 : RepL K (OO (fx.add D0) own5) H5 accD acc := RepL.step R4 st5 l4
        cases b with
        | false =>
          have e5 : (if bare ρ5 vs = true then DL.lc vs t c e (fun ds ρ2 => k (.ow (.list ds)) (DL.back ρ1 ρ2 vs)) (xs.drop (i + 1)) (DL.wipe ρ5 vs) accD else none) = some o := e5
          split at e5
          · rename_i hb5
            have R6 := R5.wiped hb5
            rw [hw] at R6
            exact ite_ff ⟨own5, _, accD, acc, s5, R6, fun i hi => slot_wipe_in hi, hD5, l5, wk.ev _ _ _ _ p2 sr5, fun d v r => sr5 d v (f2 d v r), e5⟩
          · cases e5
        | true =>
          refine ite_tt ⟨fx.add D0, own5, ρ5, _, _, o, R5, e5, fun r ρ6 v H6 own6 st6 q6 e6 => ?_, fun x ρ5 cls d H5 own5 st5 R5 rx e5 => nomatch e5⟩
          obtain ⟨R6, u6⟩ := q6.use R5.there
          obtain ⟨d, ρ7, own7, e7, s7, R7, q7⟩ := freeze_ok R6 u6 e6
          split at e7
          · rename_i hb7
            rw [Bool.and_eq_true, decide_eq_true_eq] at hb7
            have hD6 : H6 D0 = some (.lst acc) := st6.keep _ _ hD5 (nD R5)
            have l7 : RepL K (OO (fx.add D0) own7) H6 accD acc := RepL.step R6 s7 (RepL.step R5 st6 l5)
            have sr7 : ∀ d v, Rep K (OO (fx.add D0) own2) H2 d v → Rep K (OO (fx.add D0) own7) H6 d v := fun d v r => Rep.step R6 s7 (Rep.step R5 st6 (sr5 d v r))
            have R8 := R7.wiped hb7.1
            rw [hw] at R8
            obtain ⟨R9, l9, f9⟩ := grow R8 hD6 l7 q7
            refine ⟨acc, hD6, by rw [← l7.length, ← sizeLim_eq]; exact hb7.2, own7, _, accD ++ [d], acc ++ [v], grow_step ((s5.trans st6).trans s7) hD, R9, fun i hi => slot_wipe_in hi, upd_same, l9, wk.ev _ _ _ _ p2 fun d v r => f9 d v (sr7 d v r), fun d v r => f9 d v (sr7 d v (f2 d v r)), e7⟩
          · cases e7
    · have hie : i = xs.length := by omega
      subst hie
      rw [List.drop_length] at e2
      refine .inl ⟨wk.stop _ _ p2, ?_⟩
      have RB := R1.backed R2 hb n2 f2
      exact kn (.ow (.list accD)) _ (.ref D0) H2 own2 (st1.trans s2) ⟨D0, rfl, Classical.byContradiction fun z => st1.al D0 z hD, RB, acc, hD2, l2⟩ e2
  · cases e1
theorem wipe_sub {σ : L2.St} {vs vs1 : List Nat} (h : ∀ i ∈ vs1, i ∈ vs) : L2.wipe (L2.wipe σ vs1) vs = L2.wipe σ vs := wipe_else (S := vs1) ⟨L2.wipe_length σ vs1, fun i hi => L2.wipe_out hi⟩ h
theorem lc2_ok {vs1 : List Nat} {it it1 : DI} {S S1 : List Nat} {t t1 : DT} {c c1 : DB} {e : DE} {Q : VK} (hs : ∀ i ∈ S, i ∈ vs) (hv : ∀ i ∈ vs1, i ∈ vs) (hs1 : ∀ i ∈ S1, i ∈ vs1) (h : tE K mg W (eLC2 vs vs1 it t c it1 t1 c1 e) σ H Q) :
    tLc2 (tI K mg W it) (tG K S t) (tT K mg W0 c) (tI K mg W0 it1) (tG K S1 t1) (tT K mg W0 c1) (tE K mg W0 e) vs vs1 σ H Q := by
  obtain ⟨fx, own, ρ, k, hx, o, R, e0, kn, kx⟩ := h
  refine ⟨fx, own, ρ, _, hx, o, R, e0, fun xs ρ1 J H1 own1 P st1 R1 wk p1 e1 => fun D0 hD => ?_, kx⟩
  split at e1
  · rename_i hb
    have Rw := (R1.wiped hb).newlist hD
    have fr : ∀ d v, Rep K (OO fx own1) H1 d v → Rep K (OO (fx.add D0) own1) (upd H1 D0 (.lst [])) d v := fun d v r => r.aside R1 (same_upd' hD) hD
    have pA : P (OO (fx.add D0) own1) (upd H1 D0 (.lst [])) := wk.ev _ _ _ _ p1 fr
    have nD : ∀ {own' : Own} {σ' H' ρ'}, Rp K (fx.add D0) own' σ' H' ρ' → ∀ i, own' i ≠ some D0 := fun {_ _ _ _} R i z => R.nox i D0 z (.inr rfl)
    refine ⟨fun i m H2 => m = xs.length - i ∧ i ≤ xs.length ∧ ∃ own2 ρ2 accD acc, StepE H1 own1 H2 own2 ∧ Rp K (fx.add D0) own2 (L2.wipe σ vs) H2 ρ2 ∧ (∀ i ∈ vs, slot ρ2 i = none) ∧ H2 D0 = some (.lst acc) ∧
        RepL K (OO (fx.add D0) own2) H2 accD acc ∧ P (OO (fx.add D0) own2) H2 ∧ (∀ d v, Rep K (OO fx own1) H1 d v → Rep K (OO (fx.add D0) own2) H2 d v) ∧
        DL.lc2 vs vs1 t c it1 t1 c1 e (fun ds ρ2 => k (.ow (.list ds)) (DL.back ρ1 ρ2 vs)) (xs.drop i) ρ2 accD = some o,
      ⟨xs.length, by simp, Nat.zero_le _, own1, DL.wipe ρ1 vs, [], [], StepE.of_same (same_upd' hD), Rw, fun i hi => slot_wipe_in hi, upd_same, .nil, pA, fr, e1⟩, ?_⟩
    rintro i m H2 ⟨rfl, hi, own2, ρ2, accD, acc, s2, R2, n2, hD2, l2, p2, f2, e2⟩
    by_cases hlt : i < xs.length
    · refine .inr ?_
      obtain ⟨hgo, hy⟩ := wk.go _ _ i xs[i] p2 (by simp [hlt])
      rw [List.drop_eq_getElem_cons hlt] at e2
      refine ⟨hgo, fun H' => ∃ own2 ρ2 accD acc, StepE H1 own1 H' own2 ∧ Rp K (fx.add D0) own2 (L2.wipe σ vs) H' ρ2 ∧ (∀ i ∈ vs, slot ρ2 i = none) ∧ H' D0 = some (.lst acc) ∧
        RepL K (OO (fx.add D0) own2) H' accD acc ∧ P (OO (fx.add D0) own2) H' ∧ (∀ d v, Rep K (OO fx own1) H1 d v → Rep K (OO (fx.add D0) own2) H' d v) ∧
        DL.lc2 vs vs1 t c it1 t1 c1 e (fun ds ρ2 => k (.ow (.list ds)) (DL.back ρ1 ρ2 vs)) (xs.drop (i + 1)) ρ2 accD = some o, ?_, ?_⟩
      · rintro H' q
        exact ⟨xs.length - (i + 1), by omega, rfl, hlt, q⟩
      · intro x H3 y
        obtain ⟨same, rx⟩ := hy x H3 y
        have R3 := R2.same same
        have s3 : StepE H1 own1 H3 own2 := s2.trans (.of_same same)
        have sr3 : ∀ d v, Rep K (OO (fx.add D0) own2) H2 d v → Rep K (OO (fx.add D0) own2) H3 d v := fun d v r => Rep.sameR R2 same r
        have hD3 : H3 D0 = some (.lst acc) := same _ _ hD2
        have l3 : RepL K (OO (fx.add D0) own2) H3 accD acc := l2.kp R2.ho (.of fun a o _ e => same a o e)
        refine ⟨fx.add D0, own2, ρ2, xs[i], _, o, R3, rx R2.ho, e2, fun ρ4 σ4 own4 st4 R4 w4 e4 => ?_⟩
        have hw : L2.wipe σ4 vs = L2.wipe (L2.wipe σ vs) vs := wipe_else w4 hs
        rw [wipe_wipe] at hw
        refine ⟨hw, ?_⟩
        have s4 := s3.trans st4
        have sr4 : ∀ d v, Rep K (OO (fx.add D0) own2) H2 d v → Rep K (OO (fx.add D0) own4) H3 d v := fun d v r => Rep.step R3 st4 (sr3 d v r)
        have l4 : RepL K (OO (fx.add D0) own4) H3 accD acc := RepL.step R3 st4 l3
        refine ⟨fx.add D0, own4, ρ4, _, _, o, R4, e4, fun b ρ5 H5 own5 st5 R5 e5 => ?_, fun x ρ5 cls d H5 own5 st5 R5 rx e5 => nomatch e5⟩
        have s5 := s4.trans st5
        have sr5 : ∀ d v, Rep K (OO (fx.add D0) own2) H2 d v → Rep K (OO (fx.add D0) own5) H5 d v := fun d v r => Rep.step R4 st5 (sr4 d v r)
        have hD5 : H5 D0 = some (.lst acc) := st5.keep _ _ hD3 (nD R4)
        have l5 : RepL K (OO (fx.add D0) own5) H5 accD acc := RepL.step R4 st5 l4
        cases b with
        | false =>
          have e5 : (if bare ρ5 vs = true then DL.lc2 vs vs1 t c it1 t1 c1 e (fun ds ρ2 => k (.ow (.list ds)) (DL.back ρ1 ρ2 vs)) (xs.drop (i + 1)) (DL.wipe ρ5 vs) accD else none) = some o := e5
          split at e5
          · rename_i hb5
            have R6 := R5.wiped hb5
            rw [hw] at R6
            exact ite_ff ⟨own5, _, accD, acc, s5, R6, fun i hi => slot_wipe_in hi, hD5, l5, wk.ev _ _ _ _ p2 sr5, fun d v r => sr5 d v (f2 d v r), e5⟩
          · cases e5
        | true =>
          refine ite_tt ⟨fx.add D0, own5, ρ5, _, _, o, R5, e5, fun ys ρ6 J1 H6 own6 P1 st6 R6 wk1 q6 e6 => ?_, fun x ρ5 cls d H5 own5 st5 R5 rx e5 => nomatch e5⟩
          split at e6
          · rename_i hb6
            have s6 := s5.trans st6
            have sr6 : ∀ d v, Rep K (OO (fx.add D0) own2) H2 d v → Rep K (OO (fx.add D0) own6) H6 d v := fun d v r => Rep.step R5 st6 (sr5 d v r)
            have hD6 : H6 D0 = some (.lst acc) := st6.keep _ _ hD5 (nD R5)
            have l6 : RepL K (OO (fx.add D0) own6) H6 accD acc := RepL.step R5 st6 l5
            refine ⟨fun j m H7 => m = ys.length - j ∧ j ≤ ys.length ∧ ∃ own7 ρ7 accD acc, StepE H1 own1 H7 own7 ∧ Rp K (fx.add D0) own7 (L2.wipe σ4 vs1) H7 ρ7 ∧ H7 D0 = some (.lst acc) ∧
                RepL K (OO (fx.add D0) own7) H7 accD acc ∧ P1 (OO (fx.add D0) own7) H7 ∧ (∀ d v, Rep K (OO (fx.add D0) own2) H2 d v → Rep K (OO (fx.add D0) own7) H7 d v) ∧
                DL.lcIn vs1 t1 c1 e (fun ρ4 acc => if bare ρ4 vs = true then DL.lc2 vs vs1 t c it1 t1 c1 e (fun ds ρ2 => k (.ow (.list ds)) (DL.back ρ1 ρ2 vs)) (xs.drop (i + 1)) (DL.wipe ρ4 vs) acc else none) (ys.drop j) ρ7 accD = some o,
              ⟨ys.length, by simp, Nat.zero_le _, own6, DL.wipe ρ6 vs1, accD, acc, s6, R6.wiped hb6, hD6, l6, q6, sr6, e6⟩, ?_⟩
            rintro j m H7 ⟨rfl, hj, own7, ρ7, accD, acc, s7, R7, hD7, l7, p7, f7, e7⟩
            by_cases hjl : j < ys.length
            · refine .inr ?_
              obtain ⟨hgo1, hy1⟩ := wk1.go _ _ j ys[j] p7 (by simp [hjl])
              rw [List.drop_eq_getElem_cons hjl] at e7
              refine ⟨hgo1, fun H' => ∃ own7 ρ7 accD acc, StepE H1 own1 H' own7 ∧ Rp K (fx.add D0) own7 (L2.wipe σ4 vs1) H' ρ7 ∧ H' D0 = some (.lst acc) ∧
                RepL K (OO (fx.add D0) own7) H' accD acc ∧ P1 (OO (fx.add D0) own7) H' ∧ (∀ d v, Rep K (OO (fx.add D0) own2) H2 d v → Rep K (OO (fx.add D0) own7) H' d v) ∧
                DL.lcIn vs1 t1 c1 e (fun ρ4 acc => if bare ρ4 vs = true then DL.lc2 vs vs1 t c it1 t1 c1 e (fun ds ρ2 => k (.ow (.list ds)) (DL.back ρ1 ρ2 vs)) (xs.drop (i + 1)) (DL.wipe ρ4 vs) acc else none) (ys.drop (j + 1)) ρ7 accD = some o, ?_, ?_⟩
              · rintro H' q
                exact ⟨ys.length - (j + 1), by omega, rfl, hjl, q⟩
              · intro x1 H8 y1
                obtain ⟨same1, rx1⟩ := hy1 x1 H8 y1
                have R8 := R7.same same1
                have s8 : StepE H1 own1 H8 own7 := s7.trans (.of_same same1)
                have sr8 : ∀ d v, Rep K (OO (fx.add D0) own7) H7 d v → Rep K (OO (fx.add D0) own7) H8 d v := fun d v r => Rep.sameR R7 same1 r
                have hD8 : H8 D0 = some (.lst acc) := same1 _ _ hD7
                have l8 : RepL K (OO (fx.add D0) own7) H8 accD acc := l7.kp R7.ho (.of fun a o _ e => same1 a o e)
                refine ⟨fx.add D0, own7, ρ7, ys[j], _, o, R8, rx1 R7.ho, e7, fun ρ9 σ9 own9 st9 R9 w9 e9 => ?_⟩
                have hw9 : L2.wipe σ9 vs1 = L2.wipe (L2.wipe σ4 vs1) vs1 := wipe_else w9 hs1
                rw [wipe_wipe] at hw9
                refine ⟨hw9, ?_⟩
                have s9 := s8.trans st9
                have sr9 : ∀ d v, Rep K (OO (fx.add D0) own7) H7 d v → Rep K (OO (fx.add D0) own9) H8 d v := fun d v r => Rep.step R8 st9 (sr8 d v r)
                have l9 : RepL K (OO (fx.add D0) own9) H8 accD acc := RepL.step R8 st9 l8
                refine ⟨fx.add D0, own9, ρ9, _, _, o, R9, e9, fun b ρa Ha owna sta Ra ea => ?_, fun x ρ5 cls d H5 own5 st5 R5 rx e5 => nomatch e5⟩
                have sa := s9.trans sta
                have sra : ∀ d v, Rep K (OO (fx.add D0) own7) H7 d v → Rep K (OO (fx.add D0) owna) Ha d v := fun d v r => Rep.step R9 sta (sr9 d v r)
                have hDa : Ha D0 = some (.lst acc) := sta.keep _ _ hD8 (nD R9)
                have la : RepL K (OO (fx.add D0) owna) Ha accD acc := RepL.step R9 sta l9
                cases b with
                | false =>
                  have ea : (if bare ρa vs1 = true then DL.lcIn vs1 t1 c1 e (fun ρ4 acc => if bare ρ4 vs = true then DL.lc2 vs vs1 t c it1 t1 c1 e (fun ds ρ2 => k (.ow (.list ds)) (DL.back ρ1 ρ2 vs)) (xs.drop (i + 1)) (DL.wipe ρ4 vs) acc else none) (ys.drop (j + 1)) (DL.wipe ρa vs1) accD else none) = some o := ea
                  split at ea
                  · rename_i hba
                    have Rb := Ra.wiped hba
                    rw [hw9] at Rb
                    exact ite_ff ⟨owna, _, accD, acc, sa, Rb, hDa, la, wk1.ev _ _ _ _ p7 sra, fun d v r => sra d v (f7 d v r), ea⟩
                  · cases ea
                | true =>
                  refine ite_tt ⟨fx.add D0, owna, ρa, _, _, o, Ra, ea, fun r ρb v Hb ownb stb qb eb => ?_, fun x ρ5 cls d H5 own5 st5 R5 rx e5 => nomatch e5⟩
                  obtain ⟨Rb, ub⟩ := qb.use Ra.there
                  obtain ⟨d, ρc, ownc, ec, sc, Rc, qc⟩ := freeze_ok Rb ub eb
                  split at ec
                  · rename_i hbc
                    rw [Bool.and_eq_true, decide_eq_true_eq] at hbc
                    have hDb : Hb D0 = some (.lst acc) := stb.keep _ _ hDa (nD Ra)
                    have lc : RepL K (OO (fx.add D0) ownc) Hb accD acc := RepL.step Rb sc (RepL.step Ra stb la)
                    have src : ∀ d v, Rep K (OO (fx.add D0) own7) H7 d v → Rep K (OO (fx.add D0) ownc) Hb d v := fun d v r => Rep.step Rb sc (Rep.step Ra stb (sra d v r))
                    have Rd := Rc.wiped hbc.1
                    rw [hw9] at Rd
                    obtain ⟨Re, le, fe⟩ := grow Rd hDb lc qc
                    exact ⟨acc, hDb, by rw [← lc.length, ← sizeLim_eq]; exact hbc.2, ownc, _, accD ++ [d], acc ++ [v], grow_step ((sa.trans stb).trans sc) hD, Re, upd_same, le, wk1.ev _ _ _ _ p7 fun d v r => fe d v (src d v r), fun d v r => fe d v (src d v (f7 d v r)), ec⟩
                  · cases ec
            · have hje : j = ys.length := by omega
              subst hje
              rw [List.drop_length] at e7
              refine .inl ⟨wk1.stop _ _ p7, ?_⟩
              have e7 : (if bare ρ7 vs = true then DL.lc2 vs vs1 t c it1 t1 c1 e (fun ds ρ2 => k (.ow (.list ds)) (DL.back ρ1 ρ2 vs)) (xs.drop (i + 1)) (DL.wipe ρ7 vs) accD else none) = some o := e7
              split at e7
              · rename_i hb7
                have R8 := R7.wiped hb7
                rw [wipe_sub hv, hw] at R8
                exact ⟨own7, _, accD, acc, s7, R8, fun i hi => slot_wipe_in hi, hD7, l7, wk.ev _ _ _ _ p2 f7, fun d v r => f7 d v (f2 d v r), e7⟩
              · cases e7
          · cases e6
    · have hie : i = xs.length := by omega
      subst hie
      rw [List.drop_length] at e2
      refine .inl ⟨wk.stop _ _ p2, ?_⟩
      have RB := R1.backed R2 hb n2 f2
      exact kn (.ow (.list accD)) _ (.ref D0) H2 own2 (st1.trans s2) ⟨D0, rfl, Classical.byContradiction fun z => st1.al D0 z hD, RB, acc, hD2, l2⟩ e2
  · cases e1
end
section
variable {X : Cx} {W : WX} {elt tg iter tg1 iter1 : Expr} {ifs ifs1 : List Expr} {scope : Scope} {own : List (Str × Nat)} {vs1 S S1 : List Nat} {pos spos py : Pos} {IT IT1 : DI} {T T1 : DT} {C C1 : DB} {E : DE}
def RTs (X : Cx) (W : WX) (ifs : List Expr) (F : DB) : Prop := PTs X ifs (tT X.K X.mg W F)
theorem rts_nil : RTs X W [] yes := ⟨fun pins s σ H Q I ⟨fx, own, ρ, k, hx, o, R, e, kn, kx⟩ => pts_nil.run pins s σ H Q I (kn true ρ H own .refl R e)⟩
theorem rts_one {c : Expr} (h : RT X W c C) : RTs X W [c] C := pts_one h
/-- a block's context -/
abbrev Blk (X : Cx) (scope : Scope) (s : Shared) (H : Hp) (C : Addr) (cl : List (Str × Addr)) (fp : List Addr) : Cx := X.blk s H scope (compEnvC scope cl C X.env) fp
theorem re_lc (hc : X.calm = true) (hN : X.N.Nodup) (hi : RI X W tg iter IT) (ok : BlkOk X.N X.env.scope scope own) (hS : ∀ i ∈ S, i ∈ own.map (·.2))
    (hg : ∀ s H C cl fp, RG (Blk X scope s H C cl fp) tg S T) (ht : ∀ s H Ca cl fp, RTs (Blk X scope s H Ca cl fp) W0 ifs C) (he : ∀ s H C cl fp, RE (Blk X scope s H C cl fp) W0 elt E)
    (hs : ∀ x, foldedSetIterable iter X.env x = pure x := by intro _; rfl) : RE X W (.ListComp elt [⟨tg, iter, ifs, 0⟩] scope pos) (eLC (own.map (·.2)) IT T C E) :=
  PE.imp (pe_lc (g := tG X.K S T) (tt := tT X.K X.mg W0 C) (te := tE X.K X.mg W0 E) hc hN hi ok hg ht he hs) fun σ H Q h => lc_ok hS h
theorem rs_setLc {i : Nat} {y : Str} (hc : X.calm = true) (hN : X.N.Nodup) (hi : RI X W tg iter IT) (ok : BlkOk X.N X.env.scope scope own) (hS : ∀ i ∈ S, i ∈ own.map (·.2))
    (hg : ∀ s H C cl fp, RG (Blk X scope s H C cl fp) tg S T) (ht : ∀ s H Ca cl fp, RTs (Blk X scope s H Ca cl fp) W0 ifs C) (he : ∀ s H C cl fp, RE (Blk X scope s H C cl fp) W0 elt E)
    (hy : X.N[i]? = some y := by rfl) (hyl : X.env.scope.names.lookup y = some .local := by rfl) (hsw : swapsWith (.ListComp elt [⟨tg, iter, ifs, 0⟩] scope pos) (some (.Name y py)) spos.line X.env = pure true := by exact sw_true rfl rfl rfl (by decide +kernel))
    (hs : ∀ x, foldedSetIterable iter X.env x = pure x := by intro _; rfl) : RS X W (.Assign [.Name y py] (.ListComp elt [⟨tg, iter, ifs, 0⟩] scope pos) spos) (sSet i (eLC (own.map (·.2)) IT T C E)) :=
  PS.imp (ps_setLc (g := tG X.K S T) (tt := tT X.K X.mg W0 C) (te := tE X.K X.mg W0 E) hc hN hy hyl hsw hi ok hg ht he hs) fun Ed σ H h => lc_ok hS (sset_ok h)
theorem re_lc2 (hc : X.calm = true) (hN : X.N.Nodup) (hi : RI X W tg iter IT) (ok : BlkOk X.N X.env.scope scope own) (hS : ∀ i ∈ S, i ∈ own.map (·.2)) (hv : ∀ i ∈ vs1, i ∈ own.map (·.2)) (hS1 : ∀ i ∈ S1, i ∈ vs1)
    (hg : ∀ s H C cl fp, RG (Blk X scope s H C cl fp) tg S T) (ht : ∀ s H Ca cl fp, RTs (Blk X scope s H Ca cl fp) W0 ifs C)
    (hi1 : ∀ s H C cl fp, RI (Blk X scope s H C cl fp) W0 tg1 iter1 IT1) (hg1 : ∀ s H C cl fp, RG (Blk X scope s H C cl fp) tg1 S1 T1) (ht1 : ∀ s H Ca cl fp, RTs (Blk X scope s H Ca cl fp) W0 ifs1 C1)
    (he : ∀ s H C cl fp, RE (Blk X scope s H C cl fp) W0 elt E)
    (hs : ∀ x, foldedSetIterable iter X.env x = pure x := by intro _; rfl) (hs1 : ∀ env x, foldedSetIterable iter1 env x = pure x := by intro _ _; rfl) :
    RE X W (.ListComp elt [⟨tg, iter, ifs, 0⟩, ⟨tg1, iter1, ifs1, 0⟩] scope pos) (eLC2 (own.map (·.2)) vs1 IT T C IT1 T1 C1 E) :=
  PE.imp (pe_lc2 (g := tG X.K S T) (tt := tT X.K X.mg W0 C) (te := tE X.K X.mg W0 E) (wi1 := tI X.K X.mg W0 IT1) (g1 := tG X.K S1 T1) (tt1 := tT X.K X.mg W0 C1) hc hN hi ok hv hg ht hi1 hg1 ht1 he hs hs1) fun σ H Q h => lc2_ok hS hv hS1 h
theorem rs_setLc2 {i : Nat} {y : Str} (hc : X.calm = true) (hN : X.N.Nodup) (hi : RI X W tg iter IT) (ok : BlkOk X.N X.env.scope scope own) (hS : ∀ i ∈ S, i ∈ own.map (·.2)) (hv : ∀ i ∈ vs1, i ∈ own.map (·.2)) (hS1 : ∀ i ∈ S1, i ∈ vs1)
    (hg : ∀ s H C cl fp, RG (Blk X scope s H C cl fp) tg S T) (ht : ∀ s H Ca cl fp, RTs (Blk X scope s H Ca cl fp) W0 ifs C)
    (hi1 : ∀ s H C cl fp, RI (Blk X scope s H C cl fp) W0 tg1 iter1 IT1) (hg1 : ∀ s H C cl fp, RG (Blk X scope s H C cl fp) tg1 S1 T1) (ht1 : ∀ s H Ca cl fp, RTs (Blk X scope s H Ca cl fp) W0 ifs1 C1)
    (he : ∀ s H C cl fp, RE (Blk X scope s H C cl fp) W0 elt E)
    (hy : X.N[i]? = some y := by rfl) (hyl : X.env.scope.names.lookup y = some .local := by rfl) (hsw : swapsWith (.ListComp elt [⟨tg, iter, ifs, 0⟩, ⟨tg1, iter1, ifs1, 0⟩] scope pos) (some (.Name y py)) spos.line X.env = pure true := by exact sw_true rfl rfl rfl (by decide +kernel))
    (hs : ∀ x, foldedSetIterable iter X.env x = pure x := by intro _; rfl) (hs1 : ∀ env x, foldedSetIterable iter1 env x = pure x := by intro _ _; rfl) :
    RS X W (.Assign [.Name y py] (.ListComp elt [⟨tg, iter, ifs, 0⟩, ⟨tg1, iter1, ifs1, 0⟩] scope pos) spos) (sSet i (eLC2 (own.map (·.2)) vs1 IT T C IT1 T1 C1 E)) :=
  PS.imp (ps_setLc2 (g := tG X.K S T) (tt := tT X.K X.mg W0 C) (te := tE X.K X.mg W0 E) (wi1 := tI X.K X.mg W0 IT1) (g1 := tG X.K S1 T1) (tt1 := tT X.K X.mg W0 C1) hc hN hy hyl hsw hi ok hv hg ht hi1 hg1 ht1 he hs hs1) fun Ed σ H h => lc2_ok hS hv hS1 (sset_ok h)
end
end DL
set_option maxRecDepth 100000
set_option maxHeartbeats 1000000
/-! DO: operators and built-in functions by plain data. -/
namespace DL
open PySem PySem.Spec PyProof.Rows L2
section
variable {K : PySem.W.Frag} {O : Addr → Prop} {H : Hp}
mutual
theorem RepT.dp : ∀ {d : D} {v : V}, RepT K O H d v → d.canLay0 = true → Dp K H v d
  | _, _, .non, _ => .non
  | _, _, .bl b, _ => .bl b
  | _, _, .int i, _ => .int i
  | _, _, .str x, _ => .str x
  | _, _, .lst r l, h => .lst (.inl r) (RepL.dp l (by simpa [PyData.canLay0] using h))
  | _, _, .tup r l, h => .tup r (RepL.dp l (by simpa [PyData.canLay0] using h))
  | _, _, .dic r l, h => by simp [PyData.canLay0] at h
  | _, _, .kls q, h => by simp [PyData.canLay0] at h
theorem RepL.dp : ∀ {ds : List D} {vs : List V}, RepL K O H ds vs → PyData.canLayAll0 ds = true → DpAll K H vs ds
  | _, _, .nil, _ => .nil
  | _, _, .cons r n l, h => by
    simp only [PyData.canLayAll0, Bool.and_eq_true] at h
    exact .cons (RepT.dp r h.1) (RepL.dp l h.2)
end
end
section
variable {K : PySem.W.Frag} {O : Addr → Prop} {H : Hp}
theorem new_list {ds : List D} {vs : List V} (hO : HO' O H) (l : RepL K O H ds vs) {p : Addr} (hp : H p = none) : Same H (upd H p (.lst vs)) ∧ NewV K O H (upd H p (.lst vs)) (.ow (.list ds)) (.ref p) := by
  have s : Same H (upd H p (.lst vs)) := same_upd' hp
  refine ⟨s, p, rfl, hp, vs, upd_same, ?_⟩
  exact (l.fresh (O' := fun b => O b ∨ b = p) fun b z => z.elim .inl fun z => .inr (by rw [z]; exact hp)).kp (fun b o z e => z.elim (fun z => hO b o z e) fun z => by rw [z, hp] at e; cases e) (.of fun b o _ e => s b o e)
theorem new_tup {ds : List D} {vs : List V} (hO : HO' O H) (l : RepL K O H ds vs) {p : Addr} (hp : H p = none) : Same H (upd H p (.tup vs)) ∧ NewV K O H (upd H p (.tup vs)) (.sh (.tuple ds)) (.ref p) := by
  have s : Same H (upd H p (.tup vs)) := same_upd' hp
  exact ⟨s, .tup (SqT.of upd_same) (l.kp hO (.of fun b o _ e => s b o e)), fun m => nomatch m⟩
theorem same_refl : Same H H := fun _ _ e => e
theorem newI {i : Int} {H' : Hp} : NewV K O H H' (.sh (.int i)) (.int i) := ⟨.int i, fun m => nomatch m⟩
theorem newB {b : Bool} {H' : Hp} : NewV K O H H' (.sh (.bool b)) (.bl b) := ⟨.bl b, fun m => nomatch m⟩
theorem newS {x : Str} {H' : Hp} : NewV K O H H' (.sh (.str x)) (.str x) := ⟨.str x, fun m => nomatch m⟩
theorem newN {H' : Hp} : NewV K O H H' (.sh .none) .non := ⟨.non, fun m => nomatch m⟩
end
section
variable {X : Cx}
def rCatR : R2 := fun x y H Q => ∃ l b xs zs, x = .ref l ∧ y = .ref b ∧ Rd H l (.lst xs) ∧ Rd H b (.lst zs) ∧ xs.length + zs.length ≤ sizeLine ∧ ∀ p, H p = none → Q (.ref p) (upd H p (.lst (xs ++ zs)))
theorem op_catR : OpR X (binaryOp .Add) rCatR := by
  intro pins s σ H x y v u Q I rx ry h
  obtain ⟨l, b, xs, zs, rfl, rfl, hA, hB, hz, q⟩ := h
  cases rx
  cases ry
  obtain ⟨z1, its, n, r, e⟩ := hA.ok I.hok
  obtain ⟨z2, its2, n2, r2, e2⟩ := hB.ok I.hok
  have hl := r.length
  have hl2 := r2.length
  refine PySem.P.add_list e e2 ?_ (by rw [List.size_toArray, List.size_toArray]; omega)
  rw [show its.toArray ++ its2.toArray = (its ++ its2).toArray by simp]
  exact ⟨.ref _, _, I.lnew (t' := s.toks) (r.append r2) (by rw [List.length_append]; omega), rfl, q _ I.fresh⟩
abbrev rAddI : R2 := rI0 fun i j => .int (i + j)
abbrev rAddS : R2 := fun x y H Q => ∃ i j, x = .str i ∧ y = .str j ∧ i.length + j.length ≤ sizeLine ∧ Q (.str (i ++ j)) H
def rAddD (K : PySem.W.Frag) : R2 := fun x y H Q => rAddI x y H Q ∨ rAddS x y H Q ∨ rCatR x y H Q ∨ rCatA K x y H Q
theorem op_addD : OpR X (binaryOp .Add) (rAddD X.K) := op_add.or (op_add_str.or (op_catR.or op_catA))
theorem some_if {α : Type} {c : Prop} [Decidable c] {a b : α} (h : (if c then some a else none) = some b) : c ∧ a = b := by
  split at h
  · exact ⟨by assumption, Option.some.inj h⟩
  · cases h
theorem addD_ok {K : PySem.W.Frag} : OpOk K (rAddD K) addD := by
  intro O H p q v1 v2 r Q hO r1 r2 e k
  cases r1 with
  | int i =>
    cases r2 with
    | int j => cases e; exact .inl ⟨i, j, rfl, rfl, k _ H same_refl newI⟩
    | _ => cases e
  | str x =>
    cases r2 with
    | str y =>
      obtain ⟨hz, rfl⟩ := some_if (show (if x.cps.size + y.cps.size ≤ sizeLim then some (RV.sh (.str (x ++ y))) else none) = some r from e)
      exact .inr (.inl ⟨x, y, rfl, rfl, by rw [← sizeLim_eq]; exact hz, k _ H same_refl newS⟩)
    | _ => cases e
  | lst a l =>
    rename_i a1 vs1 xs
    cases r2 with
    | lst b m =>
      rename_i a2 vs2 ys
      obtain ⟨hz, rfl⟩ := some_if (show (if xs.length + ys.length ≤ sizeLim then some (RV.ow (.list (xs ++ ys))) else none) = some r from e)
      refine .inr (.inr (.inl ⟨_, _, _, _, rfl, rfl, a, b, by rw [← l.length, ← m.length, ← sizeLim_eq]; exact hz, fun p hp => ?_⟩))
      obtain ⟨s, nv⟩ := new_list hO (l.append m) hp
      exact k _ _ s nv
    | _ => cases e
  | tup a l =>
    rename_i a1 vs1 xs
    cases r2 with
    | tup b m =>
      rename_i a2 vs2 ys
      obtain ⟨hz, rfl⟩ := some_if (show (if xs.length + ys.length ≤ sizeLim then some (RV.sh (.tuple (xs ++ ys))) else none) = some r from e)
      refine .inr (.inr (.inr ⟨_, _, _, _, rfl, rfl, a, b, by rw [← l.length, ← m.length, ← sizeLim_eq]; exact hz, fun h0 => ?_, fun h0 h1 => ?_, fun h0 h1 p hp => ?_⟩))
      · subst h0
        cases l
        exact k _ H same_refl ⟨.tup b m, fun m => nomatch m⟩
      · subst h1
        cases m
        exact k _ H same_refl ⟨by rw [List.append_nil]; exact .tup a l, fun m => nomatch m⟩
      · obtain ⟨s, nv⟩ := new_tup hO (l.append m) hp
        exact k _ _ s nv
    | _ => cases e
  | non => cases r2 <;> cases e
  | bl _ => cases r2 <;> cases e
  | dic _ _ => cases r2 <;> cases e
  | kls _ => cases r2 <;> cases e
theorem intOp {K : PySem.W.Frag} {f : D → D → Option RV} {rr : R2} (hf : ∀ p q r, f p q = some r → ∃ i j, p = .int i ∧ q = .int j)
    (h : ∀ i j r H Q, f (.int i) (.int j) = some r → (∀ v, NewV K (fun _ => False) H H r v → Q v H) → rr (.int i) (.int j) H Q) (hn : ∀ i j r, f (.int i) (.int j) = some r → ∃ k, r = .sh (.int k)) : OpOk K rr f := by
  intro O H p q v1 v2 r Q hO r1 r2 e k
  obtain ⟨i, j, rfl, rfl⟩ := hf p q r e
  cases r1
  cases r2
  refine h i j r H Q e fun v nv => k v H same_refl ?_
  obtain ⟨m, rfl⟩ := hn i j r e
  obtain ⟨nv, _⟩ := nv
  cases nv
  exact newI
theorem subD_ok {K : PySem.W.Frag} : OpOk K (rI0 fun i j => .int (i - j)) subD :=
  intOp (fun p q r e => by cases p <;> cases q <;> first | exact ⟨_, _, rfl, rfl⟩ | cases e) (fun i j r H Q e k => by cases e; exact ⟨i, j, rfl, rfl, k _ newI⟩) fun i j r e => by cases e; exact ⟨_, rfl⟩
def rMulD : R2 := fun x y H Q => rI CMul (fun i j => .int (i * j)) x y H Q ∨ rI CMulW (fun i j => .int (i * j)) x y H Q
theorem op_mulD : OpR X (binaryOp .Mult) rMulD := op_mul.or op_mulW
theorem mulD_ok {K : PySem.W.Frag} : OpOk K rMulD mulD :=
  intOp (fun p q r e => by cases p <;> cases q <;> first | exact ⟨_, _, rfl, rfl⟩ | cases e) (fun i j r H Q e k => by
    obtain ⟨hc, rfl⟩ := some_if (show (if mulOk i j = true then some (RV.sh (.int (i * j))) else none) = some r from e)
    unfold mulOk at hc
    simp only [Bool.or_eq_true, Bool.and_eq_true, decide_eq_true_eq] at hc
    rcases hc with (hc | hc) | hc
    · exact .inl ⟨i, j, rfl, rfl, .inl ⟨by omega, by omega⟩, k _ newI⟩
    · exact .inl ⟨i, j, rfl, rfl, .inr ⟨by omega, by omega⟩, k _ newI⟩
    · exact .inr ⟨i, j, rfl, rfl, hc, k _ newI⟩) fun i j r e => by
    obtain ⟨_, rfl⟩ := some_if (show (if mulOk i j = true then some (RV.sh (.int (i * j))) else none) = some r from e)
    exact ⟨_, rfl⟩
theorem fdivD_ok {K : PySem.W.Frag} : OpOk K (rI CDivW fun i j => .int (i / j)) fdivD :=
  intOp (fun p q r e => by cases p <;> cases q <;> first | exact ⟨_, _, rfl, rfl⟩ | cases e) (fun i j r H Q e k => by
    obtain ⟨hc, rfl⟩ := some_if (show (if divOk j = true then some (RV.sh (.int (i / j))) else none) = some r from e)
    unfold divOk at hc
    simp only [Bool.and_eq_true, decide_eq_true_eq] at hc
    exact ⟨i, j, rfl, rfl, hc, k _ newI⟩) fun i j r e => by
    obtain ⟨_, rfl⟩ := some_if (show (if divOk j = true then some (RV.sh (.int (i / j))) else none) = some r from e)
    exact ⟨_, rfl⟩
theorem modD_ok {K : PySem.W.Frag} : OpOk K (rI (fun _ j => 0 < j) fun i j => .int (i % j)) modD :=
  intOp (fun p q r e => by cases p <;> cases q <;> first | exact ⟨_, _, rfl, rfl⟩ | cases e) (fun i j r H Q e k => by
    obtain ⟨hc, rfl⟩ := some_if (show (if 0 < j then some (RV.sh (.int (i % j))) else none) = some r from e)
    exact ⟨i, j, rfl, rfl, hc, k _ newI⟩) fun i j r e => by
    obtain ⟨_, rfl⟩ := some_if (show (if 0 < j then some (RV.sh (.int (i % j))) else none) = some r from e)
    exact ⟨_, rfl⟩
theorem powD_ok {K : PySem.W.Frag} : OpOk K (rI CPow fun i j => .int (i ^ j.toNat)) powD :=
  intOp (fun p q r e => by cases p <;> cases q <;> first | exact ⟨_, _, rfl, rfl⟩ | cases e) (fun i j r H Q e k => by
    obtain ⟨hc, rfl⟩ := some_if (show (if powOk i j = true then some (RV.sh (.int (i ^ j.toNat))) else none) = some r from e)
    unfold powOk at hc
    simp only [Bool.and_eq_true, decide_eq_true_eq] at hc
    exact ⟨i, j, rfl, rfl, ⟨hc.1.1, hc.1.2, hc.2⟩, k _ newI⟩) fun i j r e => by
    obtain ⟨_, rfl⟩ := some_if (show (if powOk i j = true then some (RV.sh (.int (i ^ j.toNat))) else none) = some r from e)
    exact ⟨_, rfl⟩
theorem negD_ok {K : PySem.W.Frag} : UnOk K (rU fun i => .int (-i)) negD := by
  intro O H p v1 r Q hO r1 e k
  cases r1 with
  | int i => cases e; exact ⟨i, rfl, k _ H same_refl newI⟩
  | _ => cases e
/-! ### comparisons -/
theorem shaped_lay {d : D} (h : SeqAt.shaped d = true) : d.canLay0 = true := (Bool.and_eq_true_iff.mp h).1
theorem eqD_ok {K : PySem.W.Frag} : CmOk K (rEqD K) eqD := by
  intro O H p q v1 v2 b Q hO r1 r2 e k
  obtain ⟨hc, rfl⟩ := some_if (show (if (SeqAt.shaped p && SeqAt.shaped q) = true then some (PyData.eqv p q) else none) = some b from e)
  rw [Bool.and_eq_true] at hc
  exact ⟨p, q, r1.dp (shaped_lay hc.1), r2.dp (shaped_lay hc.2), hc.1, hc.2, k⟩
theorem neD_ok {K : PySem.W.Frag} : CmOk K (rNeD K) neD := by
  intro O H p q v1 v2 b Q hO r1 r2 e k
  obtain ⟨hc, rfl⟩ := some_if (show (if (SeqAt.shaped p && SeqAt.shaped q) = true then some (!PyData.eqv p q) else none) = some b from e)
  rw [Bool.and_eq_true] at hc
  exact ⟨p, q, r1.dp (shaped_lay hc.1), r2.dp (shaped_lay hc.2), hc.1, hc.2, k⟩
def rLtG (K : PySem.W.Frag) : R2 := fun x y H Q => ∃ d e, Dp K H x d ∧ Dp K H y e ∧ PySem.W.alike d e = true ∧ d ≠ .none ∧ d.depth ≤ 64 ∧ Q (.bl (PySem.W.dataLt d e)) H
theorem op_ltG (hu : X.A.units + 64 < cLine) : OpR X (compareOp .Lt) (rLtG X.K) := by
  intro pins s σ H x y v u Q I rx ry h
  obtain ⟨d, e, hd, he, al, nn, dp, q⟩ := h
  obtain ⟨as, r1⟩ := Dp.reads I d x v hd rx
  obtain ⟨bs, r2⟩ := Dp.reads I e y u he ry
  have hm : X.A.units + min d.depth e.depth < cLine := by
    have : min d.depth e.depth ≤ d.depth := Nat.min_le_left _ _
    omega
  exact PySem.W.rcLt_alike d e X.A s v u as bs r1 r2 al nn hm _ _ _ _ ⟨.bl _, H, I, rfl, q⟩
abbrev rLtI : R2 := rI0 fun i j => .bl (decide (i < j))
abbrev rLtS : R2 := fun x y H Q => ∃ i j, x = .str i ∧ y = .str j ∧ Q (.bl (decide (i.cps.toList < j.cps.toList))) H
def rLtD (K : PySem.W.Frag) : R2 := fun x y H Q => rLtI x y H Q ∨ rLtS x y H Q ∨ rLtG K x y H Q
theorem op_ltD (hu : X.A.units + 64 < cLine) : OpR X (compareOp .Lt) (rLtD X.K) := op_lt.or (op_lt_str.or (op_ltG hu))
theorem shaped_depth {d : D} (h : SeqAt.shaped d = true) : d.depth ≤ 64 := of_decide_eq_true (Bool.and_eq_true_iff.mp h).2
theorem ltD_ok {K : PySem.W.Frag} : CmOk K (rLtD K) ltD := by
  intro O H p q v1 v2 b Q hO r1 r2 e k
  have gen : ∀ (xs ys : D) (w1 w2 : V), RepT K O H xs w1 → RepT K O H ys w2 → xs ≠ .none → (if (PySem.W.alike xs ys && SeqAt.shaped xs && SeqAt.shaped ys) = true then some (PySem.W.dataLt xs ys) else none) = some b → rLtG K w1 w2 H Q := fun xs ys w1 w2 a1 a2 nn e => by
    obtain ⟨hc, rfl⟩ := some_if e
    simp only [Bool.and_eq_true] at hc
    exact ⟨xs, ys, a1.dp (shaped_lay hc.1.2), a2.dp (shaped_lay hc.2), hc.1.1, nn, shaped_depth hc.1.2, k⟩
  cases r1 with
  | int i =>
    cases r2 with
    | int j => cases e; exact .inl ⟨i, j, rfl, rfl, k⟩
    | _ => cases e
  | str x =>
    cases r2 with
    | str y => cases e; exact .inr (.inl ⟨x, y, rfl, rfl, k⟩)
    | _ => cases e
  | lst a l =>
    cases r2 with
    | lst c m => exact .inr (.inr (gen _ _ _ _ (.lst a l) (.lst c m) (fun z => nomatch z) e))
    | _ => cases e
  | tup a l =>
    cases r2 with
    | tup c m => exact .inr (.inr (gen _ _ _ _ (.tup a l) (.tup c m) (fun z => nomatch z) e))
    | _ => cases e
  | non => cases r2 <;> cases e
  | bl _ => cases r2 <;> cases e
  | dic _ _ => cases r2 <;> cases e
  | kls _ => cases r2 <;> cases e
abbrev rLeS : R2 := fun x y H Q => ∃ i j, x = .str i ∧ y = .str j ∧ Q (.bl (!decide (j.cps.toList < i.cps.toList))) H
abbrev rGtS : R2 := fun x y H Q => ∃ i j, x = .str i ∧ y = .str j ∧ Q (.bl (decide (j.cps.toList < i.cps.toList))) H
abbrev rGeS : R2 := fun x y H Q => ∃ i j, x = .str i ∧ y = .str j ∧ Q (.bl (!decide (i.cps.toList < j.cps.toList))) H
def rLeD : R2 := fun x y H Q => rI0 (fun i j => .bl (decide (i ≤ j))) x y H Q ∨ rLeS x y H Q
def rGtD : R2 := fun x y H Q => rI0 (fun i j => .bl (decide (j < i))) x y H Q ∨ rGtS x y H Q
def rGeD : R2 := fun x y H Q => rI0 (fun i j => .bl (decide (j ≤ i))) x y H Q ∨ rGeS x y H Q
theorem op_leD : OpR X (compareOp .LtE) rLeD := op_le.or op_le_str
theorem op_gtD : OpR X (compareOp .Gt) rGtD := op_gt.or op_gt_str
theorem op_geD : OpR X (compareOp .GtE) rGeD := op_ge.or op_ge_str
theorem leD_ok {K : PySem.W.Frag} : CmOk K rLeD leD := by
  intro O H p q v1 v2 b Q hO r1 r2 e k
  cases r1 <;> cases r2 <;> first
    | (cases e; exact .inl ⟨_, _, rfl, rfl, k⟩)
    | (cases e; exact .inr ⟨_, _, rfl, rfl, k⟩)
    | cases e
theorem gtD_ok {K : PySem.W.Frag} : CmOk K rGtD gtD := by
  intro O H p q v1 v2 b Q hO r1 r2 e k
  cases r1 <;> cases r2 <;> first
    | (cases e; exact .inl ⟨_, _, rfl, rfl, k⟩)
    | (cases e; exact .inr ⟨_, _, rfl, rfl, k⟩)
    | cases e
theorem geD_ok {K : PySem.W.Frag} : CmOk K rGeD geD := by
  intro O H p q v1 v2 b Q hO r1 r2 e k
  cases r1 <;> cases r2 <;> first
    | (cases e; exact .inl ⟨_, _, rfl, rfl, k⟩)
    | (cases e; exact .inr ⟨_, _, rfl, rfl, k⟩)
    | cases e
def rIsD : R2 := fun x y H Q => (y = .non ∧ Q (.bl (decide (x = .non))) H) ∨ rIsB x y H Q
def rNotD : R2 := fun x y H Q => (y = .non ∧ Q (.bl (!decide (x = .non))) H) ∨ rNotB x y H Q
theorem op_isD : OpR X (compareOp .Is) rIsD := op_isN.or op_isBl
theorem op_isNotD : OpR X (compareOp .IsNot) rNotD := op_notN.or op_notBl
theorem isD_ok {K : PySem.W.Frag} : CmOk K rIsD isD := by
  intro O H p q v1 v2 b Q hO r1 r2 e k
  cases r2 with
  | non =>
    refine .inl ⟨rfl, ?_⟩
    cases r1 <;> (cases e; exact k)
  | bl c =>
    cases r1 with
    | bl a => cases e; exact .inr ⟨_, _, rfl, rfl, k⟩
    | _ => cases e
  | _ => cases r1 <;> cases e
theorem isNotD_ok {K : PySem.W.Frag} : CmOk K rNotD isNotD := by
  intro O H p q v1 v2 b Q hO r1 r2 e k
  cases r2 with
  | non =>
    refine .inl ⟨rfl, ?_⟩
    cases r1 <;> (cases e; exact k)
  | bl c =>
    cases r1 with
    | bl a => cases e; exact .inr ⟨_, _, rfl, rfl, k⟩
    | _ => cases e
  | _ => cases r1 <;> cases e
/-! ### in -/
theorem keyEq_k (a b : Key) : keyEq (kD a) (kD b) = decide (a = b) := by
  cases a <;> cases b <;> simp [keyEq, kD]
theorem repK_keys {K : PySem.W.Frag} {O : Addr → Prop} {H : Hp} : ∀ {kvs : List (D × D)} {us : List (Key × V)}, RepK K O H kvs us → kvs.length = us.length
  | _, _, .nil => rfl
  | _, _, .cons _ _ l => by simp [repK_keys l]
theorem look_k {K : PySem.W.Frag} {O : Addr → Prop} {H : Hp} (k : Key) : ∀ {kvs : List (D × D)} {us : List (Key × V)}, RepK K O H kvs us → (lookD kvs (kD k) = none ∧ valV us k = none) ∨ ∃ d v, lookD kvs (kD k) = some d ∧ valV us k = some v ∧ Rep K O H d v
  | _, _, .nil => .inl ⟨rfl, rfl⟩
  | _, _, .cons (k := k') r n l => by
    by_cases e : k' = k
    · subst e
      refine .inr ⟨_, _, ?_, valV_pos rfl, r, n⟩
      simp [lookD, keyEq_k]
    · have h1 : ∀ (d : D) (ds : List (D × D)), lookD ((kD k', d) :: ds) (kD k) = lookD ds (kD k) := fun d ds => by
        simp [lookD, List.find?_cons, keyEq_k, e]
      rcases look_k k l with ⟨a, b⟩ | ⟨d, v, a, b, c⟩
      · exact .inl ⟨(h1 _ _).trans a, (valV_neg e).trans b⟩
      · exact .inr ⟨d, v, (h1 _ _).trans a, (valV_neg e).trans b, c⟩
theorem key_rep {K : PySem.W.Frag} {O : Addr → Prop} {H : Hp} {d : D} {v : V} (h : isKey d = true) (r : RepT K O H d v) : ∃ k, d = kD k ∧ v = kV k := by
  cases r with
  | int i => exact ⟨.inl i, rfl, rfl⟩
  | str x => exact ⟨.inr x, rfl, rfl⟩
  | _ => cases h
def rInDict (neg : Bool) : R2 := fun y x H Q => ∃ a o, x = .ref a ∧ DGet H a y o ∧ Q (.bl (if neg then !o.isSome else o.isSome)) H
theorem op_in_dict (hu : X.A.units + 1 < cLine) : OpR X (compareOp .In) (rInDict false) := by
  intro pins s σ H x y v u Q I rx ry h
  obtain ⟨a, o, rfl, g, q⟩ := h
  cases ry
  exact d_in hu I g rx fun s3 I3 => ⟨.bl o.isSome, H, I3, rfl, q⟩
theorem op_notin_dict (hu : X.A.units + 1 < cLine) : OpR X (compareOp .NotIn) (rInDict true) := by
  intro pins s σ H x y v u Q I rx ry h
  obtain ⟨a, o, rfl, g, q⟩ := h
  cases ry
  exact d_notIn hu I g rx fun s3 I3 => ⟨.bl (!o.isSome), H, I3, rfl, q⟩
abbrev rInSg : R2 := fun x y H Q => ∃ (c : Nat) (z : Str), x = .str ⟨#[c]⟩ ∧ y = .str z ∧ Q (.bl (decide (c ∈ z.cps.toList))) H
abbrev rNiSg : R2 := fun x y H Q => ∃ (c : Nat) (z : Str), x = .str ⟨#[c]⟩ ∧ y = .str z ∧ Q (.bl (!decide (c ∈ z.cps.toList))) H
def rInA (K : PySem.W.Frag) : R2 := fun x y H Q => rInD K x y H Q ∨ rIn K false x y H Q ∨ rInSg x y H Q ∨ rInDict false x y H Q
def rNiA (K : PySem.W.Frag) : R2 := fun x y H Q => rNotInD K x y H Q ∨ rIn K true x y H Q ∨ rNiSg x y H Q ∨ rInDict true x y H Q
theorem op_inA (hu : X.A.units + 65 < cLine) : OpR X (compareOp .In) (rInA X.K) := (op_inD hu).or (op_in_seq.or (op_in_sign.or (op_in_dict (by omega))))
theorem op_niA (hu : X.A.units + 65 < cLine) : OpR X (compareOp .NotIn) (rNiA X.K) := (op_notInD hu).or (op_notIn_seq.or (op_notIn_sign.or (op_notin_dict (by omega))))
theorem flat_v {K : PySem.W.Frag} {O : Addr → Prop} {H : Hp} {d : D} {v : V} (h : flat d = true) (r : RepT K O H d v) : flatV v = true := by
  cases r <;> first | rfl | cases h
theorem flat_eq {K : PySem.W.Frag} {O : Addr → Prop} {H : Hp} {d e : D} {v u : V} (h : flat d = true) (h' : flat e = true) (r : RepT K O H d v) (r' : RepT K O H e u) : eqV v u = PyData.eqv d e := by
  cases r <;> first
    | (cases r' <;> first | (simp [eqV, PyData.eqv]; done) | (cases h'; done))
    | (cases h; done)
theorem flat_all {K : PySem.W.Frag} {O : Addr → Prop} {H : Hp} : ∀ {ds : List D} {vs : List V}, RepL K O H ds vs → ds.all flat = true → vs.all flatV = true
  | _, _, .nil, _ => rfl
  | _, _, .cons r n l, h => by
    simp only [List.all_cons, Bool.and_eq_true] at h ⊢
    exact ⟨flat_v h.1 r, flat_all l h.2⟩
theorem flat_any {K : PySem.W.Frag} {O : Addr → Prop} {H : Hp} {d : D} {v : V} (h : flat d = true) (r : RepT K O H d v) : ∀ {ds : List D} {vs : List V}, RepL K O H ds vs → ds.all flat = true → inV v vs = ds.any fun z => PyData.eqv z d
  | _, _, .nil, _ => rfl
  | _, _, .cons r' n l, hs => by
    simp only [List.all_cons, Bool.and_eq_true] at hs
    have := flat_any h r l hs.2
    unfold inV at this ⊢
    rw [List.any_cons, List.any_cons, this, flat_eq hs.1 h r' r]
theorem sign_of {x : Str} {c : Nat} (h : x.cps.toList = [c]) : x = ⟨#[c]⟩ := by
  cases x with
  | mk a =>
    have : a = #[c] := by
      have h : a.toList = [c] := h
      rw [← Array.toArray_toList (xs := a), h]
    rw [this]
theorem in_any {K : PySem.W.Frag} {O : Addr → Prop} {H : Hp} {p q : D} {v1 v2 : V} {b : Bool} {neg : Bool} {Q : VK} (r1 : RepT K O H p v1) (r2 : RepT K O H q v2) (e : inD p q = some b) (k : Q (.bl (if neg then !b else b)) H) :
    (if neg then rNiA K v1 v2 H Q else rInA K v1 v2 H Q) := by
  have fin : (∀ d ds, Dp K H v1 d → Dp K H v2 (.list ds) → SeqAt.shaped d = true → SeqAt.shaped (.list ds) = true → b = (ds.any fun z => PyData.eqv z d) → if neg then rNiA K v1 v2 H Q else rInA K v1 v2 H Q) := fun d ds h1 h2 h3 h4 hb => by
    subst hb
    cases neg with
    | false => exact .inl ⟨d, ds, h1, h2, h3, h4, k⟩
    | true => exact .inl ⟨d, ds, h1, h2, h3, h4, k⟩
  have gen : ∀ (P : Bool → Prop), (P true → rNiA K v1 v2 H Q) → (P false → rInA K v1 v2 H Q) → P neg → if neg then rNiA K v1 v2 H Q else rInA K v1 v2 H Q := fun P h1 h2 h3 => by
    cases neg with
    | false => exact h2 h3
    | true => exact h1 h3
  cases r2 with
  | lst a l =>
    rename_i a1 vs ds
    have e' : (if (SeqAt.shaped p && SeqAt.shaped (PyData.list ds)) = true then some (ds.any fun z => PyData.eqv z p) else none) = some b := by
      cases p <;> exact e
    obtain ⟨hc, hb⟩ := some_if e'
    rw [Bool.and_eq_true] at hc
    exact fin p _ (r1.dp (shaped_lay hc.1)) ((RepT.lst a l).dp (shaped_lay hc.2)) hc.1 hc.2 hb.symm
  | tup a l =>
    rename_i a1 vs ds
    have e' : (if (flat p && ds.all flat) = true then some (ds.any fun z => PyData.eqv z p) else none) = some b := by
      cases p <;> exact e
    obtain ⟨hc, hb⟩ := some_if e'
    rw [Bool.and_eq_true] at hc
    have q := flat_any hc.1 r1 l hc.2
    refine gen (fun neg => rIn K neg v1 _ H Q) (fun h => .inr (.inl h)) (fun h => .inr (.inl h)) ⟨_, _, rfl, .inr a, flat_v hc.1 r1, flat_all l hc.2, ?_⟩
    rw [q, hb]
    exact k
  | str z =>
    cases r1 with
    | str x =>
      have e' : (match x.cps.toList with
        | [c] => some (z.cps.toList.contains c)
        | _ => none) = some b := e
      split at e'
      · rename_i c hx
        have hx := sign_of hx
        subst hx
        have hb : decide (c ∈ z.cps.toList) = b := by
          rw [← Option.some.inj e']
          simp
        subst hb
        cases neg with
        | false => exact .inr (.inr (.inl ⟨c, z, rfl, rfl, k⟩))
        | true => exact .inr (.inr (.inl ⟨c, z, rfl, rfl, k⟩))
      · cases e'
    | _ => cases e
  | kls q =>
    rename_i a1 ns
    have e' : (if (isKey p && false) = true then some (lookD [(.list (ns.map .int), .none)] p).isSome else none) = some b := by
      cases p <;> exact e
    rw [Bool.and_false] at e'
    cases e'
  | dic a l =>
    rename_i a1 us kvs
    have e' : (if (isKey p && plainKeys kvs) = true then some (lookD kvs p).isSome else none) = some b := by
      cases p <;> exact e
    obtain ⟨hc, hb⟩ := some_if e'
    rw [Bool.and_eq_true] at hc
    obtain ⟨kk, rfl, rfl⟩ := key_rep hc.1 r1
    have : (valV us kk).isSome = b := by
      rw [← hb]
      rcases look_k kk l with ⟨h1, h2⟩ | ⟨d, v, h1, h2, _⟩ <;> rw [h1, h2] <;> rfl
    refine gen (fun neg => rInDict neg (kV kk) _ H Q) (fun h => .inr (.inr (.inr h))) (fun h => .inr (.inr (.inr h))) ⟨_, _, rfl, .inl ⟨us, kk, a, rfl, rfl⟩, ?_⟩
    rw [this]
    exact k
  | non => cases p <;> cases e
  | bl _ => cases p <;> cases e
  | int _ => cases p <;> cases e
theorem inD_ok {K : PySem.W.Frag} : CmOk K (rInA K) inD := fun O H p q v1 v2 b Q hO r1 r2 e k => in_any (neg := false) r1 r2 e k
theorem notInD_ok {K : PySem.W.Frag} : CmOk K (rNiA K) notInD := fun O H p q v1 v2 b Q hO r1 r2 e k => by
  obtain ⟨c, hc, rfl⟩ := Option.map_eq_some_iff.mp (show (inD p q).map (!·) = some b from e)
  exact in_any (neg := true) r1 r2 hc k
end
end DL
set_option maxRecDepth 100000
set_option maxHeartbeats 1000000
/-! DQ: subscripts, slices, built-in functions, methods. -/
namespace DL
open PySem PySem.Spec PyProof.Rows L2
theorem idx_at {α : Type} (xs : List α) (i : Int) : idx xs i = atI xs i := by
  unfold idx atI ixN
  by_cases h : 0 ≤ i
  · rw [if_pos h, if_pos h]
    by_cases h2 : i < xs.length
    · rw [if_pos h2]; rfl
    · rw [if_neg h2]
      rw [List.getElem?_eq_none (by omega)]
      rfl
  · rw [if_neg h, if_neg h]
    by_cases h2 : -(xs.length : Int) ≤ i
    · rw [if_pos h2, if_pos h2]; rfl
    · rw [if_neg h2, if_neg h2]; rfl
section
variable {K : PySem.W.Frag} {O : Addr → Prop} {H : Hp}
theorem idx_rep {ds : List D} {vs : List V} {i : Int} {d : D} (l : RepL K O H ds vs) (h : idx ds i = some d) : ∃ v, atI vs i = some v ∧ Rep K O H d v := by
  unfold idx at h
  unfold atI ixN
  have hl := l.length
  split at h
  · rename_i h0
    have hi := (List.getElem?_eq_some_iff.mp h).1
    rw [if_pos h0, if_pos (by omega)]
    exact l.get h
  · rename_i h0
    split at h
    · rename_i h1
      rw [if_neg h0, if_pos (by omega)]
      show ∃ v, vs[(i + (vs.length : Nat)).toNat]? = some v ∧ _
      rw [← hl]
      exact l.get h
    · cases h
end
section
variable {X : Cx}
def rIxD : R2 := fun x y H Q => ∃ a v, x = .ref a ∧ DGet H a y (some v) ∧ Q v H
theorem ix_dict (hu : X.A.units + 1 < cLine) : IxR X rIxD := by
  intro value slice pins s σ H x y v u Q I rx ry h hs
  obtain ⟨a, z, rfl, g, q⟩ := h
  cases rx
  exact tail_any (dict_typeIs I g) PySem.F.slot_dict_getitem.lookup (d_getItem hu I g ry fun w' s3 I3 rw' => ⟨z, H, I3, rw', q⟩) hs
def rIxA (K : PySem.W.Frag) : R2 := fun x y H Q => rIx K x y H Q ∨ rIxD x y H Q
theorem ix_all (hu : X.A.units + 1 < cLine) : IxR X (rIxA X.K) := ix_seq.or (ix_dict hu)
theorem ints_repl {K : PySem.W.Frag} {O : Addr → Prop} {H : Hp} : ∀ ns : List Int, RepL K O H (ns.map PyData.int) (ns.map V.int)
  | [] => .nil
  | n :: ns => .cons (.int n) (fun m => nomatch m) (ints_repl ns)
theorem ixD_ok {K : PySem.W.Frag} : OpOk K (rIxA K) ixD := by
  intro O H p q v1 v2 r Q hO r1 r2 e k
  cases r1 with
  | lst a l =>
    rename_i a1 vs ds
    cases r2 with
    | int i =>
      obtain ⟨d, hd, rfl⟩ := Option.map_eq_some_iff.mp (show (idx ds i).map RV.sh = some r from e)
      obtain ⟨v, hv, rv⟩ := idx_rep l hd
      exact .inl (.inl ⟨_, vs, i, v, rfl, rfl, .inl a, hv, k v H same_refl rv⟩)
    | _ => cases e
  | tup a l =>
    rename_i a1 vs ds
    cases r2 with
    | int i =>
      obtain ⟨d, hd, rfl⟩ := Option.map_eq_some_iff.mp (show (idx ds i).map RV.sh = some r from e)
      obtain ⟨v, hv, rv⟩ := idx_rep l hd
      exact .inl (.inr (.inl ⟨_, vs, i, v, rfl, rfl, a, hv, k v H same_refl rv⟩))
    | _ => cases e
  | str x =>
    cases r2 with
    | int i =>
      have e : (if x.cps.size ≤ sizeLim then (idx x.cps.toList i).map fun c => RV.sh (.str ⟨#[c]⟩) else none) = some r := e
      split at e
      · rename_i hz
        obtain ⟨c, hc, rfl⟩ := Option.map_eq_some_iff.mp e
        rw [idx_at] at hc
        exact .inl (.inr (.inr ⟨x, i, c, rfl, rfl, by rw [← sizeLim_eq]; exact hz, hc, k _ H same_refl newS⟩))
      · cases e
    | _ => cases e
  | kls h =>
    rename_i a1 ns
    cases r2 with
    | int i =>
      obtain ⟨d, hd, rfl⟩ := Option.map_eq_some_iff.mp (show (idx (ns.map PyData.int) i).map RV.sh = some r from e)
      have l : RepL K O H (ns.map PyData.int) (ns.map V.int) := ints_repl ns
      obtain ⟨v, hv, rv⟩ := idx_rep l hd
      exact .inl (.inl ⟨_, _, _, v, rfl, rfl, h H, hv, k v H same_refl rv⟩)
    | _ => cases e
  | dic a l =>
    rename_i a1 us kvs
    have e' : (if (isKey q && plainKeys kvs) = true then (lookD kvs q).map RV.sh else none) = some r := by
      have e2 : (match klOf kvs with
        | some xs => (match q with
          | .int i => (idx xs i).map RV.sh
          | _ => none)
        | none => if isKey q && plainKeys kvs then (lookD kvs q).map RV.sh else none) = some r := by cases r2 <;> exact e
      rw [klOf_rep l] at e2
      exact e2
    split at e'
    · rename_i hc
      rw [Bool.and_eq_true] at hc
      obtain ⟨d, hd, rfl⟩ := Option.map_eq_some_iff.mp e'
      obtain ⟨kk, rfl, rfl⟩ := key_rep hc.1 r2
      rcases look_k kk l with ⟨h1, _⟩ | ⟨d', v, h1, h2, h3⟩
      · rw [hd] at h1; cases h1
      · rw [hd] at h1; cases h1
        exact .inr ⟨_, v, rfl, .inl ⟨us, kk, a, rfl, h2.symm⟩, k v H same_refl h3⟩
    · cases e'
  | non => cases r2 <;> cases e
  | bl _ => cases r2 <;> cases e
  | int _ => cases r2 <;> cases e
/-! ### slices -/
theorem cutIx_eq (n d : Nat) (o : Option Int) : cutIx n d o = HT.sIx n d o := by cases o <;> rfl
theorem cutV_eq (xs : List V) (lo hi : Option Int) : cutV xs lo hi = cut xs lo hi := by
  unfold cutV cut
  rw [cutIx_eq, cutIx_eq]
theorem RepL.drop {K : PySem.W.Frag} {O : Addr → Prop} {H : Hp} : ∀ {ds : List D} {vs : List V} (n : Nat), RepL K O H ds vs → RepL K O H (ds.drop n) (vs.drop n)
  | _, _, 0, l => l
  | _, _, _ + 1, .nil => .nil
  | _, _, n + 1, .cons _ _ l => RepL.drop n l
theorem RepL.take {K : PySem.W.Frag} {O : Addr → Prop} {H : Hp} : ∀ {ds : List D} {vs : List V} (n : Nat), RepL K O H ds vs → RepL K O H (ds.take n) (vs.take n)
  | _, _, 0, _ => .nil
  | _, _, _ + 1, .nil => .nil
  | _, _, n + 1, .cons r m l => .cons r m (RepL.take n l)
theorem RepL.cut {K : PySem.W.Frag} {O : Addr → Prop} {H : Hp} {ds : List D} {vs : List V} (lo hi : Option Int) (l : RepL K O H ds vs) : RepL K O H (DL.cut ds lo hi) (cutV vs lo hi) := by
  rw [cutV_eq]
  unfold DL.cut
  rw [← l.length]
  exact (l.drop _).take _
def rSlD (K : PySem.W.Frag) : V → Option Int → Option Int → Hp → VK → Prop := fun x lo hi H Q => rSlL K x lo hi H Q ∨ rSlA K x lo hi H Q ∨ rSlS x lo hi H Q
theorem sl_D : SlR X (rSlD X.K) := sl_list.or (sl_tupA.or sl_str)
theorem sliceD_ok {K : PySem.W.Frag} {O : Addr → Prop} {H : Hp} {d : D} {v : V} {lo hi : Option Int} {r : RV} {Q : VK} (hO : HO' O H) (r1 : RepT K O H d v) (e : sliceD d lo hi = some r) (k : ∀ v H', Same H H' → NewV K O H H' r v → Q v H') : rSlD K v lo hi H Q := by
  cases r1 with
  | lst a l =>
    cases e
    refine .inl ⟨_, _, rfl, .inl a, fun p hp => ?_⟩
    obtain ⟨s, nv⟩ := new_list hO (l.cut lo hi) hp
    exact k _ _ s nv
  | tup a l =>
    rename_i a1 vs ds
    cases e
    refine .inr (.inl ⟨_, _, rfl, a, fun hw => ?_, fun hw p hp => ?_⟩)
    · have : DL.cut ds lo hi = ds := by
        unfold DL.cut
        rw [cutIx_eq, cutIx_eq, l.length, hw.1, hw.2, List.drop_zero, Nat.sub_zero, ← l.length, List.take_length]
      rw [this] at k
      exact k _ H same_refl ⟨.tup a l, fun m => nomatch m⟩
    · obtain ⟨s, nv⟩ := new_tup hO (l.cut lo hi) hp
      exact k _ _ s nv
  | str x =>
    obtain ⟨hz, rfl⟩ := some_if (show (if x.cps.size ≤ sizeLim then some (RV.sh (.str ⟨(DL.cut x.cps.toList lo hi).toArray⟩)) else none) = some r from e)
    refine .inr (.inr ⟨x, rfl, by rw [← sizeLim_eq]; exact hz, ?_⟩)
    have : cutS x lo hi = ⟨(DL.cut x.cps.toList lo hi).toArray⟩ := by
      unfold cutS DL.cut
      rw [cutIx_eq, cutIx_eq]
      rfl
    rw [this]
    exact k _ H same_refl newS
  | _ => cases e
def tP (K : PySem.W.Frag) (mg : Str → Option Value) (W : WX) (F : DPt) : TO := fun σ H Q => ∃ (fx : Fx) (own : Own) (ρ : Env) (k : Option Int → Env → Res) (h : KX) (o : Out), Rp K fx own σ H ρ ∧ F ρ k h = some o ∧
  (∀ b ρ' H' own', StepE H own H' own' → Rp K fx own' σ H' ρ' → k b ρ' = some o → Q b H') ∧
  (∀ x ρ' cls d H' own', StepE H own H' own' → Rp K fx own' σ H' ρ' → RepX K mg x cls d H' → h x ρ' = some o → W cls d σ H')
def RP (X : Cx) (W : WX) (e : Option Expr) (F : DPt) : Prop := PO X e (tP X.K X.mg W F)
theorem PO.imp {X : Cx} {e : Option Expr} {t t' : TO} (h : PO X e t) (f : ∀ σ H Q, t' σ H Q → t σ H Q) : PO X e t' := ⟨fun pins s σ H Q I q => h.run pins s σ H Q I (f σ H Q q)⟩
variable {W : WX} {a b c : Expr} {lo hi : Option Expr} {A : DE} {L U : DPt} {es : List Expr} {AS : DA} {pos p p2 cpos apos : Pos}
theorem rp_no : RP X W none pNo := PO.imp po_none fun σ H Q ⟨fx, own, ρ, k, hx, o, R, e, kn, kx⟩ => kn none ρ H own .refl R e
theorem rp_at (h : RE X W a A) : RP X W (some a) (pAt A) := by
  refine PO.imp (po_some h) fun σ H Q ⟨fx, own, ρ, k, hx, o, R, e, kn, kx⟩ => ?_
  refine ⟨fx, own, ρ, _, hx, o, R, e, fun r1 ρ1 v1 H1 own1 st1 val1 e1 => ?_, kx⟩
  obtain ⟨R1, u1⟩ := val1.use R.there
  split at e1
  · rename_i i hp
    have := u1.peek R1 hp
    cases this
    exact ⟨i, rfl, kn (some i) ρ1 H1 own1 st1 R1 e1⟩
  · cases e1
theorem re_sl (ha : RE X W a A) (hl : RP X W lo L) (hu : RP X W hi U) : RE X W (.Subscript a (.Slice lo hi none p2) pos) (eSl A L U) := by
  refine PE.imp (pe_slice sl_D ha hl hu) fun σ H Q ⟨fx, own, ρ, k, hx, o, R, e, kn, kx⟩ => ?_
  refine ⟨fx, own, ρ, _, hx, o, R, e, fun r1 ρ1 v1 H1 own1 st1 val1 e1 => ?_, kx⟩
  obtain ⟨R1, u1⟩ := val1.use R.there
  refine ⟨fx, own1, ρ1, _, hx, o, R1, e1, fun l ρ2 H2 own2 st2 R2 e2 => ?_, fun x ρ2 cls d H2 own2 st2 R2 rx e2 => kx x ρ2 cls d H2 own2 (st1.trans st2) R2 rx e2⟩
  refine ⟨fx, own2, ρ2, _, hx, o, R2, e2, fun u ρ3 H3 own3 st3 R3 e3 => ?_, fun x ρ2 cls d H2 own2 st3 R2 rx e2 => kx x ρ2 cls d H2 own2 ((st1.trans st2).trans st3) R2 rx e2⟩
  obtain ⟨d, hd, e4⟩ := opt_some e3
  obtain ⟨r, hr, e5⟩ := opt_some e4
  have s3 := (st1.trans st2).trans st3
  refine sliceD_ok R3.ho (((u1.step R1 st2).step R2 st3).peek R3 hd) hr fun v H' s nv => ?_
  exact kn r ρ3 v H' own3 (s3.trans (.of_same s)) ((nv.val R3 s).from s3.al) e5
/-! ### built-in functions -/
theorem FnOk'.one {K : PySem.W.Frag} {rr : List V → Hp → VK → Prop} {f : List D → Option RV} (hf : ∀ ds r, f ds = some r → ∃ d, ds = [d])
    (h : ∀ (O : Addr → Prop) (H : Hp) (d : D) (v : V) (r : RV) (Q : VK), HO' O H → RepT K O H d v → f [d] = some r → (∀ v H', Same H H' → NewV K O H H' r v → Q v H') → rr [v] H Q) : FnOk' K rr f := by
  intro O H ds vs r Q hO l e k
  obtain ⟨d, rfl⟩ := hf ds r e
  obtain ⟨v, rfl, rv⟩ := reps1 l
  exact h O H d v r Q hO rv e k
theorem FnOk'.two {K : PySem.W.Frag} {rr : List V → Hp → VK → Prop} {f : List D → Option RV} (hf : ∀ ds r, f ds = some r → ∃ d e, ds = [d, e])
    (h : ∀ (O : Addr → Prop) (H : Hp) (d e : D) (v u : V) (r : RV) (Q : VK), HO' O H → RepT K O H d v → RepT K O H e u → f [d, e] = some r → (∀ v H', Same H H' → NewV K O H H' r v → Q v H') → rr [v, u] H Q) : FnOk' K rr f := by
  intro O H ds vs r Q hO l e k
  obtain ⟨d, d', rfl⟩ := hf ds r e
  obtain ⟨v, u, rfl, rv, ru⟩ := reps2 l
  exact h O H d d' v u r Q hO rv ru e k
def rLenA (K : PySem.W.Frag) : List V → Hp → VK → Prop := fun xs H Q => (∃ x n, xs = [x] ∧ LenV K x H n ∧ Q (.int n) H) ∨ (∃ (p : Addr) (kvs : List (Key × V)), xs = [.ref p] ∧ Rd H p (.dK kvs) ∧ Q (.int (kvs.length : Nat)) H)
theorem call_lenA : CallR X (.builtin "len") (rLenA X.K) := call_len.or (by
  intro pins s σ H xs us Q I r h
  obtain ⟨p, kvs, rfl, e, q⟩ := h
  obtain ⟨u, rfl, rx⟩ := vals1 r
  cases rx
  exact d_len I e fun t s' I' => ⟨.int _, H, I', ⟨_, rfl⟩, q⟩)
theorem lenD_ok {K : PySem.W.Frag} : FnOk' K (rLenA K) lenD := by
  refine .one (fun ds r e => ?_) fun O H d v r Q hO rv e k => ?_
  · unfold lenD at e
    split at e <;> first | exact ⟨_, rfl⟩ | cases e
  · cases rv with
    | lst a l => cases e; exact .inl ⟨_, _, rfl, .inl ⟨_, .inl a, rfl⟩, by rw [← l.length]; exact k _ H same_refl newI⟩
    | tup a l => cases e; exact .inl ⟨_, _, rfl, .inr ⟨_, a, rfl⟩, by rw [← l.length]; exact k _ H same_refl newI⟩
    | str x =>
      obtain ⟨hz, rfl⟩ := some_if (show (if x.cps.size ≤ sizeLim then some (RV.sh (.int x.cps.size)) else none) = some r from e)
      exact .inl ⟨_, _, rfl, ⟨by rw [← sizeLim_eq]; exact hz, rfl⟩, k _ H same_refl newI⟩
    | dic a l =>
      rename_i a1 us kvs
      have e : (match klOf kvs with
        | some xs => some (RV.sh (.int xs.length))
        | none => some (RV.sh (.int kvs.length))) = some r := e
      rw [klOf_rep l] at e
      cases e
      exact .inr ⟨_, _, rfl, a, by rw [← repK_keys l]; exact k _ H same_refl newI⟩
    | kls h =>
      rename_i a1 ns
      cases e
      exact .inl ⟨_, _, rfl, .inl ⟨_, h H, rfl⟩, by rw [List.length_map, ← List.length_map (f := PyData.int)]; exact k _ H same_refl newI⟩
    | _ => cases e
theorem absD_ok {K : PySem.W.Frag} : FnOk' K (fun xs H Q => ∃ i, xs = [.int i] ∧ Q (.int (if i < 0 then -i else i)) H) absD := by
  refine .one (fun ds r e => ?_) fun O H d v r Q hO rv e k => ?_
  · unfold absD at e
    split at e <;> first | exact ⟨_, rfl⟩ | cases e
  · cases rv with
    | int i => cases e; exact ⟨i, rfl, k _ H same_refl newI⟩
    | _ => cases e
theorem maxD_ok {K : PySem.W.Frag} : FnOk' K (fun xs H Q => ∃ i j, xs = [.int i, .int j] ∧ Q (.int (if j > i then j else i)) H) maxD := by
  refine .two (fun ds r e => ?_) fun O H d d' v u r Q hO rv ru e k => ?_
  · unfold maxD at e
    split at e <;> first | exact ⟨_, _, rfl⟩ | cases e
  · cases rv with
    | int i =>
      cases ru with
      | int j => cases e; exact ⟨i, j, rfl, k _ H same_refl newI⟩
      | _ => cases e
    | _ => cases ru <;> cases e
theorem minD_ok {K : PySem.W.Frag} : FnOk' K (fun xs H Q => ∃ i j, xs = [.int i, .int j] ∧ Q (.int (if j < i then j else i)) H) minD := by
  refine .two (fun ds r e => ?_) fun O H d d' v u r Q hO rv ru e k => ?_
  · unfold minD at e
    split at e <;> first | exact ⟨_, _, rfl⟩ | cases e
  · cases rv with
    | int i =>
      cases ru with
      | int j => cases e; exact ⟨i, j, rfl, k _ H same_refl newI⟩
      | _ => cases e
    | _ => cases ru <;> cases e
theorem ints_rep {K : PySem.W.Frag} {O : Addr → Prop} {H : Hp} : ∀ {ds : List D} {vs : List V} {is : List Int}, RepL K O H ds vs → intsOf ds = some is → vs = is.map V.int
  | _, _, _, .nil, e => by cases e; rfl
  | _, _, is, .cons (d := d) r n l, e => by
    cases r with
    | int i =>
      obtain ⟨js, hj, rfl⟩ := Option.map_eq_some_iff.mp (show (intsOf _).map (i :: ·) = some is from e)
      rw [ints_rep l hj]
      rfl
    | _ => cases e
theorem bools_rep {K : PySem.W.Frag} {O : Addr → Prop} {H : Hp} : ∀ {ds : List D} {vs : List V} {is : List Bool}, RepL K O H ds vs → boolsOf ds = some is → vs = is.map V.bl
  | _, _, _, .nil, e => by cases e; rfl
  | _, _, is, .cons (d := d) r n l, e => by
    cases r with
    | bl i =>
      obtain ⟨js, hj, rfl⟩ := Option.map_eq_some_iff.mp (show (boolsOf _).map (i :: ·) = some is from e)
      rw [bools_rep l hj]
      rfl
    | _ => cases e
theorem most_le : ∀ (r : List Int) (m : Int), m ≤ most m r ∧ (∀ y ∈ r, y ≤ most m r)
  | [], m => ⟨Int.le_refl _, fun _ h => nomatch h⟩
  | i :: r, m => by
    obtain ⟨h1, h2⟩ := most_le r (if m < i then i else m)
    have e : most m (i :: r) = most (if m < i then i else m) r := rfl
    rw [e]
    generalize most (if m < i then i else m) r = z at h1 h2
    refine ⟨by split at h1 <;> omega, fun y hy => ?_⟩
    rcases List.mem_cons.mp hy with rfl | hy
    · split at h1 <;> omega
    · exact h2 y hy
theorem least_le : ∀ (r : List Int) (m : Int), least m r ≤ m ∧ (∀ y ∈ r, least m r ≤ y)
  | [], m => ⟨Int.le_refl _, fun _ h => nomatch h⟩
  | i :: r, m => by
    obtain ⟨h1, h2⟩ := least_le r (if i < m then i else m)
    have e : least m (i :: r) = least (if i < m then i else m) r := rfl
    rw [e]
    generalize least (if i < m then i else m) r = z at h1 h2
    refine ⟨by split at h1 <;> omega, fun y hy => ?_⟩
    rcases List.mem_cons.mp hy with rfl | hy
    · split at h1 <;> omega
    · exact h2 y hy
theorem most_mem : ∀ (r : List Int) (m : Int), most m r = m ∨ most m r ∈ r
  | [], m => .inl rfl
  | i :: r, m => by
    have e : most m (i :: r) = most (if m < i then i else m) r := rfl
    rw [e]
    rcases most_mem r (if m < i then i else m) with h | h
    · rw [h]
      split
      · exact .inr List.mem_cons_self
      · exact .inl rfl
    · exact .inr (List.mem_cons_of_mem _ h)
theorem least_mem : ∀ (r : List Int) (m : Int), least m r = m ∨ least m r ∈ r
  | [], m => .inl rfl
  | i :: r, m => by
    have e : least m (i :: r) = least (if i < m then i else m) r := rfl
    rw [e]
    rcases least_mem r (if i < m then i else m) with h | h
    · rw [h]
      split
      · exact .inr List.mem_cons_self
      · exact .inl rfl
    · exact .inr (List.mem_cons_of_mem _ h)
theorem maxLD_ok {K : PySem.W.Frag} : FnOk' K (rMax K) maxLD := by
  refine .one (fun ds r e => ?_) fun O H d v r Q hO rv e k => ?_
  · unfold maxLD at e
    split at e <;> first | exact ⟨_, rfl⟩ | cases e
  · cases rv with
    | lst a l =>
      rename_i a1 vs ds
      have e : (match intsOf ds with
        | some (i :: r) => some (RV.sh (.int (most i r)))
        | _ => none) = some r := e
      split at e
      · rename_i i is hi
        cases e
        have hv := ints_rep l hi
        subst hv
        refine ⟨_, i :: is, rfl, .inl a, by simp, fun m hm hmax => ?_⟩
        have : m = most i is := by
          obtain ⟨h1, h2⟩ := most_le is i
          have h3 : m ≤ most i is := by
            rcases List.mem_cons.mp hm with rfl | hm
            · exact h1
            · exact h2 m hm
          have h4 : most i is ≤ m := by
            rcases most_mem is i with h | h
            · rw [h]; exact hmax i List.mem_cons_self
            · exact hmax _ (List.mem_cons_of_mem _ h)
          omega
        rw [this]
        exact k _ H same_refl newI
      · cases e
    | _ => cases e
theorem minLD_ok {K : PySem.W.Frag} : FnOk' K (rMin K) minLD := by
  refine .one (fun ds r e => ?_) fun O H d v r Q hO rv e k => ?_
  · unfold minLD at e
    split at e <;> first | exact ⟨_, rfl⟩ | cases e
  · cases rv with
    | lst a l =>
      rename_i a1 vs ds
      have e : (match intsOf ds with
        | some (i :: r) => some (RV.sh (.int (least i r)))
        | _ => none) = some r := e
      split at e
      · rename_i i is hi
        cases e
        have hv := ints_rep l hi
        subst hv
        refine ⟨_, i :: is, rfl, .inl a, by simp, fun m hm hmax => ?_⟩
        have : m = least i is := by
          obtain ⟨h1, h2⟩ := least_le is i
          have h3 : least i is ≤ m := by
            rcases List.mem_cons.mp hm with rfl | hm
            · exact h1
            · exact h2 m hm
          have h4 : m ≤ least i is := by
            rcases least_mem is i with h | h
            · rw [h]; exact hmax i List.mem_cons_self
            · exact hmax _ (List.mem_cons_of_mem _ h)
          omega
        rw [this]
        exact k _ H same_refl newI
      · cases e
    | _ => cases e
theorem sumD_ok {K : PySem.W.Frag} : FnOk' K (rSum K) sumD := by
  refine .one (fun ds r e => ?_) fun O H d v r Q hO rv e k => ?_
  · unfold sumD at e
    split at e <;> first | exact ⟨_, rfl⟩ | cases e
  · cases rv with
    | lst a l =>
      rename_i a1 vs ds
      obtain ⟨is, hi, rfl⟩ := Option.map_eq_some_iff.mp (show (intsOf ds).map (fun is => RV.sh (.int is.sum)) = some r from e)
      exact ⟨_, is, rfl, by rw [← ints_rep l hi]; exact .inl a, k _ H same_refl newI⟩
    | _ => cases e
theorem anyD_ok {K : PySem.W.Frag} : FnOk' K (rAny K) anyD := by
  refine .one (fun ds r e => ?_) fun O H d v r Q hO rv e k => ?_
  · unfold anyD at e
    split at e <;> first | exact ⟨_, rfl⟩ | cases e
  · cases rv with
    | lst a l =>
      rename_i a1 vs ds
      obtain ⟨is, hi, rfl⟩ := Option.map_eq_some_iff.mp (show (boolsOf ds).map (fun bs => RV.sh (.bool (bs.any id))) = some r from e)
      exact ⟨_, is, rfl, by rw [← bools_rep l hi]; exact .inl a, k _ H same_refl newB⟩
    | _ => cases e
theorem allD_ok {K : PySem.W.Frag} : FnOk' K (rAll K) allD := by
  refine .one (fun ds r e => ?_) fun O H d v r Q hO rv e k => ?_
  · unfold allD at e
    split at e <;> first | exact ⟨_, rfl⟩ | cases e
  · cases rv with
    | lst a l =>
      rename_i a1 vs ds
      obtain ⟨is, hi, rfl⟩ := Option.map_eq_some_iff.mp (show (boolsOf ds).map (fun bs => RV.sh (.bool (bs.all id))) = some r from e)
      exact ⟨_, is, rfl, by rw [← bools_rep l hi]; exact .inl a, k _ H same_refl newB⟩
    | _ => cases e
theorem intD_ok {K : PySem.W.Frag} : FnOk' K (fun xs H Q => (∃ i, xs = [.int i] ∧ Q (.int i) H) ∨ ∃ k, xs = [.bl k] ∧ Q (.int (if k then 1 else 0)) H) intD := by
  refine .one (fun ds r e => ?_) fun O H d v r Q hO rv e k => ?_
  · unfold intD at e
    split at e <;> first | exact ⟨_, rfl⟩ | cases e
  · cases rv with
    | int i => cases e; exact .inl ⟨i, rfl, k _ H same_refl newI⟩
    | bl i => cases e; exact .inr ⟨i, rfl, k _ H same_refl newI⟩
    | _ => cases e
theorem listD_ok {K : PySem.W.Frag} : FnOk' K (fun xs H Q => ∃ p ys, xs = [.ref p] ∧ (SqL K H p ys ∨ SqT K H p ys) ∧ ∀ l, H l = none → Q (.ref l) (upd H l (.lst ys))) listD := by
  refine .one (fun ds r e => ?_) fun O H d v r Q hO rv e k => ?_
  · unfold listD at e
    split at e <;> first | exact ⟨_, rfl⟩ | cases e
  · cases rv with
    | lst a l =>
      cases e
      refine ⟨_, _, rfl, .inl (.inl a), fun p hp => ?_⟩
      obtain ⟨s, nv⟩ := new_list hO l hp
      exact k _ _ s nv
    | tup a l =>
      cases e
      refine ⟨_, _, rfl, .inr a, fun p hp => ?_⟩
      obtain ⟨s, nv⟩ := new_list hO l hp
      exact k _ _ s nv
    | _ => cases e
theorem tupleD_ok {K : PySem.W.Frag} : FnOk' K (fun xs H Q => ∃ p ys, xs = [.ref p] ∧ ((SqL K H p ys ∧ ∀ l, H l = none → Q (.ref l) (upd H l (.tup ys))) ∨ (SqT K H p ys ∧ Q (.ref p) H))) tupleD := by
  refine .one (fun ds r e => ?_) fun O H d v r Q hO rv e k => ?_
  · unfold tupleD at e
    split at e <;> first | exact ⟨_, rfl⟩ | cases e
  · cases rv with
    | lst a l =>
      cases e
      refine ⟨_, _, rfl, .inl ⟨.inl a, fun p hp => ?_⟩⟩
      obtain ⟨s, nv⟩ := new_tup hO l hp
      exact k _ _ s nv
    | tup a l =>
      cases e
      exact ⟨_, _, rfl, .inr ⟨a, k _ H same_refl ⟨.tup a l, fun m => nomatch m⟩⟩⟩
    | _ => cases e
/-! ### isinstance(x, T) -/
theorem isi_ok {K : PySem.W.Frag} {T : String} {O : Addr → Prop} {H : Hp} {d : D} {v : V} {b : Bool} (h : T = "int" ∨ T = "str" ∨ T = "list" ∨ T = "tuple" ∨ T = "dict" ∨ T = "bool") (r : RepT K O H d v) (e : isiD T d = some b) : ∃ t, TyX K H v t ∧ PySem.W.kitOne K t (.type T) = some b := by
  cases r with
  | non =>
    refine ⟨_, .base .non, ?_⟩
    cases e
    rcases h with h | h | h | h | h | h <;> (subst h; exact kit_ty (by decide +kernel))
  | bl c =>
    refine ⟨_, .base (.bl c), ?_⟩
    cases e
    rcases h with h | h | h | h | h | h <;> (subst h; exact kit_ty (by decide +kernel))
  | int c =>
    refine ⟨_, .base (.int c), ?_⟩
    cases e
    rcases h with h | h | h | h | h | h <;> (subst h; exact kit_ty (by decide +kernel))
  | str c =>
    refine ⟨_, .base (.str c), ?_⟩
    cases e
    rcases h with h | h | h | h | h | h <;> (subst h; exact kit_ty (by decide +kernel))
  | lst a l =>
    have : TyX K H (.ref _) (.type "list") := a.elim (fun a => .base (.lst a)) fun ⟨_, a⟩ => .base (.frz a)
    refine ⟨_, this, ?_⟩
    cases e
    rcases h with h | h | h | h | h | h <;> (subst h; exact kit_ty (by decide +kernel))
  | tup a l =>
    have : TyX K H (.ref _) (.type "tuple") := a.elim (fun a => a.elim (fun a => .base (.tup a)) fun ⟨_, a⟩ => .fTuple a) fun ⟨o, its, n, a, c, _⟩ => .kTuple a c
    refine ⟨_, this, ?_⟩
    cases e
    rcases h with h | h | h | h | h | h <;> (subst h; exact kit_ty (by decide +kernel))
  | kls h => cases e
  | dic a l =>
    have e : (match klOf _ with
      | some _ => none
      | none => some (T == "dict")) = some b := e
    rw [klOf_rep l] at e
    have : TyX K H (.ref _) (.type "dict") := a.elim (fun a => .base (.dK a)) fun ⟨_, a⟩ => .fDict a
    refine ⟨_, this, ?_⟩
    cases e
    rcases h with h | h | h | h | h | h <;> (subst h; exact kit_ty (by decide +kernel))
theorem re_isi {T : String} {x : Str} {p q : Pos} (hT : T = "int" ∨ T = "str" ∨ T = "list" ∨ T = "tuple" ∨ T = "dict" ∨ T = "bool") (hg : Gl X "isinstance") (hm : X.mg "isinstance" = none) (hv : bootBuiltins "isinstance" = some (.builtin "isinstance")) (hg2 : Gl X x) (hm2 : X.mg x = none) (hv2 : bootBuiltins x = some (.type T)) (ha : RE X W a A)
    (hn : x ≠ "__name__" := by decide) (hdb : (x == ("__debug__" : Str)) = false := by decide)
    (he : starEach [a, .Name x q] X.env = (false, eval a X.env) :: starEach [.Name x q] X.env := by rfl) (he2 : starEach [.Name x q] X.env = (false, eval (.Name x q) X.env) :: starEach [] X.env := by rfl)
    (hpl : (backTo pos (starEach [.Name x q] X.env)).any (·.1) = false := by rfl) : RE X W (.Call (.Name "isinstance" p) [a, .Name x q] [] pos) (eIsi T A) := by
  have hb : PE X (.Name x q) (tC (.ty T)) := pe_bltn hg2 hm2 hv2 (show RelV (.ty T) (.type T) from rfl) hn hdb
  have hA : PA X [a, .Name x q] (tCons (tE X.K X.mg W A) (tCons (tC (.ty T)) tNil)) := pa_cons ha (pa_cons hb pa_nil he2) he
  refine PE.imp (pe_callB call_isi hg hm hv hA (by decide) (by decide) he hpl) fun σ H Q h => ?_
  have := tE_un (rr := fun v H Q => rIsi X.K [v, .ty T] H Q) (f := fun d => (isiD T d).map fun b => RV.sh (.bool b)) (fun O H p v1 r Q hO r1 e k => by
    obtain ⟨b, hb, rfl⟩ := Option.map_eq_some_iff.mp e
    obtain ⟨t, h1, h2⟩ := isi_ok hT r1 hb
    exact ⟨v1, .ty T, t, .type T, b, rfl, .ty T, h1, h2, k _ H same_refl newB⟩) h
  exact this
end
end DL
set_option maxRecDepth 100000
set_option maxHeartbeats 1000000
/-! DP: what changes one's own lists; op=; several names at once. -/
namespace DL
open PySem PySem.Spec PyProof.Rows L2
section
variable {K : PySem.W.Frag} {mg : Str → Option Value} {W : WX} {fx : Fx} {own own' : Own} {σ : L2.St} {H H' : Hp} {ρ ρ' : Env} {Q : VK}
theorem slotL_get {i : Nat} {q : EV × List D} (h : slotL ρ i = some q) : DL.slot ρ i = some q.1 ∧ q.1.mine = true ∧ q.1.d = .list q.2 := by
  unfold slotL at h
  split at h
  · rename_i xs e; cases h; exact ⟨e, rfl, rfl⟩
  · rename_i xs e; cases h; exact ⟨e, rfl, rfl⟩
  · cases h
theorem own_list (R : Rp K fx own σ H ρ) {i : Nat} {q : EV × List D} (h : slotL ρ i = some q) : ∃ a vs, own i = some a ∧ σ[i]? = some (some (.ref a)) ∧ H a = some (.lst vs) ∧ RepL K (OO fx own) H q.2 vs := by
  obtain ⟨h1, h2, h3⟩ := slotL_get h
  obtain ⟨a, q1, q2, q3⟩ := R.ow i _ h1 h2
  rw [h3] at q3
  obtain ⟨vs, w1, w2⟩ := q3
  exact ⟨a, vs, q1, q2, w1, w2⟩
theorem kp_mut {i : Nat} {a : Addr} (ha : own i = some a) (hk : ∀ b, b ≠ a → H' b = H b) : Kp (OO fx own) H H' := .of fun b o n e => (hk b fun z => n (.inr ⟨i, z ▸ ha⟩)).trans e
theorem step_mut {i : Nat} {a : Addr} (ha : own i = some a) (hk : ∀ b, b ≠ a → H' b = H b) (hn : H' a ≠ none) : StepE H own H' own :=
  ⟨fun b o e n => (hk b fun z => n i (z ▸ ha)).trans e, fun _ _ e => e, fun b n => by
    by_cases z : b = a
    · rw [z]; exact hn
    · rw [hk b z]; exact n⟩
/-- one's own list or dict is changed -/
theorem Rp.mut (R : Rp K fx own σ H ρ) {i : Nat} {a : Addr} {ev : EV} {d : D} (h : DL.slot ρ i = some ev) (m : ev.mine = true) (ha : own i = some a) (hk : ∀ b, b ≠ a → H' b = H b) (r : RepO K (OO fx own) H' d a) :
    Rp K fx own σ H' (ρ.set i (some (ev.put d))) := by
  have kp : Kp (OO fx own) H H' := kp_mut ha hk
  have hi := slot_lt h
  obtain ⟨o', ho', mo'⟩ := r.mut.2
  have hn : H' a ≠ none := by rw [ho']; exact fun z => nomatch z
  exact { len := by rw [R.len, List.length_set], old := fun b n z => (step_mut ha hk hn).al b (R.old b n) z,
          trk := fun b z => by
            have : b ≠ a := fun e => R.nox i a ha (e ▸ z)
            rw [hk b this]; exact R.trk b z
          sh := fun j d' e => by
            by_cases hj : j = i
            · subst hj
              rw [slot_set_same hi] at e
              have : ev.put d = .sh d' := Option.some.inj e
              have m2 := put_mine (e := ev) (d := d)
              rw [this, m] at m2; cases m2
            · rw [slot_set_ne hj] at e
              obtain ⟨v, q1, q2⟩ := R.sh j d' e
              exact ⟨v, q1, q2.kp R.ho kp⟩
          ow := fun j e q m' => by
            by_cases hj : j = i
            · subst hj
              rw [slot_set_same hi] at q
              cases q
              obtain ⟨b, q1, q2, q3⟩ := R.ow j ev h m
              rw [ha] at q1; cases q1
              exact ⟨a, ha, q2, by rw [put_d]; exact r⟩
            · rw [slot_set_ne hj] at q
              obtain ⟨b, q1, q2, q3⟩ := R.ow j e q m'
              exact ⟨b, q1, q2, q3.kp R.ho kp (hk b fun z => hj (R.inj j i a (z ▸ q1) ha))⟩
          dom := fun j b e => by
            by_cases hj : j = i
            · subst hj
              exact ⟨_, slot_set_same hi, by rw [put_mine]; exact m⟩
            · obtain ⟨ev', q, m'⟩ := R.dom j b e
              exact ⟨ev', (slot_set_ne hj).trans q, m'⟩
          inj := R.inj, nox := R.nox,
          new := fun j b d' e q => by
            by_cases hj : j = i
            · subst hj
              rw [slot_set_same hi] at q
              have q : ev.put d = .ow d' := Option.some.inj q
              cases ev with
              | sh x => cases m
              | ow x => exact R.new j b x e h
              | io x => cases q
            · rw [slot_set_ne hj] at q
              exact R.new j b d' e q
          ios := fun j b e => by
            obtain ⟨q1, d', q2⟩ := R.ios j b e
            by_cases hj : j = i
            · subst hj
              rw [h] at q2; cases q2
              exact ⟨q1, d, slot_set_same hi⟩
            · exact ⟨q1, d', (slot_set_ne hj).trans q2⟩ }
/-- its list is put anew -/
theorem mut_list (R : Rp K fx own σ H ρ) {i : Nat} {a : Addr} {q : EV × List D} {vs ws : List V} {es : List D} (h : slotL ρ i = some q) (ha : own i = some a) (l : RepL K (OO fx own) H es ws) :
    Rp K fx own σ (upd H a (.lst ws)) (ρ.set i (some (q.1.put (.list es)))) ∧ StepE H own (upd H a (.lst ws)) own ∧ ∀ {d v}, Rep K (OO fx own) H d v → Rep K (OO fx own) (upd H a (.lst ws)) d v := by
  obtain ⟨h1, h2, h3⟩ := slotL_get h
  have hk : ∀ b, b ≠ a → upd H a (.lst ws) b = H b := fun b n => upd_ne n
  refine ⟨R.mut h1 h2 ha hk ⟨ws, upd_same, l.kp R.ho (kp_mut ha hk)⟩, step_mut ha hk (by rw [upd_same]; exact fun z => nomatch z), fun r => r.kp R.ho (kp_mut ha hk)⟩
theorem append_ok {i : Nat} {A : DE} (h : tE K mg W (eAppend i A) σ H Q) : tBM K "list" rAppend (tVar i) (tCons (tE K mg W A) tNil) σ H Q := by
  obtain ⟨fx, own, ρ, k, hx, o, R, e, kn, kx⟩ := h
  obtain ⟨q0, hq0, e1⟩ := opt_some e
  obtain ⟨a, vs, ha, hσ, hH, l⟩ := own_list R hq0
  refine ⟨.ref a, hσ, .inl ⟨rfl, vs, .inl (.inl hH)⟩, fx, own, ρ, _, hx, o, R, e1, fun r ρ1 v H1 own1 s1 q1 e2 => ?_, kx⟩
  obtain ⟨R1, u1⟩ := q1.use R.there
  obtain ⟨d, ρ2, own2, e3, s2, R2, r2⟩ := freeze_ok R1 u1 e2
  obtain ⟨q, hq, e4⟩ := opt_some e3
  obtain ⟨a', vs', ha', hσ', hH', l'⟩ := own_list R2 hq
  rw [hσ] at hσ'; cases hσ'
  split at e4
  · rename_i hz
    obtain ⟨R3, s3, _⟩ := mut_list (vs := vs') R2 hq ha' (l'.append (.cons r2.1 r2.2 .nil))
    exact ⟨a, vs', v, rfl, rfl, hH', by rw [← l'.length, ← sizeLim_eq]; exact hz, kn (.sh .none) _ .non _ own2 (s1.trans (s2.trans s3)) ⟨R3, .non, fun m => nomatch m⟩ e4⟩
  · cases e4
theorem repl_last : ∀ {ds : List D} {vs : List V} {d : D} {O : Addr → Prop}, RepL K O H ds vs → ds.getLast? = some d → ∃ v, vs[vs.length - 1]? = some v ∧ Rep K O H d v ∧ RepL K O H ds.dropLast vs.dropLast
  | [], _, d, O, .nil, e => by cases e
  | [x], [v], d, O, .cons r n .nil, e => by
    cases e
    exact ⟨v, rfl, ⟨r, n⟩, .nil⟩
  | x :: y :: ds, v :: u :: vs, d, O, .cons r n l, e => by
    obtain ⟨w, h1, h2, h3⟩ := repl_last l (d := d) (by rw [← e]; rfl)
    refine ⟨w, ?_, h2, .cons r n h3⟩
    rw [← h1]
    rfl
theorem pop_ok {i : Nat} (h : tE K mg W (ePop i) σ H Q) : tBM0 K "list" rPop (tVar i) σ H Q := by
  obtain ⟨fx, own, ρ, k, hx, o, R, e, kn, kx⟩ := h
  obtain ⟨q, hq, e1⟩ := opt_some e
  obtain ⟨a, vs, ha, hσ, hH, l⟩ := own_list R hq
  split at e1
  · rename_i d hd
    obtain ⟨v, h1, h2, h3⟩ := repl_last l hd
    obtain ⟨R3, s3, k3⟩ := mut_list (vs := vs) R hq ha h3
    exact ⟨.ref a, hσ, .inl ⟨rfl, vs, .inl (.inl hH)⟩, a, vs, v, rfl, rfl, hH, h1, kn (.sh d) _ v _ own s3 ⟨R3, k3 h2⟩ e1⟩
  · cases e1
theorem repl_get : ∀ {ds : List D} {vs : List V} {d : D} {n : Nat} {O : Addr → Prop}, RepL K O H ds vs → ds[n]? = some d → ∃ v, vs[n]? = some v ∧ Rep K O H d v
  | _, _, d, n, O, .nil, e => by cases e
  | _, _, d, 0, O, .cons r m l, e => by cases e; exact ⟨_, rfl, r, m⟩
  | _, _, d, n + 1, O, .cons r m l, e => repl_get l (n := n) e
theorem repl_erase : ∀ {ds : List D} {vs : List V} {n : Nat} {O : Addr → Prop}, RepL K O H ds vs → RepL K O H (ds.eraseIdx n) (vs.eraseIdx n)
  | _, _, n, O, .nil => .nil
  | _, _, 0, O, .cons r m l => l
  | _, _, n + 1, O, .cons r m l => .cons r m (repl_erase l)
theorem repl_set {d : D} {v : V} : ∀ {ds : List D} {vs : List V} {n : Nat} {O : Addr → Prop}, RepL K O H ds vs → Rep K O H d v → RepL K O H (ds.set n d) (vs.set n v)
  | _, _, n, O, .nil, _ => .nil
  | _, _, 0, O, .cons r m l, q => .cons q.1 q.2 l
  | _, _, n + 1, O, .cons r m l, q => .cons r m (repl_set l q)
theorem popAt_ok {i : Nat} {A : DE} (h : tE K mg W (ePopAt i A) σ H Q) : tBM K "list" rPopAt (tVar i) (tCons (tE K mg W A) tNil) σ H Q := by
  obtain ⟨fx, own, ρ, k, hx, o, R, e, kn, kx⟩ := h
  obtain ⟨q0, hq0, e1⟩ := opt_some e
  obtain ⟨a, vs, ha, hσ, hH, l⟩ := own_list R hq0
  refine ⟨.ref a, hσ, .inl ⟨rfl, vs, .inl (.inl hH)⟩, fx, own, ρ, _, hx, o, R, e1, fun r ρ1 v H1 own1 s1 q1 e2 => ?_, kx⟩
  obtain ⟨R1, u1⟩ := q1.use R.there
  split at e2
  · rename_i j hj
    have rj := u1.peek R1 hj
    cases rj
    obtain ⟨q, hq, e4⟩ := opt_some e2
    obtain ⟨a', vs', ha', hσ', hH', l'⟩ := own_list R1 hq
    rw [hσ] at hσ'; cases hσ'
    split at e4
    · rename_i hz
      obtain ⟨d, hd, e5⟩ := opt_some e4
      obtain ⟨w, h1, h2⟩ := repl_get l' hd
      obtain ⟨R3, s3, k3⟩ := mut_list (vs := vs') R1 hq ha' (repl_erase l' (n := j.toNat))
      have hlt : j.toNat < vs'.length := (List.getElem?_eq_some_iff.mp h1).1
      have hb : (sizeLim : Int) < 2 ^ 63 := by decide
      exact ⟨a, vs', j, j.toNat, w, rfl, rfl, hH', by omega, by omega, seqIndex_of hz.1 (by omega), h1, kn (.sh d) _ w _ own1 (s1.trans s3) ⟨R3, k3 h2⟩ e5⟩
    · cases e4
  · cases e2
theorem slotM_get {i : Nat} {q : EV} (h : slotM ρ i = some q) : DL.slot ρ i = some q ∧ q.mine = true := by
  unfold slotM at h
  split at h
  · rename_i xs e; cases h; exact ⟨e, rfl⟩
  · rename_i xs e; cases h; exact ⟨e, rfl⟩
  · cases h
theorem key_put (k k' : Key) : keyEq (kD k') (kD k) = decide (k' = k) := keyEq_k _ _
theorem repk_any {k : Key} : ∀ {ds : List (D × D)} {us : List (Key × V)} {O : Addr → Prop}, RepK K O H ds us → (ds.any fun p => keyEq p.1 (kD k)) = us.any fun kv => decide (kv.1 = k)
  | _, _, O, .nil => rfl
  | _, _, O, .cons r m l => by rw [List.any_cons, List.any_cons, key_put, repk_any l]
theorem repk_map {k : Key} {d : D} {v : V} : ∀ {ds : List (D × D)} {us : List (Key × V)} {O : Addr → Prop}, RepK K O H ds us → Rep K O H d v → RepK K O H (ds.map fun p => if keyEq p.1 (kD k) = true then (p.1, d) else p) (us.map fun kv => if kv.1 = k then (kv.1, v) else kv)
  | _, _, O, .nil, _ => .nil
  | _, _, O, .cons (k := k') r m l, q => by
    rw [List.map_cons, List.map_cons, key_put]
    by_cases h : k' = k
    · rw [if_pos (by simpa using h), if_pos h]
      exact .cons q.1 q.2 (repk_map l q)
    · rw [if_neg (by simpa using h), if_neg h]
      exact .cons r m (repk_map l q)
theorem repk_snoc {k : Key} {d : D} {v : V} : ∀ {ds : List (D × D)} {us : List (Key × V)} {O : Addr → Prop}, RepK K O H ds us → Rep K O H d v → RepK K O H (ds ++ [(kD k, d)]) (us ++ [(k, v)])
  | _, _, O, .nil, q => .cons q.1 q.2 .nil
  | _, _, O, .cons r m l, q => .cons r m (repk_snoc l q)
theorem repk_put {k : Key} {d : D} {v : V} {ds : List (D × D)} {us : List (Key × V)} {O : Addr → Prop} (l : RepK K O H ds us) (q : Rep K O H d v) : RepK K O H (putD ds (kD k) d) (putK us k v) := by
  unfold putD putK
  rw [repk_any l]
  by_cases h : (us.any fun kv => decide (kv.1 = k)) = true
  · rw [if_pos h, if_pos h]; exact repk_map l q
  · rw [if_neg h, if_neg h]; exact repk_snoc l q
theorem repk_len {ds : List (D × D)} {us : List (Key × V)} {O : Addr → Prop} (l : RepK K O H ds us) : ds.length = us.length := repK_keys l
def rSetA : TSet := fun o i v H Q => rSetL o i v H Q ∨ rSetD o i v H Q
theorem set_any {X : Cx} (hu : X.A.units + 1 < cLine) : PSet X rSetA := fun pins s σ H o i v ov iv u Q I ro ri rv h => by
  rcases h with h | h
  · exact set_list pins s σ H o i v ov iv u Q I ro ri rv h
  · exact set_dict hu pins s σ H o i v ov iv u Q I ro ri rv h
theorem setIx_ok {i : Nat} {IX A : DE} {Ed : Ends} (h : tS K mg W (sSetIx i IX A) Ed σ H) : tAsg (tE K mg W A) (gSub (tVar i) (tE K mg W IX) rSetA) Ed σ H := by
  obtain ⟨fx, own, ρ, C, o, R, e, kn, kr, kb, kc, kx⟩ := h
  refine ⟨fx, own, ρ, _, C.ex, o, R, e, fun r ρ1 v H1 own1 s1 q1 e1 => ?_, fun x ρ1 cls d H1 own1 s1 R1 rx e1 => kx x ρ1 cls d σ H1 own1 s1.s R1 rx e1⟩
  obtain ⟨R1, u1⟩ := q1.use R.there
  obtain ⟨d, ρ2, own2, e2, s2, R2, r2⟩ := freeze_ok R1 u1 e1
  obtain ⟨q0, hq0, e3⟩ := opt_some e2
  obtain ⟨m1, m2⟩ := slotM_get hq0
  obtain ⟨a, ha, hσ, _⟩ := R2.ow i _ m1 m2
  refine ⟨.ref a, hσ, fx, own2, ρ2, _, C.ex, o, R2, e3, fun rj ρ3 vj H3 own3 s3 q3 e4 => ?_, fun x ρ1 cls d H1 own1 s3 R1 rx e1 => kx x ρ1 cls d σ H1 own1 ((s1.trans s2).trans s3).s R1 rx e1⟩
  obtain ⟨R3, u3⟩ := q3.use R2.there
  obtain ⟨jd, hj, e5⟩ := opt_some e4
  have rj := u3.peek R3 hj
  obtain ⟨q, hq, e6⟩ := opt_some e5
  obtain ⟨c, hc, e7⟩ := opt_some e6
  obtain ⟨n1, n2⟩ := slotM_get hq
  obtain ⟨a', ha', hσ', ro⟩ := R3.ow i _ n1 n2
  rw [hσ] at hσ'; cases hσ'
  have r3 : Rep K (OO fx own3) H3 d v := Rep.step R2 s3 r2
  have st := ((s1.trans s2).trans s3)
  unfold setAt at hc
  split at hc
  · rename_i xs hxs
    split at hc
    · rename_i j
      cases rj
      obtain ⟨n, hn, rfl⟩ := Option.map_eq_some_iff.mp hc
      rw [hxs] at ro
      obtain ⟨vs, w1, w2⟩ := ro
      have hk : ∀ b, b ≠ a → upd H3 a (.lst (vs.set n v)) b = H3 b := fun b nb => upd_ne nb
      refine .inl ⟨a, vs, j, n, rfl, rfl, w1, by rw [← w2.length]; exact hn, ?_⟩
      exact kn _ _ _ own3 (st.trans (step_mut ha' hk (by rw [upd_same]; exact fun z => nomatch z))).s (R3.mut (d := .list (xs.set n d)) n1 n2 ha' hk ⟨_, upd_same, (repl_set w2 r3).kp R3.ho (kp_mut ha' hk)⟩) e7
    · cases hc
  · rename_i kvs hxs
    obtain ⟨hc1, rfl⟩ := some_if hc
    rw [Bool.and_eq_true] at hc1
    obtain ⟨k, rfl, rfl⟩ := key_rep hc1.1 rj
    rw [hxs] at ro
    obtain ⟨us, w1, w2⟩ := ro
    have hk : ∀ b, b ≠ a → upd H3 a (.dK (putK us k v)) b = H3 b := fun b nb => upd_ne nb
    refine .inr ⟨a, _, rfl, .inl ⟨us, k, w1, rfl, by rw [← repk_len w2, ← sizeLim_eq]; exact of_decide_eq_true hc1.2, rfl⟩, ?_⟩
    exact kn _ _ _ own3 (st.trans (step_mut ha' hk (by rw [upd_same]; exact fun z => nomatch z))).s (R3.mut (d := .dict (putD kvs (kD k) d)) n1 n2 ha' hk ⟨_, upd_same, (repk_put w2 r3).kp R3.ho (kp_mut ha' hk)⟩) e7
  · cases hc
/-- op= -/
theorem aug_ok {i : Nat} {A : DE} {f : D → D → Option RV} {rr : R2} {Ed : Ends} (ok : OpOk K rr f) (h : tS K mg W (sAug f i A) Ed σ H) : tAug i (tE K mg W A) rr Ed σ H := by
  obtain ⟨fx, own, ρ, C, o, R, e, kn, kr, kb, kc, kx⟩ := h
  unfold sAug at e
  split at e
  · rename_i p hp
    obtain ⟨x, hσ, rx⟩ := R.sh i p hp
    refine ⟨x, hσ, fx, own, ρ, _, C.ex, o, R, e, fun r ρ1 v H1 own1 s1 q1 e1 => ?_, fun x ρ1 cls d H1 own1 s1 R1 rx e1 => kx x ρ1 cls d σ H1 own1 s1.s R1 rx e1⟩
    obtain ⟨R1, u1⟩ := q1.use R.there
    obtain ⟨q, hq, e2⟩ := opt_some e1
    split at e2
    · rename_i d hd
      obtain ⟨hl, e3⟩ := put_some e2
      refine ok _ H1 p q x v (.sh d) _ R1.ho (Rep.step R s1 rx).1 (u1.peek R1 hq) hd fun z H2 s2 n => ?_
      have R2 := R1.same s2
      exact kn _ _ _ _ (s1.trans ((StepE.of_same s2).trans .drop)).s (R2.put_sh hl n) e3
    · cases e2
  · cases e
end
section
variable {X : Cx} {W : WX} {a e ix : Expr} {A IX : DE} {pos p p2 p3 : Pos}
theorem pv {X : Cx} {i : Nat} {x : Str} {pos : Pos} (hN : X.N[i]? = some x := by rfl) (hv : Vis X.env.scope x := by first | exact Or.inl rfl | exact Or.inr (Or.inl rfl) | exact Or.inr (Or.inr rfl)) (hd : (x == ("__debug__" : Str)) = false := by decide)
    (hcd : (x == ("__classdict__" : Str)) = false := by decide) : PE X (.Name x pos) (tVar i) := pe_var hN hv hd hcd
theorem re_append {i : Nat} {x : Str} {apos : Pos} (hx : PE X (.Name x p) (tVar i)) (ha : RE X W a A) (hs : starEach [a] X.env = (false, eval a X.env) :: starEach [] X.env := by rfl)
    (hbase : attributeBase (.Name x p) "append" X.env (eval (.Name x p) X.env) = eval (.Name x p) X.env := by rfl) (hline : (apos.endLine == pos.line) = true := by rfl) : RE X W (.Call (.Attribute (.Name x p) "append" apos) [a] [] pos) (eAppend i A) :=
  PE.imp (pe_bm PySem.F.plainAttrs_list PySem.F.slot_list_append PySem.F.type_list_append mt_append hx (pa_cons ha pa_nil hs) hbase (by rw [hs]; rfl) hline hs (by rfl)) fun σ H Q h => append_ok h
theorem re_pop {i : Nat} {x : Str} {apos : Pos} (hx : PE X (.Name x p) (tVar i))
    (hbase : attributeBase (.Name x p) "pop" X.env (eval (.Name x p) X.env) = eval (.Name x p) X.env := by rfl) (hline : (apos.endLine == pos.line) = true := by rfl) : RE X W (.Call (.Attribute (.Name x p) "pop" apos) [] [] pos) (ePop i) :=
  PE.imp (pe_bm0 PySem.F.plainAttrs_list PySem.F.slot_list_pop PySem.F.type_list_pop mt_pop hx hbase hline) fun σ H Q h => pop_ok h
theorem re_popAt {i : Nat} {x : Str} {apos : Pos} (hx : PE X (.Name x p) (tVar i)) (ha : RE X W a A) (hs : starEach [a] X.env = (false, eval a X.env) :: starEach [] X.env := by rfl)
    (hbase : attributeBase (.Name x p) "pop" X.env (eval (.Name x p) X.env) = eval (.Name x p) X.env := by rfl) (hline : (apos.endLine == pos.line) = true := by rfl) : RE X W (.Call (.Attribute (.Name x p) "pop" apos) [a] [] pos) (ePopAt i A) :=
  PE.imp (pe_bm PySem.F.plainAttrs_list PySem.F.slot_list_pop PySem.F.type_list_pop mt_popAt hx (pa_cons ha pa_nil hs) hbase (by rw [hs]; rfl) hline hs (by rfl)) fun σ H Q h => popAt_ok h
theorem rs_setIx {i : Nat} {x : Str} (hu : X.A.units + 1 < cLine) (hx : PE X (.Name x p) (tVar i)) (hi : RE X W ix IX) (ha : RE X W a A)
    (hg : ∀ v, assign (.Subscript (.Name x p) ix p2) X.env v = (do
      let ov ← holding [v] (eval (.Name x p) X.env)
      let iv ← holding [v, ov] (eval ix X.env)
      standAt p2
      holding [v, ov, iv] (setItem ov iv v)
      release [v, ov, iv] []) := by intro _; rfl)
    (hs : swapsWithSole [.Subscript (.Name x p) ix p2] a pos.line X.env = pure false := by rfl) (hw : swappedStores [.Subscript (.Name x p) ix p2] a X.env = pure none := by rfl)
    (h1 : (assignEach [.Subscript (.Name x p) ix p2] X.env).map (·.2) = [assign (.Subscript (.Name x p) ix p2) X.env] := by rfl) : RS X W (.Assign [.Subscript (.Name x p) ix p2] a pos) (sSetIx i IX A) :=
  PS.imp (ps_asg ha (pg_sub hx hi (set_any hu) hg) hs hw h1) fun Ed σ H h => setIx_ok h
theorem rs_aug {i : Nat} {x : Str} {op : Operator} {f : D → D → Option RV} {rr : R2} (ho : PIp X op rr) (ok : OpOk X.K rr f) (hN : X.N.Nodup) (he : RE X W e A) (hi : X.N[i]? = some x := by rfl) (hx : Loc X.env.scope x := by first | exact Or.inl rfl | exact Or.inr rfl)
    (hf : X.fn x = true ∨ X.env.scope.names.lookup x = some .local := by first | exact .inl rfl | exact .inr rfl | assumption) : RS X W (.AugAssign (.Name x p) op e pos) (sAug f i A) :=
  PS.imp (ps_aug hN hi hx he ho hf) fun Ed σ H h => aug_ok ok h
def rIAdd : R2 := fun x y H Q => rI0 (fun i j => .int (i + j)) x y H Q ∨ rAddS x y H Q
theorem iop_addA : PIp X .Add rIAdd := OpR.or iop_add iop_add_str
def iaddD : D → D → Option RV
  | .int i, .int j => addD (.int i) (.int j)
  | .str i, .str j => addD (.str i) (.str j)
  | _, _ => none
theorem iaddD_ok {K : PySem.W.Frag} : OpOk K rIAdd iaddD := fun O H p q v1 v2 r Q hO r1 r2 e k => by
  unfold iaddD at e
  split at e
  · cases r1; cases r2; cases e
    exact .inl ⟨_, _, rfl, rfl, k _ H same_refl newI⟩
  · cases r1; cases r2
    obtain ⟨hz, rfl⟩ := some_if (show (if _ then _ else _) = some r from e)
    exact .inr ⟨_, _, rfl, rfl, by rw [sizeLim_eq] at hz; exact hz, k _ H same_refl newS⟩
  · cases e
end
/-! ### a, b = x, y -/
theorem setAll_len {α : Type} : ∀ (is : List Nat) (us ρ : List α), (setAll ρ is us).length = ρ.length
  | [], us, ρ => by cases us <;> rfl
  | i :: is, [], ρ => rfl
  | i :: is, u :: us, ρ => by
    show (setAll (ρ.set i u) is us).length = _
    rw [setAll_len is us, List.length_set]
theorem setAll_set {α : Type} {i : Nat} {x : α} : ∀ (is : List Nat) (us ρ : List α), i ∉ is → setAll (ρ.set i x) is us = (setAll ρ is us).set i x
  | [], us, ρ, _ => by cases us <;> rfl
  | j :: is, [], ρ, _ => rfl
  | j :: is, u :: us, ρ, h => by
    show setAll ((ρ.set i x).set j u) is us = (setAll (ρ.set j u) is us).set i x
    rw [List.set_comm _ _ (fun z => h (by rw [z]; exact List.mem_cons_self)), setAll_set is us _ fun z => h (List.mem_cons_of_mem _ z)]
theorem setAll_get {α : Type} {i : Nat} : ∀ (is : List Nat) (us ρ : List α), i ∉ is → (setAll ρ is us)[i]? = ρ[i]?
  | [], us, ρ, _ => by cases us <;> rfl
  | j :: is, [], ρ, _ => rfl
  | j :: is, u :: us, ρ, h => by
    show (setAll (ρ.set j u) is us)[i]? = _
    rw [setAll_get is us _ fun z => h (List.mem_cons_of_mem _ z), List.getElem?_set_ne fun z => h (by rw [z]; exact List.mem_cons_self)]
section
variable {K : PySem.W.Frag} {mg : Str → Option Value} {W : WX} {fx : Fx} {own own' : Own} {σ : L2.St} {H H' : Hp} {ρ ρ' : Env} {Q : VK}
theorem loose_setAll {i : Nat} {is : List Nat} {us : List (Option EV)} (h : i ∉ is) : loose (setAll ρ is us) i = loose ρ i := by
  unfold loose DL.slot
  rw [setAll_get is us ρ h, setAll_len]
theorem RepO.stepS {d : D} {a : Addr} (R : Rp K fx own σ H ρ) (s : StepS H own H' own') (na : ∀ i, own i ≠ some a) (r : RepO K (OO fx own) H d a) : RepO K (OO fx own') H' d a := by
  have f : Fresh (OO fx own) (fun a => OO fx own a ∨ OO fx own' a) H := fun a z => by
    rcases z with z | z | ⟨i, z⟩
    · exact .inl z
    · exact .inl (.inl z)
    · rcases s.le i a z with q | q
      · exact .inl (.inr q)
      · exact .inr q
  have hO : HO' (fun a => OO fx own a ∨ OO fx own' a) H := fun a o z e => by
    rcases f a z with q | q
    · exact R.ho a o q e
    · rw [e] at q; cases q
  have k : Kp (fun a => OO fx own a ∨ OO fx own' a) H H' := .of fun a o n e => s.keep a o e fun i z => n (.inl (.inr ⟨i, z⟩))
  obtain ⟨o, q, _⟩ := r.mut.2
  exact ((r.fresh f).kp hO k ((s.keep a o q na).trans q.symm)).anti fun a z => .inr z
/-- what is kept, put into slots -/
def Held (K : PySem.W.Frag) (fx : Fx) (σ : L2.St) (H H' : Hp) (own' : Own) (ρ' : Env) (us : List EV) (vs : List V) : Prop := us.length = vs.length ∧
  ∀ is : List Nat, is.length = us.length → apart is = true → is.all (loose ρ') = true → ∃ own2 : Own, (∀ i a, own2 i = some a → (∃ j, own' j = some a) ∨ H a = none) ∧ Rp K fx own2 (setAll σ is (vs.map some)) H' (setAll ρ' is (us.map some))
def tK (K : PySem.W.Frag) (mg : Str → Option Value) (W : WX) (F : DKs) : TA := fun σ H Q => ∃ (fx : Fx) (own : Own) (ρ : Env) (k : List EV → Env → Res) (h : KX) (o : Out), Rp K fx own σ H ρ ∧ F ρ k h = some o ∧
  (∀ us ρ' vs H' own', StepE H own H' own' → Held K fx σ H H' own' ρ' us vs → k us ρ' = some o → Q vs H') ∧
  (∀ x ρ' cls d H' own', StepE H own H' own' → Rp K fx own' σ H' ρ' → RepX K mg x cls d H' → h x ρ' = some o → W cls d σ H')
theorem apart_cons {i : Nat} {is : List Nat} (h : apart (i :: is) = true) : i ∉ is ∧ apart is = true := by
  have h : (!is.contains i && apart is) = true := h
  rw [Bool.and_eq_true] at h
  refine ⟨fun z => ?_, h.2⟩
  have := h.1
  rw [List.contains_iff_mem.mpr z] at this
  cases this
theorem keepNil_ok (h : tK K mg W kNil σ H Q') : tNil σ H Q' := by
  obtain ⟨fx, own, ρ, k, hx, o, R, e, kn, kx⟩ := h
  refine kn [] ρ [] H own .refl ⟨rfl, fun is hl ha hs => ?_⟩ e
  cases is with
  | nil => exact ⟨own, fun i a z => .inl ⟨i, z⟩, R⟩
  | cons _ _ => cases hl
theorem keepCons_ok {A : DE} {AS : DKs} {Q' : List V → Hp → Prop} (h : tK K mg W (kCons A AS) σ H Q') : tCons (tE K mg W A) (tK K mg W AS) σ H Q' := by
  obtain ⟨fx, own, ρ, k, hx, o, R, e, kn, kx⟩ := h
  refine ⟨fx, own, ρ, _, hx, o, R, e, fun r ρ1 v H1 own1 s1 q1 e1 => ?_, kx⟩
  obtain ⟨ev, ρ2, own2, e2, s2, q2⟩ := keep_ok R.there q1 e1
  have s12 := s1.trans s2
  have back : ∀ a, H1 a = none → H a = none := fun a z => Classical.byContradiction fun w => s12.al a w z
  rcases q2 with ⟨d, rfl, R2, r2⟩ | ⟨d, a, rfl, rfl, hn, na, rfl, rfl, R2, r2⟩
  · refine ⟨fx, own2, ρ2, _, hx, o, R2, e2, fun us ρ3 vs H3 own3 s3 hd e3 => ?_, fun x ρ3 cls d3 H3 own3 s3 R3 rx e3 => kx x ρ3 cls d3 H3 own3 (s12.trans s3) R3 rx e3⟩
    refine kn (.sh d :: us) ρ3 (v :: vs) H3 own3 (s12.trans s3) ⟨congrArg (· + 1) hd.1, fun is hl ha hs => ?_⟩ e3
    cases is with
    | nil => cases hl
    | cons i is =>
      obtain ⟨h1, h2⟩ := apart_cons ha
      have hs' : (loose ρ3 i && is.all (loose ρ3)) = true := hs
      rw [Bool.and_eq_true] at hs'
      obtain ⟨own4, le4, R4⟩ := hd.2 is (Nat.succ.inj hl) h2 hs'.2
      have st : StepS H1 own2 H3 own4 := ⟨s3.keep, fun j b z => by
        rcases le4 j b z with ⟨l, w⟩ | w
        · exact .inl ⟨l, s3.le l b w⟩
        · exact .inr w, s3.al⟩
      have R5 := R4.put_sh (i := i) (by rw [loose_setAll h1]; exact hs'.1) (Rep.stepS R2 st r2)
      refine ⟨DL.drop own4 i, fun j b z => ?_, ?_⟩
      · rcases le4 j b (drop_le j b z) with w | w
        · exact .inl w
        · exact .inr (back b w)
      · show Rp K fx _ (setAll (σ.set i (some v)) is (vs.map some)) H3 (setAll (ρ3.set i (some (.sh d))) is (us.map some))
        rw [setAll_set _ _ _ h1, setAll_set _ _ _ h1]
        exact R5
  · refine ⟨fx.add a, own2, ρ2, _, hx, o, R2, e2, fun us ρ3 vs H3 own3 s3 hd e3 => ?_, fun x ρ3 cls d3 H3 own3 s3 R3 rx e3 => kx x ρ3 cls d3 H3 own3 (s12.trans s3) R3.unadd rx e3⟩
    refine kn (.ow d :: us) ρ3 (.ref a :: vs) H3 own3 (s12.trans s3) ⟨congrArg (· + 1) hd.1, fun is hl ha hs => ?_⟩ e3
    cases is with
    | nil => cases hl
    | cons i is =>
      obtain ⟨h1, h2⟩ := apart_cons ha
      have hs' : (loose ρ3 i && is.all (loose ρ3)) = true := hs
      rw [Bool.and_eq_true] at hs'
      obtain ⟨own4, le4, R4⟩ := hd.2 is (Nat.succ.inj hl) h2 hs'.2
      have st : StepS H1 own2 H3 own4 := ⟨s3.keep, fun j b z => by
        rcases le4 j b z with ⟨l, w⟩ | w
        · exact .inl ⟨l, s3.le l b w⟩
        · exact .inr w, s3.al⟩
      have R5 := R4.put_ow (i := i) (by rw [loose_setAll h1]; exact hs'.1) (RepO.stepS R2 st (fun j z => R2.nox j a z (.inr rfl)) r2) (R.n0 hn) na
      refine ⟨DL.take own4 i a, fun j b z => ?_, ?_⟩
      · by_cases hj : j = i
        · subst hj
          rw [take_at] at z; cases z
          exact .inr hn
        · rw [take_ne hj] at z
          rcases le4 j b z with w | w
          · exact .inl w
          · exact .inr (back b w)
      · show Rp K fx _ (setAll (σ.set i (some (.ref a))) is (vs.map some)) H3 (setAll (ρ3.set i (some (.ow d))) is (us.map some))
        rw [setAll_set _ _ _ h1, setAll_set _ _ _ h1]
        exact R5
theorem par_ok {is : List Nat} {F : DKs} {Ed : Ends} (h : tS K mg W (sPar is F) Ed σ H) : tK K mg W F σ H fun vs H1 => vs.length = is.length ∧ Ed.nx (setAll σ is (vs.map some)) H1 := by
  obtain ⟨fx, own, ρ, C, o, R, e, kn, kr, kb, kc, kx⟩ := h
  refine ⟨fx, own, ρ, _, C.ex, o, R, e, fun us ρ1 vs H1 own1 s1 hd e1 => ?_, fun x ρ1 cls d H1 own1 s1 R1 rx e1 => kx x ρ1 cls d σ H1 own1 s1.s R1 rx e1⟩
  split at e1
  · rename_i hc
    rw [Bool.and_eq_true, Bool.and_eq_true] at hc
    have hl := of_decide_eq_true hc.2
    obtain ⟨own2, le2, R2⟩ := hd.2 is hl.symm hc.1.2 hc.1.1
    refine ⟨hd.1.symm.trans hl, kn _ _ _ own2 ⟨s1.keep, fun i a z => ?_, s1.al⟩ R2 e1⟩
    rcases le2 i a z with ⟨j, w⟩ | w
    · exact .inl ⟨j, s1.le j a w⟩
    · exact .inr w
  · cases e1
end
def RK (X : Cx) (W : WX) (es : List Expr) (F : DKs) : Prop := PA X es (tK X.K X.mg W F)
section
variable {X : Cx} {W : WX} {a b c : Expr} {es : List Expr} {A B : DE} {F : DKs} {pos : Pos}
theorem rk_nil : RK X W [] kNil := PA.imp pa_nil fun σ H Q h => keepNil_ok h
theorem rk_cons (ha : RE X W a A) (hr : RK X W es F) (hs : starEach (a :: es) X.env = (false, eval a X.env) :: starEach es X.env := by rfl) : RK X W (a :: es) (kCons A F) := PA.imp (pa_cons ha hr hs) fun σ H Q h => keepCons_ok h
theorem rs_par2 {i j : Nat} {x y : Str} {px py pt : Pos} {kt k2 pt2} (hc : X.calm = true) (hN : X.N.Nodup) (hab : RK X W [a, b] F) (hi : X.N[i]? = some x := by rfl) (hj : X.N[j]? = some y := by rfl) (hij : i ≠ j := by decide)
    (hx : X.env.scope.names.lookup x = some .local := by rfl) (hy : X.env.scope.names.lookup y = some .local := by rfl)
    (hw : swappedStores [.Tuple [.Name x px, .Name y py] kt pt] (.Tuple [a, b] k2 pt2) X.env = pure (some [x, y]) := by rfl)
    (hs : swapsWithSole [.Tuple [.Name x px, .Name y py] kt pt] (.Tuple [a, b] k2 pt2) pos.line X.env = pure false := by rfl) : RS X W (.Assign [.Tuple [.Name x px, .Name y py] kt pt] (.Tuple [a, b] k2 pt2) pos) (sPar [i, j] F) :=
  PS.imp (ps_par hc hN hi hj hij hx hy hab hw hs) fun Ed σ H h => by
    have q := par_ok h
    obtain ⟨fx, own, ρ, k, hx, o, R, e, kn, kx⟩ := q
    refine ⟨fx, own, ρ, k, hx, o, R, e, fun us ρ1 vs H1 own1 s1 hd e1 => ?_, kx⟩
    obtain ⟨h1, h2⟩ := kn us ρ1 vs H1 own1 s1 hd e1
    match vs, h1 with
    | [v, w], _ => exact ⟨v, w, rfl, h2⟩
theorem rs_par3 {i j l : Nat} {x y z : Str} {px py pz pt : Pos} {kt k2 pt2} (hc : X.calm = true) (hN : X.N.Nodup) (hab : RK X W [a, b, c] F) (hi : X.N[i]? = some x := by rfl) (hj : X.N[j]? = some y := by rfl) (hl : X.N[l]? = some z := by rfl) (hij : i ≠ j := by decide) (hil : i ≠ l := by decide) (hjl : j ≠ l := by decide)
    (hx : X.env.scope.names.lookup x = some .local := by rfl) (hy : X.env.scope.names.lookup y = some .local := by rfl) (hz : X.env.scope.names.lookup z = some .local := by rfl)
    (hw : swappedStores [.Tuple [.Name x px, .Name y py, .Name z pz] kt pt] (.Tuple [a, b, c] k2 pt2) X.env = pure (some [x, y, z]) := by rfl)
    (hs : swapsWithSole [.Tuple [.Name x px, .Name y py, .Name z pz] kt pt] (.Tuple [a, b, c] k2 pt2) pos.line X.env = pure false := by rfl) : RS X W (.Assign [.Tuple [.Name x px, .Name y py, .Name z pz] kt pt] (.Tuple [a, b, c] k2 pt2) pos) (sPar [i, j, l] F) :=
  PS.imp (ps_par3 hc hN hi hj hl hij hil hjl hx hy hz hab hw hs) fun Ed σ H h => by
    have q := par_ok h
    obtain ⟨fx, own, ρ, k, hx, o, R, e, kn, kx⟩ := q
    refine ⟨fx, own, ρ, k, hx, o, R, e, fun us ρ1 vs H1 own1 s1 hd e1 => ?_, kx⟩
    obtain ⟨h1, h2⟩ := kn us ρ1 vs H1 own1 s1 hd e1
    match vs, h1 with
    | [u, v, w], _ => exact ⟨u, v, w, rfl, h2⟩
end
end DL
set_option maxRecDepth 100000
set_option maxHeartbeats 1000000
/-! DN: stars, list(range), list(reversed), sorted. -/
namespace DL
open PySem PySem.Spec PyProof.Rows L2 StX
/-! ### plain -/
def aStar (e : DE) (as : DA) : DA := fun ρ k h => e ρ (fun x ρ1 => opt ((peek ρ1 x.w).bind itemsOf) fun is => as ρ1 (fun xs ρ2 => k (is.map RV.sh ++ xs) ρ2) h) h
def aStarR (f : List D → Option (List D)) (e as : DA) : DA := fun ρ k h => e ρ (fun xs ρ1 => opt (peeks ρ1 xs) fun ds => opt (f ds) fun is => as ρ1 (fun xs ρ2 => k (is.map RV.sh ++ xs) ρ2) h) h
def bound (f : List D → Option (List D)) (ds : List D) : Option (List D) := (f ds).bind fun is => if is.length ≤ sizeLim then some is else none
def listR (f : List D → Option (List D)) (ds : List D) : Option RV := (bound f ds).map fun is => .ow (.list is)
def listRevD : D → Option RV
  | .list xs => some (.ow (.list xs.reverse))
  | _ => none
def sortOk (xs : List D) : Bool := (xs.all fun a => xs.all fun b => W.alike a b) && (xs.all (fun d => match d with | .tuple (_ :: _) => true | _ => false) || xs.all fun d => match d with | .tuple _ => false | .none => false | _ => true) && xs.all SeqAt.shaped
def sortedD : List D → Option RV
  | [.list xs] => if sortOk xs && decide (xs.length ≤ sizeLim) then some (.ow (.list (xs.mergeSort (W.dataLe false id)))) else none
  | _ => none
section
variable {K : PySem.W.Frag} {mg : Str → Option Value} {W : WX} {fx : Fx} {own own' : Own} {σ : L2.St} {H H' : Hp} {ρ ρ' : Env} {Q : VK}
theorem UseL.append : ∀ {rs : List RV} {vs : List V} {ss : List RV} {us : List V}, UseL K fx own σ H rs vs → UseL K fx own σ H ss us → UseL K fx own σ H (rs ++ ss) (vs ++ us)
  | [], [], _, _, _, b => b
  | _ :: _, _ :: _, _, _, ⟨a, c⟩, b => ⟨a, UseL.append c b⟩
  | [], _ :: _, _, _, h, _ => h.elim
  | _ :: _, [], _, _, h, _ => h.elim
theorem RepL.use : ∀ {ds : List D} {vs : List V}, RepL K (OO fx own) H ds vs → UseL K fx own σ H (ds.map RV.sh) vs
  | _, _, .nil => trivial
  | _, _, .cons r n l => ⟨⟨r, n⟩, RepL.use l⟩
theorem items_rep {O : Addr → Prop} {d : D} {v : V} {is : List D} (r : RepT K O H d v) (e : itemsOf d = some is) : ∃ p xs, v = V.ref p ∧ (SqT K H p xs ∨ SqL K H p xs) ∧ RepL K O H is xs := by
  cases r with
  | lst a l => cases e; exact ⟨_, _, rfl, .inr (.inl a), l⟩
  | tup a l => cases e; exact ⟨_, _, rfl, .inl a, l⟩
  | _ => cases e
theorem star_ok {A : DE} {AS : DA} {Q : List V → Hp → Prop} (h : tA K mg W (aStar A AS) σ H Q) : tStar K (tE K mg W A) (tA K mg W AS) σ H Q := by
  obtain ⟨fx, own, ρ, k, hx, o, R, e, kn, kx⟩ := h
  refine ⟨fx, own, ρ, _, hx, o, R, e, fun r1 ρ1 v1 H1 own1 st1 val1 e1 => ?_, kx⟩
  obtain ⟨R1, u1⟩ := val1.use R.there
  obtain ⟨is, hi, e2⟩ := opt_some e1
  obtain ⟨d, hd, hi⟩ := Option.bind_eq_some_iff.mp hi
  obtain ⟨p, xs, rfl, hs, l⟩ := items_rep (u1.peek R1 hd) hi
  refine ⟨p, xs, rfl, hs, fx, own1, ρ1, _, hx, o, R1, e2, fun rs ρ2 vs H2 own2 st2 R2 us e3 => ?_, fun x ρ2 cls d H2 own2 st2 R2 rx e2 => kx x ρ2 cls d H2 own2 (st1.trans st2) R2 rx e2⟩
  exact kn _ ρ2 (xs ++ vs) H2 own2 (st1.trans st2) R2 (((RepL.use l).step R1 st2).append us) e3
theorem rg_rep {O : Addr → Prop} (i j : Int) : RepL K O H (rangeD i j) (rgV i j) := by
  unfold rangeD rgV
  generalize List.range (j - i).toNat = l
  induction l with
  | nil => exact .nil
  | cons a l ih => exact .cons (.int _) (fun m => nomatch m) ih
theorem rg_len (i j : Int) : (rangeD i j).length = (j - i).toNat := by unfold rangeD; rw [List.length_map, List.length_range]
def tStarR (te : L2.St → Hp → (Int → Int → Hp → Prop) → Prop) (t : TA) : TA := fun σ H Q => te σ H fun a b H1 => RgOk a b ∧ t σ H1 fun ys H2 => Q (rgV a b ++ ys) H2
theorem pa_starR {X : Cx} {e : Expr} {es : List Expr} {te : L2.St → Hp → (Int → Int → Hp → Prop) → Prop} {t : TA} {p : Pos} (hc : X.calm = true) (he : PRg X e te) (hr : PA X es t) (hs : starEach (.Starred e p :: es) X.env = (true, eval e X.env) :: starEach es X.env := by rfl) : PA X (.Starred e p :: es) (tStarR te t) := by
  refine ⟨fun pos pins s σ H Q I h => ?_⟩
  refine PySem.W.items_star (thn (he pins s σ H _ I h) fun x s1 ⟨r, a, b, t1, u1, v1, H1, ex, hr1, I1, ok, q⟩ => ?_) hs
  subst ex
  obtain ⟨b1, b2, b3, b4, b5⟩ := ok
  have tys : s1.TypeIs (.ref r) "range" := ⟨_, hr1, rfl⟩
  unfold PySem.W.StarOf notIterableAtAll
  refine wpAny_bind (wpAny_specialOf tys PySem.F.slot_range_iter.lookup (wpAny_pure ⟨rfl, ?_⟩))
  refine collect_range (I1.ok.hd hc) hr1 (small_one b1 b2 b3 b4) (rangeSize_nat a b) b5 fun h' tk acc hk hi => ?_
  exact thn (hr.run pos pins _ σ H1 _ (I1.kept (t' := tk) hk) q) fun ws s3 ⟨vs, H3, I3, r3, q3⟩ => ⟨rgV a b ++ vs, H3, I3, (vals_rg hi).append r3, q3⟩
theorem in_ok {i j : Int} (h1 : in62 i = true) (h2 : in62 j = true) (h3 : (rangeD i j).length ≤ sizeLim) : RgOk i j := by
  obtain ⟨a1, a2⟩ := in62_of h1
  obtain ⟨a3, a4⟩ := in62_of h2
  rw [rg_len] at h3
  exact ⟨a1, a2, a3, a4, h3⟩
theorem bound_some {f : List D → Option (List D)} {ds is : List D} (h : bound f ds = some is) : f ds = some is ∧ is.length ≤ sizeLim := by
  obtain ⟨js, h1, h2⟩ := Option.bind_eq_some_iff.mp h
  obtain ⟨h3, rfl⟩ := some_if h2
  exact ⟨h1, h3⟩
/-- one bound; two -/
theorem rg1_ok {A : DE} {k : List D → Env → Res} {hx : KX} {o : Out} {Q : Int → Int → Hp → Prop} (R : Rp K fx own σ H ρ) (e : aCons A aNil ρ (fun xs ρ1 => opt (peeks ρ1 xs) fun ds => opt (bound ranged1 ds) fun is => k is ρ1) hx = some o)
    (kn : ∀ i j ρ' H' own', StepE H own H' own' → Rp K fx own' σ H' ρ' → RgOk i j → k (rangeD i j) ρ' = some o → Q i j H') (kx : ∀ x ρ' cls d H' own', StepE H own H' own' → Rp K fx own' σ H' ρ' → RepX K mg x cls d H' → hx x ρ' = some o → W cls d σ H') :
    tRg1 (tE K mg W A) σ H Q := by
  refine ⟨fx, own, ρ, _, hx, o, R, e, fun r1 ρ1 v1 H1 own1 st1 val1 e1 => ?_, kx⟩
  obtain ⟨R1, u1⟩ := val1.use R.there
  have e1 : opt (peeks ρ1 [r1.w]) (fun ds => opt (bound ranged1 ds) fun is => k is ρ1) = some o := e1
  obtain ⟨ds, hd, e2⟩ := opt_some e1
  obtain ⟨is, hi, e3⟩ := opt_some e2
  obtain ⟨hj, hl⟩ := bound_some hi
  clear hi
  have us : UseL K fx own1 σ H1 [r1.w] [v1] := ⟨u1, trivial⟩
  have rs := us.peeks R1 hd
  unfold ranged1 at hj
  split at hj
  · rename_i j
    obtain ⟨hb, rfl⟩ := some_if hj
    obtain ⟨v, ev, rj⟩ := reps1 rs
    cases ev
    cases rj
    exact ⟨j, rfl, kn 0 j ρ1 H1 own1 st1 R1 (in_ok (by decide) hb hl) e3⟩
  · cases hj
theorem rg2_ok {A B : DE} {k : List D → Env → Res} {hx : KX} {o : Out} {Q : Int → Int → Hp → Prop} (R : Rp K fx own σ H ρ) (e : aCons A (aCons B aNil) ρ (fun xs ρ1 => opt (peeks ρ1 xs) fun ds => opt (bound ranged2 ds) fun is => k is ρ1) hx = some o)
    (kn : ∀ i j ρ' H' own', StepE H own H' own' → Rp K fx own' σ H' ρ' → RgOk i j → k (rangeD i j) ρ' = some o → Q i j H') (kx : ∀ x ρ' cls d H' own', StepE H own H' own' → Rp K fx own' σ H' ρ' → RepX K mg x cls d H' → hx x ρ' = some o → W cls d σ H') :
    tRg2 (tE K mg W A) (tE K mg W B) σ H Q := by
  refine ⟨fx, own, ρ, _, hx, o, R, e, fun r1 ρ1 v1 H1 own1 st1 val1 e1 => ?_, kx⟩
  obtain ⟨R1, u1⟩ := val1.use R.there
  refine ⟨fx, own1, ρ1, _, hx, o, R1, e1, fun r2 ρ2 v2 H2 own2 st2 val2 e2 => ?_, fun x ρ2 cls d H2 own2 st2 R2 rx e2 => kx x ρ2 cls d H2 own2 (st1.trans st2) R2 rx e2⟩
  obtain ⟨R2, u2⟩ := val2.use R1.there
  have e2 : opt (peeks ρ2 [r1.w, r2.w]) (fun ds => opt (bound ranged2 ds) fun is => k is ρ2) = some o := e2
  obtain ⟨ds, hd, e3⟩ := opt_some e2
  obtain ⟨is, hi, e4⟩ := opt_some e3
  obtain ⟨hj, hl⟩ := bound_some hi
  clear hi
  have us : UseL K fx own2 σ H2 [r1.w, r2.w] [v1, v2] := ⟨u1.step R1 st2, u2, trivial⟩
  have rs := us.peeks R2 hd
  unfold ranged2 at hj
  split at hj
  · rename_i i j
    obtain ⟨hb, rfl⟩ := some_if hj
    rw [Bool.and_eq_true] at hb
    obtain ⟨v, u, ev, ri, rj⟩ := reps2 rs
    cases ev
    cases ri
    cases rj
    exact ⟨i, j, rfl, rfl, kn i j ρ2 H2 own2 (st1.trans st2) R2 (in_ok hb.1 hb.2 hl) e4⟩
  · cases hj
end
section
variable {X : Cx} {W : WX} {a b e : Expr} {es : List Expr} {A B : DE} {AS : DA} {pos p p2 sp : Pos}
theorem ra_star (he : RE X W e A) (hr : RA X W es AS) (hs : starEach (.Starred e p :: es) X.env = (true, eval e X.env) :: starEach es X.env := by rfl) : RA X W (.Starred e p :: es) (aStar A AS) :=
  PA.imp (pa_star he hr hs) fun σ H Q h => star_ok h
theorem ra_starR1 (hc : X.calm = true) (hg : Gl X "range") (hm : X.mg "range" = none) (ha : RE X W a A) (hr : RA X W es AS) (na : starEach [a] X.env = (false, eval a X.env) :: starEach [] X.env := by rfl)
    (hs : starEach (.Starred (.Call (.Name "range" p2) [a] [] pos) p :: es) X.env = (true, eval (.Call (.Name "range" p2) [a] [] pos) X.env) :: starEach es X.env := by rfl) : RA X W (.Starred (.Call (.Name "range" p2) [a] [] pos) p :: es) (aStarR (bound ranged1) (aCons A aNil) AS) :=
  PA.imp (pa_starR hc (prg_1 hg hm ha na) hr hs) fun σ H Q ⟨fx, own, ρ, k, hx, o, R, e, kn, kx⟩ => rg1_ok R e (fun i j ρ1 H1 own1 st1 R1 ok e1 => ⟨ok, fx, own1, ρ1, _, hx, o, R1, e1, fun rs ρ2 vs H2 own2 st2 R2 us e2 =>
    kn _ ρ2 (rgV i j ++ vs) H2 own2 (st1.trans st2) R2 (((RepL.use (rg_rep i j)).step R1 st2).append us) e2, fun x ρ2 cls d H2 own2 st2 R2 rx e2 => kx x ρ2 cls d H2 own2 (st1.trans st2) R2 rx e2⟩) kx
theorem ra_starR2 (hc : X.calm = true) (hg : Gl X "range") (hm : X.mg "range" = none) (ha : RE X W a A) (hb : RE X W b B) (hr : RA X W es AS) (na : starEach [a, b] X.env = (false, eval a X.env) :: starEach [b] X.env := by rfl) (nb : starEach [b] X.env = (false, eval b X.env) :: starEach [] X.env := by rfl)
    (hs : starEach (.Starred (.Call (.Name "range" p2) [a, b] [] pos) p :: es) X.env = (true, eval (.Call (.Name "range" p2) [a, b] [] pos) X.env) :: starEach es X.env := by rfl) (hp : (backTo pos (starEach [b] X.env)).any (·.1) = false := by rfl) : RA X W (.Starred (.Call (.Name "range" p2) [a, b] [] pos) p :: es) (aStarR (bound ranged2) (aCons A (aCons B aNil)) AS) :=
  PA.imp (pa_starR hc (prg_2 hg hm ha hb na nb hp) hr hs) fun σ H Q ⟨fx, own, ρ, k, hx, o, R, e, kn, kx⟩ => rg2_ok R e (fun i j ρ1 H1 own1 st1 R1 ok e1 => ⟨ok, fx, own1, ρ1, _, hx, o, R1, e1, fun rs ρ2 vs H2 own2 st2 R2 us e2 =>
    kn _ ρ2 (rgV i j ++ vs) H2 own2 (st1.trans st2) R2 (((RepL.use (rg_rep i j)).step R1 st2).append us) e2, fun x ρ2 cls d H2 own2 st2 R2 rx e2 => kx x ρ2 cls d H2 own2 (st1.trans st2) R2 rx e2⟩) kx
/-- list(range(..)) -/
def eListR (f : List D → Option (List D)) (as : DA) : DE := fun ρ k h => as ρ (fun xs ρ1 => opt (peeks ρ1 xs) fun ds => opt (f ds) fun is => k (.ow (.list is)) ρ1) h
theorem new_range {K : PySem.W.Frag} {fx : Fx} {own : Own} {σ : L2.St} {H1 : Hp} {ρ1 : Env} (R1 : Rp K fx own σ H1 ρ1) (i j : Int) {q : Addr} (hq : H1 q = none) : ValR K fx own σ H1 (upd H1 q (.lst (rgV i j))) ρ1 (.ow (.list (rangeD i j))) (.ref q) := by
  obtain ⟨s, nv⟩ := new_list R1.ho (rg_rep i j) hq
  exact nv.val R1 s
theorem re_listR1 (hc : X.calm = true) (hgl : Gl X "list") (hml : X.mg "list" = none) (hg : Gl X "range") (hm : X.mg "range" = none) (ha : RE X W a A) (na : starEach [a] X.env = (false, eval a X.env) :: starEach [] X.env := by rfl)
    (hs : starEach [.Call (.Name "range" p2) [a] [] sp] X.env = (false, eval (.Call (.Name "range" p2) [a] [] sp) X.env) :: starEach [] X.env := by rfl) : RE X W (.Call (.Name "list" p) [.Call (.Name "range" p2) [a] [] sp] [] pos) (eListR (bound ranged1) (aCons A aNil)) :=
  PE.imp (pe_listRg hc hgl hml (prg_1 hg hm ha na) hs) fun σ H Q ⟨fx, own, ρ, k, hx, o, R, e, kn, kx⟩ => rg1_ok R e (fun i j ρ1 H1 own1 st1 R1 ok e1 => ⟨ok, fun q hq => by
    obtain ⟨s, nv⟩ := new_list R1.ho (rg_rep i j) hq
    exact kn _ ρ1 _ _ own1 (st1.trans (.of_same s)) ((nv.val R1 s).from st1.al) e1⟩) kx
theorem re_listR2 (hc : X.calm = true) (hgl : Gl X "list") (hml : X.mg "list" = none) (hg : Gl X "range") (hm : X.mg "range" = none) (ha : RE X W a A) (hb : RE X W b B) (na : starEach [a, b] X.env = (false, eval a X.env) :: starEach [b] X.env := by rfl) (nb : starEach [b] X.env = (false, eval b X.env) :: starEach [] X.env := by rfl)
    (hs : starEach [.Call (.Name "range" p2) [a, b] [] sp] X.env = (false, eval (.Call (.Name "range" p2) [a, b] [] sp) X.env) :: starEach [] X.env := by rfl) (hp : (backTo sp (starEach [b] X.env)).any (·.1) = false := by rfl) : RE X W (.Call (.Name "list" p) [.Call (.Name "range" p2) [a, b] [] sp] [] pos) (eListR (bound ranged2) (aCons A (aCons B aNil))) :=
  PE.imp (pe_listRg hc hgl hml (prg_2 hg hm ha hb na nb hp) hs) fun σ H Q ⟨fx, own, ρ, k, hx, o, R, e, kn, kx⟩ => rg2_ok R e (fun i j ρ1 H1 own1 st1 R1 ok e1 => ⟨ok, fun q hq => by
    obtain ⟨s, nv⟩ := new_list R1.ho (rg_rep i j) hq
    exact kn _ ρ1 _ _ own1 (st1.trans (.of_same s)) ((nv.val R1 s).from st1.al) e1⟩) kx
end
/-! ### sorted -/
def rSortedG (K : PySem.W.Frag) (u : Nat) : List V → Hp → VK → Prop := fun xs H Q => ∃ a vs ds, xs = [V.ref a] ∧ SqL K H a vs ∧ DpAll K H vs ds ∧ PySem.W.AllAlike ds ∧ PySem.W.Sortable ds ∧ ds.length = vs.length ∧ ds.length ≤ sizeLine ∧ (∀ d ∈ ds, d.depth ≤ 64) ∧
  ∀ p, H p = none → Q (.ref p) (upd H p (.lst (((ds.zip vs).mergeSort (PySem.W.dataLe false Prod.fst)).map (·.2))))
theorem each_of {K : PySem.W.Frag} {X : Cx} {pins : List (Addr × Obj)} {σ : L2.St} {H : Hp} {s : Shared} (I : Inv X pins σ H s) : ∀ {vs : List V} {ds : List D} {us : List Value}, DpAll X.K H vs ds → Vals vs us → PySem.W.EachIs (fun u (b : D × V) => RelV b.2 u) us (ds.zip vs) ∧ PySem.W.EachIs (fun u (b : D × V) => ∃ as, Reads s.heap u b.1 as) us (ds.zip vs)
  | _, _, _, .nil, r => by cases r; exact ⟨.nil, .nil⟩
  | _, _, _, .cons h l, r => by
    cases r with
    | cons r rr =>
      obtain ⟨h1, h2⟩ := each_of (K := K) I l rr
      exact ⟨.cons r h1, .cons (Dp.reads I _ _ _ h r) h2⟩
theorem vals_each : ∀ {us : List Value} {bs : List (D × V)}, PySem.W.EachIs (fun u (b : D × V) => RelV b.2 u) us bs → Vals (bs.map (·.2)) us
  | _, _, .nil => .nil
  | _, _, .cons h t => .cons h (vals_each t)
theorem cr_sortedG {X : Cx} (hu : X.A.units + 66 < cLine) : CallR X (.builtin "sorted") (rSortedG X.K 0) := by
  intro pins s σ H vs us Q I r h
  obtain ⟨a, ws, ds, rfl, hs, dp, al, so, hl, hz, hd, q⟩ := h
  obtain ⟨its, rv, li, _⟩ := I.list hs
  rw [Vals.ref1 r]
  obtain ⟨e1, e2⟩ := each_of (K := X.K) I dp rv
  have hm : (ds.zip ws).map Prod.fst = ds := List.map_fst_zip (by omega)
  have hlen : (ds.zip ws).length = ds.length := by rw [List.length_zip, hl, Nat.min_self]
  refine PySem.W.sorted_data (enc := Prod.fst) (R := fun u (b : D × V) => RelV b.2 u) li.isList e1 e2 (by rw [hm]; exact al) (by rw [hm]; exact so) (by rw [hlen]; exact hz) (fun b hb => ?_) fun out h1 h2 => ?_
  · have := hd b.1 (by rw [← hm]; exact List.mem_map_of_mem hb)
    show X.A.units + 2 + b.1.depth < cLine
    omega
  · obtain ⟨ep, he'⟩ := PyProof.Rows.sortedAll_at s.heap its (List.toArray out)
    have vo := vals_each h2
    have hol : out.length ≤ sizeLine := by rw [h1, hlen]; exact hz
    exact ⟨.ref _, upd H (s.heap.objs.size + 1) (.lst _), I.laid (t' := s.toks) (fun _ _ => PyProof.Rows.sortedAll_old) (Nat.le_succ _) ⟨by rw [vo.length]; exact hol, out, ep, vo, he'⟩, rfl, q _ (I.hok.fresh (Nat.le_succ _))⟩
theorem zip_rep {K : PySem.W.Frag} {O : Addr → Prop} {H : Hp} : ∀ {ds : List D} {vs : List V}, RepL K O H ds vs → ∀ b ∈ ds.zip vs, Rep K O H b.1 b.2
  | _, _, .nil, b, h => nomatch h
  | _, _, .cons r n l, b, h => by
    rcases List.mem_cons.mp h with rfl | h
    · exact ⟨r, n⟩
    · exact zip_rep l b h
theorem rep_map {K : PySem.W.Frag} {O : Addr → Prop} {H : Hp} : ∀ {bs : List (D × V)}, (∀ b ∈ bs, Rep K O H b.1 b.2) → RepL K O H (bs.map (·.1)) (bs.map (·.2))
  | [], _ => .nil
  | b :: bs, h => .cons (h b List.mem_cons_self).1 (h b List.mem_cons_self).2 (rep_map fun c hc => h c (List.mem_cons_of_mem _ hc))
theorem sortOk_of {xs : List D} (h : sortOk xs = true) : PySem.W.AllAlike xs ∧ PySem.W.Sortable xs ∧ ∀ d ∈ xs, SeqAt.shaped d = true := by
  unfold sortOk at h
  rw [Bool.and_eq_true, Bool.and_eq_true, Bool.or_eq_true] at h
  obtain ⟨⟨h1, h2⟩, h3⟩ := h
  refine ⟨fun d hd d' hd' => List.all_eq_true.mp (List.all_eq_true.mp h1 d hd) d' hd', ?_, fun d hd => List.all_eq_true.mp h3 d hd⟩
  rcases h2 with h2 | h2
  · refine .inl fun d hd => ?_
    have := List.all_eq_true.mp h2 d hd
    split at this
    · exact ⟨_, _, rfl⟩
    · cases this
  · refine .inr fun d hd => ?_
    have := List.all_eq_true.mp h2 d hd
    split at this
    · cases this
    · cases this
    · rename_i n1 n2
      exact ⟨fun z => n2 z, fun ys z => n1 ys z⟩
theorem sortedD_ok {K : PySem.W.Frag} : FnOk' K (rSortedG K 0) sortedD := by
  refine .one (fun ds r e => ?_) fun O H d v r Q hO rv e k => ?_
  · unfold sortedD at e
    split at e <;> first | exact ⟨_, rfl⟩ | cases e
  · cases rv with
    | lst a l =>
      rename_i a1 vs ds
      obtain ⟨hc, rfl⟩ := some_if (show (if _ then _ else _) = some r from e)
      rw [Bool.and_eq_true] at hc
      obtain ⟨al, so, sh⟩ := sortOk_of hc.1
      have hz := of_decide_eq_true hc.2
      have hl := l.length
      refine ⟨_, vs, ds, rfl, .inl a, l.dp (canAll fun d hd => shaped_lay (sh d hd)), al, so, hl, by rw [← sizeLim_eq]; exact hz, fun d hd => shaped_depth (sh d hd), fun p hp => ?_⟩
      have hm : ds.mergeSort (PySem.W.dataLe false id) = ((ds.zip vs).mergeSort (PySem.W.dataLe false Prod.fst)).map (·.1) := by
        have q := List.map_mergeSort (r := PySem.W.dataLe false Prod.fst) (s := PySem.W.dataLe false id) (f := Prod.fst) (l := ds.zip vs) fun _ _ _ _ => rfl
        rw [List.map_fst_zip (by omega)] at q
        exact q.symm
      have hr : RepL K O H (ds.mergeSort (PySem.W.dataLe false id)) (((ds.zip vs).mergeSort (PySem.W.dataLe false Prod.fst)).map (·.2)) := by
        rw [hm]
        exact rep_map fun b hb => zip_rep l b ((List.mergeSort_perm _ _).mem_iff.mp hb)
      obtain ⟨s, nv⟩ := new_list hO hr hp
      exact k _ _ s nv
    | _ => cases e
where canAll : ∀ {xs : List D}, (∀ d ∈ xs, d.canLay0 = true) → PyData.canLayAll0 xs = true
  | [], _ => by simp [PyData.canLayAll0]
  | x :: xs, h => by
    rw [PyData.canLayAll0, h x List.mem_cons_self, canAll fun d hd => h d (List.mem_cons_of_mem _ hd)]; rfl
end DL
set_option maxRecDepth 100000
set_option maxHeartbeats 1000000
/-! DH: list(reversed(xs)), list(zip(xs, ys)). -/
namespace DL
open PySem PySem.Spec PyProof.Rows L2 StX RT
section
variable {prog : Program} {w : World} {A : Around} {E : Value → Shared → Prop} {s : Shared} {R : Result → Shared → Prop}
theorem extendRev {it l : Addr} {its : Array Value} (hh : A.handled = none) (hi : s.heap.IsRevIter it l ((its.size : Int) - 1)) (hl : s.heap.IsList l its) (hne : l ≠ it) (hn : its.size ≤ sizeLine)
    (S : Addr) (res : Value) (c0 : Nat) (hS : s.heap.get? S = some { cls := .type "list", data := .seq #[] c0 }) (hSi : S ≠ it) (hSl : S ≠ l)
    (hR : ∀ h1 tk ac c1, (∀ b o, b ≠ S → b ≠ it → s.heap.get? b = some o → h1.get? b = some o) → h1.get? S = some { cls := .type "list", dict := none, data := .seq ac c1, slots := #[] } → ItemsOf (fun i v => its[its.size - 1 - i]? = some v) ac its.size → R (.ok (.ret res)) { s with heap := h1, toks := tk }) :
    wpAny (model prog w) A.in1 (Builtin.List.listExtendWith (.ref S) (.ref it) res) (fun fin s' => match fin with
      | .done f => R (.ok f) s'
      | .again c' => c'.quiet = true ∧ codeAny (model prog w) A c' R s') (fun e s' => R (.error e) s') s := by
  have W2 := (Walks.listRev (prog := prog) (w := w) (A := A.in1) hh it l hne its).toS
  have hT := Heap.IsRevIter.typeIs (s := s) hi
  have same : Builtin.List.listSameRef (.ref S) (.ref it) = false := by simp [Builtin.List.listSameRef, hSi]
  unfold Builtin.List.listExtendWith
  refine wpAny_bind (wpAny_typeOf hT ?_)
  rw [if_neg (by rw [same]; decide)]
  refine wpAny_bind (wpAny_pyIter_revIter hi (wpAny_bind (wpAny_holding ?_)))
  unfold Builtin.List.listLengthHint
  refine wpAny_bind (wpAny_specialOf hT nolen_lri ?_)
  show wpAny _ A.in1 (specialOf (Value.ref it) (Str.ofString "__length_hint__") >>= _) _ _ _
  refine wpAny_bind (wpAny_specialOf hT hint_lri ?_)
  generalize hk : ("list_reverseiterator.__length_hint__" : String) = k0
  wp_delta
  rw [show splitId k0 = some ("list_reverseiterator", "__length_hint__") from by subst hk; decide +kernel]
  subst hk
  refine wpAny_bind (wpAny_isInstance (b := true) hT (by rw [isSubtype_type]; kernel_rfl) (wpAny_pure ?_))
  rw [if_neg (by decide)]
  have z0 : ((its.size : Nat) : Int) - 1 - ((0 : Nat) : Int) = (its.size : Int) - 1 := by omega
  refine wpAny_pure ⟨plainId_quiet F.plain_extend_loop _, codeAny_extend_loopS W2 hn S (by simp [hSi, hSl]) res its.size 0 _ _ _ rfl (Nat.zero_le _) ⟨Nat.zero_le _, by rw [z0]; exact hi, hl⟩ hS (ItemsOf.nil _) fun s1 ac c1 hm hS1 hac => ?_⟩
  rw [Moved.eq_with hm]
  refine hR s1.heap s1.toks ac c1 (fun b o b1 b2 e => hm.heap b o (fun z => ?_) e) hS1 hac
  rcases List.mem_cons.mp z with z | z
  · exact b1 z
  · exact b2 (List.mem_singleton.mp z)
/-- list.__init__ by what extends -/
theorem listInit {x : Value} {S : Addr} (hS : s.heap.get? S = some { cls := .type "list", data := .seq #[] })
    (h : ∀ h1 c0, (∀ b o, b ≠ S → s.heap.get? b = some o → h1.get? b = some o) → h1.get? S = some { cls := .type "list", data := .seq #[] c0 } → wpAny (model prog w) A.in1 (Builtin.List.listExtendWith (.ref S) x .none) (fun fin s' => match fin with
      | .done f => R (.ok f) s'
      | .again c' => c'.quiet = true ∧ codeAny (model prog w) A c' R s') (fun e s' => R (.error e) s') { s with heap := h1 }) :
    wpAny (model prog w) A.in1 (Builtin.«list.__init__» ⟨[.ref S, x], []⟩) (fun fin s' => match fin with
      | .done f => R (.ok f) s'
      | .again c' => c'.quiet = true ∧ codeAny (model prog w) A c' R s') (fun e s' => R (.error e) s') s := by
  show wpAny _ _ (Builtin.List.listItems (.ref S) >>= fun old => Builtin.List.listUpdate (.ref S) (fun _ => #[]) >>= fun _ => letGo old.toList.reverse >>= fun _ => Builtin.List.listExtendWith (.ref S) x .none) _ _ s
  refine wpAny_bind ?_
  unfold Builtin.List.listItems
  refine wpAny_bind (wpAny_seqItems hS rfl (wpAny_pure ?_))
  show wpAny _ _ (updateSeq S (fun _ => #[]) >>= fun _ => letGo (#[] : Array Value).toList.reverse >>= fun _ => Builtin.List.listExtendWith (.ref S) x .none) _ _ s
  refine wpAny_bind (wpAny_updateSeq hS rfl (wpAny_bind (wpAny_letGo ?_)))
  exact h _ _ (fun b o hb e => (Heap.get?_update_other _ _ (Ne.symm hb)).trans e) (Heap.get?_update_self (Obj.mapSeq fun _ => (#[] : Array Value)) hS rfl)
/-- list(x) by what extends -/
theorem callList {x : Value} {Q : Value → Shared → Prop}
    (h : ∀ (R : Result → Shared → Prop) h1 c0, (∀ b o, s.heap.get? b = some o → h1.get? b = some o) → h1.get? s.heap.objs.size = some { cls := .type "list", data := .seq #[] c0 } → (∀ s', Q (.ref s.heap.objs.size) s' → R (.ok (.ret .none)) s') →
      wpAny (model prog w) A.in1.in1 (Builtin.List.listExtendWith (.ref s.heap.objs.size) x .none) (fun fin s' => match fin with
      | .done f => R (.ok f) s'
      | .again c' => c'.quiet = true ∧ codeAny (model prog w) A.in1 c' R s') (fun e s' => R (.error e) s') { s with heap := h1 }) :
    wpAny (model prog w) A (call (.type "list") [x]) Q E s := by
  refine callType_codes (Q₁ := fun ob s1 => ob = .ref s.heap.objs.size ∧ s1 = { s with heap := s.heap.push { cls := .type "list", data := .seq #[] } }) F.called_list (F.typeCall_list_1 _) F.entry_list_init (code_list_new _ ⟨rfl, rfl⟩) fun ob s1 h1 => ?_
  obtain ⟨rfl, rfl⟩ := h1
  have hS : (s.heap.push { cls := .type "list", data := .seq #[] }).get? s.heap.objs.size = some { cls := .type "list", data := .seq #[] } := Heap.get?_push_size _ rfl
  refine ⟨⟨_, hS, rfl⟩, F.args_list_init_2 _ _, listInit (A := A.in1) hS fun h1 c0 kp e1 => h _ h1 c0 (fun b o e => kp b o (Nat.ne_of_lt (Heap.lt_size e)) (Heap.get?_push_of_some _ e)) e1 fun s' q => ⟨rfl, q⟩⟩
end
def rListRev (K : PySem.W.Frag) (v : V) (H : Hp) (Q : VK) : Prop := ∃ a xs, v = .ref a ∧ SqL K H a xs ∧ ∀ q, H q = none → Q (.ref q) (upd H q (.lst xs.reverse))
section
variable {X : Cx} {W : WX} {e : Expr} {te : TE} {A : DE} {p p2 pos pos2 : Pos}
theorem pe_listRev (hc : X.calm = true) (hg : Gl X "list") (hm : X.mg "list" = none) (hg2 : Gl X "reversed") (hm2 : X.mg "reversed" = none) (he : PE X e te) (hs : starEach [e] X.env = (false, eval e X.env) :: starEach [] X.env := by rfl)
    (hs2 : starEach [.Call (.Name "reversed" p2) [e] [] pos2] X.env = (false, eval (.Call (.Name "reversed" p2) [e] [] pos2) X.env) :: starEach [] X.env := by rfl) :
    PE X (.Call (.Name "list" p) [.Call (.Name "reversed" p2) [e] [] pos2] [] pos) (fun σ H Q => te σ H fun v H1 => rListRev X.K v H1 Q) := by
  refine ⟨fun pins s σ H Q I h => ?_⟩
  refine Call_ (ld_blt I hg hm boot_list (PyProof.Rows.callWith_type1 (args_cons (Call_ (ld_blt I hg2 hm2 PyProof.Rows.boot_reversed (PyProof.Rows.callWith_type1 (args_cons (thn (he.run pins s σ H _ I h) fun u s1 ⟨v, H1, I1, r1, q1⟩ => args_nil ?_) hs) hs rfl))) hs2) hs2 rfl))
  obtain ⟨a, xs, rfl, hq, q⟩ := q1
  obtain rfl : u = Value.ref a := r1
  obtain ⟨its, rv, p', hz⟩ := I1.list hq
  refine call_reversed_list p'.isList (args_nil ?_)
  have hl := p'.isList
  obtain ⟨ol, hol, _⟩ := id hl
  have sz : its.toArray.size ≤ sizeLine := by rw [List.size_toArray, ← rv.length]; exact hz
  let hp := s1.heap.push (revObj a ((its.toArray.size : Int) - 1))
  have k0 : ∀ b o, s1.heap.get? b = some o → hp.get? b = some o := fun b o z => Heap.get?_push_of_some _ z
  have I2 : Inv X pins σ H1 { s1 with heap := hp } := I1.kept (t' := s1.toks) k0
  have hne : a ≠ s1.heap.objs.size := Nat.ne_of_lt (Heap.lt_size hol)
  have hps : hp.objs.size = s1.heap.objs.size + 1 := Heap.size_push ..
  obtain ⟨f0, f1, f2, f3, f4, f5⟩ := I1.fpOk (H' := H1) (b := s1.heap.objs.size) (Nat.le_refl _) (I1.hok.fresh (Nat.le_refl _))
  have hit : hp.IsRevIter s1.heap.objs.size a ((its.toArray.size : Int) - 1) := ⟨_, Heap.get?_push_size _ rfl, rfl, rfl⟩
  refine callList (s := { s1 with heap := hp }) fun R h1 c0 kp e1 fin => ?_
  refine extendRev (s := { s1 with heap := h1 }) (A := X.A.in1) (I1.ok.hd hc) (hit.at fun o z => kp _ o z) (hl.at fun o z => kp _ o (k0 _ o z)) hne sz hp.objs.size .none c0 e1 (by rw [hps]; exact Nat.succ_ne_self _) (fun z => ?_) fun h2 tk ac c1 k2 e2 hac => fin _ ?_
  · have := Heap.lt_size hol
    have : a < hp.objs.size := by rw [hps]; exact Nat.lt_succ_of_lt this
    rw [z] at this
    exact Nat.lt_irrefl _ this
  · have old : ∀ b o, s1.heap.get? b = some o → h2.get? b = some o := fun b o z => by
      have lt := Heap.lt_size z
      exact k2 b o (Nat.ne_of_lt (by rw [hps]; exact Nat.lt_succ_of_lt lt)) (Nat.ne_of_lt lt) (kp b o (k0 b o z))
    have vr : Vals xs.reverse ac.toList := vals_rev rv hac
    have le : s1.heap.objs.size ≤ hp.objs.size := by rw [hps]; exact Nat.le_succ _
    exact ⟨.ref hp.objs.size, upd H1 hp.objs.size (.lst xs.reverse), I1.laid (t' := tk) old le (show ObjOk X.prog X.w _ _ _ (.lst xs.reverse) from ⟨by rw [List.length_reverse]; exact hz, ac.toList, c1, vr, by rw [Array.toArray_toList]; exact e2⟩), rfl, q _ (I1.hok.fresh le)⟩
theorem re_listRev (hc : X.calm = true) (hg : Gl X "list") (hm : X.mg "list" = none) (hg2 : Gl X "reversed") (hm2 : X.mg "reversed" = none) (he : RE X W e A) (hs : starEach [e] X.env = (false, eval e X.env) :: starEach [] X.env := by rfl)
    (hs2 : starEach [.Call (.Name "reversed" p2) [e] [] pos2] X.env = (false, eval (.Call (.Name "reversed" p2) [e] [] pos2) X.env) :: starEach [] X.env := by rfl) :
    RE X W (.Call (.Name "list" p) [.Call (.Name "reversed" p2) [e] [] pos2] [] pos) (eUn listRevD A) :=
  PE.imp (pe_listRev hc hg hm hg2 hm2 he hs hs2) fun σ H Q h => tE_un (rr := rListRev X.K) (f := listRevD) (fun O H d v r Q hO rv ev k => by
    unfold listRevD at ev
    split at ev
    · cases ev
      cases rv with
      | lst a l =>
        refine ⟨_, _, rfl, .inl a, fun q hq => ?_⟩
        obtain ⟨s, nv⟩ := new_list hO (repl_rev l) hq
        exact k _ _ s nv
    · cases ev) h
where repl_rev {K : PySem.W.Frag} {O : Addr → Prop} {H : Hp} : ∀ {ds : List D} {vs : List V}, RepL K O H ds vs → RepL K O H ds.reverse vs.reverse
  | _, _, .nil => .nil
  | _, _, .cons r n l => by
    rw [List.reverse_cons, List.reverse_cons]
    exact (repl_rev l).append (.cons r n .nil)
end
end DL
set_option maxRecDepth 100000
set_option maxHeartbeats 1000000
/-! DI: list(zip(xs, ys)). -/
namespace DL
open PySem PySem.Spec PyProof.Rows L2 StX RT
theorem zip_nolen : typeLookup (.type "zip") "__len__" = pure none := by rw [typeLookup_type, builtinLookup_eq_fast]; kernel_rfl
theorem zip_nohint : typeLookup (.type "zip") "__length_hint__" = pure none := by rw [typeLookup_type, builtinLookup_eq_fast]; kernel_rfl
/-- the pairs that were drawn -/
def Drawn (h : Heap) (N : Addr) (xs ys : Array Value) (ac : Array Value) (i : Nat) : Prop := ac.size = i ∧ (∀ (j : Nat) v, ac[j]? = some v → ∃ T x y, v = .ref T ∧ N ≤ T ∧ xs[j]? = some x ∧ ys[j]? = some y ∧ IsPair h T x y) ∧ ac.toList.Nodup
theorem Drawn.kept {h h' : Heap} {N : Addr} {xs ys ac : Array Value} {i : Nat} (d : Drawn h N xs ys ac i) (k : ∀ b o, N ≤ b → h.get? b = some o → h'.get? b = some o) : Drawn h' N xs ys ac i :=
  ⟨d.1, fun j v e => let ⟨T, x, y, e1, e2, e3, e4, e5⟩ := d.2.1 j v e; ⟨T, x, y, e1, e2, e3, e4, k T _ e2 e5⟩, d.2.2⟩
theorem Drawn.push {h : Heap} {N T : Addr} {xs ys ac : Array Value} {i : Nat} {x y : Value} (d : Drawn h N xs ys ac i) (hT : N ≤ T) (hx : xs[i]? = some x) (hy : ys[i]? = some y) (p : IsPair h T x y) (hn : Value.ref T ∉ ac.toList) : Drawn h N xs ys (ac.push (.ref T)) (i + 1) := by
  refine ⟨by rw [Array.size_push, d.1], fun j v e => ?_, ?_⟩
  case refine_2 =>
    rw [Array.toList_push]
    refine List.nodup_append.mpr ⟨d.2.2, by simp, fun a ha b hb e => ?_⟩
    rw [List.mem_singleton.mp hb] at e
    exact hn (e ▸ ha)
  rw [Array.getElem?_push] at e
  split at e
  · rename_i ej
    rw [d.1] at ej
    cases e
    subst ej
    exact ⟨T, x, y, rfl, hT, hx, hy, p⟩
  · exact d.2.1 j v e
theorem Drawn.fresh {h : Heap} {N : Addr} {xs ys ac : Array Value} {i : Nat} (d : Drawn h N xs ys ac i) : Value.ref h.objs.size ∉ ac.toList := fun hm => by
  obtain ⟨j, hj, ej⟩ := List.getElem_of_mem hm
  have ej2 : ac[j]? = some (Value.ref h.objs.size) := by rw [← Array.getElem?_toList, List.getElem?_eq_getElem hj, ej]
  obtain ⟨T, x, y, e1, _, _, _, e5⟩ := d.2.1 j _ ej2
  cases e1
  exact Nat.lt_irrefl _ (Heap.lt_size e5)
section
variable {prog : Program} {w : World} {A : Around} {E : Value → Shared → Prop} {R : Result → Shared → Prop} {z TI TO i1 i2 l1 l2 S N : Addr} {xs ys : Array Value} {res : Value}
/-- how the zip stands: not drawn from, or its tuple is out -/
def ZSt (h : Heap) (z TI TO N : Addr) : Prop := (IsZip h z TI TO .none ∧ ∃ a b, IsPair h TO a b) ∨ ∃ T f oT, IsZipHeld h z TI TO T f ∧ h.get? T = some oT ∧ N ≤ T
structure ZAll (h : Heap) (z TI TO i1 i2 l1 l2 S N : Addr) (xs ys ac : Array Value) (i c : Nat) : Prop where
  st : ZSt h z TI TO N
  ti : IsPair h TI (.ref i1) (.ref i2)
  h1 : h.IsListIter i1 l1 i
  h2 : h.IsListIter i2 l2 i
  a1 : h.IsList l1 xs
  a2 : h.IsList l2 ys
  hS : h.get? S = some { cls := .type "list", dict := none, data := .seq ac c, slots := #[] }
  dr : Drawn h N xs ys ac i
  big : N ≤ h.objs.size
theorem far {N b c : Addr} (h1 : c < N) (h2 : N ≤ b) : b ≠ c := fun e => by subst e; exact absurd h2 (Nat.not_le_of_lt h1)
theorem zipLoop (hh : A.handled = none) (D : ZipApart z TI TO i1 i2 l1 l2) (bS : S < N ∧ z < N ∧ TO < N ∧ i1 < N ∧ i2 < N) (dS : S ≠ z ∧ S ≠ TI ∧ S ≠ TO ∧ S ≠ i1 ∧ S ≠ i2 ∧ S ≠ l1 ∧ S ≠ l2) (hn : xs.size ≤ sizeLine) :
    ∀ (m i : Nat) (s : Shared) (ac : Array Value) (c : Nat), min xs.size ys.size - i = m → i ≤ min xs.size ys.size → ZAll s.heap z TI TO i1 i2 l1 l2 S N xs ys ac i c →
    (∀ h1 tk ac1 c1, (∀ b o, b ≠ S → b ≠ z → b ≠ TO → b ≠ i1 → b ≠ i2 → s.heap.get? b = some o → h1.get? b = some o) → h1.get? S = some { cls := .type "list", dict := none, data := .seq ac1 c1, slots := #[] } → Drawn h1 N xs ys ac1 (min xs.size ys.size) → R (.ok (.ret res)) { s with heap := h1, toks := tk }) →
    codeAny (model prog w) A (.builtin "list.extend.loop" ⟨[.ref S, .ref z, res], []⟩) R s := by
  intro m
  induction m with
  | zero =>
    intro i s ac c hm hi q hR
    have hin : i = min xs.size ys.size := by omega
    subst hin
    refine codeAny_builtin F.entry_extend_loop ?_
    rw [Around.under_plainId F.plain_extend_loop _]
    show wpAny _ A.in1 (pyNext (.ref z) >>= _) _ _ s
    have he : xs[min xs.size ys.size]? = none ∨ ys[min xs.size ys.size]? = none := by
      rcases Nat.le_total xs.size ys.size with g | g
      · exact .inl (Array.getElem?_eq_none (by omega))
      · exact .inr (Array.getElem?_eq_none (by omega))
    have fin : ∀ h1, (∀ b o, b ≠ S → b ≠ z → b ≠ TO → b ≠ i1 → b ≠ i2 → s.heap.get? b = some o → h1.get? b = some o) → h1.get? S = s.heap.get? S → R (.ok (.ret res)) { s with heap := h1 } := fun h1 k kS =>
      hR h1 s.toks ac c k (kS.trans q.hS) (q.dr.kept fun b o hb e => k b o (far bS.1 hb) (far bS.2.1 hb) (far bS.2.2.1 hb) (far bS.2.2.2.1 hb) (far bS.2.2.2.2 hb) e)
    refine wpAny_bind ?_
    rcases q.st with ⟨hz, a, b, hTO⟩ | ⟨T, f, oT, hz, hT, hN⟩
    · exact wpAny_pyNext_zip_end (A := A.in1) hh D hz q.ti hTO q.h1 q.h2 q.a1 q.a2 he fun h1 k => wpAny_pure (fin h1 (fun b o _ b1 b2 b3 b4 e => k b o b1 b2 b3 b4 e) ((k S _ dS.1 dS.2.2.1 dS.2.2.2.1 dS.2.2.2.2.1 q.hS).trans q.hS.symm))
    · exact wpAny_pyNext_zip_end_held (A := A.in1) hh D hz hT q.ti q.h1 q.h2 q.a1 q.a2 he fun h1 k => wpAny_pure (fin h1 (fun b o _ b1 b2 b3 b4 e => k b o b1 b3 b4 e) ((k S _ dS.1 dS.2.2.2.1 dS.2.2.2.2.1 q.hS).trans q.hS.symm))
  | succ m ih =>
    intro i s ac c hm hi q hR
    have hlt : i < min xs.size ys.size := by omega
    refine codeAny_builtin F.entry_extend_loop ?_
    rw [Around.under_plainId F.plain_extend_loop _]
    show wpAny _ A.in1 (pyNext (.ref z) >>= _) _ _ s
    obtain ⟨x, hx⟩ : ∃ x, xs[i]? = some x := ⟨_, Array.getElem?_eq_getElem (by omega)⟩
    obtain ⟨y, hy⟩ : ∃ y, ys[i]? = some y := ⟨_, Array.getElem?_eq_getElem (by omega)⟩
    have next : ∀ h1, (∀ T, T = s.heap.objs.size → ∃ f, IsZipHeld h1 z TI TO T f ∨ ∃ T', IsZipHeld h1 z TI TO T' f ∧ N ≤ T' ∧ ∃ o, s.heap.get? T' = some o) → h1.IsListIter i1 l1 (i + 1) → h1.IsListIter i2 l2 (i + 1) → IsPair h1 s.heap.objs.size x y → h1.objs.size = s.heap.objs.size + 1 →
        (∀ b o, b ≠ z → b ≠ TO → b ≠ i1 → b ≠ i2 → s.heap.get? b = some o → h1.get? b = some o) →
        wpAny (model prog w) A.in1 (updateSeq S (·.push (.ref s.heap.objs.size)) >>= fun _ => again (.builtin "list.extend.loop" ⟨[.ref S, .ref z, res], []⟩)) (fun fin s' => match fin with
          | .done f => R (.ok f) s'
          | .again c' => c'.quiet = true ∧ codeAny (model prog w) A c' R s') (fun e s' => R (.error e) s') { s with heap := h1 } := by
      intro h1 hz g1 g2 hp hsz k
      have hS1 := k S _ dS.1 dS.2.2.1 dS.2.2.2.1 dS.2.2.2.2.1 q.hS
      have hac := q.dr.1
      have up : ∀ b o, b ≠ S → h1.get? b = some o → (h1.update S (Obj.mapSeq (·.push (.ref s.heap.objs.size)))).get? b = some o := fun b o g e => (Heap.get?_update_other _ _ (Ne.symm g)).trans e
      have kb : ∀ b o, N ≤ b → s.heap.get? b = some o → h1.get? b = some o := fun b o hb e => k b o (far bS.2.1 hb) (far bS.2.2.1 hb) (far bS.2.2.2.1 hb) (far bS.2.2.2.2 hb) e
      have nS : ∀ b, N ≤ b → b ≠ S := fun b hb => far bS.1 hb
      refine wpAny_bind (wpAny_updateSeq hS1 rfl (wpAny_pure ⟨plainId_quiet F.plain_extend_loop _, ?_⟩) (by rw [hac]; omega) (by show (ac.push _).size ≤ sizeLine + 1; rw [Array.size_push, hac]; omega))
      refine ih (i + 1) _ (ac.push (.ref s.heap.objs.size)) _ (by omega) hlt ⟨?_, up _ _ dS.2.1.symm (k _ _ D.TIz D.TITO D.TIi1 D.TIi2 q.ti), g1.at fun o e => up _ o dS.2.2.2.1.symm e, g2.at fun o e => up _ o dS.2.2.2.2.1.symm e,
        q.a1.at fun o e => up _ o dS.2.2.2.2.2.1.symm (k _ o D.l1z D.l1TO D.l1i1 D.l1i2 e), q.a2.at fun o e => up _ o dS.2.2.2.2.2.2.symm (k _ o D.l2z D.l2TO D.l2i1 D.l2i2 e), Heap.get?_update_self _ hS1 rfl, ?_, ?_⟩ fun h2 tk ac2 c2 k2 e2 d2 => ?_
      · obtain ⟨f, hz | ⟨T', hz, hN, o, ho⟩⟩ := hz _ rfl
        · exact .inr ⟨_, f, _, up _ _ dS.1.symm hz, up _ _ (nS _ q.big) hp, q.big⟩
        · exact .inr ⟨T', f, o, up _ _ dS.1.symm hz, up _ _ (nS _ hN) (kb _ _ hN ho), hN⟩
      · exact Drawn.push ((q.dr.kept kb).kept fun b o hb e => up b o (nS b hb) e) q.big hx hy (up _ _ (nS _ q.big) hp) q.dr.fresh
      · show N ≤ (h1.update S (Obj.mapSeq (·.push (.ref s.heap.objs.size)))).objs.size
        rw [Heap.size_update, hsz]
        exact Nat.le_succ_of_le q.big
      · exact hR h2 tk ac2 c2 (fun b o b0 b1 b2 b3 b4 e => k2 b o b0 b1 b2 b3 b4 (up b o b0 (k b o b1 b2 b3 b4 e))) e2 d2
    refine wpAny_bind ?_
    rcases q.st with ⟨hz, a, b, hTO⟩ | ⟨T, f, oT, hz, hT, hN⟩
    · exact wpAny_pyNext_zip_item (A := A.in1) D hz q.ti hTO q.h1 q.h2 q.a1 q.a2 hx hy fun h1 r1 r2 r3 r4 r5 r6 k => next h1 (fun T e => ⟨false, .inl (by rw [e]; exact r1)⟩) r3 r4 r5 r6 k
    · exact wpAny_pyNext_zip_item_held (A := A.in1) D hz hT q.ti q.h1 q.h2 q.a1 q.a2 hx hy fun h1 r1 r3 r4 r5 r6 k => next h1 (fun _ _ => ⟨true, .inr ⟨T, r1, hN, oT, hT⟩⟩) r3 r4 r5 r6 fun b o b1 _ b3 b4 e => k b o b1 b3 b4 e
theorem extendZip {s : Shared} (hh : A.handled = none) (D : ZipApart z TI TO i1 i2 l1 l2) (bS : S < N ∧ z < N ∧ TO < N ∧ i1 < N ∧ i2 < N) (dS : S ≠ z ∧ S ≠ TI ∧ S ≠ TO ∧ S ≠ i1 ∧ S ≠ i2 ∧ S ≠ l1 ∧ S ≠ l2) (hn : xs.size ≤ sizeLine) {c : Nat}
    (q : ZAll s.heap z TI TO i1 i2 l1 l2 S N xs ys #[] 0 c)
    (hR : ∀ h1 tk ac1 c1, (∀ b o, b ≠ S → b ≠ z → b ≠ TO → b ≠ i1 → b ≠ i2 → s.heap.get? b = some o → h1.get? b = some o) → h1.get? S = some { cls := .type "list", dict := none, data := .seq ac1 c1, slots := #[] } → Drawn h1 N xs ys ac1 (min xs.size ys.size) → R (.ok (.ret res)) { s with heap := h1, toks := tk }) :
    wpAny (model prog w) A.in1 (Builtin.List.listExtendWith (.ref S) (.ref z) res) (fun fin s' => match fin with
      | .done f => R (.ok f) s'
      | .again c' => c'.quiet = true ∧ codeAny (model prog w) A c' R s') (fun e s' => R (.error e) s') s := by
  have hT : s.TypeIs (.ref z) "zip" := by
    rcases q.st with ⟨hz, _⟩ | ⟨T, f, oT, hz, _⟩
    · exact ⟨_, hz, rfl⟩
    · exact ⟨_, hz, rfl⟩
  have same : Builtin.List.listSameRef (.ref S) (.ref z) = false := by simp [Builtin.List.listSameRef, dS.1]
  unfold Builtin.List.listExtendWith
  refine wpAny_bind (wpAny_typeOf hT ?_)
  rw [if_neg (by rw [same]; decide)]
  have iter : ∀ {Q : Value → Shared → Prop} {E : Value → Shared → Prop}, Q (.ref z) s → wpAny (model prog w) A.in1 (pyIter (.ref z)) Q E s := fun {Q E} g => by
    refine wpAny_pyIter_slot hT F.slot_zip_iter (wpAny_call_entry F.slot_zip_iter hT F.entry_zip_iter ?_ (F.args_zip_iter_1 _))
    show wpAny _ _ (ret (.ref z)) _ _ s
    exact wpAny_pure ⟨_, rfl, "zip", _, hT, F.slot_zip_next.lookup, g⟩
  refine wpAny_bind (iter (wpAny_bind (wpAny_holding ?_)))
  unfold Builtin.List.listLengthHint
  refine wpAny_bind (wpAny_specialOf hT zip_nolen ?_)
  show wpAny _ A.in1 (specialOf (Value.ref z) (Str.ofString "__length_hint__") >>= _) _ _ _
  refine wpAny_bind (wpAny_specialOf hT zip_nohint (wpAny_pure ?_))
  show wpAny _ A.in1 (rule "list.extend.makes-room" >>= fun _ => Builtin.List.listTouch (.ref S) >>= fun _ => again (.builtin "list.extend.loop" ⟨[.ref S, .ref z, res], []⟩)) _ _ _
  refine wpAny_bind (wpAny_rule (wpAny_bind ?_))
  show wpAny _ A.in1 (updateSeq S (·.push .none) >>= fun _ => updateSeq S (·.pop)) _ _ _
  refine wpAny_bind (wpAny_updateSeq q.hS rfl ?_)
  have hS2 := Heap.get?_update_self (Obj.mapSeq (·.push Value.none)) q.hS rfl
  refine wpAny_updateSeq (hz := by seq_fits) hS2 rfl ?_
  have hS3 := Heap.get?_update_self (Obj.mapSeq (·.pop)) hS2 rfl
  have up : ∀ b o, b ≠ S → s.heap.get? b = some o → ((s.heap.update S (Obj.mapSeq (·.push Value.none))).update S (Obj.mapSeq (·.pop))).get? b = some o := fun b o g e => (Heap.get?_update_other _ _ (Ne.symm g)).trans ((Heap.get?_update_other _ _ (Ne.symm g)).trans e)
  have nS : ∀ b, N ≤ b → b ≠ S := fun b hb => far bS.1 hb
  refine wpAny_pure ⟨plainId_quiet F.plain_extend_loop _, zipLoop hh D bS dS hn _ 0 _ #[] _ rfl (Nat.zero_le _) ⟨?_, up _ _ dS.2.1.symm q.ti, q.h1.at fun o e => up _ o dS.2.2.2.1.symm e, q.h2.at fun o e => up _ o dS.2.2.2.2.1.symm e,
    q.a1.at fun o e => up _ o dS.2.2.2.2.2.1.symm e, q.a2.at fun o e => up _ o dS.2.2.2.2.2.2.symm e, hS3, q.dr.kept fun b o hb e => up b o (nS b hb) e, ?_⟩ fun h1 tk ac1 c1 k e d => hR h1 tk ac1 c1 (fun b o b0 b1 b2 b3 b4 g => k b o b0 b1 b2 b3 b4 (up b o b0 g)) e d⟩
  · rcases q.st with ⟨hz, a, b, hTO⟩ | ⟨T, f, oT, hz, hT, hN⟩
    · exact .inl ⟨up _ _ dS.1.symm hz, a, b, up _ _ dS.2.2.1.symm hTO⟩
    · exact .inr ⟨T, f, oT, up _ _ dS.1.symm hz, up _ _ (nS _ hN) hT, hN⟩
  · show N ≤ ((s.heap.update S _).update S _).objs.size
    rw [Heap.size_update, Heap.size_update]
    exact q.big
end
/-! ### tracked -/
def putP : Hp → List Addr → List (V × V) → Hp
  | H, t :: ts, p :: ps => putP (upd H t (.tup [p.1, p.2])) ts ps
  | H, _, _ => H
theorem putP_off {b : Addr} : ∀ (ts : List Addr) (ps : List (V × V)) (H : Hp), b ∉ ts → putP H ts ps b = H b
  | [], _, _, _ => rfl
  | _ :: _, [], _, _ => rfl
  | t :: ts, p :: ps, H, h => (putP_off ts ps _ fun z => h (List.mem_cons_of_mem _ z)).trans (upd_ne fun z => h (z ▸ List.mem_cons_self))
theorem putP_at : ∀ (ts : List Addr) (ps : List (V × V)) (H : Hp), ts.length = ps.length → ts.Nodup → ∀ (j : Nat) t p, ts[j]? = some t → ps[j]? = some p → putP H ts ps t = some (.tup [p.1, p.2])
  | [], _, _, _, _, j, t, p, e, _ => by cases e
  | _ :: _, [], _, h, _, _, _, _, _, _ => by cases h
  | a :: ts, q :: ps, H, h, n, 0, t, p, e1, e2 => by
    cases e1; cases e2
    exact (putP_off ts ps _ (List.nodup_cons.mp n).1).trans upd_same
  | a :: ts, q :: ps, H, h, n, j + 1, t, p, e1, e2 => putP_at ts ps _ (Nat.succ.inj h) (List.nodup_cons.mp n).2 j t p e1 e2
theorem putP_in : ∀ (ts : List Addr) (ps : List (V × V)) (H : Hp), ts.length = ps.length → ∀ b o, putP H ts ps b = some o → b ∉ ts ∧ H b = some o ∨ b ∈ ts := fun ts ps H hl b o e => by
  by_cases hb : b ∈ ts
  · exact .inr hb
  · rw [putP_off ts ps H hb] at e
    exact .inl ⟨hb, e⟩
theorem refs_of : ∀ {us : List Value}, (∀ u ∈ us, ∃ T, u = Value.ref T) → ∃ ts : List Addr, us = ts.map Value.ref
  | [], _ => ⟨[], rfl⟩
  | u :: us, h => by
    obtain ⟨T, rfl⟩ := h u List.mem_cons_self
    obtain ⟨ts, rfl⟩ := refs_of fun u hu => h u (List.mem_cons_of_mem _ hu)
    exact ⟨T :: ts, rfl⟩
def rListZip (K : PySem.W.Frag) : List V → Hp → VK → Prop := fun vs H Q => ∃ a b xs ys, vs = [V.ref a, V.ref b] ∧ SqL K H a xs ∧ SqL K H b ys ∧
  ∀ (H' : Hp) (p : Addr) (ts : List Addr), Same H H' → H p = none → p ∉ ts → ts.length = (xs.zip ys).length → H' p = some (.lst (ts.map V.ref)) → (∀ (j : Nat) t q, ts[j]? = some t → (xs.zip ys)[j]? = some q → H t = none ∧ H' t = some (.tup [q.1, q.2])) → Q (.ref p) H'
section
variable {X : Cx} {W : WX} {e e2 : Expr} {ta : TA} {AS : DA} {p p2 pos pos2 : Pos}
theorem zip_laid {pins : List (Addr × Obj)} {σ : L2.St} {H : Hp} {s : Shared} {h' : Heap} {tk : Nat} {xs ys : List V} {us ws : List Value} {ac : Array Value} {c : Nat} {S N : Addr} (I : Inv X pins σ H s) (rx : Vals xs us) (ry : Vals ys ws) (hz : xs.length ≤ sizeLine)
    (hk : ∀ b o, s.heap.get? b = some o → h'.get? b = some o) (hS : h'.get? S = some { cls := .type "list", dict := none, data := .seq ac c, slots := #[] }) (lS : s.heap.objs.size ≤ S) (hSN : S < N) (d : Drawn h' N us.toArray ws.toArray ac (min us.length ws.length)) :
    ∃ (H' : Hp) (ts : List Addr), Same H H' ∧ H S = none ∧ S ∉ ts ∧ ts.length = (xs.zip ys).length ∧ H' S = some (.lst (ts.map V.ref)) ∧ (∀ (j : Nat) t q, ts[j]? = some t → (xs.zip ys)[j]? = some q → H t = none ∧ H' t = some (.tup [q.1, q.2])) ∧ Inv X pins σ H' { s with heap := h', toks := tk } := by
  have isref : ∀ u ∈ ac.toList, ∃ T, u = Value.ref T := fun u hu => by
    obtain ⟨j, hj, ej⟩ := List.getElem_of_mem hu
    obtain ⟨T, _, _, e1, _⟩ := d.2.1 j u (by rw [← Array.getElem?_toList, List.getElem?_eq_getElem hj, ej])
    exact ⟨T, e1⟩
  obtain ⟨ts, hts⟩ := refs_of isref
  have nd : ts.Nodup := by
    have := d.2.2
    rw [hts] at this
    exact List.Pairwise.of_map Value.ref (fun a b h e => h (by rw [e])) this
  have lt : ts.length = (xs.zip ys).length := by
    have h1 : ac.toList.length = ts.length := by rw [hts, List.length_map]
    rw [List.length_zip, rx.length, ry.length, ← h1, Array.length_toList]
    exact d.1
  have at_ : ∀ (j : Nat) t, ts[j]? = some t → ∃ x y, N ≤ t ∧ us[j]? = some x ∧ ws[j]? = some y ∧ IsPair h' t x y := fun j t ej => by
    obtain ⟨T, x, y, e1, e2, e3, e4, e5⟩ := d.2.1 j (.ref t) (by rw [← Array.getElem?_toList, hts, List.getElem?_map, ej]; rfl)
    cases e1
    exact ⟨x, y, e2, by simpa using e3, by simpa using e4, e5⟩
  have above : ∀ t ∈ ts, N ≤ t := fun t ht => by
    obtain ⟨j, hj, ej⟩ := List.getElem_of_mem ht
    obtain ⟨_, _, h1, _⟩ := at_ j t (by rw [List.getElem?_eq_getElem hj, ej])
    exact h1
  have nS : S ∉ ts := fun z => absurd (above S z) (Nat.not_le_of_lt hSN)
  have new : ∀ t ∈ ts, H t = none := fun t ht => I.hok.fresh (Nat.le_trans lS (Nat.le_of_lt (Nat.lt_of_lt_of_le hSN (above t ht))))
  have newS : H S = none := I.hok.fresh lS
  let H' : Hp := putP (upd H S (.lst (ts.map V.ref))) ts (xs.zip ys)
  have off : ∀ b, b ∉ ts → b ≠ S → H' b = H b := fun b h1 h2 => (putP_off ts _ _ h1).trans (upd_ne h2)
  have eS : H' S = some (.lst (ts.map V.ref)) := (putP_off ts _ _ nS).trans upd_same
  have eT := putP_at ts (xs.zip ys) (upd H S (.lst (ts.map V.ref))) lt nd
  have low : ∀ b o, s.heap.get? b = some o → b ∉ ts ∧ b ≠ S := fun b o g => by
    have l := Heap.lt_size g
    have lS' : b < S := Nat.lt_of_lt_of_le l lS
    exact ⟨fun z => absurd (above b z) (Nat.not_le_of_lt (Nat.lt_trans lS' hSN)), Nat.ne_of_lt lS'⟩
  have kp : Same H H' := fun b u g => (off b (fun z => by rw [new b z] at g; cases g) (fun z => by rw [z, newS] at g; cases g)).trans g
  refine ⟨H', ts, kp, newS, nS, lt, eS, fun j t q h1 h2 => ⟨new t (List.mem_of_getElem? h1), eT j t q h1 h2⟩, ?_⟩
  refine I.call' (ch := []) rfl ⟨fun b o q _ _ _ => hk b o q, fun b o q _ _ _ => ⟨o.slots, hk b o q⟩, fun b o q n _ => ?_, fun b o q _ => ⟨o, hk b o q⟩, fun b xs q => kp b _ q, fun b o u q => kp b _ q, fun b ps q => ⟨#[], by rw [kp b _ q]; simp⟩⟩ (fun b u q => ?_) I.bare fun b z => by simp at z
  · obtain ⟨z1, z2⟩ := low b o q
    exact (off b z1 z2).trans n
  · by_cases hb : b ∈ ts
    · obtain ⟨j, hj, ej⟩ := List.getElem_of_mem hb
      have e1 : ts[j]? = some b := by rw [List.getElem?_eq_getElem hj, ej]
      have hj2 : j < (xs.zip ys).length := lt ▸ hj
      have g := eT j b _ e1 (List.getElem?_eq_getElem hj2)
      have q : H' b = some u := q
      rw [show H' b = some _ from g] at q
      cases q
      obtain ⟨x, y, _, f1, f2, f3⟩ := at_ j b e1
      have hz := List.getElem_zip (l := xs) (l' := ys) (i := j) (h := hj2)
      rw [hz]
      rw [List.length_zip] at hj2
      have r1 := vals_at rx (List.getElem?_eq_getElem (show j < xs.length by omega)) f1
      have r2 := vals_at ry (List.getElem?_eq_getElem (show j < ys.length by omega)) f2
      exact ⟨by show 2 ≤ sizeLine; decide, [x, y], .cons r1 (.cons r2 .nil), ⟨_, f3, rfl, _, rfl⟩⟩
    · by_cases hb2 : b = S
      · subst hb2
        have q : H' b = some u := q
        rw [eS] at q
        cases q
        refine ⟨by rw [List.length_map, lt, List.length_zip]; omega, ac.toList, c, by rw [hts]; exact LiI.vals_refs ts, ?_⟩
        rw [Array.toArray_toList]
        exact hS
      · have q : H' b = some u := q
        rw [off b hb hb2] at q
        exact (I.hok b u q).stay (fun d v _ y => hk d v y) (fun d y => kp d _ y) fun d xs y => kp d _ y
where vals_at : ∀ {xs : List V} {us : List Value} {j : Nat} {x : V} {u : Value}, Vals xs us → xs[j]? = some x → us[j]? = some u → RelV x u
  | _, _, j, _, _, .nil, h, _ => by cases h
  | _, _, 0, _, _, .cons r _, h1, h2 => by cases h1; cases h2; exact r
  | _, _, j + 1, _, _, .cons _ t, h1, h2 => vals_at (j := j) t h1 h2
theorem pe_listZip (hc : X.calm = true) (hg : Gl X "list") (hm : X.mg "list" = none) (hg2 : Gl X "zip") (hm2 : X.mg "zip" = none) (ha : PA X [e, e2] ta)
    (hs : starEach [e, e2] X.env = (false, eval e X.env) :: starEach [e2] X.env := by rfl) (hpl : (backTo pos2 (starEach [e2] X.env)).any (·.1) = false := by rfl)
    (hs2 : starEach [.Call (.Name "zip" p2) [e, e2] [] pos2] X.env = (false, eval (.Call (.Name "zip" p2) [e, e2] [] pos2) X.env) :: starEach [] X.env := by rfl) :
    PE X (.Call (.Name "list" p) [.Call (.Name "zip" p2) [e, e2] [] pos2] [] pos) (fun σ H Q => ta σ H fun vs H1 => rListZip X.K vs H1 Q) := by
  refine ⟨fun pins s σ H Q I h => ?_⟩
  refine Call_ (ld_blt I hg hm boot_list (PyProof.Rows.callWith_type1 (args_cons (Call_ (ld_blt I hg2 hm2 PyProof.Rows.boot_zip (PyProof.Rows.callWith_type1 (thn (ha.run pos2 pins s σ H _ I h) fun us s1 ⟨vs, H1, I1, r1, q1⟩ => ?_) hs hpl))) hs2) hs2 rfl))
  obtain ⟨a, b, xs, ys, rfl, hx, hy, q⟩ := q1
  obtain ⟨u1, u2, rfl, rfl, rfl⟩ : ∃ u1 u2, us = [u1, u2] ∧ u1 = Value.ref a ∧ u2 = Value.ref b := by
    cases r1 with
    | cons r rr =>
      cases rr with
      | cons r' rr => cases rr; exact ⟨_, _, rfl, r, r'⟩
  obtain ⟨its, rv, pa, hz⟩ := I1.list hx
  obtain ⟨its2, rv2, pb, _⟩ := I1.list hy
  have la : a < s1.heap.objs.size := pa.lt
  have lb : b < s1.heap.objs.size := pb.lt
  have D := PySem.W.ktu_apart s1.heap.objs.size a b la lb
  refine call_zip_2 pa.isList pb.isList fun h' hzz hTI hTO h1 h2 hsz hk => args_nil ?_
  refine callList (s := { s1 with heap := h' }) fun R h3 c0 kp e1 fin => ?_
  have n1 : s1.heap.objs.size < h'.objs.size := by rw [hsz]; exact Nat.lt_add_of_pos_right (by decide)
  have hS3 : h'.objs.size < h3.objs.size := Heap.lt_size e1
  have lt : ∀ k, k < 5 → s1.heap.objs.size + k < h'.objs.size := fun k hk => by rw [hsz]; exact Nat.add_lt_add_left hk _
  have l2 : ∀ k, k < 5 → s1.heap.objs.size + k < h'.objs.size + 1 := fun k hk => Nat.lt_succ_of_lt (lt k hk)
  have ne : ∀ k, k < 5 → h'.objs.size ≠ s1.heap.objs.size + k := fun k hk => Nat.ne_of_gt (lt k hk)
  refine extendZip (s := { s1 with heap := h3 }) (A := X.A.in1) (N := h'.objs.size + 1) (I1.ok.hd hc) D ⟨Nat.lt_succ_self _, l2 4 (by decide), l2 3 (by decide), l2 0 (by decide), l2 1 (by decide)⟩
    ⟨ne 4 (by decide), ne 2 (by decide), ne 3 (by decide), ne 0 (by decide), ne 1 (by decide), Nat.ne_of_gt (Nat.lt_trans la n1), Nat.ne_of_gt (Nat.lt_trans lb n1)⟩ (by rw [List.size_toArray, ← rv.length]; exact hz) (xs := its.toArray) (ys := its2.toArray) (c := c0)
    ⟨.inl ⟨kp _ _ hzz, _, _, kp _ _ hTO⟩, kp _ _ hTI, h1.at fun o z => kp _ o z, h2.at fun o z => kp _ o z, pa.isList.at fun o z => kp _ o (hk _ o z), pb.isList.at fun o z => kp _ o (hk _ o z), e1, ⟨rfl, fun j v z => by simp at z, by simp⟩, hS3⟩ fun h4 tk ac c1 k4 e4 d4 => fin _ ?_
  have old : ∀ b o, s1.heap.get? b = some o → h4.get? b = some o := fun b o z => by
    have l := Heap.lt_size z
    have far : ∀ k, b ≠ s1.heap.objs.size + k := fun k => Nat.ne_of_lt (Nat.lt_of_lt_of_le l (Nat.le_add_right _ _))
    exact k4 b o (Nat.ne_of_lt (Nat.lt_trans l n1)) (far 4) (far 3) (far 0) (far 1) (kp b o (hk b o z))
  obtain ⟨H', ts, g1, g2, g3, g4, g5, g6, J⟩ := zip_laid (tk := tk) (S := h'.objs.size) (N := h'.objs.size + 1) I1 rv rv2 hz old e4 (Nat.le_of_lt n1) (Nat.lt_succ_self _) (by simpa using d4)
  exact ⟨.ref _, H', J, rfl, q H' _ ts g1 g2 g3 g4 g5 g6⟩
def listZipD : List D → Option RV
  | [.list xs, .list ys] => some (.ow (.list (zipD xs ys)))
  | _ => none
theorem zip_reps {K : PySem.W.Frag} {O : Addr → Prop} {H : Hp} : ∀ {ds es : List D} {xs ys : List V} {ts : List Addr}, RepL K O H ds xs → RepL K O H es ys → ts.length = (xs.zip ys).length →
    (∀ (j : Nat) t q, ts[j]? = some t → (xs.zip ys)[j]? = some q → H t = some (.tup [q.1, q.2])) → RepL K O H (zipD ds es) (ts.map V.ref)
  | [], es, _, ys, ts, .nil, l2, hl, h => by
    cases ts with
    | nil => exact .nil
    | cons _ _ => simp at hl
  | d :: ds, [], _, _, ts, .cons r n l, .nil, hl, h => by
    cases ts with
    | nil => exact .nil
    | cons _ _ => simp at hl
  | d :: ds, e :: es, _, _, ts, .cons (v := v) r n l, .cons (v := u) r' n' l', hl, h => by
    cases ts with
    | nil => simp at hl
    | cons t ts =>
      have ht : H t = some (.tup [v, u]) := h 0 t (v, u) rfl rfl
      exact .cons (.tup (.inl (.inl ht)) (.cons r n (.cons r' n' .nil))) (fun m => nomatch m) (zip_reps l l' (Nat.succ.inj hl) fun j t q e1 e2 => h (j + 1) t q e1 e2)
theorem listZip_ok {K : PySem.W.Frag} : FnOk' K (rListZip K) listZipD := by
  intro O H ds vs r Q hO rs e k
  unfold listZipD at e
  split at e
  · cases e
    obtain ⟨v, u, rfl, r1, r2⟩ := reps2 rs
    cases r1 with
    | lst a1 l1 =>
      cases r2 with
      | lst a2 l2 =>
        rename_i ds es _ xs _ ys
        refine ⟨_, _, xs, ys, rfl, .inl a1, .inl a2, fun H' p ts sm hp hn hl hS hT => ?_⟩
        have up : ∀ {ds : List D} {vs : List V}, RepL K O H ds vs → RepL K (fun b => O b ∨ b = p) H' ds vs := fun l =>
          (l.fresh (O' := fun b => O b ∨ b = p) fun b z => z.elim .inl fun z => .inr (by rw [z]; exact hp)).kp (fun b o z e => z.elim (fun z => hO b o z e) fun z => by rw [z, hp] at e; cases e) (.of fun b o _ e => sm b o e)
        exact k _ H' sm ⟨p, rfl, hp, _, hS, zip_reps (up l1) (up l2) hl fun j t q e1 e2 => (hT j t q e1 e2).2⟩
  · cases e
theorem re_listZip (hc : X.calm = true) (hg : Gl X "list") (hm : X.mg "list" = none) (hg2 : Gl X "zip") (hm2 : X.mg "zip" = none) (ha : RA X W [e, e2] AS)
    (hs : starEach [e, e2] X.env = (false, eval e X.env) :: starEach [e2] X.env := by rfl) (hpl : (backTo pos2 (starEach [e2] X.env)).any (·.1) = false := by rfl)
    (hs2 : starEach [.Call (.Name "zip" p2) [e, e2] [] pos2] X.env = (false, eval (.Call (.Name "zip" p2) [e, e2] [] pos2) X.env) :: starEach [] X.env := by rfl) :
    RE X W (.Call (.Name "list" p) [.Call (.Name "zip" p2) [e, e2] [] pos2] [] pos) (eFn listZipD AS) :=
  PE.imp (pe_listZip hc hg hm hg2 hm2 ha hs hpl hs2) fun σ H Q h => tE_fn listZip_ok h
end
end DL
set_option maxRecDepth 100000
set_option maxHeartbeats 1000000
/-! DD: {k: v for ..}. -/
namespace DL
open PySem PySem.Spec PyProof.Rows L2
def dc (vs : List Nat) (t : DT) (c : DB) (key e : DE) (k : List (D × D) → Env → Res) : List D → Env → List (D × D) → Res
  | [], ρ, acc => k acc ρ
  | x :: xs, ρ, acc => t x ρ fun ρ1 => c ρ1 (fun b ρ2 => if b = true then
      key ρ2 (fun rk ρ3 => opt (peek ρ3 rk.w) fun kd => e ρ3 (fun r ρ4 => freeze ρ4 r.w fun d ρ5 => if bare ρ5 vs && isKey kd && decide (acc.length < sizeLim) then dc vs t c key e k xs (wipe ρ5 vs) (putD acc kd d) else none) noX) noX
    else (if bare ρ2 vs then dc vs t c key e k xs (wipe ρ2 vs) acc else none)) noX
def eDC (vs : List Nat) (it : DI) (t : DT) (c : DB) (key e : DE) : DE := fun ρ k h => it ρ (fun xs ρ1 => if bare ρ1 vs then
    dc vs t c key e (fun ds ρ2 => k (.ow (.dict ds)) (back ρ1 ρ2 vs)) xs (wipe ρ1 vs) [] else none) h
section
variable {K : PySem.W.Frag} {mg : Str → Option Value} {W : WX} {fx fx' : Fx} {own own' : Own} {σ : L2.St} {H H' : Hp} {ρ ρ' : Env} {vs : List Nat}
theorem RepK.step (R : Rp K fx own σ H ρ) (s : StepE H own H' own') {ds : List (D × D)} {us : List (Key × V)} (r : RepK K (OO fx own) H ds us) : RepK K (OO fx own') H' ds us := (r.kp R.ho s.kp).anti (oo_le s.le)
theorem Rp.newdict {D0 : Addr} (R : Rp K fx own σ H ρ) (hn : H D0 = none) : Rp K (fx.add D0) own σ (upd H D0 (.dK [])) ρ := R.aside (same_upd' hn) hn ⟨_, upd_same, trivial⟩
theorem growD_step {D0 : Addr} {acc : List (Key × V)} {H1 : Hp} {own1 : Own} (s : StepE H1 own1 H own) (hn : H1 D0 = none) : StepE H1 own1 (upd H D0 (.dK acc)) own := ⟨fun a o e n => by
    rw [upd_ne fun z => by rw [z, hn] at e; cases e]; exact s.keep a o e n, s.le, fun a n => by
    by_cases z : a = D0
    · subst z; rw [upd_same]; exact fun z => nomatch z
    · rw [upd_ne z]; exact s.al a n⟩
/-- the new dict gets an entry -/
theorem growD {D0 : Addr} {acc : List (Key × V)} {accD : List (D × D)} {k : Key} {d : D} {y : V} (R : Rp K (fx.add D0) own σ H ρ) (hD : H D0 = some (.dK acc)) (l : RepK K (OO (fx.add D0) own) H accD acc) (r : Rep K (OO (fx.add D0) own) H d y) :
    Rp K (fx.add D0) own σ (upd H D0 (.dK (putK acc k y))) ρ ∧ RepK K (OO (fx.add D0) own) (upd H D0 (.dK (putK acc k y))) (putD accD (kD k) d) (putK acc k y) ∧ ∀ d v, Rep K (OO (fx.add D0) own) H d v → Rep K (OO (fx.add D0) own) (upd H D0 (.dK (putK acc k y))) d v := by
  have hO := R.ho
  have kp : Kp (OO (fx.add D0) own) H (upd H D0 (.dK (putK acc k y))) := .of fun a o n e => by
    rw [upd_ne fun z => n (by rw [z]; exact .inl (.inr rfl))]; exact e
  have nown : ∀ i, own i ≠ some D0 := fun i z => R.nox i D0 z (.inr rfl)
  refine ⟨?_, ((repk_put l r).kp hO kp), fun d v q => q.kp hO kp⟩
  exact { len := R.len
          old := fun a n => by
            by_cases z : a = D0
            · subst z; rw [upd_same]; exact fun z => nomatch z
            · rw [upd_ne z]; exact R.old a n
          trk := fun a q => by
            by_cases z : a = D0
            · subst z; exact ⟨_, upd_same, trivial⟩
            · obtain ⟨o, e, m⟩ := R.trk a q
              exact ⟨o, by rw [upd_ne z]; exact e, m⟩
          sh := fun i d e => let ⟨v, h1, h2⟩ := R.sh i d e; ⟨v, h1, h2.kp hO kp⟩
          ow := fun i e q m => by
            obtain ⟨a, h1, h2, h3⟩ := R.ow i e q m
            exact ⟨a, h1, h2, h3.kp hO kp (upd_ne fun z => nown i (by rw [← z]; exact h1))⟩
          dom := R.dom
          inj := R.inj
          nox := R.nox
          new := R.new
          ios := R.ios }
theorem dc_ok {it : DI} {S : List Nat} {t : DT} {c : DB} {key e : DE} {Q : VK} (hs : ∀ i ∈ S, i ∈ vs) (h : tE K mg W (eDC vs it t c key e) σ H Q) : tDc (tI K mg W it) (tG K S t) (tT K mg W0 c) (tE K mg W0 key) (tE K mg W0 e) vs σ H Q := by
  obtain ⟨fx, own, ρ, k, hx, o, R, e0, kn, kx⟩ := h
  refine ⟨fx, own, ρ, _, hx, o, R, e0, fun xs ρ1 J H1 own1 P st1 R1 wk p1 e1 => fun D0 hD => ?_, kx⟩
  split at e1
  · rename_i hb
    have Rw := (R1.wiped hb).newdict hD
    have fr : ∀ d v, Rep K (OO fx own1) H1 d v → Rep K (OO (fx.add D0) own1) (upd H1 D0 (.dK [])) d v := fun d v r => r.aside R1 (same_upd' hD) hD
    have pA : P (OO (fx.add D0) own1) (upd H1 D0 (.dK [])) := wk.ev _ _ _ _ p1 fr
    refine ⟨fun i m H2 => m = xs.length - i ∧ i ≤ xs.length ∧ ∃ own2 ρ2 accD acc, StepE H1 own1 H2 own2 ∧ Rp K (fx.add D0) own2 (L2.wipe σ vs) H2 ρ2 ∧ (∀ i ∈ vs, slot ρ2 i = none) ∧ H2 D0 = some (.dK acc) ∧
        RepK K (OO (fx.add D0) own2) H2 accD acc ∧ P (OO (fx.add D0) own2) H2 ∧ (∀ d v, Rep K (OO fx own1) H1 d v → Rep K (OO (fx.add D0) own2) H2 d v) ∧
        DL.dc vs t c key e (fun ds ρ2 => k (.ow (.dict ds)) (DL.back ρ1 ρ2 vs)) (xs.drop i) ρ2 accD = some o,
      ⟨xs.length, by simp, Nat.zero_le _, own1, DL.wipe ρ1 vs, [], [], StepE.of_same (same_upd' hD), Rw, fun i hi => slot_wipe_in hi, upd_same, .nil, pA, fr, e1⟩, ?_⟩
    rintro i m H2 ⟨rfl, hi, own2, ρ2, accD, acc, s2, R2, n2, hD2, l2, p2, f2, e2⟩
    by_cases hlt : i < xs.length
    · refine .inr ?_
      obtain ⟨hgo, hy⟩ := wk.go _ _ i xs[i] p2 (by simp [hlt])
      rw [List.drop_eq_getElem_cons hlt] at e2
      refine ⟨hgo, fun H' => ∃ own2 ρ2 accD acc, StepE H1 own1 H' own2 ∧ Rp K (fx.add D0) own2 (L2.wipe σ vs) H' ρ2 ∧ (∀ i ∈ vs, slot ρ2 i = none) ∧ H' D0 = some (.dK acc) ∧
        RepK K (OO (fx.add D0) own2) H' accD acc ∧ P (OO (fx.add D0) own2) H' ∧ (∀ d v, Rep K (OO fx own1) H1 d v → Rep K (OO (fx.add D0) own2) H' d v) ∧
        DL.dc vs t c key e (fun ds ρ2 => k (.ow (.dict ds)) (DL.back ρ1 ρ2 vs)) (xs.drop (i + 1)) ρ2 accD = some o, ?_, ?_⟩
      · rintro H' q
        exact ⟨xs.length - (i + 1), by omega, rfl, hlt, q⟩
      · intro x H3 y
        obtain ⟨same, rx⟩ := hy x H3 y
        have R3 := R2.same same
        have s3 : StepE H1 own1 H3 own2 := s2.trans (.of_same same)
        have sr3 : ∀ d v, Rep K (OO (fx.add D0) own2) H2 d v → Rep K (OO (fx.add D0) own2) H3 d v := fun d v r => Rep.sameR R2 same r
        have hD3 : H3 D0 = some (.dK acc) := same _ _ hD2
        have l3 : RepK K (OO (fx.add D0) own2) H3 accD acc := l2.kp R2.ho (.of fun a o _ e => same a o e)
        refine ⟨fx.add D0, own2, ρ2, xs[i], _, o, R3, rx R2.ho, e2, fun ρ4 σ4 own4 st4 R4 w4 e4 => ?_⟩
        have hw : L2.wipe σ4 vs = L2.wipe (L2.wipe σ vs) vs := wipe_else w4 hs
        rw [wipe_wipe] at hw
        refine ⟨hw, ?_⟩
        have s4 := s3.trans st4
        have sr4 : ∀ d v, Rep K (OO (fx.add D0) own2) H2 d v → Rep K (OO (fx.add D0) own4) H3 d v := fun d v r => Rep.step R3 st4 (sr3 d v r)
        have l4 : RepK K (OO (fx.add D0) own4) H3 accD acc := RepK.step R3 st4 l3
        refine ⟨fx.add D0, own4, ρ4, _, _, o, R4, e4, fun b ρ5 H5 own5 st5 R5 e5 => ?_, fun x ρ5 cls d H5 own5 st5 R5 rx e5 => nomatch e5⟩
        have s5 := s4.trans st5
        have sr5 : ∀ d v, Rep K (OO (fx.add D0) own2) H2 d v → Rep K (OO (fx.add D0) own5) H5 d v := fun d v r => Rep.step R4 st5 (sr4 d v r)
        have nD : ∀ {own' : Own} {σ' H' ρ'}, Rp K (fx.add D0) own' σ' H' ρ' → ∀ i, own' i ≠ some D0 := fun {_ _ _ _} R i z => R.nox i D0 z (.inr rfl)
        have hD5 : H5 D0 = some (.dK acc) := st5.keep _ _ hD3 (nD R4)
        have l5 : RepK K (OO (fx.add D0) own5) H5 accD acc := RepK.step R4 st5 l4
        cases b with
        | false =>
          have e5 : (if bare ρ5 vs = true then DL.dc vs t c key e (fun ds ρ2 => k (.ow (.dict ds)) (DL.back ρ1 ρ2 vs)) (xs.drop (i + 1)) (DL.wipe ρ5 vs) accD else none) = some o := e5
          split at e5
          · rename_i hb5
            have R6 := R5.wiped hb5
            rw [hw] at R6
            exact ite_ff ⟨own5, _, accD, acc, s5, R6, fun i hi => slot_wipe_in hi, hD5, l5, wk.ev _ _ _ _ p2 sr5, fun d v r => sr5 d v (f2 d v r), e5⟩
          · cases e5
        | true =>
          refine ite_tt ⟨fx.add D0, own5, ρ5, _, _, o, R5, e5, fun rk ρk vk Hk ownk stk qk ek => ?_, fun x ρ5 cls d H5 own5 st5 R5 rx e5 => nomatch e5⟩
          obtain ⟨Rk, uk⟩ := qk.use R5.there
          obtain ⟨kd, hkd, ek2⟩ := opt_some ek
          have rkd := uk.peek Rk hkd
          refine ⟨fx.add D0, ownk, ρk, _, _, o, Rk, ek2, fun r ρ6 v H6 own6 st6 q6 e6 => ?_, fun x ρ5 cls d H5 own5 st5 R5 rx e5 => nomatch e5⟩
          obtain ⟨R6, u6⟩ := q6.use Rk.there
          obtain ⟨d, ρ7, own7, e7, s7, R7, q7⟩ := freeze_ok R6 u6 e6
          split at e7
          · rename_i hb7
            rw [Bool.and_eq_true, Bool.and_eq_true, decide_eq_true_eq] at hb7
            obtain ⟨kk, rfl, rfl⟩ := key_rep hb7.1.2 rkd
            have hDk : Hk D0 = some (.dK acc) := stk.keep _ _ hD5 (nD R5)
            have hD6 : H6 D0 = some (.dK acc) := st6.keep _ _ hDk (nD Rk)
            have l7 : RepK K (OO (fx.add D0) own7) H6 accD acc := RepK.step R6 s7 (RepK.step Rk st6 (RepK.step R5 stk l5))
            have sr7 : ∀ d v, Rep K (OO (fx.add D0) own2) H2 d v → Rep K (OO (fx.add D0) own7) H6 d v := fun d v r => Rep.step R6 s7 (Rep.step Rk st6 (Rep.step R5 stk (sr5 d v r)))
            have R8 := R7.wiped hb7.1.1
            rw [hw] at R8
            obtain ⟨R9, l9, f9⟩ := growD (k := kk) R8 hD6 l7 q7
            refine ⟨acc, kk, rfl, hD6, by rw [← repk_len l7, ← sizeLim_eq]; exact hb7.2, own7, _, putD accD (kD kk) d, putK acc kk v, growD_step (((s5.trans stk).trans st6).trans s7) hD, R9, fun i hi => slot_wipe_in hi, upd_same, l9, wk.ev _ _ _ _ p2 fun d v r => f9 d v (sr7 d v r), fun d v r => f9 d v (sr7 d v (f2 d v r)), e7⟩
          · cases e7
    · have hie : i = xs.length := by omega
      subst hie
      rw [List.drop_length] at e2
      refine .inl ⟨wk.stop _ _ p2, ?_⟩
      have RB := R1.backed R2 hb n2 f2
      exact kn (.ow (.dict accD)) _ (.ref D0) H2 own2 (st1.trans s2) ⟨D0, rfl, Classical.byContradiction fun z => st1.al D0 z hD, RB, acc, hD2, l2⟩ e2
  · cases e1
end
section
variable {X : Cx} {W : WX} {kx elt tg iter : Expr} {ifs : List Expr} {scope : Scope} {own : List (Str × Nat)} {S : List Nat} {pos : Pos} {IT : DI} {T : DT} {C : DB} {E KE : DE}
theorem re_dc (hc : X.calm = true) (hN : X.N.Nodup) (hi : RI X W tg iter IT) (ok : BlkOk X.N X.env.scope scope own) (hS : ∀ i ∈ S, i ∈ own.map (·.2))
    (hg : ∀ s H C cl fp, RG (Blk X scope s H C cl fp) tg S T) (ht : ∀ s H Ca cl fp, RTs (Blk X scope s H Ca cl fp) W0 ifs C) (hk : ∀ s H C cl fp, RE (Blk X scope s H C cl fp) W0 kx KE) (he : ∀ s H C cl fp, RE (Blk X scope s H C cl fp) W0 elt E)
    (hs : ∀ x, foldedSetIterable iter X.env x = pure x := by intro _; rfl) : RE X W (.DictComp kx elt [⟨tg, iter, ifs, 0⟩] scope pos) (eDC (own.map (·.2)) IT T C KE E) :=
  PE.imp (pe_dc (g := tG X.K S T) (tt := tT X.K X.mg W0 C) (tk := tE X.K X.mg W0 KE) (tv := tE X.K X.mg W0 E) hc hN hi ok hg ht hk he hs) fun σ H Q h => dc_ok hS h
/-- name = {..: .. for ..}, on one line -/
theorem ps_setDc {i : Nat} {y : Str} {py spos : Pos} {wi : TI} {g : TG} {tt : TT} {tk tv : TE} (hc : X.calm = true) (hN : X.N.Nodup) (hy : X.N[i]? = some y) (hyl : X.env.scope.names.lookup y = some .local)
    (hsw : swapsWith (.DictComp kx elt [⟨tg, iter, ifs, 0⟩] scope pos) (some (.Name y py)) spos.line X.env = pure true) (hi : PI X tg iter wi) (ok : BlkOk X.N X.env.scope scope own)
    (hg : ∀ s H C cl fp, PG (Blk X scope s H C cl fp) tg g) (ht : ∀ s H C cl fp, PTs (Blk X scope s H C cl fp) ifs tt) (hk : ∀ s H C cl fp, PE (Blk X scope s H C cl fp) kx tk) (he : ∀ s H C cl fp, PE (Blk X scope s H C cl fp) elt tv)
    (hs : ∀ x, foldedSetIterable iter X.env x = pure x) : PS X (.Assign [.Name y py] (.DictComp kx elt [⟨tg, iter, ifs, 0⟩] scope pos) spos) (tAsg (tDc wi g tt tk tv (own.map (·.2))) (gName i)) := by
  refine ⟨fun pins s σ H Ed I h => ?_⟩
  have h : tDc wi g tt tk tv (own.map (·.2)) σ H (fun x H1 => gName i x σ H1 Ed.nx) := h
  rw [exec_Assign_Name_used _ _ _ _ hsw]; refine wpAny_bind (wpAny_standAt (wpAny_bind ?_))
  show wpAny _ X.A (do let _ ← comprehension (.DictComp kx elt [⟨tg, iter, ifs, 0⟩] scope pos) scope X.env (firstIterPos [⟨tg, iter, ifs, 0⟩] pos) newDict false (eval iter X.env) (some (assign (.Name y py) X.env))) _ _ s
  refine wpAny_bind (thn (dc_core (Qf := fun _ s' => SP X pins Ed .next s') hc hN I hi ok hg ht hk he hs h fun L C s' m H' I' q hn f => ?_) fun _ s' hq => wpAny_pure (wpAny_pure hq))
  show wpAny _ _ (assign (.Name y py) X.env (.ref L)) _ _ _
  obtain ⟨f0, f1, f2, f3, f4, f5⟩ := f
  refine wpAny_assign_Name (store_ok2 (v := V.ref L) I' hN hy (.inl hyl) rfl (fun s2 I2 ⟨a, sb, ha⟩ => ?_) (.inr hyl))
  have haC : C ≠ a := ha.elim (fun z => by rw [z]; exact f1) fun z e => f4 y a z e.symm
  exact ⟨m, hn.sameBut sb haC, fun h3 sb3 => ⟨_, H', I2.turned (t' := s2.toks) (fun b o hb e => (sb3.2 b hb).trans e) f0 f1 f3 f4 f5, q⟩⟩
theorem sw_trueD {gs : List Comprehension} {py : Pos} {y : Str} {l : Nat} {env : PySem.Env} (hk : env.scope.kind = .function) (hy : env.scope.names.lookup y = some .local) (hl : (py.line == pos.line) = true)
    (ha : (scope.names.any fun (n, k) => n == y && (k == .local || k == .cell)) = false) : swapsWith (.DictComp kx elt gs scope pos) (some (.Name y py)) l env = pure true := by
  have hb : env.blockKind = .function := by unfold Env.blockKind; rw [hk]; rfl
  have ky : env.kindOf y = some .local := hy
  unfold swapsWith; simp only [hb, ky, ha, Expr.pos, hl]; rfl
theorem rs_setDc {i : Nat} {y : Str} {py spos : Pos} (hc : X.calm = true) (hN : X.N.Nodup) (hi : RI X W tg iter IT) (ok : BlkOk X.N X.env.scope scope own) (hS : ∀ i ∈ S, i ∈ own.map (·.2))
    (hg : ∀ s H C cl fp, RG (Blk X scope s H C cl fp) tg S T) (ht : ∀ s H Ca cl fp, RTs (Blk X scope s H Ca cl fp) W0 ifs C) (hk : ∀ s H C cl fp, RE (Blk X scope s H C cl fp) W0 kx KE) (he : ∀ s H C cl fp, RE (Blk X scope s H C cl fp) W0 elt E)
    (hy : X.N[i]? = some y := by rfl) (hyl : X.env.scope.names.lookup y = some .local := by rfl) (hsw : swapsWith (.DictComp kx elt [⟨tg, iter, ifs, 0⟩] scope pos) (some (.Name y py)) spos.line X.env = pure true := by exact sw_trueD rfl rfl rfl (by decide +kernel))
    (hs : ∀ x, foldedSetIterable iter X.env x = pure x := by intro _; rfl) : RS X W (.Assign [.Name y py] (.DictComp kx elt [⟨tg, iter, ifs, 0⟩] scope pos) spos) (sSet i (eDC (own.map (·.2)) IT T C KE E)) :=
  PS.imp (ps_setDc (g := tG X.K S T) (tt := tT X.K X.mg W0 C) (tk := tE X.K X.mg W0 KE) (tv := tE X.K X.mg W0 E) hc hN hy hyl hsw hi ok hg ht hk he hs) fun Ed σ H h => dc_ok hS (sset_ok h)
end
end DL
set_option maxRecDepth 100000
set_option maxHeartbeats 1000000
/-! DE: from a body's plain function to the def; short names. -/
namespace DL
open PySem PySem.Spec PyProof.Rows L2
theorem fn_ok {P : Program} {w : World} {K : PySem.W.Frag} {mg : Str → Option Value} {base : Heap} {k : Nat} {x nm qual : Str} {params : Arguments} {body : List Stmt} {scope : Scope} {f : Addr} {fd : FuncData} {N ps : List Str} {bs : List Bool} {G : DS} {n : Nat}
    (F : FunD K nm qual params body scope [] [] f fd) (S : FnScope N ps scope) (hl : ps.length = bs.length) (hn : N.length = n) (gm : mg x = some (.ref f)) (bd : Binds K fd ps [])
    (hb : ∀ (cdv : Value) (A : Around) (outer : List PySem.Env) (s : Shared) (H : Hp) (E : XK), Room k (A.deeper (envOfC qual scope s.heap.objs.size f cdv)) → RSs (cxOf (L2.CX P w) P w K mg base N qual scope f cdv A outer s H E) (fun cls d _ H => E cls d H) body G) :
    Fn P w K mg base (k + 1) x bs (dDef n G) := by
  subst hn
  refine ⟨f, fd, ps, F.ok S (fun vs H Q E h => (spF_len h).trans hl.symm) fun cdv A outer s H vs Q E hr h => ⟨tS K mg (fun cls d _ H => E cls d H) G, hb cdv A outer s H E hr, body_ok h⟩, gm, F.kp, bd⟩
/-- no promise at all -/
theorem fn_zero {P : Program} {w : World} {K : PySem.W.Frag} {mg : Str → Option Value} {base : Heap} {x nm qual : Str} {params : Arguments} {body : List Stmt} {scope : Scope} {f : Addr} {fd : FuncData} {ps : List Str} {bs : List Bool}
    (F : FunD K nm qual params body scope [] [] f fd) (hl : ps.length = bs.length) (gm : mg x = some (.ref f)) (bd : Binds K fd ps []) : Fn P w K mg base 0 x bs (fun _ => none) :=
  ⟨f, fd, ps, ⟨fun vs H Q E h => (spF_len h).trans hl.symm, fun A outer s H args us vs Q E hr he hb hv ⟨fx, own, es, o, q⟩ => nomatch q.2.2.2.2.2.1⟩, gm, F.kp, bd⟩
/-- nothing is claimed -/
def fNo : DDef := fun _ => none
theorem fn_no {P : Program} {w : World} {K : PySem.W.Frag} {mg : Str → Option Value} {base : Heap} {k : Nat} {x : Str} {bs : List Bool} {f : DDef} (C : Fn P w K mg base k x bs f) : Fn P w K mg base 0 x bs fNo := by
  obtain ⟨a, fd, ps, F, h⟩ := C.ex
  refine ⟨a, fd, ps, ⟨fun vs H Q E ⟨fx, own, es, o, q⟩ => ?_, fun A outer s H args us vs Q E hr he hb hv ⟨fx, own, es, o, q⟩ => ?_⟩, h⟩
  · exact nomatch q.2.2.2.2.2.1
  · exact nomatch q.2.2.2.2.2.1
section
variable {X : Cx} {W : WX} {a b e : Expr} {es : List Expr} {A B : DE} {AS : DA} {S : List Nat} {TS' : DTs} {pos p p2 sp : Pos}
theorem rg_seq {k n : Nat} (hc : X.calm = true) (h : RGs X es S TS') (hlen : ∀ ds ρ k o, TS' ds ρ k = some o → ds.length = n)
    (hn : (assignEach es X.env).length = n := by rfl) (hst : (assignEach es X.env).findIdx? (·.1) = none := by rfl) : RG X (.Tuple es k pos) S (tSeq TS') := by
  refine ⟨fun pins s σ H v u Q I r ⟨fx, own, ρ, d, k, o, R, q, e, kn⟩ => ?_⟩
  cases d with
  | tuple ds =>
    have e : TS' ds ρ k = some o := e
    obtain ⟨q1, q2⟩ := q
    cases q1 with
    | tup t l => exact (pg_tup hc h hn hst).run pins s σ H _ u Q I r ⟨_, _, rfl, t, by rw [← l.length]; exact hlen ds ρ k o e, fx, own, ρ, ds, k, o, R, l, e, kn⟩
  | list ds =>
    have e : TS' ds ρ k = some o := e
    obtain ⟨q1, q2⟩ := q
    cases q1 with
    | lst t l => exact (pg_lst hc h hn hst).run pins s σ H _ u Q I r ⟨_, _, rfl, .inl t, by rw [← l.length]; exact hlen ds ρ k o e, fx, own, ρ, ds, k, o, R, l, e, kn⟩
  | _ => cases e
theorem re_glI {x : Str} {i : Int} (hg : Gl X x) (hm : ∃ t, X.mg x = some (.int i t)) (hd : (x == ("__debug__" : Str)) = false := by decide) : RE X W (.Name x pos) (eC (.int i)) := by
  obtain ⟨t, hm⟩ := hm
  exact re_const (pe_glob hg hm (show RelV (.int i) (.int i t) from ⟨t, rfl⟩) hd) fun _ _ _ => ⟨.int i, fun m => nomatch m⟩
theorem re_glS {x z : Str} (hg : Gl X x) (hm : ∃ t, X.mg x = some (.str z t)) (hd : (x == ("__debug__" : Str)) = false := by decide) : RE X W (.Name x pos) (eC (.str z)) := by
  obtain ⟨t, hm⟩ := hm
  exact re_const (pe_glob hg hm (show RelV (.str z) (.str z t) from ⟨t, rfl⟩) hd) fun _ _ _ => ⟨.str z, fun m => nomatch m⟩
/-! built-in functions -/
theorem b_len (hg : Gl X "len") (hm : X.mg "len" = none) (ha : RA X W (a :: es) AS) (he : starEach (a :: es) X.env = (false, eval a X.env) :: starEach es X.env := by rfl) (hpl : (backTo pos (starEach es X.env)).any (·.1) = false := by rfl) : RE X W (.Call (.Name "len" p) (a :: es) [] pos) (eFn lenD AS) :=
  re_fnB call_lenA lenD_ok hg hm (by decide +kernel) ha (by decide) (by decide) he hpl
theorem b_abs (hg : Gl X "abs") (hm : X.mg "abs" = none) (ha : RA X W (a :: es) AS) (he : starEach (a :: es) X.env = (false, eval a X.env) :: starEach es X.env := by rfl) (hpl : (backTo pos (starEach es X.env)).any (·.1) = false := by rfl) : RE X W (.Call (.Name "abs" p) (a :: es) [] pos) (eFn absD AS) :=
  re_fnB call_abs absD_ok hg hm (by decide +kernel) ha (by decide) (by decide) he hpl
theorem b_max2 (hc : X.calm = true) (hg : Gl X "max") (hm : X.mg "max" = none) (ha : RA X W (a :: es) AS) (he : starEach (a :: es) X.env = (false, eval a X.env) :: starEach es X.env := by rfl) (hpl : (backTo pos (starEach es X.env)).any (·.1) = false := by rfl) : RE X W (.Call (.Name "max" p) (a :: es) [] pos) (eFn maxD AS) :=
  re_fnB (call_max2 hc) maxD_ok hg hm (by decide +kernel) ha (by decide) (by decide) he hpl
theorem b_min2 (hc : X.calm = true) (hg : Gl X "min") (hm : X.mg "min" = none) (ha : RA X W (a :: es) AS) (he : starEach (a :: es) X.env = (false, eval a X.env) :: starEach es X.env := by rfl) (hpl : (backTo pos (starEach es X.env)).any (·.1) = false := by rfl) : RE X W (.Call (.Name "min" p) (a :: es) [] pos) (eFn minD AS) :=
  re_fnB (call_min2 hc) minD_ok hg hm (by decide +kernel) ha (by decide) (by decide) he hpl
theorem b_max (hc : X.calm = true) (hg : Gl X "max") (hm : X.mg "max" = none) (ha : RA X W (a :: es) AS) (he : starEach (a :: es) X.env = (false, eval a X.env) :: starEach es X.env := by rfl) (hpl : (backTo pos (starEach es X.env)).any (·.1) = false := by rfl) : RE X W (.Call (.Name "max" p) (a :: es) [] pos) (eFn maxLD AS) :=
  re_fnB (cr_max hc) maxLD_ok hg hm (by decide +kernel) ha (by decide) (by decide) he hpl
theorem b_min (hc : X.calm = true) (hg : Gl X "min") (hm : X.mg "min" = none) (ha : RA X W (a :: es) AS) (he : starEach (a :: es) X.env = (false, eval a X.env) :: starEach es X.env := by rfl) (hpl : (backTo pos (starEach es X.env)).any (·.1) = false := by rfl) : RE X W (.Call (.Name "min" p) (a :: es) [] pos) (eFn minLD AS) :=
  re_fnB (cr_min hc) minLD_ok hg hm (by decide +kernel) ha (by decide) (by decide) he hpl
theorem b_sum (hc : X.calm = true) (hg : Gl X "sum") (hm : X.mg "sum" = none) (ha : RA X W (a :: es) AS) (he : starEach (a :: es) X.env = (false, eval a X.env) :: starEach es X.env := by rfl) (hpl : (backTo pos (starEach es X.env)).any (·.1) = false := by rfl) : RE X W (.Call (.Name "sum" p) (a :: es) [] pos) (eFn sumD AS) :=
  re_fnB (cr_sum hc) sumD_ok hg hm (by decide +kernel) ha (by decide) (by decide) he hpl
theorem b_any (hc : X.calm = true) (hg : Gl X "any") (hm : X.mg "any" = none) (ha : RA X W (a :: es) AS) (he : starEach (a :: es) X.env = (false, eval a X.env) :: starEach es X.env := by rfl) (hpl : (backTo pos (starEach es X.env)).any (·.1) = false := by rfl) : RE X W (.Call (.Name "any" p) (a :: es) [] pos) (eFn anyD AS) :=
  re_fnB (cr_any hc) anyD_ok hg hm (by decide +kernel) ha (by decide) (by decide) he hpl
theorem b_all (hc : X.calm = true) (hg : Gl X "all") (hm : X.mg "all" = none) (ha : RA X W (a :: es) AS) (he : starEach (a :: es) X.env = (false, eval a X.env) :: starEach es X.env := by rfl) (hpl : (backTo pos (starEach es X.env)).any (·.1) = false := by rfl) : RE X W (.Call (.Name "all" p) (a :: es) [] pos) (eFn allD AS) :=
  re_fnB (cr_all hc) allD_ok hg hm (by decide +kernel) ha (by decide) (by decide) he hpl
theorem b_sorted (hu : X.A.units + 66 < cLine) (hg : Gl X "sorted") (hm : X.mg "sorted" = none) (ha : RA X W (a :: es) AS) (he : starEach (a :: es) X.env = (false, eval a X.env) :: starEach es X.env := by rfl) (hpl : (backTo pos (starEach es X.env)).any (·.1) = false := by rfl) : RE X W (.Call (.Name "sorted" p) (a :: es) [] pos) (eFn sortedD AS) :=
  re_fnB (cr_sortedG hu) sortedD_ok hg hm (by decide +kernel) ha (by decide) (by decide) he hpl
theorem b_int (hg : Gl X "int") (hm : X.mg "int" = none) (ha : RA X W (a :: es) AS) (he : starEach (a :: es) X.env = (false, eval a X.env) :: starEach es X.env := by rfl) (hpl : (backTo pos (starEach es X.env)).any (·.1) = false := by rfl) : RE X W (.Call (.Name "int" p) (a :: es) [] pos) (eFn intD AS) :=
  re_fnT call_int1 intD_ok hg hm (by decide +kernel) ha (by decide) (by decide) he hpl
theorem b_list (hg : Gl X "list") (hm : X.mg "list" = none) (ha : RA X W (a :: es) AS) (he : starEach (a :: es) X.env = (false, eval a X.env) :: starEach es X.env := by rfl) (hpl : (backTo pos (starEach es X.env)).any (·.1) = false := by rfl) : RE X W (.Call (.Name "list" p) (a :: es) [] pos) (eFn listD AS) :=
  re_fnT call_list_of listD_ok hg hm (by decide +kernel) ha (by decide) (by decide) he hpl
theorem b_tuple (hg : Gl X "tuple") (hm : X.mg "tuple" = none) (ha : RA X W (a :: es) AS) (he : starEach (a :: es) X.env = (false, eval a X.env) :: starEach es X.env := by rfl) (hpl : (backTo pos (starEach es X.env)).any (·.1) = false := by rfl) : RE X W (.Call (.Name "tuple" p) (a :: es) [] pos) (eFn tupleD AS) :=
  re_fnT call_tuple_of tupleD_ok hg hm (by decide +kernel) ha (by decide) (by decide) he hpl
end
end DL
set_option maxRecDepth 100000
set_option maxHeartbeats 1000000
/-! DJ: the law's end. -/
namespace DL
open PySem PySem.Spec PyProof.Rows L2
theorem fnok {P : Program} {w : World} {K : PySem.W.Frag} {mg : Str → Option Value} {base : Heap} {k : Nat} {nm qual : Str} {params : Arguments} {body : List Stmt} {scope : Scope} {f : Addr} {fd : FuncData} {N ps : List Str} {bs : List Bool} {G : DS} {n : Nat}
    (F : FunD K nm qual params body scope [] [] f fd) (S : FnScope N ps scope) (hl : ps.length = bs.length) (hn : N.length = n)
    (hb : ∀ (cdv : Value) (A : Around) (outer : List PySem.Env) (s : Shared) (H : Hp) (E : XK), Room k (A.deeper (envOfC qual scope s.heap.objs.size f cdv)) → RSs (cxOf (L2.CX P w) P w K mg base N qual scope f cdv A outer s H E) (fun cls d _ H => E cls d H) body G) :
    FnOk P w K mg base (L2.CX P w) (k + 1) f fd ps (spF K mg bs (dDef n G)) := by
  subst hn
  exact F.ok S (fun vs H Q E h => (spF_len h).trans hl.symm) fun cdv A outer s H vs Q E hr h => ⟨tS K mg (fun cls d _ H => E cls d H) G, hb cdv A outer s H E hr, body_ok h⟩
/-- the script in the guise of a dict -/
def mark (ns : List Int) : D := .dict [(.list (ns.map .int), .none)]
theorem sp_law {K : PySem.W.Frag} {mg : Str → Option Value} {f : DDef} {H : Hp} {a : Addr} {ns : List Int} (h : ∀ x, x = .list (ns.map .int) ∨ x = mark ns → ∃ fin, f [.sh x] = some (.ret (.sh (.bool true)) fin)) (hS : SqL K H a (ns.map V.int)) :
    spF K mg [false] f [.ref a] H (fun v _ => v = .bl true) fun _ _ _ => False := by
  have go : ∀ x, (x = .list (ns.map .int) ∨ x = mark ns) → RepT K (fun _ => False) H x (.ref a) → spF K mg [false] f [.ref a] H (fun v _ => v = .bl true) fun _ _ _ => False := fun x hx r => by
    obtain ⟨fin, e⟩ := h x hx
    have oo : ∀ b, ¬ OO ⟨fun a => H a = none, fun _ => False, fun _ => none⟩ (fun _ => none) b := fun b z => by
      rcases z with z | ⟨i, z⟩
      · exact z
      · cases z
    refine ⟨⟨fun a => H a = none, fun _ => False, fun _ => none⟩, fun _ => none, [.sh x], _, ?_, rfl, fun e he d => ?_, rfl, rfl, e, fun d fin' v H' eo A r' => ?_, (fun d fin' a' H' eo => nomatch eo), fun x' fin' cls d H' eo => nomatch eo⟩
    · refine ⟨rfl, fun b n => n, fun b z => z.elim, fun i d hi => ?_, fun i e hi m => ?_, (fun i b z => nomatch z), (fun i j b z => nomatch z), (fun i b z => nomatch z), (fun i b d z => nomatch z), fun i b z => nomatch z⟩
      · cases i with
        | zero =>
          cases hi
          exact ⟨.ref a, rfl, r.anti fun b z => (oo b z).elim, fun m b eb z => oo b z⟩
        | succ i => cases hi
      · cases i with
        | zero => cases hi; cases m
        | succ i => cases hi
    · rw [List.mem_singleton.mp he]
      exact fun z => nomatch z
    · cases eo
      obtain ⟨r1, _⟩ := r'
      cases r1
      rfl
  rcases hS with r | r
  · exact go _ (.inl rfl) (.lst r (ints_repl ns))
  · exact go _ (.inr rfl) (.kls fun H' => .inr r)
theorem walk_DL {l : PySem.W.OpenLaw} {n k : Nat} {q : Program} {loose : List Str} {XP : (Str → Option Value) → Heap → Prop} {YP : World → Heap → Prop} {d : DefRec} {x : Str} {f : DDef} (hn : l.most = some n) (hn2 : n ≤ sizeLine) (hdf : d.params.defaults = []) (hr : Room k callerA)
    (hlaw : ∀ (ns : List Int) x, ns.length ≤ n → x = .list (ns.map .int) ∨ x = mark ns → ∃ fin, f [.sh x] = some (.ret (.sh (.bool true)) fin))
    (F : ∀ (w : World) (mg : Str → Option Value) (fa : Addr) (h : Heap), YP w h → h.Ns mainGlobals mg → mg d.name = some (.ref fa) → ∃ (K : PySem.W.Frag) (fd : FuncData), K.In h ∧ (∀ (s : Shared) (u : Value), BindsTo s fd ⟨[u], []⟩ [(x, u)]) ∧
      ∀ base : Heap, K.In base → base.Ns mainGlobals mg → FnOk l.prog w K mg base (L2.CX l.prog w) k fa fd [x] (spF K mg [false] f)) : PySem.W.WalkO q loose XP YP l.row.toRowW d [] (fun f vs => PySem.call f vs) := by
  refine Att.attach_call hn hdf fun w s0 s1 mg mb fa o pm cd doc a vs ns Gd Y ho hd hcd hmg hobj hints hlen hg => ?_
  obtain ⟨K, fd, KX, hb, hF⟩ := F w mg fa _ Y Gd.T.g hmg
  refine law_call KX Gd.T.g Gd.T.b Gd.T.builtins Gd.T.nolimit hg hobj hints (Nat.le_trans hlen hn2) hr hF hb (fun H hO hS => sp_law (fun x hx => hlaw ns x hlen hx) hS) fun H e s' hc => ?_
  obtain ⟨_, _, _, _, _, _, _, _, _, _, _, _, z⟩ := hc
  exact z.elim
end DL
set_option maxRecDepth 100000
set_option maxHeartbeats 1000000
/-! DM: loops and comprehensions of the plain functions, in plain words. -/
namespace DL
open PySem
section
variable {α σ : Type} {enc : α → D}
theorem loop_fold {t : DT} {body : DS} {C : Conts} (E : σ → Env) (f : σ → α → σ) (P : σ → Prop) : ∀ (l : List α) (s : σ), P s →
    (∀ s a, P s → a ∈ l → P (f s a) ∧ ∀ kn : Env → Res, t (enc a) (E s) (fun ρ1 => body ρ1 { C with nx := kn, ct := kn, bk := C.nx }) = kn (E (f s a))) →
    loop t body C (l.map enc) (E s) = C.nx (E (l.foldl f s))
  | [], s, _, _ => rfl
  | a :: l, s, p, h => by
    obtain ⟨h1, h2⟩ := h s a p List.mem_cons_self
    have h3 := h2 (loop t body C (l.map enc))
    show t (enc a) (E s) (fun ρ1 => body ρ1 { C with nx := loop t body C (l.map enc), ct := loop t body C (l.map enc), bk := C.nx }) = _
    rw [h3]
    exact loop_fold E f P l _ h1 fun s b q hb => h s b q (List.mem_cons_of_mem _ hb)
/-- a loop that may leave with a value -/
def runL (f : σ → α → σ) (b : σ → α → Option Res) : List α → σ → (σ → Res) → Res
  | [], s, k => k s
  | a :: l, s, k => match b s a with
    | some r => r
    | none => runL f b l (f s a) k
theorem loop_find {t : DT} {body : DS} {C : Conts} (E : σ → Env) (f : σ → α → σ) (b : σ → α → Option Res) (P : σ → Prop) : ∀ (l : List α) (s : σ), P s →
    (∀ s a, P s → a ∈ l → (b s a = none → P (f s a)) ∧ ∀ kn : Env → Res, t (enc a) (E s) (fun ρ1 => body ρ1 { C with nx := kn, ct := kn, bk := C.nx }) = match b s a with
      | some r => r
      | none => kn (E (f s a))) →
    loop t body C (l.map enc) (E s) = runL f b l s fun s => C.nx (E s)
  | [], s, _, _ => rfl
  | a :: l, s, p, h => by
    obtain ⟨h1, h2⟩ := h s a p List.mem_cons_self
    have h3 := h2 (loop t body C (l.map enc))
    show t (enc a) (E s) (fun ρ1 => body ρ1 { C with nx := loop t body C (l.map enc), ct := loop t body C (l.map enc), bk := C.nx }) = _
    rw [h3]
    unfold runL
    cases hb : b s a with
    | some r => rfl
    | none => exact loop_find E f b P l _ (h1 hb) fun s b q hb => h s b q (List.mem_cons_of_mem _ hb)
theorem while_steps {c : DB} {body : DS} {C : Conts} (E : σ → Env) (f : σ → σ) (b : σ → Bool) (P : σ → Prop) (μ : σ → Nat)
    (h : ∀ s, P s → (b s = true → P (f s) ∧ μ (f s) < μ s) ∧ ∀ kn : Env → Res, c (E s) (fun p ρ1 => if p = true then body ρ1 { C with nx := kn, ct := kn, bk := C.nx } else C.nx ρ1) C.ex = if b s = true then kn (E (f s)) else C.nx (E s)) :
    ∀ (n : Nat) (s : σ), P s → μ s < n → ∃ s', P s' ∧ b s' = false ∧ whileN c body C n (E s) = C.nx (E s')
  | 0, s, _, hn => absurd hn (Nat.not_lt_zero _)
  | n + 1, s, p, hn => by
    obtain ⟨h1, h2⟩ := h s p
    have h3 := h2 (whileN c body C n)
    cases hb : b s with
    | false =>
      rw [hb] at h3
      exact ⟨s, p, hb, h3⟩
    | true =>
      obtain ⟨p1, lt⟩ := h1 hb
      rw [hb] at h3
      obtain ⟨s', p', b', e⟩ := while_steps E f b P μ h n (f s) p1 (by omega)
      exact ⟨s', p', b', Eq.trans h3 e⟩
theorem lc_all {vs : List Nat} {t : DT} {c : DB} {e : DE} {k : List D → Env → Res} {ρ : Env} (b : α → Bool) (g : α → D) (ρ' : α → Env) : ∀ (l : List α) (acc : List D), acc.length + l.length ≤ sizeLim →
    (∀ a ∈ l, bare (ρ' a) vs = true ∧ wipe (ρ' a) vs = ρ ∧ ∀ (kt : D → Env → Res) (kf : Env → Res), t (enc a) ρ (fun ρ1 => c ρ1 (fun p ρ2 => if p = true then e ρ2 (fun r ρ3 => freeze ρ3 r.w kt) noX else kf ρ2) noX) = if b a = true then kt (g a) (ρ' a) else kf (ρ' a)) →
    lc vs t c e k (l.map enc) ρ acc = k (acc ++ (l.filter b).map g) ρ
  | [], acc, _, _ => by
    show k acc ρ = _
    simp
  | a :: l, acc, hl, h => by
    obtain ⟨h1, h2, h3⟩ := h a List.mem_cons_self
    have hl' : acc.length + (l.length + 1) ≤ sizeLim := hl
    refine Eq.trans (h3 (fun d ρ4 => if bare ρ4 vs && decide (acc.length < sizeLim) then lc vs t c e k (l.map enc) (wipe ρ4 vs) (acc ++ [d]) else none) (fun ρ2 => if bare ρ2 vs then lc vs t c e k (l.map enc) (wipe ρ2 vs) acc else none)) ?_
    have hlt : acc.length < sizeLim := by omega
    cases hb : b a with
    | true =>
      rw [if_pos rfl]
      simp only [h1, h2, hlt, decide_true, Bool.and_self, if_true]
      rw [lc_all b g ρ' l (acc ++ [g a]) (by rw [List.length_append, List.length_singleton]; omega) fun a ha => h a (List.mem_cons_of_mem _ ha), List.filter_cons_of_pos hb, List.map_cons, List.append_assoc]
      rfl
    | false =>
      rw [if_neg Bool.false_ne_true]
      simp only [h1, h2, if_true]
      rw [lc_all b g ρ' l acc (by omega) fun a ha => h a (List.mem_cons_of_mem _ ha), List.filter_cons_of_neg (by rw [hb]; exact Bool.false_ne_true)]
theorem lcIn_all {vs : List Nat} {t : DT} {c : DB} {e : DE} {k : Env → List D → Res} {ρ : Env} (b : α → Bool) (g : α → D) (ρ' : α → Env) : ∀ (l : List α) (acc : List D), acc.length + l.length ≤ sizeLim →
    (∀ a ∈ l, bare (ρ' a) vs = true ∧ wipe (ρ' a) vs = ρ ∧ ∀ (kt : D → Env → Res) (kf : Env → Res), t (enc a) ρ (fun ρ1 => c ρ1 (fun p ρ2 => if p = true then e ρ2 (fun r ρ3 => freeze ρ3 r.w kt) noX else kf ρ2) noX) = if b a = true then kt (g a) (ρ' a) else kf (ρ' a)) →
    lcIn vs t c e k (l.map enc) ρ acc = k ρ (acc ++ (l.filter b).map g)
  | [], acc, _, _ => by
    show k ρ acc = _
    simp
  | a :: l, acc, hl, h => by
    obtain ⟨h1, h2, h3⟩ := h a List.mem_cons_self
    have hl' : acc.length + (l.length + 1) ≤ sizeLim := hl
    refine Eq.trans (h3 (fun d ρ4 => if bare ρ4 vs && decide (acc.length < sizeLim) then lcIn vs t c e k (l.map enc) (wipe ρ4 vs) (acc ++ [d]) else none) (fun ρ2 => if bare ρ2 vs then lcIn vs t c e k (l.map enc) (wipe ρ2 vs) acc else none)) ?_
    have hlt : acc.length < sizeLim := by omega
    cases hb : b a with
    | true =>
      rw [if_pos rfl]
      simp only [h1, h2, hlt, decide_true, Bool.and_self, if_true]
      rw [lcIn_all b g ρ' l (acc ++ [g a]) (by rw [List.length_append, List.length_singleton]; omega) fun a ha => h a (List.mem_cons_of_mem _ ha), List.filter_cons_of_pos hb, List.map_cons, List.append_assoc]
      rfl
    | false =>
      rw [if_neg Bool.false_ne_true]
      simp only [h1, h2, if_true]
      rw [lcIn_all b g ρ' l acc (by omega) fun a ha => h a (List.mem_cons_of_mem _ ha), List.filter_cons_of_neg (by rw [hb]; exact Bool.false_ne_true)]
theorem lc2_all {vs vs1 : List Nat} {t t1 : DT} {c c1 : DB} {it1 : DI} {e : DE} {k : List D → Env → Res} {ρ : Env} (r : α → List D) (ρ' : α → Env) : ∀ (l : List α) (acc : List D), acc.length + (l.flatMap r).length ≤ sizeLim →
    (∀ a ∈ l, bare (ρ' a) vs = true ∧ wipe (ρ' a) vs = ρ ∧ ∀ (acc : List D) (K : Env → List D → Res) (kf : Env → Res), acc.length + (r a).length ≤ sizeLim →
      t (enc a) ρ (fun ρ1 => c ρ1 (fun p ρ2 => if p = true then it1 ρ2 (fun ys ρ3 => if bare ρ3 vs1 then lcIn vs1 t1 c1 e K ys (wipe ρ3 vs1) acc else none) noX else kf ρ2) noX) = K (ρ' a) (acc ++ r a)) →
    lc2 vs vs1 t c it1 t1 c1 e k (l.map enc) ρ acc = k (acc ++ l.flatMap r) ρ
  | [], acc, _, _ => by
    show k acc ρ = _
    simp
  | a :: l, acc, hl, h => by
    obtain ⟨h1, h2, h3⟩ := h a List.mem_cons_self
    rw [List.flatMap_cons, List.length_append] at hl
    refine Eq.trans (h3 acc (fun ρ4 acc => if bare ρ4 vs then lc2 vs vs1 t c it1 t1 c1 e k (l.map enc) (wipe ρ4 vs) acc else none) (fun ρ2 => if bare ρ2 vs then lc2 vs vs1 t c it1 t1 c1 e k (l.map enc) (wipe ρ2 vs) acc else none) (by omega)) ?_
    simp only [h1, h2, if_true]
    rw [lc2_all r ρ' l (acc ++ r a) (by rw [List.length_append]; omega) fun a ha => h a (List.mem_cons_of_mem _ ha), List.flatMap_cons, List.append_assoc]
end
/-! ### expressions that change nothing, by their values -/
def Ev (ρ : Env) (e : DE) (r : RV) : Prop := ∀ (k : KV) (h : KX), e ρ k h = k r ρ
def EvT (ρ : Env) (c : DB) (b : Bool) : Prop := ∀ (k : KB) (h : KX), c ρ k h = k b ρ
def EvA (ρ : Env) (a : DA) (rs : List RV) : Prop := ∀ (k : KL) (h : KX), a ρ k h = k rs ρ
section
variable {ρ : Env} {a b : DE} {as : DA} {x y r : RV} {p q : D} {rs : List RV} {ds : List D} {t u : Bool} {ca cb : DB}
theorem Ev.c {v : D} : Ev ρ (eC v) (.sh v) := fun _ _ => rfl
theorem Ev.v {i : Nat} {e : EV} (h : slot ρ i = some e) : Ev ρ (eVar i) (.vr i) := fun k hx => by unfold eVar; rw [h]
theorem pk_vr {i : Nat} {e : EV} (h : slot ρ i = some e) : peek ρ (.vr i) = some e.d := by show (slot ρ i).map EV.d = _; rw [h]; rfl
theorem Ev.op {f : D → D → Option RV} (ha : Ev ρ a x) (hb : Ev ρ b y) (hp : peek ρ x.w = some p) (hq : peek ρ y.w = some q) (hf : f p q = some r) : Ev ρ (eOp f a b) r := fun k h => by
  unfold eOp
  rw [ha, hb, hp, hq]
  show opt (f p q) _ = _
  rw [hf]
  rfl
theorem Ev.un {f : D → Option RV} (ha : Ev ρ a x) (hp : peek ρ x.w = some p) (hf : f p = some r) : Ev ρ (eUn f a) r := fun k h => by
  unfold eUn
  rw [ha, hp]
  show opt (f p) _ = _
  rw [hf]
  rfl
theorem EvA.nil : EvA ρ aNil [] := fun _ _ => rfl
theorem EvA.cons (ha : Ev ρ a x) (hs : EvA ρ as rs) : EvA ρ (aCons a as) (x.w :: rs) := fun k h => by
  unfold aCons
  rw [ha, hs]
theorem Ev.fn {f : List D → Option RV} (hs : EvA ρ as rs) (hp : peeks ρ rs = some ds) (hf : f ds = some r) : Ev ρ (eFn f as) r := fun k h => by
  unfold eFn
  rw [hs, hp]
  show opt (f ds) _ = _
  rw [hf]
  rfl
theorem EvT.cmp {f : D → D → Option Bool} (ha : Ev ρ a x) (hb : Ev ρ b y) (hp : peek ρ x.w = some p) (hq : peek ρ y.w = some q) (hf : f p q = some t) : EvT ρ (cCmp f a b) t := fun k h => by
  unfold cCmp
  rw [ha, hb, hp, hq]
  show opt (f p q) _ = _
  rw [hf]
  rfl
theorem EvT.and (hc : EvT ρ ca t) (hd : t = true → EvT ρ cb u) : EvT ρ (cAnd ca cb) (t && u) := fun k h => by
  unfold cAnd
  rw [hc]
  cases t with
  | true => exact (if_pos rfl).trans (hd rfl k h)
  | false => exact if_neg Bool.false_ne_true
theorem EvT.or (hc : EvT ρ ca t) (hd : t = false → EvT ρ cb u) : EvT ρ (cOr ca cb) (t || u) := fun k h => by
  unfold cOr
  rw [hc]
  cases t with
  | true => exact if_pos rfl
  | false => exact (if_neg Bool.false_ne_true).trans (hd rfl k h)
theorem EvT.not (hc : EvT ρ ca t) : EvT ρ (cNot ca) (!t) := fun k h => by
  unfold cNot
  rw [hc]
theorem EvT.val (ha : Ev ρ a x) (hp : (peek ρ x.w).bind truth? = some t) : EvT ρ (cVal a) t := fun k h => by
  unfold cVal
  rw [ha, hp]
  rfl
theorem Ev.B (hc : EvT ρ ca t) : Ev ρ (eB ca) (.sh (.bool t)) := fun k h => by
  unfold eB
  rw [hc]
theorem Ev.call {f : DDef} {bs : List Bool} {es : List EV} {v : D} {fin : List (Option D)} (hs : EvA ρ as rs) (h1 : ioSlots bs rs = []) (h2 : argsOf ρ bs rs = some es) (h3 : f es = some (.ret (.sh v) fin)) (h4 : (lent ρ bs rs).isEmpty = true ∨ still v = true ∧ fin.all stillO = true) (h5 : putBack ρ bs rs fin = ρ) : Ev ρ (eCall f bs as) (.sh v) := fun k h => by
  unfold eCall
  rw [hs]
  show (if apart (ioSlots bs rs) && (ioSlots bs rs).all (fun i => !(lent ρ bs rs).contains i) then opt (argsOf ρ bs rs) _ else none) = _
  rw [h1, h2]
  show opt (f es) _ = _
  rw [h3]
  show behind ρ bs rs (lent ρ bs rs) (.ret (.sh v) fin) k h = _
  unfold behind
  show (if (lent ρ bs rs).isEmpty || (EV.safe (.sh v) && fin.all stillO) then k (.sh v) (putBack ρ bs rs fin) else none) = _
  rw [if_pos (by
    rcases h4 with h4 | ⟨h4, h6⟩
    · rw [h4]; rfl
    · rw [show EV.safe (.sh v) = still v from rfl, h4, h6]; simp), h5]
end
end DL
set_option maxRecDepth 100000
set_option maxHeartbeats 1000000
/-! DM2: more of the calculus. -/
namespace DL
open PySem
section
variable {ρ : Env} {a b : DE} {as : DA} {x y r : RV} {p q : D} {rs : List RV} {ds : List D} {t u : Bool} {c ca cb : DB} {e : DE} {i : Nat}
theorem Ev.iteT (hc : EvT ρ c true) (ha : Ev ρ a x) : Ev ρ (eIf c a b) x := fun k h => by
  unfold eIf
  rw [hc]
  exact (if_pos rfl).trans (ha k h)
theorem Ev.iteF (hc : EvT ρ c false) (hb : Ev ρ b x) : Ev ρ (eIf c a b) x := fun k h => by
  unfold eIf
  rw [hc]
  exact (if_neg Bool.false_ne_true).trans (hb k h)
theorem Ev.andB (ha : Ev ρ a (.sh (.bool t))) (hb : t = true → Ev ρ b (.sh (.bool u))) : Ev ρ (eAnd a b) (.sh (.bool (t && u))) := fun k h => by
  unfold eAnd
  rw [ha]
  cases t with
  | true => exact Eq.trans (b := b ρ k h) rfl (hb rfl k h)
  | false => rfl
theorem Ev.orB (ha : Ev ρ a (.sh (.bool t))) (hb : t = false → Ev ρ b (.sh (.bool u))) : Ev ρ (eOr a b) (.sh (.bool (t || u))) := fun k h => by
  unfold eOr
  rw [ha]
  cases t with
  | true => rfl
  | false => exact Eq.trans (b := b ρ k h) rfl (hb rfl k h)
theorem Ev.notB (ha : Ev ρ a (.sh (.bool t))) : Ev ρ (eNot a) (.sh (.bool (!t))) := fun k h => by
  unfold eNot
  rw [ha]
  rfl
theorem EvT.chainI {i j n : Int} {e3 : DE} {z : RV} (ha : Ev ρ a x) (hb : Ev ρ b y) (hc : Ev ρ e3 z) (hp : peek ρ x.w = some (.int i)) (hq : peek ρ y.w = some (.int j)) (hr : peek ρ z.w = some (.int n)) : EvT ρ (cChain leD leD a b e3) (decide (i ≤ j) && decide (j ≤ n)) := fun k h => by
  unfold cChain
  rw [ha, hb, hp, hq]
  show (if decide (i ≤ j) = true then _ else k false ρ) = _
  cases decide (i ≤ j) with
  | true =>
    rw [if_pos rfl, hc, hq, hr]
    rfl
  | false => exact if_neg Bool.false_ne_true
theorem peeks_sh' (ρ : Env) : ∀ ds : List D, freezes ρ (ds.map RV.sh) = fun k => k ds ρ
  | [] => rfl
  | d :: ds => by
    funext k
    show freezes ρ (ds.map RV.sh) (fun ds' ρ2 => k (d :: ds') ρ2) = _
    rw [peeks_sh' ρ ds]
theorem Ev.tup (h : EvA ρ as rs) (hf : ∀ k : List D → Env → Res, freezes ρ rs k = k ds ρ) (hz : ds.length ≤ 100) : Ev ρ (eTup as) (.sh (.tuple ds)) := fun k hx => by
  unfold eTup
  rw [h, hf]
  exact if_pos (Nat.le_trans hz (by decide))
theorem Ev.lstF (h : EvA ρ as rs) (hf : ∀ k : List D → Env → Res, freezes ρ rs k = k ds ρ) (hz : ds.length ≤ sizeLim) : Ev ρ (eLst as) (.ow (.list ds)) := fun k hx => by
  unfold eLst
  rw [h, hf]
  exact if_pos hz
theorem Ev.callO {f : DDef} {bs : List Bool} {es : List EV} {v : D} {fin : List (Option D)} (hs : EvA ρ as rs) (h1 : ioSlots bs rs = []) (h2 : argsOf ρ bs rs = some es) (h3 : f es = some (.ret (.ow v) fin)) (h4 : (lent ρ bs rs).isEmpty = true ∨ stillIn v = true ∧ fin.all stillO = true) (h5 : putBack ρ bs rs fin = ρ) : Ev ρ (eCall f bs as) (.ow v) := fun k h => by
  unfold eCall
  rw [hs]
  show (if apart (ioSlots bs rs) && (ioSlots bs rs).all (fun i => !(lent ρ bs rs).contains i) then opt (argsOf ρ bs rs) _ else none) = _
  rw [h1, h2]
  show opt (f es) _ = _
  rw [h3]
  show behind ρ bs rs (lent ρ bs rs) (.ret (.ow v) fin) k h = _
  unfold behind
  show (if (lent ρ bs rs).isEmpty || (EV.safe (.ow v) && fin.all stillO) then k (.ow v) (putBack ρ bs rs fin) else none) = _
  rw [if_pos (by
    rcases h4 with h4 | ⟨h4, h6⟩
    · rw [h4]; rfl
    · rw [show EV.safe (.ow v) = stillIn v from rfl, h4, h6]; simp), h5]
theorem sset_raw {C : Conts} : sSet i e ρ C = e ρ (fun r ρ1 => keep ρ1 r fun v ρ2 => put ρ2 i v C.nx) C.ex := rfl
theorem sif_raw {C : Conts} {s1 s2 : DS} : sIf c s1 s2 ρ C = c ρ (fun p ρ1 => if p = true then s1 ρ1 C else s2 ρ1 C) C.ex := rfl
theorem eB_raw {k : KV} {h : KX} : eB c ρ k h = c ρ (fun t ρ1 => k (.sh (.bool t)) ρ1) h := rfl
theorem cCmp_raw {f : D → D → Option Bool} {k : KB} {h : KX} : cCmp f a b ρ k h = a ρ (fun x ρ1 => b ρ1 (fun y ρ2 => match peek ρ2 x.w, peek ρ2 y.w with
  | some p, some q => opt (f p q) fun t => k t ρ2
  | _, _ => none) h) h := rfl
theorem sif_f {C : Conts} {s1 : DS} (h : EvT ρ c false) : sIf c s1 sNil ρ C = C.nx ρ := by
  unfold sIf
  rw [h]
  rfl
theorem for_it {C : Conts} {it : DI} {t : DT} {body : DS} (h : ∀ (k : List D → Env → Res) (h : KX), it ρ k h = k ds ρ) : sFor it t body ρ C = loop t body C ds ρ := by
  unfold sFor
  rw [h]
theorem kCons_raw {ks : DKs} {k : List EV → Env → Res} {h : KX} : kCons a ks ρ k h = a ρ (fun x ρ1 => keep ρ1 x fun u ρ2 => ks ρ2 (fun us ρ3 => k (u :: us) ρ3) h) h := rfl
theorem keep_ow {k : EV → Env → Res} : keep ρ (.ow p) k = k (.ow p) ρ := rfl
theorem keep_sh {k : EV → Env → Res} : keep ρ (.sh p) k = k (.sh p) ρ := rfl
theorem eFn_raw {f : List D → Option RV} {k : KV} {h : KX} : eFn f as ρ k h = as ρ (fun xs ρ1 => opt (peeks ρ1 xs) fun ds => opt (f ds) fun r => k r ρ1) h := rfl
theorem eTup_raw {k : KV} {h : KX} : eTup as ρ k h = as ρ (fun xs ρ1 => freezes ρ1 xs fun ds ρ2 => if ds.length ≤ sizeLim then k (.sh (.tuple ds)) ρ2 else none) h := rfl
theorem aCons_raw {k : KL} {h : KX} : aCons a as ρ k h = a ρ (fun x ρ1 => as ρ1 (fun xs ρ2 => k (x.w :: xs) ρ2) h) h := rfl
theorem cOr_raw {k : KB} {h : KX} : cOr ca cb ρ k h = ca ρ (fun p ρ1 => if p = true then k true ρ1 else cb ρ1 k h) h := rfl
theorem cNot_raw {k : KB} {h : KX} : cNot ca ρ k h = ca ρ (fun p ρ1 => k (!p) ρ1) h := rfl
theorem cVal_raw {k : KB} {h : KX} : cVal a ρ k h = a ρ (fun x ρ1 => opt ((peek ρ1 x.w).bind truth?) fun p => k p ρ1) h := rfl
theorem eLC_raw {vs : List Nat} {it : DI} {t : DT} {k : KV} {h : KX} : eLC vs it t c e ρ k h = it ρ (fun xs ρ1 => if bare ρ1 vs then lc vs t c e (fun ds ρ2 => k (.ow (.list ds)) (back ρ1 ρ2 vs)) xs (wipe ρ1 vs) [] else none) h := rfl
theorem sasg_raw {t : DT} {C : Conts} : sAsg t e ρ C = e ρ (fun r ρ1 => freeze ρ1 r fun d ρ2 => t d ρ2 C.nx) C.ex := rfl
theorem sif_fK {ρ1 : Env} {C : Conts} {s1 : DS} (h : ∀ (k : KB) (hx : KX), c ρ k hx = k false ρ1) : sIf c s1 sNil ρ C = C.nx ρ1 := by
  unfold sIf
  rw [h]
  rfl
theorem le_100 {n : Nat} (h : n ≤ 100) : n ≤ sizeLim := Nat.le_trans h (by decide)
theorem Ev.listR {f : List D → Option (List D)} {is : List D} (hs : EvA ρ as rs) (hp : peeks ρ rs = some ds) (hf : f ds = some is) : Ev ρ (eListR f as) (.ow (.list is)) := fun k h => by
  unfold eListR
  rw [hs, hp]
  show opt (f ds) _ = _
  rw [hf]
  rfl
theorem peeks_cons (h : peek ρ r = some p) (hs : peeks ρ rs = some ds) : peeks ρ (r :: rs) = some (p :: ds) := by
  unfold peeks
  rw [h, hs]
theorem sexpr_ev {C : Conts} (h : Ev ρ e r) : sExpr e ρ C = C.nx ρ := by
  unfold sExpr
  rw [h]
theorem sret_sh {C : Conts} (h : Ev ρ e (.sh p)) : sRet e ρ C = C.rt (.sh p) ρ := by
  unfold sRet
  rw [h]
  rfl
theorem sret_ow {C : Conts} (h : Ev ρ e (.ow p)) : sRet e ρ C = C.rt (.ow p) ρ := by
  unfold sRet
  rw [h]
  rfl
/-- a slot whose old value may be thrown away -/
def Lo' (u : Option EV) : Prop := match u with
  | some (.io _) => False
  | _ => True
theorem loose_lo' {u : Option EV} (h : ρ[i]? = some u) (hu : Lo' u) : loose ρ i = true := by
  unfold loose slot
  rw [h]
  have hl := (List.getElem?_eq_some_iff.mp h).1
  match u, hu with
  | none, _ => exact decide_eq_true hl
  | some (.sh d), _ => exact decide_eq_true hl
  | some (.ow d), _ => exact decide_eq_true hl
theorem put_lo' {u : Option EV} {e : EV} {k : Env → Res} (h : ρ[i]? = some u) (hu : Lo' u) : put ρ i e k = k (ρ.set i (some e)) := by
  unfold put
  have : loose ρ i = true := by
    unfold loose slot
    rw [h]
    have hl := (List.getElem?_eq_some_iff.mp h).1
    match u, hu with
    | none, _ => exact decide_eq_true hl
    | some (.sh d), _ => exact decide_eq_true hl
    | some (.ow d), _ => exact decide_eq_true hl
  rw [if_pos this]
theorem sset_sh {C : Conts} {u : Option EV} (h : ρ[i]? = some u) (hu : Lo' u) (he : Ev ρ e (.sh p)) : sSet i e ρ C = C.nx (ρ.set i (some (.sh p))) := by
  unfold sSet
  rw [he]
  exact put_lo' h hu
theorem sset_ow {C : Conts} {u : Option EV} (h : ρ[i]? = some u) (hu : Lo' u) (he : Ev ρ e (.ow p)) : sSet i e ρ C = C.nx (ρ.set i (some (.ow p))) := by
  unfold sSet
  rw [he]
  exact put_lo' h hu
/-- a comprehension, as an expression -/
theorem Ev.lc {α : Type} {enc : α → D} {vs : List Nat} {it : DI} {tt : DT} {ρ0 : Env} {l : List α} (bb : α → Bool) (g : α → D) (ρ' : α → Env)
    (hi : ∀ (k : List D → Env → Res) (h : KX), it ρ k h = k (l.map enc) ρ) (hb : bare ρ vs = true) (hw : wipe ρ vs = ρ0) (hk : back ρ ρ0 vs = ρ) (hz : l.length ≤ sizeLim)
    (H : ∀ a ∈ l, bare (ρ' a) vs = true ∧ wipe (ρ' a) vs = ρ0 ∧ ∀ (kt : D → Env → Res) (kf : Env → Res), tt (enc a) ρ0 (fun ρ1 => c ρ1 (fun p ρ2 => if p = true then e ρ2 (fun r ρ3 => freeze ρ3 r.w kt) noX else kf ρ2) noX) = if bb a = true then kt (g a) (ρ' a) else kf (ρ' a)) :
    Ev ρ (eLC vs it tt c e) (.ow (.list ((l.filter bb).map g))) := fun k h => by
  unfold eLC
  rw [hi, if_pos hb, hw]
  rw [lc_all (enc := enc) bb g ρ' l [] (by simpa using hz) H, List.nil_append, hk]
theorem it_range2 {i j : Int} {x y : RV} (ha : Ev ρ a x) (hb : Ev ρ b y) (hp : peek ρ x.w = some (.int i)) (hq : peek ρ y.w = some (.int j)) (hr : ranged2 [.int i, .int j] = some ds) : ∀ (k : List D → Env → Res) (h : KX), iRange ranged2 (aCons a (aCons b aNil)) ρ k h = k ds ρ := fun k h => by
  unfold iRange aCons
  rw [ha]
  dsimp only
  rw [hb]
  show opt (peeks ρ [x.w, y.w]) _ = _
  rw [peeks_cons hp (peeks_cons hq rfl)]
  show opt (ranged2 [.int i, .int j]) _ = _
  rw [hr]
  rfl
theorem it_range1 {i : Int} {x : RV} (ha : Ev ρ a x) (hp : peek ρ x.w = some (.int i)) (hr : ranged1 [.int i] = some ds) : ∀ (k : List D → Env → Res) (h : KX), iRange ranged1 (aCons a aNil) ρ k h = k ds ρ := fun k h => by
  unfold iRange aCons
  rw [ha]
  show opt (peeks ρ [x.w]) _ = _
  rw [peeks_cons hp rfl]
  show opt (ranged1 [.int i]) _ = _
  rw [hr]
  rfl
theorem it_seq {x : RV} (ha : Ev ρ a x) (hp : ∀ k : D → Env → Res, freeze ρ x.w k = k p ρ) (hr : walked p = some ds) : ∀ (k : List D → Env → Res) (h : KX), iSeq a ρ k h = k ds ρ := fun k h => by
  unfold iSeq
  rw [ha, hp]
  show opt (walked p) _ = _
  rw [hr]
  rfl
theorem tpair {i j : Nat} {u v : Option EV} {d1 d2 : D} {k : Env → Res} (hi : ρ[i]? = some u) (hj : (ρ.set i (some (.sh d1)))[j]? = some v) (hu : Lo' u) (hv : Lo' v) :
    tSeq (tsCons (tName i) (tsCons (tName j) tsNil)) (.tuple [d1, d2]) ρ k = k ((ρ.set i (some (.sh d1))).set j (some (.sh d2))) := by
  show put ρ i (.sh d1) (fun ρ1 => put ρ1 j (.sh d2) k) = _
  rw [put_lo' hi hu, put_lo' hj hv]
theorem tone {i : Nat} {u : Option EV} {d : D} {k : Env → Res} (hi : ρ[i]? = some u) (hu : Lo' u) : tName i d ρ k = k (ρ.set i (some (.sh d))) := put_lo' hi hu
/-- a loop by a relation between a plain state and the names -/
theorem loop_ex {α σ : Type} {enc : α → D} {t : DT} {body : DS} {C : Conts} (I : σ → Env → Prop) (f : σ → α → σ) : ∀ (l : List α) (s : σ) (ρ : Env), I s ρ →
    (∀ s ρ a, I s ρ → a ∈ l → ∃ ρ', I (f s a) ρ' ∧ ∀ kn : Env → Res, t (enc a) ρ (fun ρ1 => body ρ1 { C with nx := kn, ct := kn, bk := C.nx }) = kn ρ') →
    ∃ ρ', I (l.foldl f s) ρ' ∧ loop t body C (l.map enc) ρ = C.nx ρ'
  | [], s, ρ, p, _ => ⟨ρ, p, rfl⟩
  | a :: l, s, ρ, p, h => by
    obtain ⟨ρ1, p1, e1⟩ := h s ρ a p List.mem_cons_self
    obtain ⟨ρ2, p2, e2⟩ := loop_ex I f l (f s a) ρ1 p1 fun s ρ b hb hm => h s ρ b hb (List.mem_cons_of_mem _ hm)
    refine ⟨ρ2, p2, ?_⟩
    show t (enc a) ρ (fun ρ1 => body ρ1 { C with nx := loop t body C (l.map enc), ct := loop t body C (l.map enc), bk := C.nx }) = _
    rw [e1, e2]
/-- a loop that may leave: b tells with what -/
theorem loop_exit {α σ : Type} {enc : α → D} {t : DT} {body : DS} {C : Conts} (I : σ → Env → Prop) (f : σ → α → σ) (b : σ → α → Bool) (R : Res) : ∀ (l : List α) (s : σ) (ρ : Env), I s ρ →
    (∀ s ρ a, I s ρ → a ∈ l → (b s a = true ∧ ∀ kn : Env → Res, t (enc a) ρ (fun ρ1 => body ρ1 { C with nx := kn, ct := kn, bk := C.nx }) = R) ∨ (b s a = false ∧ ∃ ρ', I (f s a) ρ' ∧ ∀ kn : Env → Res, t (enc a) ρ (fun ρ1 => body ρ1 { C with nx := kn, ct := kn, bk := C.nx }) = kn ρ')) →
    (∃ l1 a l2, l = l1 ++ a :: l2 ∧ b (l1.foldl f s) a = true ∧ loop t body C (l.map enc) ρ = R) ∨ ∃ ρ', I (l.foldl f s) ρ' ∧ (∀ l1 a l2, l = l1 ++ a :: l2 → b (l1.foldl f s) a = false) ∧ loop t body C (l.map enc) ρ = C.nx ρ'
  | [], s, ρ, p, _ => .inr ⟨ρ, p, fun l1 a l2 e => by simp at e, rfl⟩
  | a :: l, s, ρ, p, h => by
    rcases h s ρ a p List.mem_cons_self with ⟨hb, e⟩ | ⟨hb, ρ1, p1, e1⟩
    · exact .inl ⟨[], a, l, rfl, hb, e _⟩
    · rcases loop_exit I f b R l (f s a) ρ1 p1 fun s ρ c hc hm => h s ρ c hc (List.mem_cons_of_mem _ hm) with ⟨l1, c, l2, el, hc, e⟩ | ⟨ρ2, p2, hn, e⟩
      · exact .inl ⟨a :: l1, c, l2, by rw [el]; rfl, hc, (e1 _).trans e⟩
      · refine .inr ⟨ρ2, p2, fun l1 c l2 el => ?_, (e1 _).trans e⟩
        cases l1 with
        | nil => cases el; exact hb
        | cons d l1 => cases el; exact hn l1 c l2 rfl
theorem opt_some' {α : Type} {x : Option α} {a : α} {k : α → Res} (h : x = some a) : opt x k = k a := by rw [h]; rfl
end
end DL
set_option maxRecDepth 100000
set_option maxHeartbeats 0
/-! The plain functions of the defs. -/
namespace DL.k43
open PySem
noncomputable def G_law_draws : DS := (sSeq (sSet 1 (eLst aNil))
  (sSeq (sFor (iSeq (eVar 0)) (tName 2) (sSeq (sSet 5 (eOp modD (eFn intD (aCons (eFn absD (aCons (eVar 2) aNil)) aNil)) (eOp powD (eC (.int 997)) (eC (.int 60)))))
  (sSeq (sIf (cCmp ltD (eVar 5) (eOp powD (eC (.int 10)) (eC (.int 18)))) (sSeq (sSet 6 (eOp modD (eFn intD (aCons (eOp addD (eOp mulD (eVar 5) (eC (.int 48271))) (eC (.int 11))) aNil)) (eC (.int 2147483647))))
  (sSeq (sExpr (eAppend 1 (eOp modD (eFn intD (aCons (eOp addD (eOp mulD (eVar 6) (eC (.int 69621))) (eVar 5)) aNil)) (eC (.int 2147483629)))))
  (sSeq (sExpr (eAppend 1 (eOp modD (eFn intD (aCons (eOp addD (eVar 6) (eOp fdivD (eVar 5) (eC (.int 7)))) aNil)) (eC (.int 1000003)))))
  (sSet 5 (eC (.int 0)))))) sNil)
  (sFor (iRange ranged1 (aCons (eC (.int 60)) aNil)) (tName 4) (sIf (cCmp gtD (eVar 5) (eC (.int 0))) (sSeq (sExpr (eAppend 1 (eOp modD (eFn intD (aCons (eVar 5) aNil)) (eC (.int 997)))))
  (sSet 5 (eOp fdivD (eVar 5) (eC (.int 997))))) sNil)))))
  (sSeq (sSet 3 (eC (.int 1)))
  (sSeq (sIf (cCmp gtD (eFn lenD (aCons (eVar 0) aNil)) (eC (.int 0))) (sSet 3 (eOp addD (eC (.int 1)) (eFn absD (aCons (eOp ixD (eVar 0) (eC (.int 0))) aNil)))) sNil)
  (sSeq (sFor (iRange ranged1 (aCons (eC (.int 9000)) aNil)) (tName 4) (sSeq (sSet 3 (eOp modD (eFn intD (aCons (eOp addD (eOp mulD (eVar 3) (eC (.int 48271))) (eC (.int 69621))) aNil)) (eC (.int 2147483647))))
  (sExpr (eAppend 1 (eOp fdivD (eVar 3) (eC (.int 5)))))))
  (sRet (eUn listRevD (eVar 1))))))))
noncomputable def F_law_draws : DDef := dDef 7 G_law_draws
noncomputable def G_law_take : DS := (sSeq (sIf (cCmp eqD (eFn lenD (aCons (eVar 0) aNil)) (eC (.int 0))) (sRet (eC (.int 0))) sNil)
  (sRet (eOp modD (eFn intD (aCons (ePop 0) aNil)) (eVar 1))))
noncomputable def F_law_take : DDef := dDef 2 G_law_take
noncomputable def G_law_pick : DS := (sRet (eOp ixD (eVar 1) (eCall F_law_take [true, false] (aCons (eVar 0) (aCons (eFn lenD (aCons (eVar 1) aNil)) aNil)))))
noncomputable def F_law_pick : DDef := dDef 2 G_law_pick
noncomputable def G_law_stays : DS := (sSeq (sPar [2, 3] (kCons (eLst aNil) (kCons (eCall F_law_take [true, false] (aCons (eVar 0) (aCons (eC (.int 100)) aNil))) kNil)))
  (sSeq (sFor (iRange ranged1 (aCons (eCall F_law_take [true, false] (aCons (eVar 0) (aCons (eCall F_law_pick [true, false] (aCons (eVar 0) (aCons (eLst (aCons (eC (.int 5)) (aCons (eC (.int 40)) (aCons (eC (.int 200)) aNil)))) aNil))) aNil))) aNil)) (tName 1) (sSeq (sSet 4 (eOp addD (eVar 3) (eCall F_law_pick [true, false] (aCons (eVar 0) (aCons (eLst (aCons (eC (.int 0)) (aCons (eC (.int 1)) (aCons (eC (.int 6)) (aCons (eC (.int 30)) (aCons (eCall F_law_take [true, false] (aCons (eVar 0) (aCons (eC (.int 60)) aNil))) aNil)))))) aNil)))))
  (sSeq (sExpr (eAppend 2 (eTup (aCons (eVar 3) (aCons (eVar 4) aNil)))))
  (sSet 3 (eOp addD (eOp addD (eVar 4) (eC (.int 1))) (eCall F_law_pick [true, false] (aCons (eVar 0) (aCons (eLst (aCons (eC (.int 0)) (aCons (eC (.int 1)) (aCons (eC (.int 30)) (aCons (eC (.int 100)) (aCons (eCall F_law_take [true, false] (aCons (eVar 0) (aCons (eC (.int 200)) aNil))) aNil)))))) aNil))))))))
  (sRet (eVar 2))))
noncomputable def F_law_stays : DDef := dDef 5 G_law_stays
noncomputable def G_check : DS := (sIf (cNot (cVal (eVar 0))) sNo sNil)
noncomputable def F_check : DDef := dDef 1 G_check
noncomputable def G_is_integer : DS := (sRet (eAnd (eIsi "int" (eVar 0)) (eNot (eIsi "bool" (eVar 0)))))
noncomputable def F_is_integer : DDef := dDef 1 G_is_integer
noncomputable def G_is_within : DS := (sRet (eAnd (eCall F_is_integer [false] (aCons (eVar 0) aNil)) (eB (cChain leD leD (eVar 1) (eVar 0) (eVar 2)))))
noncomputable def F_is_within : DDef := dDef 3 G_is_within
noncomputable def G_is_day_papers : DS := (sRet (eCall F_is_within [false, false, false] (aCons (eVar 0) (aCons (eC (.int 0)) (aCons (eC (.int 100000)) aNil)))))
noncomputable def F_is_day_papers : DDef := dDef 1 G_is_day_papers
noncomputable def G_are_stays : DS := (sSeq (sIf (cOr (cNot (cVal (eIsi "list" (eVar 0)))) (cCmp gtD (eFn lenD (aCons (eVar 0) aNil)) (eC (.int 200)))) (sRet (eC (.bool false))) sNil)
  (sSeq (sIf (cNot (cVal (eFn allD (aCons (eLC [1] (iSeq (eVar 0)) (tName 1) yes (eAnd (eIsi "tuple" (eVar 1)) (eAnd (eB (cCmp eqD (eFn lenD (aCons (eVar 1) aNil)) (eC (.int 2)))) (eAnd (eCall F_is_day_papers [false] (aCons (eOp ixD (eVar 1) (eC (.int 0))) aNil)) (eCall F_is_day_papers [false] (aCons (eOp ixD (eVar 1) (eC (.int 1))) aNil)))))) aNil)))) (sRet (eC (.bool false))) sNil)
  (sRet (eAnd (eFn allD (aCons (eLC [2, 3] (iSeq (eVar 0)) (tSeq (tsCons (tName 2) (tsCons (tName 3) tsNil))) yes (eB (cCmp leD (eVar 2) (eVar 3)))) aNil)) (eFn allD (aCons (eLC [4, 5] (iZip (aCons (eVar 0) (aCons (eSl (eVar 0) (pAt (eC (.int 1))) pNo) aNil))) (tSeq (tsCons (tName 4) (tsCons (tName 5) tsNil))) yes (eB (cCmp ltD (eOp ixD (eVar 4) (eC (.int 1))) (eOp ixD (eVar 5) (eC (.int 0)))))) aNil))))))
noncomputable def F_are_stays : DDef := dDef 6 G_are_stays
noncomputable def G_joined_stays : DS := (sSeq (sExpr (eCall F_check [false] (aCons (eCall F_are_stays [false] (aCons (eVar 0) aNil)) aNil)))
  (sSeq (sExpr (eCall F_check [false] (aCons (eAnd (eCall F_is_day_papers [false] (aCons (eVar 1) aNil)) (eAnd (eCall F_is_day_papers [false] (aCons (eVar 2) aNil)) (eB (cCmp leD (eVar 1) (eVar 2))))) aNil)))
  (sSeq (sSet 3 (eLst aNil))
  (sSeq (sFor (iSeq (eFn sortedD (aCons (eLst (aStar (eVar 0) (aCons (eTup (aCons (eVar 1) (aCons (eVar 2) aNil))) aNil))) aNil))) (tSeq (tsCons (tName 4) (tsCons (tName 5) tsNil))) (sIf (cAnd (cCmp gtD (eFn lenD (aCons (eVar 3) aNil)) (eC (.int 0))) (cCmp leD (eVar 4) (eOp addD (eOp ixD (eOp ixD (eVar 3) (eUn negD (eC (.int 1)))) (eC (.int 1))) (eC (.int 1))))) (sSetIx 3 (eUn negD (eC (.int 1))) (eTup (aCons (eOp ixD (eOp ixD (eVar 3) (eUn negD (eC (.int 1)))) (eC (.int 0))) (aCons (eFn maxD (aCons (eOp ixD (eOp ixD (eVar 3) (eUn negD (eC (.int 1)))) (eC (.int 1))) (aCons (eVar 5) aNil))) aNil)))) (sExpr (eAppend 3 (eTup (aCons (eVar 4) (aCons (eVar 5) aNil)))))))
  (sSeq (sIf (cCmp gtD (eFn lenD (aCons (eVar 3) aNil)) (eC (.int 200))) sNo sNil)
  (sRet (eVar 3)))))))
noncomputable def F_joined_stays : DDef := dDef 6 G_joined_stays
noncomputable def G_is_rule_stays : DS := (sSeq (sIf (cOr (cNot (cVal (eIsi "tuple" (eVar 0)))) (cOr (cCmp neD (eFn lenD (aCons (eVar 0) aNil)) (eC (.int 2))) (cNot (cVal (eCall F_is_within [false, false, false] (aCons (eOp ixD (eVar 0) (eC (.int 1))) (aCons (eC (.int 1)) (aCons (eC (.int 1000)) aNil)))))))) (sRet (eC (.bool false))) sNil)
  (sRet (eCall F_is_within [false, false, false] (aCons (eOp ixD (eVar 0) (eC (.int 0))) (aCons (eC (.int 1)) (aCons (eOp ixD (eVar 0) (eC (.int 1))) aNil))))))
noncomputable def F_is_rule_stays : DDef := dDef 1 G_is_rule_stays
noncomputable def G_check_stays : DS := (sSeq (sExpr (eCall F_check [false] (aCons (eCall F_are_stays [false] (aCons (eVar 0) aNil)) aNil)))
  (sExpr (eCall F_check [false] (aCons (eCall F_is_rule_stays [false] (aCons (eVar 1) aNil)) aNil))))
noncomputable def F_check_stays : DDef := dDef 2 G_check_stays
noncomputable def G_last_of : DS := (sRet (eIf (cCmp gtD (eFn lenD (aCons (eVar 0) aNil)) (eC (.int 0))) (eOp ixD (eOp ixD (eVar 0) (eUn negD (eC (.int 1)))) (eC (.int 1))) (eUn negD (eC (.int 1)))))
noncomputable def F_last_of : DDef := dDef 1 G_last_of
noncomputable def G_check_behind : DS := (sIf (cCmp leD (eVar 1) (eCall F_last_of [false] (aCons (eVar 0) aNil))) sNo sNil)
noncomputable def F_check_behind : DDef := dDef 2 G_check_behind
noncomputable def G_days_by : DS := (sRet (eFn sumD (aCons (eLC [3, 4] (iSeq (eVar 0)) (tSeq (tsCons (tName 3) (tsCons (tName 4) tsNil))) yes (eFn maxD (aCons (eC (.int 0)) (aCons (eOp addD (eOp subD (eFn minD (aCons (eVar 4) (aCons (eVar 2) aNil))) (eFn maxD (aCons (eVar 3) (aCons (eVar 1) aNil)))) (eC (.int 1))) aNil)))) aNil)))
noncomputable def F_days_by : DDef := dDef 5 G_days_by
noncomputable def G_used_by : DS := (sRet (eCall F_days_by [false, false, false] (aCons (eVar 0) (aCons (eOp addD (eOp subD (eVar 2) (eVar 1)) (eC (.int 1))) (aCons (eVar 2) aNil)))))
noncomputable def F_used_by : DDef := dDef 3 G_used_by
noncomputable def G_first_entry : DS := (sSeq (sExpr (eCall F_check_stays [false, false] (aCons (eVar 0) (aCons (eVar 1) aNil))))
  (sSeq (sExpr (eCall F_check [false] (aCons (eCall F_is_day_papers [false] (aCons (eVar 2) aNil)) aNil)))
  (sSeq (sExpr (eCall F_check [false] (aCons (eCall F_is_within [false, false, false] (aCons (eVar 3) (aCons (eC (.int 1)) (aCons (eOp ixD (eVar 1) (eC (.int 0))) aNil)))) aNil)))
  (sSeq (sExpr (eCall F_check_behind [false, false] (aCons (eVar 0) (aCons (eVar 2) aNil))))
  (sSeq (sAsg (tSeq (tsCons (tName 7) (tsCons (tName 8) tsNil))) (eVar 1))
  (sSeq (sSet 4 (eFn maxD (aCons (eVar 2) (aCons (eOp addD (eCall F_last_of [false] (aCons (eVar 0) aNil)) (eVar 8)) aNil))))
  (sSeq (sSet 5 (eLC [9] (iRange ranged2 (aCons (eVar 2) (aCons (eOp addD (eVar 4) (eVar 3)) aNil))) (tName 9) yes (eCall F_used_by [false, false, false] (aCons (eVar 0) (aCons (eVar 8) (aCons (eVar 9) aNil))))))
  (sSeq (sFor (iRange ranged2 (aCons (eVar 2) (aCons (eVar 4) aNil))) (tName 6) (sIf (cVal (eFn allD (aCons (eLC [10] (iRange ranged1 (aCons (eVar 3) aNil)) (tName 10) yes (eB (cCmp ltD (eOp addD (eOp ixD (eVar 5) (eOp addD (eOp subD (eVar 6) (eVar 2)) (eVar 10))) (eVar 10)) (eVar 7)))) aNil))) (sRet (eVar 6)) sNil))
  (sRet (eVar 4))))))))))
noncomputable def F_first_entry : DDef := dDef 11 G_first_entry
noncomputable def G_used_days : DS := (sSeq (sSet 2 (eLC2 [7, 8, 6] [6] (iSeq (eVar 0)) (tSeq (tsCons (tName 7) (tsCons (tName 8) tsNil))) yes (iRange ranged2 (aCons (eVar 7) (aCons (eOp addD (eVar 8) (eC (.int 1))) aNil))) (tName 6) yes (eVar 6)))
  (sSeq (sPar [3, 4] (kCons (eLst aNil) (kCons (eC (.int 0)) kNil)))
  (sSeq (sFor (iEnum (aCons (eVar 2) aNil)) (tSeq (tsCons (tName 5) (tsCons (tName 6) tsNil))) (sSeq (sWhile (cCmp leD (eOp ixD (eVar 2) (eVar 4)) (eOp subD (eVar 6) (eVar 1))) (sAug iaddD 4 (eC (.int 1))))
  (sExpr (eAppend 3 (eTup (aCons (eVar 6) (aCons (eOp addD (eOp subD (eVar 5) (eVar 4)) (eC (.int 1))) aNil)))))))
  (sRet (eVar 3)))))
noncomputable def F_used_days : DDef := dDef 9 G_used_days
noncomputable def G_over_days : DS := (sSeq (sExpr (eCall F_check_stays [false, false] (aCons (eVar 0) (aCons (eVar 1) aNil))))
  (sSeq (sSet 2 (eLst aNil))
  (sSeq (sFor (iSeq (eCall F_used_days [false, false] (aCons (eVar 0) (aCons (eOp ixD (eVar 1) (eC (.int 1))) aNil)))) (tSeq (tsCons (tName 3) (tsCons (tName 4) tsNil))) (sIf (cCmp gtD (eVar 4) (eOp ixD (eVar 1) (eC (.int 0)))) (sIf (cAnd (cCmp gtD (eFn lenD (aCons (eVar 2) aNil)) (eC (.int 0))) (cCmp eqD (eOp ixD (eOp ixD (eVar 2) (eUn negD (eC (.int 1)))) (eC (.int 1))) (eOp subD (eVar 3) (eC (.int 1))))) (sSetIx 2 (eUn negD (eC (.int 1))) (eTup (aCons (eOp ixD (eOp ixD (eVar 2) (eUn negD (eC (.int 1)))) (eC (.int 0))) (aCons (eVar 3) aNil)))) (sExpr (eAppend 2 (eTup (aCons (eVar 3) (aCons (eVar 3) aNil)))))) sNil))
  (sRet (eVar 2)))))
noncomputable def F_over_days : DDef := dDef 5 G_over_days
noncomputable def G_do_keep : DS := (sRet (eB (cCmp eqD (eFn lenD (aCons (eCall F_over_days [false, false] (aCons (eVar 0) (aCons (eVar 1) aNil))) aNil)) (eC (.int 0)))))
noncomputable def F_do_keep : DDef := dDef 2 G_do_keep
noncomputable def G_law_same (self : DDef) : DS := (sSeq (sIf (cVal (eIsi "dict" (eVar 1))) (sSeq (sIf (cOr (cNot (cVal (eIsi "dict" (eVar 0)))) (cCmp neD (eFn sortedD (aCons (eFn listD (aCons (eVar 0) aNil)) aNil)) (eFn sortedD (aCons (eFn listD (aCons (eVar 1) aNil)) aNil)))) (sRet (eC (.bool false))) sNil)
  (sRet (eFn allD (aCons (eLC [2] (iSeq (eVar 1)) (tName 2) yes (eCall self [false, false] (aCons (eOp ixD (eVar 0) (eVar 2)) (aCons (eOp ixD (eVar 1) (eVar 2)) aNil)))) aNil)))) sNil)
  (sSeq (sIf (cOr (cVal (eIsi "tuple" (eVar 1))) (cVal (eIsi "list" (eVar 1)))) (sSeq (sIf (cOr (cCmp neD (eIsi "tuple" (eVar 1)) (eIsi "tuple" (eVar 0))) (cCmp neD (eIsi "list" (eVar 1)) (eIsi "list" (eVar 0)))) (sRet (eC (.bool false))) sNil)
  (sRet (eAnd (eB (cCmp eqD (eFn lenD (aCons (eVar 0) aNil)) (eFn lenD (aCons (eVar 1) aNil)))) (eFn allD (aCons (eLC [3] (iRange ranged1 (aCons (eFn lenD (aCons (eVar 1) aNil)) aNil)) (tName 3) yes (eCall self [false, false] (aCons (eOp ixD (eVar 0) (eVar 3)) (aCons (eOp ixD (eVar 1) (eVar 3)) aNil)))) aNil))))) sNil)
  (sSeq (sIf (cCmp isD (eVar 1) (eC .none)) (sRet (eB (cCmp isD (eVar 0) (eC .none)))) sNil)
  (sSeq (sIf (cCmp neD (eIsi "bool" (eVar 1)) (eIsi "bool" (eVar 0))) (sRet (eC (.bool false))) sNil)
  (sSeq (sIf (cOr (cCmp neD (eIsi "int" (eVar 1)) (eIsi "int" (eVar 0))) (cCmp neD (eIsi "str" (eVar 1)) (eIsi "str" (eVar 0)))) (sRet (eC (.bool false))) sNil)
  (sRet (eB (cCmp eqD (eVar 0) (eVar 1)))))))))
noncomputable def F_law_sameR : Nat → DDef
  | 0 => fNo
  | n + 1 => dDef 4 (G_law_same (F_law_sameR n))
noncomputable abbrev F_law_same : DDef := F_law_sameR 3
noncomputable def G_most_used : DS := (sSeq (sExpr (eCall F_check_stays [false, false] (aCons (eVar 0) (aCons (eVar 1) aNil))))
  (sRet (eFn maxLD (aCons (eLst (aCons (eC (.int 0)) (aStar (eLC [2, 3] (iSeq (eCall F_used_days [false, false] (aCons (eVar 0) (aCons (eOp ixD (eVar 1) (eC (.int 1))) aNil)))) (tSeq (tsCons (tName 2) (tsCons (tName 3) tsNil))) yes (eVar 3)) aNil))) aNil))))
noncomputable def F_most_used : DDef := dDef 4 G_most_used
noncomputable def G_is_day_checkstays : DS := (sRet (eCall F_is_within [false, false, false] (aCons (eVar 0) (aCons (eC (.int 0)) (aCons (eC (.int 100000)) aNil)))))
noncomputable def F_is_day_checkstays : DDef := dDef 1 G_is_day_checkstays
noncomputable def G_need_stays : DS := (sSeq (sExpr (eCall F_check [false] (aCons (eAnd (eIsi "list" (eVar 0)) (eB (cCmp leD (eFn lenD (aCons (eVar 0) aNil)) (eC (.int 200))))) aNil)))
  (sSeq (sExpr (eCall F_check [false] (aCons (eFn allD (aCons (eLC [1] (iSeq (eVar 0)) (tName 1) yes (eAnd (eIsi "tuple" (eVar 1)) (eAnd (eB (cCmp eqD (eFn lenD (aCons (eVar 1) aNil)) (eC (.int 2)))) (eAnd (eCall F_is_day_checkstays [false] (aCons (eOp ixD (eVar 1) (eC (.int 0))) aNil)) (eCall F_is_day_checkstays [false] (aCons (eOp ixD (eVar 1) (eC (.int 1))) aNil)))))) aNil)) aNil)))
  (sSeq (sExpr (eCall F_check [false] (aCons (eFn allD (aCons (eLC [2, 3] (iSeq (eVar 0)) (tSeq (tsCons (tName 2) (tsCons (tName 3) tsNil))) yes (eB (cCmp leD (eVar 2) (eVar 3)))) aNil)) aNil)))
  (sExpr (eCall F_check [false] (aCons (eFn allD (aCons (eLC [1, 4] (iZip (aCons (eVar 0) (aCons (eSl (eVar 0) (pAt (eC (.int 1))) pNo) aNil))) (tSeq (tsCons (tName 1) (tsCons (tName 4) tsNil))) yes (eB (cCmp ltD (eOp ixD (eVar 1) (eC (.int 1))) (eOp ixD (eVar 4) (eC (.int 0)))))) aNil)) aNil))))))
noncomputable def F_need_stays : DDef := dDef 5 G_need_stays
noncomputable def G_all_over : DS := (sSeq (sAsg (tSeq (tsCons (tName 2) (tsCons (tName 3) tsNil))) (eVar 1))
  (sRet (eLC [4, 5] (iEnum (aCons (eVar 0) aNil)) (tSeq (tsCons (tName 4) (tsCons (tName 5) tsNil))) (cAnd (cCmp geD (eVar 4) (eVar 2)) (cCmp gtD (eOp ixD (eVar 0) (eOp subD (eVar 4) (eVar 2))) (eOp subD (eVar 5) (eVar 3)))) (eVar 5))))
noncomputable def F_all_over : DDef := dDef 6 G_all_over
noncomputable def G_is_rule_checkstays : DS := (sSeq (sIf (cOr (cNot (cVal (eIsi "tuple" (eVar 0)))) (cCmp neD (eFn lenD (aCons (eVar 0) aNil)) (eC (.int 2)))) (sRet (eC (.bool false))) sNil)
  (sRet (eAnd (eCall F_is_within [false, false, false] (aCons (eOp ixD (eVar 0) (eC (.int 1))) (aCons (eC (.int 1)) (aCons (eC (.int 1000)) aNil)))) (eCall F_is_within [false, false, false] (aCons (eOp ixD (eVar 0) (eC (.int 0))) (aCons (eC (.int 1)) (aCons (eOp ixD (eVar 0) (eC (.int 1))) aNil)))))))
noncomputable def F_is_rule_checkstays : DDef := dDef 1 G_is_rule_checkstays
noncomputable def G_takes_over : DS := (sSeq (sExpr (eCall F_need_stays [false] (aCons (eVar 0) aNil)))
  (sSeq (sIf (cNot (cVal (eCall F_is_rule_checkstays [false] (aCons (eVar 1) aNil)))) (sRet (eC (.bool false))) sNil)
  (sSeq (sSet 3 (eCall F_all_over [false, false] (aCons (eLC2 [8, 9, 7] [7] (iSeq (eVar 0)) (tSeq (tsCons (tName 8) (tsCons (tName 9) tsNil))) yes (iRange ranged2 (aCons (eVar 8) (aCons (eOp addD (eVar 9) (eC (.int 1))) aNil))) (tName 7) yes (eVar 7)) (aCons (eVar 1) aNil))))
  (sSeq (sSet 4 (eDC [7] (iSeq (eVar 3)) (tName 7) yes (eVar 7) (eC (.bool true))))
  (sSeq (sSet 5 (eLC [7] (iSeq (eVar 3)) (tName 7) (cCmp notInD (eOp subD (eVar 7) (eC (.int 1))) (eVar 4)) (eVar 7)))
  (sSeq (sSet 6 (eLC [7] (iSeq (eVar 3)) (tName 7) (cCmp notInD (eOp addD (eVar 7) (eC (.int 1))) (eVar 4)) (eVar 7)))
  (sRet (eB (cCmp eqD (eVar 2) (eFn listZipD (aCons (eVar 5) (aCons (eVar 6) aNil))))))))))))
noncomputable def F_takes_over : DDef := dDef 10 G_takes_over
noncomputable def G_used_on : DS := (sSeq (sExpr (eCall F_check_stays [false, false] (aCons (eVar 0) (aCons (eVar 1) aNil))))
  (sSeq (sExpr (eCall F_check [false] (aCons (eCall F_is_day_papers [false] (aCons (eVar 2) aNil)) aNil)))
  (sRet (eCall F_used_by [false, false, false] (aCons (eVar 0) (aCons (eOp ixD (eVar 1) (eC (.int 1))) (aCons (eVar 2) aNil)))))))
noncomputable def F_used_on : DDef := dDef 3 G_used_on
noncomputable def G_law_is_over_due : DS := (sSeq (sPar [6, 7, 8] (kCons (eLst aNil) (kCons (eC (.int 0)) (kCons (eLst aNil) kNil))))
  (sSeq (sFor (iSeq (eVar 0)) (tSeq (tsCons (tName 9) (tsCons (tName 10) tsNil))) (sSet 6 (eOp addD (eVar 6) (eListR (bound ranged2) (aCons (eVar 9) (aCons (eOp addD (eVar 10) (eC (.int 1))) aNil))))))
  (sSeq (sSet 2 (eC (.int 0)))
  (sSeq (sFor (iRange ranged1 (aCons (eFn lenD (aCons (eVar 6) aNil)) aNil)) (tName 3) (sSeq (sWhile (cCmp leD (eOp ixD (eVar 6) (eVar 7)) (eOp subD (eOp ixD (eVar 6) (eVar 3)) (eOp ixD (eVar 1) (eC (.int 1))))) (sSet 7 (eOp addD (eVar 7) (eC (.int 1)))))
  (sSeq (sSet 2 (eFn maxD (aCons (eVar 2) (aCons (eOp addD (eOp subD (eVar 3) (eVar 7)) (eC (.int 1))) aNil))))
  (sIf (cCmp gtD (eOp addD (eOp subD (eVar 3) (eVar 7)) (eC (.int 1))) (eOp ixD (eVar 1) (eC (.int 0)))) (sExpr (eAppend 8 (eOp ixD (eVar 6) (eVar 3)))) sNil))))
  (sSeq (sSet 4 (eCall F_over_days [false, false] (aCons (eVar 0) (aCons (eVar 1) aNil))))
  (sSeq (sSet 5 (eLst aNil))
  (sSeq (sFor (iSeq (eVar 4)) (tSeq (tsCons (tName 11) (tsCons (tName 12) tsNil))) (sSet 5 (eOp addD (eVar 5) (eListR (bound ranged2) (aCons (eVar 11) (aCons (eOp addD (eVar 12) (eC (.int 1))) aNil))))))
  (sSeq (sIf (cOr (cCmp neD (eVar 5) (eVar 8)) (cOr (cCmp neD (eLC [3] (iRange ranged1 (aCons (eOp subD (eFn lenD (aCons (eVar 4) aNil)) (eC (.int 1))) aNil)) (tName 3) (cCmp geD (eOp addD (eOp ixD (eOp ixD (eVar 4) (eVar 3)) (eC (.int 1))) (eC (.int 1))) (eOp ixD (eOp ixD (eVar 4) (eOp addD (eVar 3) (eC (.int 1)))) (eC (.int 0)))) (eVar 3)) (eLst aNil)) (cCmp neD (eCall F_most_used [false, false] (aCons (eVar 0) (aCons (eVar 1) aNil))) (eVar 2)))) (sRet (eC (.bool false))) sNil)
  (sSeq (sIf (cNot (cVal (eCall F_law_same [false, false] (aCons (eLst (aCons (eCall F_do_keep [false, false] (aCons (eVar 0) (aCons (eVar 1) aNil))) (aCons (eCall F_takes_over [false, false, false] (aCons (eVar 0) (aCons (eVar 1) (aCons (eFn listD (aCons (eVar 4) aNil)) aNil)))) (aCons (eCall F_takes_over [false, false, false] (aCons (eVar 0) (aCons (eVar 1) (aCons (eOp addD (eVar 4) (eLst (aCons (eTup (aCons (eC (.int 0)) (aCons (eC (.int 0)) aNil))) aNil))) aNil)))) aNil)))) (aCons (eLst (aCons (eB (cCmp eqD (eVar 8) (eLst aNil))) (aCons (eC (.bool true)) (aCons (eC (.bool false)) aNil)))) aNil))))) (sRet (eC (.bool false))) sNil)
  (sRet (eB (cCmp eqD (eLC [13] (iSeq (eSl (eVar 4) pNo (pAt (eC (.int 5))))) (tName 13) (cCmp leD (eCall F_used_on [false, false, false] (aCons (eVar 0) (aCons (eVar 1) (aCons (eOp ixD (eVar 13) (eC (.int 0))) aNil)))) (eOp ixD (eVar 1) (eC (.int 0)))) (eVar 13)) (eLst aNil)))))))))))))
noncomputable def F_law_is_over_due : DDef := dDef 14 G_law_is_over_due
noncomputable def G_rest_by : DS := (sSeq (sSet 3 (eC (.int 0)))
  (sSeq (sWhile (cAnd (cCmp ltD (eVar 3) (eOp ixD (eVar 1) (eC (.int 0)))) (cCmp leD (eOp addD (eCall F_used_by [false, false, false] (aCons (eVar 0) (aCons (eOp ixD (eVar 1) (eC (.int 1))) (aCons (eOp addD (eVar 2) (eVar 3)) aNil)))) (eFn minD (aCons (eOp addD (eVar 3) (eC (.int 1))) (aCons (eOp ixD (eVar 1) (eC (.int 1))) aNil)))) (eOp ixD (eVar 1) (eC (.int 0))))) (sAug iaddD 3 (eC (.int 1))))
  (sRet (eVar 3))))
noncomputable def F_rest_by : DDef := dDef 4 G_rest_by
noncomputable def G_rest_from : DS := (sSeq (sExpr (eCall F_check_stays [false, false] (aCons (eVar 0) (aCons (eVar 1) aNil))))
  (sSeq (sExpr (eCall F_check [false] (aCons (eCall F_is_day_papers [false] (aCons (eVar 2) aNil)) aNil)))
  (sSeq (sExpr (eCall F_check_behind [false, false] (aCons (eVar 0) (aCons (eVar 2) aNil))))
  (sRet (eCall F_rest_by [false, false, false] (aCons (eVar 0) (aCons (eVar 1) (aCons (eVar 2) aNil))))))))
noncomputable def F_rest_from : DDef := dDef 3 G_rest_from
noncomputable def G_free_again : DS := (sSeq (sExpr (eCall F_check_stays [false, false] (aCons (eVar 0) (aCons (eVar 1) aNil))))
  (sSeq (sExpr (eCall F_check [false] (aCons (eCall F_is_day_papers [false] (aCons (eVar 2) aNil)) aNil)))
  (sSeq (sExpr (eCall F_check_behind [false, false] (aCons (eVar 0) (aCons (eVar 2) aNil))))
  (sRet (eIf (cCmp gtD (eFn lenD (aCons (eVar 0) aNil)) (eC (.int 0))) (eFn maxD (aCons (eVar 2) (aCons (eOp addD (eCall F_last_of [false] (aCons (eVar 0) aNil)) (eOp ixD (eVar 1) (eC (.int 1)))) aNil))) (eVar 2))))))
noncomputable def F_free_again : DDef := dDef 3 G_free_again
noncomputable def G_last_day : DS := (sSeq (sSet 3 (eCall F_rest_from [false, false, false] (aCons (eVar 0) (aCons (eVar 1) (aCons (eVar 2) aNil)))))
  (sRet (eIf (cCmp gtD (eVar 3) (eC (.int 0))) (eOp subD (eOp addD (eVar 2) (eVar 3)) (eC (.int 1))) (eC .none))))
noncomputable def F_last_day : DDef := dDef 4 G_last_day
noncomputable def G_can_stay : DS := (sSeq (sSet 4 (eLst (aStar (eVar 0) (aStarR (bound ranged2) (aCons (eVar 2) (aCons (eOp addD (eVar 2) (eVar 3)) aNil)) aNil))))
  (sRet (eNot (eFn anyD (aCons (eLC [5] (iSeq (eCall F_all_over [false, false] (aCons (eVar 4) (aCons (eVar 1) aNil)))) (tName 5) yes (eB (cCmp geD (eVar 5) (eVar 2)))) aNil)))))
noncomputable def F_can_stay : DDef := dDef 6 G_can_stay
noncomputable def G_takes_entry : DS := (sSeq (sExpr (eCall F_need_stays [false] (aCons (eVar 0) aNil)))
  (sSeq (sIf (cOr (cNot (cVal (eCall F_is_rule_checkstays [false] (aCons (eVar 1) aNil)))) (cOr (cNot (cVal (eCall F_is_day_checkstays [false] (aCons (eVar 2) aNil)))) (cOr (cNot (cVal (eCall F_is_within [false, false, false] (aCons (eVar 3) (aCons (eC (.int 1)) (aCons (eOp ixD (eVar 1) (eC (.int 0))) aNil)))))) (cOr (cNot (cVal (eCall F_is_integer [false] (aCons (eVar 4) aNil)))) (cCmp ltD (eVar 4) (eVar 2)))))) (sRet (eC (.bool false))) sNil)
  (sSeq (sSet 5 (eIf (cCmp gtD (eFn lenD (aCons (eVar 0) aNil)) (eC (.int 0))) (eOp ixD (eOp ixD (eVar 0) (eUn negD (eC (.int 1)))) (eC (.int 1))) (eUn negD (eC (.int 1)))))
  (sSeq (sIf (cOr (cCmp leD (eVar 2) (eVar 5)) (cCmp gtD (eVar 4) (eFn maxD (aCons (eVar 2) (aCons (eOp addD (eVar 5) (eOp ixD (eVar 1) (eC (.int 1)))) aNil))))) (sRet (eC (.bool false))) sNil)
  (sSeq (sSet 6 (eLC2 [8, 9, 7] [7] (iSeq (eVar 0)) (tSeq (tsCons (tName 8) (tsCons (tName 9) tsNil))) yes (iRange ranged2 (aCons (eFn maxD (aCons (eVar 8) (aCons (eOp subD (eVar 5) (eOp ixD (eVar 1) (eC (.int 1)))) aNil))) (aCons (eOp addD (eVar 9) (eC (.int 1))) aNil))) (tName 7) yes (eVar 7)))
  (sRet (eAnd (eCall F_can_stay [false, false, false, false] (aCons (eVar 6) (aCons (eVar 1) (aCons (eVar 4) (aCons (eVar 3) aNil))))) (eNot (eFn anyD (aCons (eLC [8] (iRange ranged2 (aCons (eVar 2) (aCons (eVar 4) aNil))) (tName 8) yes (eCall F_can_stay [false, false, false, false] (aCons (eVar 6) (aCons (eVar 1) (aCons (eVar 8) (aCons (eVar 3) aNil)))))) aNil))))))))))
noncomputable def F_takes_entry : DDef := dDef 10 G_takes_entry
noncomputable def G_law_is_behind_due : DS := (sSeq (sSet 3 (eIf (cCmp neD (eVar 1) (eLst aNil)) (eOp ixD (eOp ixD (eVar 1) (eUn negD (eC (.int 1)))) (eC (.int 1))) (eUn negD (eC (.int 1)))))
  (sSeq (sAsg (tSeq (tsCons (tName 9) (tsCons (tName 10) tsNil))) (eTup (aCons (eOp addD (eOp addD (eVar 3) (eC (.int 1))) (eCall F_law_take [true, false] (aCons (eVar 0) (aCons (eC (.int 30)) aNil)))) (aCons (eOp addD (eC (.int 1)) (eCall F_law_take [true, false] (aCons (eVar 0) (aCons (eOp ixD (eVar 2) (eC (.int 0))) aNil)))) aNil))))
  (sSeq (sSet 4 (eCall F_rest_from [false, false, false] (aCons (eVar 1) (aCons (eVar 2) (aCons (eVar 9) aNil)))))
  (sSeq (sIf (cOr (cCmp neD (eCall F_last_day [false, false, false] (aCons (eVar 1) (aCons (eVar 2) (aCons (eVar 9) aNil)))) (eIf (cCmp gtD (eVar 4) (eC (.int 0))) (eOp subD (eOp addD (eVar 9) (eVar 4)) (eC (.int 1))) (eC .none))) (cNot (cChain leD leD (eC (.int 0)) (eVar 4) (eOp ixD (eVar 2) (eC (.int 0)))))) (sRet (eC (.bool false))) sNil)
  (sSeq (sFor (iSeq (eLst (aCons (eVar 4) (aCons (eOp addD (eVar 4) (eC (.int 1))) aNil)))) (tName 5) (sIf (cAnd (cCmp gtD (eVar 5) (eC (.int 0))) (cOr (cCmp eqD (eVar 5) (eVar 4)) (cCmp ltD (eVar 4) (eOp ixD (eVar 2) (eC (.int 0)))))) (sSeq (sSet 11 (eCall F_over_days [false, false] (aCons (eOp addD (eVar 1) (eLst (aCons (eTup (aCons (eVar 9) (aCons (eOp subD (eOp addD (eVar 9) (eVar 5)) (eC (.int 1))) aNil))) aNil))) (aCons (eVar 2) aNil))))
  (sSeq (sSet 12 (eB (cCmp eqD (eLC [13] (iSeq (eVar 11)) (tName 13) (cCmp geD (eOp ixD (eVar 13) (eC (.int 1))) (eVar 9)) (eVar 13)) (eLst aNil))))
  (sIf (cAnd (cCmp neD (eVar 12) (eB (cCmp eqD (eVar 5) (eVar 4)))) (cCmp ltD (eFn lenD (aCons (eVar 1) aNil)) (eC (.int 200)))) (sRet (eC (.bool false))) sNil))) sNil))
  (sSeq (sSet 6 (eCall F_first_entry [false, false, false, false] (aCons (eVar 1) (aCons (eVar 2) (aCons (eVar 9) (aCons (eVar 10) aNil))))))
  (sSeq (sFor (iSeq (eLst (aCons (eVar 6) (aCons (eOp subD (eVar 6) (eC (.int 1))) (aCons (eVar 9) aNil))))) (tName 7) (sIf (cAnd (cCmp geD (eVar 7) (eVar 9)) (cCmp ltD (eFn lenD (aCons (eVar 1) aNil)) (eC (.int 200)))) (sSeq (sSet 11 (eCall F_over_days [false, false] (aCons (eOp addD (eVar 1) (eLst (aCons (eTup (aCons (eVar 7) (aCons (eOp subD (eOp addD (eVar 7) (eVar 10)) (eC (.int 1))) aNil))) aNil))) (aCons (eVar 2) aNil))))
  (sIf (cCmp neD (eB (cCmp eqD (eLC [13] (iSeq (eVar 11)) (tName 13) (cCmp geD (eOp ixD (eVar 13) (eC (.int 1))) (eVar 7)) (eVar 13)) (eLst aNil))) (eB (cCmp eqD (eVar 7) (eVar 6)))) (sRet (eC (.bool false))) sNil)) sNil))
  (sSeq (sIf (cOr (cCmp isNotD (eCall F_takes_entry [false, false, false, false, false] (aCons (eVar 1) (aCons (eVar 2) (aCons (eVar 9) (aCons (eVar 10) (aCons (eVar 6) aNil)))))) (eC (.bool true))) (cCmp isNotD (eCall F_takes_entry [false, false, false, false, false] (aCons (eVar 1) (aCons (eVar 2) (aCons (eVar 9) (aCons (eVar 10) (aCons (eOp addD (eVar 6) (eC (.int 1))) aNil)))))) (eC (.bool false)))) (sRet (eC (.bool false))) sNil)
  (sSeq (sSet 8 (eCall F_free_again [false, false, false] (aCons (eVar 1) (aCons (eVar 2) (aCons (eVar 9) aNil)))))
  (sRet (eAnd (eB (cCmp eqD (eCall F_used_on [false, false, false] (aCons (eVar 1) (aCons (eVar 2) (aCons (eVar 8) aNil)))) (eC (.int 0)))) (eAnd (eOr (eB (cCmp eqD (eVar 8) (eVar 9))) (eB (cCmp gtD (eCall F_used_on [false, false, false] (aCons (eVar 1) (aCons (eVar 2) (aCons (eOp subD (eVar 8) (eC (.int 1))) aNil)))) (eC (.int 0))))) (eAnd (eB (cCmp eqD (eCall F_rest_from [false, false, false] (aCons (eVar 1) (aCons (eVar 2) (aCons (eVar 8) aNil)))) (eOp ixD (eVar 2) (eC (.int 0))))) (eB (cCmp leD (eVar 6) (eVar 8))))))))))))))))
noncomputable def F_law_is_behind_due : DDef := dDef 14 G_law_is_behind_due
noncomputable def G_days_in : DS := (sSeq (sExpr (eCall F_check [false] (aCons (eCall F_are_stays [false] (aCons (eVar 0) aNil)) aNil)))
  (sSeq (sExpr (eCall F_check [false] (aCons (eAnd (eCall F_is_day_papers [false] (aCons (eVar 1) aNil)) (eCall F_is_day_papers [false] (aCons (eVar 2) aNil))) aNil)))
  (sRet (eCall F_days_by [false, false, false] (aCons (eVar 0) (aCons (eVar 1) (aCons (eVar 2) aNil)))))))
noncomputable def F_days_in : DDef := dDef 3 G_days_in
noncomputable def G_law : DS := (sSeq (sSet 1 (eCall F_law_draws [false] (aCons (eVar 0) aNil)))
  (sSeq (sFor (iRange ranged1 (aCons (eC (.int 2)) aNil)) (tName 2) (sSeq (sPar [8, 9] (kCons (eCall F_law_stays [true] (aCons (eVar 1) aNil)) (kCons (eOp addD (eC (.int 1)) (eCall F_law_take [true, false] (aCons (eVar 1) (aCons (eCall F_law_pick [true, false] (aCons (eVar 1) (aCons (eLst (aCons (eC (.int 10)) (aCons (eC (.int 180)) (aCons (eC (.int 1000)) aNil)))) aNil))) aNil)))) kNil)))
  (sSeq (sSet 3 (eTup (aCons (eOp addD (eC (.int 1)) (eCall F_law_take [true, false] (aCons (eVar 1) (aCons (eVar 9) aNil)))) (aCons (eVar 9) aNil))))
  (sSeq (sIf (cOr (cNot (cVal (eCall F_are_stays [false] (aCons (eVar 8) aNil)))) (cOr (cNot (cVal (eCall F_law_is_over_due [false, false] (aCons (eVar 8) (aCons (eVar 3) aNil))))) (cNot (cVal (eCall F_law_is_behind_due [true, false, false] (aCons (eVar 1) (aCons (eVar 8) (aCons (eVar 3) aNil)))))))) (sRet (eC (.bool false))) sNil)
  (sSeq (sSet 4 (eIf (cCmp neD (eVar 8) (eLst aNil)) (eOp ixD (eOp ixD (eVar 8) (eUn negD (eC (.int 1)))) (eC (.int 1))) (eC (.int 0))))
  (sSeq (sAsg (tSeq (tsCons (tName 10) (tsCons (tName 11) (tsCons (tName 12) tsNil)))) (eFn sortedD (aCons (eLC [7] (iRange ranged1 (aCons (eC (.int 3)) aNil)) (tName 7) yes (eCall F_law_take [true, false] (aCons (eVar 1) (aCons (eOp addD (eVar 4) (eC (.int 50))) aNil)))) aNil)))
  (sSeq (sIf (cOr (cCmp neD (eOp addD (eCall F_days_in [false, false, false] (aCons (eVar 8) (aCons (eVar 10) (aCons (eVar 11) aNil)))) (eCall F_days_in [false, false, false] (aCons (eVar 8) (aCons (eOp addD (eVar 11) (eC (.int 1))) (aCons (eVar 12) aNil))))) (eCall F_days_in [false, false, false] (aCons (eVar 8) (aCons (eVar 10) (aCons (eVar 12) aNil))))) (cCmp neD (eCall F_days_in [false, false, false] (aCons (eVar 8) (aCons (eOp addD (eVar 11) (eC (.int 1))) (aCons (eVar 11) aNil)))) (eC (.int 0)))) (sRet (eC (.bool false))) sNil)
  (sSeq (sSet 5 (eCall F_law_take [true, false] (aCons (eVar 1) (aCons (eOp addD (eVar 4) (eC (.int 50))) aNil))))
  (sSeq (sIf (cOr (cCmp neD (eCall F_used_on [false, false, false] (aCons (eVar 8) (aCons (eVar 3) (aCons (eVar 5) aNil)))) (eCall F_days_in [false, false, false] (aCons (eVar 8) (aCons (eFn maxD (aCons (eC (.int 0)) (aCons (eOp addD (eOp subD (eVar 5) (eVar 9)) (eC (.int 1))) aNil))) (aCons (eVar 5) aNil))))) (cCmp gtD (eCall F_used_on [false, false, false] (aCons (eVar 8) (aCons (eVar 3) (aCons (eVar 5) aNil)))) (eVar 9))) (sRet (eC (.bool false))) sNil)
  (sSeq (sIf (cCmp ltD (eFn lenD (aCons (eVar 8) aNil)) (eC (.int 200))) (sSeq (sSet 13 (eCall F_joined_stays [false, false, false] (aCons (eVar 8) (aCons (eVar 10) (aCons (eVar 11) aNil)))))
  (sSeq (sSet 14 (eFn sumD (aCons (eLC [15, 18] (iSeq (eVar 8)) (tSeq (tsCons (tName 15) (tsCons (tName 18) tsNil))) yes (eOp addD (eOp subD (eVar 18) (eVar 15)) (eC (.int 1)))) aNil)))
  (sSeq (sIf (cOr (cCmp neD (eCall F_days_in [false, false, false] (aCons (eVar 13) (aCons (eC (.int 0)) (aCons (eC (.int 100000)) aNil)))) (eOp subD (eOp addD (eOp subD (eOp addD (eVar 14) (eVar 11)) (eVar 10)) (eC (.int 1))) (eCall F_days_in [false, false, false] (aCons (eVar 8) (aCons (eVar 10) (aCons (eVar 11) aNil)))))) (cOr (cCmp neD (eCall F_days_in [false, false, false] (aCons (eVar 13) (aCons (eVar 10) (aCons (eVar 11) aNil)))) (eOp addD (eOp subD (eVar 11) (eVar 10)) (eC (.int 1)))) (cNot (cVal (eCall F_are_stays [false] (aCons (eVar 13) aNil)))))) (sRet (eC (.bool false))) sNil)
  (sIf (cOr (cCmp neD (eLC [7] (iRange ranged1 (aCons (eOp subD (eFn lenD (aCons (eVar 13) aNil)) (eC (.int 1))) aNil)) (tName 7) (cCmp geD (eOp addD (eOp ixD (eOp ixD (eVar 13) (eVar 7)) (eC (.int 1))) (eC (.int 1))) (eOp ixD (eOp ixD (eVar 13) (eOp addD (eVar 7) (eC (.int 1)))) (eC (.int 0)))) (eVar 7)) (eLst aNil)) (cCmp neD (eCall F_joined_stays [false, false, false] (aCons (eVar 13) (aCons (eVar 10) (aCons (eVar 11) aNil)))) (eVar 13))) (sRet (eC (.bool false))) sNil)))) sNil)
  (sSeq (sSet 6 (eLst aNil))
  (sSeq (sFor (iRange ranged1 (aCons (eC (.int 6)) aNil)) (tName 7) (sSeq (sSet 15 (eOp addD (eOp addD (eIf (cCmp neD (eVar 6) (eLst aNil)) (eOp ixD (eOp ixD (eVar 6) (eUn negD (eC (.int 1)))) (eC (.int 1))) (eUn negD (eC (.int 1)))) (eC (.int 1))) (eCall F_law_take [true, false] (aCons (eVar 1) (aCons (eC (.int 9)) aNil)))))
  (sSeq (sSet 16 (eOp addD (eC (.int 1)) (eCall F_law_take [true, false] (aCons (eVar 1) (aCons (eOp ixD (eVar 3) (eC (.int 0))) aNil)))))
  (sSeq (sSet 17 (eCall F_first_entry [false, false, false, false] (aCons (eVar 6) (aCons (eVar 3) (aCons (eVar 15) (aCons (eVar 16) aNil))))))
  (sExpr (eAppend 6 (eTup (aCons (eVar 17) (aCons (eOp subD (eOp addD (eVar 17) (eVar 16)) (eC (.int 1))) aNil)))))))))
  (sIf (cCmp isNotD (eCall F_do_keep [false, false] (aCons (eVar 6) (aCons (eVar 3) aNil))) (eC (.bool true))) (sRet (eC (.bool false))) sNil)))))))))))))
  (sRet (eC (.bool true)))))
noncomputable def F_law : DDef := dDef 19 G_law
end DL.k43
set_option maxRecDepth 100000
set_option maxHeartbeats 1000000
/-! k43: what the defs of stays compute. -/
namespace DL.k43
open PySem
abbrev enc (p : Int × Int) : D := .tuple [.int p.1, .int p.2]
abbrev st (s : List (Int × Int)) : D := .list (s.map enc)
abbrev ru (m w : Int) : D := .tuple [.int m, .int w]
/-- the days of a stay from a to b -/
def lap (a b : Int) (p : Int × Int) : Int := 
  let n := (if b < p.2 then b else p.2) - (if a > p.1 then a else p.1) + 1
  if n > 0 then n else 0
def daysBy (s : List (Int × Int)) (a b : Int) : Int := (s.map (lap a b)).sum
theorem intsOf_ints : ∀ is : List Int, intsOf (is.map .int) = some is
  | [] => rfl
  | i :: is => by rw [List.map_cons]; unfold intsOf; rw [intsOf_ints is]; rfl
theorem days_by (s : List (Int × Int)) (a b : Int) (h : s.length ≤ sizeLim) : F_days_by [.sh (st s), .sh (.int a), .sh (.int b)] = some (.ret (.sh (.int (daysBy s a b))) [none, none, none]) := by
  refine (lc_all (enc := enc) (fun _ => true) (fun p => .int (lap a b p)) (fun p => [some (.sh (st s)), some (.sh (.int a)), some (.sh (.int b)), some (.sh (.int p.1)), some (.sh (.int p.2))]) s [] (by simpa using h) fun p _ => ⟨rfl, rfl, fun kt kf => rfl⟩).trans ?_
  show opt ((intsOf _).map fun is => RV.sh (.int is.sum)) _ = _
  rw [List.filter_eq_self.mpr (fun _ _ => rfl), List.nil_append, show s.map (fun p => PyData.int (lap a b p)) = (s.map (lap a b)).map .int from by rw [List.map_map]; rfl, intsOf_ints]
  rfl
theorem if_t {c : Bool} {a b : Res} (h : c = true) : (if c = true then a else b) = a := if_pos h
theorem if_f {c : Bool} {a b : Res} (h : c = false) : (if c = true then a else b) = b := if_neg (by rw [h]; exact Bool.false_ne_true)
theorem boolsOf_map {α : Type} (b : α → Bool) : ∀ l : List α, boolsOf (l.map fun a => PyData.bool (b a)) = some (l.map b)
  | [] => rfl
  | a :: l => by rw [List.map_cons]; unfold boolsOf; rw [boolsOf_map b l]; rfl
structure Ok (s : List (Int × Int)) : Prop where
  len : s.length ≤ 200
  day : ∀ p ∈ s, 0 ≤ p.1 ∧ p.1 ≤ p.2 ∧ p.2 ≤ 100000
  gap : s.Pairwise fun p q => p.2 < q.1
theorem within_ok {n a b : Int} (h : a ≤ n ∧ n ≤ b) : F_is_within [.sh (.int n), .sh (.int a), .sh (.int b)] = some (.ret (.sh (.bool true)) [none, none, none]) := by
  refine (if_t (c := decide (a ≤ n)) (by simpa using h.1)).trans ?_
  show some (Out.ret (.sh (.bool (decide (n ≤ b)))) [none, none, none]) = _
  rw [decide_eq_true h.2]
theorem is_day_ok {n : Int} (h : 0 ≤ n ∧ n ≤ 100000) : F_is_day_papers [.sh (.int n)] = some (.ret (.sh (.bool true)) [none]) := by
  show opt (F_is_within [.sh (.int n), .sh (.int 0), .sh (.int 100000)]) _ = _
  rw [within_ok h]
  rfl
theorem all_ok {α : Type} {b : α → Bool} {l : List α} (h : ∀ a ∈ l, b a = true) : allD [.list (l.map fun a => PyData.bool (b a))] = some (.sh (.bool true)) := by
  show (boolsOf _).map _ = _
  rw [boolsOf_map]
  have : (l.map b).all id = true := by
    rw [List.all_map]
    exact List.all_eq_true.mpr h
  show some (RV.sh (.bool ((l.map b).all id))) = _
  rw [this]
theorem are_stays_ok {s : List (Int × Int)} (h : Ok s) : F_are_stays [.sh (st s)] = some (.ret (.sh (.bool true)) [none]) := by
  have hl := h.len
  have hz : s.length ≤ sizeLim := Nat.le_trans hl (by decide)
  refine (if_f (c := decide ((200 : Int) < ((s.map enc).length : Nat))) (by rw [List.length_map]; exact decide_eq_false (by omega))).trans ?_
  refine (lc_all (enc := enc) (fun _ => true) (fun p => .bool true) (fun p => [some (.sh (st s)), some (.sh (enc p)), none, none, none, none]) s [] (by simpa using hz) fun p hp => ⟨rfl, rfl, fun kt kf => ?_⟩).trans ?_
  · have d := h.day p hp
    have e1 : F_is_day_papers [.sh (.int p.1)] = some (.ret (.sh (.bool true)) [none]) := is_day_ok (by omega)
    have e2 : F_is_day_papers [.sh (.int p.2)] = some (.ret (.sh (.bool true)) [none]) := is_day_ok (by omega)
    show opt (F_is_day_papers [.sh (.int p.1)]) _ = _
    rw [e1]
    show opt (F_is_day_papers [.sh (.int p.2)]) _ = _
    rw [e2]
    rfl
  rw [List.filter_eq_self.mpr (fun _ _ => rfl), List.nil_append]
  show opt (allD _) _ = _
  rw [all_ok (b := fun _ => true) fun _ _ => rfl]
  refine (lc_all (enc := enc) (fun _ => true) (fun p => .bool (decide (p.1 ≤ p.2))) (fun p => [some (.sh (st s)), none, some (.sh (.int p.1)), some (.sh (.int p.2)), none, none]) s [] (by simpa using hz) fun p _ => ⟨rfl, rfl, fun kt kf => rfl⟩).trans ?_
  rw [List.filter_eq_self.mpr (fun _ _ => rfl), List.nil_append]
  show opt (allD _) _ = _
  rw [all_ok (b := fun p : Int × Int => decide (p.1 ≤ p.2)) fun p hp => decide_eq_true (h.day p hp).2.1]
  have e3 : cut (s.map enc) (some 1) none = s.tail.map enc := by
    unfold cut cutIx
    cases s with
    | nil => rfl
    | cons p s =>
      simp only [List.map_cons, List.tail_cons, List.length_cons, List.length_map]
      rw [if_neg (by decide), show min (Int.toNat 1) (s.length + 1) = 1 from Nat.min_eq_left (by simp)]
      exact List.take_of_length_le (by simp)
  have e4 : zipD (s.map enc) (s.tail.map enc) = (s.zip s.tail).map fun q => PyData.tuple [enc q.1, enc q.2] := by
    unfold zipD
    rw [List.zipWith_map, List.zip_eq_zipWith, List.map_zipWith]
  refine Eq.trans (b := if true = true then lc [4, 5] (tSeq (tsCons (tName 4) (tsCons (tName 5) tsNil))) yes (eB (cCmp ltD (eOp ixD (eVar 4) (eC (PyData.int 1))) (eOp ixD (eVar 5) (eC (PyData.int 0))))) _ (zipD (s.map enc) (cut (s.map enc) (some 1) none)) [some (.sh (st s)), none, none, none, none, none] [] else none) rfl ?_
  rw [if_pos rfl]
  rw [e3, e4]
  have hz2 : (s.zip s.tail).length ≤ sizeLim := by rw [List.length_zip]; omega
  refine (lc_all (enc := fun q : (Int × Int) × (Int × Int) => PyData.tuple [enc q.1, enc q.2]) (fun _ => true) (fun q => .bool (decide (q.1.2 < q.2.1))) (fun q => [some (.sh (st s)), none, none, none, some (.sh (enc q.1)), some (.sh (enc q.2))]) (s.zip s.tail) [] (by simpa using hz2) fun q _ => ⟨rfl, rfl, fun kt kf => rfl⟩).trans ?_
  rw [List.filter_eq_self.mpr (fun _ _ => rfl), List.nil_append]
  show opt (allD _) _ = _
  rw [all_ok (b := fun q : (Int × Int) × (Int × Int) => decide (q.1.2 < q.2.1)) fun q hq => decide_eq_true (gap_tail h.gap q hq)]
  rfl
where gap_tail : ∀ {s : List (Int × Int)}, s.Pairwise (fun p q => p.2 < q.1) → ∀ q ∈ s.zip s.tail, q.1.2 < q.2.1
  | [], _, q, hq => by simp at hq
  | [p], _, q, hq => by simp at hq
  | p :: r :: s, h, q, hq => by
    have h2 := List.pairwise_cons.mp h
    rcases List.mem_cons.mp (show q ∈ (p, r) :: (r :: s).zip s from hq) with rfl | hq
    · exact h2.1 r List.mem_cons_self
    · exact gap_tail h2.2 q hq
end DL.k43
set_option maxRecDepth 100000
set_option maxHeartbeats 1000000
/-! k43: days, windows. -/
namespace DL.k43
open PySem
/-! ### sorted lists of days -/
def rg (a b : Int) : List Int := (List.range (b - a).toNat).map fun m => a + (m : Nat)
theorem rangeD_rg (a b : Int) : rangeD a b = (rg a b).map .int := by
  unfold rangeD rg
  rw [List.map_map]
  rfl
theorem mem_rg {a b x : Int} : x ∈ rg a b ↔ a ≤ x ∧ x < b := by
  unfold rg
  rw [List.mem_map]
  constructor
  · rintro ⟨m, hm, rfl⟩
    have := List.mem_range.mp hm
    omega
  · intro h
    exact ⟨(x - a).toNat, List.mem_range.mpr (by omega), by omega⟩
theorem rg_len (a b : Int) : (rg a b).length = (b - a).toNat := by unfold rg; rw [List.length_map, List.length_range]
theorem rg_sorted (a b : Int) : (rg a b).Pairwise (· < ·) := by
  unfold rg
  rw [List.pairwise_map]
  exact List.Pairwise.imp (fun h => by omega) (List.pairwise_lt_range (n := (b - a).toNat))
def days (s : List (Int × Int)) : List Int := s.flatMap fun p => rg p.1 (p.2 + 1)
theorem mem_days {s : List (Int × Int)} {x : Int} : x ∈ days s ↔ ∃ p ∈ s, p.1 ≤ x ∧ x ≤ p.2 := by
  unfold days
  rw [List.mem_flatMap]
  constructor
  · rintro ⟨p, hp, hx⟩
    have := mem_rg.mp hx
    exact ⟨p, hp, by omega⟩
  · rintro ⟨p, hp, hx⟩
    exact ⟨p, hp, mem_rg.mpr (by omega)⟩
theorem days_sorted {s : List (Int × Int)} (h : s.Pairwise fun p q => p.2 < q.1) : (days s).Pairwise (· < ·) := by
  induction s with
  | nil => exact List.Pairwise.nil
  | cons p s ih =>
    have h2 := List.pairwise_cons.mp h
    show (rg p.1 (p.2 + 1) ++ days s).Pairwise (· < ·)
    refine List.pairwise_append.mpr ⟨rg_sorted _ _, ih h2.2, fun x hx y hy => ?_⟩
    have hx := mem_rg.mp hx
    obtain ⟨q, hq, hy⟩ := mem_days.mp hy
    have := h2.1 q hq
    omega
/-- how many of them are no later than x -/
def upto (L : List Int) (x : Int) : Nat := L.countP fun e => decide (e ≤ x)
theorem upto_mono {L : List Int} {x y : Int} (h : x ≤ y) : upto L x ≤ upto L y := List.countP_mono_left fun e _ he => by
  have := of_decide_eq_true he
  exact decide_eq_true (by omega)
theorem upto_le (L : List Int) (x : Int) : upto L x ≤ L.length := List.countP_le_length
/-- sorted: the first upto x are the ones no later than x -/
theorem upto_at {L : List Int} (h : L.Pairwise (· < ·)) (x : Int) : ∀ (i : Nat) (d : Int), L[i]? = some d → (d ≤ x ↔ i < upto L x) := by
  induction L with
  | nil => intro i d e; cases e
  | cons a L ih =>
    have h2 := List.pairwise_cons.mp h
    intro i d e
    unfold upto
    rw [List.countP_cons]
    by_cases ha : a ≤ x
    · rw [if_pos (by simpa using ha)]
      cases i with
      | zero => cases e; simp [ha]
      | succ i =>
        have := ih h2.2 i d e
        unfold upto at this
        rw [this]; omega
    · rw [if_neg (by simpa using ha)]
      have z : L.countP (fun e => decide (e ≤ x)) = 0 := List.countP_eq_zero.mpr fun b hb => by
        have := h2.1 b hb
        simp; omega
      rw [z]
      have hd : a ≤ d := by
        cases i with
        | zero => cases e; omega
        | succ i =>
          have := h2.1 d (List.mem_of_getElem? e)
          omega
      omega
theorem upto_self {L : List Int} (h : L.Pairwise (· < ·)) {i : Nat} {d : Int} (e : L[i]? = some d) : upto L d = i + 1 := by
  have h1 := (upto_at h d i d e).mp (by omega)
  have hl := upto_le L d
  by_cases hx : i + 1 < upto L d
  · have hi : i + 1 < L.length := by omega
    have h2 := (upto_at h d (i + 1) L[i + 1] (List.getElem?_eq_getElem hi)).mpr hx
    have h3 := List.pairwise_iff_getElem.mp h i (i + 1) (by omega) hi (by omega)
    have h4 : L[i] = d := by
      have := (List.getElem?_eq_some_iff.mp e).2
      exact this
    omega
  · omega
/-- how many lie within the w days that end on d -/
def cw (L : List Int) (w d : Int) : Int := (upto L d : Int) - (upto L (d - w) : Int)
theorem cw_nonneg {L : List Int} {w d : Int} (h : 0 ≤ w) : 0 ≤ cw L w d := by
  have := upto_mono (L := L) (x := d - w) (y := d) (by omega)
  unfold cw; omega
theorem upto_append (L M : List Int) (x : Int) : upto (L ++ M) x = upto L x + upto M x := List.countP_append
theorem upto_rg {a b x : Int} : (upto (rg a b) x : Int) = max 0 (min b (x + 1) - a) ∨ b ≤ a := by
  by_cases hab : b ≤ a
  · exact .inr hab
  · refine .inl ?_
    have h := upto_at (rg_sorted a b) x
    have hl := rg_len a b
    have hu := upto_le (rg a b) x
    have key : ∀ i : Nat, i < (rg a b).length → (a + (i : Nat) ≤ x ↔ i < upto (rg a b) x) := fun i hi => by
      have e : (rg a b)[i]? = some (a + (i : Nat)) := by
        unfold rg
        rw [List.getElem?_map, List.getElem?_range (by rw [← hl]; exact hi)]
        rfl
      exact h i _ e
    by_cases h1 : x < a
    · have : upto (rg a b) x = 0 := by
        by_cases hz : upto (rg a b) x = 0
        · exact hz
        · have := (key 0 (by omega)).mpr (by omega)
          omega
      omega
    · by_cases h2 : b ≤ x + 1
      · have h4 : (rg a b).length ≤ upto (rg a b) x := by
          by_cases hz : (rg a b).length ≤ upto (rg a b) x
          · exact hz
          · have := (key ((rg a b).length - 1) (by omega)).mp (by omega)
            omega
        omega
      · have k1 := (key (x - a).toNat (by omega)).mp (by omega)
        have k2 : ¬ ((x - a).toNat + 1 < upto (rg a b) x) := fun z => by
          have := (key ((x - a).toNat + 1) (by omega)).mpr z
          omega
        omega
/-- a stay's days from a to b are those of its days -/
theorem daysBy_upto {s : List (Int × Int)} (h : ∀ p ∈ s, p.1 ≤ p.2) {a b : Int} (hab : a ≤ b + 1) : daysBy s a b = (upto (days s) b : Int) - (upto (days s) (a - 1) : Int) := by
  induction s with
  | nil => rfl
  | cons p s ih =>
    have ih := ih fun q hq => h q (List.mem_cons_of_mem _ hq)
    have hp := h p List.mem_cons_self
    have e : daysBy (p :: s) a b = lap a b p + daysBy s a b := by unfold daysBy; rw [List.map_cons, List.sum_cons]
    have e2 : days (p :: s) = rg p.1 (p.2 + 1) ++ days s := rfl
    rw [e, ih, e2, upto_append, upto_append]
    have u1 := upto_rg (a := p.1) (b := p.2 + 1) (x := b)
    have u2 := upto_rg (a := p.1) (b := p.2 + 1) (x := a - 1)
    unfold lap
    simp only
    split <;> split <;> split <;> omega
end DL.k43
set_option maxRecDepth 100000
set_option maxHeartbeats 1000000
/-! k43: used_days. -/
namespace DL.k43
open PySem
theorem in62_ok {i : Int} (h0 : -1000000000 ≤ i) (h1 : i ≤ 1000000000) : in62 i = true := by
  unfold in62 lim62
  rw [decide_eq_true (by omega), decide_eq_true (by omega)]
  rfl
theorem ranged2_ok {i j : Int} (h0 : -1000000000 ≤ i) (h1 : i ≤ 1000000000) (h2 : -1000000000 ≤ j) (h3 : j ≤ 1000000000) : ranged2 [.int i, .int j] = some ((rg i j).map .int) := by
  show (if in62 i && in62 j then some (rangeD i j) else none) = _
  rw [in62_ok h0 h1, in62_ok h2 h3, rangeD_rg]
  rfl
theorem flat_days (s : List (Int × Int)) : (s.flatMap fun p => (rg p.1 (p.2 + 1)).map PyData.int) = (days s).map .int := by
  unfold days
  rw [List.map_flatMap]
theorem ix_int {L : List Int} {i : Nat} {d : Int} (e : L[i]? = some d) : ixD (.list (L.map .int)) (.int (i : Nat)) = some (.sh (.int d)) := by
  show (idx (L.map PyData.int) (i : Nat)).map RV.sh = _
  unfold idx
  rw [if_pos (by omega), Int.toNat_natCast, List.getElem?_map, e]
  rfl
abbrev pr (d n : Int) : D := .tuple [.int d, .int n]
abbrev encN (q : Nat × Int) : D := .tuple [.int (q.1 : Nat), .int q.2]
noncomputable abbrev bodyU : DS := (sSeq (sWhile (cCmp leD (eOp ixD (eVar 2) (eVar 4)) (eOp subD (eVar 6) (eVar 1))) (sAug iaddD 4 (eC (.int 1))))
  (sExpr (eAppend 3 (eTup (aCons (eVar 6) (aCons (eOp addD (eOp subD (eVar 5) (eVar 4)) (eC (.int 1))) aNil))))))
abbrev envU (x : D) (w : Int) (L : List Int) (acc : List D) (f : Nat) (u v : Option EV) : Env := [some (.sh x), some (.sh (.int w)), some (.sh (.list (L.map .int))), some (.ow (.list acc)), some (.sh (.int (f : Nat))), u, v, none, none]
theorem used_while {x : D} {w : Int} {L : List Int} (hL : L.Pairwise (· < ·)) {acc : List D} {i : Nat} {d : Int} (e : L[i]? = some d) (hw : 1 ≤ w) (C : Conts) {f : Nat} (hf : f ≤ upto L (d - w)) (hlen : L.length < 1000000000) :
    sWhile (cCmp leD (eOp ixD (eVar 2) (eVar 4)) (eOp subD (eVar 6) (eVar 1))) (sAug iaddD 4 (eC (.int 1))) (envU x w L acc f (some (.sh (.int (i : Nat)))) (some (.sh (.int d)))) C =
      C.nx (envU x w L acc (upto L (d - w)) (some (.sh (.int (i : Nat)))) (some (.sh (.int d)))) := by
  have hi : upto L (d - w) ≤ i := by
    have := (upto_at hL (d - w) i d e)
    omega
  have hil : i < L.length := (List.getElem?_eq_some_iff.mp e).1
  obtain ⟨f', p', b', e'⟩ := while_steps (C := C) (c := cCmp leD (eOp ixD (eVar 2) (eVar 4)) (eOp subD (eVar 6) (eVar 1))) (body := sAug iaddD 4 (eC (.int 1))) (fun f : Nat => envU x w L acc f (some (.sh (.int (i : Nat)))) (some (.sh (.int d)))) (fun f => f + 1) (fun f => decide (f < upto L (d - w))) (fun f => f ≤ upto L (d - w)) (fun f => upto L (d - w) - f)
    (fun g hg => ⟨fun hb => by have := of_decide_eq_true hb; omega, fun kn => by
      have hgl : g < L.length := by omega
      have eg : L[g]? = some L[g] := List.getElem?_eq_getElem hgl
      have hc := upto_at hL (d - w) g L[g] eg
      show opt (ixD (.list (L.map .int)) (.int ((g : Nat) : Int))) _ = _
      rw [ix_int eg]
      show (if decide (L[g] ≤ d - w) = true then _ else _) = _
      by_cases hb : g < upto L (d - w)
      · exact (if_pos (decide_eq_true (hc.mpr hb))).trans (if_pos (decide_eq_true hb)).symm
      · exact (if_neg (by rw [decide_eq_true_eq]; exact fun z => hb (hc.mp z))).trans (if_neg (by rw [decide_eq_true_eq]; exact hb)).symm⟩) fuel f hf (by
      have : (1000000000 : Nat) < fuel := by rw [fuel_eq]; decide
      omega)
  have hb := of_decide_eq_false b'
  have : f' = upto L (d - w) := by omega
  subst this
  exact e'
theorem used_loop {x : D} {w : Int} {L : List Int} (hL : L.Pairwise (· < ·)) (hw : 1 ≤ w) (hlen : L.length < 1000000000) (C : Conts) : ∀ (M : List (Nat × Int)) (f : Nat) (acc : List D) (u v : Option EV), loose [none, none, none, none, none, u, v] 5 = true → loose [none, none, none, none, none, u, v] 6 = true → (∀ q ∈ M, L[q.1]? = some q.2) → M.Pairwise (fun p q => p.2 < q.2) → (∀ q ∈ M, f ≤ upto L (q.2 - w)) → acc.length + M.length ≤ sizeLim →
    ∃ f' u' v', loop (tSeq (tsCons (tName 5) (tsCons (tName 6) tsNil))) bodyU C (M.map encN) (envU x w L acc f u v) = C.nx (envU x w L (acc ++ M.map fun q => pr q.2 (cw L w q.2)) f' u' v')
  | [], f, acc, u, v, _, _, _, _, _, _ => ⟨f, u, v, by simp; rfl⟩
  | q :: M, f, acc, u, v, l5, l6, hM, hs, hf, hz => by
    have e := hM q List.mem_cons_self
    have hs2 := List.pairwise_cons.mp hs
    have hz' : acc.length + (M.length + 1) ≤ sizeLim := hz
    obtain ⟨f', u', v', ih⟩ := used_loop (x := x) hL hw hlen C M (upto L (q.2 - w)) (acc ++ [pr q.2 (cw L w q.2)]) (some (.sh (.int (q.1 : Nat)))) (some (.sh (.int q.2))) rfl rfl (fun r hr => hM r (List.mem_cons_of_mem _ hr)) hs2.2 (fun r hr => upto_mono (by have := hs2.1 r hr; omega)) (by rw [List.length_append, List.length_singleton]; omega)
    refine ⟨f', u', v', ?_⟩
    have st : ∀ k : Env → Res, (tSeq (tsCons (tName 5) (tsCons (tName 6) tsNil))) (encN q) (envU x w L acc f u v) k = k (envU x w L acc f (some (.sh (.int (q.1 : Nat)))) (some (.sh (.int q.2)))) := fun k => by
      have h5 : loose (envU x w L acc f u v) 5 = true := by cases u with | none => rfl | some u => cases u <;> first | rfl | exact l5
      have h6 : loose ((envU x w L acc f u v).set 5 (some (.sh (.int (q.1 : Nat))))) 6 = true := by cases v with | none => rfl | some v => cases v <;> first | rfl | exact l6
      simp only [tSeq, tsCons, tName, tsNil, DL.put]
      rw [if_pos h5, if_pos h6]
      rfl
    show (tSeq (tsCons (tName 5) (tsCons (tName 6) tsNil))) (encN q) (envU x w L acc f u v) _ = _
    rw [st]
    show sWhile _ _ _ _ = _
    rw [used_while hL e hw _ (hf q List.mem_cons_self) hlen]
    have hv : ((q.1 : Nat) : Int) - (upto L (q.2 - w) : Nat) + 1 = cw L w q.2 := by
      unfold cw
      rw [upto_self hL e]
      omega
    show (if acc.length < sizeLim then _ else none) = _
    rw [if_pos (by omega)]
    refine Eq.trans (b := loop (tSeq (tsCons (tName 5) (tsCons (tName 6) tsNil))) bodyU C (M.map encN) (envU x w L (acc ++ [pr q.2 (((q.1 : Nat) : Int) - (upto L (q.2 - w) : Nat) + 1)]) (upto L (q.2 - w)) (some (.sh (.int (q.1 : Nat)))) (some (.sh (.int q.2))))) rfl ?_
    rw [hv, ih, List.map_cons, List.append_assoc]
    rfl
end DL.k43
set_option maxRecDepth 100000
set_option maxHeartbeats 1000000
/-! k43: used_days told. -/
namespace DL.k43
open PySem
theorem enum_ints (L : List Int) : enumD (L.map .int) = (L.mapIdx fun i x => (i, x)).map encN := by
  unfold enumD
  refine List.ext_getElem? fun i => ?_
  rw [List.getElem?_mapIdx, List.getElem?_map, List.getElem?_map, List.getElem?_mapIdx]
  cases L[i]? <;> rfl
theorem mapIdx_snd {β : Type} (g : Int → β) : ∀ (L : List Int), (L.mapIdx fun i x => (i, x)).map (fun q => g q.2) = L.map g := fun L => by
  refine List.ext_getElem? fun i => ?_
  rw [List.getElem?_map, List.getElem?_mapIdx, List.getElem?_map]
  cases L[i]? <;> rfl
theorem idx_mem {L : List Int} {q : Nat × Int} (h : q ∈ L.mapIdx fun i x => (i, x)) : L[q.1]? = some q.2 := by
  obtain ⟨i, hi, e⟩ := List.getElem_of_mem h
  rw [List.getElem_mapIdx] at e
  subst e
  exact List.getElem?_eq_getElem _
theorem idx_pair {L : List Int} (h : L.Pairwise (· < ·)) : (L.mapIdx fun i x => (i, x)).Pairwise fun p q => p.2 < q.2 := by
  rw [List.pairwise_iff_getElem] at h ⊢
  intro i j hi hj hij
  rw [List.getElem_mapIdx, List.getElem_mapIdx]
  exact h i j _ _ hij
theorem used_days_ok {s : List (Int × Int)} (h : Ok s) {w : Int} (hw : 1 ≤ w) (hz : (days s).length ≤ 16777216) : F_used_days [.sh (st s), .sh (.int w)] = some (.ret (.ow (.list ((days s).map fun d => pr d (cw (days s) w d)))) [none, none]) := by
  have fl := flat_days s
  have hz' : (s.flatMap fun p => (rg p.1 (p.2 + 1)).map PyData.int).length ≤ sizeLim := by rw [fl, List.length_map]; exact hz
  refine (lc2_all (enc := enc) (fun p => (rg p.1 (p.2 + 1)).map PyData.int) (fun p => [some (.sh (st s)), some (.sh (.int w)), none, none, none, none, none, some (.sh (.int p.1)), some (.sh (.int p.2))]) s [] (by simpa using hz') fun p hp => ⟨rfl, rfl, fun acc K kf hl => ?_⟩).trans ?_
  · have d := h.day p hp
    show opt (ranged2 [.int p.1, .int (p.2 + 1)]) _ = _
    rw [ranged2_ok (by omega) (by omega) (by omega) (by omega)]
    rw [List.length_map] at hl
    refine (lcIn_all (enc := PyData.int) (fun _ => true) PyData.int (fun x => [some (.sh (st s)), some (.sh (.int w)), none, none, none, none, some (.sh (.int x)), some (.sh (.int p.1)), some (.sh (.int p.2))]) (rg p.1 (p.2 + 1)) acc hl fun x _ => ⟨rfl, rfl, fun kt kf => rfl⟩).trans ?_
    rw [List.filter_eq_self.mpr (fun _ _ => rfl)]
    rfl
  rw [fl, List.nil_append]
  have hL := days_sorted h.gap
  refine Eq.trans (b := loop (tSeq (tsCons (tName 5) (tsCons (tName 6) tsNil))) bodyU _ (enumD ((days s).map .int)) (envU (st s) w (days s) [] 0 none none)) rfl ?_
  rw [enum_ints]
  refine Exists.elim (used_loop (x := st s) hL hw (by omega) _ ((days s).mapIdx fun i x => (i, x)) 0 [] none none rfl rfl (fun q hq => idx_mem hq) (idx_pair hL) (fun q _ => Nat.zero_le _) (by rw [List.length_mapIdx, List.length_nil, Nat.zero_add]; exact hz)) fun f' h1 => Exists.elim h1 fun u' h2 => Exists.elim h2 fun v' e => e.trans ?_
  rw [mapIdx_snd (fun d => pr d (cw (days s) w d))]
  rfl
end DL.k43
set_option maxRecDepth 100000
set_option maxHeartbeats 1000000
/-! k43: over_days. -/
namespace DL.k43
open PySem
structure Ru (m w : Int) : Prop where
  lo : 1 ≤ m
  mid : m ≤ w
  hi : w ≤ 1000
theorem opt_s {α : Type} {a : α} {k : α → Res} : opt (some a) k = k a := rfl
theorem peel {α : Type} {x : Option α} {a : α} {k : α → Res} {r : Res} (h : x = some a) (e : k a = r) : opt x k = r := by rw [h]; exact e
theorem is_rule_ok {m w : Int} (h : Ru m w) : F_is_rule_stays [.sh (ru m w)] = some (.ret (.sh (.bool true)) [none]) := by
  have h1 := h.lo; have h2 := h.mid; have h3 := h.hi
  show opt (F_is_within [.sh (.int w), .sh (.int 1), .sh (.int 1000)]) _ = _
  rw [within_ok (by omega)]
  show opt (F_is_within [.sh (.int m), .sh (.int 1), .sh (.int w)]) _ = _
  rw [within_ok (by omega)]
  rfl
theorem check_true : F_check [.sh (.bool true)] = some (.ret (.sh .none) [none]) := rfl
theorem check_stays_ok {s : List (Int × Int)} {m w : Int} (h : Ok s) (r : Ru m w) : F_check_stays [.sh (st s), .sh (ru m w)] = some (.ret (.sh .none) [none, none]) := by
  show opt (F_are_stays [.sh (st s)]) _ = _
  rw [are_stays_ok h]
  show opt (F_is_rule_stays [.sh (ru m w)]) _ = _
  rw [is_rule_ok r]
  rfl
theorem idx_last {α : Type} (xs : List α) (x : α) : idx (xs ++ [x]) (-1) = some x := by
  unfold idx
  rw [if_neg (by decide), if_pos (by rw [List.length_append, List.length_singleton]; omega)]
  have : ((-1 : Int) + ((xs ++ [x]).length : Nat)).toNat = xs.length := by simp; omega
  rw [this]
  simp
theorem place_last {α : Type} (xs : List α) (x : α) : place (xs ++ [x]).length (-1) = some xs.length := by
  unfold place
  rw [if_neg (by decide), if_pos (by rw [List.length_append, List.length_singleton]; omega)]
  have : ((-1 : Int) + ((xs ++ [x]).length : Nat)).toNat = xs.length := by simp; omega
  rw [this]
theorem set_last {α : Type} (xs : List α) (x y : α) : (xs ++ [x]).set xs.length y = xs ++ [y] := by simp
/-- one more day: the last run grows, or a new one begins -/
def addDay (R : List (Int × Int)) (d : Int) : List (Int × Int) := match R.getLast? with
  | some p => if p.2 = d - 1 then R.dropLast ++ [(p.1, d)] else R ++ [(d, d)]
  | none => [(d, d)]
theorem addDay_last (R : List (Int × Int)) (p : Int × Int) (d : Int) : addDay (R ++ [p]) d = if p.2 = d - 1 then R ++ [(p.1, d)] else R ++ [p] ++ [(d, d)] := by
  unfold addDay
  rw [List.getLast?_concat, List.dropLast_concat]
def runs (L : List Int) : List (Int × Int) := L.foldl addDay []
abbrev bodyO : DS := sIf (cCmp gtD (eVar 4) (eOp ixD (eVar 1) (eC (.int 0)))) (sIf (cAnd (cCmp gtD (eFn lenD (aCons (eVar 2) aNil)) (eC (.int 0))) (cCmp eqD (eOp ixD (eOp ixD (eVar 2) (eUn negD (eC (.int 1)))) (eC (.int 1))) (eOp subD (eVar 3) (eC (.int 1))))) (sSetIx 2 (eUn negD (eC (.int 1))) (eTup (aCons (eOp ixD (eOp ixD (eVar 2) (eUn negD (eC (.int 1)))) (eC (.int 0))) (aCons (eVar 3) aNil)))) (sExpr (eAppend 2 (eTup (aCons (eVar 3) (aCons (eVar 3) aNil)))))) sNil
abbrev envO (s : List (Int × Int)) (m w : Int) (R : List (Int × Int)) (u v : Option EV) : Env := [some (.sh (st s)), some (.sh (ru m w)), some (.ow (.list (R.map enc))), u, v]
theorem eqD_int (a b : Int) : eqD (.int a) (.int b) = some (decide (a = b)) := by
  have : eqD (.int a) (.int b) = some (PyData.eqv (.int a) (.int b)) := rfl
  rw [this]
  congr 1
theorem over_body {s : List (Int × Int)} {m w : Int} {R : List (Int × Int)} {d n : Int} (C : Conts) (hz : R.length < sizeLim) : bodyO (envO s m w R (some (.sh (.int d))) (some (.sh (.int n)))) C = C.nx (envO s m w (if m < n then addDay R d else R) (some (.sh (.int d))) (some (.sh (.int n)))) := by
  by_cases hn : m < n
  · rw [if_pos hn]
    refine (if_pos (c := decide (m < n) = true) (decide_eq_true hn)).trans ?_
    rcases List.eq_nil_or_concat R with rfl | ⟨R', p, rfl⟩
    · rfl
    · rw [List.concat_eq_append] at hz ⊢
      have hl : decide ((0 : Int) < (((R' ++ [p]).map enc).length : Nat)) = true := decide_eq_true (by rw [List.length_map, List.length_append, List.length_singleton]; omega)
      have hx : ixD (.list ((R' ++ [p]).map enc)) (.int (-1)) = some (.sh (enc p)) := by
        show (idx _ _).map RV.sh = _
        rw [List.map_append, List.map_singleton, idx_last]
        rfl
      have ex : Ev (envO s m w (R' ++ [p]) (some (.sh (.int d))) (some (.sh (.int n)))) (eOp ixD (eVar 2) (eUn negD (eC (.int 1)))) (.sh (enc p)) := .op (.v rfl) (.un .c rfl rfl) rfl rfl hx
      have ec : EvT (envO s m w (R' ++ [p]) (some (.sh (.int d))) (some (.sh (.int n)))) (cAnd (cCmp gtD (eFn lenD (aCons (eVar 2) aNil)) (eC (.int 0))) (cCmp eqD (eOp ixD (eOp ixD (eVar 2) (eUn negD (eC (.int 1)))) (eC (.int 1))) (eOp subD (eVar 3) (eC (.int 1))))) (true && decide (p.2 = d - 1)) :=
        .and (.cmp (.fn (.cons (.v rfl) .nil) rfl rfl) .c rfl rfl (by rw [← hl]; rfl)) fun _ => .cmp (.op ex .c rfl rfl rfl) (.op (.v rfl) .c rfl rfl rfl) rfl rfl (eqD_int _ _)
      refine (ec _ _).trans ?_
      rw [Bool.true_and, addDay_last]
      by_cases hp : p.2 = d - 1
      · rw [if_pos hp]
        refine (if_pos (c := decide (p.2 = d - 1) = true) (decide_eq_true hp)).trans ?_
        have hs : setAt (.int (-1)) (enc (p.1, d)) (.list ((R' ++ [p]).map enc)) = some (.list ((R' ++ [(p.1, d)]).map enc)) := by
          show (place ((R' ++ [p]).map enc).length (-1)).map (fun n => PyData.list (((R' ++ [p]).map enc).set n (enc (p.1, d)))) = _
          rw [List.map_append, List.map_singleton, place_last]
          show some (PyData.list ((R'.map enc ++ [enc p]).set (R'.map enc).length (enc (p.1, d)))) = _
          rw [set_last, List.map_append]
          rfl
        have e1 : Ev (envO s m w (R' ++ [p]) (some (.sh (.int d))) (some (.sh (.int n)))) (eOp ixD (eOp ixD (eVar 2) (eUn negD (eC (.int 1)))) (eC (.int 0))) (.sh (.int p.1)) := .op ex .c rfl rfl rfl
        have e2 : Ev (envO s m w (R' ++ [p]) (some (.sh (.int d))) (some (.sh (.int n)))) (eTup (aCons (eOp ixD (eOp ixD (eVar 2) (eUn negD (eC (.int 1)))) (eC (.int 0))) (aCons (eVar 3) aNil))) (.sh (enc (p.1, d))) := fun k h => by
          unfold eTup
          rw [(EvA.cons e1 (.cons (.v rfl) .nil)) _ _]
          rfl
        unfold sSetIx
        rw [e2]
        show opt (setAt (.int (-1)) (enc (p.1, d)) (.list ((R' ++ [p]).map enc))) _ = _
        rw [hs]
        rfl
      · rw [if_neg hp]
        refine (if_neg (c := decide (p.2 = d - 1) = true) (by rw [decide_eq_true_eq]; exact hp)).trans ?_
        refine Eq.trans (b := if ((R' ++ [p]).map enc).length < sizeLim then C.nx (envO s m w (R' ++ [p]) (some (.sh (.int d))) (some (.sh (.int n))) |>.set 2 (some (.ow (.list ((R' ++ [p]).map enc ++ [enc (d, d)]))))) else none) rfl ?_
        rw [if_pos (by rw [List.length_map]; exact hz), show (R' ++ [p]).map enc ++ [enc (d, d)] = (R' ++ [p] ++ [(d, d)]).map enc from by rw [List.map_append (l₁ := R' ++ [p])]; rfl]
        rfl
  · rw [if_neg hn]
    exact (if_neg (c := decide (m < n) = true) (by rw [decide_eq_true_eq]; exact hn)).trans rfl
theorem addDay_len (R : List (Int × Int)) (d : Int) : (addDay R d).length ≤ R.length + 1 := by
  rcases List.eq_nil_or_concat R with rfl | ⟨R', p, rfl⟩
  · exact Nat.le_refl _
  · rw [List.concat_eq_append, addDay_last]
    split
    · rw [List.length_append, List.length_append]; exact Nat.le_succ _
    · rw [List.length_append]; exact Nat.le_refl _
/-- the days with more used than m, in runs -/
def over (L : List Int) (m w : Int) : List Int := L.filter fun d => decide (m < cw L w d)
theorem over_loop {s : List (Int × Int)} {m w : Int} (g : Int → Int) (C : Conts) : ∀ (M : List Int) (R : List (Int × Int)) (u v : Option EV), loose [none, none, none, u, v] 3 = true → loose [none, none, none, u, v] 4 = true → R.length + M.length ≤ sizeLim →
    ∃ u' v', loop (tSeq (tsCons (tName 3) (tsCons (tName 4) tsNil))) bodyO C (M.map fun d => pr d (g d)) (envO s m w R u v) = C.nx (envO s m w ((M.filter fun d => decide (m < g d)).foldl addDay R) u' v')
  | [], R, u, v, _, _, _ => ⟨u, v, rfl⟩
  | d :: M, R, u, v, l3, l4, hz => by
    have hz' : R.length + (M.length + 1) ≤ sizeLim := hz
    have st : ∀ k : Env → Res, (tSeq (tsCons (tName 3) (tsCons (tName 4) tsNil))) (pr d (g d)) (envO s m w R u v) k = k (envO s m w R (some (.sh (.int d))) (some (.sh (.int (g d))))) := fun k => by
      have h5 : loose (envO s m w R u v) 3 = true := by cases u with | none => rfl | some u => cases u <;> first | rfl | exact l3
      have h6 : loose ((envO s m w R u v).set 3 (some (.sh (.int d)))) 4 = true := by cases v with | none => rfl | some v => cases v <;> first | rfl | exact l4
      simp only [tSeq, tsCons, tName, tsNil, DL.put]
      rw [if_pos h5, if_pos h6]
      rfl
    have hl := addDay_len R d
    obtain ⟨u', v', ih⟩ := over_loop (s := s) (m := m) (w := w) g C M (if m < g d then addDay R d else R) (some (.sh (.int d))) (some (.sh (.int (g d)))) rfl rfl (by split <;> omega)
    refine ⟨u', v', ?_⟩
    show (tSeq (tsCons (tName 3) (tsCons (tName 4) tsNil))) (pr d (g d)) (envO s m w R u v) _ = _
    rw [st, over_body _ (by omega)]
    refine Eq.trans (b := loop (tSeq (tsCons (tName 3) (tsCons (tName 4) tsNil))) bodyO C (M.map fun d => pr d (g d)) (envO s m w (if m < g d then addDay R d else R) (some (.sh (.int d))) (some (.sh (.int (g d)))))) rfl ?_
    rw [ih]
    by_cases h : m < g d
    · rw [if_pos h, List.filter_cons_of_pos (by simpa using h), List.foldl_cons]
    · rw [if_neg h, List.filter_cons_of_neg (by simpa using h)]
theorem over_days_ok {s : List (Int × Int)} (h : Ok s) {m w : Int} (r : Ru m w) (hz : (days s).length ≤ 16777216) : F_over_days [.sh (st s), .sh (ru m w)] = some (.ret (.ow (st (runs (over (days s) m w)))) [none, none]) := by
  have h1 := r.lo
  have h2 := r.mid
  have c1 : F_check_stays [.sh (st s), .sh (ru m w)] = some (.ret (.sh .none) [none, none]) := check_stays_ok h r
  have c2 := used_days_ok h (w := w) (by omega) hz
  show opt (F_check_stays [.sh (st s), .sh (ru m w)]) _ = _
  rw [c1]
  show opt (F_used_days [.sh (st s), .sh (.int w)]) _ = _
  rw [c2]
  refine Eq.trans (b := loop (tSeq (tsCons (tName 3) (tsCons (tName 4) tsNil))) bodyO _ ((days s).map fun d => pr d (cw (days s) w d)) (envO s m w [] none none)) rfl ?_
  refine Exists.elim (over_loop (s := s) (m := m) (w := w) (fun d => cw (days s) w d) _ (days s) [] none none rfl rfl (by rw [List.length_nil, Nat.zero_add]; exact hz)) fun u' h1 => Exists.elim h1 fun v' e => e.trans ?_
  rfl
end DL.k43
set_option maxRecDepth 100000
set_option maxHeartbeats 1000000
/-! k43: what is used, left, free. -/
namespace DL.k43
open PySem
abbrev used (s : List (Int × Int)) (w d : Int) : Int := daysBy s (d - w + 1) d
theorem lim_of {s : List (Int × Int)} (h : s.length ≤ 200) : s.length ≤ sizeLim := Nat.le_trans h (by decide)
theorem used_by_ok (s : List (Int × Int)) (w d : Int) (h : s.length ≤ sizeLim) : F_used_by [.sh (st s), .sh (.int w), .sh (.int d)] = some (.ret (.sh (.int (used s w d))) [none, none, none]) := by
  show opt (F_days_by [.sh (st s), .sh (.int (d - w + 1)), .sh (.int d)]) _ = _
  rw [days_by s _ _ h]
  rfl
theorem used_on_ok {s : List (Int × Int)} {m w d : Int} (h : Ok s) (r : Ru m w) (hd : 0 ≤ d ∧ d ≤ 100000) : F_used_on [.sh (st s), .sh (ru m w), .sh (.int d)] = some (.ret (.sh (.int (used s w d))) [none, none, none]) := by
  show opt (F_check_stays [.sh (st s), .sh (ru m w)]) _ = _
  rw [check_stays_ok h r]
  show opt (F_is_day_papers [.sh (.int d)]) _ = _
  rw [is_day_ok hd]
  show opt (F_used_by [.sh (st s), .sh (.int w), .sh (.int d)]) _ = _
  rw [used_by_ok s w d (lim_of h.len)]
  rfl
def lastOf (s : List (Int × Int)) : Int := match s.getLast? with
  | some p => p.2
  | none => -1
theorem last_of_ok (s : List (Int × Int)) : F_last_of [.sh (st s)] = some (.ret (.sh (.int (lastOf s))) [none]) := by
  rcases List.eq_nil_or_concat s with rfl | ⟨s', p, rfl⟩
  · rfl
  · rw [List.concat_eq_append]
    have hx : ixD (st (s' ++ [p])) (.int (-1)) = some (.sh (enc p)) := by
      show (idx ((s' ++ [p]).map enc) (-1)).map RV.sh = _
      rw [List.map_append, List.map_singleton, idx_last]
      rfl
    have hl : decide ((0 : Int) < (((s' ++ [p]).map enc).length : Nat)) = true := decide_eq_true (by rw [List.length_map, List.length_append, List.length_singleton]; omega)
    have e1 : Ev [some (.sh (st (s' ++ [p])))] (eOp ixD (eOp ixD (eVar 0) (eUn negD (eC (.int 1)))) (eC (.int 1))) (.sh (.int p.2)) := .op (.op (.v rfl) (.un .c rfl rfl) rfl rfl hx) .c rfl rfl rfl
    have hL : lastOf (s' ++ [p]) = p.2 := by unfold lastOf; rw [List.getLast?_concat]
    rw [hL]
    refine (if_pos (c := decide ((0 : Int) < (((s' ++ [p]).map enc).length : Nat)) = true) hl).trans ?_
    exact (e1 _ _).trans rfl
theorem behind_ok {s : List (Int × Int)} {d : Int} (h : lastOf s < d) : F_check_behind [.sh (st s), .sh (.int d)] = some (.ret (.sh .none) [none, none]) := by
  show opt (F_last_of [.sh (st s)]) _ = _
  rw [last_of_ok]
  exact (if_neg (c := decide (d ≤ lastOf s) = true) (by rw [decide_eq_true_eq]; omega)).trans rfl
theorem do_keep_ok {s : List (Int × Int)} {m w : Int} (h : Ok s) (r : Ru m w) (hz : (days s).length ≤ 16777216) : F_do_keep [.sh (st s), .sh (ru m w)] = some (.ret (.sh (.bool (decide (runs (over (days s) m w) = [])))) [none, none]) := by
  show opt (F_over_days [.sh (st s), .sh (ru m w)]) _ = _
  rw [over_days_ok h r hz]
  refine Eq.trans (b := opt (eqD (.int (((runs (over (days s) m w)).map enc).length : Nat)) (.int 0)) fun t => some (.ret (.sh (.bool t)) [none, none])) rfl ?_
  rw [eqD_int]
  have : decide (((((runs (over (days s) m w)).map enc).length : Nat) : Int) = 0) = decide (runs (over (days s) m w) = []) := by
    rw [List.length_map]
    cases runs (over (days s) m w) with
    | nil => rfl
    | cons a l => rw [decide_eq_false (by rw [List.length_cons]; omega), decide_eq_false (by simp)]
  rw [this]
  rfl
theorem days_in_ok {s : List (Int × Int)} {a b : Int} (h : Ok s) (ha : 0 ≤ a ∧ a ≤ 100000) (hb : 0 ≤ b ∧ b ≤ 100000) : F_days_in [.sh (st s), .sh (.int a), .sh (.int b)] = some (.ret (.sh (.int (daysBy s a b))) [none, none, none]) := by
  show opt (F_are_stays [.sh (st s)]) _ = _
  rw [are_stays_ok h]
  show opt (F_is_day_papers [.sh (.int a)]) _ = _
  rw [is_day_ok ha]
  show opt (F_is_day_papers [.sh (.int b)]) _ = _
  rw [is_day_ok hb]
  show opt (F_days_by [.sh (st s), .sh (.int a), .sh (.int b)]) _ = _
  rw [days_by s a b (lim_of h.len)]
  rfl
abbrev envR (s : List (Int × Int)) (m w d : Int) (j : Nat) : Env := [some (.sh (st s)), some (.sh (ru m w)), some (.sh (.int d)), some (.sh (.int (j : Nat)))]
noncomputable abbrev condR : DB := cAnd (cCmp ltD (eVar 3) (eOp ixD (eVar 1) (eC (.int 0)))) (cCmp leD (eOp addD (eCall F_used_by [false, false, false] (aCons (eVar 0) (aCons (eOp ixD (eVar 1) (eC (.int 1))) (aCons (eOp addD (eVar 2) (eVar 3)) aNil)))) (eFn minD (aCons (eOp addD (eVar 3) (eC (.int 1))) (aCons (eOp ixD (eVar 1) (eC (.int 1))) aNil)))) (eOp ixD (eVar 1) (eC (.int 0))))
theorem cond_ok {s : List (Int × Int)} {m w d : Int} (h : s.length ≤ sizeLim) (r : Ru m w) (j : Nat) : EvT (envR s m w d j) condR (decide ((j : Int) < m) && decide (used s w (d + (j : Nat)) + ((j : Nat) + 1) ≤ m)) := by
  refine .and (.cmp (.v rfl) (.op (.v rfl) .c rfl rfl rfl) rfl rfl rfl) fun hj => ?_
  have hj := of_decide_eq_true hj
  have h2 := r.mid
  have eu : Ev (envR s m w d j) (eCall F_used_by [false, false, false] (aCons (eVar 0) (aCons (eOp ixD (eVar 1) (eC (.int 1))) (aCons (eOp addD (eVar 2) (eVar 3)) aNil)))) (.sh (.int (used s w (d + (j : Nat))))) :=
    .call (.cons (.v rfl) (.cons (.op (.v rfl) .c rfl rfl rfl) (.cons (.op (.v rfl) (.v rfl) rfl rfl rfl) .nil))) rfl rfl (used_by_ok s w _ h) (.inl rfl) rfl
  have em : Ev (envR s m w d j) (eFn minD (aCons (eOp addD (eVar 3) (eC (.int 1))) (aCons (eOp ixD (eVar 1) (eC (.int 1))) aNil))) (.sh (.int ((j : Nat) + 1))) := by
    refine .fn (.cons (.op (.v rfl) .c rfl rfl rfl) (.cons (.op (.v rfl) .c rfl rfl rfl) .nil)) rfl ?_
    show some (RV.sh (.int (if w < (j : Nat) + 1 then w else (j : Nat) + 1))) = _
    rw [if_neg (by omega)]
  exact .cmp (.op eu em rfl rfl rfl) (.op (.v rfl) .c rfl rfl rfl) rfl rfl rfl
theorem rest_loop {s : List (Int × Int)} {m w d : Int} (h : s.length ≤ sizeLim) (r : Ru m w) (C : Conts) : ∃ j : Nat, sWhile condR (sAug iaddD 3 (eC (.int 1))) (envR s m w d 0) C = C.nx (envR s m w d j) ∧ (j : Int) ≤ m ∧
    (∀ i : Nat, i < j → used s w (d + (i : Nat)) + ((i : Nat) + 1) ≤ m) ∧ ((j : Int) < m → m < used s w (d + (j : Nat)) + ((j : Nat) + 1)) := by
  have h1 := r.lo
  obtain ⟨j, p, b, e⟩ := while_steps (C := C) (c := condR) (body := sAug iaddD 3 (eC (.int 1))) (fun j : Nat => envR s m w d j) (fun j => j + 1) (fun j => decide ((j : Int) < m) && decide (used s w (d + (j : Nat)) + ((j : Nat) + 1) ≤ m)) (fun j => (j : Int) ≤ m ∧ ∀ i : Nat, i < j → used s w (d + (i : Nat)) + ((i : Nat) + 1) ≤ m) (fun j => m.toNat - j)
    (fun j p => ⟨fun hb => by
      rw [Bool.and_eq_true, decide_eq_true_eq, decide_eq_true_eq] at hb
      refine ⟨⟨by omega, fun i hi => ?_⟩, by omega⟩
      by_cases hij : i = j
      · rw [hij]; exact hb.2
      · exact p.2 i (by omega), fun kn => by
      rw [cond_ok h r j]
      by_cases hb : (decide ((j : Int) < m) && decide (used s w (d + (j : Nat)) + ((j : Nat) + 1) ≤ m)) = true
      · rw [if_pos hb, if_pos hb]
        rfl
      · rw [if_neg hb, if_neg hb]⟩) fuel 0 ⟨by omega, fun i hi => absurd hi (Nat.not_lt_zero _)⟩ (by
      have h3 := r.mid
      have h4 := r.hi
      have : (1000000000 : Nat) < fuel := by rw [fuel_eq]; decide
      omega)
  refine ⟨j, e, p.1, p.2, fun hj => ?_⟩
  rw [Bool.and_eq_false_iff] at b
  rcases b with b | b
  · have := of_decide_eq_false b; omega
  · have := of_decide_eq_false b; omega
theorem rest_by_ok {s : List (Int × Int)} {m w d : Int} (h : s.length ≤ sizeLim) (r : Ru m w) : ∃ j : Nat, F_rest_by [.sh (st s), .sh (ru m w), .sh (.int d)] = some (.ret (.sh (.int (j : Nat))) [none, none, none]) ∧ (j : Int) ≤ m ∧
    (∀ i : Nat, i < j → used s w (d + (i : Nat)) + ((i : Nat) + 1) ≤ m) ∧ ((j : Int) < m → m < used s w (d + (j : Nat)) + ((j : Nat) + 1)) := by
  refine Exists.elim (rest_loop (d := d) h r _) fun j p => ⟨j, Eq.trans p.1 ?_, p.2⟩
  rfl
theorem rest_from_ok {s : List (Int × Int)} {m w d : Int} (h : Ok s) (r : Ru m w) (hd : 0 ≤ d ∧ d ≤ 100000) (hb : lastOf s < d) : ∃ j : Nat, F_rest_from [.sh (st s), .sh (ru m w), .sh (.int d)] = some (.ret (.sh (.int (j : Nat))) [none, none, none]) ∧ (j : Int) ≤ m ∧
    (∀ i : Nat, i < j → used s w (d + (i : Nat)) + ((i : Nat) + 1) ≤ m) ∧ ((j : Int) < m → m < used s w (d + (j : Nat)) + ((j : Nat) + 1)) := by
  obtain ⟨j, e, p⟩ := rest_by_ok (d := d) (lim_of h.len) r
  refine ⟨j, ?_, p⟩
  show opt (F_check_stays [.sh (st s), .sh (ru m w)]) _ = _
  rw [check_stays_ok h r]
  show opt (F_is_day_papers [.sh (.int d)]) _ = _
  rw [is_day_ok hd]
  show opt (F_check_behind [.sh (st s), .sh (.int d)]) _ = _
  rw [behind_ok hb]
  show opt (F_rest_by [.sh (st s), .sh (ru m w), .sh (.int d)]) _ = _
  rw [e]
  rfl
theorem last_day_ok {s : List (Int × Int)} {m w d : Int} {j : Nat} (e : F_rest_from [.sh (st s), .sh (ru m w), .sh (.int d)] = some (.ret (.sh (.int (j : Nat))) [none, none, none])) : F_last_day [.sh (st s), .sh (ru m w), .sh (.int d)] = some (.ret (.sh (if 0 < (j : Int) then .int (d + (j : Nat) - 1) else .none)) [none, none, none]) := by
  show opt (F_rest_from [.sh (st s), .sh (ru m w), .sh (.int d)]) _ = _
  rw [e]
  by_cases hj : 0 < (j : Int)
  · rw [if_pos hj]
    exact (if_pos (c := decide ((0 : Int) < (j : Nat)) = true) (decide_eq_true hj)).trans rfl
  · rw [if_neg hj]
    exact (if_neg (c := decide ((0 : Int) < (j : Nat)) = true) (by rw [decide_eq_true_eq]; exact hj)).trans rfl
theorem free_again_ok {s : List (Int × Int)} {m w d : Int} (h : Ok s) (r : Ru m w) (hd : 0 ≤ d ∧ d ≤ 100000) (hb : lastOf s < d) : F_free_again [.sh (st s), .sh (ru m w), .sh (.int d)] = some (.ret (.sh (.int (if s = [] then d else if d < lastOf s + w then lastOf s + w else d))) [none, none, none]) := by
  show opt (F_check_stays [.sh (st s), .sh (ru m w)]) _ = _
  rw [check_stays_ok h r]
  show opt (F_is_day_papers [.sh (.int d)]) _ = _
  rw [is_day_ok hd]
  show opt (F_check_behind [.sh (st s), .sh (.int d)]) _ = _
  rw [behind_ok hb]
  cases s with
  | nil => rfl
  | cons p s =>
    refine (if_pos (c := decide ((0 : Int) < (((p :: s).map enc).length : Nat)) = true) (decide_eq_true (by rw [List.length_map, List.length_cons]; omega))).trans ?_
    show opt (F_last_of [.sh (st (p :: s))]) _ = _
    rw [last_of_ok]
    rfl
end DL.k43
set_option maxRecDepth 100000
set_option maxHeartbeats 1000000
/-! k43: runs. -/
namespace DL.k43
open PySem
structure Good (R : List (Int × Int)) (L : List Int) : Prop where
  flat : days R = L
  le : ∀ p ∈ R, p.1 ≤ p.2
  gap : R.Pairwise fun p q => p.2 + 1 < q.1
theorem days_append (R S : List (Int × Int)) : days (R ++ S) = days R ++ days S := List.flatMap_append
theorem rg_snoc {a b : Int} (h : a ≤ b) : rg a (b + 1) = rg a b ++ [b] := by
  unfold rg
  rw [show (b + 1 - a).toNat = (b - a).toNat + 1 from by omega, List.range_succ, List.map_append, List.map_singleton]
  congr 2
  omega
theorem rg_self (d : Int) : rg d (d + 1) = [d] := by
  rw [rg_snoc (Int.le_refl d)]
  unfold rg
  rw [show (d - d).toNat = 0 from by omega]
  rfl
theorem Good.add {R : List (Int × Int)} {L : List Int} (g : Good R L) {d : Int} (h : ∀ x ∈ L, x < d) : Good (addDay R d) (L ++ [d]) := by
  rcases List.eq_nil_or_concat R with rfl | ⟨R', p, rfl⟩
  · have : L = [] := g.flat.symm
    subst this
    exact ⟨by show rg d (d + 1) ++ [] = _; rw [rg_self]; rfl, fun p hp => by rw [List.mem_singleton.mp hp]; exact Int.le_refl _, List.pairwise_singleton _ _⟩
  · rw [List.concat_eq_append] at g ⊢
    rw [addDay_last]
    have hp := g.le p (by simp)
    have hfl : days (R' ++ [p]) = days R' ++ rg p.1 (p.2 + 1) := by rw [days_append]; show days R' ++ (rg p.1 (p.2 + 1) ++ []) = _; rw [List.append_nil]
    have hlt : p.2 < d := h p.2 (by rw [← g.flat, hfl]; exact List.mem_append_right _ (mem_rg.mpr ⟨hp, by omega⟩))
    have hg := List.pairwise_append.mp g.gap
    by_cases hd : p.2 = d - 1
    · rw [if_pos hd]
      refine ⟨?_, fun q hq => ?_, List.pairwise_append.mpr ⟨hg.1, List.pairwise_singleton _ _, fun q hq r hr => ?_⟩⟩
      · rw [days_append]
        show days R' ++ (rg p.1 (d + 1) ++ []) = _
        rw [List.append_nil, rg_snoc (by omega), ← g.flat, hfl, List.append_assoc, show p.2 + 1 = d from by omega]
      · rcases List.mem_append.mp hq with hq | hq
        · exact g.le q (List.mem_append_left _ hq)
        · rw [List.mem_singleton.mp hq]; show p.1 ≤ d; omega
      · rw [List.mem_singleton.mp hr]
        exact hg.2.2 q hq p (by simp)
    · rw [if_neg hd]
      refine ⟨?_, fun q hq => ?_, List.pairwise_append.mpr ⟨g.gap, List.pairwise_singleton _ _, fun q hq r hr => ?_⟩⟩
      · rw [days_append, g.flat]
        show L ++ (rg d (d + 1) ++ []) = _
        rw [rg_self]
        rfl
      · rcases List.mem_append.mp hq with hq | hq
        · exact g.le q hq
        · rw [List.mem_singleton.mp hq]; exact Int.le_refl _
      · rw [List.mem_singleton.mp hr]
        show q.2 + 1 < d
        rcases List.mem_append.mp hq with hq | hq
        · have := hg.2.2 q hq p (by simp)
          omega
        · rw [List.mem_singleton.mp hq]; omega
theorem runs_good {L : List Int} (h : L.Pairwise (· < ·)) : Good (runs L) L := by
  have go : ∀ (M : List Int) (K : List Int) (R : List (Int × Int)), Good R K → (K ++ M).Pairwise (· < ·) → Good (M.foldl addDay R) (K ++ M) := by
    intro M
    induction M with
    | nil => intro K R g _; rw [List.append_nil]; exact g
    | cons d M ih =>
      intro K R g hp
      rw [List.foldl_cons, show K ++ d :: M = (K ++ [d]) ++ M from by simp]
      refine ih (K ++ [d]) _ (g.add fun x hx => (List.pairwise_append.mp hp).2.2 x hx d List.mem_cons_self) ?_
      rw [List.append_assoc]
      exact hp
  exact go L [] [] ⟨rfl, fun _ h => (by cases h), List.Pairwise.nil⟩ h
theorem over_sorted {L : List Int} (h : L.Pairwise (· < ·)) (m w : Int) : (over L m w).Pairwise (· < ·) := List.Pairwise.filter _ h
theorem gap_weak {R : List (Int × Int)} (h : R.Pairwise fun p q => p.2 + 1 < q.1) : R.Pairwise fun p q => p.2 < q.1 := List.Pairwise.imp (fun h => by omega) h
/-- a row of the runs ends at or behind d, or no over day is there -/
theorem runs_from {L : List Int} (h : L.Pairwise (· < ·)) (d : Int) : ((runs L).filter fun p => decide (p.2 ≥ d)) = [] ↔ ∀ x ∈ L, x < d := by
  have g := runs_good h
  rw [List.filter_eq_nil_iff]
  constructor
  · intro hn x hx
    rw [← g.flat] at hx
    obtain ⟨p, hp, hx⟩ := mem_days.mp hx
    have := hn p hp
    rw [decide_eq_true_eq] at this
    omega
  · intro hn p hp
    rw [decide_eq_true_eq]
    have hx : p.2 ∈ L := by
      rw [← g.flat]
      exact mem_days.mpr ⟨p, hp, g.le p hp, Int.le_refl _⟩
    have := hn _ hx
    omega
end DL.k43
set_option maxRecDepth 100000
set_option maxHeartbeats 1000000
/-! k43: the checker's days over. -/
namespace DL.k43
open PySem
theorem mapIdx_filter {β : Type} (b : Nat × Int → Bool) (c : Int → Bool) (g : Int → β) (L : List Int) (h : ∀ (i : Nat) d, L[i]? = some d → b (i, d) = c d) : ((L.mapIdx fun i x => (i, x)).filter b).map (fun q => g q.2) = (L.filter c).map g := by
  have e : (L.mapIdx fun i x => (i, x)).filter b = (L.mapIdx fun i x => (i, x)).filter fun q => c q.2 := List.filter_congr fun q hq => h q.1 q.2 (idx_mem hq)
  rw [e]
  have : ((L.mapIdx fun i x => (i, x)).filter fun q => c q.2).map (fun q => g q.2) = (((L.mapIdx fun i x => (i, x)).map fun q => q.2).filter c).map g := by
    rw [List.filter_map, List.map_map]
    rfl
  rw [this, mapIdx_snd (fun d => d), List.map_id']
abbrev condA : DB := cAnd (cCmp geD (eVar 4) (eVar 2)) (cCmp gtD (eOp ixD (eVar 0) (eOp subD (eVar 4) (eVar 2))) (eOp subD (eVar 5) (eVar 3)))
abbrev envA (L : List Int) (m w : Int) (q : Nat × Int) : Env := [some (.sh (.list (L.map .int))), some (.sh (ru m w)), some (.sh (.int m)), some (.sh (.int w)), some (.sh (.int (q.1 : Nat))), some (.sh (.int q.2))]
theorem all_over_ok {L : List Int} (hL : L.Pairwise (· < ·)) {m w : Int} (r : Ru m w) (hz : L.length ≤ 16777216) : F_all_over [.sh (.list (L.map .int)), .sh (ru m w)] = some (.ret (.ow (.list ((over L m w).map .int))) [none, none]) := by
  have h1 := r.lo
  refine Eq.trans (b := lc [4, 5] (tSeq (tsCons (tName 4) (tsCons (tName 5) tsNil))) (cAnd (cCmp geD (eVar 4) (eVar 2)) (cCmp gtD (eOp ixD (eVar 0) (eOp subD (eVar 4) (eVar 2))) (eOp subD (eVar 5) (eVar 3)))) (eVar 5) _ (enumD (L.map .int)) [some (.sh (.list (L.map .int))), some (.sh (ru m w)), some (.sh (.int m)), some (.sh (.int w)), none, none] []) rfl ?_
  rw [enum_ints]
  refine (lc_all (enc := encN) (fun q => decide (m ≤ (q.1 : Nat)) && decide (q.2 - w < L[q.1 - m.toNat]?.getD 0)) (fun q => .int q.2) (fun q => [some (.sh (.list (L.map .int))), some (.sh (ru m w)), some (.sh (.int m)), some (.sh (.int w)), some (.sh (.int (q.1 : Nat))), some (.sh (.int q.2))]) (L.mapIdx fun i x => (i, x)) [] (by rw [List.length_mapIdx, List.length_nil, Nat.zero_add]; exact hz) fun q hq => ⟨rfl, rfl, fun kt kf => ?_⟩).trans ?_
  · have e := idx_mem hq
    have hql : q.1 < L.length := (List.getElem?_eq_some_iff.mp e).1
    have ec : EvT (envA L m w q) condA (decide (m ≤ (q.1 : Nat)) && decide (q.2 - w < L[q.1 - m.toNat]?.getD 0)) := by
      refine .and (.cmp (.v rfl) (.v rfl) rfl rfl rfl) fun hm => ?_
      have hm := of_decide_eq_true hm
      have ei : L[q.1 - m.toNat]? = some (L[q.1 - m.toNat]'(by omega)) := List.getElem?_eq_getElem _
      rw [ei]
      have this := ix_int ei
      rw [show (((q.1 - m.toNat : Nat)) : Int) = (q.1 : Nat) - m from by omega] at this
      exact .cmp (.op (.v rfl) (.op (.v rfl) (.v rfl) rfl rfl rfl) rfl rfl this) (.op (.v rfl) (.v rfl) rfl rfl rfl) rfl rfl rfl
    refine Eq.trans (b := condA (envA L m w q) (fun p ρ2 => if p = true then eVar 5 ρ2 (fun r ρ3 => freeze ρ3 r.w kt) noX else kf ρ2) noX) rfl ?_
    rw [ec]
    rfl
  rw [List.nil_append, mapIdx_filter _ (fun d => decide (m < cw L w d)) (fun d => PyData.int d) L fun i d e => ?_]
  · rfl
  · have hu := upto_self hL e
    have hi := (List.getElem?_eq_some_iff.mp e).1
    show (decide (m ≤ (i : Nat)) && decide (d - w < L[i - m.toNat]?.getD 0)) = _
    unfold cw
    rw [hu]
    by_cases hm : m ≤ (i : Nat)
    · have ei : L[i - m.toNat]? = some (L[i - m.toNat]'(by omega)) := List.getElem?_eq_getElem _
      have hc := upto_at hL (d - w) _ _ ei
      rw [ei, decide_eq_true hm, Bool.true_and]
      show decide (d - w < L[i - m.toNat]'(by omega)) = _
      by_cases hx : d - w < L[i - m.toNat]'(by omega)
      · rw [decide_eq_true hx, decide_eq_true (by omega)]
      · rw [decide_eq_false hx, decide_eq_false (by omega)]
    · rw [decide_eq_false hm, Bool.false_and, decide_eq_false (by omega)]
theorem is_day_c {n : Int} (h : 0 ≤ n ∧ n ≤ 100000) : F_is_day_checkstays [.sh (.int n)] = some (.ret (.sh (.bool true)) [none]) := by
  show opt (F_is_within [.sh (.int n), .sh (.int 0), .sh (.int 100000)]) _ = _
  rw [within_ok h]
  rfl
theorem is_rule_c {m w : Int} (h : Ru m w) : F_is_rule_checkstays [.sh (ru m w)] = some (.ret (.sh (.bool true)) [none]) := by
  have h1 := h.lo; have h2 := h.mid; have h3 := h.hi
  show opt (F_is_within [.sh (.int w), .sh (.int 1), .sh (.int 1000)]) _ = _
  rw [within_ok (by omega)]
  show opt (F_is_within [.sh (.int m), .sh (.int 1), .sh (.int w)]) _ = _
  rw [within_ok (by omega)]
  rfl
end DL.k43
set_option maxRecDepth 100000
set_option maxHeartbeats 1000000
/-! k43: need_stays, takes_over. -/
namespace DL.k43
open PySem
theorem need_stays_ok {s : List (Int × Int)} (h : Ok s) : F_need_stays [.sh (st s)] = some (.ret (.sh .none) [none]) := by
  have hl := h.len
  have hz : s.length ≤ sizeLim := lim_of hl
  have e0 : decide ((((s.map enc).length : Nat) : Int) ≤ 200) = true := decide_eq_true (by rw [List.length_map]; omega)
  refine Eq.trans (b := opt (F_check [.sh (.bool (decide ((((s.map enc).length : Nat) : Int) ≤ 200)))]) _) rfl ?_
  rw [e0, check_true]
  refine (lc_all (enc := enc) (fun _ => true) (fun p => .bool true) (fun p => [some (.sh (st s)), some (.sh (enc p)), none, none, none]) s [] (by simpa using hz) fun p hp => ⟨rfl, rfl, fun kt kf => ?_⟩).trans ?_
  · have d := h.day p hp
    have e1 : F_is_day_checkstays [.sh (.int p.1)] = some (.ret (.sh (.bool true)) [none]) := is_day_c (by omega)
    have e2 : F_is_day_checkstays [.sh (.int p.2)] = some (.ret (.sh (.bool true)) [none]) := is_day_c (by omega)
    show opt (F_is_day_checkstays [.sh (.int p.1)]) _ = _
    rw [e1]
    show opt (F_is_day_checkstays [.sh (.int p.2)]) _ = _
    rw [e2]
    rfl
  rw [List.filter_eq_self.mpr (fun _ _ => rfl), List.nil_append]
  show opt (allD _) _ = _
  rw [all_ok (b := fun _ => true) fun _ _ => rfl]
  refine (lc_all (enc := enc) (fun _ => true) (fun p => .bool (decide (p.1 ≤ p.2))) (fun p => [some (.sh (st s)), none, some (.sh (.int p.1)), some (.sh (.int p.2)), none]) s [] (by simpa using hz) fun p _ => ⟨rfl, rfl, fun kt kf => rfl⟩).trans ?_
  rw [List.filter_eq_self.mpr (fun _ _ => rfl), List.nil_append]
  show opt (allD _) _ = _
  rw [all_ok (b := fun p : Int × Int => decide (p.1 ≤ p.2)) fun p hp => decide_eq_true (h.day p hp).2.1]
  have e3 : cut (s.map enc) (some 1) none = s.tail.map enc := cut_tail s
  have e4 : zipD (s.map enc) (s.tail.map enc) = (s.zip s.tail).map fun q => PyData.tuple [enc q.1, enc q.2] := by
    unfold zipD
    rw [List.zipWith_map, List.zip_eq_zipWith, List.map_zipWith]
  refine Eq.trans (b := if true = true then lc [1, 4] (tSeq (tsCons (tName 1) (tsCons (tName 4) tsNil))) yes (eB (cCmp ltD (eOp ixD (eVar 1) (eC (PyData.int 1))) (eOp ixD (eVar 4) (eC (PyData.int 0))))) _ (zipD (s.map enc) (cut (s.map enc) (some 1) none)) [some (.sh (st s)), none, none, none, none] [] else none) rfl ?_
  rw [if_pos rfl, e3, e4]
  have hz2 : (s.zip s.tail).length ≤ sizeLim := by rw [List.length_zip]; omega
  refine (lc_all (enc := fun q : (Int × Int) × (Int × Int) => PyData.tuple [enc q.1, enc q.2]) (fun _ => true) (fun q => .bool (decide (q.1.2 < q.2.1))) (fun q => [some (.sh (st s)), some (.sh (enc q.1)), none, none, some (.sh (enc q.2))]) (s.zip s.tail) [] (by simpa using hz2) fun q _ => ⟨rfl, rfl, fun kt kf => rfl⟩).trans ?_
  rw [List.filter_eq_self.mpr (fun _ _ => rfl), List.nil_append]
  show opt (allD _) _ = _
  rw [all_ok (b := fun q : (Int × Int) × (Int × Int) => decide (q.1.2 < q.2.1)) fun q hq => decide_eq_true (are_stays_ok.gap_tail h.gap q hq)]
  rfl
where cut_tail : ∀ s : List (Int × Int), cut (s.map enc) (some 1) none = s.tail.map enc
  | [] => rfl
  | p :: s => by
    unfold cut cutIx
    simp only [List.map_cons, List.tail_cons, List.length_cons, List.length_map]
    rw [if_neg (by decide), show min (Int.toNat 1) (s.length + 1) = 1 from Nat.min_eq_left (by simp)]
    exact List.take_of_length_le (by simp)
end DL.k43
set_option maxRecDepth 100000
set_option maxHeartbeats 1000000
/-! k43: equal lists of pairs; a dict of ints. -/
namespace DL.k43
open PySem
theorem lay_st : ∀ s : List (Int × Int), PyData.canLayAll0 (s.map enc) = true
  | [] => by simp [PyData.canLayAll0]
  | p :: s => by rw [List.map_cons, PyData.canLayAll0, lay_st s]; simp [PyData.canLay0, PyData.canLayAll0]
theorem depth_st : ∀ s : List (Int × Int), PyData.depthAll (s.map enc) ≤ 1
  | [] => by simp [PyData.depthAll]
  | p :: s => by
    have := depth_st s
    rw [List.map_cons, PyData.depthAll]
    simp [PyData.depth, PyData.depthAll]
    omega
theorem shaped_st (s : List (Int × Int)) : SeqAt.shaped (st s) = true := by
  have := depth_st s
  unfold SeqAt.shaped
  rw [PyData.canLay0, PyData.depth, lay_st s, decide_eq_true (by omega)]
  rfl
theorem eqv_int (a b : Int) : PyData.eqv (.int a) (.int b) = decide (a = b) := by
  rw [PyData.eqv]
  rfl
theorem eqv_st : ∀ s t : List (Int × Int), PyData.eqvAll (s.map enc) (t.map enc) = decide (s = t)
  | [], [] => by simp [PyData.eqvAll]
  | [], q :: t => by simp [PyData.eqvAll]
  | p :: s, [] => by simp [PyData.eqvAll]
  | p :: s, q :: t => by
    rw [List.map_cons, List.map_cons, PyData.eqvAll, eqv_st s t]
    have e : PyData.eqv (enc p) (enc q) = decide (p = q) := by
      show PyData.eqv (.tuple [.int p.1, .int p.2]) (.tuple [.int q.1, .int q.2]) = _
      rw [PyData.eqv, PyData.eqvAll, PyData.eqvAll, PyData.eqvAll, eqv_int, eqv_int, Bool.and_true]
      by_cases h1 : p.1 = q.1
      · by_cases h2 : p.2 = q.2
        · rw [decide_eq_true h1, decide_eq_true h2, decide_eq_true (Prod.ext h1 h2)]; rfl
        · rw [decide_eq_false h2, decide_eq_false (p := p = q) (fun e => h2 (congrArg Prod.snd e)), Bool.and_false]
      · rw [decide_eq_false h1, decide_eq_false (p := p = q) (fun e => h1 (congrArg Prod.fst e)), Bool.false_and]
    rw [e]
    by_cases h1 : p = q
    · by_cases h2 : s = t
      · rw [decide_eq_true h1, decide_eq_true h2, decide_eq_true (by rw [h1, h2])]; rfl
      · rw [decide_eq_false h2, decide_eq_false (fun e => h2 (List.cons.inj e).2), Bool.and_false]
    · rw [decide_eq_false h1, decide_eq_false (fun e => h1 (List.cons.inj e).1), Bool.false_and]
theorem eqD_st (s t : List (Int × Int)) : eqD (st s) (st t) = some (decide (s = t)) := by
  unfold eqD
  rw [shaped_st, shaped_st, PyData.eqv, eqv_st]
  rfl
/-! ### a dict of ints to True -/
def dset (L : List Int) : List (D × D) := L.map fun d => (.int d, .bool true)
theorem look_dset (x : Int) : ∀ L : List Int, (lookD (dset L) (.int x)).isSome = decide (x ∈ L)
  | [] => rfl
  | d :: L => by
    have ih := look_dset x L
    unfold lookD dset at ih ⊢
    rw [List.map_cons, List.find?_cons]
    by_cases h : d = x
    · rw [show keyEq (.int d) (.int x) = true from decide_eq_true h]
      simp [h]
    · rw [show keyEq (.int d) (.int x) = false from decide_eq_false h]
      rw [ih]
      simp [Ne.symm h]
theorem plain_dset (L : List Int) : plainKeys (dset L) = true := by
  unfold plainKeys dset
  rw [List.all_map]
  exact List.all_eq_true.mpr fun _ _ => rfl
theorem notIn_dset (x : Int) (L : List Int) : notInD (.int x) (.dict (dset L)) = some (!decide (x ∈ L)) := by
  show (if isKey (.int x) && plainKeys (dset L) then some (lookD (dset L) (.int x)).isSome else none).map (!·) = _
  rw [plain_dset, look_dset]
  rfl
theorem put_dset {L : List Int} {d : Int} (h : d ∉ L) : putD (dset L) (.int d) (.bool true) = dset (L ++ [d]) := by
  have : ((dset L).any fun p => keyEq p.1 (.int d)) = false := by
    unfold dset
    rw [List.any_map, List.any_eq_false]
    intro x hx e
    have e : keyEq (.int x) (.int d) = true := e
    have : x = d := of_decide_eq_true e
    exact h (this ▸ hx)
  unfold putD
  rw [this, if_neg Bool.false_ne_true]
  unfold dset
  rw [List.map_append]
  rfl
theorem dc_set {vs : List Nat} {t : DT} {c : DB} {key e : DE} {k : List (D × D) → Env → Res} {ρ : Env} (ρ' : Int → Env) : ∀ (M L : List Int), (L ++ M).Nodup → (L ++ M).length ≤ sizeLim →
    (∀ a ∈ M, bare (ρ' a) vs = true ∧ wipe (ρ' a) vs = ρ ∧ ∀ (kt : D → D → Env → Res) (kf : Env → Res), t (.int a) ρ (fun ρ1 => c ρ1 (fun p ρ2 => if p = true then key ρ2 (fun rk ρ3 => opt (peek ρ3 rk.w) fun kd => e ρ3 (fun r ρ4 => freeze ρ4 r.w fun d ρ5 => kt kd d ρ5) noX) noX else kf ρ2) noX) = kt (.int a) (.bool true) (ρ' a)) →
    dc vs t c key e k (M.map .int) ρ (dset L) = k (dset (L ++ M)) ρ
  | [], L, _, _, _ => by rw [List.append_nil]; rfl
  | a :: M, L, hn, hz, h => by
    obtain ⟨h1, h2, h3⟩ := h a List.mem_cons_self
    have hL : (dset L).length = L.length := by unfold dset; rw [List.length_map]
    rw [List.length_append, List.length_cons] at hz
    refine Eq.trans (h3 (fun kd d ρ5 => if bare ρ5 vs && isKey kd && decide ((dset L).length < sizeLim) then dc vs t c key e k (M.map .int) (wipe ρ5 vs) (putD (dset L) kd d) else none) (fun ρ2 => if bare ρ2 vs then dc vs t c key e k (M.map .int) (wipe ρ2 vs) (dset L) else none)) ?_
    have hd : a ∉ L := fun z => by
      have := (List.nodup_append.mp hn).2.2 a z a List.mem_cons_self
      exact this rfl
    have e1 : (bare (ρ' a) vs && isKey (.int a) && decide ((dset L).length < sizeLim)) = true := by rw [h1, hL, decide_eq_true (by omega)]; rfl
    rw [if_pos e1, h2, put_dset hd, dc_set ρ' M (L ++ [a]) (by rw [List.append_assoc]; exact hn) (by rw [List.length_append, List.length_append, List.length_singleton]; omega) fun b hb => h b (List.mem_cons_of_mem _ hb), List.append_assoc]
    rfl
end DL.k43
set_option maxRecDepth 100000
set_option maxHeartbeats 1000000
/-! k43: firsts and lasts of runs; takes_over. -/
namespace DL.k43
open PySem
theorem rg_cons {a b : Int} (h : a < b) : rg a b = a :: rg (a + 1) b := by
  unfold rg
  rw [show (b - a).toNat = (b - (a + 1)).toNat + 1 from by omega, List.range_succ_eq_map, List.map_cons, List.map_map]
  refine List.cons_eq_cons.mpr ⟨by omega, List.map_congr_left fun m _ => ?_⟩
  show a + ((m + 1 : Nat) : Int) = a + 1 + (m : Nat)
  omega
theorem firsts_of {R : List (Int × Int)} (hl : ∀ p ∈ R, p.1 ≤ p.2) (hg : R.Pairwise fun p q => p.2 + 1 < q.1) : (days R).filter (fun x => !decide (x - 1 ∈ days R)) = R.map (·.1) := by
  induction R with
  | nil => rfl
  | cons p R ih =>
    have hg2 := List.pairwise_cons.mp hg
    have hp := hl p List.mem_cons_self
    have ih := ih (fun q hq => hl q (List.mem_cons_of_mem _ hq)) hg2.2
    have e : days (p :: R) = rg p.1 (p.2 + 1) ++ days R := rfl
    have far : ∀ x ∈ days R, p.2 + 1 < x := fun x hx => by
      obtain ⟨q, hq, hx⟩ := mem_days.mp hx
      have := hg2.1 q hq
      omega
    have inn : ∀ x, x ∈ days (p :: R) ↔ (p.1 ≤ x ∧ x ≤ p.2) ∨ x ∈ days R := fun x => by
      rw [e, List.mem_append, mem_rg]
      constructor
      · rintro (h | h)
        · exact .inl (by omega)
        · exact .inr h
      · rintro (h | h)
        · exact .inl (by omega)
        · exact .inr h
    rw [e, List.filter_append, List.map_cons, ← e]
    have h2 : (days R).filter (fun x => !decide (x - 1 ∈ days (p :: R))) = R.map (·.1) := by
      rw [← ih]
      refine List.filter_congr fun x hx => ?_
      have := far x hx
      congr 1
      refine decide_eq_decide.mpr ((inn _).trans ⟨fun h => h.elim (fun h => by omega) id, .inr⟩)
    have h1 : (rg p.1 (p.2 + 1)).filter (fun x => !decide (x - 1 ∈ days (p :: R))) = [p.1] := by
      rw [rg_cons (by omega), List.filter_cons_of_pos, List.filter_eq_nil_iff.mpr]
      · intro x hx
        have hx := mem_rg.mp hx
        simp only [Bool.not_eq_true, Bool.not_eq_false', decide_eq_true_eq]
        exact (inn _).mpr (.inl (by omega))
      · simp only [Bool.not_eq_true', decide_eq_false_iff_not]
        intro h
        rcases (inn _).mp h with h | h
        · omega
        · have := far _ h; omega
    rw [h1, h2]
    rfl
theorem lasts_of {R : List (Int × Int)} (hl : ∀ p ∈ R, p.1 ≤ p.2) (hg : R.Pairwise fun p q => p.2 + 1 < q.1) : (days R).filter (fun x => !decide (x + 1 ∈ days R)) = R.map (·.2) := by
  induction R with
  | nil => rfl
  | cons p R ih =>
    have hg2 := List.pairwise_cons.mp hg
    have hp := hl p List.mem_cons_self
    have ih := ih (fun q hq => hl q (List.mem_cons_of_mem _ hq)) hg2.2
    have e : days (p :: R) = rg p.1 (p.2 + 1) ++ days R := rfl
    have far : ∀ x ∈ days R, p.2 + 1 < x := fun x hx => by
      obtain ⟨q, hq, hx⟩ := mem_days.mp hx
      have := hg2.1 q hq
      omega
    have inn : ∀ x, x ∈ days (p :: R) ↔ (p.1 ≤ x ∧ x ≤ p.2) ∨ x ∈ days R := fun x => by
      rw [e, List.mem_append, mem_rg]
      constructor
      · rintro (h | h)
        · exact .inl (by omega)
        · exact .inr h
      · rintro (h | h)
        · exact .inl (by omega)
        · exact .inr h
    rw [e, List.filter_append, List.map_cons, ← e]
    have h2 : (days R).filter (fun x => !decide (x + 1 ∈ days (p :: R))) = R.map (·.2) := by
      rw [← ih]
      refine List.filter_congr fun x hx => ?_
      have := far x hx
      congr 1
      refine decide_eq_decide.mpr ((inn _).trans ⟨fun h => h.elim (fun h => by omega) id, .inr⟩)
    have h1 : (rg p.1 (p.2 + 1)).filter (fun x => !decide (x + 1 ∈ days (p :: R))) = [p.2] := by
      rw [rg_snoc hp, List.filter_append, List.filter_cons_of_pos, List.filter_eq_nil_iff.mpr]
      · rfl
      · intro x hx
        have hx := mem_rg.mp hx
        simp only [Bool.not_eq_true, Bool.not_eq_false', decide_eq_true_eq]
        exact (inn _).mpr (.inl (by omega))
      · simp only [Bool.not_eq_true', decide_eq_false_iff_not]
        intro h
        rcases (inn _).mp h with h | h
        · omega
        · have := far _ h; omega
    rw [h1, h2]
    rfl
end DL.k43
set_option maxRecDepth 100000
set_option maxHeartbeats 1000000
/-! k43: takes_over. -/
namespace DL.k43
open PySem
theorem zip_runs (R : List (Int × Int)) : zipD ((R.map (·.1)).map .int) ((R.map (·.2)).map .int) = R.map enc := by
  unfold zipD
  rw [List.map_map, List.map_map]
  induction R with
  | nil => rfl
  | cons p R ih =>
    rw [List.map_cons, List.map_cons, List.map_cons, List.zipWith_cons_cons, ih]
    rfl
theorem takes_over_ok {s : List (Int × Int)} (h : Ok s) {m w : Int} (r : Ru m w) (hz : (days s).length ≤ 16777216) (T : List (Int × Int)) :
    F_takes_over [.sh (st s), .sh (ru m w), .sh (st T)] = some (.ret (.sh (.bool (decide (T = runs (over (days s) m w))))) [none, none, none]) := by
  have hL := days_sorted h.gap
  have fl := flat_days s
  have hz' : (s.flatMap fun p => (rg p.1 (p.2 + 1)).map PyData.int).length ≤ sizeLim := by rw [fl, List.length_map]; exact hz
  have hO := over_sorted hL m w
  have g := runs_good hO
  have hoz : (over (days s) m w).length ≤ sizeLim := Nat.le_trans (List.length_filter_le _ _) hz
  show opt (F_need_stays [.sh (st s)]) _ = _
  rw [need_stays_ok h]
  show opt (F_is_rule_checkstays [.sh (ru m w)]) _ = _
  rw [is_rule_c r]
  refine (lc2_all (enc := enc) (fun p => (rg p.1 (p.2 + 1)).map PyData.int) (fun p => [some (.sh (st s)), some (.sh (ru m w)), some (.sh (st T)), none, none, none, none, none, some (.sh (.int p.1)), some (.sh (.int p.2))]) s [] (by simpa using hz') fun p hp => ⟨rfl, rfl, fun acc K kf hl => ?_⟩).trans ?_
  · have d := h.day p hp
    show opt (ranged2 [.int p.1, .int (p.2 + 1)]) _ = _
    rw [ranged2_ok (by omega) (by omega) (by omega) (by omega)]
    rw [List.length_map] at hl
    refine (lcIn_all (enc := PyData.int) (fun _ => true) PyData.int (fun x => [some (.sh (st s)), some (.sh (ru m w)), some (.sh (st T)), none, none, none, none, some (.sh (.int x)), some (.sh (.int p.1)), some (.sh (.int p.2))]) (rg p.1 (p.2 + 1)) acc hl fun x _ => ⟨rfl, rfl, fun kt kf => rfl⟩).trans ?_
    rw [List.filter_eq_self.mpr (fun _ _ => rfl)]
    rfl
  rw [fl, List.nil_append]
  refine Eq.trans (b := opt (F_all_over [.sh (.list ((days s).map .int)), .sh (ru m w)]) _) rfl ?_
  rw [all_over_ok hL r hz]
  generalize hLL : over (days s) m w = L at g hoz hO
  refine Eq.trans (b := dc [7] (tName 7) yes (eVar 7) (eC (.bool true)) _ (L.map .int) [some (.sh (st s)), some (.sh (ru m w)), some (.sh (st T)), some (.sh (.list (L.map .int))), none, none, none, none, none, none] (dset [])) rfl ?_
  rw [dc_set (fun x => [some (.sh (st s)), some (.sh (ru m w)), some (.sh (st T)), some (.sh (.list (L.map .int))), none, none, none, some (.sh (.int x)), none, none]) L [] (by rw [List.nil_append]; exact hO.imp (fun h => Int.ne_of_lt h)) (by rw [List.nil_append]; exact hoz) fun x _ => ⟨rfl, rfl, fun kt kf => rfl⟩, List.nil_append]
  refine Eq.trans (b := lc [7] (tName 7) (cCmp notInD (eOp subD (eVar 7) (eC (.int 1))) (eVar 4)) (eVar 7) _ (L.map .int) [some (.sh (st s)), some (.sh (ru m w)), some (.sh (st T)), some (.sh (.list (L.map .int))), some (.ow (.dict (dset L))), none, none, none, none, none] []) rfl ?_
  rw [lc_all (enc := PyData.int) (fun x => !decide (x - 1 ∈ L)) (fun x => .int x) (fun x => [some (.sh (st s)), some (.sh (ru m w)), some (.sh (st T)), some (.sh (.list (L.map .int))), some (.ow (.dict (dset L))), none, none, some (.sh (.int x)), none, none]) L [] (by simpa using hoz) fun x _ => ⟨rfl, rfl, fun kt kf => by
    show opt (notInD (.int (x - 1)) (.dict (dset L))) _ = _
    rw [notIn_dset]
    rfl⟩]
  refine Eq.trans (b := lc [7] (tName 7) (cCmp notInD (eOp addD (eVar 7) (eC (.int 1))) (eVar 4)) (eVar 7) _ (L.map .int) [some (.sh (st s)), some (.sh (ru m w)), some (.sh (st T)), some (.sh (.list (L.map .int))), some (.ow (.dict (dset L))), some (.ow (.list ([] ++ (L.filter fun x => !decide (x - 1 ∈ L)).map fun x => .int x))), none, none, none, none] []) rfl ?_
  rw [lc_all (enc := PyData.int) (fun x => !decide (x + 1 ∈ L)) (fun x => .int x) (fun x => [some (.sh (st s)), some (.sh (ru m w)), some (.sh (st T)), some (.sh (.list (L.map .int))), some (.ow (.dict (dset L))), some (.ow (.list ([] ++ (L.filter fun x => !decide (x - 1 ∈ L)).map fun x => .int x))), none, some (.sh (.int x)), none, none]) L [] (by simpa using hoz) fun x _ => ⟨rfl, rfl, fun kt kf => by
    show opt (notInD (.int (x + 1)) (.dict (dset L))) _ = _
    rw [notIn_dset]
    rfl⟩]
  have e1 : (L.filter fun x => !decide (x - 1 ∈ L)) = (runs L).map (·.1) := by
    have := firsts_of g.le g.gap
    rw [g.flat] at this
    exact this
  have e2 : (L.filter fun x => !decide (x + 1 ∈ L)) = (runs L).map (·.2) := by
    have := lasts_of g.le g.gap
    rw [g.flat] at this
    exact this
  rw [List.nil_append, List.nil_append, e1, e2]
  refine Eq.trans (b := opt (eqD (st T) (.list (zipD (((runs L).map (·.1)).map .int) (((runs L).map (·.2)).map .int)))) fun t => some (.ret (.sh (.bool t)) [none, none, none])) rfl ?_
  rw [zip_runs, eqD_st]
  rfl
end DL.k43
set_option maxRecDepth 100000
set_option maxHeartbeats 1000000
/-! k43: can_stay. -/
namespace DL.k43
open PySem
theorem any_map {α : Type} (b : α → Bool) (l : List α) : anyD [.list (l.map fun a => PyData.bool (b a))] = some (.sh (.bool (l.any b))) := by
  show (boolsOf _).map _ = _
  rw [boolsOf_map]
  show some (RV.sh (.bool ((l.map b).any id))) = _
  rw [List.any_map]
  rfl
theorem bound2_ok {i j : Int} (h0 : -1000000000 ≤ i) (h1 : i ≤ 1000000000) (h2 : -1000000000 ≤ j) (h3 : j ≤ 1000000000) (h4 : (rg i j).length ≤ sizeLim) : bound ranged2 [.int i, .int j] = some ((rg i j).map .int) := by
  unfold bound
  rw [ranged2_ok h0 h1 h2 h3]
  show (if ((rg i j).map PyData.int).length ≤ sizeLim then _ else none) = _
  rw [if_pos (by rw [List.length_map]; exact h4)]
theorem peeks_sh (ρ : Env) : ∀ ds : List D, freezes ρ (ds.map RV.sh) = fun k => k ds ρ
  | [] => rfl
  | d :: ds => by
    funext k
    show freezes ρ (ds.map RV.sh) (fun ds' ρ2 => k (d :: ds') ρ2) = _
    rw [peeks_sh ρ ds]
theorem stills_int : ∀ V : List Int, stills (V.map PyData.int) = true
  | [] => by simp [stills]
  | x :: V => by rw [List.map_cons, stills, stills_int V]; simp [still]
theorem can_stay_ok {O : List Int} {c n m w : Int} (r : Ru m w) (hs : (O ++ rg c (c + n)).Pairwise (· < ·)) (hc : 0 ≤ c ∧ c ≤ 1000000) (hn : 0 ≤ n ∧ n ≤ 1000000) (hz : (O ++ rg c (c + n)).length ≤ 16777216) :
    F_can_stay [.sh (.list (O.map .int)), .sh (ru m w), .sh (.int c), .sh (.int n)] = some (.ret (.sh (.bool (!(over (O ++ rg c (c + n)) m w).any fun d => decide (c ≤ d)))) [none, none, none, none]) := by
  have hz1 : (rg c (c + n)).length ≤ sizeLim := by
    have := hz
    rw [List.length_append] at this
    exact Nat.le_trans (Nat.le_add_left _ _) this
  refine Eq.trans (b := opt (bound ranged2 [.int c, .int (c + n)]) fun is => freezes [some (.sh (.list (O.map .int))), some (.sh (ru m w)), some (.sh (.int c)), some (.sh (.int n)), none, none] ((O.map PyData.int).map RV.sh ++ (is.map RV.sh ++ [])) fun ds ρ2 => if ds.length ≤ sizeLim then _ else none) rfl ?_
  rw [bound2_ok (by omega) (by omega) (by omega) (by omega) hz1, opt_s, List.append_nil, ← List.map_append, ← List.map_append, peeks_sh]
  show (if ((O ++ rg c (c + n)).map PyData.int).length ≤ sizeLim then _ else none) = _
  rw [if_pos (by rw [List.length_map]; exact hz)]
  refine Eq.trans (b := opt (F_all_over [.sh (.list ((O ++ rg c (c + n)).map .int)), .sh (ru m w)]) _) rfl ?_
  rw [all_over_ok hs r hz]
  generalize hOv : over (O ++ rg c (c + n)) m w = V
  have hv : V.length ≤ sizeLim := by rw [← hOv]; exact Nat.le_trans (List.length_filter_le _ _) hz
  have hst : stillIn (.list (V.map PyData.int)) = true := stills_int V
  refine (if_pos (c := (false || (stillIn (.list (V.map PyData.int)) && true)) = true) (by rw [hst]; rfl)).trans ?_
  refine Eq.trans (b := lc [5] (tName 5) yes (eB (cCmp geD (eVar 5) (eVar 2))) _ (V.map .int) [some (.sh (.list (O.map .int))), some (.sh (ru m w)), some (.sh (.int c)), some (.sh (.int n)), some (.ow (.list ((O ++ rg c (c + n)).map .int))), none] []) rfl ?_
  rw [lc_all (enc := PyData.int) (fun _ => true) (fun x => .bool (decide (c ≤ x))) (fun x => [some (.sh (.list (O.map .int))), some (.sh (ru m w)), some (.sh (.int c)), some (.sh (.int n)), some (.ow (.list ((O ++ rg c (c + n)).map .int))), some (.sh (.int x))]) V [] (by simpa using hv) fun x _ => ⟨rfl, rfl, fun kt kf => rfl⟩]
  rw [List.filter_eq_self.mpr (fun _ _ => rfl), List.nil_append]
  refine Eq.trans (b := opt (anyD [.list (V.map fun x => PyData.bool (decide (c ≤ x)))]) _) rfl ?_
  rw [any_map]
  rfl
end DL.k43
set_option maxRecDepth 100000
set_option maxHeartbeats 1000000
/-! k43: most_used. -/
namespace DL.k43
open PySem
abbrev encP (g : Int → Int) (d : Int) : D := pr d (g d)
theorem _root_.DL.Ev.lst {ρ : Env} {as : DA} {ds : List D} (h : EvA ρ as (ds.map RV.sh)) (hz : ds.length ≤ sizeLim) : Ev ρ (eLst as) (.ow (.list ds)) := fun k hx => by
  unfold eLst
  rw [h]
  show freezes ρ (ds.map RV.sh) _ = _
  rw [peeks_sh]
  exact if_pos hz
theorem _root_.DL.EvA.star {ρ : Env} {e : DE} {as : DA} {x : RV} {d : D} {is : List D} {rs : List RV} (he : Ev ρ e x) (hp : peek ρ x.w = some d) (hi : itemsOf d = some is) (h : EvA ρ as rs) : EvA ρ (aStar e as) (is.map RV.sh ++ rs) := fun k hx => by
  unfold aStar
  rw [he, hp]
  show opt (itemsOf d) _ = _
  rw [hi]
  show as ρ _ _ = _
  rw [h]
theorem most_used_ok {s : List (Int × Int)} (h : Ok s) {m w : Int} (r : Ru m w) (hz : (days s).length ≤ 16000000) : F_most_used [.sh (st s), .sh (ru m w)] = some (.ret (.sh (.int (most 0 ((days s).map fun d => cw (days s) w d)))) [none, none]) := by
  have h1 := r.lo
  have h2 := r.mid
  have hz2 : (days s).length ≤ sizeLim := Nat.le_trans hz (by decide)
  show opt (F_check_stays [.sh (st s), .sh (ru m w)]) _ = _
  rw [check_stays_ok h r]
  have e0 := used_days_ok h (w := w) (by omega) (by omega)
  have e1 : Ev [some (.sh (st s)), some (.sh (ru m w)), none, none] (eLC [2, 3] (iSeq (eCall F_used_days [false, false] (aCons (eVar 0) (aCons (eOp ixD (eVar 1) (eC (.int 1))) aNil)))) (tSeq (tsCons (tName 2) (tsCons (tName 3) tsNil))) yes (eVar 3)) (.ow (.list ((days s).map fun d => PyData.int (cw (days s) w d)))) := fun k hx => by
    refine Eq.trans (b := opt (F_used_days [.sh (st s), .sh (.int w)]) _) rfl ?_
    rw [e0]
    refine Eq.trans (b := lc [2, 3] (tSeq (tsCons (tName 2) (tsCons (tName 3) tsNil))) yes (eVar 3) _ ((days s).map (encP (cw (days s) w))) [some (.sh (st s)), some (.sh (ru m w)), none, none] []) rfl ?_
    rw [lc_all (enc := encP (cw (days s) w)) (fun _ => true) (fun d => .int (cw (days s) w d)) (fun d => [some (.sh (st s)), some (.sh (ru m w)), some (.sh (.int d)), some (.sh (.int (cw (days s) w d)))]) (days s) [] (by simpa using hz2) fun d _ => ⟨rfl, rfl, fun kt kf => rfl⟩]
    rw [List.filter_eq_self.mpr (fun _ _ => rfl), List.nil_append]
    rfl
  have e3 : maxLD [.list (PyData.int 0 :: (days s).map fun d => PyData.int (cw (days s) w d))] = some (.sh (.int (most 0 ((days s).map fun d => cw (days s) w d)))) := by
    have e2 : (PyData.int 0 :: (days s).map fun d => PyData.int (cw (days s) w d)) = (0 :: (days s).map fun d => cw (days s) w d).map PyData.int := by rw [List.map_cons, List.map_map]; rfl
    show (match intsOf _ with
      | some (i :: r) => some (RV.sh (.int (most i r)))
      | _ => none) = _
    rw [e2, intsOf_ints]
  have e4 : Ev [some (.sh (st s)), some (.sh (ru m w)), none, none] (eLst (aCons (eC (.int 0)) (aStar (eLC [2, 3] (iSeq (eCall F_used_days [false, false] (aCons (eVar 0) (aCons (eOp ixD (eVar 1) (eC (.int 1))) aNil)))) (tSeq (tsCons (tName 2) (tsCons (tName 3) tsNil))) yes (eVar 3)) aNil))) (.ow (.list (PyData.int 0 :: (days s).map fun d => PyData.int (cw (days s) w d)))) := by
    refine .lst ?_ (by rw [List.length_cons, List.length_map]; exact Nat.succ_le_of_lt (Nat.lt_of_le_of_lt hz (by decide)))
    have := EvA.cons (.c (v := PyData.int 0)) (EvA.star e1 rfl rfl .nil)
    rw [List.append_nil] at this
    exact this
  have e5 := Ev.fn (f := maxLD) (.cons e4 .nil) rfl e3
  exact (e5 _ _).trans rfl
end DL.k43
set_option maxRecDepth 100000
set_option maxHeartbeats 4000000
/-! k43: _law_same, _law_take, _law_pick. -/
namespace DL.k43
open PySem
theorem same_b (a b : Bool) : (F_law_sameR 2) [.sh (.bool a), .sh (.bool b)] = some (.ret (.sh (.bool (a == b))) [none, none]) := by cases a <;> cases b <;> rfl
theorem same_3 (b : Bool) : F_law_same [.sh (.list [.bool b, .bool true, .bool false]), .sh (.list [.bool b, .bool true, .bool false])] = some (.ret (.sh (.bool true)) [none, none]) := by cases b <;> rfl
/-- the draws that are left, as a list whose end is drawn first -/
abbrev dr (ds : List Int) : D := .list (ds.map .int)
theorem take_ok (ds : List Int) {n : Int} (h : 0 < n) : ∃ (x : Int) (ds' : List Int), F_law_take [.io (dr ds), .sh (.int n)] = some (.ret (.sh (.int x)) [some (dr ds'), none]) ∧ 0 ≤ x ∧ x < n ∧ (∃ l, ds = ds' ++ l) := by
  rcases List.eq_nil_or_concat ds with rfl | ⟨ds', d, rfl⟩
  · exact ⟨0, [], rfl, by omega, h, [], rfl⟩
  · rw [List.concat_eq_append]
    refine ⟨d % n, ds', ?_, Int.emod_nonneg _ (by omega), Int.emod_lt_of_pos _ h, [d], rfl⟩
    have hl : eqD (.int ((((ds' ++ [d]).map PyData.int).length : Nat) : Int)) (.int 0) = some false := by
      rw [eqD_int, decide_eq_false (by rw [List.length_map, List.length_append, List.length_singleton]; omega)]
    have hg : ((ds' ++ [d]).map PyData.int).getLast? = some (.int d) := by rw [List.map_append, List.map_singleton, List.getLast?_concat]
    have hd : ((ds' ++ [d]).map PyData.int).dropLast = ds'.map .int := by rw [List.map_append, List.map_singleton, List.dropLast_concat]
    have ec : EvT [some (.io (dr (ds' ++ [d]))), some (.sh (.int n))] (cCmp eqD (eFn lenD (aCons (eVar 0) aNil)) (eC (.int 0))) false := .cmp (.fn (.cons (.v rfl) .nil) rfl rfl) .c rfl rfl hl
    show sSeq (sIf (cCmp eqD (eFn lenD (aCons (eVar 0) aNil)) (eC (.int 0))) (sRet (eC (.int 0))) sNil) (sRet (eOp modD (eFn intD (aCons (ePop 0) aNil)) (eVar 1))) [some (.io (dr (ds' ++ [d]))), some (.sh (.int n))] (topC 2) = _
    unfold sSeq sIf
    rw [ec]
    show sRet (eOp modD (eFn intD (aCons (ePop 0) aNil)) (eVar 1)) [some (.io (dr (ds' ++ [d]))), some (.sh (.int n))] (topC 2) = _
    unfold sRet eOp eFn aCons
    have ep : ∀ (k : KV) (hx : KX), ePop 0 [some (.io (dr (ds' ++ [d]))), some (.sh (.int n))] k hx = k (.sh (.int d)) [some (.io (dr ds')), some (.sh (.int n))] := fun k hx => by
      show (match ((ds' ++ [d]).map PyData.int).getLast? with
        | some e => k (.sh e) (List.set [some (.io (dr (ds' ++ [d]))), some (.sh (.int n))] 0 (some (.io (.list ((ds' ++ [d]).map PyData.int).dropLast))))
        | none => none) = _
      rw [hg, hd]
      rfl
    rw [ep]
    refine Eq.trans (b := if 0 < n then some (.ret (.sh (.int (d % n))) [some (dr ds'), none]) else none) ?_ (if_pos h)
    by_cases h' : 0 < n
    · rw [if_pos h']
      have : modD (.int d) (.int n) = some (.sh (.int (d % n))) := if_pos h'
      refine Eq.trans (b := opt (modD (.int d) (.int n)) _) rfl ?_
      rw [this]
      rfl
    · exact absurd h h'
end DL.k43
set_option maxRecDepth 100000
set_option maxHeartbeats 4000000
/-! k43: _law_pick. -/
namespace DL.k43
open PySem
theorem pick_ok (ds : List Int) (L : List Int) (h : L ≠ []) : ∃ (x : Int) (ds' : List Int), F_law_pick [.io (dr ds), .sh (.list (L.map .int))] = some (.ret (.sh (.int x)) [some (dr ds'), none]) ∧ x ∈ L ∧ (∃ l, ds = ds' ++ l) := by
  have hl : 0 < L.length := List.length_pos_iff.mpr h
  obtain ⟨i, ds', e, i0, i1, hs⟩ := take_ok ds (n := ((L.map PyData.int).length : Nat)) (by rw [List.length_map]; omega)
  rw [List.length_map] at i1
  have ei : L[i.toNat]? = some (L[i.toNat]'(by omega)) := List.getElem?_eq_getElem _
  refine ⟨L[i.toNat]'(by omega), ds', ?_, List.getElem_mem _, hs⟩
  show sRet (eOp ixD (eVar 1) (eCall F_law_take [true, false] (aCons (eVar 0) (aCons (eFn lenD (aCons (eVar 1) aNil)) aNil)))) [some (.io (dr ds)), some (.sh (.list (L.map .int)))] (topC 2) = _
  have ec : ∀ (k : KV) (hx : KX), eCall F_law_take [true, false] (aCons (eVar 0) (aCons (eFn lenD (aCons (eVar 1) aNil)) aNil)) [some (.io (dr ds)), some (.sh (.list (L.map .int)))] k hx = k (.sh (.int i)) [some (.io (dr ds')), some (.sh (.list (L.map .int)))] := fun k hx => by
    refine Eq.trans (b := opt (F_law_take [.io (dr ds), .sh (.int ((L.map PyData.int).length : Nat))]) _) rfl ?_
    rw [e]
    rfl
  unfold sRet eOp
  show eCall F_law_take [true, false] (aCons (eVar 0) (aCons (eFn lenD (aCons (eVar 1) aNil)) aNil)) [some (.io (dr ds)), some (.sh (.list (L.map .int)))] _ _ = _
  rw [ec]
  have := ix_int ei
  rw [show ((i.toNat : Nat) : Int) = i from by omega] at this
  refine Eq.trans (b := opt (ixD (.list (L.map .int)) (.int i)) _) rfl ?_
  rw [this]
  rfl
end DL.k43
set_option maxRecDepth 100000
set_option maxHeartbeats 4000000
/-! k43: first_entry. -/
namespace DL.k43
open PySem
/-- n days from c on can be stayed -/
def fitsFrom (s : List (Int × Int)) (m w : Int) (n : Nat) (c : Int) : Bool := (List.range n).all fun k => decide (used s w (c + (k : Nat)) + (k : Nat) < m)
theorem runL_find {σ : Type} (f : σ → Int → σ) (ok : Int → Bool) (ret : Int → Res) (K : σ → Res) (R : Res) : ∀ (l : List Int) (s : σ), (∀ s, K s = R) →
    ∃ x : Option Int, runL f (fun _ a => if ok a = true then some (ret a) else none) l s K = (match x with | some a => ret a | none => R) ∧ (match x with
      | some a => a ∈ l ∧ ok a = true ∧ (l.Pairwise (· < ·) → ∀ b ∈ l, b < a → ok b = false)
      | none => ∀ b ∈ l, ok b = false)
  | [], s, h => ⟨none, h s, fun b hb => nomatch hb⟩
  | a :: l, s, h => by
    unfold runL
    by_cases ha : ok a = true
    · refine ⟨some a, by simp only [ha, if_true], List.mem_cons_self, ha, fun hp b hb hlt => ?_⟩
      rcases List.mem_cons.mp hb with rfl | hb
      · omega
      · have := (List.pairwise_cons.mp hp).1 b hb
        omega
    · obtain ⟨x, e, p⟩ := runL_find f ok ret K R l (f s a) h
      have hf : ok a = false := by cases q : ok a with | true => exact absurd q ha | false => rfl
      refine ⟨x, by simp only [hf, Bool.false_eq_true, if_false]; exact e, ?_⟩
      cases x with
      | none =>
        intro b hb
        rcases List.mem_cons.mp hb with rfl | hb
        · exact hf
        · exact p b hb
      | some c =>
        refine ⟨List.mem_cons_of_mem _ p.1, p.2.1, fun hp b hb hlt => ?_⟩
        rcases List.mem_cons.mp hb with rfl | hb
        · exact hf
        · exact p.2.2 (List.pairwise_cons.mp hp).2 b hb hlt
abbrev envE (s : List (Int × Int)) (m w day n free : Int) (come : Option EV) : Env := [some (.sh (st s)), some (.sh (ru m w)), some (.sh (.int day)), some (.sh (.int n)), some (.sh (.int free)), some (.ow (.list (((rg day (free + n)).map fun x => used s w x).map .int))), come, some (.sh (.int m)), some (.sh (.int w)), none, none]
abbrev compE : DE := eLC [10] (iRange ranged1 (aCons (eVar 3) aNil)) (tName 10) yes (eB (cCmp ltD (eOp addD (eOp ixD (eVar 5) (eOp addD (eOp subD (eVar 6) (eVar 2)) (eVar 10))) (eVar 10)) (eVar 7)))
theorem all_fits {s : List (Int × Int)} {m w day n free c : Int} (hn : 0 ≤ n ∧ n ≤ 1000) (hc : day ≤ c ∧ c ≤ free) : Ev (envE s m w day n free (some (.sh (.int c)))) (eFn allD (aCons compE aNil)) (.sh (.bool (fitsFrom s m w n.toNat c))) := by
  have e1 : Ev (envE s m w day n free (some (.sh (.int c)))) compE (.ow (.list ((List.range n.toNat).map fun k => PyData.bool (decide (used s w (c + (k : Nat)) + (k : Nat) < m))))) := fun k hx => by
    have er : ranged1 [.int n] = some ((List.range n.toNat).map fun j : Nat => PyData.int (j : Nat)) := by
      show (if in62 n then some (rangeD 0 n) else none) = _
      rw [in62_ok (by omega) (by omega)]
      show some (rangeD 0 n) = _
      unfold rangeD
      rw [show n - 0 = n from by omega]
      congr 1
      refine List.map_congr_left fun j _ => ?_
      rw [show (0 : Int) + (j : Nat) = (j : Nat) from by omega]
    have h0 : (1000 : Nat) ≤ sizeLim := by decide
    have hz : n.toNat ≤ sizeLim := by omega
    refine Eq.trans (b := opt (ranged1 [.int n]) _) rfl ?_
    rw [er]
    refine Eq.trans (b := lc [10] (tName 10) yes (eB (cCmp ltD (eOp addD (eOp ixD (eVar 5) (eOp addD (eOp subD (eVar 6) (eVar 2)) (eVar 10))) (eVar 10)) (eVar 7))) _ ((List.range n.toNat).map fun j : Nat => PyData.int (j : Nat)) (envE s m w day n free (some (.sh (.int c)))) []) rfl ?_
    rw [lc_all (enc := fun j : Nat => PyData.int (j : Nat)) (fun _ => true) (fun j => .bool (decide (used s w (c + (j : Nat)) + (j : Nat) < m))) (fun j => (envE s m w day n free (some (.sh (.int c)))).set 10 (some (.sh (.int (j : Nat))))) (List.range n.toNat) [] (by rw [List.length_range, List.length_nil, Nat.zero_add]; exact hz) fun j hj => ⟨rfl, rfl, fun kt kf => by
      have hj := List.mem_range.mp hj
      have ei : ((rg day (free + n)).map fun x => used s w x)[(c - day + (j : Nat)).toNat]? = some (used s w (c + (j : Nat))) := by
        rw [List.getElem?_map]
        unfold rg
        rw [List.getElem?_map, List.getElem?_range (by omega)]
        show some (used s w (day + (((c - day + (j : Nat)).toNat : Nat) : Int))) = _
        rw [show day + (((c - day + (j : Nat)).toNat : Nat) : Int) = c + (j : Nat) from by omega]
      have ix := ix_int ei
      rw [show (((c - day + (j : Nat)).toNat : Nat) : Int) = c - day + (j : Nat) from by omega] at ix
      have ev : Ev ((envE s m w day n free (some (.sh (.int c)))).set 10 (some (.sh (.int (j : Nat))))) (eB (cCmp ltD (eOp addD (eOp ixD (eVar 5) (eOp addD (eOp subD (eVar 6) (eVar 2)) (eVar 10))) (eVar 10)) (eVar 7))) (.sh (.bool (decide (used s w (c + (j : Nat)) + (j : Nat) < m)))) :=
        .B (.cmp (.op (.op (.v rfl) (.op (.op (.v rfl) (.v rfl) rfl rfl rfl) (.v rfl) rfl rfl rfl) rfl rfl ix) (.v rfl) rfl rfl rfl) (.v rfl) rfl rfl rfl)
      refine Eq.trans (b := eB (cCmp ltD (eOp addD (eOp ixD (eVar 5) (eOp addD (eOp subD (eVar 6) (eVar 2)) (eVar 10))) (eVar 10)) (eVar 7)) ((envE s m w day n free (some (.sh (.int c)))).set 10 (some (.sh (.int (j : Nat))))) (fun r ρ3 => freeze ρ3 r.w kt) noX) rfl ?_
      rw [ev]
      rfl⟩]
    rw [List.filter_eq_self.mpr (fun _ _ => rfl), List.nil_append]
    rfl
  have e2 : allD [.list ((List.range n.toNat).map fun k => PyData.bool (decide (used s w (c + (k : Nat)) + (k : Nat) < m)))] = some (.sh (.bool (fitsFrom s m w n.toNat c))) := by
    show (boolsOf _).map _ = _
    rw [boolsOf_map]
    show some (RV.sh (.bool (List.all _ id))) = _
    rw [List.all_map]
    rfl
  exact .fn (.cons e1 .nil) rfl e2
theorem first_entry_ok {s : List (Int × Int)} (h : Ok s) {m w day n : Int} (r : Ru m w) (hd : 0 ≤ day ∧ day ≤ 100000) (hn : 1 ≤ n ∧ n ≤ m) (hb : lastOf s < day) {free : Int} (hf : free = if lastOf s + w > day then lastOf s + w else day) :
    ∃ c : Int, F_first_entry [.sh (st s), .sh (ru m w), .sh (.int day), .sh (.int n)] = some (.ret (.sh (.int c)) [none, none, none, none]) ∧ day ≤ c ∧ c ≤ free ∧ (c < free → fitsFrom s m w n.toNat c = true) ∧ ∀ b, day ≤ b → b < c → fitsFrom s m w n.toNat b = false := by
  have h1 := r.lo
  have h2 := r.mid
  have h3 := r.hi
  have hfr : day ≤ free ∧ free ≤ 101000 := by rw [hf]; split <;> omega
  have hlen : (rg day (free + n)).length ≤ sizeLim := by
    rw [rg_len]
    have : (200000 : Nat) ≤ sizeLim := by decide
    omega
  have e1 : F_check_stays [.sh (st s), .sh (ru m w)] = some (.ret (.sh .none) [none, none]) := check_stays_ok h r
  have e2 : F_is_within [.sh (.int n), .sh (.int 1), .sh (.int m)] = some (.ret (.sh (.bool true)) [none, none, none]) := within_ok (by omega)
  have key : ∃ c : Int, runL (fun _ a => some (EV.sh (.int a))) (fun _ a => if fitsFrom s m w n.toNat a = true then some (some (Out.ret (.sh (.int a)) [none, none, none, none])) else none) (rg day free) none (fun _ => some (Out.ret (.sh (.int free)) [none, none, none, none])) = some (.ret (.sh (.int c)) [none, none, none, none]) ∧ day ≤ c ∧ c ≤ free ∧ (c < free → fitsFrom s m w n.toNat c = true) ∧ ∀ b, day ≤ b → b < c → fitsFrom s m w n.toNat b = false := by
    obtain ⟨x, e, p⟩ := runL_find (σ := Option EV) (fun _ a => some (EV.sh (.int a))) (fitsFrom s m w n.toNat) (fun a => some (Out.ret (.sh (.int a)) [none, none, none, none])) (fun _ => some (Out.ret (.sh (.int free)) [none, none, none, none])) _ (rg day free) none (fun _ => rfl)
    cases x with
    | none => exact ⟨free, e, hfr.1, Int.le_refl _, fun hlt => by omega, fun b h1 h2 => p b (mem_rg.mpr ⟨h1, h2⟩)⟩
    | some c =>
      have hc := mem_rg.mp p.1
      exact ⟨c, e, hc.1, by omega, fun _ => p.2.1, fun b h1 h2 => p.2.2 (rg_sorted _ _) b (mem_rg.mpr ⟨h1, by omega⟩) h2⟩
  obtain ⟨c, ek, pk⟩ := key
  refine ⟨c, ?_, pk⟩
  rw [← ek]
  show opt (F_check_stays [.sh (st s), .sh (ru m w)]) _ = _
  rw [e1]
  show opt (F_is_day_papers [.sh (.int day)]) _ = _
  rw [is_day_ok hd]
  show opt (F_is_within [.sh (.int n), .sh (.int 1), .sh (.int m)]) _ = _
  rw [e2]
  show opt (F_check_behind [.sh (st s), .sh (.int day)]) _ = _
  rw [behind_ok hb]
  show opt (F_last_of [.sh (st s)]) _ = _
  rw [last_of_ok]
  subst hf
  refine Eq.trans (b := opt (ranged2 [.int day, .int ((if lastOf s + w > day then lastOf s + w else day) + n)]) _) rfl ?_
  generalize (if lastOf s + w > day then lastOf s + w else day) = free at hlen hfr ⊢
  rw [ranged2_ok (by omega) (by omega) (by omega) (by omega)]
  refine Eq.trans (b := lc [9] (tName 9) yes (eCall F_used_by [false, false, false] (aCons (eVar 0) (aCons (eVar 8) (aCons (eVar 9) aNil)))) _ ((rg day (free + n)).map .int) [some (.sh (st s)), some (.sh (ru m w)), some (.sh (.int day)), some (.sh (.int n)), some (.sh (.int free)), none, none, some (.sh (.int m)), some (.sh (.int w)), none, none] []) rfl ?_
  rw [lc_all (enc := PyData.int) (fun _ => true) (fun x => .int (used s w x)) (fun x => [some (.sh (st s)), some (.sh (ru m w)), some (.sh (.int day)), some (.sh (.int n)), some (.sh (.int free)), none, none, some (.sh (.int m)), some (.sh (.int w)), some (.sh (.int x)), none]) (rg day (free + n)) [] (by rw [List.length_nil, Nat.zero_add]; exact hlen) fun x _ => ⟨rfl, rfl, fun kt kf => by
    refine Eq.trans (b := opt (F_used_by [.sh (st s), .sh (.int w), .sh (.int x)]) _) rfl ?_
    rw [used_by_ok s w x (lim_of h.len)]
    rfl⟩]
  rw [List.filter_eq_self.mpr (fun _ _ => rfl), List.nil_append, show ((rg day (free + n)).map fun x => PyData.int (used s w x)) = ((rg day (free + n)).map fun x => used s w x).map .int from by rw [List.map_map]; rfl]
  refine Eq.trans (b := opt (ranged2 [.int day, .int free]) _) rfl ?_
  rw [ranged2_ok (by omega) (by omega) (by omega) (by omega)]
  refine Eq.trans (b := loop (tName 6) (sIf (cVal (eFn allD (aCons compE aNil))) (sRet (eVar 6)) sNil) _ ((rg day free).map .int) (envE s m w day n free none)) rfl ?_
  refine (loop_find (enc := PyData.int) (fun come => envE s m w day n free come) (fun _ a => some (EV.sh (.int a))) (fun _ a => if fitsFrom s m w n.toNat a = true then some (some (Out.ret (.sh (.int a)) [none, none, none, none])) else none) (fun come => come = none ∨ ∃ a, come = some (.sh (.int a))) (rg day free) none (.inl rfl) fun come a hp ha => ⟨fun _ => .inr ⟨a, rfl⟩, fun kn => ?_⟩).trans ?_
  · have hm := mem_rg.mp ha
    have ev := all_fits (s := s) (m := m) (w := w) (day := day) (n := n) (free := free) (c := a) (by omega) ⟨hm.1, by omega⟩
    have et : ∀ k : Env → Res, tName 6 (.int a) (envE s m w day n free come) k = k (envE s m w day n free (some (.sh (.int a)))) := fun k => by
      rcases hp with rfl | ⟨b, rfl⟩ <;> rfl
    rw [et]
    unfold sIf
    rw [EvT.val ev (t := fitsFrom s m w n.toNat a) rfl]
    by_cases hx : fitsFrom s m w n.toNat a = true
    · simp only [hx, if_true]
      rfl
    · rw [if_neg hx, if_neg hx]
      rfl
  · rfl
end DL.k43
set_option maxRecDepth 100000
set_option maxHeartbeats 4000000
/-! k43: _law_draws. -/
namespace DL
open PySem
theorem loop_inv {α : Type} {enc : α → D} {t : DT} {body : DS} {C : Conts} (P : Nat → Env → Prop) : ∀ (l : List α) (i : Nat) (ρ : Env), P i ρ →
    (∀ a ∈ l, ∀ i ρ, P i ρ → ∃ ρ', P (i + 1) ρ' ∧ ∀ kn : Env → Res, t (enc a) ρ (fun ρ1 => body ρ1 { C with nx := kn, ct := kn, bk := C.nx }) = kn ρ') → ∃ ρ', P (i + l.length) ρ' ∧ loop t body C (l.map enc) ρ = C.nx ρ'
  | [], i, ρ, p, _ => ⟨ρ, p, rfl⟩
  | a :: l, i, ρ, p, h => by
    obtain ⟨ρ1, p1, e1⟩ := h a List.mem_cons_self i ρ p
    obtain ⟨ρ2, p2, e2⟩ := loop_inv P l (i + 1) ρ1 p1 fun b hb => h b (List.mem_cons_of_mem _ hb)
    refine ⟨ρ2, by rw [List.length_cons, show i + (l.length + 1) = i + 1 + l.length from by omega]; exact p2, ?_⟩
    show t (enc a) ρ (fun ρ1 => body ρ1 { C with nx := loop t body C (l.map enc), ct := loop t body C (l.map enc), bk := C.nx }) = _
    rw [e1, e2]
theorem mul_c (a c : Int) (h0 : 0 ≤ c) (h1 : c < 18446744073709551616) : mulD (.int a) (.int c) = some (.sh (.int (a * c))) := by
  have : mulOk a c = true := by
    unfold mulOk
    rw [decide_eq_true (p := -18446744073709551616 < c) (by omega), decide_eq_true (p := c < 18446744073709551616) h1]
    simp
  show (if mulOk a c = true then _ else none) = _
  rw [if_pos this]
theorem mod_c (a c : Int) (h : 0 < c) : modD (.int a) (.int c) = some (.sh (.int (a % c))) := if_pos h
theorem fdiv_c (a c : Int) (h : divOk c = true) : fdivD (.int a) (.int c) = some (.sh (.int (a / c))) := if_pos h
end DL
namespace DL.k43
open PySem
theorem app_ok {ρ : Env} {i : Nat} {acc : List Int} {e : DE} {y : Int} (hs : slot ρ i = some (.ow (dr acc))) (he : Ev ρ e (.sh (.int y))) (hz : acc.length < sizeLim) (C : Conts) : sExpr (eAppend i e) ρ C = C.nx (ρ.set i (some (.ow (dr (acc ++ [y]))))) := by
  unfold sExpr eAppend slotL
  rw [hs]
  show e ρ _ _ = _
  rw [he]
  show opt (slotL ρ i) _ = _
  unfold slotL
  rw [hs]
  show (if (acc.map PyData.int).length < sizeLim then _ else none) = _
  rw [if_pos (by rw [List.length_map]; exact hz), show dr (acc ++ [y]) = .list (acc.map PyData.int ++ [.int y]) from by show PyData.list _ = _; rw [List.map_append]; rfl]
  rfl
abbrev env7 (x : D) (acc : List Int) (u2 u3 u4 : Option EV) (num : Int) (u6 : Option EV) : Env := [some (.sh x), some (.ow (dr acc)), u2, u3, u4, some (.sh (.int num)), u6]
abbrev body60 : DS := sIf (cCmp gtD (eVar 5) (eC (.int 0))) (sSeq (sExpr (eAppend 1 (eOp modD (eFn intD (aCons (eVar 5) aNil)) (eC (.int 997))))) (sSet 5 (eOp fdivD (eVar 5) (eC (.int 997))))) sNil
theorem loop60 {x : D} {u2 u3 u6 : Option EV} {B : Nat} (hB : B + 60 ≤ 16000000) (C : Conts) {acc : List Int} {num : Int} {k : Option EV} (hk : k = none ∨ ∃ d, k = some (.sh d)) (ha : acc.length ≤ B) :
    ∃ (acc' : List Int) (num' : Int) (k' : Option EV), (k' = none ∨ ∃ d, k' = some (.sh d)) ∧ acc'.length ≤ B + 60 ∧ loop (tName 4) body60 C ((rg 0 60).map .int) (env7 x acc u2 u3 k num u6) = C.nx (env7 x acc' u2 u3 k' num' u6) := by
  have hl : (rg 0 60).length = 60 := by rw [rg_len]; rfl
  have step : ∀ (l : List Int) (i : Nat) (acc : List Int) (num : Int) (k : Option EV), (k = none ∨ ∃ d, k = some (.sh d)) → acc.length + l.length ≤ B + 60 → ∃ (acc' : List Int) (num' : Int) (k' : Option EV), (k' = none ∨ ∃ d, k' = some (.sh d)) ∧ acc'.length ≤ B + 60 ∧ loop (tName 4) body60 C (l.map .int) (env7 x acc u2 u3 k num u6) = C.nx (env7 x acc' u2 u3 k' num' u6) := by
    intro l
    induction l with
    | nil => intro i acc num k hk ha; exact ⟨acc, num, k, hk, by simpa using ha, rfl⟩
    | cons a l ih =>
      intro i acc num k hk ha
      rw [List.length_cons] at ha
      have hz : acc.length < sizeLim := by
        have : (16000000 : Nat) < sizeLim := by decide
        omega
      have et : ∀ K : Env → Res, tName 4 (.int a) (env7 x acc u2 u3 k num u6) K = K (env7 x acc u2 u3 (some (.sh (.int a))) num u6) := fun K => by
        rcases hk with rfl | ⟨b, rfl⟩ <;> rfl
      by_cases hn : 0 < num
      · obtain ⟨acc', num', k', h1, h2, h3⟩ := ih i (acc ++ [num % 997]) (num / 997) (some (.sh (.int a))) (.inr ⟨_, rfl⟩) (by rw [List.length_append, List.length_singleton]; omega)
        refine ⟨acc', num', k', h1, h2, ?_⟩
        rw [← h3]
        show tName 4 (.int a) (env7 x acc u2 u3 k num u6) _ = _
        rw [et]
        refine (if_pos (c := decide (0 < num) = true) (decide_eq_true hn)).trans ?_
        show sSeq _ _ _ _ = _
        unfold sSeq
        rw [app_ok (ρ := env7 x acc u2 u3 (some (.sh (.int a))) num u6) (i := 1) (acc := acc) (y := num % 997) rfl (.op (.fn (.cons (.v rfl) .nil) rfl rfl) .c rfl rfl (mod_c _ _ (by decide))) hz]
        have ef : Ev ((env7 x acc u2 u3 (some (.sh (.int a))) num u6).set 1 (some (.ow (dr (acc ++ [num % 997]))))) (eOp fdivD (eVar 5) (eC (.int 997))) (.sh (.int (num / 997))) := .op (.v rfl) .c rfl rfl (fdiv_c _ _ (by decide))
        dsimp only
        unfold sSet
        rw [ef]
        rfl
      · obtain ⟨acc', num', k', h1, h2, h3⟩ := ih i acc num (some (.sh (.int a))) (.inr ⟨_, rfl⟩) (by omega)
        refine ⟨acc', num', k', h1, h2, ?_⟩
        rw [← h3]
        show tName 4 (.int a) (env7 x acc u2 u3 k num u6) _ = _
        rw [et]
        exact (if_neg (c := decide (0 < num) = true) (by rw [decide_eq_true_eq]; exact hn)).trans rfl
  exact step (rg 0 60) 0 acc num k hk (by rw [hl]; omega)
end DL.k43
set_option maxRecDepth 100000
set_option maxHeartbeats 4000000
/-! k43: _law_draws, the cells. -/
namespace DL.k43
open PySem
def Lo (u : Option EV) : Prop := u = none ∨ ∃ d, u = some (.sh d)
abbrev envC (x : D) (acc : List Int) (u2 u3 u4 u5 u6 : Option EV) : Env := [some (.sh x), some (.ow (dr acc)), u2, u3, u4, u5, u6]
theorem put_lo {ρ : Env} {i : Nat} {u : Option EV} {e : EV} {k : Env → Res} (h : ρ[i]? = some u) (hu : Lo u) : put ρ i e k = k (ρ.set i (some e)) := by
  unfold put
  have : loose ρ i = true := by
    unfold loose slot
    rw [h]
    have hl := (List.getElem?_eq_some_iff.mp h).1
    rcases hu with rfl | ⟨d, rfl⟩
    · exact decide_eq_true hl
    · exact decide_eq_true hl
  rw [if_pos this]
theorem set_ev {ρ : Env} {i : Nat} {u : Option EV} {e : DE} {d : D} (h : ρ[i]? = some u) (hu : Lo u) (he : Ev ρ e (.sh d)) (C : Conts) : sSet i e ρ C = C.nx (ρ.set i (some (.sh d))) := by
  unfold sSet
  rw [he]
  exact put_lo h hu
noncomputable abbrev bodyCell : DS := (sSeq (sSet 5 (eOp modD (eFn intD (aCons (eFn absD (aCons (eVar 2) aNil)) aNil)) (eOp powD (eC (.int 997)) (eC (.int 60)))))
  (sSeq (sIf (cCmp ltD (eVar 5) (eOp powD (eC (.int 10)) (eC (.int 18)))) (sSeq (sSet 6 (eOp modD (eFn intD (aCons (eOp addD (eOp mulD (eVar 5) (eC (.int 48271))) (eC (.int 11))) aNil)) (eC (.int 2147483647))))
  (sSeq (sExpr (eAppend 1 (eOp modD (eFn intD (aCons (eOp addD (eOp mulD (eVar 6) (eC (.int 69621))) (eVar 5)) aNil)) (eC (.int 2147483629)))))
  (sSeq (sExpr (eAppend 1 (eOp modD (eFn intD (aCons (eOp addD (eVar 6) (eOp fdivD (eVar 5) (eC (.int 7)))) aNil)) (eC (.int 1000003)))))
  (sSet 5 (eC (.int 0)))))) sNil)
  (sFor (iRange ranged1 (aCons (eC (.int 60)) aNil)) (tName 4) body60)))
theorem range60 : ranged1 [.int 60] = some ((rg 0 60).map .int) := by
  show (if in62 60 then some (rangeD 0 60) else none) = _
  rw [rangeD_rg, in62_ok (by decide) (by decide)]
  rfl
theorem for60 {x : D} {u2 u3 u4 u6 : Option EV} {B : Nat} (hB : B + 60 ≤ 16000000) (C : Conts) {acc : List Int} {num : Int} (hk : Lo u4) (ha : acc.length ≤ B) :
    ∃ (acc' : List Int) (num' : Int) (k' : Option EV), Lo k' ∧ acc'.length ≤ B + 60 ∧ sFor (iRange ranged1 (aCons (eC (.int 60)) aNil)) (tName 4) body60 (env7 x acc u2 u3 u4 num u6) C = C.nx (env7 x acc' u2 u3 k' num' u6) := by
  obtain ⟨acc', num', k', h1, h2, h3⟩ := loop60 (x := x) (u2 := u2) (u3 := u3) (u6 := u6) hB C hk (num := num) ha
  refine ⟨acc', num', k', h1, h2, ?_⟩
  rw [← h3]
  refine Eq.trans (b := opt (ranged1 [.int 60]) fun is => loop (tName 4) body60 C is (env7 x acc u2 u3 u4 num u6)) rfl ?_
  rw [range60]
  rfl
theorem pow_c (a b : Int) (h : powOk a b = true) : powD (.int a) (.int b) = some (.sh (.int (a ^ b.toNat))) := if_pos h
theorem seq_eq {a b : DS} {ρ : Env} {C : Conts} : sSeq a b ρ C = a ρ { C with nx := fun ρ1 => b ρ1 C } := rfl
theorem if_eq {c : DB} {a b : DS} {ρ : Env} {C : Conts} {t : Bool} (h : EvT ρ c t) : sIf c a b ρ C = if t = true then a ρ C else b ρ C := by
  unfold sIf
  rw [h]
theorem cell_ok {x : D} {a : Int} {u3 u4 u5 u6 : Option EV} {B : Nat} (hB : B + 62 ≤ 16000000) (C : Conts) {acc : List Int} (h4 : Lo u4) (h5 : Lo u5) (h6 : Lo u6) (ha : acc.length ≤ B) :
    ∃ (acc' : List Int) (u4' u5' u6' : Option EV), Lo u4' ∧ Lo u5' ∧ Lo u6' ∧ acc'.length ≤ B + 62 ∧ bodyCell (envC x acc (some (.sh (.int a))) u3 u4 u5 u6) C = C.nx (envC x acc' (some (.sh (.int a))) u3 u4' u5' u6') := by
  have hp : (0 : Int) < 997 ^ (60 : Int).toNat := by decide
  have e1 : Ev (envC x acc (some (.sh (.int a))) u3 u4 u5 u6) (eOp modD (eFn intD (aCons (eFn absD (aCons (eVar 2) aNil)) aNil)) (eOp powD (eC (.int 997)) (eC (.int 60)))) (.sh (.int ((if a < 0 then -a else a) % 997 ^ (60 : Int).toNat))) :=
    .op (.fn (.cons (.fn (.cons (.v rfl) .nil) rfl rfl) .nil) rfl rfl) (.op .c .c rfl rfl (pow_c _ _ (by decide))) rfl rfl (mod_c _ _ hp)
  generalize ((if a < 0 then -a else a) % 997 ^ (60 : Int).toNat) = num at e1
  have hz : (16000000 : Nat) < sizeLim := by decide
  have ec : EvT (env7 x acc (some (.sh (.int a))) u3 u4 num u6) (cCmp ltD (eVar 5) (eOp powD (eC (.int 10)) (eC (.int 18)))) (decide (num < 10 ^ (18 : Int).toNat)) := .cmp (.v rfl) (.op .c .c rfl rfl (pow_c _ _ (by decide))) rfl rfl rfl
  by_cases hn : num < 10 ^ (18 : Int).toNat
  · have e6 : Ev (env7 x acc (some (.sh (.int a))) u3 u4 num u6) (eOp modD (eFn intD (aCons (eOp addD (eOp mulD (eVar 5) (eC (.int 48271))) (eC (.int 11))) aNil)) (eC (.int 2147483647))) (.sh (.int ((num * 48271 + 11) % 2147483647))) :=
      .op (.fn (.cons (.op (.op (.v rfl) .c rfl rfl (mul_c _ _ (by decide) (by decide))) .c rfl rfl rfl) .nil) rfl rfl) .c rfl rfl (mod_c _ _ (by decide))
    generalize (num * 48271 + 11) % 2147483647 = f1 at e6
    have a1 : Ev (env7 x acc (some (.sh (.int a))) u3 u4 num (some (.sh (.int f1)))) (eOp modD (eFn intD (aCons (eOp addD (eOp mulD (eVar 6) (eC (.int 69621))) (eVar 5)) aNil)) (eC (.int 2147483629))) (.sh (.int ((f1 * 69621 + num) % 2147483629))) :=
      .op (.fn (.cons (.op (.op (.v rfl) .c rfl rfl (mul_c _ _ (by decide) (by decide))) (.v rfl) rfl rfl rfl) .nil) rfl rfl) .c rfl rfl (mod_c _ _ (by decide))
    generalize (f1 * 69621 + num) % 2147483629 = y1 at a1
    have a2 : Ev (env7 x (acc ++ [y1]) (some (.sh (.int a))) u3 u4 num (some (.sh (.int f1)))) (eOp modD (eFn intD (aCons (eOp addD (eVar 6) (eOp fdivD (eVar 5) (eC (.int 7)))) aNil)) (eC (.int 1000003))) (.sh (.int ((f1 + num / 7) % 1000003))) :=
      .op (.fn (.cons (.op (.v rfl) (.op (.v rfl) .c rfl rfl (fdiv_c _ _ (by decide))) rfl rfl rfl) .nil) rfl rfl) .c rfl rfl (mod_c _ _ (by decide))
    generalize (f1 + num / 7) % 1000003 = y2 at a2
    obtain ⟨acc', num', k', h1, h2, h3⟩ := for60 (x := x) (u2 := some (.sh (.int a))) (u3 := u3) (u6 := some (.sh (.int f1))) (B := B + 2) (by omega) C (acc := acc ++ [y1] ++ [y2]) (num := 0) h4 (by rw [List.length_append, List.length_append, List.length_singleton, List.length_singleton]; omega)
    refine ⟨acc', k', some (.sh (.int num')), some (.sh (.int f1)), h1, .inr ⟨_, rfl⟩, .inr ⟨_, rfl⟩, by omega, ?_⟩
    rw [← h3]
    unfold bodyCell
    rw [seq_eq, set_ev (u := u5) rfl h5 e1]
    dsimp only
    rw [show (envC x acc (some (.sh (.int a))) u3 u4 u5 u6).set 5 (some (.sh (.int num))) = env7 x acc (some (.sh (.int a))) u3 u4 num u6 from rfl]
    rw [seq_eq, if_eq ec, if_pos (decide_eq_true hn), seq_eq, set_ev (u := u6) rfl h6 e6]
    dsimp only
    rw [show (env7 x acc (some (.sh (.int a))) u3 u4 num u6).set 6 (some (.sh (.int f1))) = env7 x acc (some (.sh (.int a))) u3 u4 num (some (.sh (.int f1))) from rfl]
    rw [seq_eq, app_ok (acc := acc) (y := y1) rfl a1 (by omega)]
    dsimp only
    rw [show (env7 x acc (some (.sh (.int a))) u3 u4 num (some (.sh (.int f1)))).set 1 (some (.ow (dr (acc ++ [y1])))) = env7 x (acc ++ [y1]) (some (.sh (.int a))) u3 u4 num (some (.sh (.int f1))) from rfl]
    rw [seq_eq, app_ok (acc := acc ++ [y1]) (y := y2) rfl a2 (by rw [List.length_append, List.length_singleton]; omega)]
    rfl
  · obtain ⟨acc', num', k', h1, h2, h3⟩ := for60 (x := x) (u2 := some (.sh (.int a))) (u3 := u3) (u6 := u6) (B := B + 2) (by omega) C (acc := acc) (num := num) h4 (by omega)
    refine ⟨acc', k', some (.sh (.int num')), u6, h1, .inr ⟨_, rfl⟩, h6, by omega, ?_⟩
    rw [← h3]
    unfold bodyCell
    rw [seq_eq, set_ev (u := u5) rfl h5 e1]
    dsimp only
    rw [show (envC x acc (some (.sh (.int a))) u3 u4 u5 u6).set 5 (some (.sh (.int num))) = env7 x acc (some (.sh (.int a))) u3 u4 num u6 from rfl]
    rw [seq_eq, if_eq ec, if_neg (by rw [decide_eq_true_eq]; exact hn)]
    rfl
end DL.k43
set_option maxRecDepth 100000
set_option maxHeartbeats 4000000
/-! k43: _law_draws, whole. -/
namespace DL.k43
open PySem
theorem forCells {x : D} {u3 : Option EV} {ns : List Int} (hw : walked x = some (ns.map .int)) (hn : ns.length ≤ 63) (C : Conts) :
    ∃ (acc' : List Int) (u2' u4' u5' u6' : Option EV), Lo u4' ∧ acc'.length ≤ 63 * 62 ∧ sFor (iSeq (eVar 0)) (tName 2) bodyCell (envC x [] none u3 none none none) C = C.nx (envC x acc' u2' u3 u4' u5' u6') := by
  have step : ∀ (l : List Int) (B : Nat) (acc : List Int) (u2 u4 u5 u6 : Option EV), Lo u2 → Lo u4 → Lo u5 → Lo u6 → acc.length ≤ B → B + l.length * 62 ≤ 63 * 62 →
      ∃ (acc' : List Int) (u2' u4' u5' u6' : Option EV), Lo u4' ∧ acc'.length ≤ 63 * 62 ∧ loop (tName 2) bodyCell C (l.map .int) (envC x acc u2 u3 u4 u5 u6) = C.nx (envC x acc' u2' u3 u4' u5' u6') := by
    intro l
    induction l with
    | nil => intro B acc u2 u4 u5 u6 h2 h4 h5 h6 ha hb; exact ⟨acc, u2, u4, u5, u6, h4, by simp at hb; omega, rfl⟩
    | cons a l ih =>
      intro B acc u2 u4 u5 u6 h2 h4 h5 h6 ha hb
      rw [List.length_cons] at hb
      obtain ⟨acc1, v4, v5, v6, g4, g5, g6, gl, ge⟩ := cell_ok (x := x) (a := a) (u3 := u3) (B := B) (by omega) { C with nx := loop (tName 2) bodyCell C (l.map .int), ct := loop (tName 2) bodyCell C (l.map .int), bk := C.nx } h4 h5 h6 ha
      obtain ⟨acc', w2, w4, w5, w6, k4, kl, ke⟩ := ih (B + 62) acc1 (some (.sh (.int a))) v4 v5 v6 (.inr ⟨_, rfl⟩) g4 g5 g6 gl (by omega)
      refine ⟨acc', w2, w4, w5, w6, k4, kl, ?_⟩
      rw [← ke]
      have et : ∀ K : Env → Res, tName 2 (.int a) (envC x acc u2 u3 u4 u5 u6) K = K (envC x acc (some (.sh (.int a))) u3 u4 u5 u6) := fun K => by
        rcases h2 with rfl | ⟨b, rfl⟩ <;> rfl
      show tName 2 (.int a) (envC x acc u2 u3 u4 u5 u6) _ = _
      rw [et]
      exact ge
  obtain ⟨acc', w2, w4, w5, w6, k4, kl, ke⟩ := step ns 0 [] none none none none (.inl rfl) (.inl rfl) (.inl rfl) (.inl rfl) (by simp) (by omega)
  refine ⟨acc', w2, w4, w5, w6, k4, kl, ?_⟩
  rw [← ke]
  refine Eq.trans (b := opt (walked x) fun is => loop (tName 2) bodyCell C is (envC x [] none u3 none none none)) rfl ?_
  rw [hw]
  rfl
abbrev bodyS : DS := sSeq (sSet 3 (eOp modD (eFn intD (aCons (eOp addD (eOp mulD (eVar 3) (eC (.int 48271))) (eC (.int 69621))) aNil)) (eC (.int 2147483647)))) (sExpr (eAppend 1 (eOp fdivD (eVar 3) (eC (.int 5)))))
theorem range9000 : ranged1 [.int 9000] = some ((rg 0 9000).map .int) := by
  show (if in62 9000 then some (rangeD 0 9000) else none) = _
  rw [rangeD_rg, in62_ok (by decide) (by decide)]
  rfl
theorem forSeeds {x : D} {u2 u4 u5 u6 : Option EV} (C : Conts) {acc : List Int} {s : Int} (hk : Lo u4) (ha : acc.length ≤ 63 * 62) :
    ∃ (acc' : List Int) (s' : Int) (u4' : Option EV), sFor (iRange ranged1 (aCons (eC (.int 9000)) aNil)) (tName 4) bodyS (envC x acc u2 (some (.sh (.int s))) u4 u5 u6) C = C.nx (envC x acc' u2 (some (.sh (.int s'))) u4' u5 u6) := by
  have step : ∀ (l : List Int) (acc : List Int) (s : Int) (u4 : Option EV), Lo u4 → acc.length + l.length ≤ 63 * 62 + 9000 →
      ∃ (acc' : List Int) (s' : Int) (u4' : Option EV), loop (tName 4) bodyS C (l.map .int) (envC x acc u2 (some (.sh (.int s))) u4 u5 u6) = C.nx (envC x acc' u2 (some (.sh (.int s'))) u4' u5 u6) := by
    intro l
    induction l with
    | nil => intro acc s u4 h4 ha; exact ⟨acc, s, u4, rfl⟩
    | cons a l ih =>
      intro acc s u4 h4 ha
      rw [List.length_cons] at ha
      have hz : acc.length < sizeLim := by
        have : (16000000 : Nat) < sizeLim := by decide
        omega
      have e3 : Ev (envC x acc u2 (some (.sh (.int s))) (some (.sh (.int a))) u5 u6) (eOp modD (eFn intD (aCons (eOp addD (eOp mulD (eVar 3) (eC (.int 48271))) (eC (.int 69621))) aNil)) (eC (.int 2147483647))) (.sh (.int ((s * 48271 + 69621) % 2147483647))) :=
        .op (.fn (.cons (.op (.op (.v rfl) .c rfl rfl (mul_c _ _ (by decide) (by decide))) .c rfl rfl rfl) .nil) rfl rfl) .c rfl rfl (mod_c _ _ (by decide))
      generalize (s * 48271 + 69621) % 2147483647 = s1 at e3
      have e1 : Ev (envC x acc u2 (some (.sh (.int s1))) (some (.sh (.int a))) u5 u6) (eOp fdivD (eVar 3) (eC (.int 5))) (.sh (.int (s1 / 5))) := .op (.v rfl) .c rfl rfl (fdiv_c _ _ (by decide))
      obtain ⟨acc', s', v4, he⟩ := ih (acc ++ [s1 / 5]) s1 (some (.sh (.int a))) (.inr ⟨_, rfl⟩) (by rw [List.length_append, List.length_singleton]; omega)
      refine ⟨acc', s', v4, ?_⟩
      rw [← he]
      have et : ∀ K : Env → Res, tName 4 (.int a) (envC x acc u2 (some (.sh (.int s))) u4 u5 u6) K = K (envC x acc u2 (some (.sh (.int s))) (some (.sh (.int a))) u5 u6) := fun K => by
        rcases h4 with rfl | ⟨b, rfl⟩ <;> rfl
      show tName 4 (.int a) (envC x acc u2 (some (.sh (.int s))) u4 u5 u6) _ = _
      rw [et]
      unfold bodyS
      rw [seq_eq, set_ev (u := some (.sh (.int s))) rfl (.inr ⟨_, rfl⟩) e3]
      dsimp only
      rw [show (envC x acc u2 (some (.sh (.int s))) (some (.sh (.int a))) u5 u6).set 3 (some (.sh (.int s1))) = envC x acc u2 (some (.sh (.int s1))) (some (.sh (.int a))) u5 u6 from rfl]
      rw [app_ok (acc := acc) (y := s1 / 5) rfl e1 hz]
      rfl
  obtain ⟨acc', s', v4, he⟩ := step (rg 0 9000) acc s u4 hk (by rw [rg_len, show ((9000 : Int) - 0).toNat = 9000 from rfl]; omega)
  refine ⟨acc', s', v4, ?_⟩
  rw [← he]
  refine Eq.trans (b := opt (ranged1 [.int 9000]) fun is => loop (tName 4) bodyS C is (envC x acc u2 (some (.sh (.int s))) u4 u5 u6)) rfl ?_
  rw [range9000]
  rfl
theorem draws_gen {x : D} {ns : List Int} (hn : ns.length ≤ 63) (hw : walked x = some (ns.map .int)) (hl : lenD [x] = some (.sh (.int ns.length))) (hi : ∀ n, ns.head? = some n → ixD x (.int 0) = some (.sh (.int n))) :
    ∃ ds, F_law_draws [.sh x] = some (.ret (.ow (dr ds)) [none]) := by
  obtain ⟨acc1, v2, v4, v5, v6, h4, hl1, he1⟩ := forCells (x := x) (u3 := none) hw hn
    { topC 1 with nx := fun ρ => sSeq (sSet 3 (eC (.int 1))) (sSeq (sIf (cCmp gtD (eFn lenD (aCons (eVar 0) aNil)) (eC (.int 0))) (sSet 3 (eOp addD (eC (.int 1)) (eFn absD (aCons (eOp ixD (eVar 0) (eC (.int 0))) aNil)))) sNil) (sSeq (sFor (iRange ranged1 (aCons (eC (.int 9000)) aNil)) (tName 4) bodyS) (sRet (eUn listRevD (eVar 1))))) ρ (topC 1) }
  have ec : EvT (envC x acc1 v2 (some (.sh (.int 1))) v4 v5 v6) (cCmp gtD (eFn lenD (aCons (eVar 0) aNil)) (eC (.int 0))) (decide ((0 : Int) < (ns.length : Nat))) := .cmp (.fn (.cons (.v rfl) .nil) rfl hl) .c rfl rfl rfl
  have hs : ∃ s : Int, sIf (cCmp gtD (eFn lenD (aCons (eVar 0) aNil)) (eC (.int 0))) (sSet 3 (eOp addD (eC (.int 1)) (eFn absD (aCons (eOp ixD (eVar 0) (eC (.int 0))) aNil)))) sNil (envC x acc1 v2 (some (.sh (.int 1))) v4 v5 v6) { topC 1 with nx := fun ρ => sSeq (sFor (iRange ranged1 (aCons (eC (.int 9000)) aNil)) (tName 4) bodyS) (sRet (eUn listRevD (eVar 1))) ρ (topC 1) } = sSeq (sFor (iRange ranged1 (aCons (eC (.int 9000)) aNil)) (tName 4) bodyS) (sRet (eUn listRevD (eVar 1))) (envC x acc1 v2 (some (.sh (.int s))) v4 v5 v6) (topC 1) := by
    rw [if_eq ec]
    cases ns with
    | nil => exact ⟨1, rfl⟩
    | cons n ns =>
      refine ⟨1 + (if n < 0 then -n else n), ?_⟩
      rw [if_pos (decide_eq_true (by rw [List.length_cons]; omega))]
      have e3 : Ev (envC x acc1 v2 (some (.sh (.int 1))) v4 v5 v6) (eOp addD (eC (.int 1)) (eFn absD (aCons (eOp ixD (eVar 0) (eC (.int 0))) aNil))) (.sh (.int (1 + (if n < 0 then -n else n)))) :=
        .op .c (.fn (.cons (.op (.v rfl) .c rfl rfl (hi n rfl)) .nil) rfl rfl) rfl rfl rfl
      rw [set_ev (u := some (.sh (.int 1))) rfl (.inr ⟨_, rfl⟩) e3]
      rfl
  obtain ⟨s, hs⟩ := hs
  obtain ⟨acc2, s2, w4, he2⟩ := forSeeds (x := x) (u2 := v2) (u5 := v5) (u6 := v6) { topC 1 with nx := fun ρ => sRet (eUn listRevD (eVar 1)) ρ (topC 1) } (acc := acc1) (s := s) h4 hl1
  refine ⟨acc2.reverse, ?_⟩
  refine Eq.trans (b := sFor (iSeq (eVar 0)) (tName 2) bodyCell (envC x [] none none none none none) { topC 1 with nx := fun ρ => sSeq (sSet 3 (eC (.int 1))) (sSeq (sIf (cCmp gtD (eFn lenD (aCons (eVar 0) aNil)) (eC (.int 0))) (sSet 3 (eOp addD (eC (.int 1)) (eFn absD (aCons (eOp ixD (eVar 0) (eC (.int 0))) aNil)))) sNil) (sSeq (sFor (iRange ranged1 (aCons (eC (.int 9000)) aNil)) (tName 4) bodyS) (sRet (eUn listRevD (eVar 1))))) ρ (topC 1) }) rfl ?_
  rw [he1]
  dsimp only
  rw [seq_eq, set_ev (u := none) (d := .int 1) rfl (.inl rfl) .c]
  dsimp only
  rw [show (envC x acc1 v2 none v4 v5 v6).set 3 (some (.sh (.int 1))) = envC x acc1 v2 (some (.sh (.int 1))) v4 v5 v6 from rfl]
  rw [seq_eq, hs, seq_eq, he2]
  dsimp only
  have er : Ev (envC x acc2 v2 (some (.sh (.int s2))) w4 v5 v6) (eUn listRevD (eVar 1)) (.ow (.list (acc2.map PyData.int).reverse)) := .un (.v rfl) rfl rfl
  unfold sRet
  rw [er]
  rw [← List.map_reverse]
  rfl
theorem draws_ok {ns : List Int} {x : D} (hn : ns.length ≤ 63) (hx : x = .list (ns.map .int) ∨ x = mark ns) : ∃ ds, F_law_draws [.sh x] = some (.ret (.ow (dr ds)) [none]) := by
  rcases hx with rfl | rfl
  · exact draws_gen hn rfl (by show some (RV.sh (.int ((ns.map PyData.int).length : Nat))) = _; rw [List.length_map]) fun n h => by
      cases ns with
      | nil => cases h
      | cons m ns => cases h; rfl
  · exact draws_gen hn rfl (by show some (RV.sh (.int ((ns.map PyData.int).length : Nat))) = _; rw [List.length_map]) fun n h => by
      cases ns with
      | nil => cases h
      | cons m ns => cases h; rfl
end DL.k43
set_option maxRecDepth 100000
set_option maxHeartbeats 4000000
/-! k43: expressions that draw; _law_stays. -/
namespace DL.k43
open PySem
/-- the draws stand in slot i -/
structure Box (i : Nat) (E : D → Env) : Prop where
  v : ∀ d, ∃ e, slot (E d) i = some e
  arg : ∀ d, argOf (E d) true (.vr i) = some (.io d)
  put : ∀ d d', put1 (E d) i d' = E d'
def Dw (E : D → Env) (e : DE) (P : Int → Prop) : Prop := ∀ ds, ∃ (x : Int) (ds' : List Int), P x ∧ ∀ (k : KV) (h : KX), e (E (dr ds)) k h = k (.sh (.int x)) (E (dr ds'))
def DwA (E : D → Env) (as : DA) (P : List Int → Prop) : Prop := ∀ ds, ∃ (xs : List Int) (ds' : List Int), P xs ∧ ∀ (k : KL) (h : KX), as (E (dr ds)) k h = k (xs.map fun x => .sh (.int x)) (E (dr ds'))
section
variable {E : D → Env} {e a b : DE} {as : DA} {P Q : Int → Prop} {i : Nat}
theorem Dw.c (n : Int) : Dw E (eC (.int n)) (· = n) := fun ds => ⟨n, ds, rfl, fun _ _ => rfl⟩
theorem Dw.ev {n : Int} (h : ∀ d, Ev (E d) e (.sh (.int n))) : Dw E e (· = n) := fun ds => ⟨n, ds, rfl, fun k hx => h _ k hx⟩
theorem Dw.imp (h : Dw E e P) (g : ∀ x, P x → Q x) : Dw E e Q := fun ds => by
  obtain ⟨x, ds', p, q⟩ := h ds
  exact ⟨x, ds', g x p, q⟩
theorem Dw.add {x : RV} {p : Int} (ha : ∀ d, Ev (E d) a x ∧ peek (E d) x.w = some (.int p)) (hb : Dw E b P) : Dw E (eOp addD a b) (fun y => ∃ z, P z ∧ y = p + z) := fun ds => by
  obtain ⟨z, ds', pz, ez⟩ := hb ds
  refine ⟨p + z, ds', ⟨z, pz, rfl⟩, fun k h => ?_⟩
  unfold eOp
  rw [(ha _).1, ez, (ha _).2]
  rfl
theorem Dw.take (B : Box i E) (ha : Dw E e P) (hp : ∀ n, P n → 0 < n) : Dw E (eCall F_law_take [true, false] (aCons (eVar i) (aCons e aNil))) (fun x => 0 ≤ x ∧ ∃ n, P n ∧ x < n) := fun ds => by
  obtain ⟨n, ds1, pn, en⟩ := ha ds
  obtain ⟨x, ds2, ex, x0, x1, -⟩ := take_ok ds1 (hp n pn)
  refine ⟨x, ds2, ⟨x0, n, pn, x1⟩, fun k h => ?_⟩
  obtain ⟨e0, h0⟩ := B.v (dr ds)
  unfold eCall aCons
  rw [show eVar i (E (dr ds)) = fun k _ => k (.vr i) (E (dr ds)) from by funext k h; exact Ev.v h0 k h]
  dsimp only
  rw [en]
  show opt (match argOf (E (dr ds1)) true (.vr i), argsOf (E (dr ds1)) [false] [.sh (.int n)] with
    | some e, some es => some (e :: es)
    | _, _ => none) _ = _
  rw [B.arg]
  show opt (F_law_take [.io (dr ds1), .sh (.int n)]) _ = _
  rw [ex]
  show k (.sh (.int x)) (put1 (E (dr ds1)) i (dr ds2)) = _
  rw [B.put]
theorem DwA.nil : DwA E aNil (· = []) := fun ds => ⟨[], ds, rfl, fun _ _ => rfl⟩
theorem DwA.cons {R : List Int → Prop} (ha : Dw E a P) (hs : DwA E as R) : DwA E (aCons a as) (fun l => ∃ x xs, P x ∧ R xs ∧ l = x :: xs) := fun ds => by
  obtain ⟨x, ds1, px, ex⟩ := ha ds
  obtain ⟨xs, ds2, pxs, exs⟩ := hs ds1
  refine ⟨x :: xs, ds2, ⟨x, xs, px, pxs, rfl⟩, fun k h => ?_⟩
  unfold aCons
  rw [ex, exs]
  rfl
theorem freezes_ints (ρ : Env) : ∀ (xs : List Int) (k : List D → Env → Res), freezes ρ (xs.map fun x => .sh (.int x)) k = k (xs.map .int) ρ
  | [], k => rfl
  | x :: xs, k => by
    show freezes ρ (xs.map fun x => .sh (.int x)) (fun ds ρ2 => k (.int x :: ds) ρ2) = _
    rw [freezes_ints ρ xs]
    rfl
theorem Dw.pick {R : List Int → Prop} (B : Box i E) (hs : DwA E as R) (hr : ∀ l, R l → l ≠ [] ∧ l.length ≤ 100 ∧ ∀ x ∈ l, P x) : Dw E (eCall F_law_pick [true, false] (aCons (eVar i) (aCons (eLst as) aNil))) P := fun ds => by
  obtain ⟨xs, ds1, pn, en⟩ := hs ds
  obtain ⟨r1, r2, r3⟩ := hr xs pn
  obtain ⟨x, ds2, ex, x0, -⟩ := pick_ok ds1 xs r1
  refine ⟨x, ds2, r3 x x0, fun k h => ?_⟩
  obtain ⟨e0, h0⟩ := B.v (dr ds)
  unfold eCall aCons eLst
  rw [show eVar i (E (dr ds)) = fun k _ => k (.vr i) (E (dr ds)) from by funext k h; exact Ev.v h0 k h]
  dsimp only
  rw [en]
  rw [freezes_ints, if_pos (by rw [List.length_map]; exact Nat.le_trans r2 (by decide))]
  show opt (match argOf (E (dr ds1)) true (.vr i), argsOf (E (dr ds1)) [false] [.sh (.list (xs.map .int))] with
    | some e, some es => some (e :: es)
    | _, _ => none) _ = _
  rw [B.arg]
  show opt (F_law_pick [.io (dr ds1), .sh (.list (xs.map .int))]) _ = _
  rw [ex]
  show k (.sh (.int x)) (put1 (E (dr ds1)) i (dr ds2)) = _
  rw [B.put]
end
end DL.k43
set_option maxRecDepth 100000
set_option maxHeartbeats 4000000
/-! k43: _law_stays. -/
namespace DL.k43
open PySem
structure Sm (i : Nat) (s : List (Int × Int)) (day : Int) : Prop where
  len : s.length = i
  lo : 0 ≤ day
  hi : day ≤ 100 + 260 * (i : Int)
  el : ∀ p ∈ s, 0 ≤ p.1 ∧ p.1 ≤ p.2 ∧ p.2 ≤ p.1 + 60 ∧ p.2 < day
  gap : s.Pairwise fun p q => p.2 < q.1
abbrev envS (k : Option EV) (f : D) (day : Option EV) (lv : Option EV) (d : D) : Env := [some (.io d), k, some (.ow f), day, lv]
theorem box_S {k : Option EV} {f : D} {day lv : Option EV} : Box 0 (envS k f day lv) := ⟨fun d => ⟨_, rfl⟩, fun _ => rfl, fun _ _ => rfl⟩
theorem in5 {a b c d P : Int → Prop} {R : Int → Prop} {l : List Int} (ha : ∀ x, a x → R x) (hb : ∀ x, b x → R x) (hc : ∀ x, c x → R x) (hd : ∀ x, d x → R x) (he : ∀ x, P x → R x)
    (h : ∃ x xs, a x ∧ (∃ y ys, b y ∧ (∃ z zs, c z ∧ (∃ u us, d u ∧ (∃ v vs, P v ∧ vs = [] ∧ us = v :: vs) ∧ zs = u :: us) ∧ ys = z :: zs) ∧ xs = y :: ys) ∧ l = x :: xs) : l ≠ [] ∧ l.length ≤ 100 ∧ ∀ x ∈ l, R x := by
  obtain ⟨x, xs, p1, ⟨y, ys, p2, ⟨z, zs, p3, ⟨u, us, p4, ⟨v, vs, p5, rfl, rfl⟩, rfl⟩, rfl⟩, rfl⟩, rfl⟩ := h
  refine ⟨List.cons_ne_nil _ _, by simp, fun w hw => ?_⟩
  simp only [List.mem_cons, List.not_mem_nil, or_false] at hw
  rcases hw with rfl | rfl | rfl | rfl | rfl
  · exact ha _ p1
  · exact hb _ p2
  · exact hc _ p3
  · exact hd _ p4
  · exact he _ p5
noncomputable abbrev pickA : DE := eCall F_law_pick [true, false] (aCons (eVar 0) (aCons (eLst (aCons (eC (.int 0)) (aCons (eC (.int 1)) (aCons (eC (.int 6)) (aCons (eC (.int 30)) (aCons (eCall F_law_take [true, false] (aCons (eVar 0) (aCons (eC (.int 60)) aNil))) aNil)))))) aNil))
noncomputable abbrev pickB : DE := eCall F_law_pick [true, false] (aCons (eVar 0) (aCons (eLst (aCons (eC (.int 0)) (aCons (eC (.int 1)) (aCons (eC (.int 30)) (aCons (eC (.int 100)) (aCons (eCall F_law_take [true, false] (aCons (eVar 0) (aCons (eC (.int 200)) aNil))) aNil)))))) aNil))
theorem pickA_ok {E : D → Env} (B : Box 0 E) : Dw E pickA fun x => 0 ≤ x ∧ x < 60 :=
  .pick B (.cons (.c 0) (.cons (.c 1) (.cons (.c 6) (.cons (.c 30) (.cons (.take B (.c 60) fun n h => by omega) .nil))))) fun l h =>
    in5 (fun x h => by omega) (fun x h => by omega) (fun x h => by omega) (fun x h => by omega) (fun x h => by obtain ⟨h0, n, hn, h1⟩ := h; omega) h
theorem pickB_ok {E : D → Env} (B : Box 0 E) : Dw E pickB fun x => 0 ≤ x ∧ x < 200 :=
  .pick B (.cons (.c 0) (.cons (.c 1) (.cons (.c 30) (.cons (.c 100) (.cons (.take B (.c 200) fun n h => by omega) .nil))))) fun l h =>
    in5 (fun x h => by omega) (fun x h => by omega) (fun x h => by omega) (fun x h => by omega) (fun x h => by obtain ⟨h0, n, hn, h1⟩ := h; omega) h
noncomputable abbrev bodyStays : DS := sSeq (sSet 4 (eOp addD (eVar 3) pickA)) (sSeq (sExpr (eAppend 2 (eTup (aCons (eVar 3) (aCons (eVar 4) aNil))))) (sSet 3 (eOp addD (eOp addD (eVar 4) (eC (.int 1))) pickB)))
theorem stay1 {k : Option EV} {s : List (Int × Int)} {day : Int} {lv : Option EV} {i : Nat} (hlv : Lo lv) (h : Sm i s day) (hi : i < 200) (ds : List Int) (C : Conts) :
    ∃ s' day' lv' ds', Lo lv' ∧ Sm (i + 1) s' day' ∧ bodyStays (envS k (st s) (some (.sh (.int day))) lv (dr ds)) C = C.nx (envS k (st s') (some (.sh (.int day'))) lv' (dr ds')) := by
  obtain ⟨x, ds1, ⟨y, hy, rfl⟩, e1⟩ := Dw.add (x := .vr 3) (p := day) (a := eVar 3) (fun d => ⟨.v (e := .sh (.int day)) rfl, rfl⟩) (pickA_ok (box_S (k := k) (f := st s) (day := some (.sh (.int day))) (lv := lv))) ds
  obtain ⟨x, ds2, ⟨z, hz, rfl⟩, e2⟩ := Dw.add (x := .sh (.int (day + y + 1))) (p := day + y + 1) (a := eOp addD (eVar 4) (eC (.int 1))) (fun d => ⟨.op (.v (e := .sh (.int (day + y))) rfl) .c rfl rfl rfl, rfl⟩) (pickB_ok (box_S (k := k) (f := st (s ++ [(day, day + y)])) (day := some (.sh (.int day))) (lv := some (.sh (.int (day + y)))))) ds1
  refine ⟨s ++ [(day, day + y)], day + y + 1 + z, some (.sh (.int (day + y))), ds2, .inr ⟨_, rfl⟩, ⟨by rw [List.length_append, h.len]; rfl, by have := h.lo; omega, by have := h.hi; omega, fun p hp => ?_, ?_⟩, ?_⟩
  · rcases List.mem_append.mp hp with hp | hp
    · have := h.el p hp; omega
    · cases List.mem_singleton.mp hp
      have := h.lo
      simp only
      omega
  · refine List.pairwise_append.mpr ⟨h.gap, List.pairwise_singleton _ _, fun p hp q hq => ?_⟩
    cases List.mem_singleton.mp hq
    exact (h.el p hp).2.2.2
  · have p4 : ∀ {e : EV} {K : Env → Res} {d : D}, put (envS k (st s) (some (.sh (.int day))) lv d) 4 e K = K (envS k (st s) (some (.sh (.int day))) (some e) d) := fun {e K d} => put_lo (u := lv) rfl hlv
    unfold bodyStays
    rw [seq_eq]
    unfold sSet
    rw [e1]
    show put (envS k (st s) (some (.sh (.int day))) lv (dr ds1)) 4 (.sh (.int (day + y))) _ = _
    rw [p4]
    dsimp only
    rw [seq_eq]
    have hz2 : (s.map enc).length < sizeLim := by rw [List.length_map, h.len]; exact Nat.lt_of_lt_of_le hi (by decide)
    refine Eq.trans (b := if (s.map enc).length < sizeLim then _ else none) rfl ?_
    rw [if_pos hz2]
    refine Eq.trans (b := eOp addD (eOp addD (eVar 4) (eC (.int 1))) pickB (envS k (.list (s.map enc ++ [enc (day, day + y)])) (some (.sh (.int day))) (some (.sh (.int (day + y)))) (dr ds1)) (fun r ρ1 => keep ρ1 r fun v ρ2 => put ρ2 3 v C.nx) C.ex) rfl ?_
    rw [show PyData.list (s.map enc ++ [enc (day, day + y)]) = st (s ++ [(day, day + y)]) from by show _ = PyData.list _; rw [List.map_append]; rfl]
    rw [e2]
    rfl
end DL.k43
namespace DL.k43
open PySem
theorem in3 {a b c : Int → Prop} {R : Int → Prop} {l : List Int} (ha : ∀ x, a x → R x) (hb : ∀ x, b x → R x) (hc : ∀ x, c x → R x)
    (h : ∃ x xs, a x ∧ (∃ y ys, b y ∧ (∃ z zs, c z ∧ zs = [] ∧ ys = z :: zs) ∧ xs = y :: ys) ∧ l = x :: xs) : l ≠ [] ∧ l.length ≤ 100 ∧ ∀ x ∈ l, R x := by
  obtain ⟨x, xs, p1, ⟨y, ys, p2, ⟨z, zs, p3, rfl, rfl⟩, rfl⟩, rfl⟩ := h
  refine ⟨List.cons_ne_nil _ _, by simp, fun w hw => ?_⟩
  simp only [List.mem_cons, List.not_mem_nil, or_false] at hw
  rcases hw with rfl | rfl | rfl
  · exact ha _ p1
  · exact hb _ p2
  · exact hc _ p3
theorem stays_loop (C : Conts) : ∀ (l : List Int) (i : Nat) (k : Option EV) (s : List (Int × Int)) (day : Int) (lv : Option EV) (ds : List Int), Lo k → Lo lv → Sm i s day → i + l.length < 200 →
    ∃ k' s' day' lv' ds', Sm (i + l.length) s' day' ∧ loop (tName 1) bodyStays C (l.map .int) (envS k (st s) (some (.sh (.int day))) lv (dr ds)) = C.nx (envS k' (st s') (some (.sh (.int day'))) lv' (dr ds')) := by
  intro l
  induction l with
  | nil => intro i k s day lv ds hk hl h hi; exact ⟨k, s, day, lv, ds, h, rfl⟩
  | cons a l ih =>
    intro i k s day lv ds hk hl h hi
    rw [List.length_cons] at hi
    obtain ⟨s1, day1, lv1, ds1, l1, h1, e1⟩ := stay1 (k := some (.sh (.int a))) hl h (by omega) ds { C with nx := loop (tName 1) bodyStays C (l.map .int), ct := loop (tName 1) bodyStays C (l.map .int), bk := C.nx }
    obtain ⟨k2, s2, day2, lv2, ds2, h2, e2⟩ := ih (i + 1) (some (.sh (.int a))) s1 day1 lv1 ds1 (.inr ⟨_, rfl⟩) l1 h1 (by omega)
    refine ⟨k2, s2, day2, lv2, ds2, by rw [List.length_cons, show i + (l.length + 1) = i + 1 + l.length from by omega]; exact h2, ?_⟩
    rw [← e2]
    have et : ∀ K : Env → Res, tName 1 (.int a) (envS k (st s) (some (.sh (.int day))) lv (dr ds)) K = K (envS (some (.sh (.int a))) (st s) (some (.sh (.int day))) lv (dr ds)) := fun K => by
      rcases hk with rfl | ⟨b, rfl⟩ <;> rfl
    show tName 1 (.int a) (envS k (st s) (some (.sh (.int day))) lv (dr ds)) _ = _
    rw [et]
    exact e1
structure Lst (s : List (Int × Int)) : Prop where
  ok : Ok s
  len : s.length < 200
  hi : ∀ p ∈ s, p.2 ≤ 60000
  sp : ∀ p ∈ s, p.2 ≤ p.1 + 60
theorem stays_ok (ds : List Int) : ∃ s ds', F_law_stays [.io (dr ds)] = some (.ret (.ow (st s)) [some (dr ds')]) ∧ Lst s := by
  obtain ⟨day, ds1, ⟨d0, n, rfl, d1⟩, e1⟩ := Dw.take (e := eC (.int 100)) (E := fun d => [some (.io d), none, none, none, none]) (i := 0) ⟨fun d => ⟨_, rfl⟩, fun _ => rfl, fun _ _ => rfl⟩ (.c 100) (fun n h => by omega) ds
  obtain ⟨m, ds2, ⟨m0, n, hn, m1⟩, e2⟩ := Dw.take (E := envS none (st []) (some (.sh (.int day))) none) box_S (Dw.pick (P := fun x => 0 < x ∧ x ≤ 200) box_S (.cons (.c 5) (.cons (.c 40) (.cons (.c 200) .nil))) fun l h => in3 (fun x h => by omega) (fun x h => by omega) (fun x h => by omega) h) (fun n h => h.1) ds1
  have hl : (rg 0 m).length = m.toNat := by rw [rg_len, Int.sub_zero]
  obtain ⟨k', s, day', lv', ds3, hs, e3⟩ := stays_loop { topC 1 with nx := fun ρ => sRet (eVar 2) ρ (topC 1) } (rg 0 m) 0 none [] day none ds2 (.inl rfl) (.inl rfl) ⟨rfl, d0, by omega, fun p hp => (by cases hp), .nil⟩ (by omega)
  refine ⟨s, ds3, ?_, ⟨by have := hs.len; omega, fun p hp => by have := hs.el p hp; have := hs.hi; omega, hs.gap⟩, by have := hs.len; omega, fun p hp => by have := hs.el p hp; have := hs.hi; omega, fun p hp => (hs.el p hp).2.2.1⟩
  show sSeq (sPar [2, 3] (kCons (eLst aNil) (kCons (eCall F_law_take [true, false] (aCons (eVar 0) (aCons (eC (.int 100)) aNil))) kNil))) (sSeq (sFor (iRange ranged1 (aCons (eCall F_law_take [true, false] (aCons (eVar 0) (aCons (eCall F_law_pick [true, false] (aCons (eVar 0) (aCons (eLst (aCons (eC (.int 5)) (aCons (eC (.int 40)) (aCons (eC (.int 200)) aNil)))) aNil))) aNil))) aNil)) (tName 1) bodyStays) (sRet (eVar 2))) [some (.io (dr ds)), none, none, none, none] (topC 1) = _
  rw [seq_eq]
  refine Eq.trans (b := eCall F_law_take [true, false] (aCons (eVar 0) (aCons (eC (.int 100)) aNil)) [some (.io (dr ds)), none, none, none, none] _ _) rfl ?_
  rw [e1]
  refine Eq.trans (b := eCall F_law_take [true, false] (aCons (eVar 0) (aCons (eCall F_law_pick [true, false] (aCons (eVar 0) (aCons (eLst (aCons (eC (.int 5)) (aCons (eC (.int 40)) (aCons (eC (.int 200)) aNil)))) aNil))) aNil)) (envS none (st []) (some (.sh (.int day))) none (dr ds1)) (fun r ρ1 => opt (peeks ρ1 [r.w]) fun ds => opt (ranged1 ds) fun is => loop (tName 1) bodyStays { topC 1 with nx := fun ρ => sRet (eVar 2) ρ (topC 1) } is ρ1) _) rfl ?_
  rw [e2]
  refine Eq.trans (b := opt (ranged1 [.int m]) fun is => loop (tName 1) bodyStays { topC 1 with nx := fun ρ => sRet (eVar 2) ρ (topC 1) } is (envS none (st []) (some (.sh (.int day))) none (dr ds2))) rfl ?_
  rw [show ranged1 [.int m] = some ((rg 0 m).map .int) from by
    show (if in62 m then some (rangeD 0 m) else none) = _
    rw [rangeD_rg, in62_ok (by omega) (by omega)]
    rfl]
  refine Eq.trans (b := loop (tName 1) bodyStays { topC 1 with nx := fun ρ => sRet (eVar 2) ρ (topC 1) } ((rg 0 m).map .int) (envS none (st []) (some (.sh (.int day))) none (dr ds2))) rfl ?_
  rw [e3]
  rfl
end DL.k43
set_option maxRecDepth 100000
set_option maxHeartbeats 4000000
/-! k43: one stay more, counted. -/
namespace DL.k43
open PySem
theorem le_last {s : List (Int × Int)} (hg : s.Pairwise fun p q => p.2 < q.1) (hl : ∀ p ∈ s, p.1 ≤ p.2) : ∀ p ∈ s, p.2 ≤ lastOf s := by
  rcases List.eq_nil_or_concat s with rfl | ⟨s', q, rfl⟩
  · intro p hp; cases hp
  · rw [List.concat_eq_append] at *
    have hL : lastOf (s' ++ [q]) = q.2 := by unfold lastOf; rw [List.getLast?_concat]
    intro p hp
    rw [hL]
    rcases List.mem_append.mp hp with hp | hp
    · have := (List.pairwise_append.mp hg).2.2 p hp q (by simp)
      have := hl q (by simp)
      omega
    · rw [List.mem_singleton.mp hp]; exact Int.le_refl _
theorem ok_snoc {s : List (Int × Int)} (h : Ok s) (hl : s.length < 200) {d e : Int} (hb : lastOf s < d) (h0 : 0 ≤ d) (hde : d ≤ e) (he : e ≤ 100000) : Ok (s ++ [(d, e)]) := by
  have hL := le_last h.gap fun p hp => (h.day p hp).2.1
  refine ⟨by rw [List.length_append, List.length_singleton]; omega, fun p hp => ?_, List.pairwise_append.mpr ⟨h.gap, List.pairwise_singleton _ _, fun p hp q hq => ?_⟩⟩
  · rcases List.mem_append.mp hp with hp | hp
    · exact h.day p hp
    · rw [List.mem_singleton.mp hp]; exact ⟨h0, hde, he⟩
  · rw [List.mem_singleton.mp hq]
    have := hL p hp
    show p.2 < d
    omega
theorem used_cw {s : List (Int × Int)} (h : ∀ p ∈ s, p.1 ≤ p.2) {w d : Int} (hw : 0 ≤ w) : used s w d = cw (days s) w d := by
  unfold used cw
  rw [daysBy_upto h (by omega), show d - w + 1 - 1 = d - w from by omega]
theorem days_snoc (s : List (Int × Int)) (d e : Int) : days (s ++ [(d, e)]) = days s ++ rg d (e + 1) := by
  rw [days_append]
  show days s ++ (rg d (e + 1) ++ []) = _
  rw [List.append_nil]
/-- used in s with one stay more, from d to e, on a day of it -/
theorem cw_snoc {s : List (Int × Int)} (h : ∀ p ∈ s, p.1 ≤ p.2) {d e x w : Int} (h1 : d ≤ x) (h2 : x ≤ e) (h3 : x - d + 1 ≤ w) : cw (days (s ++ [(d, e)])) w x = used s w x + (x - d + 1) := by
  rw [used_cw h (by omega), days_snoc]
  unfold cw
  rw [upto_append, upto_append]
  have u1 := upto_rg (a := d) (b := e + 1) (x := x)
  have u2 := upto_rg (a := d) (b := e + 1) (x := x - w)
  omega
theorem over_snoc {s : List (Int × Int)} (h : ∀ p ∈ s, p.1 ≤ p.2 ∧ p.2 < c) {n m w : Int} (hn : 1 ≤ n) (hw : n ≤ w) :
    (∀ x ∈ over (days (s ++ [(c, c + n - 1)])) m w, x < c) ↔ ∀ i : Nat, (i : Int) < n → used s w (c + (i : Nat)) + (i : Nat) < m := by
  have hs : ∀ p ∈ s, p.1 ≤ p.2 := fun p hp => (h p hp).1
  constructor
  · intro ha i hi
    have e := cw_snoc hs (d := c) (e := c + n - 1) (x := c + (i : Nat)) (w := w) (by omega) (by omega) (by omega)
    have hx : c + (i : Nat) ∈ days (s ++ [(c, c + n - 1)]) := mem_days.mpr ⟨(c, c + n - 1), by simp, by simp only; omega, by simp only; omega⟩
    by_cases hm : m < cw (days (s ++ [(c, c + n - 1)])) w (c + (i : Nat))
    · have := ha _ (List.mem_filter.mpr ⟨hx, decide_eq_true hm⟩)
      omega
    · omega
  · intro ha x hx
    have hx := List.mem_filter.mp hx
    have hm := of_decide_eq_true hx.2
    obtain ⟨p, hp, h1, h2⟩ := mem_days.mp hx.1
    rcases List.mem_append.mp hp with hp | hp
    · have := h p hp; omega
    · rw [List.mem_singleton.mp hp] at h1 h2
      simp only at h1 h2
      have e := cw_snoc hs (d := c) (e := c + n - 1) (x := x) (w := w) h1 h2 (by omega)
      have := ha (x - c).toNat (by omega)
      rw [show c + ((x - c).toNat : Nat) = x from by omega] at this
      omega
end DL.k43
set_option maxRecDepth 100000
set_option maxHeartbeats 4000000
/-! k43: takes_entry. -/
namespace DL.k43
open PySem
theorem upto_rg' (a b x : Int) : (upto (rg a b) x : Int) = max 0 (min b (x + 1) - a) := by
  rcases upto_rg (a := a) (b := b) (x := x) with h | h
  · exact h
  · have := upto_le (rg a b) x
    rw [rg_len] at this
    omega
/-- the days of the stays from b on -/
def daysFrom (s : List (Int × Int)) (b : Int) : List Int := s.flatMap fun p => rg (if b > p.1 then b else p.1) (p.2 + 1)
theorem mem_daysFrom {s : List (Int × Int)} {b x : Int} (h : x ∈ daysFrom s b) : ∃ p ∈ s, p.1 ≤ x ∧ x ≤ p.2 := by
  obtain ⟨p, hp, hx⟩ := List.mem_flatMap.mp h
  have := mem_rg.mp hx
  refine ⟨p, hp, ?_, by omega⟩
  split at this <;> omega
theorem daysFrom_sorted {s : List (Int × Int)} (h : s.Pairwise fun p q => p.2 < q.1) (b : Int) : (daysFrom s b).Pairwise (· < ·) := by
  induction s with
  | nil => exact List.Pairwise.nil
  | cons p s ih =>
    have h2 := List.pairwise_cons.mp h
    show (rg (if b > p.1 then b else p.1) (p.2 + 1) ++ daysFrom s b).Pairwise (· < ·)
    refine List.pairwise_append.mpr ⟨rg_sorted _ _, ih h2.2, fun x hx y hy => ?_⟩
    have hx := mem_rg.mp hx
    obtain ⟨q, hq, hy⟩ := mem_daysFrom hy
    have := h2.1 q hq
    omega
theorem upto_daysFrom {s : List (Int × Int)} (h : ∀ p ∈ s, p.1 ≤ p.2) {b x : Int} (hx : b - 1 ≤ x) : (upto (daysFrom s b) x : Int) + (upto (days s) (b - 1) : Int) = (upto (days s) x : Int) := by
  induction s with
  | nil => rfl
  | cons p s ih =>
    have ih := ih fun q hq => h q (List.mem_cons_of_mem _ hq)
    have hp := h p List.mem_cons_self
    rw [show daysFrom (p :: s) b = rg (if b > p.1 then b else p.1) (p.2 + 1) ++ daysFrom s b from rfl, show days (p :: s) = rg p.1 (p.2 + 1) ++ days s from rfl, upto_append, upto_append, upto_append]
    have u1 := upto_rg' (if b > p.1 then b else p.1) (p.2 + 1) x
    have u2 := upto_rg' p.1 (p.2 + 1) x
    have u3 := upto_rg' p.1 (p.2 + 1) (b - 1)
    split at u1 <;> split <;> omega
theorem fits_iff {s : List (Int × Int)} {m w c : Int} {n : Nat} : fitsFrom s m w n c = true ↔ ∀ i : Nat, i < n → used s w (c + (i : Nat)) + (i : Nat) < m := by
  unfold fitsFrom
  rw [List.all_eq_true]
  constructor
  · intro h i hi
    exact of_decide_eq_true (h i (List.mem_range.mpr hi))
  · intro h i hi
    exact decide_eq_true (h i (List.mem_range.mp hi))
theorem can_fits {s : List (Int × Int)} (h : Ok s) {m w c n : Int} (r : Ru m w) (hn : 1 ≤ n ∧ n ≤ m) (hc : lastOf s < c) : (!(over (daysFrom s (lastOf s - w) ++ rg c (c + n)) m w).any fun d => decide (c ≤ d)) = fitsFrom s m w n.toNat c := by
  have hd : ∀ p ∈ s, p.1 ≤ p.2 := fun p hp => (h.day p hp).2.1
  have hL := le_last h.gap hd
  have h1 := r.mid
  have cwx : ∀ x, c ≤ x → x < c + n → cw (daysFrom s (lastOf s - w) ++ rg c (c + n)) w x = used s w x + (x - c + 1) := fun x h1 h2 => by
    rw [used_cw hd (by omega)]
    unfold cw
    rw [upto_append, upto_append]
    have u1 := upto_daysFrom hd (b := lastOf s - w) (x := x) (by omega)
    have u2 := upto_daysFrom hd (b := lastOf s - w) (x := x - w) (by omega)
    have u3 := upto_rg' c (c + n) x
    have u4 := upto_rg' c (c + n) (x - w)
    omega
  rw [Bool.eq_iff_iff, fits_iff, Bool.not_eq_true', List.any_eq_false]
  constructor
  · intro ha i hi
    have e := cwx (c + (i : Nat)) (by omega) (by omega)
    by_cases hm : m < cw (daysFrom s (lastOf s - w) ++ rg c (c + n)) w (c + (i : Nat))
    · have := ha (c + (i : Nat)) (List.mem_filter.mpr ⟨List.mem_append_right _ (mem_rg.mpr (by omega)), decide_eq_true hm⟩)
      rw [decide_eq_true_eq] at this
      omega
    · omega
  · intro ha x hx
    have hx := List.mem_filter.mp hx
    have hm := of_decide_eq_true hx.2
    rw [decide_eq_true_eq]
    intro hcx
    rcases List.mem_append.mp hx.1 with hp | hp
    · obtain ⟨p, hp, h1, h2⟩ := mem_daysFrom hp
      have := hL p hp
      omega
    · have hp := mem_rg.mp hp
      have e := cwx x (by omega) (by omega)
      have := ha (x - c).toNat (by omega)
      rw [show c + ((x - c).toNat : Nat) = x from by omega] at this
      omega
end DL.k43
set_option maxRecDepth 100000
set_option maxHeartbeats 4000000
/-! k43: takes_entry. -/
namespace DL.k43
open PySem
def lastD (d : Int) (s : List (Int × Int)) : Int := match s.getLast? with
  | some p => p.2
  | none => d
theorem lastOf_D (s : List (Int × Int)) : lastOf s = lastD (-1) s := rfl
theorem last_ite {ρ : Env} {i : Nat} {c : DB} {b : DE} {s : List (Int × Int)} {d : Int} {e : EV} (hv : slot ρ i = some e) (he : e.d = st s) (hc : EvT ρ c (!decide (s = []))) (hb : Ev ρ b (.sh (.int d))) :
    Ev ρ (eIf c (eOp ixD (eOp ixD (eVar i) (eUn negD (eC (.int 1)))) (eC (.int 1))) b) (.sh (.int (lastD d s))) := by
  have hp : peek ρ (.vr i) = some (st s) := by rw [pk_vr hv, he]
  rcases List.eq_nil_or_concat s with rfl | ⟨s', p, rfl⟩
  · exact .iteF hc hb
  · rw [List.concat_eq_append] at *
    have hx : ixD (st (s' ++ [p])) (.int (-1)) = some (.sh (enc p)) := by
      show (idx ((s' ++ [p]).map enc) (-1)).map RV.sh = _
      rw [List.map_append, List.map_singleton, idx_last]
      rfl
    have hL : lastD d (s' ++ [p]) = p.2 := by unfold lastD; rw [List.getLast?_concat]
    rw [hL]
    rw [decide_eq_false (by simp)] at hc
    exact .iteT hc (.op (.op (.v hv) (.un .c rfl rfl) hp rfl hx) .c rfl rfl rfl)
theorem len_pos {ρ : Env} {i : Nat} {s : List (Int × Int)} {e : EV} (hv : slot ρ i = some e) (he : e.d = st s) : EvT ρ (cCmp gtD (eFn lenD (aCons (eVar i) aNil)) (eC (.int 0))) (!decide (s = [])) := by
  have hp : peek ρ (.vr i) = some (st s) := by rw [pk_vr hv, he]
  refine .cmp (.fn (.cons (.v hv) .nil) (peeks_cons hp rfl) rfl) .c rfl rfl ?_
  show some (decide ((0 : Int) < ((s.map enc).length : Nat))) = _
  congr 1
  rw [List.length_map]
  cases s with
  | nil => rfl
  | cons p s => rw [decide_eq_true (by rw [List.length_cons]; omega), decide_eq_false (by simp)]; rfl
theorem neD_st (s t : List (Int × Int)) : neD (st s) (st t) = some (!decide (s = t)) := by
  unfold neD
  rw [shaped_st, shaped_st, PyData.eqv, eqv_st]
  rfl
theorem ne_nil {ρ : Env} {i : Nat} {s : List (Int × Int)} {e : EV} (hv : slot ρ i = some e) (he : e.d = st s) : EvT ρ (cCmp neD (eVar i) (eLst aNil)) (!decide (s = [])) := by
  have hp : peek ρ (.vr i) = some (st s) := by rw [pk_vr hv, he]
  exact .cmp (.v hv) (.lst (ds := []) .nil (by decide)) hp rfl (neD_st s [])
abbrev envT (s : List (Int × Int)) (m w day n told : Int) (u5 u6 u7 u8 u9 : Option EV) : Env := [some (.sh (st s)), some (.sh (ru m w)), some (.sh (.int day)), some (.sh (.int n)), some (.sh (.int told)), u5, u6, u7, u8, u9]
theorem takes_entry_ok {s : List (Int × Int)} (h : Ok s) {m w day n told free : Int} (r : Ru m w) (hd : 0 ≤ day ∧ day ≤ 100000) (hn : 1 ≤ n ∧ n ≤ m) (hb : lastOf s < day) (ht : day ≤ told ∧ told ≤ 200000) (hz : (days s).length ≤ 16000000) (hf : free = if lastOf s + w > day then lastOf s + w else day) :
    F_takes_entry [.sh (st s), .sh (ru m w), .sh (.int day), .sh (.int n), .sh (.int told)] = some (.ret (.sh (.bool (if free < told then false else fitsFrom s m w n.toNat told && !(rg day told).any (fitsFrom s m w n.toNat)))) [none, none, none, none, none]) := by
  have h1 := r.mid
  have h2 := r.hi
  have h3 := r.lo
  have hlo : -1 ≤ lastOf s := by
    rcases List.eq_nil_or_concat s with rfl | ⟨s', q, rfl⟩
    · exact Int.le_refl _
    · rw [List.concat_eq_append] at *
      have := h.day q (by simp)
      have hL : lastOf (s' ++ [q]) = q.2 := by unfold lastOf; rw [List.getLast?_concat]
      omega
  show opt (F_need_stays [.sh (st s)]) _ = _
  rw [need_stays_ok h]
  show opt (F_is_rule_checkstays [.sh (ru m w)]) _ = _
  rw [is_rule_c r]
  show opt (F_is_day_checkstays [.sh (.int day)]) _ = _
  rw [is_day_c hd]
  show opt (F_is_within [.sh (.int n), .sh (.int 1), .sh (.int m)]) _ = _
  rw [within_ok (by omega)]
  refine (if_neg (c := decide (told < day) = true) (by rw [decide_eq_true_eq]; omega)).trans ?_
  have e5 := last_ite (d := -1) (b := eUn negD (eC (.int 1))) (ρ := envT s m w day n told none none none none none) (i := 0) (e := .sh (st s)) rfl rfl (len_pos (i := 0) (e := .sh (st s)) rfl rfl) (.un (f := negD) (a := eC (.int 1)) .c rfl rfl)
  refine (e5 _ _).trans ?_
  rw [← lastOf_D]
  refine (if_neg (c := decide (day ≤ lastOf s) = true) (by rw [decide_eq_true_eq]; omega)).trans ?_
  subst hf
  refine Eq.trans (b := if decide ((if lastOf s + w > day then lastOf s + w else day) < told) = true then some (.ret (.sh (.bool false)) [none, none, none, none, none]) else _) rfl ?_
  by_cases hft : (if lastOf s + w > day then lastOf s + w else day) < told
  · rw [if_pos (decide_eq_true hft), if_pos hft]
  rw [if_neg (by rw [decide_eq_true_eq]; exact hft), if_neg hft]
  generalize (if lastOf s + w > day then lastOf s + w else day) = free at hft
  have hdd : ∀ p ∈ s, p.1 ≤ p.2 := fun p hp => (h.day p hp).2.1
  have fl : (s.flatMap fun p => (rg (if lastOf s - w > p.1 then lastOf s - w else p.1) (p.2 + 1)).map PyData.int) = (daysFrom s (lastOf s - w)).map .int := by
    unfold daysFrom
    rw [List.map_flatMap]
  have hlen : (daysFrom s (lastOf s - w)).length ≤ 16000000 := by
    refine Nat.le_trans ?_ hz
    have hs := daysFrom_sorted h.gap (lastOf s - w)
    have : ∀ t : List (Int × Int), (daysFrom t (lastOf s - w)).length ≤ (days t).length := fun t => by
      induction t with
      | nil => exact Nat.le_refl _
      | cons p t ih =>
        rw [show daysFrom (p :: t) (lastOf s - w) = rg (if lastOf s - w > p.1 then lastOf s - w else p.1) (p.2 + 1) ++ daysFrom t (lastOf s - w) from rfl, show days (p :: t) = rg p.1 (p.2 + 1) ++ days t from rfl, List.length_append, List.length_append, rg_len, rg_len]
        split <;> omega
    exact this s
  have hz' : (s.flatMap fun p => (rg (if lastOf s - w > p.1 then lastOf s - w else p.1) (p.2 + 1)).map PyData.int).length ≤ sizeLim := by rw [fl, List.length_map]; exact Nat.le_trans hlen (by decide)
  refine (lc2_all (enc := enc) (fun p => (rg (if lastOf s - w > p.1 then lastOf s - w else p.1) (p.2 + 1)).map PyData.int) (fun p => envT s m w day n told (some (.sh (.int (lastOf s)))) none none (some (.sh (.int p.1))) (some (.sh (.int p.2)))) s [] (by simpa using hz') fun p hp => ⟨rfl, rfl, fun acc K kf hl => ?_⟩).trans ?_
  · have d := h.day p hp
    refine Eq.trans (b := opt (ranged2 [.int (if lastOf s - w > p.1 then lastOf s - w else p.1), .int (p.2 + 1)]) _) rfl ?_
    generalize hg : (if lastOf s - w > p.1 then lastOf s - w else p.1) = lo at hl ⊢
    have hlo2 : -1000000000 ≤ lo ∧ lo ≤ 1000000000 := by
      have := le_last h.gap hdd p hp
      rw [← hg]
      split <;> constructor <;> omega
    rw [ranged2_ok hlo2.1 hlo2.2 (by omega) (by omega)]
    rw [List.length_map] at hl
    refine (lcIn_all (enc := PyData.int) (fun _ => true) PyData.int (fun x => envT s m w day n told (some (.sh (.int (lastOf s)))) none (some (.sh (.int x))) (some (.sh (.int p.1))) (some (.sh (.int p.2)))) (rg lo (p.2 + 1)) acc hl fun x _ => ⟨rfl, rfl, fun kt kf => rfl⟩).trans ?_
    rw [List.filter_eq_self.mpr (fun _ _ => rfl)]
    rfl
  rw [fl, List.nil_append]
  generalize hO : daysFrom s (lastOf s - w) = O at hlen
  have can : ∀ c, day ≤ c → c ≤ 200000 → F_can_stay [.sh (.list (O.map .int)), .sh (ru m w), .sh (.int c), .sh (.int n)] = some (.ret (.sh (.bool (fitsFrom s m w n.toNat c))) [none, none, none, none]) := fun c h4 h5 => by
    rw [← can_fits h r hn (show lastOf s < c by omega), hO]
    refine can_stay_ok r ?_ (by omega) (by omega) ?_
    · rw [← hO]
      refine List.pairwise_append.mpr ⟨daysFrom_sorted h.gap _, rg_sorted _ _, fun x hx y hy => ?_⟩
      obtain ⟨p, hp, h6, h7⟩ := mem_daysFrom hx
      have := le_last h.gap hdd p hp
      have := mem_rg.mp hy
      omega
    · rw [List.length_append, rg_len]
      omega
  show opt (F_can_stay [.sh (.list (O.map .int)), .sh (ru m w), .sh (.int told), .sh (.int n)]) _ = _
  rw [can told (by omega) (by omega)]
  cases hft2 : fitsFrom s m w n.toNat told with
  | false => rfl
  | true =>
    have hr : ranged2 [.int day, .int told] = some ((rg day told).map .int) := ranged2_ok (by omega) (by omega) (by omega) (by omega)
    refine Eq.trans (b := opt (ranged2 [.int day, .int told]) _) rfl ?_
    rw [hr]
    have hzr : (rg day told).length ≤ sizeLim := by
      rw [rg_len]
      have : (200000 : Nat) ≤ sizeLim := by decide
      omega
    refine (lc_all (enc := PyData.int) (fun _ => true) (fun c => .bool (fitsFrom s m w n.toNat c)) (fun c => [some (.sh (st s)), some (.sh (ru m w)), some (.sh (.int day)), some (.sh (.int n)), some (.sh (.int told)), some (.sh (.int (lastOf s))), some (.ow (.list (O.map .int))), none, some (.sh (.int c)), none]) (rg day told) [] (by simpa using hzr) fun c hc => ⟨rfl, rfl, fun kt kf => ?_⟩).trans ?_
    · have hc := mem_rg.mp hc
      show opt (F_can_stay [.sh (.list (O.map .int)), .sh (ru m w), .sh (.int c), .sh (.int n)]) _ = _
      rw [can c (by omega) (by omega)]
      rfl
    rw [List.filter_eq_self.mpr (fun _ _ => rfl), List.nil_append]
    refine Eq.trans (b := opt (anyD [.list ((rg day told).map fun x => PyData.bool (fitsFrom s m w n.toNat x))]) _) rfl ?_
    rw [any_map]
    rfl
end DL.k43
set_option maxRecDepth 100000
set_option maxHeartbeats 4000000
/-! k43: joined stays, plain. -/
namespace DL.k43
open PySem
def merge1 (R : List (Int × Int)) (p : Int × Int) : List (Int × Int) := match R.getLast? with
  | some q => if p.1 ≤ q.2 + 1 then R.dropLast ++ [(q.1, if p.2 > q.2 then p.2 else q.2)] else R ++ [p]
  | none => [p]
theorem merge1_last (R : List (Int × Int)) (q p : Int × Int) : merge1 (R ++ [q]) p = if p.1 ≤ q.2 + 1 then R ++ [(q.1, if p.2 > q.2 then p.2 else q.2)] else R ++ [q] ++ [p] := by
  unfold merge1
  rw [List.getLast?_concat, List.dropLast_concat]
structure JG (R ps : List (Int × Int)) : Prop where
  le : ∀ p ∈ R, p.1 ≤ p.2
  gap : R.Pairwise fun p q => p.2 + 1 < q.1
  mem : ∀ x, (∃ p ∈ R, p.1 ≤ x ∧ x ≤ p.2) ↔ (∃ p ∈ ps, p.1 ≤ x ∧ x ≤ p.2)
  src : ∀ q ∈ R, (∃ p ∈ ps, q.1 = p.1) ∧ (∃ p ∈ ps, q.2 = p.2)
  len : R.length ≤ ps.length
theorem ex_snoc {ps : List (Int × Int)} {p : Int × Int} {P : Int × Int → Prop} : (∃ q ∈ ps ++ [p], P q) ↔ (∃ q ∈ ps, P q) ∨ P p := by
  constructor
  · rintro ⟨q, hq, h⟩
    rcases List.mem_append.mp hq with hq | hq
    · exact .inl ⟨q, hq, h⟩
    · rw [List.mem_singleton.mp hq] at h; exact .inr h
  · rintro (⟨q, hq, h⟩ | h)
    · exact ⟨q, List.mem_append_left _ hq, h⟩
    · exact ⟨p, by simp, h⟩
theorem JG.step {R ps : List (Int × Int)} {p : Int × Int} (g : JG R ps) (hp : p.1 ≤ p.2) (hf : ∀ q ∈ ps, q.1 ≤ p.1) : JG (merge1 R p) (ps ++ [p]) := by
  rcases List.eq_nil_or_concat R with rfl | ⟨R', q, rfl⟩
  · refine ⟨fun r hr => ?_, List.pairwise_singleton _ _, fun x => ?_, fun r hr => ?_, by show 1 ≤ _; simp⟩
    · rw [List.mem_singleton.mp hr]; exact hp
    · have := g.mem x
      rw [ex_snoc, ← this]
      constructor
      · rintro ⟨r, hr, h⟩; rw [List.mem_singleton.mp hr] at h; exact .inr h
      · rintro (⟨r, hr, h⟩ | h)
        · cases hr
        · exact ⟨p, List.mem_singleton.mpr rfl, h⟩
    · rw [List.mem_singleton.mp hr]; exact ⟨⟨p, by simp, rfl⟩, ⟨p, by simp, rfl⟩⟩
  · rw [List.concat_eq_append] at g ⊢
    rw [merge1_last]
    obtain ⟨⟨q1, hq1, eq1⟩, ⟨q2, hq2, eq2⟩⟩ := g.src q (by simp)
    have hq := hf q1 hq1
    have hql := g.le q (by simp)
    have hg := List.pairwise_append.mp g.gap
    have hlen := g.len
    rw [List.length_append, List.length_singleton] at hlen
    by_cases hc : p.1 ≤ q.2 + 1
    · rw [if_pos hc]
      refine ⟨fun r hr => ?_, List.pairwise_append.mpr ⟨hg.1, List.pairwise_singleton _ _, fun r hr t ht => ?_⟩, fun x => ?_, fun r hr => ?_, by simp; omega⟩
      · rcases List.mem_append.mp hr with hr | hr
        · exact g.le r (List.mem_append_left _ hr)
        · rw [List.mem_singleton.mp hr]; show q.1 ≤ _; split <;> omega
      · rw [List.mem_singleton.mp ht]; exact hg.2.2 r hr q (by simp)
      · rw [ex_snoc, ex_snoc, ← g.mem x, ex_snoc, or_assoc]
        refine or_congr Iff.rfl ?_
        simp only
        split <;> omega
      · rcases List.mem_append.mp hr with hr | hr
        · obtain ⟨⟨u, hu, eu⟩, ⟨v, hv, ev⟩⟩ := g.src r (List.mem_append_left _ hr)
          exact ⟨⟨u, List.mem_append_left _ hu, eu⟩, ⟨v, List.mem_append_left _ hv, ev⟩⟩
        · rw [List.mem_singleton.mp hr]
          refine ⟨⟨q1, List.mem_append_left _ hq1, eq1⟩, ?_⟩
          show ∃ u ∈ _, (if p.2 > q.2 then p.2 else q.2) = _
          split
          · exact ⟨p, by simp, rfl⟩
          · exact ⟨q2, List.mem_append_left _ hq2, eq2⟩
    · rw [if_neg hc]
      refine ⟨fun r hr => ?_, List.pairwise_append.mpr ⟨g.gap, List.pairwise_singleton _ _, fun r hr t ht => ?_⟩, fun x => ?_, fun r hr => ?_, by simp; omega⟩
      · rcases List.mem_append.mp hr with hr | hr
        · exact g.le r hr
        · rw [List.mem_singleton.mp hr]; exact hp
      · rw [List.mem_singleton.mp ht]
        rcases List.mem_append.mp hr with hr | hr
        · have := hg.2.2 r hr q (by simp)
          omega
        · rw [List.mem_singleton.mp hr]; omega
      · rw [ex_snoc, g.mem x, ex_snoc]
      · rcases List.mem_append.mp hr with hr | hr
        · obtain ⟨⟨u, hu, eu⟩, ⟨v, hv, ev⟩⟩ := g.src r hr
          exact ⟨⟨u, List.mem_append_left _ hu, eu⟩, ⟨v, List.mem_append_left _ hv, ev⟩⟩
        · rw [List.mem_singleton.mp hr]; exact ⟨⟨p, by simp, rfl⟩, ⟨p, by simp, rfl⟩⟩
theorem JG.all : ∀ (M ps R : List (Int × Int)), JG R ps → (∀ p ∈ M, p.1 ≤ p.2) → (ps ++ M).Pairwise (fun p q => p.1 ≤ q.1) → JG (M.foldl merge1 R) (ps ++ M)
  | [], ps, R, g, _, _ => by rw [List.append_nil]; exact g
  | p :: M, ps, R, g, hl, hs => by
    rw [List.foldl_cons, show ps ++ p :: M = (ps ++ [p]) ++ M from by simp]
    refine JG.all M (ps ++ [p]) _ (g.step (hl p List.mem_cons_self) fun q hq => (List.pairwise_append.mp hs).2.2 q hq p List.mem_cons_self) (fun q hq => hl q (List.mem_cons_of_mem _ hq)) ?_
    rw [List.append_assoc]
    exact hs
abbrev le2 (p q : Int × Int) : Bool := decide (p.1 < q.1 ∨ (p.1 = q.1 ∧ p.2 ≤ q.2))
def sort2 (s : List (Int × Int)) : List (Int × Int) := s.mergeSort le2
theorem sort2_perm (s : List (Int × Int)) : (sort2 s).Perm s := List.mergeSort_perm _ _
theorem sort2_sorted (s : List (Int × Int)) : (sort2 s).Pairwise fun p q => p.1 ≤ q.1 := by
  have h := List.pairwise_mergeSort (le := le2) (fun a b c h1 h2 => by
    have h1 := of_decide_eq_true h1
    have h2 := of_decide_eq_true h2
    exact decide_eq_true (by omega)) (fun a b => by
    show (decide _ || decide _) = true
    rw [Bool.or_eq_true, decide_eq_true_eq, decide_eq_true_eq]
    omega) s
  exact h.imp fun h => by
    have := of_decide_eq_true h
    omega
def joined (s : List (Int × Int)) (a b : Int) : List (Int × Int) := (sort2 (s ++ [(a, b)])).foldl merge1 []
theorem joined_JG {s : List (Int × Int)} (h : ∀ p ∈ s, p.1 ≤ p.2) {a b : Int} (hab : a ≤ b) : JG (joined s a b) (sort2 (s ++ [(a, b)])) := by
  have := JG.all (sort2 (s ++ [(a, b)])) [] [] ⟨fun p hp => (nomatch hp), .nil, fun x => Iff.rfl, fun q hq => (nomatch hq), Nat.le_refl _⟩ (fun p hp => by
    have hp := (sort2_perm _).mem_iff.mp hp
    rcases List.mem_append.mp hp with hp | hp
    · exact h p hp
    · rw [List.mem_singleton.mp hp]; exact hab) (by rw [List.nil_append]; exact sort2_sorted _)
  rw [List.nil_append] at this
  exact this
theorem joined_mem {s : List (Int × Int)} (h : ∀ p ∈ s, p.1 ≤ p.2) {a b : Int} (hab : a ≤ b) (x : Int) : x ∈ days (joined s a b) ↔ x ∈ days s ∨ (a ≤ x ∧ x ≤ b) := by
  rw [mem_days, (joined_JG h hab).mem x, mem_days]
  constructor
  · rintro ⟨p, hp, hx⟩
    have hp := (sort2_perm _).mem_iff.mp hp
    rcases List.mem_append.mp hp with hp | hp
    · exact .inl ⟨p, hp, hx⟩
    · rw [List.mem_singleton.mp hp] at hx; exact .inr hx
  · rintro (⟨p, hp, hx⟩ | hx)
    · exact ⟨p, (sort2_perm _).mem_iff.mpr (List.mem_append_left _ hp), hx⟩
    · exact ⟨(a, b), (sort2_perm _).mem_iff.mpr (by simp), hx⟩
theorem joined_ok {s : List (Int × Int)} (h : Ok s) (hl : s.length < 200) {a b : Int} (h0 : 0 ≤ a) (hab : a ≤ b) (hb : b ≤ 100000) : Ok (joined s a b) := by
  have g := joined_JG (s := s) (fun p hp => (h.day p hp).2.1) hab
  refine ⟨?_, fun p hp => ?_, gap_weak g.gap⟩
  · have := g.len
    rw [(sort2_perm _).length_eq, List.length_append, List.length_singleton] at this
    omega
  · have h1 := g.le p hp
    obtain ⟨⟨u, hu, eu⟩, ⟨v, hv, ev⟩⟩ := g.src p hp
    have fu : ∀ u ∈ sort2 (s ++ [(a, b)]), 0 ≤ u.1 ∧ u.2 ≤ 100000 := fun u hu => by
      rcases List.mem_append.mp ((sort2_perm _).mem_iff.mp hu) with hu | hu
      · have := h.day u hu; omega
      · rw [List.mem_singleton.mp hu]; exact ⟨h0, hb⟩
    have := fu u hu
    have := fu v hv
    omega
theorem sorted_ext : ∀ {L M : List Int}, L.Pairwise (· < ·) → M.Pairwise (· < ·) → (∀ x, x ∈ L ↔ x ∈ M) → L = M
  | [], [], _, _, _ => rfl
  | [], m :: M, _, _, h => nomatch (h m).mpr List.mem_cons_self
  | l :: L, [], _, _, h => nomatch (h l).mp List.mem_cons_self
  | l :: L, m :: M, hl, hm, h => by
    have hl2 := List.pairwise_cons.mp hl
    have hm2 := List.pairwise_cons.mp hm
    have e : l = m := by
      rcases List.mem_cons.mp ((h l).mp List.mem_cons_self) with e | e
      · exact e
      · rcases List.mem_cons.mp ((h m).mpr List.mem_cons_self) with e' | e'
        · exact e'.symm
        · have := hm2.1 l e
          have := hl2.1 m e'
          omega
    subst e
    refine congrArg (l :: ·) (sorted_ext hl2.2 hm2.2 fun x => ?_)
    constructor
    · intro hx
      rcases List.mem_cons.mp ((h x).mp (List.mem_cons_of_mem _ hx)) with e | e
      · have := hl2.1 x hx; omega
      · exact e
    · intro hx
      rcases List.mem_cons.mp ((h x).mpr (List.mem_cons_of_mem _ hx)) with e | e
      · have := hm2.1 x hx; omega
      · exact e
theorem map_pair_ext : ∀ {R S : List (Int × Int)}, R.map (·.1) = S.map (·.1) → R.map (·.2) = S.map (·.2) → R = S
  | [], [], _, _ => rfl
  | [], _ :: _, h, _ => nomatch h
  | _ :: _, [], h, _ => nomatch h
  | p :: R, q :: S, h, g => by
    rw [List.map_cons, List.map_cons] at h g
    have h := List.cons.inj h
    have g := List.cons.inj g
    rw [map_pair_ext h.2 g.2, Prod.ext h.1 g.1]
theorem good_uniq {R S : List (Int × Int)} (h1 : ∀ p ∈ R, p.1 ≤ p.2) (h2 : R.Pairwise fun p q => p.2 + 1 < q.1) (h3 : ∀ p ∈ S, p.1 ≤ p.2) (h4 : S.Pairwise fun p q => p.2 + 1 < q.1) (e : days R = days S) : R = S := by
  have f1 := firsts_of h1 h2
  have f2 := lasts_of h1 h2
  rw [e] at f1 f2
  exact map_pair_ext (f1.symm.trans (firsts_of h3 h4)) (f2.symm.trans (lasts_of h3 h4))
theorem joined_idem {s : List (Int × Int)} (h : ∀ p ∈ s, p.1 ≤ p.2) {a b : Int} (hab : a ≤ b) : joined (joined s a b) a b = joined s a b := by
  have g := joined_JG h hab
  have g2 := joined_JG g.le hab
  refine good_uniq g2.le g2.gap g.le g.gap (sorted_ext (days_sorted (gap_weak g2.gap)) (days_sorted (gap_weak g.gap)) fun x => ?_)
  rw [joined_mem g.le hab, joined_mem h hab]
  constructor
  · rintro (h | h)
    · exact h
    · exact .inr h
  · exact .inl
/-! counting -/
theorem days_len {s : List (Int × Int)} (h : ∀ p ∈ s, p.1 ≤ p.2) : ((days s).length : Int) = (s.map fun p => p.2 - p.1 + 1).sum := by
  induction s with
  | nil => rfl
  | cons p s ih =>
    have hp := h p List.mem_cons_self
    rw [show days (p :: s) = rg p.1 (p.2 + 1) ++ days s from rfl, List.length_append, rg_len, List.map_cons, List.sum_cons, ← ih fun q hq => h q (List.mem_cons_of_mem _ hq)]
    omega
theorem split_joined {s : List (Int × Int)} (h : Ok s) {a b : Int} (hab : a ≤ b) : days (joined s a b) = (days s).filter (fun x => decide (x ≤ a - 1)) ++ rg a (b + 1) ++ (days s).filter (fun x => !decide (x ≤ b)) := by
  have hd : ∀ p ∈ s, p.1 ≤ p.2 := fun p hp => (h.day p hp).2.1
  have hs := days_sorted h.gap
  refine sorted_ext (days_sorted (gap_weak (joined_JG hd hab).gap)) ?_ fun x => ?_
  · refine List.pairwise_append.mpr ⟨List.pairwise_append.mpr ⟨List.Pairwise.filter _ hs, rg_sorted _ _, fun x hx y hy => ?_⟩, List.Pairwise.filter _ hs, fun x hx y hy => ?_⟩
    · have := of_decide_eq_true (List.mem_filter.mp hx).2
      have := mem_rg.mp hy
      omega
    · have hy := (List.mem_filter.mp hy).2
      rw [Bool.not_eq_true', decide_eq_false_iff_not] at hy
      rcases List.mem_append.mp hx with hx | hx
      · have := of_decide_eq_true (List.mem_filter.mp hx).2
        omega
      · have := mem_rg.mp hx
        omega
  · rw [joined_mem hd hab, List.mem_append, List.mem_append, List.mem_filter, List.mem_filter, mem_rg, decide_eq_true_eq, Bool.not_eq_true', decide_eq_false_iff_not]
    by_cases hx : x ∈ days s
    · simp only [hx, true_and, true_or, true_iff]; omega
    · simp only [hx, false_and, false_or, or_false]; omega
theorem upto_filter_le {L : List Int} {c x : Int} (h : c ≤ x) : upto (L.filter fun e => decide (e ≤ c)) x = upto L c := by
  unfold upto
  rw [List.countP_filter]
  refine List.countP_congr fun e he => ?_
  simp only [Bool.and_eq_true, decide_eq_true_eq]
  omega
theorem upto_filter_gt {L : List Int} {c x : Int} (h : x ≤ c) : upto (L.filter fun e => !decide (e ≤ c)) x = 0 := by
  unfold upto
  refine List.countP_eq_zero.mpr fun e he => ?_
  have := (List.mem_filter.mp he).2
  rw [Bool.not_eq_true', decide_eq_false_iff_not] at this
  rw [decide_eq_true_eq]
  omega
theorem joined_count {s : List (Int × Int)} (h : Ok s) {a b : Int} (hab : a ≤ b) : ((days (joined s a b)).length : Int) = (days s).length + b - a + 1 - daysBy s a b := by
  have hd : ∀ p ∈ s, p.1 ≤ p.2 := fun p hp => (h.day p hp).2.1
  rw [split_joined h hab, List.length_append, List.length_append, rg_len, daysBy_upto hd (by omega)]
  have e1 : ((days s).filter fun x => decide (x ≤ a - 1)).length = upto (days s) (a - 1) := List.countP_eq_length_filter.symm
  have e2 : ((days s).filter fun x => !decide (x ≤ b)).length + upto (days s) b = (days s).length := by
    rw [← List.countP_eq_length_filter]
    have := List.length_eq_countP_add_countP (fun x => decide (x ≤ b)) (l := days s)
    have e : List.countP (fun x => !decide (x ≤ b)) (days s) = List.countP (fun a => decide ¬decide (a ≤ b) = true) (days s) := List.countP_congr fun x _ => by simp
    rw [e]
    unfold upto
    omega
  omega
theorem joined_in {s : List (Int × Int)} (h : Ok s) {a b : Int} (hab : a ≤ b) : daysBy (joined s a b) a b = b - a + 1 := by
  have hd : ∀ p ∈ s, p.1 ≤ p.2 := fun p hp => (h.day p hp).2.1
  rw [daysBy_upto (joined_JG hd hab).le (by omega), split_joined h hab, upto_append, upto_append, upto_append, upto_append, upto_filter_le (by omega), upto_filter_le (by omega), upto_filter_gt (by omega), upto_filter_gt (by omega)]
  have u1 := upto_rg' a (b + 1) b
  have u2 := upto_rg' a (b + 1) (a - 1)
  omega
theorem daysBy_all {s : List (Int × Int)} (h : Ok s) : daysBy s 0 100000 = ((days s).length : Int) := by
  have hd : ∀ p ∈ s, p.1 ≤ p.2 := fun p hp => (h.day p hp).2.1
  rw [daysBy_upto hd (by omega)]
  have e1 : upto (days s) 100000 = (days s).length := by
    unfold upto
    refine List.countP_eq_length.mpr fun x hx => ?_
    obtain ⟨p, hp, hx⟩ := mem_days.mp hx
    have := h.day p hp
    exact decide_eq_true (by omega)
  have e2 : upto (days s) (0 - 1) = 0 := by
    unfold upto
    refine List.countP_eq_zero.mpr fun x hx => ?_
    obtain ⟨p, hp, hx⟩ := mem_days.mp hx
    have := h.day p hp
    rw [decide_eq_true_eq]
    omega
  rw [e1, e2]
  omega
end DL.k43
set_option maxRecDepth 100000
set_option maxHeartbeats 4000000
/-! k43: joined_stays. -/
namespace DL.k43
open PySem
theorem alike_enc (p q : Int × Int) : W.alike (enc p) (enc q) = true := by simp [W.alike, W.alikeAll]
theorem shaped_enc (p : Int × Int) : SeqAt.shaped (enc p) = true := by
  unfold SeqAt.shaped
  simp [PyData.canLay0, PyData.canLayAll0, PyData.depth, PyData.depthAll]
theorem sortOk_st (S : List (Int × Int)) : sortOk (S.map enc) = true := by
  unfold sortOk
  rw [Bool.and_eq_true, Bool.and_eq_true, Bool.or_eq_true]
  refine ⟨⟨?_, .inl ?_⟩, ?_⟩
  · rw [List.all_map, List.all_eq_true]
    intro p _
    show (S.map enc).all (fun b => W.alike (enc p) b) = true
    rw [List.all_map, List.all_eq_true]
    exact fun q _ => alike_enc p q
  · rw [List.all_map, List.all_eq_true]
    exact fun _ _ => rfl
  · rw [List.all_map, List.all_eq_true]
    exact fun p _ => shaped_enc p
theorem sortedD_st (S : List (Int × Int)) (hz : S.length ≤ sizeLim) : sortedD [st S] = some (.ow (st (sort2 S))) := by
  show (if sortOk (S.map enc) && decide ((S.map enc).length ≤ sizeLim) then _ else none) = _
  rw [sortOk_st, List.length_map, decide_eq_true hz]
  show some (RV.ow (.list ((S.map enc).mergeSort (W.dataLe false id)))) = _
  have e := List.map_mergeSort (r := le2) (s := W.dataLe false id) (f := enc) (l := S) fun p _ q _ => by
    have := W.dataLe_ii (β := Int × Int) (·.1) (·.2)
    exact (congrFun (congrFun this p) q).symm
  rw [← e]
  rfl
noncomputable abbrev bodyJ : DS := (sIf (cAnd (cCmp gtD (eFn lenD (aCons (eVar 3) aNil)) (eC (.int 0))) (cCmp leD (eVar 4) (eOp addD (eOp ixD (eOp ixD (eVar 3) (eUn negD (eC (.int 1)))) (eC (.int 1))) (eC (.int 1))))) (sSetIx 3 (eUn negD (eC (.int 1))) (eTup (aCons (eOp ixD (eOp ixD (eVar 3) (eUn negD (eC (.int 1)))) (eC (.int 0))) (aCons (eFn maxD (aCons (eOp ixD (eOp ixD (eVar 3) (eUn negD (eC (.int 1)))) (eC (.int 1))) (aCons (eVar 5) aNil))) aNil)))) (sExpr (eAppend 3 (eTup (aCons (eVar 4) (aCons (eVar 5) aNil))))))
abbrev envJ (s : List (Int × Int)) (a b : Int) (R : List (Int × Int)) (u v : Option EV) : Env := [some (.sh (st s)), some (.sh (.int a)), some (.sh (.int b)), some (.ow (st R)), u, v]
theorem join_body {s : List (Int × Int)} {a b : Int} {R : List (Int × Int)} {p : Int × Int} (C : Conts) (hz : R.length < sizeLim) : bodyJ (envJ s a b R (some (.sh (.int p.1))) (some (.sh (.int p.2)))) C = C.nx (envJ s a b (merge1 R p) (some (.sh (.int p.1))) (some (.sh (.int p.2)))) := by
  rcases List.eq_nil_or_concat R with rfl | ⟨R', q, rfl⟩
  · rfl
  · rw [List.concat_eq_append] at hz ⊢
    have hl : decide ((0 : Int) < (((R' ++ [q]).map enc).length : Nat)) = true := decide_eq_true (by rw [List.length_map, List.length_append, List.length_singleton]; omega)
    have hx : ixD (.list ((R' ++ [q]).map enc)) (.int (-1)) = some (.sh (enc q)) := by
      show (idx _ _).map RV.sh = _
      rw [List.map_append, List.map_singleton, idx_last]
      rfl
    have ex : Ev (envJ s a b (R' ++ [q]) (some (.sh (.int p.1))) (some (.sh (.int p.2)))) (eOp ixD (eVar 3) (eUn negD (eC (.int 1)))) (.sh (enc q)) := .op (.v rfl) (.un .c rfl rfl) rfl rfl hx
    have ec : EvT (envJ s a b (R' ++ [q]) (some (.sh (.int p.1))) (some (.sh (.int p.2)))) (cAnd (cCmp gtD (eFn lenD (aCons (eVar 3) aNil)) (eC (.int 0))) (cCmp leD (eVar 4) (eOp addD (eOp ixD (eOp ixD (eVar 3) (eUn negD (eC (.int 1)))) (eC (.int 1))) (eC (.int 1))))) (true && decide (p.1 ≤ q.2 + 1)) :=
      .and (.cmp (.fn (.cons (.v rfl) .nil) rfl rfl) .c rfl rfl (by rw [← hl]; rfl)) fun _ => .cmp (.v rfl) (.op (.op ex .c rfl rfl rfl) .c rfl rfl rfl) rfl rfl rfl
    unfold bodyJ
    rw [if_eq ec, Bool.true_and, merge1_last]
    by_cases hp : p.1 ≤ q.2 + 1
    · rw [if_pos hp, if_pos (decide_eq_true hp)]
      have e2 : Ev (envJ s a b (R' ++ [q]) (some (.sh (.int p.1))) (some (.sh (.int p.2)))) (eTup (aCons (eOp ixD (eOp ixD (eVar 3) (eUn negD (eC (.int 1)))) (eC (.int 0))) (aCons (eFn maxD (aCons (eOp ixD (eOp ixD (eVar 3) (eUn negD (eC (.int 1)))) (eC (.int 1))) (aCons (eVar 5) aNil))) aNil))) (.sh (enc (q.1, if p.2 > q.2 then p.2 else q.2))) :=
        .tup (ds := [.int q.1, .int (if p.2 > q.2 then p.2 else q.2)]) (.cons (.op ex .c rfl rfl rfl) (.cons (.fn (.cons (.op ex .c rfl rfl rfl) (.cons (.v rfl) .nil)) rfl rfl) .nil)) (fun _ => rfl) (Nat.le_of_ble_eq_true rfl)
      generalize (if p.2 > q.2 then p.2 else q.2) = y at e2 ⊢
      have hs : setAt (.int (-1)) (enc (q.1, y)) (.list ((R' ++ [q]).map enc)) = some (st (R' ++ [(q.1, y)])) := by
        show (place ((R' ++ [q]).map enc).length (-1)).map (fun n => PyData.list (((R' ++ [q]).map enc).set n (enc (q.1, y)))) = _
        rw [List.map_append, List.map_singleton, place_last]
        show some (PyData.list ((R'.map enc ++ [enc q]).set (R'.map enc).length (enc (q.1, y)))) = _
        rw [set_last]
        show _ = some (PyData.list _)
        rw [List.map_append]
        rfl
      unfold sSetIx
      rw [e2]
      show opt (setAt (.int (-1)) (enc (q.1, y)) (.list ((R' ++ [q]).map enc))) _ = _
      rw [hs]
      rfl
    · rw [if_neg hp, if_neg (by rw [decide_eq_true_eq]; exact hp)]
      refine Eq.trans (b := if ((R' ++ [q]).map enc).length < sizeLim then C.nx (envJ s a b (R' ++ [q]) (some (.sh (.int p.1))) (some (.sh (.int p.2))) |>.set 3 (some (.ow (.list ((R' ++ [q]).map enc ++ [enc p]))))) else none) rfl ?_
      rw [if_pos (by rw [List.length_map]; exact hz), show (R' ++ [q]).map enc ++ [enc p] = (R' ++ [q] ++ [p]).map enc from by rw [List.map_append (l₁ := R' ++ [q])]; rfl]
      rfl
theorem merge1_len (R : List (Int × Int)) (p : Int × Int) : (merge1 R p).length ≤ R.length + 1 := by
  rcases List.eq_nil_or_concat R with rfl | ⟨R', q, rfl⟩
  · exact Nat.le_refl _
  · rw [List.concat_eq_append, merge1_last]
    split
    · rw [List.length_append, List.length_append]; exact Nat.le_succ _
    · rw [List.length_append]; exact Nat.le_refl _
theorem join_loop {s : List (Int × Int)} {a b : Int} (C : Conts) : ∀ (M R : List (Int × Int)) (u v : Option EV), Lo' u → Lo' v → R.length + M.length ≤ sizeLim →
    ∃ u' v', loop (tSeq (tsCons (tName 4) (tsCons (tName 5) tsNil))) bodyJ C (M.map enc) (envJ s a b R u v) = C.nx (envJ s a b (M.foldl merge1 R) u' v')
  | [], R, u, v, _, _, _ => ⟨u, v, rfl⟩
  | p :: M, R, u, v, hu, hv, hz => by
    rw [List.length_cons] at hz
    have hl := merge1_len R p
    obtain ⟨u', v', ih⟩ := join_loop (s := s) (a := a) (b := b) C M (merge1 R p) (some (.sh (.int p.1))) (some (.sh (.int p.2))) trivial trivial (by omega)
    refine ⟨u', v', ?_⟩
    rw [List.foldl_cons, ← ih]
    show tSeq (tsCons (tName 4) (tsCons (tName 5) tsNil)) (.tuple [.int p.1, .int p.2]) (envJ s a b R u v) _ = _
    rw [tpair (ρ := envJ s a b R u v) (u := u) (v := v) rfl rfl hu hv]
    exact join_body _ (by omega)
theorem joined_stays_ok' {s : List (Int × Int)} (h : Ok s) {a b : Int} (h0 : 0 ≤ a) (hab : a ≤ b) (hb : b ≤ 100000) (hj : (joined s a b).length ≤ 200) : F_joined_stays [.sh (st s), .sh (.int a), .sh (.int b)] = some (.ret (.ow (st (joined s a b))) [none, none, none]) := by
  have hS : (s ++ [(a, b)]).length ≤ sizeLim := by
    rw [List.length_append, List.length_singleton]
    have := h.len
    exact Nat.le_trans (show s.length + 1 ≤ 201 by omega) (by decide)
  show opt (F_are_stays [.sh (st s)]) _ = _
  rw [are_stays_ok h]
  show opt (F_is_day_papers [.sh (.int a)]) _ = _
  rw [is_day_ok (by omega)]
  show opt (F_is_day_papers [.sh (.int b)]) _ = _
  rw [is_day_ok (by omega)]
  refine Eq.trans (b := opt (F_check [.sh (.bool (decide (a ≤ b)))]) _) rfl ?_
  rw [decide_eq_true hab, check_true]
  have e1 : Ev (envJ s a b [] none none) (eLst (aStar (eVar 0) (aCons (eTup (aCons (eVar 1) (aCons (eVar 2) aNil))) aNil))) (.ow (st (s ++ [(a, b)]))) := by
    refine .lst ?_ (by rw [List.length_map]; exact hS)
    have := EvA.star (ρ := envJ s a b [] none none) (e := eVar 0) (.v rfl) rfl rfl (.cons (.tup (ds := [.int a, .int b]) (.cons (.v (i := 1) rfl) (.cons (.v (i := 2) rfl) .nil)) (fun _ => rfl) (Nat.le_of_ble_eq_true rfl)) .nil)
    rw [List.map_append, List.map_append]
    exact this
  have e2 : Ev (envJ s a b [] none none) (eFn sortedD (aCons (eLst (aStar (eVar 0) (aCons (eTup (aCons (eVar 1) (aCons (eVar 2) aNil))) aNil))) aNil)) (.ow (st (sort2 (s ++ [(a, b)])))) := .fn (.cons e1 .nil) rfl (sortedD_st _ hS)
  refine Eq.trans (b := sFor (iSeq (eFn sortedD (aCons (eLst (aStar (eVar 0) (aCons (eTup (aCons (eVar 1) (aCons (eVar 2) aNil))) aNil))) aNil))) (tSeq (tsCons (tName 4) (tsCons (tName 5) tsNil))) bodyJ (envJ s a b [] none none) { topC 3 with nx := fun ρ => sSeq (sIf (cCmp gtD (eFn lenD (aCons (eVar 3) aNil)) (eC (.int 200))) sNo sNil) (sRet (eVar 3)) ρ (topC 3) }) rfl ?_
  unfold sFor
  rw [it_seq e2 (fun _ => rfl) rfl]
  refine Exists.elim (join_loop (s := s) (a := a) (b := b) _ (sort2 (s ++ [(a, b)])) [] none none trivial trivial (by rw [List.length_nil, Nat.zero_add, (sort2_perm _).length_eq]; exact hS)) fun u' h1 => Exists.elim h1 fun v' e => e.trans ?_
  refine (if_neg (c := decide ((200 : Int) < (((joined s a b).map enc).length : Nat)) = true) (by rw [decide_eq_true_eq, List.length_map]; omega)).trans ?_
  rfl
theorem joined_stays_ok {s : List (Int × Int)} (h : Ok s) (hl : s.length < 200) {a b : Int} (h0 : 0 ≤ a) (hab : a ≤ b) (hb : b ≤ 100000) : F_joined_stays [.sh (st s), .sh (.int a), .sh (.int b)] = some (.ret (.ow (st (joined s a b))) [none, none, none]) :=
  joined_stays_ok' h h0 hab hb (joined_ok h hl h0 hab hb).len
end DL.k43
set_option maxRecDepth 100000
set_option maxHeartbeats 4000000
/-! k43: _law_is_over_due, the loops. -/
namespace DL.k43
open PySem
abbrev envV (s : List (Int × Int)) (m w : Int) (u2 u3 u4 u5 u6 u7 u8 u9 u10 u11 u12 u13 : Option EV) : Env := [some (.sh (st s)), some (.sh (ru m w)), u2, u3, u4, u5, u6, u7, u8, u9, u10, u11, u12, u13]
theorem add_ints {L M : List Int} (hz : L.length + M.length ≤ sizeLim) : addD (dr L) (dr M) = some (.ow (dr (L ++ M))) := by
  show (if (L.map PyData.int).length + (M.map PyData.int).length ≤ sizeLim then some (RV.ow (.list (L.map PyData.int ++ M.map PyData.int))) else none) = _
  rw [List.length_map, List.length_map, if_pos hz, ← List.map_append]
theorem Lo.weak {u : Option EV} (h : Lo u) : Lo' u := by rcases h with rfl | ⟨d, rfl⟩ <;> trivial
theorem flat_loop {t : DT} {body : DS} {C : Conts} (E : D → Option EV → Option EV → Env)
    (ht : ∀ d u v d1 d2 k, Lo u → Lo v → t (.tuple [d1, d2]) (E d u v) k = k (E d (some (.sh d1)) (some (.sh d2))))
    (hb : ∀ (L : List Int) (a b : Int) (C : Conts), -1000000 ≤ a → b ≤ 1000000 → a ≤ b → L.length + (rg a (b + 1)).length ≤ sizeLim → body (E (dr L) (some (.sh (.int a))) (some (.sh (.int b)))) C = C.nx (E (dr (L ++ rg a (b + 1))) (some (.sh (.int a))) (some (.sh (.int b))))) :
    ∀ (M : List (Int × Int)) (L : List Int) (u v : Option EV), Lo u → Lo v → (∀ p ∈ M, -1000000 ≤ p.1 ∧ p.1 ≤ p.2 ∧ p.2 ≤ 1000000) → L.length + (days M).length ≤ sizeLim →
    ∃ u' v', Lo u' ∧ Lo v' ∧ loop t body C (M.map enc) (E (dr L) u v) = C.nx (E (dr (L ++ days M)) u' v')
  | [], L, u, v, hu, hv, _, _ => ⟨u, v, hu, hv, by rw [show days [] = [] from rfl, List.append_nil]; rfl⟩
  | p :: M, L, u, v, hu, hv, hp, hz => by
    rw [show days (p :: M) = rg p.1 (p.2 + 1) ++ days M from rfl, List.length_append] at hz
    obtain ⟨u', v', hu', hv', ih⟩ := flat_loop (t := t) (body := body) (C := C) E ht hb M (L ++ rg p.1 (p.2 + 1)) (some (.sh (.int p.1))) (some (.sh (.int p.2))) (.inr ⟨_, rfl⟩) (.inr ⟨_, rfl⟩) (fun q hq => hp q (List.mem_cons_of_mem _ hq)) (by rw [List.length_append]; omega)
    refine ⟨u', v', hu', hv', ?_⟩
    have h := hp p List.mem_cons_self
    rw [show days (p :: M) = rg p.1 (p.2 + 1) ++ days M from rfl, ← List.append_assoc, ← ih]
    show t (.tuple [.int p.1, .int p.2]) (E (dr L) u v) _ = _
    rw [ht _ _ _ _ _ _ hu hv, hb _ _ _ _ h.1 h.2.2 h.2.1 (by omega)]
theorem flat_ev {ρ : Env} {l i j : Nat} {L : List Int} {a b : Int} (hl : slot ρ l = some (.ow (dr L))) (hi : slot ρ i = some (.sh (.int a))) (hj : slot ρ j = some (.sh (.int b))) (h0 : -1000000 ≤ a) (h1 : b ≤ 1000000) (h2 : a ≤ b) (hz : L.length + (rg a (b + 1)).length ≤ sizeLim) :
    Ev ρ (eOp addD (eVar l) (eListR (bound ranged2) (aCons (eVar i) (aCons (eOp addD (eVar j) (eC (.int 1))) aNil)))) (.ow (dr (L ++ rg a (b + 1)))) := by
  have e1 : Ev ρ (eListR (bound ranged2) (aCons (eVar i) (aCons (eOp addD (eVar j) (eC (.int 1))) aNil))) (.ow (dr (rg a (b + 1)))) :=
    .listR (ds := [.int a, .int (b + 1)]) (.cons (.v hi) (.cons (.op (.v hj) .c (pk_vr hj) rfl rfl) .nil)) (peeks_cons (pk_vr hi) (peeks_cons rfl rfl)) (bound2_ok (by omega) (by omega) (by omega) (by omega) (by omega))
  exact .op (.v hl) e1 (pk_vr hl) rfl (add_ints hz)
abbrev bodyF (l i j : Nat) : DS := sSet l (eOp addD (eVar l) (eListR (bound ranged2) (aCons (eVar i) (aCons (eOp addD (eVar j) (eC (.int 1))) aNil))))
theorem for_days {s : List (Int × Int)} {m w : Int} (h : Ok s) (hz : (days s).length ≤ 16000000) {u2 u3 u4 u5 u7 u8 u9 u10 u11 u12 u13 : Option EV} (h9 : Lo u9) (h10 : Lo u10) (C : Conts) :
    ∃ u9' u10', Lo u9' ∧ Lo u10' ∧ sFor (iSeq (eVar 0)) (tSeq (tsCons (tName 9) (tsCons (tName 10) tsNil))) (bodyF 6 9 10) (envV s m w u2 u3 u4 u5 (some (.ow (dr []))) u7 u8 u9 u10 u11 u12 u13) C = C.nx (envV s m w u2 u3 u4 u5 (some (.ow (dr (days s)))) u7 u8 u9' u10' u11 u12 u13) := by
  obtain ⟨u', v', hu', hv', e⟩ := flat_loop (t := tSeq (tsCons (tName 9) (tsCons (tName 10) tsNil))) (body := bodyF 6 9 10) (C := C) (fun d u v => envV s m w u2 u3 u4 u5 (some (.ow d)) u7 u8 u v u11 u12 u13) (fun d u v d1 d2 k hu hv => tpair (u := u) (v := v) rfl rfl hu.weak hv.weak) (fun L a b C h0 h1 h2 hz => sset_ow (u := some (.ow (dr L))) rfl trivial (flat_ev rfl rfl rfl h0 h1 h2 hz)) s [] u9 u10 h9 h10 (fun p hp => by have := h.day p hp; omega) (by rw [List.length_nil, Nat.zero_add]; exact Nat.le_trans hz (by decide))
  refine ⟨u', v', hu', hv', ?_⟩
  unfold sFor
  rw [it_seq (p := st s) (.v rfl) (fun _ => rfl) rfl, e]
  rfl
theorem for_flat {s R : List (Int × Int)} {m w : Int} (h : ∀ p ∈ R, -1000000 ≤ p.1 ∧ p.1 ≤ p.2 ∧ p.2 ≤ 1000000) (hz : (days R).length ≤ 16000000) {u2 u3 u6 u7 u8 u9 u10 u11 u12 u13 : Option EV} (h11 : Lo u11) (h12 : Lo u12) (C : Conts) :
    ∃ u11' u12', Lo u11' ∧ Lo u12' ∧ sFor (iSeq (eVar 4)) (tSeq (tsCons (tName 11) (tsCons (tName 12) tsNil))) (bodyF 5 11 12) (envV s m w u2 u3 (some (.ow (st R))) (some (.ow (dr []))) u6 u7 u8 u9 u10 u11 u12 u13) C = C.nx (envV s m w u2 u3 (some (.sh (st R))) (some (.ow (dr (days R)))) u6 u7 u8 u9 u10 u11' u12' u13) := by
  obtain ⟨u', v', hu', hv', e⟩ := flat_loop (t := tSeq (tsCons (tName 11) (tsCons (tName 12) tsNil))) (body := bodyF 5 11 12) (C := C) (fun d u v => envV s m w u2 u3 (some (.sh (st R))) (some (.ow d)) u6 u7 u8 u9 u10 u v u13) (fun d u v d1 d2 k hu hv => tpair (u := u) (v := v) rfl rfl hu.weak hv.weak) (fun L a b C h0 h1 h2 hz => sset_ow (u := some (.ow (dr L))) rfl trivial (flat_ev rfl rfl rfl h0 h1 h2 hz)) R [] u11 u12 h11 h12 h (by rw [List.length_nil, Nat.zero_add]; exact Nat.le_trans hz (by decide))
  refine ⟨u', v', hu', hv', ?_⟩
  refine Eq.trans (b := loop (tSeq (tsCons (tName 11) (tsCons (tName 12) tsNil))) (bodyF 5 11 12) C (R.map enc) (envV s m w u2 u3 (some (.sh (st R))) (some (.ow (dr []))) u6 u7 u8 u9 u10 u11 u12 u13)) rfl ?_
  rw [e]
  rfl
/-! the counting loop -/
noncomputable abbrev condW : DB := cCmp leD (eOp ixD (eVar 6) (eVar 7)) (eOp subD (eOp ixD (eVar 6) (eVar 3)) (eOp ixD (eVar 1) (eC (.int 1))))
noncomputable abbrev bodyC : DS := (sSeq (sWhile condW (sSet 7 (eOp addD (eVar 7) (eC (.int 1)))))
  (sSeq (sSet 2 (eFn maxD (aCons (eVar 2) (aCons (eOp addD (eOp subD (eVar 3) (eVar 7)) (eC (.int 1))) aNil))))
  (sIf (cCmp gtD (eOp addD (eOp subD (eVar 3) (eVar 7)) (eC (.int 1))) (eOp ixD (eVar 1) (eC (.int 0)))) (sExpr (eAppend 8 (eOp ixD (eVar 6) (eVar 3)))) sNil)))
abbrev envW (s : List (Int × Int)) (m w : Int) (L : List Int) (mo : Int) (k : Option EV) (f : Nat) (acc : List Int) (u9 u10 : Option EV) : Env := envV s m w (some (.sh (.int mo))) k none none (some (.ow (dr L))) (some (.sh (.int (f : Nat)))) (some (.ow (dr acc))) u9 u10 none none none
theorem over_while {s : List (Int × Int)} {m w : Int} {L : List Int} (hL : L.Pairwise (· < ·)) {acc : List Int} {mo : Int} {u9 u10 : Option EV} {i : Nat} {d : Int} (e : L[i]? = some d) (hw : 1 ≤ w) (C : Conts) {f : Nat} (hf : f ≤ upto L (d - w)) (hlen : L.length < 1000000000) :
    sWhile condW (sSet 7 (eOp addD (eVar 7) (eC (.int 1)))) (envW s m w L mo (some (.sh (.int (i : Nat)))) f acc u9 u10) C = C.nx (envW s m w L mo (some (.sh (.int (i : Nat)))) (upto L (d - w)) acc u9 u10) := by
  have hi : upto L (d - w) ≤ i := by
    have := (upto_at hL (d - w) i d e)
    omega
  have hil : i < L.length := (List.getElem?_eq_some_iff.mp e).1
  obtain ⟨f', p', b', e'⟩ := while_steps (C := C) (c := condW) (body := sSet 7 (eOp addD (eVar 7) (eC (.int 1)))) (fun f : Nat => envW s m w L mo (some (.sh (.int (i : Nat)))) f acc u9 u10) (fun f => f + 1) (fun f => decide (f < upto L (d - w))) (fun f => f ≤ upto L (d - w)) (fun f => upto L (d - w) - f)
    (fun g hg => ⟨fun hb => by have := of_decide_eq_true hb; omega, fun kn => by
      have hgl : g < L.length := by omega
      have eg : L[g]? = some L[g] := List.getElem?_eq_getElem hgl
      have hc := upto_at hL (d - w) g L[g] eg
      have ec : EvT (envW s m w L mo (some (.sh (.int (i : Nat)))) g acc u9 u10) condW (decide (L[g] ≤ d - w)) :=
        .cmp (.op (.v rfl) (.v rfl) rfl rfl (ix_int eg)) (.op (.op (.v rfl) (.v rfl) rfl rfl (ix_int e)) (.op (.v rfl) .c rfl rfl rfl) rfl rfl rfl) rfl rfl rfl
      rw [ec]
      by_cases hb : g < upto L (d - w)
      · rw [if_pos (decide_eq_true (hc.mpr hb)), if_pos (decide_eq_true hb)]
        rfl
      · rw [if_neg (by rw [decide_eq_true_eq]; exact fun z => hb (hc.mp z)), if_neg (by rw [decide_eq_true_eq]; exact hb)]⟩) fuel f hf (by
      have : (1000000000 : Nat) < fuel := by rw [fuel_eq]; decide
      omega)
  have hb := of_decide_eq_false b'
  have : f' = upto L (d - w) := by omega
  subst this
  exact e'
theorem most_snoc (a : Int) : ∀ (L : List Int) (x : Int), most a (L ++ [x]) = if most a L < x then x else most a L
  | [], x => rfl
  | y :: L, x => by
    show most _ (L ++ [x]) = _
    rw [most_snoc]
    rfl
theorem count_loop {s : List (Int × Int)} {m w : Int} {L : List Int} (hL : L.Pairwise (· < ·)) (hw : 1 ≤ w) (hlen : L.length ≤ 16000000) {u9 u10 : Option EV} (C : Conts) : ∀ (M : List (Nat × Int)) (K : List Int) (f : Nat) (k : Option EV), Lo k → (∀ q ∈ M, L[q.1]? = some q.2) → M.Pairwise (fun p q => p.2 < q.2) → (∀ q ∈ M, f ≤ upto L (q.2 - w)) → K.length + M.length ≤ 16000000 →
    ∃ f' k', Lo k' ∧ loop (tName 3) bodyC C (M.map fun q => .int (q.1 : Nat)) (envW s m w L (most 0 (K.map fun d => cw L w d)) k f (K.filter fun d => decide (m < cw L w d)) u9 u10) = C.nx (envW s m w L (most 0 ((K ++ M.map (·.2)).map fun d => cw L w d)) k' f' ((K ++ M.map (·.2)).filter fun d => decide (m < cw L w d)) u9 u10)
  | [], K, f, k, hk, _, _, _, _ => ⟨f, k, hk, by simp; rfl⟩
  | q :: M, K, f, k, hk, hM, hs, hf, hz => by
    have e := hM q List.mem_cons_self
    have hs2 := List.pairwise_cons.mp hs
    rw [List.length_cons] at hz
    obtain ⟨f', k', hk', ih⟩ := count_loop (s := s) (m := m) hL hw hlen (u9 := u9) (u10 := u10) C M (K ++ [q.2]) (upto L (q.2 - w)) (some (.sh (.int (q.1 : Nat)))) (.inr ⟨_, rfl⟩) (fun r hr => hM r (List.mem_cons_of_mem _ hr)) hs2.2 (fun r hr => upto_mono (by have := hs2.1 r hr; omega)) (by rw [List.length_append, List.length_singleton]; omega)
    refine ⟨f', k', hk', ?_⟩
    rw [show K ++ (q :: M).map (fun x : Nat × Int => x.2) = K ++ [q.2] ++ M.map (fun x : Nat × Int => x.2) from by simp, ← ih]
    show tName 3 (.int (q.1 : Nat)) (envW s m w L _ k f _ u9 u10) _ = _
    rw [tone (u := k) rfl hk.weak]
    refine Eq.trans (b := bodyC (envW s m w L (most 0 (K.map fun d => cw L w d)) (some (.sh (.int (q.1 : Nat)))) f (K.filter fun d => decide (m < cw L w d)) u9 u10) _) rfl ?_
    unfold bodyC
    rw [seq_eq, over_while hL e hw _ (hf q List.mem_cons_self) (by omega)]
    dsimp only
    have hv : ((q.1 : Nat) : Int) - (upto L (q.2 - w) : Nat) + 1 = cw L w q.2 := by
      unfold cw
      rw [upto_self hL e]
      omega
    have em : Ev (envW s m w L (most 0 (K.map fun d => cw L w d)) (some (.sh (.int (q.1 : Nat)))) (upto L (q.2 - w)) (K.filter fun d => decide (m < cw L w d)) u9 u10) (eFn maxD (aCons (eVar 2) (aCons (eOp addD (eOp subD (eVar 3) (eVar 7)) (eC (.int 1))) aNil))) (.sh (.int (most 0 ((K ++ [q.2]).map fun d => cw L w d)))) := by
      refine .fn (.cons (.v rfl) (.cons (.op (.op (.v rfl) (.v rfl) rfl rfl rfl) .c rfl rfl rfl) .nil)) rfl ?_
      rw [List.map_append, List.map_singleton, most_snoc, ← hv]
      rfl
    rw [seq_eq, sset_sh (u := some (.sh (.int (most 0 (K.map fun d => cw L w d))))) rfl trivial em]
    generalize most 0 ((K ++ [q.2]).map fun d => cw L w d) = mo
    dsimp only
    rw [show (envW s m w L (most 0 (K.map fun d => cw L w d)) (some (.sh (.int (q.1 : Nat)))) (upto L (q.2 - w)) (K.filter fun d => decide (m < cw L w d)) u9 u10).set 2 (some (.sh (.int mo))) = envW s m w L mo (some (.sh (.int (q.1 : Nat)))) (upto L (q.2 - w)) (K.filter fun d => decide (m < cw L w d)) u9 u10 from rfl]
    have ec : EvT (envW s m w L mo (some (.sh (.int (q.1 : Nat)))) (upto L (q.2 - w)) (K.filter fun d => decide (m < cw L w d)) u9 u10) (cCmp gtD (eOp addD (eOp subD (eVar 3) (eVar 7)) (eC (.int 1))) (eOp ixD (eVar 1) (eC (.int 0)))) (decide (m < cw L w q.2)) := by
      rw [← hv]
      exact .cmp (.op (.op (.v rfl) (.v rfl) rfl rfl rfl) .c rfl rfl rfl) (.op (.v rfl) .c rfl rfl rfl) rfl rfl rfl
    rw [if_eq ec, List.filter_append]
    by_cases hb : m < cw L w q.2
    · rw [if_pos (decide_eq_true hb), List.filter_cons_of_pos (by rw [decide_eq_true_eq]; exact hb), List.filter_nil]
      have hz2 : (K.filter fun d => decide (m < cw L w d)).length < sizeLim := by
        have := List.length_filter_le (fun d => decide (m < cw L w d)) K
        have : (16000001 : Nat) ≤ sizeLim := by decide
        omega
      rw [app_ok (acc := K.filter fun d => decide (m < cw L w d)) (y := q.2) rfl (.op (.v rfl) (.v rfl) rfl rfl (ix_int e)) hz2]
      rfl
    · rw [if_neg (by rw [decide_eq_true_eq]; exact hb), List.filter_cons_of_neg (by rw [decide_eq_true_eq]; exact hb), List.filter_nil, List.append_nil]
      rfl
theorem rg_idx (L : List Int) : (rg 0 (L.length : Nat)).map PyData.int = (L.mapIdx fun i x => (i, x)).map fun q => PyData.int (q.1 : Nat) := by
  refine List.ext_getElem? fun i => ?_
  unfold rg
  rw [show ((L.length : Nat) - (0 : Int)).toNat = L.length from by omega, List.getElem?_map, List.getElem?_map, List.getElem?_map, List.getElem?_mapIdx]
  by_cases hi : i < L.length
  · rw [List.getElem?_range hi, List.getElem?_eq_getElem hi]
    show some (PyData.int (0 + (i : Nat))) = some (PyData.int (i : Nat))
    rw [Int.zero_add]
  · rw [List.getElem?_eq_none (by rw [List.length_range]; omega), List.getElem?_eq_none (by omega)]
    rfl
theorem ranged1_ok {n : Int} (h0 : -1000000000 ≤ n) (h1 : n ≤ 1000000000) : ranged1 [.int n] = some ((rg 0 n).map .int) := by
  show (if in62 n then some (rangeD 0 n) else none) = _
  rw [rangeD_rg, in62_ok h0 h1]
  rfl
theorem for_count {s : List (Int × Int)} {m w : Int} {L : List Int} (hL : L.Pairwise (· < ·)) (hw : 1 ≤ w) (hlen : L.length ≤ 16000000) {u9 u10 : Option EV} (C : Conts) :
    ∃ f' k', Lo k' ∧ sFor (iRange ranged1 (aCons (eFn lenD (aCons (eVar 6) aNil)) aNil)) (tName 3) bodyC (envW s m w L 0 none 0 [] u9 u10) C = C.nx (envW s m w L (most 0 (L.map fun d => cw L w d)) k' f' (over L m w) u9 u10) := by
  obtain ⟨f', k', hk', e⟩ := count_loop (s := s) (m := m) hL hw hlen (u9 := u9) (u10 := u10) C (L.mapIdx fun i x => (i, x)) [] 0 none (.inl rfl) (fun q hq => idx_mem hq) (idx_pair hL) (fun q _ => Nat.zero_le _) (by rw [List.length_mapIdx, List.length_nil, Nat.zero_add]; exact hlen)
  refine ⟨f', k', hk', ?_⟩
  unfold sFor
  rw [it_range1 (i := (L.length : Nat)) (.fn (.cons (.v rfl) .nil) rfl (by show some (RV.sh (.int ((L.map PyData.int).length : Nat))) = _; rw [List.length_map])) rfl (ranged1_ok (by omega) (by omega)), rg_idx]
  rw [List.nil_append, show (L.mapIdx fun i x => (i, x)).map (fun q : Nat × Int => q.2) = L from by have := mapIdx_snd (fun d => d) L; rw [List.map_id'] at this; exact this] at e
  exact e
end DL.k43
set_option maxRecDepth 100000
set_option maxHeartbeats 4000000
/-! k43: _law_is_over_due. -/
namespace DL
open PySem
theorem Ev.slTo {ρ : Env} {a e : DE} {x y r : RV} {d : D} {n : Int} (ha : Ev ρ a x) (he : Ev ρ e y) (hy : peek ρ y.w = some (.int n)) (hx : peek ρ x.w = some d) (hr : sliceD d none (some n) = some r) : Ev ρ (eSl a pNo (pAt e)) r := fun k h => by
  unfold eSl pNo pAt
  rw [ha]
  dsimp only
  rw [he]
  rw [hy]
  dsimp only
  rw [hx, opt_some' rfl, hr]
  rfl
end DL
namespace DL.k43
open PySem
theorem lay_ints : ∀ L : List Int, PyData.canLayAll0 (L.map .int) = true
  | [] => by simp [PyData.canLayAll0]
  | p :: s => by rw [List.map_cons, PyData.canLayAll0, lay_ints s]; simp [PyData.canLay0]
theorem shaped_dr (L : List Int) : SeqAt.shaped (dr L) = true := by
  have h := W.depth_ints L
  unfold SeqAt.shaped
  rw [PyData.canLay0, PyData.depth, lay_ints L, decide_eq_true (by omega)]
  rfl
theorem eqv_dr : ∀ s t : List Int, PyData.eqvAll (s.map .int) (t.map .int) = decide (s = t)
  | [], [] => by simp [PyData.eqvAll]
  | [], q :: t => by simp [PyData.eqvAll]
  | p :: s, [] => by simp [PyData.eqvAll]
  | p :: s, q :: t => by
    rw [List.map_cons, List.map_cons, PyData.eqvAll, eqv_dr s t, eqv_int]
    by_cases h1 : p = q
    · by_cases h2 : s = t
      · rw [decide_eq_true h1, decide_eq_true h2, decide_eq_true (by rw [h1, h2])]; rfl
      · rw [decide_eq_false h2, decide_eq_false (fun e => h2 (List.cons.inj e).2), Bool.and_false]
    · rw [decide_eq_false h1, decide_eq_false (fun e => h1 (List.cons.inj e).1), Bool.false_and]
theorem eqD_dr (s t : List Int) : eqD (dr s) (dr t) = some (decide (s = t)) := by
  unfold eqD
  rw [shaped_dr, shaped_dr, PyData.eqv, eqv_dr]
  rfl
theorem neD_dr (s t : List Int) : neD (dr s) (dr t) = some (!decide (s = t)) := by
  unfold neD
  rw [shaped_dr, shaped_dr, PyData.eqv, eqv_dr]
  rfl
theorem neD_int (a b : Int) : neD (.int a) (.int b) = some (!decide (a = b)) := by
  have : neD (.int a) (.int b) = some (!PyData.eqv (.int a) (.int b)) := rfl
  rw [this, eqv_int]
theorem ix_st {R : List (Int × Int)} {i : Nat} {p : Int × Int} (e : R[i]? = some p) : ixD (st R) (.int (i : Nat)) = some (.sh (enc p)) := by
  show (idx (R.map enc) (i : Nat)).map RV.sh = _
  unfold idx
  rw [if_pos (by omega), Int.toNat_natCast, List.getElem?_map, e]
  rfl
theorem days_len_le {s : List (Int × Int)} (h : ∀ p ∈ s, p.2 ≤ p.1 + 60) : (days s).length ≤ 61 * s.length := by
  induction s with
  | nil => exact Nat.le_refl _
  | cons p s ih =>
    have hp := h p List.mem_cons_self
    have := ih fun q hq => h q (List.mem_cons_of_mem _ hq)
    rw [show days (p :: s) = rg p.1 (p.2 + 1) ++ days s from rfl, List.length_append, rg_len, List.length_cons]
    omega
theorem Lst.small {s : List (Int × Int)} (h : Lst s) : (days s).length ≤ 12200 := by
  have := days_len_le h.sp
  have := h.len
  omega
theorem runs_nil {L : List Int} (h : L.Pairwise (· < ·)) : runs L = [] ↔ L = [] := by
  constructor
  · intro e
    have := (runs_good h).flat
    rw [e] at this
    exact this.symm
  · rintro rfl
    rfl
theorem cut_to (R : List (Int × Int)) : cut (R.map enc) none (some 5) = (R.take 5).map enc := by
  unfold cut cutIx
  rw [List.length_map]
  simp only [List.drop_zero, Nat.sub_zero]
  rw [if_neg (by decide), ← List.map_take, show Int.toNat 5 = 5 from rfl]
  congr 1
  by_cases h : 5 ≤ R.length
  · rw [Nat.min_eq_left h]
  · rw [Nat.min_eq_right (by omega), List.take_of_length_le (by omega), List.take_of_length_le (by omega)]
/-- no two rows touch -/
theorem gaps_none {ρ ρ0 : Env} {t k : Nat} {R : List (Int × Int)} {ee : EV} (ht : ∀ d, slot (ρ0.set k (some (.sh (.int d)))) t = some ee) (hee : ee.d = st R) (hlen : Ev ρ (eOp subD (eFn lenD (aCons (eVar t) aNil)) (eC (.int 1))) (.sh (.int ((R.length : Nat) - 1))))
    (hl : R.length ≤ 1000000) (hb : bare ρ [k] = true) (hw : wipe ρ [k] = ρ0) (hk : back ρ ρ0 [k] = ρ) (hput : ∀ (d : D) (K : Env → Res), put ρ0 k (.sh d) K = K (ρ0.set k (some (.sh d)))) (hs : ∀ d, slot (ρ0.set k (some (.sh d))) k = some (.sh d)) (hb' : ∀ d, bare (ρ0.set k (some (.sh d))) [k] = true) (hw' : ∀ d, wipe (ρ0.set k (some (.sh d))) [k] = ρ0)
    (hg : R.Pairwise fun p q => p.2 + 1 < q.1) :
    Ev ρ (eLC [k] (iRange ranged1 (aCons (eOp subD (eFn lenD (aCons (eVar t) aNil)) (eC (.int 1))) aNil)) (tName k) (cCmp geD (eOp addD (eOp ixD (eOp ixD (eVar t) (eVar k)) (eC (.int 1))) (eC (.int 1))) (eOp ixD (eOp ixD (eVar t) (eOp addD (eVar k) (eC (.int 1)))) (eC (.int 0)))) (eVar k)) (.ow (.list [])) := by
  have h := Ev.lc (ρ := ρ) (ρ0 := ρ0) (vs := [k]) (enc := PyData.int) (l := rg 0 ((R.length : Nat) - 1)) (it := iRange ranged1 (aCons (eOp subD (eFn lenD (aCons (eVar t) aNil)) (eC (.int 1))) aNil)) (tt := tName k) (c := cCmp geD (eOp addD (eOp ixD (eOp ixD (eVar t) (eVar k)) (eC (.int 1))) (eC (.int 1))) (eOp ixD (eOp ixD (eVar t) (eOp addD (eVar k) (eC (.int 1)))) (eC (.int 0)))) (e := eVar k) (fun _ => false) PyData.int (fun i => ρ0.set k (some (.sh (.int i))))
    (it_range1 hlen rfl (ranged1_ok (by omega) (by omega))) hb hw hk (by rw [rg_len]; exact Nat.le_trans (show _ ≤ 1000000 by omega) (by decide)) fun i hi => ⟨hb' _, hw' _, fun kt kf => ?_⟩
  · rw [List.filter_eq_nil_iff.mpr (fun _ _ => Bool.false_ne_true)] at h
    exact h
  · have hi := mem_rg.mp hi
    have e1 : R[i.toNat]? = some (R[i.toNat]'(by omega)) := List.getElem?_eq_getElem _
    have e2 : R[(i + 1).toNat]? = some (R[(i + 1).toNat]'(by omega)) := List.getElem?_eq_getElem _
    have hgap := List.pairwise_iff_getElem.mp hg i.toNat (i + 1).toNat (by omega) (by omega) (by omega)
    have x1 := ix_st e1
    have x2 := ix_st e2
    rw [show ((i.toNat : Nat) : Int) = i from by omega] at x1
    rw [show (((i + 1).toNat : Nat) : Int) = i + 1 from by omega] at x2
    have pt : peek (ρ0.set k (some (.sh (.int i)))) (.vr t) = some (st R) := by rw [pk_vr (ht i), hee]
    have pk : peek (ρ0.set k (some (.sh (.int i)))) (.vr k) = some (.int i) := pk_vr (hs _)
    have ec : EvT (ρ0.set k (some (.sh (.int i)))) (cCmp geD (eOp addD (eOp ixD (eOp ixD (eVar t) (eVar k)) (eC (.int 1))) (eC (.int 1))) (eOp ixD (eOp ixD (eVar t) (eOp addD (eVar k) (eC (.int 1)))) (eC (.int 0)))) (decide ((R[(i + 1).toNat]'(by omega)).1 ≤ (R[i.toNat]'(by omega)).2 + 1)) :=
      .cmp (.op (.op (.op (.v (ht i)) (.v (hs _)) pt pk x1) .c rfl rfl rfl) .c rfl rfl rfl) (.op (.op (.v (ht i)) (.op (.v (hs _)) .c pk rfl rfl) pt rfl x2) .c rfl rfl rfl) rfl rfl rfl
    show put ρ0 k (.sh (.int i)) _ = _
    rw [hput, ec, decide_eq_false (by omega)]
    rfl
theorem lenD_st (R : List (Int × Int)) : lenD [st R] = some (.sh (.int (R.length : Nat))) := by
  show some (RV.sh (.int ((R.map enc).length : Nat))) = _
  rw [List.length_map]
noncomputable abbrev cond1 : DB := (cOr (cCmp neD (eVar 5) (eVar 8)) (cOr (cCmp neD (eLC [3] (iRange ranged1 (aCons (eOp subD (eFn lenD (aCons (eVar 4) aNil)) (eC (.int 1))) aNil)) (tName 3) (cCmp geD (eOp addD (eOp ixD (eOp ixD (eVar 4) (eVar 3)) (eC (.int 1))) (eC (.int 1))) (eOp ixD (eOp ixD (eVar 4) (eOp addD (eVar 3) (eC (.int 1)))) (eC (.int 0)))) (eVar 3)) (eLst aNil)) (cCmp neD (eCall F_most_used [false, false] (aCons (eVar 0) (aCons (eVar 1) aNil))) (eVar 2))))
abbrev envX (s : List (Int × Int)) (m w mo : Int) (k : Option EV) (R : List (Int × Int)) (O : List Int) (f : Int) (L : List Int) (u9 u10 u11 u12 : Option EV) : Env := envV s m w (some (.sh (.int mo))) k (some (.sh (st R))) (some (.ow (dr O))) (some (.ow (dr L))) (some (.sh (.int f))) (some (.ow (dr O))) u9 u10 u11 u12 none
theorem t1_ok {s : List (Int × Int)} {m w mo : Int} {k : Option EV} {R : List (Int × Int)} {O : List Int} {f : Int} {L : List Int} {u9 u10 u11 u12 : Option EV} (hk : Lo k) (hl : R.length ≤ 1000000) (hg : R.Pairwise fun p q => p.2 + 1 < q.1)
    (emu : F_most_used [.sh (st s), .sh (ru m w)] = some (.ret (.sh (.int mo)) [none, none])) : EvT (envX s m w mo k R O f L u9 u10 u11 u12) cond1 false := by
  have e5 : EvT (envX s m w mo k R O f L u9 u10 u11 u12) (cCmp neD (eVar 5) (eVar 8)) (!decide (O = O)) := .cmp (.v rfl) (.v rfl) rfl rfl (neD_dr O O)
  rw [decide_eq_true rfl] at e5
  have e6 : EvT (envX s m w mo k R O f L u9 u10 u11 u12) (cCmp neD (eLC [3] (iRange ranged1 (aCons (eOp subD (eFn lenD (aCons (eVar 4) aNil)) (eC (.int 1))) aNil)) (tName 3) (cCmp geD (eOp addD (eOp ixD (eOp ixD (eVar 4) (eVar 3)) (eC (.int 1))) (eC (.int 1))) (eOp ixD (eOp ixD (eVar 4) (eOp addD (eVar 3) (eC (.int 1)))) (eC (.int 0)))) (eVar 3)) (eLst aNil)) false := by
    refine .cmp (x := .ow (.list [])) ?_ (.lstF (ds := []) .nil (fun _ => rfl) (Nat.zero_le _)) rfl rfl (neD_dr [] [])
    rcases hk with rfl | ⟨kd, rfl⟩
    · exact gaps_none (ρ0 := envX s m w mo none R O f L u9 u10 u11 u12) (R := R) (ee := .sh (st R)) (fun _ => rfl) rfl (.op (.fn (.cons (.v rfl) .nil) rfl (lenD_st R)) .c rfl rfl rfl) hl rfl rfl rfl (fun _ _ => rfl) (fun _ => rfl) (fun _ => rfl) (fun _ => rfl) hg
    · exact gaps_none (ρ0 := envX s m w mo none R O f L u9 u10 u11 u12) (R := R) (ee := .sh (st R)) (fun _ => rfl) rfl (.op (.fn (.cons (.v rfl) .nil) rfl (lenD_st R)) .c rfl rfl rfl) hl rfl rfl rfl (fun _ _ => rfl) (fun _ => rfl) (fun _ => rfl) (fun _ => rfl) hg
  have e7 : EvT (envX s m w mo k R O f L u9 u10 u11 u12) (cCmp neD (eCall F_most_used [false, false] (aCons (eVar 0) (aCons (eVar 1) aNil))) (eVar 2)) (!decide (mo = mo)) :=
    .cmp (.call (.cons (.v rfl) (.cons (.v rfl) .nil)) rfl rfl emu (.inl rfl) rfl) (.v rfl) rfl rfl (neD_int mo mo)
  rw [decide_eq_true rfl] at e7
  exact .or e5 fun _ => .or e6 fun _ => e7
noncomputable abbrev cond2 : DB := (cNot (cVal (eCall F_law_same [false, false] (aCons (eLst (aCons (eCall F_do_keep [false, false] (aCons (eVar 0) (aCons (eVar 1) aNil))) (aCons (eCall F_takes_over [false, false, false] (aCons (eVar 0) (aCons (eVar 1) (aCons (eFn listD (aCons (eVar 4) aNil)) aNil)))) (aCons (eCall F_takes_over [false, false, false] (aCons (eVar 0) (aCons (eVar 1) (aCons (eOp addD (eVar 4) (eLst (aCons (eTup (aCons (eC (.int 0)) (aCons (eC (.int 0)) aNil))) aNil))) aNil)))) aNil)))) (aCons (eLst (aCons (eB (cCmp eqD (eVar 8) (eLst aNil))) (aCons (eC (.bool true)) (aCons (eC (.bool false)) aNil)))) aNil)))))
theorem t2_ok {s : List (Int × Int)} {m w mo : Int} {k : Option EV} {R : List (Int × Int)} {O : List Int} {f : Int} {L : List Int} {u9 u10 u11 u12 : Option EV} {b : Bool} (hl : R.length ≤ 1000000) (hb : decide (O = []) = b)
    (edk : F_do_keep [.sh (st s), .sh (ru m w)] = some (.ret (.sh (.bool b)) [none, none]))
    (ek : F_takes_over [.sh (st s), .sh (ru m w), .sh (st R)] = some (.ret (.sh (.bool true)) [none, none, none]))
    (ek2 : F_takes_over [.sh (st s), .sh (ru m w), .sh (st (R ++ [(0, 0)]))] = some (.ret (.sh (.bool false)) [none, none, none])) : EvT (envX s m w mo k R O f L u9 u10 u11 u12) cond2 false := by
  have a1 : Ev (envX s m w mo k R O f L u9 u10 u11 u12) (eCall F_do_keep [false, false] (aCons (eVar 0) (aCons (eVar 1) aNil))) (.sh (.bool b)) := .call (.cons (.v rfl) (.cons (.v rfl) .nil)) rfl rfl edk (.inl rfl) rfl
  have a2 : Ev (envX s m w mo k R O f L u9 u10 u11 u12) (eCall F_takes_over [false, false, false] (aCons (eVar 0) (aCons (eVar 1) (aCons (eFn listD (aCons (eVar 4) aNil)) aNil)))) (.sh (.bool true)) := .call (.cons (.v rfl) (.cons (.v rfl) (.cons (.fn (.cons (.v rfl) .nil) rfl (r := .ow (st R)) rfl) .nil))) rfl rfl ek (.inl rfl) rfl
  have ad : addD (st R) (.list [.tuple [.int 0, .int 0]]) = some (.ow (st (R ++ [(0, 0)]))) := by
    show (if (R.map enc).length + 1 ≤ sizeLim then some (RV.ow (.list (R.map enc ++ [.tuple [.int 0, .int 0]]))) else none) = _
    rw [List.length_map, if_pos (Nat.le_trans (show R.length + 1 ≤ 1000001 by omega) (by decide))]
    show _ = some (RV.ow (PyData.list _))
    rw [List.map_append]
    rfl
  have a3 : Ev (envX s m w mo k R O f L u9 u10 u11 u12) (eCall F_takes_over [false, false, false] (aCons (eVar 0) (aCons (eVar 1) (aCons (eOp addD (eVar 4) (eLst (aCons (eTup (aCons (eC (.int 0)) (aCons (eC (.int 0)) aNil))) aNil))) aNil)))) (.sh (.bool false)) :=
    .call (.cons (.v rfl) (.cons (.v rfl) (.cons (.op (.v rfl) (.lstF (.cons (.tup (ds := [.int 0, .int 0]) (.cons .c (.cons .c .nil)) (fun _ => rfl) (Nat.le_of_ble_eq_true rfl)) .nil) (fun _ => rfl) (le_100 (Nat.le_of_ble_eq_true rfl))) rfl rfl ad) .nil))) rfl rfl ek2 (.inl rfl) rfl
  have a4 : Ev (envX s m w mo k R O f L u9 u10 u11 u12) (eLst (aCons (eCall F_do_keep [false, false] (aCons (eVar 0) (aCons (eVar 1) aNil))) (aCons (eCall F_takes_over [false, false, false] (aCons (eVar 0) (aCons (eVar 1) (aCons (eFn listD (aCons (eVar 4) aNil)) aNil)))) (aCons (eCall F_takes_over [false, false, false] (aCons (eVar 0) (aCons (eVar 1) (aCons (eOp addD (eVar 4) (eLst (aCons (eTup (aCons (eC (.int 0)) (aCons (eC (.int 0)) aNil))) aNil))) aNil)))) aNil)))) (.ow (.list [.bool b, .bool true, .bool false])) :=
    .lstF (.cons a1 (.cons a2 (.cons a3 .nil))) (fun _ => rfl) (le_100 (Nat.le_of_ble_eq_true rfl))
  have a5 : EvT (envX s m w mo k R O f L u9 u10 u11 u12) (cCmp eqD (eVar 8) (eLst aNil)) b := .cmp (.v rfl) (.lstF (ds := []) .nil (fun _ => rfl) (Nat.zero_le _)) rfl rfl (by rw [← hb]; exact eqD_dr O [])
  have a6 : Ev (envX s m w mo k R O f L u9 u10 u11 u12) (eLst (aCons (eB (cCmp eqD (eVar 8) (eLst aNil))) (aCons (eC (.bool true)) (aCons (eC (.bool false)) aNil)))) (.ow (.list [.bool b, .bool true, .bool false])) :=
    .lstF (.cons (.B a5) (.cons .c (.cons .c .nil))) (fun _ => rfl) (le_100 (Nat.le_of_ble_eq_true rfl))
  exact .not (.val (.call (.cons a4 (.cons a6 .nil)) rfl rfl (same_3 b) (.inl rfl) rfl) rfl)
noncomputable abbrev last3 : DE := (eB (cCmp eqD (eLC [13] (iSeq (eSl (eVar 4) pNo (pAt (eC (.int 5))))) (tName 13) (cCmp leD (eCall F_used_on [false, false, false] (aCons (eVar 0) (aCons (eVar 1) (aCons (eOp ixD (eVar 13) (eC (.int 0))) aNil)))) (eOp ixD (eVar 1) (eC (.int 0)))) (eVar 13)) (eLst aNil)))
theorem t3_ok {s : List (Int × Int)} {m w mo : Int} {k : Option EV} {R : List (Int × Int)} {O : List Int} {f : Int} {L : List Int} {u9 u10 u11 u12 : Option EV} (h : Ok s) (r : Ru m w) (hR : ∀ p ∈ R, 0 ≤ p.1 ∧ p.1 ≤ 100000 ∧ m < used s w p.1) : Ev (envX s m w mo k R O f L u9 u10 u11 u12) last3 (.sh (.bool true)) := by
  have e1 : Ev (envX s m w mo k R O f L u9 u10 u11 u12) (eSl (eVar 4) pNo (pAt (eC (.int 5)))) (.ow (st (R.take 5))) := .slTo (.v rfl) .c rfl rfl (by
    show some (RV.ow (.list (cut (R.map enc) none (some 5)))) = _
    rw [cut_to])
  have e2 : Ev (envX s m w mo k R O f L u9 u10 u11 u12) (eLC [13] (iSeq (eSl (eVar 4) pNo (pAt (eC (.int 5))))) (tName 13) (cCmp leD (eCall F_used_on [false, false, false] (aCons (eVar 0) (aCons (eVar 1) (aCons (eOp ixD (eVar 13) (eC (.int 0))) aNil)))) (eOp ixD (eVar 1) (eC (.int 0)))) (eVar 13)) (.ow (.list (((R.take 5).filter fun _ => false).map enc))) := by
    refine .lc (enc := enc) (l := R.take 5) (ρ0 := envX s m w mo k R O f L u9 u10 u11 u12) (fun _ => false) enc (fun p => (envX s m w mo k R O f L u9 u10 u11 u12).set 13 (some (.sh (enc p)))) (it_seq e1 (fun _ => rfl) rfl) rfl rfl rfl (le_100 (Nat.le_trans (List.length_take_le _ _) (by decide))) fun p hp => ⟨rfl, rfl, fun kt kf => ?_⟩
    obtain ⟨h1, h2, h3⟩ := hR p (List.mem_of_mem_take hp)
    have ec : EvT ((envX s m w mo k R O f L u9 u10 u11 u12).set 13 (some (.sh (enc p)))) (cCmp leD (eCall F_used_on [false, false, false] (aCons (eVar 0) (aCons (eVar 1) (aCons (eOp ixD (eVar 13) (eC (.int 0))) aNil)))) (eOp ixD (eVar 1) (eC (.int 0)))) (decide (used s w p.1 ≤ m)) :=
      .cmp (.call (.cons (.v rfl) (.cons (.v rfl) (.cons (.op (.v rfl) .c rfl rfl rfl) .nil))) rfl rfl (used_on_ok h r ⟨h1, h2⟩) (.inl rfl) rfl) (.op (.v rfl) .c rfl rfl rfl) rfl rfl rfl
    show cCmp leD (eCall F_used_on [false, false, false] (aCons (eVar 0) (aCons (eVar 1) (aCons (eOp ixD (eVar 13) (eC (.int 0))) aNil)))) (eOp ixD (eVar 1) (eC (.int 0))) ((envX s m w mo k R O f L u9 u10 u11 u12).set 13 (some (.sh (enc p)))) _ _ = _
    rw [ec, decide_eq_false (by omega)]
    rfl
  rw [List.filter_eq_nil_iff.mpr (fun _ _ => Bool.false_ne_true)] at e2
  exact .B (.cmp e2 (.lstF (ds := []) .nil (fun _ => rfl) (Nat.zero_le _)) rfl rfl (eqD_dr [] []))
theorem par_first {s : List (Int × Int)} {m w : Int} (C : Conts) : sPar [6, 7, 8] (kCons (eLst aNil) (kCons (eC (.int 0)) (kCons (eLst aNil) kNil))) (envV s m w none none none none none none none none none none none none) C = C.nx (envV s m w none none none none (some (.ow (dr []))) (some (.sh (.int 0))) (some (.ow (dr []))) none none none none none) := rfl
theorem over_due_ok {s : List (Int × Int)} (hs : Lst s) {m w : Int} (r : Ru m w) : F_law_is_over_due [.sh (st s), .sh (ru m w)] = some (.ret (.sh (.bool true)) [none, none]) := by
  have h := hs.ok
  have hz := hs.small
  have r1 := r.lo
  have r2 := r.mid
  have hL := days_sorted h.gap
  have hO := over_sorted hL m w
  have g := runs_good hO
  have hd : ∀ p ∈ s, p.1 ≤ p.2 := fun p hp => (h.day p hp).2.1
  have hov : ∀ x ∈ over (days s) m w, 0 ≤ x ∧ x ≤ 100000 ∧ m < used s w x := fun x hx => by
    have hx := List.mem_filter.mp hx
    obtain ⟨p, hp, h1, h2⟩ := mem_days.mp hx.1
    have := h.day p hp
    rw [used_cw hd (by omega)]
    exact ⟨by omega, by omega, of_decide_eq_true hx.2⟩
  have hR : ∀ p ∈ runs (over (days s) m w), -1000000 ≤ p.1 ∧ p.1 ≤ p.2 ∧ p.2 ≤ 1000000 := fun p hp => by
    have h1 := g.le p hp
    have i1 := hov p.1 (by rw [← g.flat]; exact mem_days.mpr ⟨p, hp, Int.le_refl _, h1⟩)
    have i2 := hov p.2 (by rw [← g.flat]; exact mem_days.mpr ⟨p, hp, h1, Int.le_refl _⟩)
    omega
  have hol : (over (days s) m w).length ≤ 12200 := Nat.le_trans (List.length_filter_le _ _) hz
  have hRl : (runs (over (days s) m w)).length ≤ 12200 := by
    have : ∀ T : List (Int × Int), (∀ p ∈ T, p.1 ≤ p.2) → T.length ≤ (days T).length := fun T => by
      induction T with
      | nil => intro _; exact Nat.le_refl _
      | cons p T ih =>
        intro hT
        have := ih fun q hq => hT q (List.mem_cons_of_mem _ hq)
        have := hT p List.mem_cons_self
        rw [show days (p :: T) = rg p.1 (p.2 + 1) ++ days T from rfl, List.length_append, rg_len, List.length_cons]
        omega
    have := this _ g.le
    rw [g.flat] at this
    omega
  unfold F_law_is_over_due G_law_is_over_due dDef
  rw [if_pos (Nat.le_of_ble_eq_true rfl)]
  show sSeq _ _ (envV s m w none none none none none none none none none none none none) (topC 2) = _
  rw [seq_eq]
  refine Eq.trans (par_first _) ?_
  dsimp only
  rw [seq_eq]
  refine Exists.elim (for_days (m := m) (w := w) h (by omega) (.inl rfl) (.inl rfl) _) fun u9 h1 => Exists.elim h1 fun u10 h2 => Eq.trans h2.2.2 ?_
  have h9 := h2.1
  have h10 := h2.2.1
  dsimp only
  rw [seq_eq, sset_sh (u := none) (p := .int 0) rfl trivial .c]
  dsimp only
  rw [seq_eq]
  refine Exists.elim (for_count (s := s) (m := m) (w := w) (u9 := u9) (u10 := u10) hL (by omega) (by omega) _) fun f h3 => Exists.elim h3 fun k h4 => Eq.trans h4.2 ?_
  have hk := h4.1
  clear h1 h2 h3 h4
  generalize hmo : most 0 ((days s).map fun d => cw (days s) w d) = mo
  dsimp only
  rw [seq_eq]
  have e4 : Ev (envV s m w (some (.sh (.int mo))) k none none (some (.ow (dr (days s)))) (some (.sh (.int (f : Nat)))) (some (.ow (dr (over (days s) m w)))) u9 u10 none none none) (eCall F_over_days [false, false] (aCons (eVar 0) (aCons (eVar 1) aNil))) (.ow (st (runs (over (days s) m w)))) :=
    .callO (.cons (.v rfl) (.cons (.v rfl) .nil)) rfl rfl (over_days_ok h r (by omega)) (.inl rfl) rfl
  rw [sset_ow (u := none) rfl trivial e4]
  dsimp only
  rw [seq_eq, sset_ow (u := none) (p := .list []) rfl trivial (.lstF .nil (fun _ => rfl) (Nat.zero_le _))]
  dsimp only
  rw [seq_eq]
  have ek := takes_over_ok h r (by omega) (runs (over (days s) m w))
  have ek2 := takes_over_ok h r (by omega) (runs (over (days s) m w) ++ [(0, 0)])
  have edk := do_keep_ok h r (by omega)
  have emu := most_used_ok h r (by omega)
  rw [hmo] at emu
  have hn := runs_nil hO
  generalize hRR : runs (over (days s) m w) = R at *
  generalize hOO : over (days s) m w = O at *
  refine Exists.elim (for_flat (s := s) (m := m) (w := w) hR (by rw [g.flat]; omega) (.inl rfl) (.inl rfl) _) fun u11 h1 => Exists.elim h1 fun u12 h2 => Eq.trans h2.2.2 ?_
  have h11 := h2.1
  have h12 := h2.2.1
  clear h1 h2
  rw [g.flat]
  dsimp only
  rw [seq_eq, if_eq (t1_ok (u9 := u9) (u10 := u10) (u11 := u11) (u12 := u12) (O := O) (f := f) (L := days s) hk (by omega) g.gap emu)]
  rw [decide_eq_true rfl] at ek
  rw [decide_eq_false (by intro e; have := congrArg List.length e; simp at this)] at ek2
  rw [if_neg Bool.false_ne_true]
  have hbb : decide (O = []) = decide (R = []) := decide_eq_decide.mpr hn.symm
  refine Eq.trans (b := sSeq (sIf cond2 (sRet (eC (.bool false))) sNil) (sRet last3) (envX s m w mo k R O (f : Nat) (days s) u9 u10 u11 u12) (topC 2)) rfl ?_
  rw [seq_eq, if_eq (t2_ok (by omega) hbb edk ek ek2), if_neg Bool.false_ne_true]
  refine Eq.trans (b := sRet last3 (envX s m w mo k R O (f : Nat) (days s) u9 u10 u11 u12) (topC 2)) rfl ?_
  rw [sret_sh (t3_ok h r fun p hp => ?_)]
  · rfl
  · have h1 := g.le p hp
    exact hov p.1 (by rw [← g.flat]; exact mem_days.mpr ⟨p, hp, Int.le_refl _, h1⟩)
end DL.k43
set_option maxRecDepth 100000
set_option maxHeartbeats 4000000
/-! k43: _law_is_behind_due, its parts. -/
namespace DL.k43
open PySem
abbrev envB (d : D) (s : List (Int × Int)) (m w : Int) (u3 u4 u5 u6 u7 u8 u9 u10 u11 u12 u13 : Option EV) : Env := [some (.io d), some (.sh (st s)), some (.sh (ru m w)), u3, u4, u5, u6, u7, u8, u9, u10, u11, u12, u13]
theorem box_B {s : List (Int × Int)} {m w : Int} {u3 u4 u5 u6 u7 u8 u9 u10 u11 u12 u13 : Option EV} : Box 0 (fun d => envB d s m w u3 u4 u5 u6 u7 u8 u9 u10 u11 u12 u13) := ⟨fun d => ⟨_, rfl⟩, fun _ => rfl, fun _ _ => rfl⟩
abbrev back_of (c : Int) (R : List (Int × Int)) : List (Int × Int) := R.filter fun p => decide (p.2 ≥ c)
theorem rows9 {d : D} {s R : List (Int × Int)} {m w c : Int} {u3 u4 u5 u6 u7 u8 u10 u12 : Option EV} (hz : R.length ≤ sizeLim) (k : KV) (h : KX) :
    eLC [13] (iSeq (eVar 11)) (tName 13) (cCmp geD (eOp ixD (eVar 13) (eC (.int 1))) (eVar 9)) (eVar 13) (envB d s m w u3 u4 u5 u6 u7 u8 (some (.sh (.int c))) u10 (some (.ow (st R))) u12 none) k h =
      k (.ow (st (back_of c R))) (envB d s m w u3 u4 u5 u6 u7 u8 (some (.sh (.int c))) u10 (some (.sh (st R))) u12 none) := by
  refine Eq.trans (b := lc [13] (tName 13) (cCmp geD (eOp ixD (eVar 13) (eC (.int 1))) (eVar 9)) (eVar 13) (fun ds ρ2 => k (.ow (.list ds)) (back (envB d s m w u3 u4 u5 u6 u7 u8 (some (.sh (.int c))) u10 (some (.sh (st R))) u12 none) ρ2 [13])) (R.map enc) (envB d s m w u3 u4 u5 u6 u7 u8 (some (.sh (.int c))) u10 (some (.sh (st R))) u12 none) []) rfl ?_
  rw [lc_all (enc := enc) (fun p => decide (p.2 ≥ c)) enc (fun p => envB d s m w u3 u4 u5 u6 u7 u8 (some (.sh (.int c))) u10 (some (.sh (st R))) u12 (some (.sh (enc p)))) R [] (by simpa using hz) fun p _ => ⟨rfl, rfl, fun kt kf => rfl⟩]
  rfl
theorem rows7 {d : D} {s R : List (Int × Int)} {m w c : Int} {u3 u4 u5 u6 u8 u9 u10 u12 : Option EV} (hz : R.length ≤ sizeLim) (k : KV) (h : KX) :
    eLC [13] (iSeq (eVar 11)) (tName 13) (cCmp geD (eOp ixD (eVar 13) (eC (.int 1))) (eVar 7)) (eVar 13) (envB d s m w u3 u4 u5 u6 (some (.sh (.int c))) u8 u9 u10 (some (.ow (st R))) u12 none) k h =
      k (.ow (st (back_of c R))) (envB d s m w u3 u4 u5 u6 (some (.sh (.int c))) u8 u9 u10 (some (.sh (st R))) u12 none) := by
  refine Eq.trans (b := lc [13] (tName 13) (cCmp geD (eOp ixD (eVar 13) (eC (.int 1))) (eVar 7)) (eVar 13) (fun ds ρ2 => k (.ow (.list ds)) (back (envB d s m w u3 u4 u5 u6 (some (.sh (.int c))) u8 u9 u10 (some (.sh (st R))) u12 none) ρ2 [13])) (R.map enc) (envB d s m w u3 u4 u5 u6 (some (.sh (.int c))) u8 u9 u10 (some (.sh (st R))) u12 none) []) rfl ?_
  rw [lc_all (enc := enc) (fun p => decide (p.2 ≥ c)) enc (fun p => envB d s m w u3 u4 u5 u6 (some (.sh (.int c))) u8 u9 u10 (some (.sh (st R))) u12 (some (.sh (enc p)))) R [] (by simpa using hz) fun p _ => ⟨rfl, rfl, fun kt kf => rfl⟩]
  rfl
theorem neD_bool (a b : Bool) : neD (.bool a) (.bool b) = some (!decide (a = b)) := by
  have : neD (.bool a) (.bool b) = some (!PyData.eqv (.bool a) (.bool b)) := rfl
  rw [this, PyData.eqv]
  cases a <;> cases b <;> rfl
/-- with one stay more -/
theorem more_days {s : List (Int × Int)} (hs : Lst s) {c n : Int} (hn : 1 ≤ n ∧ n ≤ 1000) : (days (s ++ [(c, c + n - 1)])).length ≤ 13200 := by
  rw [days_snoc, List.length_append, rg_len]
  have := hs.small
  omega
theorem more_ok {s : List (Int × Int)} (hs : Lst s) {c n : Int} (hc : lastOf s < c ∧ c ≤ 90000) (hn : 1 ≤ n ∧ n ≤ 1000) : Ok (s ++ [(c, c + n - 1)]) := by
  have hlo : -1 ≤ lastOf s := by
    rcases List.eq_nil_or_concat s with rfl | ⟨s', q, rfl⟩
    · exact Int.le_refl _
    · rw [List.concat_eq_append] at *
      have := hs.ok.day q (by simp)
      have hL : lastOf (s' ++ [q]) = q.2 := by unfold lastOf; rw [List.getLast?_concat]
      omega
  exact ok_snoc hs.ok hs.len hc.1 (by omega) (by omega) (by omega)
abbrev R1 (s : List (Int × Int)) (m w c n : Int) : List (Int × Int) := runs (over (days (s ++ [(c, c + n - 1)])) m w)
theorem R1_len {s : List (Int × Int)} (hs : Lst s) {m w c n : Int} (hc : lastOf s < c ∧ c ≤ 90000) (hn : 1 ≤ n ∧ n ≤ 1000) : (R1 s m w c n).length ≤ sizeLim := by
  have g := runs_good (over_sorted (days_sorted (more_ok hs hc hn).gap) m w)
  have : ∀ T : List (Int × Int), (∀ p ∈ T, p.1 ≤ p.2) → T.length ≤ (days T).length := fun T => by
    induction T with
    | nil => intro _; exact Nat.le_refl _
    | cons p T ih =>
      intro hT
      have := ih fun q hq => hT q (List.mem_cons_of_mem _ hq)
      have := hT p List.mem_cons_self
      rw [show days (p :: T) = rg p.1 (p.2 + 1) ++ days T from rfl, List.length_append, rg_len, List.length_cons]
      omega
  have h1 := this _ g.le
  rw [g.flat] at h1
  have h2 : (over (days (s ++ [(c, c + n - 1)])) m w).length ≤ (days (s ++ [(c, c + n - 1)])).length := List.length_filter_le _ _
  have h3 := more_days hs (c := c) hn
  exact Nat.le_trans (Nat.le_trans (Nat.le_trans h1 h2) h3) (by decide)
theorem R1_fits {s : List (Int × Int)} (hs : Lst s) {m w c n : Int} (r : Ru m w) (hc : lastOf s < c ∧ c ≤ 90000) (hn : 1 ≤ n ∧ n ≤ m) : decide (back_of c (R1 s m w c n) = []) = fitsFrom s m w n.toNat c := by
  have hd : ∀ p ∈ s, p.1 ≤ p.2 := fun p hp => (hs.ok.day p hp).2.1
  have r2 := r.mid
  have r3 := r.hi
  rw [Bool.eq_iff_iff, decide_eq_true_eq, runs_from (over_sorted (days_sorted (more_ok hs hc (by omega)).gap) m w), over_snoc (fun p hp => ⟨hd p hp, by have := le_last hs.ok.gap hd p hp; omega⟩) hn.1 (by omega), fits_iff]
  constructor
  · intro h i hi
    exact h i (by omega)
  · intro h i hi
    exact h i (by omega)
theorem add_stay {s : List (Int × Int)} (hs : Lst s) (p : Int × Int) : addD (st s) (.list [enc p]) = some (.ow (st (s ++ [p]))) := by
  show (if (s.map enc).length + 1 ≤ sizeLim then some (RV.ow (.list (s.map enc ++ [enc p]))) else none) = _
  have := hs.len
  rw [List.length_map, if_pos (Nat.le_trans (show s.length + 1 ≤ 200 by omega) (by decide))]
  show _ = some (RV.ow (PyData.list _))
  rw [List.map_append]
  rfl
/-- over_days(stays + [(c, c + n - 1)], rule) -/
theorem more_ev {ρ : Env} {s : List (Int × Int)} (hs : Lst s) {m w c n : Int} {i j : Nat} (h1 : slot ρ 1 = some (.sh (st s))) (h2 : slot ρ 2 = some (.sh (ru m w))) (hi : slot ρ i = some (.sh (.int c))) (hj : slot ρ j = some (.sh (.int n)))
    (r : Ru m w) (hc : lastOf s < c ∧ c ≤ 90000) (hn : 1 ≤ n ∧ n ≤ 1000) (hf : ∀ (x y : D) (k : List D → Env → Res), x = .int c → freezes ρ [.vr i, .sh y] k = k [x, y] ρ) (hlent : lent ρ [false, false] [.sh (st (s ++ [(c, c + n - 1)])), .vr 2] = []) :
    Ev ρ (eCall F_over_days [false, false] (aCons (eOp addD (eVar 1) (eLst (aCons (eTup (aCons (eVar i) (aCons (eOp subD (eOp addD (eVar i) (eVar j)) (eC (.int 1))) aNil))) aNil))) (aCons (eVar 2) aNil))) (.ow (st (R1 s m w c n))) := by
  have e1 : Ev ρ (eTup (aCons (eVar i) (aCons (eOp subD (eOp addD (eVar i) (eVar j)) (eC (.int 1))) aNil))) (.sh (enc (c, c + n - 1))) :=
    .tup (ds := [.int c, .int (c + n - 1)]) (.cons (.v hi) (.cons (.op (.op (.v hi) (.v hj) (pk_vr hi) (pk_vr hj) rfl) .c rfl rfl rfl) .nil)) (fun k => hf _ _ k rfl) (Nat.le_of_ble_eq_true rfl)
  have e2 : Ev ρ (eLst (aCons (eTup (aCons (eVar i) (aCons (eOp subD (eOp addD (eVar i) (eVar j)) (eC (.int 1))) aNil))) aNil)) (.ow (.list [enc (c, c + n - 1)])) :=
    .lstF (.cons e1 .nil) (fun _ => rfl) (le_100 (Nat.le_of_ble_eq_true rfl))
  have ha : argsOf ρ [false, false] [.sh (st (s ++ [(c, c + n - 1)])), .vr 2] = some [.sh (st (s ++ [(c, c + n - 1)])), .sh (ru m w)] := by
    have : argOf ρ false (.vr 2) = some (.sh (ru m w)) := by
      show (match slot ρ 2 with
        | some (.sh d) => if false = true then none else some (EV.sh d)
        | some e => if false = true then some (.io e.d) else some (.sh e.d)
        | none => none) = _
      rw [h2]
      rfl
    show (match argOf ρ false (.sh (st (s ++ [(c, c + n - 1)]))), argsOf ρ [false] [.vr 2] with
      | some e, some es => some (e :: es)
      | _, _ => none) = _
    unfold argsOf
    rw [this]
    rfl
  exact .callO (.cons (.op (.v h1) e2 (pk_vr h1) rfl (add_stay hs _)) (.cons (.v h2) .nil)) rfl ha (over_days_ok (more_ok hs hc hn) r (Nat.le_trans (more_days hs hn) (by decide))) (.inl (by rw [show [RV.w (.ow (st (s ++ [(c, c + n - 1)]))), RV.w (.vr 2)] = [.sh (st (s ++ [(c, c + n - 1)])), .vr 2] from rfl, hlent]; rfl)) rfl
theorem len_lt {ρ : Env} {s : List (Int × Int)} (hs : Lst s) (h1 : slot ρ 1 = some (.sh (st s))) : EvT ρ (cCmp ltD (eFn lenD (aCons (eVar 1) aNil)) (eC (.int 200))) true := by
  have h : decide (((s.length : Nat) : Int) < 200) = true := decide_eq_true (by have := hs.len; omega)
  refine .cmp (.fn (.cons (.v h1) .nil) (peeks_cons (pk_vr h1) rfl) (lenD_st s)) .c rfl rfl ?_
  show some (decide (((s.length : Nat) : Int) < 200)) = _
  rw [h]
noncomputable abbrev bodyM : DS := (sIf (cAnd (cCmp gtD (eVar 5) (eC (.int 0))) (cOr (cCmp eqD (eVar 5) (eVar 4)) (cCmp ltD (eVar 4) (eOp ixD (eVar 2) (eC (.int 0)))))) (sSeq (sSet 11 (eCall F_over_days [false, false] (aCons (eOp addD (eVar 1) (eLst (aCons (eTup (aCons (eVar 9) (aCons (eOp subD (eOp addD (eVar 9) (eVar 5)) (eC (.int 1))) aNil))) aNil))) (aCons (eVar 2) aNil))))
  (sSeq (sSet 12 (eB (cCmp eqD (eLC [13] (iSeq (eVar 11)) (tName 13) (cCmp geD (eOp ixD (eVar 13) (eC (.int 1))) (eVar 9)) (eVar 13)) (eLst aNil))))
  (sIf (cAnd (cCmp neD (eVar 12) (eB (cCmp eqD (eVar 5) (eVar 4)))) (cCmp ltD (eFn lenD (aCons (eVar 1) aNil)) (eC (.int 200)))) (sRet (eC (.bool false))) sNil))) sNil)
theorem much_body {d : D} {s : List (Int × Int)} (hs : Lst s) {m w day x j : Int} {u3 u6 u7 u8 u10 u11 u12 : Option EV} (r : Ru m w) (hc : lastOf s < day ∧ day ≤ 90000) (hj : j ≤ m) (hx : x ≤ j + 1) (hf : 1 ≤ x → x ≤ m → fitsFrom s m w x.toNat day = decide (x = j)) (l11 : Lo u11) (l12 : Lo u12) :
    ∃ u11' u12', Lo u11' ∧ Lo u12' ∧ ∀ C, bodyM (envB d s m w u3 (some (.sh (.int j))) (some (.sh (.int x))) u6 u7 u8 (some (.sh (.int day))) u10 u11 u12 none) C = C.nx (envB d s m w u3 (some (.sh (.int j))) (some (.sh (.int x))) u6 u7 u8 (some (.sh (.int day))) u10 u11' u12' none) := by
  have r2 := r.mid
  have r3 := r.hi
  have ec : EvT (envB d s m w u3 (some (.sh (.int j))) (some (.sh (.int x))) u6 u7 u8 (some (.sh (.int day))) u10 u11 u12 none) (cAnd (cCmp gtD (eVar 5) (eC (.int 0))) (cOr (cCmp eqD (eVar 5) (eVar 4)) (cCmp ltD (eVar 4) (eOp ixD (eVar 2) (eC (.int 0)))))) (decide (0 < x) && (decide (x = j) || decide (j < m))) :=
    .and (.cmp (.v rfl) .c rfl rfl rfl) fun _ => .or (.cmp (.v rfl) (.v rfl) rfl rfl (eqD_int _ _)) fun _ => .cmp (.v rfl) (.op (.v rfl) .c rfl rfl rfl) rfl rfl rfl
  by_cases hb : (decide (0 < x) && (decide (x = j) || decide (j < m))) = true
  · have hb' := hb
    rw [Bool.and_eq_true, Bool.or_eq_true, decide_eq_true_eq, decide_eq_true_eq, decide_eq_true_eq] at hb'
    have hxm : x ≤ m := by omega
    refine ⟨some (.sh (st (R1 s m w day x))), some (.sh (.bool (decide (x = j)))), .inr ⟨_, rfl⟩, .inr ⟨_, rfl⟩, fun C => ?_⟩
    have e11 := more_ev (ρ := envB d s m w u3 (some (.sh (.int j))) (some (.sh (.int x))) u6 u7 u8 (some (.sh (.int day))) u10 u11 u12 none) (i := 9) (j := 5) hs rfl rfl rfl rfl r hc (show 1 ≤ x ∧ x ≤ 1000 by omega) (fun a b k ea => by subst ea; rfl) rfl
    have ef := R1_fits hs r hc (show 1 ≤ x ∧ x ≤ m by omega)
    rw [hf (by omega) hxm] at ef
    unfold bodyM
    rw [if_eq ec, if_pos hb, seq_eq, sset_ow (u := u11) rfl l11.weak e11]
    dsimp only
    rw [seq_eq]
    rw [show (envB d s m w u3 (some (.sh (.int j))) (some (.sh (.int x))) u6 u7 u8 (some (.sh (.int day))) u10 u11 u12 none).set 11 (some (.ow (st (R1 s m w day x)))) = envB d s m w u3 (some (.sh (.int j))) (some (.sh (.int x))) u6 u7 u8 (some (.sh (.int day))) u10 (some (.ow (st (R1 s m w day x)))) u12 none from rfl]
    rw [sset_raw, eB_raw, cCmp_raw, rows9 (R1_len hs hc (by omega))]
    refine Eq.trans (b := opt (eqD (st (back_of day (R1 s m w day x))) (st [])) _) rfl ?_
    rw [eqD_st, ef]
    generalize R1 s m w day x = RR
    generalize hjj : decide (x = j) = bj
    refine Eq.trans (b := put (envB d s m w u3 (some (.sh (.int j))) (some (.sh (.int x))) u6 u7 u8 (some (.sh (.int day))) u10 (some (.sh (st RR))) u12 none) 12 (.sh (.bool bj)) fun ρ => sIf (cAnd (cCmp neD (eVar 12) (eB (cCmp eqD (eVar 5) (eVar 4)))) (cCmp ltD (eFn lenD (aCons (eVar 1) aNil)) (eC (.int 200)))) (sRet (eC (.bool false))) sNil ρ C) rfl ?_
    rw [put_lo' (u := u12) rfl l12.weak]
    have e2 : EvT (envB d s m w u3 (some (.sh (.int j))) (some (.sh (.int x))) u6 u7 u8 (some (.sh (.int day))) u10 (some (.sh (st RR))) (some (.sh (.bool bj))) none) (cAnd (cCmp neD (eVar 12) (eB (cCmp eqD (eVar 5) (eVar 4)))) (cCmp ltD (eFn lenD (aCons (eVar 1) aNil)) (eC (.int 200)))) ((!decide (bj = bj)) && true) := by
      refine .and (.cmp (.v rfl) (.B (t := bj) (.cmp (.v rfl) (.v rfl) rfl rfl ?_)) rfl rfl (neD_bool _ _)) fun _ => len_lt hs rfl
      rw [← hjj]
      exact eqD_int _ _
    rw [decide_eq_true rfl] at e2
    refine (if_eq e2).trans ?_
    rfl
  · refine ⟨u11, u12, l11, l12, fun C => ?_⟩
    unfold bodyM
    rw [if_eq ec, if_neg hb]
    rfl
noncomputable abbrev bodyN : DS := (sIf (cAnd (cCmp geD (eVar 7) (eVar 9)) (cCmp ltD (eFn lenD (aCons (eVar 1) aNil)) (eC (.int 200)))) (sSeq (sSet 11 (eCall F_over_days [false, false] (aCons (eOp addD (eVar 1) (eLst (aCons (eTup (aCons (eVar 7) (aCons (eOp subD (eOp addD (eVar 7) (eVar 10)) (eC (.int 1))) aNil))) aNil))) (aCons (eVar 2) aNil))))
  (sIf (cCmp neD (eB (cCmp eqD (eLC [13] (iSeq (eVar 11)) (tName 13) (cCmp geD (eOp ixD (eVar 13) (eC (.int 1))) (eVar 7)) (eVar 13)) (eLst aNil))) (eB (cCmp eqD (eVar 7) (eVar 6)))) (sRet (eC (.bool false))) sNil)) sNil)
theorem come_body {d : D} {s : List (Int × Int)} (hs : Lst s) {m w day n x entry : Int} {u3 u4 u5 u8 u11 u12 : Option EV} (r : Ru m w) (hc : lastOf s < day) (hx : x ≤ 90000) (hn : 1 ≤ n ∧ n ≤ m) (hf : day ≤ x → fitsFrom s m w n.toNat x = decide (x = entry)) (l11 : Lo u11) :
    ∃ u11', Lo u11' ∧ ∀ C, bodyN (envB d s m w u3 u4 u5 (some (.sh (.int entry))) (some (.sh (.int x))) u8 (some (.sh (.int day))) (some (.sh (.int n))) u11 u12 none) C = C.nx (envB d s m w u3 u4 u5 (some (.sh (.int entry))) (some (.sh (.int x))) u8 (some (.sh (.int day))) (some (.sh (.int n))) u11' u12 none) := by
  have r2 := r.mid
  have r3 := r.hi
  have ec : EvT (envB d s m w u3 u4 u5 (some (.sh (.int entry))) (some (.sh (.int x))) u8 (some (.sh (.int day))) (some (.sh (.int n))) u11 u12 none) (cAnd (cCmp geD (eVar 7) (eVar 9)) (cCmp ltD (eFn lenD (aCons (eVar 1) aNil)) (eC (.int 200)))) (decide (day ≤ x) && true) :=
    .and (.cmp (.v rfl) (.v rfl) rfl rfl rfl) fun _ => len_lt hs rfl
  rw [Bool.and_true] at ec
  by_cases hb : day ≤ x
  · refine ⟨some (.sh (st (R1 s m w x n))), .inr ⟨_, rfl⟩, fun C => ?_⟩
    have hc' : lastOf s < x ∧ x ≤ 90000 := by omega
    have e11 := more_ev (ρ := envB d s m w u3 u4 u5 (some (.sh (.int entry))) (some (.sh (.int x))) u8 (some (.sh (.int day))) (some (.sh (.int n))) u11 u12 none) (i := 7) (j := 10) hs rfl rfl rfl rfl r hc' (show 1 ≤ n ∧ n ≤ 1000 by omega) (fun a b k ea => by subst ea; rfl) rfl
    have ef := R1_fits hs r hc' hn
    rw [hf hb] at ef
    unfold bodyN
    rw [if_eq ec, if_pos (decide_eq_true hb), seq_eq, sset_ow (u := u11) rfl l11.weak e11]
    dsimp only
    rw [show (envB d s m w u3 u4 u5 (some (.sh (.int entry))) (some (.sh (.int x))) u8 (some (.sh (.int day))) (some (.sh (.int n))) u11 u12 none).set 11 (some (.ow (st (R1 s m w x n)))) = envB d s m w u3 u4 u5 (some (.sh (.int entry))) (some (.sh (.int x))) u8 (some (.sh (.int day))) (some (.sh (.int n))) (some (.ow (st (R1 s m w x n)))) u12 none from rfl]
    rw [sif_raw, cCmp_raw, eB_raw, cCmp_raw, rows7 (R1_len hs hc' (by omega))]
    refine Eq.trans (b := opt (eqD (st (back_of x (R1 s m w x n))) (st [])) _) rfl ?_
    have e6 : Ev (envB d s m w u3 u4 u5 (some (.sh (.int entry))) (some (.sh (.int x))) u8 (some (.sh (.int day))) (some (.sh (.int n))) (some (.sh (st (R1 s m w x n)))) u12 none) (eB (cCmp eqD (eVar 7) (eVar 6))) (.sh (.bool (decide (x = entry)))) := .B (.cmp (.v rfl) (.v rfl) rfl rfl (eqD_int _ _))
    rw [eqD_st, ef, opt_some' rfl, e6]
    generalize decide (x = entry) = bj
    refine Eq.trans (b := opt (neD (.bool bj) (.bool bj)) _) rfl ?_
    rw [neD_bool, decide_eq_true rfl]
    rfl
  · refine ⟨u11, l11, fun C => ?_⟩
    unfold bodyN
    rw [if_eq ec, if_neg (by rw [decide_eq_true_eq]; exact hb)]
    rfl
end DL.k43
set_option maxRecDepth 100000
set_option maxHeartbeats 4000000
/-! k43: _law_is_behind_due. -/
namespace DL
open PySem
theorem sasg_ints {t : DT} {as : DA} {ρ ρ1 : Env} {xs : List Int} {C : Conts} (h : ∀ (k : KL) (hx : KX), as ρ k hx = k (xs.map fun x => .sh (.int x)) ρ1) (hz : xs.length ≤ 100) : sAsg t (eTup as) ρ C = t (.tuple (xs.map .int)) ρ1 C.nx := by
  unfold sAsg eTup
  rw [h, k43.freezes_ints, if_pos (by rw [List.length_map]; exact le_100 hz)]
  rfl
end DL
namespace DL.k43
open PySem
theorem lastOf_lo {s : List (Int × Int)} (h : Ok s) : -1 ≤ lastOf s := by
  rcases List.eq_nil_or_concat s with rfl | ⟨s', q, rfl⟩
  · exact Int.le_refl _
  · rw [List.concat_eq_append] at *
    have := h.day q (by simp)
    have hL : lastOf (s' ++ [q]) = q.2 := by unfold lastOf; rw [List.getLast?_concat]
    omega
theorem lastOf_hi {s : List (Int × Int)} {B : Int} (hB : 0 ≤ B) (h : ∀ p ∈ s, p.2 ≤ B) : lastOf s ≤ B := by
  rcases List.eq_nil_or_concat s with rfl | ⟨s', q, rfl⟩
  · exact Int.le_trans (show (-1 : Int) ≤ 0 by decide) hB
  · rw [List.concat_eq_append] at *
    have := h q (by simp)
    have hL : lastOf (s' ++ [q]) = q.2 := by unfold lastOf; rw [List.getLast?_concat]
    omega
theorem used_none {s : List (Int × Int)} (h : Ok s) {w d : Int} (hw : 0 ≤ w) (hd : lastOf s ≤ d - w) : used s w d = 0 := by
  have hl : ∀ p ∈ s, p.1 ≤ p.2 := fun p hp => (h.day p hp).2.1
  have hL := le_last h.gap hl
  rw [used_cw hl hw]
  have key : ∀ x, lastOf s ≤ x → upto (days s) x = (days s).length := fun x hx => by
    unfold upto
    refine List.countP_eq_length.mpr fun y hy => ?_
    obtain ⟨p, hp, h1, h2⟩ := mem_days.mp hy
    have := hL p hp
    exact decide_eq_true (by omega)
  unfold cw
  rw [key _ (by omega), key _ hd]
  omega
theorem daysBy_nonneg (s : List (Int × Int)) (a b : Int) : 0 ≤ daysBy s a b := by
  induction s with
  | nil => exact Int.le_refl _
  | cons p s ih =>
    unfold daysBy at ih ⊢
    rw [List.map_cons, List.sum_cons]
    have : 0 ≤ lap a b p := by
      unfold lap
      simp only
      split <;> split <;> split <;> omega
    omega
theorem used_last {s : List (Int × Int)} (h : Ok s) (hn : s ≠ []) {w : Int} (hw : 1 ≤ w) : 0 < used s w (lastOf s + w - 1) := by
  rcases List.eq_nil_or_concat s with rfl | ⟨s', q, rfl⟩
  · exact absurd rfl hn
  · rw [List.concat_eq_append] at *
    have := h.day q (by simp)
    have hL : lastOf (s' ++ [q]) = q.2 := by unfold lastOf; rw [List.getLast?_concat]
    rw [hL]
    have e : daysBy (s' ++ [q]) (q.2 + w - 1 - w + 1) (q.2 + w - 1) = daysBy s' (q.2 + w - 1 - w + 1) (q.2 + w - 1) + lap (q.2 + w - 1 - w + 1) (q.2 + w - 1) q := by
      unfold daysBy
      rw [List.map_append, List.sum_append, List.map_singleton, List.sum_cons, List.sum_nil, Int.add_zero]
    show 0 < daysBy _ _ _
    rw [e]
    have h0 := daysBy_nonneg s' (q.2 + w - 1 - w + 1) (q.2 + w - 1)
    have : 0 < lap (q.2 + w - 1 - w + 1) (q.2 + w - 1) q := by
      unfold lap
      simp only
      split <;> split <;> split <;> omega
    omega
theorem fits_free {s : List (Int × Int)} (h : Ok s) {m w c : Int} {n : Nat} (hw : 0 ≤ w) (hn : (n : Int) ≤ m) (hc : lastOf s + w ≤ c) : fitsFrom s m w n c = true := by
  rw [fits_iff]
  intro i hi
  rw [used_none h hw (by omega)]
  omega
theorem isNot_b (a b : Bool) : isNotD (.bool a) (.bool b) = some (!decide (a = b)) := rfl
noncomputable abbrev cond4 : DB := (cOr (cCmp neD (eCall F_last_day [false, false, false] (aCons (eVar 1) (aCons (eVar 2) (aCons (eVar 9) aNil)))) (eIf (cCmp gtD (eVar 4) (eC (.int 0))) (eOp subD (eOp addD (eVar 9) (eVar 4)) (eC (.int 1))) (eC .none))) (cNot (cChain leD leD (eC (.int 0)) (eVar 4) (eOp ixD (eVar 2) (eC (.int 0))))))
theorem cond4_ok {d : D} {s : List (Int × Int)} {m w day : Int} {j : Nat} {u3 u5 u6 u7 u8 u10 u11 u12 u13 : Option EV} (hj : (j : Int) ≤ m) (e : F_rest_from [.sh (st s), .sh (ru m w), .sh (.int day)] = some (.ret (.sh (.int (j : Nat))) [none, none, none])) :
    EvT (envB d s m w u3 (some (.sh (.int (j : Nat)))) u5 u6 u7 u8 (some (.sh (.int day))) u10 u11 u12 u13) cond4 false := by
  have e1 : Ev (envB d s m w u3 (some (.sh (.int (j : Nat)))) u5 u6 u7 u8 (some (.sh (.int day))) u10 u11 u12 u13) (eCall F_last_day [false, false, false] (aCons (eVar 1) (aCons (eVar 2) (aCons (eVar 9) aNil)))) (.sh (if 0 < (j : Int) then .int (day + (j : Nat) - 1) else .none)) :=
    .call (.cons (.v rfl) (.cons (.v rfl) (.cons (.v rfl) .nil))) rfl rfl (last_day_ok e) (.inl rfl) rfl
  have e2 : EvT (envB d s m w u3 (some (.sh (.int (j : Nat)))) u5 u6 u7 u8 (some (.sh (.int day))) u10 u11 u12 u13) (cChain leD leD (eC (.int 0)) (eVar 4) (eOp ixD (eVar 2) (eC (.int 0)))) (decide ((0 : Int) ≤ (j : Nat)) && decide (((j : Nat) : Int) ≤ m)) :=
    .chainI .c (.v rfl) (.op (.v rfl) .c rfl rfl rfl) rfl rfl rfl
  rw [decide_eq_true (by omega), decide_eq_true hj] at e2
  have e3 : EvT (envB d s m w u3 (some (.sh (.int (j : Nat)))) u5 u6 u7 u8 (some (.sh (.int day))) u10 u11 u12 u13) (cCmp gtD (eVar 4) (eC (.int 0))) (decide ((0 : Int) < (j : Nat))) := .cmp (.v rfl) .c rfl rfl rfl
  by_cases h0 : (0 : Int) < (j : Nat)
  · rw [if_pos h0] at e1
    rw [decide_eq_true h0] at e3
    have := EvT.cmp (f := neD) e1 (.iteT (b := eC .none) e3 (.op (f := subD) (.op (f := addD) (.v (i := 9) rfl) (.v (i := 4) rfl) rfl rfl rfl) (.c (v := .int 1)) rfl rfl rfl)) rfl rfl (neD_int _ _)
    rw [decide_eq_true rfl] at this
    exact .or this fun _ => .not e2
  · rw [if_neg h0] at e1
    rw [decide_eq_false h0] at e3
    have nn : neD .none .none = some false := by
      show some (!PyData.eqv .none .none) = _
      rw [PyData.eqv]
      rfl
    exact .or (.cmp e1 (.iteF e3 .c) rfl rfl nn) fun _ => .not e2
end DL.k43
set_option maxRecDepth 100000
set_option maxHeartbeats 4000000
/-! k43: _law_is_behind_due, whole. -/
namespace DL.k43
open PySem
theorem is_false_of {c : Bool} (h : ¬ (c = true)) : c = false := by cases c <;> simp_all
theorem behind_due_ok {s : List (Int × Int)} (hs : Lst s) {m w : Int} (r : Ru m w) (ds : List Int) : ∃ ds', F_law_is_behind_due [.io (dr ds), .sh (st s), .sh (ru m w)] = some (.ret (.sh (.bool true)) [some (dr ds'), none, none]) := by
  have h := hs.ok
  have r1 := r.lo
  have r2 := r.mid
  have r3 := r.hi
  have llo := lastOf_lo h
  have lhi := lastOf_hi (show (0 : Int) ≤ 60000 by decide) hs.hi
  have hA := DwA.cons (E := fun d => envB d s m w (some (.sh (.int (lastOf s)))) none none none none none none none none none none) (Dw.add (a := eOp addD (eVar 3) (eC (.int 1))) (x := .sh (.int (lastOf s + 1))) (p := lastOf s + 1) (fun d => ⟨.op (.v rfl) .c rfl rfl rfl, rfl⟩) (Dw.take box_B (.c 30) (fun n h => by omega))) (DwA.cons (Dw.add (a := eC (.int 1)) (x := .sh (.int 1)) (p := 1) (fun d => ⟨.c, rfl⟩) (Dw.take box_B (Dw.ev (n := m) (e := eOp ixD (eVar 2) (eC (.int 0))) fun d => .op (.v rfl) .c rfl rfl rfl) (fun n h => by omega))) .nil)
  obtain ⟨xs, ds1, ⟨day, l1, ⟨z1, ⟨z10, n1, en1, z11⟩, eday⟩, ⟨n, l2, ⟨z2, ⟨z20, n2, en2, z21⟩, en⟩, el2, el1⟩, exs⟩, eA⟩ := hA ds
  subst el2 el1 exs
  have hday : lastOf s < day ∧ 0 ≤ day ∧ day ≤ 60030 := by omega
  have hn : 1 ≤ n ∧ n ≤ m := by omega
  clear eday en en1 en2 z10 z11 z20 z21
  obtain ⟨j, er, hjm, hj1, hj2⟩ := rest_from_ok (d := day) h r (by omega) hday.1
  obtain ⟨entry, ee, he1, he2, he3, he4⟩ := first_entry_ok (day := day) (n := n) (free := if lastOf s + w > day then lastOf s + w else day) h r (by omega) hn hday.1 rfl
  have hfr : day ≤ (if lastOf s + w > day then lastOf s + w else day) ∧ lastOf s + w ≤ (if lastOf s + w > day then lastOf s + w else day) ∧ (if lastOf s + w > day then lastOf s + w else day) ≤ 61030 := by split <;> omega
  have hfe : fitsFrom s m w n.toNat entry = true := by
    by_cases hlt : entry < (if lastOf s + w > day then lastOf s + w else day)
    · exact he3 hlt
    · exact fits_free h (by omega) (by omega) (by omega)
  have te : ∀ told, day ≤ told → told ≤ 100000 → _ := fun told t1 t2 => takes_entry_ok (day := day) (n := n) (told := told) h r (by omega) hn hday.1 (by omega) (by have := hs.small; omega) rfl
  have fa := free_again_ok (d := day) h r (by omega) hday.1
  have hfa : (if s = [] then day else if day < lastOf s + w then lastOf s + w else day) = if s = [] then day else (if lastOf s + w > day then lastOf s + w else day) := rfl
  rw [hfa] at fa
  clear hfa
  have hfree : lastOf s + w ≤ day ∨ (if lastOf s + w > day then lastOf s + w else day) = lastOf s + w := by split <;> omega
  have hfree2 : (if lastOf s + w > day then lastOf s + w else day) = day ∨ day < (if lastOf s + w > day then lastOf s + w else day) ∧ (if lastOf s + w > day then lastOf s + w else day) = lastOf s + w := by split <;> omega
  generalize (if lastOf s + w > day then lastOf s + w else day) = free at *
  refine ⟨ds1, ?_⟩
  unfold F_law_is_behind_due G_law_is_behind_due dDef
  rw [if_pos (Nat.le_of_ble_eq_true rfl)]
  show sSeq _ _ (envB (dr ds) s m w none none none none none none none none none none none) (topC 3) = _
  rw [seq_eq, sset_sh (u := none) (p := .int (lastOf s)) rfl trivial (last_ite (d := -1) (b := eUn negD (eC (.int 1))) (i := 1) (e := .sh (st s)) rfl rfl (ne_nil (i := 1) (e := .sh (st s)) rfl rfl) (.un (f := negD) (a := eC (.int 1)) .c rfl rfl))]
  dsimp only
  rw [seq_eq]
  refine Eq.trans (sasg_ints eA (show 2 ≤ 100 by decide)) ?_
  refine Eq.trans (tpair (u := none) (v := none) rfl rfl trivial trivial) ?_
  dsimp only
  rw [seq_eq, sset_sh (u := none) (p := .int (j : Nat)) rfl trivial (.call (.cons (.v rfl) (.cons (.v rfl) (.cons (.v rfl) .nil))) rfl rfl er (.inl rfl) rfl)]
  dsimp only
  rw [seq_eq]
  refine Eq.trans (sif_f (cond4_ok (d := dr ds1) (s := s) (day := day) (u3 := some (.sh (.int (lastOf s)))) (u5 := none) (u6 := none) (u7 := none) (u8 := none) (u10 := some (.sh (.int n))) (u11 := none) (u12 := none) (u13 := none) hjm er)) ?_
  dsimp only
  rw [seq_eq]
  rw [for_it (it_seq (a := eLst (aCons (eVar 4) (aCons (eOp addD (eVar 4) (eC (.int 1))) aNil))) (p := .list [.int (j : Nat), .int ((j : Nat) + 1)]) (ds := [((j : Nat) : Int), (j : Nat) + 1].map .int) (.lstF (.cons (.v rfl) (.cons (.op (.v rfl) .c rfl rfl rfl) .nil)) (fun _ => rfl) (le_100 (Nat.le_of_ble_eq_true rfl))) (fun _ => rfl) rfl)]
  have lp1 := fun C => loop_ex (enc := PyData.int) (t := tName 5) (body := bodyM) (C := C) (σ := Unit) (fun _ ρ => ∃ u5 u11 u12, Lo u5 ∧ Lo u11 ∧ Lo u12 ∧ ρ = envB (dr ds1) s m w (some (.sh (.int (lastOf s)))) (some (.sh (.int (j : Nat)))) u5 none none none (some (.sh (.int day))) (some (.sh (.int n))) u11 u12 none) (fun _ _ => ()) [((j : Nat) : Int), (j : Nat) + 1] () _ ⟨none, none, none, .inl rfl, .inl rfl, .inl rfl, rfl⟩ (by
    rintro _ ρ a ⟨u5, u11, u12, l5, l11, l12, rfl⟩ ha
    obtain ⟨v11, v12, k11, k12, e⟩ := much_body (d := dr ds1) (u3 := some (.sh (.int (lastOf s)))) (u6 := none) (u7 := none) (u8 := none) (u10 := some (.sh (.int n))) hs r (show lastOf s < day ∧ day ≤ 90000 by omega) hjm (x := a) (by simp at ha; omega) (fun g1 g2 => by
      simp at ha
      rcases ha with rfl | rfl
      · rw [decide_eq_true rfl, fits_iff]
        intro i hi
        have := hj1 i (by omega)
        omega
      · rw [decide_eq_false (by omega)]
        refine is_false_of fun hf => ?_
        have := fits_iff.mp hf j (by omega)
        have := hj2 (by omega)
        omega) l11 l12
    refine ⟨_, ⟨some (.sh (.int a)), v11, v12, .inr ⟨_, rfl⟩, k11, k12, rfl⟩, fun kn => ?_⟩
    rw [tone (u := u5) rfl l5.weak]
    exact e _)
  refine Exists.elim (lp1 _) fun ρ' h1 => Exists.elim h1.1 fun u5 h2 => Exists.elim h2 fun u11 h3 => Exists.elim h3 fun u12 h4 => Eq.trans h1.2 ?_
  have l11 := h4.2.1
  rw [h4.2.2.2]
  clear h1 h2 h3 h4
  dsimp only
  rw [seq_eq, sset_sh (u := none) (p := .int entry) rfl trivial (.call (.cons (.v rfl) (.cons (.v rfl) (.cons (.v rfl) (.cons (.v rfl) .nil)))) rfl rfl ee (.inl rfl) rfl)]
  dsimp only
  rw [seq_eq]
  rw [for_it (it_seq (a := eLst (aCons (eVar 6) (aCons (eOp subD (eVar 6) (eC (.int 1))) (aCons (eVar 9) aNil)))) (p := .list [.int entry, .int (entry - 1), .int day]) (ds := [entry, entry - 1, day].map .int) (.lstF (.cons (.v rfl) (.cons (.op (.v rfl) .c rfl rfl rfl) (.cons (.v rfl) .nil))) (fun _ => rfl) (le_100 (Nat.le_of_ble_eq_true rfl))) (fun _ => rfl) rfl)]
  have lp2 := fun C => loop_ex (enc := PyData.int) (t := tName 7) (body := bodyN) (C := C) (σ := Unit) (fun _ ρ => ∃ u7 u11, Lo u7 ∧ Lo u11 ∧ ρ = envB (dr ds1) s m w (some (.sh (.int (lastOf s)))) (some (.sh (.int (j : Nat)))) u5 (some (.sh (.int entry))) u7 none (some (.sh (.int day))) (some (.sh (.int n))) u11 u12 none) (fun _ _ => ()) [entry, entry - 1, day] () _ ⟨none, u11, .inl rfl, l11, rfl⟩ (by
    rintro _ ρ a ⟨u7, u11, l7, l11, rfl⟩ ha
    simp at ha
    obtain ⟨v11, k11, e⟩ := come_body (d := dr ds1) (u3 := some (.sh (.int (lastOf s)))) (u4 := some (.sh (.int (j : Nat)))) (u5 := u5) (u8 := none) (u12 := u12) (day := day) (entry := entry) hs r hday.1 (x := a) (by omega) hn (fun g1 => by
      by_cases hae : a = entry
      · rw [decide_eq_true hae, hae]; exact hfe
      · rw [decide_eq_false hae]
        exact he4 a g1 (by omega)) l11
    refine ⟨_, ⟨some (.sh (.int a)), v11, .inr ⟨_, rfl⟩, k11, rfl⟩, fun kn => ?_⟩
    rw [tone (u := u7) rfl l7.weak]
    exact e _)
  refine Exists.elim (lp2 _) fun ρ' h1 => Exists.elim h1.1 fun u7 h2 => Exists.elim h2 fun v11 h4 => Eq.trans h1.2 ?_
  rw [h4.2.2]
  clear h1 h2 h4
  dsimp only
  rw [seq_eq]
  have t1 : EvT (envB (dr ds1) s m w (some (.sh (.int (lastOf s)))) (some (.sh (.int (j : Nat)))) u5 (some (.sh (.int entry))) u7 none (some (.sh (.int day))) (some (.sh (.int n))) v11 u12 none) (cOr (cCmp isNotD (eCall F_takes_entry [false, false, false, false, false] (aCons (eVar 1) (aCons (eVar 2) (aCons (eVar 9) (aCons (eVar 10) (aCons (eVar 6) aNil)))))) (eC (.bool true))) (cCmp isNotD (eCall F_takes_entry [false, false, false, false, false] (aCons (eVar 1) (aCons (eVar 2) (aCons (eVar 9) (aCons (eVar 10) (aCons (eOp addD (eVar 6) (eC (.int 1))) aNil)))))) (eC (.bool false)))) false := by
    have b1 : (if free < entry then false else fitsFrom s m w n.toNat entry && !(rg day entry).any (fitsFrom s m w n.toNat)) = true := by
      rw [if_neg (by omega), hfe, Bool.true_and, Bool.not_eq_true', List.any_eq_false]
      intro x hx
      have hx := mem_rg.mp hx
      rw [he4 x hx.1 hx.2]
      exact Bool.false_ne_true
    have b2 : (if free < entry + 1 then false else fitsFrom s m w n.toNat (entry + 1) && !(rg day (entry + 1)).any (fitsFrom s m w n.toNat)) = false := by
      split
      · rfl
      · have : (rg day (entry + 1)).any (fitsFrom s m w n.toNat) = true := List.any_eq_true.mpr ⟨entry, mem_rg.mpr (by omega), hfe⟩
        rw [this]
        exact Bool.and_false _
    have c1 := te entry (by omega) (by omega)
    have c2 := te (entry + 1) (by omega) (by omega)
    rw [b1] at c1
    rw [b2] at c2
    exact .or (t := false) (.cmp (.call (.cons (.v rfl) (.cons (.v rfl) (.cons (.v rfl) (.cons (.v rfl) (.cons (.v rfl) .nil))))) rfl rfl c1 (.inl rfl) rfl) .c rfl rfl rfl) fun _ => .cmp (.call (.cons (.v rfl) (.cons (.v rfl) (.cons (.v rfl) (.cons (.v rfl) (.cons (.op (.v rfl) .c rfl rfl rfl) .nil))))) rfl rfl c2 (.inl rfl) rfl) .c rfl rfl rfl
  rw [sif_f t1]
  dsimp only
  generalize hfv : (if s = [] then day else free) = fr at fa
  rw [seq_eq, sset_sh (u := none) (p := .int fr) rfl trivial (.call (.cons (.v rfl) (.cons (.v rfl) (.cons (.v rfl) .nil))) rfl rfl fa (.inl rfl) rfl)]
  dsimp only
  rw [show (envB (dr ds1) s m w (some (.sh (.int (lastOf s)))) (some (.sh (.int (j : Nat)))) u5 (some (.sh (.int entry))) u7 none (some (.sh (.int day))) (some (.sh (.int n))) v11 u12 none).set 8 (some (.sh (.int fr))) = envB (dr ds1) s m w (some (.sh (.int (lastOf s)))) (some (.sh (.int (j : Nat)))) u5 (some (.sh (.int entry))) u7 (some (.sh (.int fr))) (some (.sh (.int day))) (some (.sh (.int n))) v11 u12 none from rfl]
  have hfr1 : day ≤ fr ∧ fr ≤ 61030 := by rw [← hfv]; split <;> omega
  have hu0 : ∀ d, fr ≤ d → used s w d = 0 := fun d hd => by
    by_cases hsn : s = []
    · subst hsn; rfl
    · rw [if_neg hsn] at hfv
      exact used_none h (by omega) (by omega)
  have hu1 : fr = day ∨ 0 < used s w (fr - 1) := by
    by_cases hsn : s = []
    · rw [if_pos hsn] at hfv; exact .inl hfv.symm
    · rw [if_neg hsn] at hfv
      rcases hfree2 with e | ⟨e1, e2⟩
      · exact .inl (by omega)
      · have := used_last h hsn (w := w) (by omega)
        rw [show fr - 1 = lastOf s + w - 1 from by omega]
        exact .inr this
  have hent : entry ≤ fr := by
    by_cases hsn : s = []
    · rw [if_pos hsn] at hfv
      by_cases hlt : day < entry
      · have h5 := he4 day (Int.le_refl _) hlt
        rw [is_false_of (c := fitsFrom s m w n.toNat day) (by rw [h5]; exact Bool.false_ne_true)] at h5
        have h6 : fitsFrom s m w n.toNat day = true := by
          rw [fits_iff]
          intro i hi
          subst hsn
          show (0 : Int) + (i : Nat) < m
          omega
        have h7 := he4 day (Int.le_refl _) hlt
        rw [h6] at h7
        cases h7
      · omega
    · rw [if_neg hsn] at hfv
      omega
  obtain ⟨j2, er2, hj2m, -, hj22⟩ := rest_from_ok (d := fr) h r (by omega) (by omega)
  have hj2e : ((j2 : Nat) : Int) = m := by
    by_cases hlt : ((j2 : Nat) : Int) < m
    · have := hj22 hlt
      rw [hu0 _ (by omega)] at this
      omega
    · omega
  have uf := used_on_ok (d := fr) h r (by omega)
  rw [hu0 fr (Int.le_refl _)] at uf
  have q1 : Ev (envB (dr ds1) s m w (some (.sh (.int (lastOf s)))) (some (.sh (.int (j : Nat)))) u5 (some (.sh (.int entry))) u7 (some (.sh (.int fr))) (some (.sh (.int day))) (some (.sh (.int n))) v11 u12 none) (eB (cCmp eqD (eCall F_used_on [false, false, false] (aCons (eVar 1) (aCons (eVar 2) (aCons (eVar 8) aNil)))) (eC (.int 0)))) (.sh (.bool true)) := .B (.cmp (.call (.cons (.v rfl) (.cons (.v rfl) (.cons (.v rfl) .nil))) rfl rfl uf (.inl rfl) rfl) .c rfl rfl (eqD_int 0 0))
  have q2 : Ev (envB (dr ds1) s m w (some (.sh (.int (lastOf s)))) (some (.sh (.int (j : Nat)))) u5 (some (.sh (.int entry))) u7 (some (.sh (.int fr))) (some (.sh (.int day))) (some (.sh (.int n))) v11 u12 none) (eOr (eB (cCmp eqD (eVar 8) (eVar 9))) (eB (cCmp gtD (eCall F_used_on [false, false, false] (aCons (eVar 1) (aCons (eVar 2) (aCons (eOp subD (eVar 8) (eC (.int 1))) aNil)))) (eC (.int 0))))) (.sh (.bool true)) := by
    have b1 : EvT (envB (dr ds1) s m w (some (.sh (.int (lastOf s)))) (some (.sh (.int (j : Nat)))) u5 (some (.sh (.int entry))) u7 (some (.sh (.int fr))) (some (.sh (.int day))) (some (.sh (.int n))) v11 u12 none) (cCmp eqD (eVar 8) (eVar 9)) (decide (fr = day)) := .cmp (.v rfl) (.v rfl) rfl rfl (eqD_int _ _)
    by_cases hfd : fr = day
    · rw [decide_eq_true hfd] at b1
      exact .orB (t := true) (u := true) (.B b1) fun z => nomatch z
    · rw [decide_eq_false hfd] at b1
      rcases hu1 with z | hu1
      · exact absurd z hfd
      · have uf1 := used_on_ok (d := fr - 1) h r (by omega)
        have b2 : EvT (envB (dr ds1) s m w (some (.sh (.int (lastOf s)))) (some (.sh (.int (j : Nat)))) u5 (some (.sh (.int entry))) u7 (some (.sh (.int fr))) (some (.sh (.int day))) (some (.sh (.int n))) v11 u12 none) (cCmp gtD (eCall F_used_on [false, false, false] (aCons (eVar 1) (aCons (eVar 2) (aCons (eOp subD (eVar 8) (eC (.int 1))) aNil)))) (eC (.int 0))) (decide (0 < used s w (fr - 1))) := .cmp (.call (.cons (.v rfl) (.cons (.v rfl) (.cons (.op (.v rfl) .c rfl rfl rfl) .nil))) rfl rfl uf1 (.inl rfl) rfl) .c rfl rfl rfl
        rw [decide_eq_true hu1] at b2
        exact .orB (t := false) (u := true) (.B b1) fun _ => .B b2
  have q3 : Ev (envB (dr ds1) s m w (some (.sh (.int (lastOf s)))) (some (.sh (.int (j : Nat)))) u5 (some (.sh (.int entry))) u7 (some (.sh (.int fr))) (some (.sh (.int day))) (some (.sh (.int n))) v11 u12 none) (eB (cCmp eqD (eCall F_rest_from [false, false, false] (aCons (eVar 1) (aCons (eVar 2) (aCons (eVar 8) aNil)))) (eOp ixD (eVar 2) (eC (.int 0))))) (.sh (.bool (decide (((j2 : Nat) : Int) = m)))) := .B (.cmp (.call (.cons (.v rfl) (.cons (.v rfl) (.cons (.v rfl) .nil))) rfl rfl er2 (.inl rfl) rfl) (.op (.v rfl) .c rfl rfl rfl) rfl rfl (eqD_int _ _))
  rw [decide_eq_true hj2e] at q3
  have q4 : Ev (envB (dr ds1) s m w (some (.sh (.int (lastOf s)))) (some (.sh (.int (j : Nat)))) u5 (some (.sh (.int entry))) u7 (some (.sh (.int fr))) (some (.sh (.int day))) (some (.sh (.int n))) v11 u12 none) (eB (cCmp leD (eVar 6) (eVar 8))) (.sh (.bool (decide (entry ≤ fr)))) := .B (.cmp (.v rfl) (.v rfl) rfl rfl rfl)
  rw [decide_eq_true hent] at q4
  rw [sret_sh (.andB (t := true) (u := true) q1 fun _ => .andB (t := true) (u := true) q2 fun _ => .andB (t := true) (u := true) q3 fun _ => q4)]
  rfl
end DL.k43
set_option maxRecDepth 100000
set_option maxHeartbeats 4000000
/-! k43: law, its statements. -/
namespace DL.k43
open PySem
section
variable {E : D → Env} {e a b : DE} {as : DA} {P Q : Int → Prop} {i : Nat}
theorem Dw.takeV {j : Nat} {n : Int} (B : Box i E) (h : ∀ d, slot (E d) j = some (.sh (.int n))) (hn : 0 < n) : Dw E (eCall F_law_take [true, false] (aCons (eVar i) (aCons (eVar j) aNil))) (fun x => 0 ≤ x ∧ x < n) := fun ds => by
  obtain ⟨x, ds2, ex, x0, x1, -⟩ := take_ok ds hn
  refine ⟨x, ds2, ⟨x0, x1⟩, fun k hx => ?_⟩
  obtain ⟨e0, h0⟩ := B.v (dr ds)
  have ha : argOf (E (dr ds)) false (.vr j) = some (.sh (.int n)) := by
    show (match slot (E (dr ds)) j with
      | some (.sh d) => if false = true then none else some (EV.sh d)
      | some e => if false = true then some (.io e.d) else some (.sh e.d)
      | none => none) = _
    rw [h]
    rfl
  have hl : lent (E (dr ds)) [true, false] [.vr i, .vr j] = [] := by
    show (match slot (E (dr ds)) j with
      | some e => if e.mine = true then j :: [] else []
      | none => []) = _
    rw [h]
    rfl
  unfold eCall aCons
  rw [show eVar i (E (dr ds)) = fun k _ => k (.vr i) (E (dr ds)) from by funext k h; exact Ev.v h0 k h]
  dsimp only
  rw [show eVar j (E (dr ds)) = fun k _ => k (.vr j) (E (dr ds)) from by funext k hh; exact Ev.v (h _) k hh]
  show (if apart [i] && [i].all (fun q => !(lent (E (dr ds)) [true, false] [.vr i, .vr j]).contains q) then opt (argsOf (E (dr ds)) [true, false] [.vr i, .vr j]) fun es => opt (F_law_take es) fun o => behind (E (dr ds)) [true, false] [.vr i, .vr j] (lent (E (dr ds)) [true, false] [.vr i, .vr j]) o k hx else none) = _
  rw [hl]
  show opt (match argOf (E (dr ds)) true (.vr i), argsOf (E (dr ds)) [false] [.vr j] with
    | some e, some es => some (e :: es)
    | _, _ => none) _ = _
  rw [B.arg]
  unfold argsOf
  rw [ha]
  show opt (F_law_take [.io (dr ds), .sh (.int n)]) _ = _
  rw [ex]
  show k (.sh (.int x)) (put1 (E (dr ds)) i (dr ds2)) = _
  rw [B.put]
end
abbrev envL (x d : D) (u2 u3 u4 u5 u6 u7 u8 u9 u10 u11 u12 u13 u14 u15 u16 u17 u18 : Option EV) : Env := [some (.sh x), some (.ow d), u2, u3, u4, u5, u6, u7, u8, u9, u10, u11, u12, u13, u14, u15, u16, u17, u18]
theorem box_L {x : D} {u2 u3 u4 u5 u6 u7 u8 u9 u10 u11 u12 u13 u14 u15 u16 u17 u18 : Option EV} : Box 1 (fun d => (envL x d u2 u3 u4 u5 u6 u7 u8 u9 u10 u11 u12 u13 u14 u15 u16 u17 u18)) := ⟨fun d => ⟨_, rfl⟩, fun _ => rfl, fun _ _ => rfl⟩
noncomputable abbrev st1 : DS := sPar [8, 9] (kCons (eCall F_law_stays [true] (aCons (eVar 1) aNil)) (kCons (eOp addD (eC (.int 1)) (eCall F_law_take [true, false] (aCons (eVar 1) (aCons (eCall F_law_pick [true, false] (aCons (eVar 1) (aCons (eLst (aCons (eC (.int 10)) (aCons (eC (.int 180)) (aCons (eC (.int 1000)) aNil)))) aNil))) aNil)))) kNil))
theorem S1_ok {x : D} (ds : List Int) {u2 u3 u4 u5 u6 u7 u8 u9 u10 u11 u12 u13 u14 u15 u16 u17 u18 : Option EV} (h8 : Lo' u8) (h9 : Lo' u9) : ∃ s w ds', Lst s ∧ 1 ≤ w ∧ w ≤ 1000 ∧ ∀ C, st1 (envL x (dr ds) u2 u3 u4 u5 u6 u7 u8 u9 u10 u11 u12 u13 u14 u15 u16 u17 u18) C = C.nx (envL x (dr ds') u2 u3 u4 u5 u6 u7 (some (.ow (st s))) (some (.sh (.int w))) u10 u11 u12 u13 u14 u15 u16 u17 u18) := by
  obtain ⟨s, ds1, e1, hs⟩ := stays_ok ds
  obtain ⟨w, ds2, ⟨z, ⟨z0, n, hn, z1⟩, rfl⟩, e2⟩ := Dw.add (E := fun d => (envL x d u2 u3 u4 u5 u6 u7 u8 u9 u10 u11 u12 u13 u14 u15 u16 u17 u18)) (a := eC (.int 1)) (x := .sh (.int 1)) (p := 1) (fun d => ⟨.c, rfl⟩) (Dw.take (i := 1) box_L (Dw.pick (P := fun x => 0 < x ∧ x ≤ 1000) box_L (.cons (.c 10) (.cons (.c 180) (.cons (.c 1000) .nil))) fun l h => in3 (fun x h => by omega) (fun x h => by omega) (fun x h => by omega) h) (fun n h => h.1)) ds1
  refine ⟨s, 1 + z, ds2, hs, by omega, by omega, fun C => ?_⟩
  have ep : ∀ k h, eCall F_law_stays [true] (aCons (eVar 1) aNil) (envL x (dr ds) u2 u3 u4 u5 u6 u7 u8 u9 u10 u11 u12 u13 u14 u15 u16 u17 u18) k h = k (.ow (st s)) (envL x (dr ds1) u2 u3 u4 u5 u6 u7 u8 u9 u10 u11 u12 u13 u14 u15 u16 u17 u18) := fun k h => by
    refine Eq.trans (b := opt (F_law_stays [.io (dr ds)]) _) rfl ?_
    rw [e1]
    rfl
  dsimp only at e2
  unfold st1 sPar
  rw [kCons_raw, ep, keep_ow, kCons_raw, e2, keep_sh]
  have l8 : loose (envL x (dr ds2) u2 u3 u4 u5 u6 u7 u8 u9 u10 u11 u12 u13 u14 u15 u16 u17 u18) 8 = true := loose_lo' (u := u8) rfl h8
  have l9 : loose (envL x (dr ds2) u2 u3 u4 u5 u6 u7 u8 u9 u10 u11 u12 u13 u14 u15 u16 u17 u18) 9 = true := loose_lo' (u := u9) rfl h9
  refine (if_pos (c := ((loose (envL x (dr ds2) u2 u3 u4 u5 u6 u7 u8 u9 u10 u11 u12 u13 u14 u15 u16 u17 u18) 8 && (loose (envL x (dr ds2) u2 u3 u4 u5 u6 u7 u8 u9 u10 u11 u12 u13 u14 u15 u16 u17 u18) 9 && true)) && apart [8, 9] && decide ((2 : Nat) = 2)) = true) (by rw [l8, l9]; rfl)).trans ?_
  rfl
noncomputable abbrev st2 : DS := (sSet 3 (eTup (aCons (eOp addD (eC (.int 1)) (eCall F_law_take [true, false] (aCons (eVar 1) (aCons (eVar 9) aNil)))) (aCons (eVar 9) aNil))))
theorem S2_ok {x : D} (ds : List Int) {w : Int} {u2 u3 u4 u5 u6 u7 u8 u9 u10 u11 u12 u13 u14 u15 u16 u17 u18 : Option EV} (h3 : Lo' u3) (hw : 1 ≤ w) : ∃ m ds', 1 ≤ m ∧ m ≤ w ∧ ∀ C, st2 (envL x (dr ds) u2 u3 u4 u5 u6 u7 u8 (some (.sh (.int w))) u10 u11 u12 u13 u14 u15 u16 u17 u18) C = C.nx (envL x (dr ds') u2 (some (.sh (ru m w))) u4 u5 u6 u7 u8 (some (.sh (.int w))) u10 u11 u12 u13 u14 u15 u16 u17 u18) := by
  obtain ⟨m, ds1, ⟨z, ⟨z0, z1⟩, rfl⟩, e2⟩ := Dw.add (E := fun d => (envL x d u2 u3 u4 u5 u6 u7 u8 (some (.sh (.int w))) u10 u11 u12 u13 u14 u15 u16 u17 u18)) (a := eC (.int 1)) (x := .sh (.int 1)) (p := 1) (fun d => ⟨.c, rfl⟩) (Dw.takeV (i := 1) (j := 9) (n := w) box_L (fun _ => rfl) hw) ds
  refine ⟨1 + z, ds1, by omega, by omega, fun C => ?_⟩
  dsimp only at e2
  unfold st2
  rw [sset_raw, eTup_raw, aCons_raw, e2]
  refine Eq.trans (b := put (envL x (dr ds1) u2 u3 u4 u5 u6 u7 u8 (some (.sh (.int w))) u10 u11 u12 u13 u14 u15 u16 u17 u18) 3 (.sh (ru (1 + z) w)) C.nx) rfl ?_
  rw [put_lo' (u := u3) rfl h3]
  rfl
noncomputable abbrev cnd3 : DB := (cOr (cNot (cVal (eCall F_are_stays [false] (aCons (eVar 8) aNil)))) (cOr (cNot (cVal (eCall F_law_is_over_due [false, false] (aCons (eVar 8) (aCons (eVar 3) aNil))))) (cNot (cVal (eCall F_law_is_behind_due [true, false, false] (aCons (eVar 1) (aCons (eVar 8) (aCons (eVar 3) aNil))))))))
theorem S3_ok {x : D} (ds : List Int) {s : List (Int × Int)} {m w : Int} {u2 u3 u4 u5 u6 u7 u8 u9 u10 u11 u12 u13 u14 u15 u16 u17 u18 : Option EV} (hs : Lst s) (r : Ru m w) : ∃ ds', ∀ (k : KB) (h : KX), cnd3 (envL x (dr ds) u2 (some (.sh (ru m w))) u4 u5 u6 u7 (some (.ow (st s))) u9 u10 u11 u12 u13 u14 u15 u16 u17 u18) k h = k false (envL x (dr ds') u2 (some (.sh (ru m w))) u4 u5 u6 u7 (some (.ow (st s))) u9 u10 u11 u12 u13 u14 u15 u16 u17 u18) := by
  obtain ⟨ds1, e1⟩ := behind_due_ok hs r ds
  refine ⟨ds1, fun k h => ?_⟩
  have a1 : EvT (envL x (dr ds) u2 (some (.sh (ru m w))) u4 u5 u6 u7 (some (.ow (st s))) u9 u10 u11 u12 u13 u14 u15 u16 u17 u18) (cNot (cVal (eCall F_are_stays [false] (aCons (eVar 8) aNil)))) (!true) := .not (.val (.call (.cons (.v rfl) .nil) rfl rfl (are_stays_ok hs.ok) (.inr ⟨rfl, rfl⟩) rfl) rfl)
  have a2 : EvT (envL x (dr ds) u2 (some (.sh (ru m w))) u4 u5 u6 u7 (some (.ow (st s))) u9 u10 u11 u12 u13 u14 u15 u16 u17 u18) (cNot (cVal (eCall F_law_is_over_due [false, false] (aCons (eVar 8) (aCons (eVar 3) aNil))))) (!true) := .not (.val (.call (.cons (.v rfl) (.cons (.v rfl) .nil)) rfl rfl (over_due_ok hs r) (.inr ⟨rfl, rfl⟩) rfl) rfl)
  unfold cnd3
  rw [cOr_raw, a1, if_neg (by decide), cOr_raw, a2, if_neg (by decide), cNot_raw, cVal_raw]
  refine Eq.trans (b := opt (F_law_is_behind_due [.io (dr ds), .sh (st s), .sh (ru m w)]) _) rfl ?_
  rw [e1]
  refine (if_pos (c := (false || (true && (stills (ds1.map .int) && true))) = true) (by rw [stills_int]; rfl)).trans ?_
  rfl
theorem S4_ok {x d : D} {s : List (Int × Int)} {u2 u3 u4 u5 u6 u7 u8 u9 u10 u11 u12 u13 u14 u15 u16 u17 u18 : Option EV} (h4 : Lo' u4) (C : Conts) : sSet 4 (eIf (cCmp neD (eVar 8) (eLst aNil)) (eOp ixD (eOp ixD (eVar 8) (eUn negD (eC (.int 1)))) (eC (.int 1))) (eC (.int 0))) (envL x d u2 u3 u4 u5 u6 u7 (some (.ow (st s))) u9 u10 u11 u12 u13 u14 u15 u16 u17 u18) C = C.nx (envL x d u2 u3 (some (.sh (.int (lastD 0 s)))) u5 u6 u7 (some (.ow (st s))) u9 u10 u11 u12 u13 u14 u15 u16 u17 u18) :=
  sset_sh (u := u4) rfl h4 (last_ite (d := 0) (b := eC (.int 0)) (i := 8) (e := .ow (st s)) rfl rfl (ne_nil (i := 8) (e := .ow (st s)) rfl rfl) .c)
theorem _root_.DL.lc_dw {α : Type} {enc : α → D} {vs : List Nat} {t : DT} {c : DB} {e : DE} (E : D → Env) (P : Int → Prop) : ∀ (l : List α) (ds : List Int), (∀ a ∈ l, ∀ ds : List Int, ∃ (y : Int) (ds' : List Int) (ρ' : Env), P y ∧ bare ρ' vs = true ∧ wipe ρ' vs = E (dr ds') ∧ ∀ (kt : D → Env → Res) (kf : Env → Res), t (enc a) (E (dr ds)) (fun ρ1 => c ρ1 (fun p ρ2 => if p = true then e ρ2 (fun r ρ3 => freeze ρ3 r.w kt) noX else kf ρ2) noX) = kt (.int y) ρ') →
    ∃ (ys : List Int) (ds' : List Int), ys.length = l.length ∧ (∀ y ∈ ys, P y) ∧ ∀ (acc : List D) (k : List D → Env → Res), acc.length + l.length ≤ sizeLim → lc vs t c e k (l.map enc) (E (dr ds)) acc = k (acc ++ ys.map .int) (E (dr ds'))
  | [], ds, _ => ⟨[], ds, rfl, (fun _ h => nomatch h), fun acc k _ => by rw [List.map_nil, List.map_nil, List.append_nil]; rfl⟩
  | a :: l, ds, h => by
    obtain ⟨y, ds1, ρ', py, hb, hw, e1⟩ := h a List.mem_cons_self ds
    obtain ⟨ys, ds2, hl, hp, e2⟩ := lc_dw (vs := vs) (t := t) (c := c) (e := e) E P l ds1 fun b hb => h b (List.mem_cons_of_mem _ hb)
    refine ⟨y :: ys, ds2, by rw [List.length_cons, List.length_cons, hl], fun z hz => ?_, fun acc k hz => ?_⟩
    · rcases List.mem_cons.mp hz with rfl | hz
      · exact py
      · exact hp z hz
    · rw [List.length_cons] at hz
      refine Eq.trans (e1 (fun d ρ4 => if bare ρ4 vs && decide (acc.length < sizeLim) then lc vs t c e k (l.map enc) (wipe ρ4 vs) (acc ++ [d]) else none) (fun ρ2 => if bare ρ2 vs then lc vs t c e k (l.map enc) (wipe ρ2 vs) acc else none)) ?_
      rw [if_pos (by rw [hb, decide_eq_true (by omega)]; rfl), hw, e2 _ _ (by rw [List.length_append, List.length_singleton]; omega), List.append_assoc]
      rfl
theorem sortedD_dr (S : List Int) (hz : S.length ≤ sizeLim) : sortedD [dr S] = some (.ow (dr (S.mergeSort fun a b => decide (a ≤ b)))) := by
  have hk : sortOk (S.map .int) = true := by
    unfold sortOk
    rw [Bool.and_eq_true, Bool.and_eq_true, Bool.or_eq_true]
    refine ⟨⟨?_, .inr ?_⟩, ?_⟩
    · rw [List.all_map, List.all_eq_true]
      intro p _
      show (S.map PyData.int).all (fun b => W.alike (.int p) b) = true
      rw [List.all_map, List.all_eq_true]
      exact fun q _ => by simp [W.alike]
    · rw [List.all_map, List.all_eq_true]
      exact fun _ _ => rfl
    · rw [List.all_map, List.all_eq_true]
      exact fun p _ => rfl
  show (if sortOk (S.map .int) && decide ((S.map PyData.int).length ≤ sizeLim) then _ else none) = _
  rw [hk, List.length_map, decide_eq_true hz]
  show some (RV.ow (.list ((S.map PyData.int).mergeSort (W.dataLe false id)))) = _
  have e := List.map_mergeSort (r := fun a b => decide (a ≤ b)) (s := W.dataLe false id) (f := PyData.int) (l := S) fun p _ q _ => by
    have := W.dataLe_int (β := Int) id
    exact (congrFun (congrFun this p) q).symm
  rw [← e]
noncomputable abbrev st5 : DS := (sAsg (tSeq (tsCons (tName 10) (tsCons (tName 11) (tsCons (tName 12) tsNil)))) (eFn sortedD (aCons (eLC [7] (iRange ranged1 (aCons (eC (.int 3)) aNil)) (tName 7) yes (eCall F_law_take [true, false] (aCons (eVar 1) (aCons (eOp addD (eVar 4) (eC (.int 50))) aNil)))) aNil)))
theorem S5_ok {x : D} (ds : List Int) {l : Int} (hl : 0 ≤ l) {u2 u3 u4 u5 u6 u7 u8 u9 u10 u11 u12 u13 u14 u15 u16 u17 u18 : Option EV} (h7 : Lo u7) (h10 : Lo' u10) (h11 : Lo' u11) (h12 : Lo' u12) : ∃ a b c ds', 0 ≤ a ∧ a ≤ b ∧ b ≤ c ∧ c < l + 50 ∧ ∀ C, st5 (envL x (dr ds) u2 u3 (some (.sh (.int l))) u5 u6 u7 u8 u9 u10 u11 u12 u13 u14 u15 u16 u17 u18) C = C.nx (envL x (dr ds') u2 u3 (some (.sh (.int l))) u5 u6 u7 u8 u9 (some (.sh (.int a))) (some (.sh (.int b))) (some (.sh (.int c))) u13 u14 u15 u16 u17 u18) := by
  obtain ⟨ys, ds1, hy, hp, e1⟩ := lc_dw (enc := PyData.int) (vs := [7]) (t := tName 7) (c := yes) (e := eCall F_law_take [true, false] (aCons (eVar 1) (aCons (eOp addD (eVar 4) (eC (.int 50))) aNil))) (fun d => (envL x d u2 u3 (some (.sh (.int l))) u5 u6 none u8 u9 u10 u11 u12 u13 u14 u15 u16 u17 u18)) (fun y => 0 ≤ y ∧ y < l + 50) (rg 0 3) ds fun a _ ds => by
    obtain ⟨y, ds1, ⟨y0, n, hn, y1⟩, e⟩ := Dw.take (i := 1) (E := fun d => (envL x d u2 u3 (some (.sh (.int l))) u5 u6 (some (.sh (.int a))) u8 u9 u10 u11 u12 u13 u14 u15 u16 u17 u18)) box_L (Dw.ev (n := l + 50) (e := eOp addD (eVar 4) (eC (.int 50))) fun d => .op (.v rfl) .c rfl rfl rfl) (fun n h => by omega) ds
    refine ⟨y, ds1, (envL x (dr ds1) u2 u3 (some (.sh (.int l))) u5 u6 (some (.sh (.int a))) u8 u9 u10 u11 u12 u13 u14 u15 u16 u17 u18), by omega, rfl, rfl, fun kt kf => ?_⟩
    refine Eq.trans (e _ _) ?_
    rfl
  obtain ⟨a, b, c, hs, h1, h2, h3, h4⟩ : ∃ a b c : Int, ys.mergeSort (fun a b => decide (a ≤ b)) = [a, b, c] ∧ 0 ≤ a ∧ a ≤ b ∧ b ≤ c ∧ c < l + 50 := by
    have hlen : (ys.mergeSort fun a b => decide (a ≤ b)).length = 3 := by rw [(List.mergeSort_perm _ _).length_eq, hy]; rfl
    have hsrt := List.pairwise_mergeSort (le := fun a b : Int => decide (a ≤ b)) (fun a b c h1 h2 => by rw [decide_eq_true_eq] at *; omega) (fun a b => by rw [Bool.or_eq_true, decide_eq_true_eq, decide_eq_true_eq]; omega) ys
    have hmem : ∀ y ∈ ys.mergeSort (fun a b => decide (a ≤ b)), 0 ≤ y ∧ y < l + 50 := fun y hy => hp y ((List.mergeSort_perm _ _).mem_iff.mp hy)
    match hq : ys.mergeSort (fun a b => decide (a ≤ b)), hlen with
    | [a, b, c], _ =>
      rw [hq] at hsrt hmem
      simp only [List.pairwise_cons, List.mem_cons, List.not_mem_nil, or_false, forall_eq_or_imp, forall_eq, decide_eq_true_eq] at hsrt hmem
      exact ⟨a, b, c, rfl, by omega, by omega, by omega, by omega⟩
  refine ⟨a, b, c, ds1, h1, h2, h3, h4, fun C => ?_⟩
  unfold st5
  rw [sasg_raw, eFn_raw, aCons_raw, eLC_raw, it_range1 (i := 3) (x := .sh (.int 3)) (ds := (rg 0 3).map .int) .c rfl (ranged1_ok (by decide) (by decide))]
  have hb : bare (envL x (dr ds) u2 u3 (some (.sh (.int l))) u5 u6 u7 u8 u9 u10 u11 u12 u13 u14 u15 u16 u17 u18) [7] = true := by rcases h7 with rfl | ⟨d, rfl⟩ <;> rfl
  rw [if_pos hb, show wipe (envL x (dr ds) u2 u3 (some (.sh (.int l))) u5 u6 u7 u8 u9 u10 u11 u12 u13 u14 u15 u16 u17 u18) [7] = (envL x (dr ds) u2 u3 (some (.sh (.int l))) u5 u6 none u8 u9 u10 u11 u12 u13 u14 u15 u16 u17 u18) from rfl]
  rw [e1 _ _ (le_100 (by rw [rg_len]; decide))]
  rw [show back (envL x (dr ds) u2 u3 (some (.sh (.int l))) u5 u6 u7 u8 u9 u10 u11 u12 u13 u14 u15 u16 u17 u18) (envL x (dr ds1) u2 u3 (some (.sh (.int l))) u5 u6 none u8 u9 u10 u11 u12 u13 u14 u15 u16 u17 u18) [7] = (envL x (dr ds1) u2 u3 (some (.sh (.int l))) u5 u6 u7 u8 u9 u10 u11 u12 u13 u14 u15 u16 u17 u18) from rfl]
  refine Eq.trans (b := opt (sortedD [dr ys]) _) rfl ?_
  rw [sortedD_dr _ (le_100 (by rw [hy, rg_len]; decide)), hs]
  refine Eq.trans (b := put (envL x (dr ds1) u2 u3 (some (.sh (.int l))) u5 u6 u7 u8 u9 u10 u11 u12 u13 u14 u15 u16 u17 u18) 10 (.sh (.int a)) fun ρ1 => put ρ1 11 (.sh (.int b)) fun ρ2 => put ρ2 12 (.sh (.int c)) C.nx) rfl ?_
  rw [put_lo' (u := u10) rfl h10, put_lo' (u := u11) rfl h11, put_lo' (u := u12) rfl h12]
  rfl
theorem S7_ok {x : D} (ds : List Int) {l : Int} (hl : 0 ≤ l) {u2 u3 u4 u5 u6 u7 u8 u9 u10 u11 u12 u13 u14 u15 u16 u17 u18 : Option EV} (h5 : Lo' u5) : ∃ y ds', 0 ≤ y ∧ y < l + 50 ∧ ∀ C, sSet 5 (eCall F_law_take [true, false] (aCons (eVar 1) (aCons (eOp addD (eVar 4) (eC (.int 50))) aNil))) (envL x (dr ds) u2 u3 (some (.sh (.int l))) u5 u6 u7 u8 u9 u10 u11 u12 u13 u14 u15 u16 u17 u18) C = C.nx (envL x (dr ds') u2 u3 (some (.sh (.int l))) (some (.sh (.int y))) u6 u7 u8 u9 u10 u11 u12 u13 u14 u15 u16 u17 u18) := by
  obtain ⟨y, ds1, ⟨y0, n, hn, y1⟩, e⟩ := Dw.take (i := 1) (E := fun d => (envL x d u2 u3 (some (.sh (.int l))) u5 u6 u7 u8 u9 u10 u11 u12 u13 u14 u15 u16 u17 u18)) box_L (Dw.ev (n := l + 50) (e := eOp addD (eVar 4) (eC (.int 50))) fun d => .op (.v rfl) .c rfl rfl rfl) (fun n h => by omega) ds
  refine ⟨y, ds1, y0, by omega, fun C => ?_⟩
  rw [sset_raw]
  refine Eq.trans (e _ _) ?_
  refine Eq.trans (b := put (envL x (dr ds1) u2 u3 (some (.sh (.int l))) u5 u6 u7 u8 u9 u10 u11 u12 u13 u14 u15 u16 u17 u18) 5 (.sh (.int y)) C.nx) rfl ?_
  rw [put_lo' (u := u5) rfl h5]
  rfl
end DL.k43
set_option maxRecDepth 100000
set_option maxHeartbeats 4000000
/-! k43: law, more of its statements. -/
namespace DL.k43
open PySem
theorem sorted_step {L : List Int} (h : L.Pairwise (· < ·)) : ∀ (k i : Nat) (a b : Int), L[i]? = some a → L[i + k]? = some b → a + (k : Nat) ≤ b
  | 0, i, a, b, ha, hb => by
    rw [Nat.add_zero, ha] at hb
    cases hb
    omega
  | k + 1, i, a, b, ha, hb => by
    have hl : i + (k + 1) < L.length := (List.getElem?_eq_some_iff.mp hb).1
    have e : L[i + k]? = some (L[i + k]'(by omega)) := List.getElem?_eq_getElem _
    have h1 := sorted_step h k i a _ ha e
    have h2 := List.pairwise_iff_getElem.mp h (i + k) (i + (k + 1)) (by omega) hl (by omega)
    have h3 := (List.getElem?_eq_some_iff.mp hb).2
    omega
theorem cw_le {L : List Int} (h : L.Pairwise (· < ·)) {w d : Int} (hw : 0 ≤ w) : cw L w d ≤ w := by
  unfold cw
  have hq := upto_le L d
  by_cases hc : (upto L d : Int) - (upto L (d - w) : Int) ≤ w
  · exact hc
  · have e1 : L[upto L (d - w)]? = some (L[upto L (d - w)]'(by omega)) := List.getElem?_eq_getElem _
    have e2 : L[upto L (d - w) + w.toNat]? = some (L[upto L (d - w) + w.toNat]'(by omega)) := List.getElem?_eq_getElem _
    have h1 := sorted_step h w.toNat _ _ _ e1 e2
    have h2 := (upto_at h (d - w) _ _ e1)
    have h3 := (upto_at h d _ _ e2)
    omega
noncomputable abbrev cnd6 : DB := (cOr (cCmp neD (eOp addD (eCall F_days_in [false, false, false] (aCons (eVar 8) (aCons (eVar 10) (aCons (eVar 11) aNil)))) (eCall F_days_in [false, false, false] (aCons (eVar 8) (aCons (eOp addD (eVar 11) (eC (.int 1))) (aCons (eVar 12) aNil))))) (eCall F_days_in [false, false, false] (aCons (eVar 8) (aCons (eVar 10) (aCons (eVar 12) aNil))))) (cCmp neD (eCall F_days_in [false, false, false] (aCons (eVar 8) (aCons (eOp addD (eVar 11) (eC (.int 1))) (aCons (eVar 11) aNil)))) (eC (.int 0))))
theorem days_ev {ρ : Env} {s : List (Int × Int)} {i : Nat} {ee : EV} {ea eb : DE} {x y : RV} {a b : Int} (h : Ok s) (h0 : 0 ≤ a ∧ a ≤ 100000) (h1 : 0 ≤ b ∧ b ≤ 100000) (hv : slot ρ i = some ee) (he : argsOf ρ [false, false, false] [.vr i, x.w, y.w] = some [.sh (st s), .sh (.int a), .sh (.int b)]) (ha : Ev ρ ea x) (hb : Ev ρ eb y) :
    Ev ρ (eCall F_days_in [false, false, false] (aCons (eVar i) (aCons ea (aCons eb aNil)))) (.sh (.int (daysBy s a b))) :=
  .call (.cons (.v hv) (.cons ha (.cons hb .nil))) (by cases x <;> cases y <;> rfl) he (days_in_ok h h0 h1) (.inr ⟨rfl, rfl⟩) (by cases x <;> cases y <;> rfl)
theorem S6_ok {x d : D} {s : List (Int × Int)} {a b c : Int} {u2 u3 u4 u5 u6 u7 u8 u9 u10 u11 u12 u13 u14 u15 u16 u17 u18 : Option EV} (h : Ok s) (h0 : 0 ≤ a) (hab : a ≤ b) (hbc : b ≤ c) (hc : c < 100000) : EvT (envL x d u2 u3 u4 u5 u6 u7 (some (.ow (st s))) u9 (some (.sh (.int a))) (some (.sh (.int b))) (some (.sh (.int c))) u13 u14 u15 u16 u17 u18) cnd6 false := by
  have hd : ∀ p ∈ s, p.1 ≤ p.2 := fun p hp => (h.day p hp).2.1
  have e1 : Ev (envL x d u2 u3 u4 u5 u6 u7 (some (.ow (st s))) u9 (some (.sh (.int a))) (some (.sh (.int b))) (some (.sh (.int c))) u13 u14 u15 u16 u17 u18) (eCall F_days_in [false, false, false] (aCons (eVar 8) (aCons (eVar 10) (aCons (eVar 11) aNil)))) (.sh (.int (daysBy s a b))) := days_ev h (by omega) (by omega) rfl rfl (.v rfl) (.v rfl)
  have e2 : Ev (envL x d u2 u3 u4 u5 u6 u7 (some (.ow (st s))) u9 (some (.sh (.int a))) (some (.sh (.int b))) (some (.sh (.int c))) u13 u14 u15 u16 u17 u18) (eCall F_days_in [false, false, false] (aCons (eVar 8) (aCons (eOp addD (eVar 11) (eC (.int 1))) (aCons (eVar 12) aNil)))) (.sh (.int (daysBy s (b + 1) c))) := days_ev h (by omega) (by omega) rfl rfl (.op (r := .sh (.int (b + 1))) (.v rfl) .c rfl rfl rfl) (.v rfl)
  have e3 : Ev (envL x d u2 u3 u4 u5 u6 u7 (some (.ow (st s))) u9 (some (.sh (.int a))) (some (.sh (.int b))) (some (.sh (.int c))) u13 u14 u15 u16 u17 u18) (eCall F_days_in [false, false, false] (aCons (eVar 8) (aCons (eVar 10) (aCons (eVar 12) aNil)))) (.sh (.int (daysBy s a c))) := days_ev h (by omega) (by omega) rfl rfl (.v rfl) (.v rfl)
  have e4 : Ev (envL x d u2 u3 u4 u5 u6 u7 (some (.ow (st s))) u9 (some (.sh (.int a))) (some (.sh (.int b))) (some (.sh (.int c))) u13 u14 u15 u16 u17 u18) (eCall F_days_in [false, false, false] (aCons (eVar 8) (aCons (eOp addD (eVar 11) (eC (.int 1))) (aCons (eVar 11) aNil)))) (.sh (.int (daysBy s (b + 1) b))) := days_ev h (by omega) (by omega) rfl rfl (.op (r := .sh (.int (b + 1))) (.v rfl) .c rfl rfl rfl) (.v rfl)
  have q1 : daysBy s a b + daysBy s (b + 1) c = daysBy s a c := by
    rw [daysBy_upto hd (by omega), daysBy_upto hd (by omega), daysBy_upto hd (by omega), show b + 1 - 1 = b from by omega]
    omega
  have q2 : daysBy s (b + 1) b = 0 := by
    rw [daysBy_upto hd (by omega), show b + 1 - 1 = b from by omega]
    omega
  have r1 : EvT (envL x d u2 u3 u4 u5 u6 u7 (some (.ow (st s))) u9 (some (.sh (.int a))) (some (.sh (.int b))) (some (.sh (.int c))) u13 u14 u15 u16 u17 u18) (cCmp neD (eOp addD (eCall F_days_in [false, false, false] (aCons (eVar 8) (aCons (eVar 10) (aCons (eVar 11) aNil)))) (eCall F_days_in [false, false, false] (aCons (eVar 8) (aCons (eOp addD (eVar 11) (eC (.int 1))) (aCons (eVar 12) aNil))))) (eCall F_days_in [false, false, false] (aCons (eVar 8) (aCons (eVar 10) (aCons (eVar 12) aNil))))) (!decide (daysBy s a b + daysBy s (b + 1) c = daysBy s a c)) := .cmp (.op e1 e2 rfl rfl rfl) e3 rfl rfl (neD_int _ _)
  have r2 : EvT (envL x d u2 u3 u4 u5 u6 u7 (some (.ow (st s))) u9 (some (.sh (.int a))) (some (.sh (.int b))) (some (.sh (.int c))) u13 u14 u15 u16 u17 u18) (cCmp neD (eCall F_days_in [false, false, false] (aCons (eVar 8) (aCons (eOp addD (eVar 11) (eC (.int 1))) (aCons (eVar 11) aNil)))) (eC (.int 0))) (!decide (daysBy s (b + 1) b = 0)) := .cmp e4 .c rfl rfl (neD_int _ _)
  rw [decide_eq_true q1] at r1
  rw [decide_eq_true q2] at r2
  exact .or r1 fun _ => r2
noncomputable abbrev cnd8 : DB := (cOr (cCmp neD (eCall F_used_on [false, false, false] (aCons (eVar 8) (aCons (eVar 3) (aCons (eVar 5) aNil)))) (eCall F_days_in [false, false, false] (aCons (eVar 8) (aCons (eFn maxD (aCons (eC (.int 0)) (aCons (eOp addD (eOp subD (eVar 5) (eVar 9)) (eC (.int 1))) aNil))) (aCons (eVar 5) aNil))))) (cCmp gtD (eCall F_used_on [false, false, false] (aCons (eVar 8) (aCons (eVar 3) (aCons (eVar 5) aNil)))) (eVar 9)))
theorem S8_ok {x d : D} {s : List (Int × Int)} {m w y : Int} {u2 u3 u4 u5 u6 u7 u8 u9 u10 u11 u12 u13 u14 u15 u16 u17 u18 : Option EV} (h : Ok s) (r : Ru m w) (hy : 0 ≤ y ∧ y ≤ 100000) : EvT (envL x d u2 (some (.sh (ru m w))) u4 (some (.sh (.int y))) u6 u7 (some (.ow (st s))) (some (.sh (.int w))) u10 u11 u12 u13 u14 u15 u16 u17 u18) cnd8 false := by
  have r1 := r.lo
  have r2 := r.mid
  have hd : ∀ p ∈ s, p.1 ≤ p.2 := fun p hp => (h.day p hp).2.1
  have e1 : Ev (envL x d u2 (some (.sh (ru m w))) u4 (some (.sh (.int y))) u6 u7 (some (.ow (st s))) (some (.sh (.int w))) u10 u11 u12 u13 u14 u15 u16 u17 u18) (eCall F_used_on [false, false, false] (aCons (eVar 8) (aCons (eVar 3) (aCons (eVar 5) aNil)))) (.sh (.int (used s w y))) := .call (.cons (.v rfl) (.cons (.v rfl) (.cons (.v rfl) .nil))) rfl rfl (used_on_ok h r hy) (.inr ⟨rfl, rfl⟩) rfl
  have hlo : 0 ≤ (if y - w + 1 > 0 then y - w + 1 else 0) ∧ (if y - w + 1 > 0 then y - w + 1 else 0) ≤ 100000 := by split <;> omega
  have e2 : Ev (envL x d u2 (some (.sh (ru m w))) u4 (some (.sh (.int y))) u6 u7 (some (.ow (st s))) (some (.sh (.int w))) u10 u11 u12 u13 u14 u15 u16 u17 u18) (eCall F_days_in [false, false, false] (aCons (eVar 8) (aCons (eFn maxD (aCons (eC (.int 0)) (aCons (eOp addD (eOp subD (eVar 5) (eVar 9)) (eC (.int 1))) aNil))) (aCons (eVar 5) aNil)))) (.sh (.int (daysBy s (if y - w + 1 > 0 then y - w + 1 else 0) y))) :=
    days_ev h hlo hy rfl rfl (.fn (r := .sh (.int (if y - w + 1 > 0 then y - w + 1 else 0))) (.cons .c (.cons (.op (.op (.v rfl) (.v rfl) rfl rfl rfl) .c rfl rfl rfl) .nil)) rfl rfl) (.v rfl)
  have q1 : used s w y = daysBy s (if y - w + 1 > 0 then y - w + 1 else 0) y := by
    have z : ∀ t, t < 0 → upto (days s) t = 0 := fun t ht => by
      unfold upto
      refine List.countP_eq_zero.mpr fun e he => ?_
      obtain ⟨p, hp, h1, h2⟩ := mem_days.mp he
      have := h.day p hp
      rw [decide_eq_true_eq]
      omega
    split
    · rfl
    · show daysBy s (y - w + 1) y = _
      rw [daysBy_upto hd (by omega), daysBy_upto hd (by omega), z (y - w + 1 - 1) (by omega), z (0 - 1) (by omega)]
  have q2 : used s w y ≤ w := by
    rw [used_cw hd (by omega)]
    exact cw_le (days_sorted h.gap) (by omega)
  have c1 : EvT (envL x d u2 (some (.sh (ru m w))) u4 (some (.sh (.int y))) u6 u7 (some (.ow (st s))) (some (.sh (.int w))) u10 u11 u12 u13 u14 u15 u16 u17 u18) (cCmp neD (eCall F_used_on [false, false, false] (aCons (eVar 8) (aCons (eVar 3) (aCons (eVar 5) aNil)))) (eCall F_days_in [false, false, false] (aCons (eVar 8) (aCons (eFn maxD (aCons (eC (.int 0)) (aCons (eOp addD (eOp subD (eVar 5) (eVar 9)) (eC (.int 1))) aNil))) (aCons (eVar 5) aNil))))) (!decide (used s w y = daysBy s (if y - w + 1 > 0 then y - w + 1 else 0) y)) := .cmp e1 e2 rfl rfl (neD_int _ _)
  have c2 : EvT (envL x d u2 (some (.sh (ru m w))) u4 (some (.sh (.int y))) u6 u7 (some (.ow (st s))) (some (.sh (.int w))) u10 u11 u12 u13 u14 u15 u16 u17 u18) (cCmp gtD (eCall F_used_on [false, false, false] (aCons (eVar 8) (aCons (eVar 3) (aCons (eVar 5) aNil)))) (eVar 9)) (decide (w < used s w y)) := .cmp e1 (.v rfl) rfl rfl rfl
  rw [decide_eq_true q1] at c1
  rw [decide_eq_false (by omega)] at c2
  exact .or c1 fun _ => c2
/-! joined -/
theorem stillIn_st (s : List (Int × Int)) : stillIn (st s) = true := by
  show stills (s.map enc) = true
  induction s with
  | nil => simp [stills]
  | cons p s ih => rw [List.map_cons, stills, ih]; simp [still, stills]
theorem sum_rows {x d : D} {s : List (Int × Int)} {u2 u3 u4 u5 u6 u7 u8 u9 u10 u11 u12 u13 u14 u15 u16 u17 u18 : Option EV} (h15 : Lo u15) (h18 : Lo u18) (hz : s.length ≤ sizeLim) (k : KV) (h : KX) :
    eLC [15, 18] (iSeq (eVar 8)) (tSeq (tsCons (tName 15) (tsCons (tName 18) tsNil))) yes (eOp addD (eOp subD (eVar 18) (eVar 15)) (eC (.int 1))) (envL x d u2 u3 u4 u5 u6 u7 (some (.ow (st s))) u9 u10 u11 u12 u13 u14 u15 u16 u17 u18) k h = k (.ow (dr (s.map fun p => p.2 - p.1 + 1))) (envL x d u2 u3 u4 u5 u6 u7 (some (.sh (st s))) u9 u10 u11 u12 u13 u14 u15 u16 u17 u18) := by
  have e : lc [15, 18] (tSeq (tsCons (tName 15) (tsCons (tName 18) tsNil))) yes (eOp addD (eOp subD (eVar 18) (eVar 15)) (eC (.int 1))) (fun ds ρ2 => k (.ow (.list ds)) (back (envL x d u2 u3 u4 u5 u6 u7 (some (.sh (st s))) u9 u10 u11 u12 u13 u14 u15 u16 u17 u18) ρ2 [15, 18])) (s.map enc) (envL x d u2 u3 u4 u5 u6 u7 (some (.sh (st s))) u9 u10 u11 u12 u13 u14 none u16 u17 none) [] = k (.ow (dr (s.map fun p => p.2 - p.1 + 1))) (envL x d u2 u3 u4 u5 u6 u7 (some (.sh (st s))) u9 u10 u11 u12 u13 u14 u15 u16 u17 u18) := by
    rw [lc_all (enc := enc) (fun _ => true) (fun p => .int (p.2 - p.1 + 1)) (fun p => (envL x d u2 u3 u4 u5 u6 u7 (some (.sh (st s))) u9 u10 u11 u12 u13 u14 (some (.sh (.int p.1))) u16 u17 (some (.sh (.int p.2))))) s [] (by simpa using hz) fun p _ => ⟨rfl, rfl, fun kt kf => rfl⟩]
    rw [List.filter_eq_self.mpr (fun _ _ => rfl), List.nil_append, show (s.map fun p => PyData.int (p.2 - p.1 + 1)) = (s.map fun p => p.2 - p.1 + 1).map .int from by rw [List.map_map]; rfl]
    rfl
  rw [← e]
  rcases h15 with rfl | ⟨d15, rfl⟩ <;> rcases h18 with rfl | ⟨d18, rfl⟩ <;> rfl
noncomputable abbrev st9a : DS := (sSet 13 (eCall F_joined_stays [false, false, false] (aCons (eVar 8) (aCons (eVar 10) (aCons (eVar 11) aNil)))))
noncomputable abbrev st9b : DS := (sSet 14 (eFn sumD (aCons (eLC [15, 18] (iSeq (eVar 8)) (tSeq (tsCons (tName 15) (tsCons (tName 18) tsNil))) yes (eOp addD (eOp subD (eVar 18) (eVar 15)) (eC (.int 1)))) aNil)))
noncomputable abbrev cnd9c : DB := (cOr (cCmp neD (eCall F_days_in [false, false, false] (aCons (eVar 13) (aCons (eC (.int 0)) (aCons (eC (.int 100000)) aNil)))) (eOp subD (eOp addD (eOp subD (eOp addD (eVar 14) (eVar 11)) (eVar 10)) (eC (.int 1))) (eCall F_days_in [false, false, false] (aCons (eVar 8) (aCons (eVar 10) (aCons (eVar 11) aNil)))))) (cOr (cCmp neD (eCall F_days_in [false, false, false] (aCons (eVar 13) (aCons (eVar 10) (aCons (eVar 11) aNil)))) (eOp addD (eOp subD (eVar 11) (eVar 10)) (eC (.int 1)))) (cNot (cVal (eCall F_are_stays [false] (aCons (eVar 13) aNil))))))
noncomputable abbrev cnd9d : DB := (cOr (cCmp neD (eLC [7] (iRange ranged1 (aCons (eOp subD (eFn lenD (aCons (eVar 13) aNil)) (eC (.int 1))) aNil)) (tName 7) (cCmp geD (eOp addD (eOp ixD (eOp ixD (eVar 13) (eVar 7)) (eC (.int 1))) (eC (.int 1))) (eOp ixD (eOp ixD (eVar 13) (eOp addD (eVar 7) (eC (.int 1)))) (eC (.int 0)))) (eVar 7)) (eLst aNil)) (cCmp neD (eCall F_joined_stays [false, false, false] (aCons (eVar 13) (aCons (eVar 10) (aCons (eVar 11) aNil)))) (eVar 13)))
noncomputable abbrev st9 : DS := (sIf (cCmp ltD (eFn lenD (aCons (eVar 8) aNil)) (eC (.int 200))) (sSeq st9a (sSeq st9b (sSeq (sIf cnd9c (sRet (eC (.bool false))) sNil) (sIf cnd9d (sRet (eC (.bool false))) sNil)))) sNil)
theorem joined_len {s : List (Int × Int)} (hs : Lst s) {a b : Int} (hab : a ≤ b) : (joined s a b).length ≤ 200 := by
  have hd : ∀ p ∈ s, p.1 ≤ p.2 := fun p hp => (hs.ok.day p hp).2.1
  have := (joined_JG hd hab).len
  rw [(sort2_perm _).length_eq, List.length_append, List.length_singleton] at this
  have := hs.len
  omega
theorem sumD_dr (L : List Int) : sumD [dr L] = some (.sh (.int L.sum)) := by
  show (intsOf (L.map PyData.int)).map (fun is => RV.sh (.int is.sum)) = _
  rw [intsOf_ints]
  rfl
theorem C9_ok {x d : D} {s : List (Int × Int)} {a b mu : Int} {u2 u3 u4 u5 u6 u7 u8 u9 u10 u11 u12 u13 u14 u15 u16 u17 u18 : Option EV} (hs : Lst s) (h0 : 0 ≤ a) (hab : a ≤ b) (hb : b < 100000) (h7 : Lo u7) (hm : mu = ((days s).length : Nat)) :
    EvT (envL x d u2 u3 u4 u5 u6 u7 (some (.sh (st s))) u9 (some (.sh (.int a))) (some (.sh (.int b))) u12 (some (.ow (st (joined s a b)))) (some (.sh (.int mu))) u15 u16 u17 u18) cnd9c false ∧ EvT (envL x d u2 u3 u4 u5 u6 u7 (some (.sh (st s))) u9 (some (.sh (.int a))) (some (.sh (.int b))) u12 (some (.ow (st (joined s a b)))) (some (.sh (.int mu))) u15 u16 u17 u18) cnd9d false := by
  have h := hs.ok
  have hd : ∀ p ∈ s, p.1 ≤ p.2 := fun p hp => (h.day p hp).2.1
  have hJ := joined_ok h hs.len h0 hab (by omega)
  have gJ := joined_JG hd hab
  have j1 := joined_count h hab
  have j2 := joined_in h hab
  have j3 := daysBy_all hJ
  have j4 := joined_idem hd hab
  have j5 := joined_len hs hab
  have e1 : Ev (envL x d u2 u3 u4 u5 u6 u7 (some (.sh (st s))) u9 (some (.sh (.int a))) (some (.sh (.int b))) u12 (some (.ow (st (joined s a b)))) (some (.sh (.int mu))) u15 u16 u17 u18) (eCall F_days_in [false, false, false] (aCons (eVar 13) (aCons (eC (.int 0)) (aCons (eC (.int 100000)) aNil)))) (.sh (.int (daysBy (joined s a b) 0 100000))) := days_ev hJ (by omega) (by omega) rfl rfl .c .c
  have e2 : Ev (envL x d u2 u3 u4 u5 u6 u7 (some (.sh (st s))) u9 (some (.sh (.int a))) (some (.sh (.int b))) u12 (some (.ow (st (joined s a b)))) (some (.sh (.int mu))) u15 u16 u17 u18) (eCall F_days_in [false, false, false] (aCons (eVar 8) (aCons (eVar 10) (aCons (eVar 11) aNil)))) (.sh (.int (daysBy s a b))) := days_ev h (by omega) (by omega) rfl rfl (.v rfl) (.v rfl)
  have e3 : Ev (envL x d u2 u3 u4 u5 u6 u7 (some (.sh (st s))) u9 (some (.sh (.int a))) (some (.sh (.int b))) u12 (some (.ow (st (joined s a b)))) (some (.sh (.int mu))) u15 u16 u17 u18) (eCall F_days_in [false, false, false] (aCons (eVar 13) (aCons (eVar 10) (aCons (eVar 11) aNil)))) (.sh (.int (daysBy (joined s a b) a b))) := days_ev hJ (by omega) (by omega) rfl rfl (.v rfl) (.v rfl)
  have c1 : EvT (envL x d u2 u3 u4 u5 u6 u7 (some (.sh (st s))) u9 (some (.sh (.int a))) (some (.sh (.int b))) u12 (some (.ow (st (joined s a b)))) (some (.sh (.int mu))) u15 u16 u17 u18) (cCmp neD (eCall F_days_in [false, false, false] (aCons (eVar 13) (aCons (eC (.int 0)) (aCons (eC (.int 100000)) aNil)))) (eOp subD (eOp addD (eOp subD (eOp addD (eVar 14) (eVar 11)) (eVar 10)) (eC (.int 1))) (eCall F_days_in [false, false, false] (aCons (eVar 8) (aCons (eVar 10) (aCons (eVar 11) aNil)))))) (!decide (daysBy (joined s a b) 0 100000 = mu + b - a + 1 - daysBy s a b)) :=
    .cmp e1 (.op (.op (.op (.op (.v rfl) (.v rfl) rfl rfl rfl) (.v rfl) rfl rfl rfl) .c rfl rfl rfl) e2 rfl rfl rfl) rfl rfl (neD_int _ _)
  rw [decide_eq_true (by rw [j3, j1, hm])] at c1
  have c2 : EvT (envL x d u2 u3 u4 u5 u6 u7 (some (.sh (st s))) u9 (some (.sh (.int a))) (some (.sh (.int b))) u12 (some (.ow (st (joined s a b)))) (some (.sh (.int mu))) u15 u16 u17 u18) (cCmp neD (eCall F_days_in [false, false, false] (aCons (eVar 13) (aCons (eVar 10) (aCons (eVar 11) aNil)))) (eOp addD (eOp subD (eVar 11) (eVar 10)) (eC (.int 1)))) (!decide (daysBy (joined s a b) a b = b - a + 1)) :=
    .cmp e3 (.op (.op (.v rfl) (.v rfl) rfl rfl rfl) .c rfl rfl rfl) rfl rfl (neD_int _ _)
  rw [decide_eq_true j2] at c2
  have c3 : EvT (envL x d u2 u3 u4 u5 u6 u7 (some (.sh (st s))) u9 (some (.sh (.int a))) (some (.sh (.int b))) u12 (some (.ow (st (joined s a b)))) (some (.sh (.int mu))) u15 u16 u17 u18) (cNot (cVal (eCall F_are_stays [false] (aCons (eVar 13) aNil)))) (!true) := .not (.val (.call (.cons (.v rfl) .nil) rfl rfl (are_stays_ok hJ) (.inr ⟨rfl, rfl⟩) rfl) rfl)
  have hl : (joined s a b).length ≤ 1000000 := by omega
  have d1 : EvT (envL x d u2 u3 u4 u5 u6 u7 (some (.sh (st s))) u9 (some (.sh (.int a))) (some (.sh (.int b))) u12 (some (.ow (st (joined s a b)))) (some (.sh (.int mu))) u15 u16 u17 u18) (cCmp neD (eLC [7] (iRange ranged1 (aCons (eOp subD (eFn lenD (aCons (eVar 13) aNil)) (eC (.int 1))) aNil)) (tName 7) (cCmp geD (eOp addD (eOp ixD (eOp ixD (eVar 13) (eVar 7)) (eC (.int 1))) (eC (.int 1))) (eOp ixD (eOp ixD (eVar 13) (eOp addD (eVar 7) (eC (.int 1)))) (eC (.int 0)))) (eVar 7)) (eLst aNil)) false := by
    refine .cmp (x := .ow (.list [])) ?_ (.lstF (ds := []) .nil (fun _ => rfl) (Nat.zero_le _)) rfl rfl (neD_dr [] [])
    rcases h7 with rfl | ⟨kd, rfl⟩
    · exact gaps_none (ρ0 := (envL x d u2 u3 u4 u5 u6 none (some (.sh (st s))) u9 (some (.sh (.int a))) (some (.sh (.int b))) u12 (some (.ow (st (joined s a b)))) (some (.sh (.int mu))) u15 u16 u17 u18)) (R := joined s a b) (ee := .ow (st (joined s a b))) (fun _ => rfl) rfl (.op (.fn (.cons (.v rfl) .nil) rfl (lenD_st _)) .c rfl rfl rfl) hl rfl rfl rfl (fun _ _ => rfl) (fun _ => rfl) (fun _ => rfl) (fun _ => rfl) gJ.gap
    · exact gaps_none (ρ0 := (envL x d u2 u3 u4 u5 u6 none (some (.sh (st s))) u9 (some (.sh (.int a))) (some (.sh (.int b))) u12 (some (.ow (st (joined s a b)))) (some (.sh (.int mu))) u15 u16 u17 u18)) (R := joined s a b) (ee := .ow (st (joined s a b))) (fun _ => rfl) rfl (.op (.fn (.cons (.v rfl) .nil) rfl (lenD_st _)) .c rfl rfl rfl) hl rfl rfl rfl (fun _ _ => rfl) (fun _ => rfl) (fun _ => rfl) (fun _ => rfl) gJ.gap
  have ej : F_joined_stays [.sh (st (joined s a b)), .sh (.int a), .sh (.int b)] = some (.ret (.ow (st (joined s a b))) [none, none, none]) := by
    have := joined_stays_ok' hJ h0 hab (show b ≤ 100000 by omega) (by rw [j4]; exact j5)
    rw [j4] at this
    exact this
  have d2 : EvT (envL x d u2 u3 u4 u5 u6 u7 (some (.sh (st s))) u9 (some (.sh (.int a))) (some (.sh (.int b))) u12 (some (.ow (st (joined s a b)))) (some (.sh (.int mu))) u15 u16 u17 u18) (cCmp neD (eCall F_joined_stays [false, false, false] (aCons (eVar 13) (aCons (eVar 10) (aCons (eVar 11) aNil)))) (eVar 13)) (!decide (joined s a b = joined s a b)) :=
    .cmp (.callO (.cons (.v rfl) (.cons (.v rfl) (.cons (.v rfl) .nil))) rfl rfl ej (.inr ⟨stillIn_st _, rfl⟩) rfl) (.v rfl) rfl rfl (neD_st _ _)
  rw [decide_eq_true rfl] at d2
  exact ⟨.or c1 fun _ => .or c2 fun _ => c3, .or d1 fun _ => d2⟩
theorem S9_ok {x d : D} {s : List (Int × Int)} {a b : Int} {u2 u3 u4 u5 u6 u7 u8 u9 u10 u11 u12 u13 u14 u15 u16 u17 u18 : Option EV} (hs : Lst s) (h0 : 0 ≤ a) (hab : a ≤ b) (hb : b < 100000) (h7 : Lo u7) (h13 : Lo' u13) (h14 : Lo' u14) (h15 : Lo u15) (h18 : Lo u18) :
    ∃ u13' u14', Lo' u13' ∧ Lo' u14' ∧ ∀ C, st9 (envL x d u2 u3 u4 u5 u6 u7 (some (.ow (st s))) u9 (some (.sh (.int a))) (some (.sh (.int b))) u12 u13 u14 u15 u16 u17 u18) C = C.nx (envL x d u2 u3 u4 u5 u6 u7 (some (.sh (st s))) u9 (some (.sh (.int a))) (some (.sh (.int b))) u12 u13' u14' u15 u16 u17 u18) := by
  have h := hs.ok
  have hz : s.length ≤ sizeLim := lim_of h.len
  have e8 : EvT (envL x d u2 u3 u4 u5 u6 u7 (some (.ow (st s))) u9 (some (.sh (.int a))) (some (.sh (.int b))) u12 u13 u14 u15 u16 u17 u18) (cCmp ltD (eFn lenD (aCons (eVar 8) aNil)) (eC (.int 200))) true := by
    have h : decide (((s.length : Nat) : Int) < 200) = true := decide_eq_true (by have := hs.len; omega)
    refine .cmp (.fn (.cons (.v rfl) .nil) rfl (lenD_st s)) .c rfl rfl ?_
    show some (decide (((s.length : Nat) : Int) < 200)) = _
    rw [h]
  have e13 : Ev (envL x d u2 u3 u4 u5 u6 u7 (some (.ow (st s))) u9 (some (.sh (.int a))) (some (.sh (.int b))) u12 u13 u14 u15 u16 u17 u18) (eCall F_joined_stays [false, false, false] (aCons (eVar 8) (aCons (eVar 10) (aCons (eVar 11) aNil)))) (.ow (st (joined s a b))) :=
    .callO (.cons (.v rfl) (.cons (.v rfl) (.cons (.v rfl) .nil))) rfl rfl (joined_stays_ok h hs.len h0 hab (by omega)) (.inr ⟨stillIn_st _, rfl⟩) rfl
  refine ⟨some (.ow (st (joined s a b))), some (.sh (.int (s.map fun p => p.2 - p.1 + 1).sum)), trivial, trivial, fun C => ?_⟩
  obtain ⟨c1, c2⟩ := C9_ok (x := x) (d := d) (u7 := u7) (u8 := none) (u10 := none) (u11 := none) (u13 := none) (u14 := none) (u2 := u2) (u3 := u3) (u4 := u4) (u5 := u5) (u6 := u6) (u9 := u9) (u12 := u12) (u15 := u15) (u16 := u16) (u17 := u17) (u18 := u18) hs h0 hab hb h7 (days_len fun p hp => (h.day p hp).2.1).symm
  unfold st9 st9a st9b
  rw [if_eq e8, if_pos rfl, seq_eq, sset_ow (u := u13) rfl h13 e13]
  dsimp only
  rw [seq_eq, show (List.set (envL x d u2 u3 u4 u5 u6 u7 (some (.ow (st s))) u9 (some (.sh (.int a))) (some (.sh (.int b))) u12 u13 u14 u15 u16 u17 u18) 13 (some (.ow (st (joined s a b))))) = (envL x d u2 u3 u4 u5 u6 u7 (some (.ow (st s))) u9 (some (.sh (.int a))) (some (.sh (.int b))) u12 (some (.ow (st (joined s a b)))) u14 u15 u16 u17 u18) from rfl]
  rw [sset_raw, eFn_raw, aCons_raw, sum_rows (u8 := none) h15 h18 hz]
  refine Eq.trans (b := opt (sumD [dr (s.map fun p => p.2 - p.1 + 1)]) _) rfl ?_
  rw [sumD_dr]
  generalize (s.map fun p => p.2 - p.1 + 1).sum = mu at c1 c2 ⊢
  refine Eq.trans (b := put (envL x d u2 u3 u4 u5 u6 u7 (some (.sh (st s))) u9 (some (.sh (.int a))) (some (.sh (.int b))) u12 (some (.ow (st (joined s a b)))) u14 u15 u16 u17 u18) 14 (.sh (.int mu)) fun ρ => sSeq (sIf cnd9c (sRet (eC (.bool false))) sNil) (sIf cnd9d (sRet (eC (.bool false))) sNil) ρ C) rfl ?_
  rw [put_lo' (u := u14) rfl h14]
  rw [seq_eq]
  refine Eq.trans (sif_f c1) ?_
  exact sif_f c2
end DL.k43
set_option maxRecDepth 100000
set_option maxHeartbeats 4000000
/-! k43: law, whole. -/
namespace DL.k43
open PySem
theorem app_st {ρ : Env} {i : Nat} {H : List (Int × Int)} {e : DE} {p : Int × Int} (hs : slot ρ i = some (.ow (st H))) (he : Ev ρ e (.sh (enc p))) (hz : H.length < sizeLim) (C : Conts) : sExpr (eAppend i e) ρ C = C.nx (ρ.set i (some (.ow (st (H ++ [p]))))) := by
  unfold sExpr eAppend slotL
  rw [hs]
  show e ρ _ _ = _
  rw [he]
  show opt (slotL ρ i) _ = _
  unfold slotL
  rw [hs]
  show (if (H.map enc).length < sizeLim then _ else none) = _
  rw [if_pos (by rw [List.length_map]; exact hz), show st (H ++ [p]) = .list (H.map enc ++ [enc p]) from by show PyData.list _ = _; rw [List.map_append]; rfl]
  rfl
structure Hr (m w : Int) (i : Nat) (H : List (Int × Int)) : Prop where
  ok : Ok H
  len : H.length = i
  hi : ∀ p ∈ H, p.2 ≤ 2100 * (i : Int)
  over : over (days H) m w = []
  sum : (days H).length ≤ 1000 * i
theorem keep_snoc {H : List (Int × Int)} {m w c n : Int} (h : Ok H) (hk : over (days H) m w = []) (hc : lastOf H < c) (r : Ru m w) (hn : 1 ≤ n ∧ n ≤ m) (hf : fitsFrom H m w n.toNat c = true) : over (days (H ++ [(c, c + n - 1)])) m w = [] := by
  have hd : ∀ p ∈ H, p.1 ≤ p.2 := fun p hp => (h.day p hp).2.1
  have hL := le_last h.gap hd
  have r1 := r.mid
  have hlt := (over_snoc (s := H) (c := c) (n := n) (m := m) (w := w) (fun p hp => ⟨hd p hp, by have := hL p hp; omega⟩) hn.1 (by omega)).mpr fun i hi => fits_iff.mp hf i (by omega)
  rw [List.eq_nil_iff_forall_not_mem]
  intro x hx
  have h1 := hlt x hx
  have hx := List.mem_filter.mp hx
  have hm := of_decide_eq_true hx.2
  have hxd : x ∈ days H := by
    have := hx.1
    rw [days_snoc] at this
    rcases List.mem_append.mp this with q | q
    · exact q
    · have := mem_rg.mp q; omega
  have e : cw (days (H ++ [(c, c + n - 1)])) w x = cw (days H) w x := by
    unfold cw
    rw [days_snoc, upto_append, upto_append]
    have u1 := upto_rg' c (c + n - 1 + 1) x
    have u2 := upto_rg' c (c + n - 1 + 1) (x - w)
    omega
  have : x ∈ over (days H) m w := List.mem_filter.mpr ⟨hxd, decide_eq_true (by omega)⟩
  rw [hk] at this
  cases this
noncomputable abbrev lastE : DE := (eIf (cCmp neD (eVar 6) (eLst aNil)) (eOp ixD (eOp ixD (eVar 6) (eUn negD (eC (.int 1)))) (eC (.int 1))) (eUn negD (eC (.int 1))))
noncomputable abbrev body10 : DS := (sSeq (sSet 15 (eOp addD (eOp addD lastE (eC (.int 1))) (eCall F_law_take [true, false] (aCons (eVar 1) (aCons (eC (.int 9)) aNil)))))
  (sSeq (sSet 16 (eOp addD (eC (.int 1)) (eCall F_law_take [true, false] (aCons (eVar 1) (aCons (eOp ixD (eVar 3) (eC (.int 0))) aNil)))))
  (sSeq (sSet 17 (eCall F_first_entry [false, false, false, false] (aCons (eVar 6) (aCons (eVar 3) (aCons (eVar 15) (aCons (eVar 16) aNil))))))
  (sExpr (eAppend 6 (eTup (aCons (eVar 17) (aCons (eOp subD (eOp addD (eVar 17) (eVar 16)) (eC (.int 1))) aNil))))))))
theorem step10 {x : D} (ds : List Int) {m w : Int} {i : Nat} {H : List (Int × Int)} {u2 u3 u4 u5 u6 u7 u8 u9 u10 u11 u12 u13 u14 u15 u16 u17 u18 : Option EV} (r : Ru m w) (hH : Hr m w i H) (hi : i < 6) (h15 : Lo' u15) (h16 : Lo' u16) (h17 : Lo' u17) :
    ∃ H' ds' a b c, Hr m w (i + 1) H' ∧ ∀ C, body10 (envL x (dr ds) u2 (some (.sh (ru m w))) u4 u5 (some (.ow (st H))) u7 u8 u9 u10 u11 u12 u13 u14 u15 u16 u17 u18) C = C.nx (envL x (dr ds') u2 (some (.sh (ru m w))) u4 u5 (some (.ow (st H'))) u7 u8 u9 u10 u11 u12 u13 u14 (some (.sh (.int a))) (some (.sh (.int b))) (some (.sh (.int c))) u18) := by
  have h := hH.ok
  have r1 := r.lo
  have r2 := r.mid
  have r3 := r.hi
  have llo := lastOf_lo h
  have lhi := lastOf_hi (show (0 : Int) ≤ 2100 * (i : Int) by omega) hH.hi
  obtain ⟨come, ds1, ⟨z, ⟨z0, n0, en0, z1⟩, ec⟩, e1⟩ := Dw.add (E := fun d => (envL x d u2 (some (.sh (ru m w))) u4 u5 (some (.ow (st H))) u7 u8 u9 u10 u11 u12 u13 u14 u15 u16 u17 u18)) (a := eOp addD lastE (eC (.int 1))) (x := .sh (.int (lastOf H + 1))) (p := lastOf H + 1) (fun d => ⟨.op (last_ite (d := -1) (b := eUn negD (eC (.int 1))) (i := 6) (e := .ow (st H)) rfl rfl (ne_nil (i := 6) (e := .ow (st H)) rfl rfl) (.un (f := negD) (a := eC (.int 1)) .c rfl rfl)) .c rfl rfl rfl, rfl⟩) (Dw.take (i := 1) box_L (.c 9) (fun n h => by omega)) ds
  obtain ⟨n, ds2, ⟨z2, ⟨z20, n2, en2, z21⟩, en⟩, e2⟩ := Dw.add (E := fun d => (envL x d u2 (some (.sh (ru m w))) u4 u5 (some (.ow (st H))) u7 u8 u9 u10 u11 u12 u13 u14 (some (.sh (.int come))) u16 u17 u18)) (a := eC (.int 1)) (x := .sh (.int 1)) (p := 1) (fun d => ⟨.c, rfl⟩) (Dw.take (i := 1) box_L (Dw.ev (n := m) (e := eOp ixD (eVar 3) (eC (.int 0))) fun d => .op (.v rfl) .c rfl rfl rfl) (fun n h => by omega)) ds1
  have hc : lastOf H < come ∧ 0 ≤ come ∧ come ≤ lastOf H + 9 := by omega
  have hn : 1 ≤ n ∧ n ≤ m := by omega
  clear ec en en0 en2 z0 z1 z20 z21
  obtain ⟨entry, ee, he1, he2, he3, he4⟩ := first_entry_ok (day := come) (n := n) (free := if lastOf H + w > come then lastOf H + w else come) h r (by omega) hn hc.1 rfl
  have hfr : lastOf H + w ≤ (if lastOf H + w > come then lastOf H + w else come) ∧ (if lastOf H + w > come then lastOf H + w else come) ≤ lastOf H + 1009 := by split <;> omega
  have hfe : fitsFrom H m w n.toNat entry = true := by
    by_cases hlt : entry < (if lastOf H + w > come then lastOf H + w else come)
    · exact he3 hlt
    · exact fits_free h (by omega) (by omega) (by omega)
  generalize (if lastOf H + w > come then lastOf H + w else come) = free at *
  have hlen := hH.len
  refine ⟨H ++ [(entry, entry + n - 1)], ds2, come, n, entry, ⟨ok_snoc h (by omega) (by omega) (by omega) (by omega) (by omega), by rw [List.length_append, List.length_singleton, hlen], fun p hp => ?_, keep_snoc h hH.over (by omega) r hn hfe, by rw [days_snoc, List.length_append, rg_len]; have := hH.sum; omega⟩, fun C => ?_⟩
  · rcases List.mem_append.mp hp with hp | hp
    · have := hH.hi p hp; omega
    · rw [List.mem_singleton.mp hp]
      show entry + n - 1 ≤ _
      omega
  · dsimp only at e1 e2
    unfold body10
    rw [seq_eq, sset_raw, e1, keep_sh, put_lo' (u := u15) rfl h15]
    rw [show (List.set (envL x (dr ds1) u2 (some (.sh (ru m w))) u4 u5 (some (.ow (st H))) u7 u8 u9 u10 u11 u12 u13 u14 u15 u16 u17 u18) 15 (some (.sh (.int come)))) = (envL x (dr ds1) u2 (some (.sh (ru m w))) u4 u5 (some (.ow (st H))) u7 u8 u9 u10 u11 u12 u13 u14 (some (.sh (.int come))) u16 u17 u18) from rfl]
    dsimp only
    rw [seq_eq, sset_raw, e2, keep_sh, put_lo' (u := u16) rfl h16]
    dsimp only
    have e3 : Ev (envL x (dr ds2) u2 (some (.sh (ru m w))) u4 u5 (some (.ow (st H))) u7 u8 u9 u10 u11 u12 u13 u14 (some (.sh (.int come))) (some (.sh (.int n))) u17 u18) (eCall F_first_entry [false, false, false, false] (aCons (eVar 6) (aCons (eVar 3) (aCons (eVar 15) (aCons (eVar 16) aNil))))) (.sh (.int entry)) :=
      .call (.cons (.v rfl) (.cons (.v rfl) (.cons (.v rfl) (.cons (.v rfl) .nil)))) rfl rfl ee (.inr ⟨rfl, rfl⟩) rfl
    rw [seq_eq]
    refine Eq.trans (sset_sh (u := u17) rfl h17 e3) ?_
    dsimp only
    refine Eq.trans (app_st (H := H) (p := (entry, entry + n - 1)) rfl (.tup (ds := [.int entry, .int (entry + n - 1)]) (.cons (.v rfl) (.cons (.op (.op (.v rfl) (.v rfl) rfl rfl rfl) .c rfl rfl rfl) .nil)) (fun _ => rfl) (Nat.le_of_ble_eq_true rfl)) (by rw [hlen]; exact Nat.lt_of_lt_of_le hi (by decide)) C) ?_
    rfl
theorem S10_ok {x : D} (ds : List Int) {m w : Int} {u2 u3 u4 u5 u6 u7 u8 u9 u10 u11 u12 u13 u14 u15 u16 u17 u18 : Option EV} (r : Ru m w) (h7 : Lo u7) (h15 : Lo u15) (h16 : Lo u16) (h17 : Lo u17) :
    ∃ H ds' v7 v15 v16 v17, Hr m w 6 H ∧ Lo v7 ∧ Lo v15 ∧ Lo v16 ∧ Lo v17 ∧ ∀ C, sFor (iRange ranged1 (aCons (eC (.int 6)) aNil)) (tName 7) body10 (envL x (dr ds) u2 (some (.sh (ru m w))) u4 u5 (some (.ow (st []))) u7 u8 u9 u10 u11 u12 u13 u14 u15 u16 u17 u18) C = C.nx (envL x (dr ds') u2 (some (.sh (ru m w))) u4 u5 (some (.ow (st H))) v7 u8 u9 u10 u11 u12 u13 u14 v15 v16 v17 u18) := by
  have go : ∀ (l : List Int) (i : Nat) (H : List (Int × Int)) (ds : List Int) (v7 v15 v16 v17 : Option EV), Hr m w i H → Lo v7 → Lo v15 → Lo v16 → Lo v17 → i + l.length ≤ 6 →
      ∃ H' ds' w7 w15 w16 w17, Hr m w (i + l.length) H' ∧ Lo w7 ∧ Lo w15 ∧ Lo w16 ∧ Lo w17 ∧ ∀ C, loop (tName 7) body10 C (l.map .int) (envL x (dr ds) u2 (some (.sh (ru m w))) u4 u5 (some (.ow (st H))) v7 u8 u9 u10 u11 u12 u13 u14 v15 v16 v17 u18) = C.nx (envL x (dr ds') u2 (some (.sh (ru m w))) u4 u5 (some (.ow (st H'))) w7 u8 u9 u10 u11 u12 u13 u14 w15 w16 w17 u18) := by
    intro l
    induction l with
    | nil => intro i H ds v7 v15 v16 v17 hH l7 l15 l16 l17 hl; exact ⟨H, ds, v7, v15, v16, v17, hH, l7, l15, l16, l17, fun C => rfl⟩
    | cons a l ih =>
      intro i H ds v7 v15 v16 v17 hH l7 l15 l16 l17 hl
      rw [List.length_cons] at hl
      obtain ⟨H1, ds1, a1, b1, c1, hH1, e1⟩ := step10 (x := x) ds (u2 := u2) (u3 := none) (u4 := u4) (u5 := u5) (u6 := none) (u7 := some (.sh (.int a))) (u8 := u8) (u9 := u9) (u10 := u10) (u11 := u11) (u12 := u12) (u13 := u13) (u14 := u14) (u15 := v15) (u16 := v16) (u17 := v17) (u18 := u18) r hH (by omega) l15.weak l16.weak l17.weak
      obtain ⟨H2, ds2, w7, w15, w16, w17, hH2, k7, k15, k16, k17, e2⟩ := ih (i + 1) H1 ds1 (some (.sh (.int a))) (some (.sh (.int a1))) (some (.sh (.int b1))) (some (.sh (.int c1))) hH1 (.inr ⟨_, rfl⟩) (.inr ⟨_, rfl⟩) (.inr ⟨_, rfl⟩) (.inr ⟨_, rfl⟩) (by omega)
      refine ⟨H2, ds2, w7, w15, w16, w17, by rw [List.length_cons, show i + (l.length + 1) = i + 1 + l.length from by omega]; exact hH2, k7, k15, k16, k17, fun C => ?_⟩
      rw [← e2]
      show tName 7 (.int a) (envL x (dr ds) u2 (some (.sh (ru m w))) u4 u5 (some (.ow (st H))) v7 u8 u9 u10 u11 u12 u13 u14 v15 v16 v17 u18) _ = _
      rw [tone (u := v7) rfl l7.weak]
      exact e1 _
  obtain ⟨H, ds', w7, w15, w16, w17, hH, k7, k15, k16, k17, e⟩ := go (rg 0 6) 0 [] ds u7 u15 u16 u17 ⟨⟨Nat.zero_le _, (fun p hp => nomatch hp), .nil⟩, rfl, (fun p hp => nomatch hp), rfl, Nat.zero_le _⟩ h7 h15 h16 h17 (by rw [rg_len]; decide)
  have h6 : (rg 0 6).length = 6 := by rw [rg_len]; rfl
  rw [h6] at hH
  refine ⟨H, ds', w7, w15, w16, w17, hH, k7, k15, k16, k17, fun C => ?_⟩
  rw [for_it (it_range1 (i := 6) (x := .sh (.int 6)) (ds := (rg 0 6).map .int) .c rfl (ranged1_ok (by decide) (by decide)))]
  exact e C
noncomputable abbrev cnd11 : DB := (cCmp isNotD (eCall F_do_keep [false, false] (aCons (eVar 6) (aCons (eVar 3) aNil))) (eC (.bool true)))
theorem S11_ok {x d : D} {m w : Int} {H : List (Int × Int)} {u2 u3 u4 u5 u6 u7 u8 u9 u10 u11 u12 u13 u14 u15 u16 u17 u18 : Option EV} (r : Ru m w) (hH : Hr m w 6 H) : EvT (envL x d u2 (some (.sh (ru m w))) u4 u5 (some (.ow (st H))) u7 u8 u9 u10 u11 u12 u13 u14 u15 u16 u17 u18) cnd11 false := by
  have e := do_keep_ok hH.ok r (by have := hH.sum; omega)
  rw [hH.over, decide_eq_true (p := runs [] = []) rfl] at e
  exact .cmp (.call (.cons (.v rfl) (.cons (.v rfl) .nil)) rfl rfl e (.inr ⟨rfl, rfl⟩) rfl) .c rfl rfl (isNot_b true true)
noncomputable abbrev st4 : DS := sSet 4 (eIf (cCmp neD (eVar 8) (eLst aNil)) (eOp ixD (eOp ixD (eVar 8) (eUn negD (eC (.int 1)))) (eC (.int 1))) (eC (.int 0)))
noncomputable abbrev st7 : DS := sSet 5 (eCall F_law_take [true, false] (aCons (eVar 1) (aCons (eOp addD (eVar 4) (eC (.int 50))) aNil)))
noncomputable abbrev turn : DS := sSeq st1 (sSeq st2 (sSeq (sIf cnd3 (sRet (eC (.bool false))) sNil) (sSeq st4 (sSeq st5 (sSeq (sIf cnd6 (sRet (eC (.bool false))) sNil) (sSeq st7 (sSeq (sIf cnd8 (sRet (eC (.bool false))) sNil) (sSeq st9 (sSeq (sSet 6 (eLst aNil)) (sSeq (sFor (iRange ranged1 (aCons (eC (.int 6)) aNil)) (tName 7) body10) (sIf cnd11 (sRet (eC (.bool false))) sNil)))))))))))
def T (x : D) (ρ : Env) : Prop := ∃ (ds : List Int) (u2 u3 u4 u5 u6 u7 u8 u9 u10 u11 u12 u13 u14 u15 u16 u17 u18 : Option EV), (Lo' u2 ∧ Lo' u3 ∧ Lo' u4 ∧ Lo' u5 ∧ Lo' u6 ∧ Lo u7 ∧ Lo' u8 ∧ Lo' u9) ∧ (Lo' u10 ∧ Lo' u11 ∧ Lo' u12 ∧ Lo' u13 ∧ Lo' u14) ∧ (Lo u15 ∧ Lo u16 ∧ Lo u17 ∧ Lo u18) ∧ ρ = (envL x (dr ds) u2 u3 u4 u5 u6 u7 u8 u9 u10 u11 u12 u13 u14 u15 u16 u17 u18)
theorem turn_ok {x : D} (ds : List Int) {u2 u3 u4 u5 u6 u7 u8 u9 u10 u11 u12 u13 u14 u15 u16 u17 u18 : Option EV} (h3 : Lo' u3) (h4 : Lo' u4) (h5 : Lo' u5) (h6 : Lo' u6) (h7 : Lo u7) (h8 : Lo' u8) (h9 : Lo' u9) (h10 : Lo' u10) (h11 : Lo' u11) (h12 : Lo' u12) (h13 : Lo' u13) (h14 : Lo' u14) (h15 : Lo u15) (h16 : Lo u16) (h17 : Lo u17) (h18 : Lo u18) (h2 : Lo' u2) :
    ∃ ρ', T x ρ' ∧ ∀ C, turn (envL x (dr ds) u2 u3 u4 u5 u6 u7 u8 u9 u10 u11 u12 u13 u14 u15 u16 u17 u18) C = C.nx ρ' := by
  obtain ⟨s, w, ds1, hs, w1, w2, e1⟩ := S1_ok (x := x) ds (u2 := u2) (u3 := u3) (u4 := u4) (u5 := u5) (u6 := u6) (u7 := u7) (u8 := u8) (u9 := u9) (u10 := u10) (u11 := u11) (u12 := u12) (u13 := u13) (u14 := u14) (u15 := u15) (u16 := u16) (u17 := u17) (u18 := u18) h8 h9
  obtain ⟨m, ds2, m1, m2, e2⟩ := S2_ok (x := x) ds1 (w := w) (u2 := u2) (u3 := u3) (u4 := u4) (u5 := u5) (u6 := u6) (u7 := u7) (u8 := some (.ow (st s))) (u9 := none) (u10 := u10) (u11 := u11) (u12 := u12) (u13 := u13) (u14 := u14) (u15 := u15) (u16 := u16) (u17 := u17) (u18 := u18) h3 w1
  have r : Ru m w := ⟨m1, m2, w2⟩
  obtain ⟨ds3, e3⟩ := S3_ok (x := x) ds2 (u2 := u2) (u3 := none) (u4 := u4) (u5 := u5) (u6 := u6) (u7 := u7) (u8 := none) (u9 := some (.sh (.int w))) (u10 := u10) (u11 := u11) (u12 := u12) (u13 := u13) (u14 := u14) (u15 := u15) (u16 := u16) (u17 := u17) (u18 := u18) hs r
  have e4 := fun C => S4_ok (x := x) (d := dr ds3) (s := s) (u2 := u2) (u3 := some (.sh (ru m w))) (u4 := u4) (u5 := u5) (u6 := u6) (u7 := u7) (u8 := none) (u9 := some (.sh (.int w))) (u10 := u10) (u11 := u11) (u12 := u12) (u13 := u13) (u14 := u14) (u15 := u15) (u16 := u16) (u17 := u17) (u18 := u18) h4 C
  have hl : 0 ≤ lastD 0 s ∧ lastD 0 s ≤ 60000 := by
    unfold lastD
    rcases List.eq_nil_or_concat s with rfl | ⟨s', q, rfl⟩
    · exact ⟨Int.le_refl _, (by decide)⟩
    · rw [List.concat_eq_append] at *
      rw [List.getLast?_concat]
      have := hs.ok.day q (by simp)
      have := hs.hi q (by simp)
      simp only
      omega
  generalize lastD 0 s = la at e4 hl
  obtain ⟨a, b, c, ds5, a0, hab, hbc, hc, e5⟩ := S5_ok (x := x) ds3 (l := la) hl.1 (u2 := u2) (u3 := some (.sh (ru m w))) (u4 := none) (u5 := u5) (u6 := u6) (u7 := u7) (u8 := some (.ow (st s))) (u9 := some (.sh (.int w))) (u10 := u10) (u11 := u11) (u12 := u12) (u13 := u13) (u14 := u14) (u15 := u15) (u16 := u16) (u17 := u17) (u18 := u18) h7 h10 h11 h12
  have e6 := S6_ok (x := x) (d := dr ds5) (s := s) (a := a) (b := b) (c := c) (u2 := u2) (u3 := some (.sh (ru m w))) (u4 := some (.sh (.int la))) (u5 := u5) (u6 := u6) (u7 := u7) (u8 := none) (u9 := some (.sh (.int w))) (u10 := none) (u11 := none) (u12 := none) (u13 := u13) (u14 := u14) (u15 := u15) (u16 := u16) (u17 := u17) (u18 := u18) hs.ok a0 hab hbc (by omega)
  obtain ⟨y, ds7, y0, y1, e7⟩ := S7_ok (x := x) ds5 (l := la) hl.1 (u2 := u2) (u3 := some (.sh (ru m w))) (u4 := none) (u5 := u5) (u6 := u6) (u7 := u7) (u8 := some (.ow (st s))) (u9 := some (.sh (.int w))) (u10 := some (.sh (.int a))) (u11 := some (.sh (.int b))) (u12 := some (.sh (.int c))) (u13 := u13) (u14 := u14) (u15 := u15) (u16 := u16) (u17 := u17) (u18 := u18) h5
  have e8 := S8_ok (x := x) (d := dr ds7) (s := s) (m := m) (w := w) (y := y) (u2 := u2) (u3 := none) (u4 := some (.sh (.int la))) (u5 := none) (u6 := u6) (u7 := u7) (u8 := none) (u9 := none) (u10 := some (.sh (.int a))) (u11 := some (.sh (.int b))) (u12 := some (.sh (.int c))) (u13 := u13) (u14 := u14) (u15 := u15) (u16 := u16) (u17 := u17) (u18 := u18) hs.ok r (by omega)
  obtain ⟨v13, v14, l13, l14, e9⟩ := S9_ok (x := x) (d := dr ds7) (s := s) (a := a) (b := b) (u2 := u2) (u3 := some (.sh (ru m w))) (u4 := some (.sh (.int la))) (u5 := some (.sh (.int y))) (u6 := u6) (u7 := u7) (u8 := none) (u9 := some (.sh (.int w))) (u10 := none) (u11 := none) (u12 := some (.sh (.int c))) (u13 := u13) (u14 := u14) (u15 := u15) (u16 := u16) (u17 := u17) (u18 := u18) hs a0 hab (by omega) h7 h13 h14 h15 h18
  obtain ⟨H, ds10, v7, v15, v16, v17, hH, l7, l15, l16, l17, e10⟩ := S10_ok (x := x) ds7 (m := m) (w := w) (u2 := u2) (u3 := none) (u4 := some (.sh (.int la))) (u5 := some (.sh (.int y))) (u6 := none) (u7 := u7) (u8 := some (.sh (st s))) (u9 := some (.sh (.int w))) (u10 := some (.sh (.int a))) (u11 := some (.sh (.int b))) (u12 := some (.sh (.int c))) (u13 := v13) (u14 := v14) (u15 := u15) (u16 := u16) (u17 := u17) (u18 := u18) r h7 h15 h16 h17
  have e11 := S11_ok (x := x) (d := dr ds10) (m := m) (w := w) (H := H) (u2 := u2) (u3 := none) (u4 := some (.sh (.int la))) (u5 := some (.sh (.int y))) (u6 := none) (u7 := v7) (u8 := some (.sh (st s))) (u9 := some (.sh (.int w))) (u10 := some (.sh (.int a))) (u11 := some (.sh (.int b))) (u12 := some (.sh (.int c))) (u13 := v13) (u14 := v14) (u15 := v15) (u16 := v16) (u17 := v17) (u18 := u18) r hH
  refine ⟨_, ⟨ds10, u2, some (.sh (ru m w)), some (.sh (.int la)), some (.sh (.int y)), some (.ow (st H)), v7, some (.sh (st s)), some (.sh (.int w)), some (.sh (.int a)), some (.sh (.int b)), some (.sh (.int c)), v13, v14, v15, v16, v17, u18, ⟨h2, trivial, trivial, trivial, trivial, l7, trivial, trivial⟩, ⟨trivial, trivial, trivial, l13, l14⟩, ⟨l15, l16, l17, h18⟩, rfl⟩, fun C => ?_⟩
  unfold turn st4 st7
  rw [seq_eq, e1]
  dsimp only
  rw [seq_eq, e2]
  dsimp only
  rw [seq_eq, sif_fK e3]
  dsimp only
  rw [seq_eq, e4]
  dsimp only
  rw [seq_eq, e5]
  dsimp only
  rw [seq_eq, sif_f e6]
  dsimp only
  rw [seq_eq, e7]
  dsimp only
  rw [seq_eq, sif_f e8]
  dsimp only
  rw [seq_eq, e9]
  dsimp only
  rw [seq_eq, sset_ow (u := u6) (p := .list []) rfl h6 (.lstF .nil (fun _ => rfl) (Nat.zero_le _))]
  dsimp only
  rw [seq_eq]
  refine Eq.trans (e10 _) ?_
  exact sif_f e11
theorem hlaw (ns : List Int) (x : D) (hn : ns.length ≤ 63) (hx : x = .list (ns.map .int) ∨ x = DL.mark ns) : ∃ fin, F_law [.sh x] = some (.ret (.sh (.bool true)) fin) := by
  obtain ⟨ds, ed⟩ := draws_ok hn hx
  have lp := fun C => loop_ex (enc := PyData.int) (t := tName 2) (body := turn) (C := C) (σ := Unit) (fun _ ρ => T x ρ) (fun _ _ => ()) (rg 0 2) () (envL x (dr ds) none none none none none none none none none none none none none none none none none) ⟨ds, none, none, none, none, none, none, none, none, none, none, none, none, none, none, none, none, none, ⟨trivial, trivial, trivial, trivial, trivial, .inl rfl, trivial, trivial⟩, ⟨trivial, trivial, trivial, trivial, trivial⟩, ⟨.inl rfl, .inl rfl, .inl rfl, .inl rfl⟩, rfl⟩ (by
    rintro _ ρ a ⟨ds, u2, u3, u4, u5, u6, u7, u8, u9, u10, u11, u12, u13, u14, u15, u16, u17, u18, ⟨h2, h3, h4, h5, h6, h7, h8, h9⟩, ⟨h10, h11, h12, h13, h14⟩, ⟨h15, h16, h17, h18⟩, rfl⟩ ha
    obtain ⟨ρ', t', e⟩ := turn_ok (x := x) ds (u2 := some (.sh (.int a))) (u3 := u3) (u4 := u4) (u5 := u5) (u6 := u6) (u7 := u7) (u8 := u8) (u9 := u9) (u10 := u10) (u11 := u11) (u12 := u12) (u13 := u13) (u14 := u14) (u15 := u15) (u16 := u16) (u17 := u17) (u18 := u18) h3 h4 h5 h6 h7 h8 h9 h10 h11 h12 h13 h14 h15 h16 h17 h18 trivial
    refine ⟨ρ', t', fun kn => ?_⟩
    rw [tone (u := u2) rfl h2]
    exact e _)
  refine Exists.elim (lp { topC 1 with nx := fun ρ => sRet (eC (.bool true)) ρ (topC 1) }) fun ρ' h1 => ⟨ios 1 ρ', ?_⟩
  unfold F_law G_law dDef
  rw [if_pos (Nat.le_of_ble_eq_true rfl)]
  show sSeq _ _ [some (.sh x), none, none, none, none, none, none, none, none, none, none, none, none, none, none, none, none, none, none] (topC 1) = _
  rw [seq_eq, sset_ow (u := none) (p := dr ds) rfl trivial (.callO (.cons (.v rfl) .nil) rfl rfl ed (.inl rfl) rfl)]
  dsimp only
  rw [seq_eq, for_it (it_range1 (i := 2) (x := .sh (.int 2)) (ds := (rg 0 2).map .int) .c rfl (ranged1_ok (by decide) (by decide)))]
  refine Eq.trans h1.2 ?_
  rfl
end DL.k43
set_option maxRecDepth 100000
set_option maxHeartbeats 0
/-! The defs compute their plain functions. -/
namespace DL.k43
open PySem PySem.Spec PyProof.Rows L2
def top (i : Nat) : Stmt := PySem.Challenge.pw_borderward_k43_whole_long_stays.main.body.getD i (.Pass ⟨0, 0, 0, 0⟩)
structure Mg (mg : Str → Option Value) : Prop where
  f_abs : mg "abs" = none
  f_all : mg "all" = none
  f_any : mg "any" = none
  f_bool : mg "bool" = none
  f_dict : mg "dict" = none
  f_enumerate : mg "enumerate" = none
  f_int : mg "int" = none
  f_isinstance : mg "isinstance" = none
  f_len : mg "len" = none
  f_list : mg "list" = none
  f_max : mg "max" = none
  f_min : mg "min" = none
  f_range : mg "range" = none
  f_reversed : mg "reversed" = none
  f_sorted : mg "sorted" = none
  f_str : mg "str" = none
  f_sum : mg "sum" = none
  f_tuple : mg "tuple" = none
  f_zip : mg "zip" = none
  c_LAST_DAY : ∃ t, mg "LAST_DAY" = some (.int 100000 t)
  c_LONGEST_WINDOW : ∃ t, mg "LONGEST_WINDOW" = some (.int 1000 t)
  c_MOST_STAYS : ∃ t, mg "MOST_STAYS" = some (.int 200 t)
section
variable {P : Program} {w : World} {K : PySem.W.Frag} {mg : Str → Option Value} {base : Heap} {f : Addr} {fd : FuncData}
abbrev N_law_draws : List Str := ["script", "draws", "cell", "seed", "k", "number", "first"]
theorem sc_law_draws : FnScope N_law_draws ["script"] (defScope (top 45)) := ⟨rfl, rfl, rfl, by decide +kernel, rfl, by decide +kernel, by decide +kernel⟩
theorem body_law_draws (M : Mg mg)  (cdv : Value) (A : Around) (outer : List PySem.Env) (s : Shared) (H : Hp) (E : XK) (hr : Room 0 (A.deeper (envOfC "_law_draws" (defScope (top 45)) s.heap.objs.size f cdv))) : RSs (cxOf (L2.CX P w) P w K mg base N_law_draws "_law_draws" (defScope (top 45)) f cdv A outer s H E) (fun cls d _ H => E cls d H) (defBody (top 45)) G_law_draws := by
  have h66 : (A.deeper (envOfC "_law_draws" (defScope (top 45)) s.heap.objs.size f cdv)).units + 66 < cLine := by have := hr.un; omega
  have h65 : (A.deeper (envOfC "_law_draws" (defScope (top 45)) s.heap.objs.size f cdv)).units + 65 < cLine := by omega
  have h64 : (A.deeper (envOfC "_law_draws" (defScope (top 45)) s.heap.objs.size f cdv)).units + 64 < cLine := by omega
  have h1 : (A.deeper (envOfC "_law_draws" (defScope (top 45)) s.heap.objs.size f cdv)).units + 1 < cLine := by omega
  exact (rss_cons (rs_set (i := 1) sc_law_draws.nd (re_lst ra_nil))
  (rss_cons (rs_for (passes_of (by exact rfl)) (by exact rfl) (ri_seq (re_var (i := 0))) (rg_name (i := 2) sc_law_draws.nd) (rss_cons (rs_set (i := 5) sc_law_draws.nd (re_op op_mod modD_ok (b_int (by exact rfl) M.f_int (ra_cons (b_abs (by exact rfl) M.f_abs (ra_cons (re_var (i := 2)) ra_nil)) ra_nil)) (re_op op_pow powD_ok re_int re_int)))
  (rss_cons (rs_if (rt_cmp (op_ltD h64) ltD_ok (re_var (i := 5)) (re_op op_pow powD_ok re_int re_int)) (rss_cons (rs_set (i := 6) sc_law_draws.nd (re_op op_mod modD_ok (b_int (by exact rfl) M.f_int (ra_cons (re_op op_addD addD_ok (re_op op_mulD mulD_ok (re_var (i := 5)) re_int) re_int) ra_nil)) re_int))
  (rss_cons (rs_expr (re_append (pv (i := 1)) (re_op op_mod modD_ok (b_int (by exact rfl) M.f_int (ra_cons (re_op op_addD addD_ok (re_op op_mulD mulD_ok (re_var (i := 6)) re_int) (re_var (i := 5))) ra_nil)) re_int)))
  (rss_cons (rs_expr (re_append (pv (i := 1)) (re_op op_mod modD_ok (b_int (by exact rfl) M.f_int (ra_cons (re_op op_addD addD_ok (re_var (i := 6)) (re_op op_fdivW fdivD_ok (re_var (i := 5)) re_int)) ra_nil)) re_int)))
  (rss_one (rs_set (i := 5) sc_law_draws.nd re_int))))) rss_nil)
  (rss_one (rs_for (passes_of (by exact rfl)) (by exact rfl) (ri_range1 (by exact rfl) M.f_range (ra_cons re_int ra_nil)) (rg_name (i := 4) sc_law_draws.nd) (rss_one (rs_if (rt_cmp op_gtD gtD_ok (re_var (i := 5)) re_int) (rss_cons (rs_expr (re_append (pv (i := 1)) (re_op op_mod modD_ok (b_int (by exact rfl) M.f_int (ra_cons (re_var (i := 5)) ra_nil)) re_int)))
  (rss_one (rs_set (i := 5) sc_law_draws.nd (re_op op_fdivW fdivD_ok (re_var (i := 5)) re_int)))) rss_nil)))))))
  (rss_cons (rs_set (i := 3) sc_law_draws.nd re_int)
  (rss_cons (rs_if (rt_cmp op_gtD gtD_ok (b_len (by exact rfl) M.f_len (ra_cons (re_var (i := 0)) ra_nil)) re_int) (rss_one (rs_set (i := 3) sc_law_draws.nd (re_op op_addD addD_ok re_int (b_abs (by exact rfl) M.f_abs (ra_cons (re_ix (ix_all h1) ixD_ok (re_var (i := 0)) re_int (fun _ _ => rfl)) ra_nil))))) rss_nil)
  (rss_cons (rs_for (passes_of (by exact rfl)) (by exact rfl) (ri_range1 (by exact rfl) M.f_range (ra_cons re_int ra_nil)) (rg_name (i := 4) sc_law_draws.nd) (rss_cons (rs_set (i := 3) sc_law_draws.nd (re_op op_mod modD_ok (b_int (by exact rfl) M.f_int (ra_cons (re_op op_addD addD_ok (re_op op_mulD mulD_ok (re_var (i := 3)) re_int) re_int) ra_nil)) re_int))
  (rss_one (rs_expr (re_append (pv (i := 1)) (re_op op_fdivW fdivD_ok (re_var (i := 3)) re_int))))))
  (rss_one (rs_ret (re_listRev (by exact rfl) (by exact rfl) M.f_list (by exact rfl) M.f_reversed (re_var (i := 1))))))))))
abbrev N_law_take : List Str := ["draws", "bound"]
theorem sc_law_take : FnScope N_law_take ["draws", "bound"] (defScope (top 46)) := ⟨rfl, rfl, rfl, by decide +kernel, rfl, by decide +kernel, by decide +kernel⟩
theorem body_law_take (M : Mg mg)  (cdv : Value) (A : Around) (outer : List PySem.Env) (s : Shared) (H : Hp) (E : XK) (hr : Room 0 (A.deeper (envOfC "_law_take" (defScope (top 46)) s.heap.objs.size f cdv))) : RSs (cxOf (L2.CX P w) P w K mg base N_law_take "_law_take" (defScope (top 46)) f cdv A outer s H E) (fun cls d _ H => E cls d H) (defBody (top 46)) G_law_take := by
  have h66 : (A.deeper (envOfC "_law_take" (defScope (top 46)) s.heap.objs.size f cdv)).units + 66 < cLine := by have := hr.un; omega
  have h65 : (A.deeper (envOfC "_law_take" (defScope (top 46)) s.heap.objs.size f cdv)).units + 65 < cLine := by omega
  have h64 : (A.deeper (envOfC "_law_take" (defScope (top 46)) s.heap.objs.size f cdv)).units + 64 < cLine := by omega
  have h1 : (A.deeper (envOfC "_law_take" (defScope (top 46)) s.heap.objs.size f cdv)).units + 1 < cLine := by omega
  exact (rss_cons (rs_if (rt_cmp (op_eqD h64) eqD_ok (b_len (by exact rfl) M.f_len (ra_cons (re_var (i := 0)) ra_nil)) re_int) (rss_one (rs_ret re_int)) rss_nil)
  (rss_one (rs_ret (re_op op_mod modD_ok (b_int (by exact rfl) M.f_int (ra_cons (re_pop (pv (i := 0))) ra_nil)) (re_var (i := 1))))))
abbrev N_law_pick : List Str := ["draws", "some"]
theorem sc_law_pick : FnScope N_law_pick ["draws", "some"] (defScope (top 47)) := ⟨rfl, rfl, rfl, by decide +kernel, rfl, by decide +kernel, by decide +kernel⟩
theorem body_law_pick (M : Mg mg) (C_law_take : Fn P w K mg base 1 "_law_take" [true, false] F_law_take) (cdv : Value) (A : Around) (outer : List PySem.Env) (s : Shared) (H : Hp) (E : XK) (hr : Room 1 (A.deeper (envOfC "_law_pick" (defScope (top 47)) s.heap.objs.size f cdv))) : RSs (cxOf (L2.CX P w) P w K mg base N_law_pick "_law_pick" (defScope (top 47)) f cdv A outer s H E) (fun cls d _ H => E cls d H) (defBody (top 47)) G_law_pick := by
  have h66 : (A.deeper (envOfC "_law_pick" (defScope (top 47)) s.heap.objs.size f cdv)).units + 66 < cLine := by have := hr.un; omega
  have h65 : (A.deeper (envOfC "_law_pick" (defScope (top 47)) s.heap.objs.size f cdv)).units + 65 < cLine := by omega
  have h64 : (A.deeper (envOfC "_law_pick" (defScope (top 47)) s.heap.objs.size f cdv)).units + 64 < cLine := by omega
  have h1 : (A.deeper (envOfC "_law_pick" (defScope (top 47)) s.heap.objs.size f cdv)).units + 1 < cLine := by omega
  exact (rss_one (rs_ret (re_ix (ix_all h1) ixD_ok (re_var (i := 1)) (re_call C_law_take hr (by decide) (takes_of (by exact rfl) (by exact rfl) (by exact rfl) (by exact rfl)) (ra_cons (re_var (i := 0)) (ra_cons (b_len (by exact rfl) M.f_len (ra_cons (re_var (i := 1)) ra_nil)) ra_nil)) (by exact rfl)) (fun _ _ => rfl))))
abbrev N_law_stays : List Str := ["draws", "k", "found", "day", "leave"]
theorem sc_law_stays : FnScope N_law_stays ["draws"] (defScope (top 50)) := ⟨rfl, rfl, rfl, by decide +kernel, rfl, by decide +kernel, by decide +kernel⟩
theorem body_law_stays (M : Mg mg) (C_law_take : Fn P w K mg base 1 "_law_take" [true, false] F_law_take) (C_law_pick : Fn P w K mg base 2 "_law_pick" [true, false] F_law_pick) (cdv : Value) (A : Around) (outer : List PySem.Env) (s : Shared) (H : Hp) (E : XK) (hr : Room 2 (A.deeper (envOfC "_law_stays" (defScope (top 50)) s.heap.objs.size f cdv))) : RSs (cxOf (L2.CX P w) P w K mg base N_law_stays "_law_stays" (defScope (top 50)) f cdv A outer s H E) (fun cls d _ H => E cls d H) (defBody (top 50)) G_law_stays := by
  have h66 : (A.deeper (envOfC "_law_stays" (defScope (top 50)) s.heap.objs.size f cdv)).units + 66 < cLine := by have := hr.un; omega
  have h65 : (A.deeper (envOfC "_law_stays" (defScope (top 50)) s.heap.objs.size f cdv)).units + 65 < cLine := by omega
  have h64 : (A.deeper (envOfC "_law_stays" (defScope (top 50)) s.heap.objs.size f cdv)).units + 64 < cLine := by omega
  have h1 : (A.deeper (envOfC "_law_stays" (defScope (top 50)) s.heap.objs.size f cdv)).units + 1 < cLine := by omega
  exact (rss_cons (rs_par2 (i := 2) (j := 3) (by exact rfl) sc_law_stays.nd (rk_cons (re_lst ra_nil) (rk_cons (re_call C_law_take hr (by decide) (takes_of (by exact rfl) (by exact rfl) (by exact rfl) (by exact rfl)) (ra_cons (re_var (i := 0)) (ra_cons re_int ra_nil)) (by exact rfl)) rk_nil)))
  (rss_cons (rs_for (passes_of (by exact rfl)) (by exact rfl) (ri_range1 (by exact rfl) M.f_range (ra_cons (re_call C_law_take hr (by decide) (takes_of (by exact rfl) (by exact rfl) (by exact rfl) (by exact rfl)) (ra_cons (re_var (i := 0)) (ra_cons (re_call C_law_pick hr (by decide) (takes_of (by exact rfl) (by exact rfl) (by exact rfl) (by exact rfl)) (ra_cons (re_var (i := 0)) (ra_cons (re_lst (ra_cons re_int (ra_cons re_int (ra_cons re_int ra_nil)))) ra_nil)) (by exact rfl)) ra_nil)) (by exact rfl)) ra_nil)) (rg_name (i := 1) sc_law_stays.nd) (rss_cons (rs_set (i := 4) sc_law_stays.nd (re_op op_addD addD_ok (re_var (i := 3)) (re_call C_law_pick hr (by decide) (takes_of (by exact rfl) (by exact rfl) (by exact rfl) (by exact rfl)) (ra_cons (re_var (i := 0)) (ra_cons (re_lst (ra_cons re_int (ra_cons re_int (ra_cons re_int (ra_cons re_int (ra_cons (re_call C_law_take hr (by decide) (takes_of (by exact rfl) (by exact rfl) (by exact rfl) (by exact rfl)) (ra_cons (re_var (i := 0)) (ra_cons re_int ra_nil)) (by exact rfl)) ra_nil)))))) ra_nil)) (by exact rfl))))
  (rss_cons (rs_expr (re_append (pv (i := 2)) (re_tup (ra_cons (re_var (i := 3)) (ra_cons (re_var (i := 4)) ra_nil)))))
  (rss_one (rs_set (i := 3) sc_law_stays.nd (re_op op_addD addD_ok (re_op op_addD addD_ok (re_var (i := 4)) re_int) (re_call C_law_pick hr (by decide) (takes_of (by exact rfl) (by exact rfl) (by exact rfl) (by exact rfl)) (ra_cons (re_var (i := 0)) (ra_cons (re_lst (ra_cons re_int (ra_cons re_int (ra_cons re_int (ra_cons re_int (ra_cons (re_call C_law_take hr (by decide) (takes_of (by exact rfl) (by exact rfl) (by exact rfl) (by exact rfl)) (ra_cons (re_var (i := 0)) (ra_cons re_int ra_nil)) (by exact rfl)) ra_nil)))))) ra_nil)) (by exact rfl))))))))
  (rss_one (rs_ret (re_var (i := 2))))))
abbrev N_check : List Str := ["is_right"]
theorem sc_check : FnScope N_check ["is_right"] (defScope (top 6)) := ⟨rfl, rfl, rfl, by decide +kernel, rfl, by decide +kernel, by decide +kernel⟩
theorem body_check (M : Mg mg)  (cdv : Value) (A : Around) (outer : List PySem.Env) (s : Shared) (H : Hp) (E : XK) (hr : Room 0 (A.deeper (envOfC "check" (defScope (top 6)) s.heap.objs.size f cdv))) : RSs (cxOf (L2.CX P w) P w K mg base N_check "check" (defScope (top 6)) f cdv A outer s H E) (fun cls d _ H => E cls d H) (defBody (top 6)) G_check := by
  have h66 : (A.deeper (envOfC "check" (defScope (top 6)) s.heap.objs.size f cdv)).units + 66 < cLine := by have := hr.un; omega
  have h65 : (A.deeper (envOfC "check" (defScope (top 6)) s.heap.objs.size f cdv)).units + 65 < cLine := by omega
  have h64 : (A.deeper (envOfC "check" (defScope (top 6)) s.heap.objs.size f cdv)).units + 64 < cLine := by omega
  have h1 : (A.deeper (envOfC "check" (defScope (top 6)) s.heap.objs.size f cdv)).units + 1 < cLine := by omega
  exact (rss_one (rs_if (rt_not (rt_val (re_var (i := 0)))) (rss_one rs_never) rss_nil))
abbrev N_is_integer : List Str := ["value"]
theorem sc_is_integer : FnScope N_is_integer ["value"] (defScope (top 4)) := ⟨rfl, rfl, rfl, by decide +kernel, rfl, by decide +kernel, by decide +kernel⟩
theorem body_is_integer (M : Mg mg)  (cdv : Value) (A : Around) (outer : List PySem.Env) (s : Shared) (H : Hp) (E : XK) (hr : Room 0 (A.deeper (envOfC "is_integer" (defScope (top 4)) s.heap.objs.size f cdv))) : RSs (cxOf (L2.CX P w) P w K mg base N_is_integer "is_integer" (defScope (top 4)) f cdv A outer s H E) (fun cls d _ H => E cls d H) (defBody (top 4)) G_is_integer := by
  have h66 : (A.deeper (envOfC "is_integer" (defScope (top 4)) s.heap.objs.size f cdv)).units + 66 < cLine := by have := hr.un; omega
  have h65 : (A.deeper (envOfC "is_integer" (defScope (top 4)) s.heap.objs.size f cdv)).units + 65 < cLine := by omega
  have h64 : (A.deeper (envOfC "is_integer" (defScope (top 4)) s.heap.objs.size f cdv)).units + 64 < cLine := by omega
  have h1 : (A.deeper (envOfC "is_integer" (defScope (top 4)) s.heap.objs.size f cdv)).units + 1 < cLine := by omega
  exact (rss_one (rs_ret (re_and (re_isi (T := "int") (.inl rfl) (by exact rfl) M.f_isinstance (by decide +kernel) (by exact rfl) M.f_int (by decide +kernel) (re_var (i := 0))) (re_one (re_not (re_isi (T := "bool") (.inr (.inr (.inr (.inr (.inr rfl))))) (by exact rfl) M.f_isinstance (by decide +kernel) (by exact rfl) M.f_bool (by decide +kernel) (re_var (i := 0))))))))
abbrev N_is_within : List Str := ["value", "low", "high"]
theorem sc_is_within : FnScope N_is_within ["value", "low", "high"] (defScope (top 5)) := ⟨rfl, rfl, rfl, by decide +kernel, rfl, by decide +kernel, by decide +kernel⟩
theorem body_is_within (M : Mg mg) (C_is_integer : Fn P w K mg base 1 "is_integer" [false] F_is_integer) (cdv : Value) (A : Around) (outer : List PySem.Env) (s : Shared) (H : Hp) (E : XK) (hr : Room 1 (A.deeper (envOfC "is_within" (defScope (top 5)) s.heap.objs.size f cdv))) : RSs (cxOf (L2.CX P w) P w K mg base N_is_within "is_within" (defScope (top 5)) f cdv A outer s H E) (fun cls d _ H => E cls d H) (defBody (top 5)) G_is_within := by
  have h66 : (A.deeper (envOfC "is_within" (defScope (top 5)) s.heap.objs.size f cdv)).units + 66 < cLine := by have := hr.un; omega
  have h65 : (A.deeper (envOfC "is_within" (defScope (top 5)) s.heap.objs.size f cdv)).units + 65 < cLine := by omega
  have h64 : (A.deeper (envOfC "is_within" (defScope (top 5)) s.heap.objs.size f cdv)).units + 64 < cLine := by omega
  have h1 : (A.deeper (envOfC "is_within" (defScope (top 5)) s.heap.objs.size f cdv)).units + 1 < cLine := by omega
  exact (rss_one (rs_ret (re_and (re_call C_is_integer hr (by decide) (takes_of (by exact rfl) (by exact rfl) (by exact rfl) (by exact rfl)) (ra_cons (re_var (i := 0)) ra_nil) (by exact rfl)) (re_one (re_chain op_leD op_leD leD_ok leD_ok (re_var (i := 1)) (re_var (i := 0)) (re_var (i := 2)))))))
abbrev N_is_day_papers : List Str := ["value"]
theorem sc_is_day_papers : FnScope N_is_day_papers ["value"] (defScope (top 9)) := ⟨rfl, rfl, rfl, by decide +kernel, rfl, by decide +kernel, by decide +kernel⟩
theorem body_is_day_papers (M : Mg mg) (C_is_within : Fn P w K mg base 2 "is_within" [false, false, false] F_is_within) (cdv : Value) (A : Around) (outer : List PySem.Env) (s : Shared) (H : Hp) (E : XK) (hr : Room 2 (A.deeper (envOfC "is_day" (defScope (top 9)) s.heap.objs.size f cdv))) : RSs (cxOf (L2.CX P w) P w K mg base N_is_day_papers "is_day" (defScope (top 9)) f cdv A outer s H E) (fun cls d _ H => E cls d H) (defBody (top 9)) G_is_day_papers := by
  have h66 : (A.deeper (envOfC "is_day" (defScope (top 9)) s.heap.objs.size f cdv)).units + 66 < cLine := by have := hr.un; omega
  have h65 : (A.deeper (envOfC "is_day" (defScope (top 9)) s.heap.objs.size f cdv)).units + 65 < cLine := by omega
  have h64 : (A.deeper (envOfC "is_day" (defScope (top 9)) s.heap.objs.size f cdv)).units + 64 < cLine := by omega
  have h1 : (A.deeper (envOfC "is_day" (defScope (top 9)) s.heap.objs.size f cdv)).units + 1 < cLine := by omega
  exact (rss_one (rs_ret (re_call C_is_within hr (by decide) (takes_of (by exact rfl) (by exact rfl) (by exact rfl) (by exact rfl)) (ra_cons (re_var (i := 0)) (ra_cons re_int (ra_cons (re_glI (by exact rfl) M.c_LAST_DAY) ra_nil))) (by exact rfl))))
abbrev N_are_stays : List Str := ["value", "one", "come", "leave", "a", "b"]
theorem sc_are_stays : FnScope N_are_stays ["value"] (defScope (top 14)) := ⟨rfl, rfl, rfl, by decide +kernel, rfl, by decide +kernel, by decide +kernel⟩
theorem body_are_stays (M : Mg mg) (C_is_day_papers : Fn P w K mg base 3 "is_day_papers" [false] F_is_day_papers) (cdv : Value) (A : Around) (outer : List PySem.Env) (s : Shared) (H : Hp) (E : XK) (hr : Room 3 (A.deeper (envOfC "are_stays" (defScope (top 14)) s.heap.objs.size f cdv))) : RSs (cxOf (L2.CX P w) P w K mg base N_are_stays "are_stays" (defScope (top 14)) f cdv A outer s H E) (fun cls d _ H => E cls d H) (defBody (top 14)) G_are_stays := by
  have h66 : (A.deeper (envOfC "are_stays" (defScope (top 14)) s.heap.objs.size f cdv)).units + 66 < cLine := by have := hr.un; omega
  have h65 : (A.deeper (envOfC "are_stays" (defScope (top 14)) s.heap.objs.size f cdv)).units + 65 < cLine := by omega
  have h64 : (A.deeper (envOfC "are_stays" (defScope (top 14)) s.heap.objs.size f cdv)).units + 64 < cLine := by omega
  have h1 : (A.deeper (envOfC "are_stays" (defScope (top 14)) s.heap.objs.size f cdv)).units + 1 < cLine := by omega
  exact (rss_cons (rs_if (rt_of (rw_or (rt_not (rt_val (re_isi (T := "list") (.inr (.inr (.inl rfl))) (by exact rfl) M.f_isinstance (by decide +kernel) (by exact rfl) M.f_list (by decide +kernel) (re_var (i := 0))))) (rw_or1 (rt_cmp op_gtD gtD_ok (b_len (by exact rfl) M.f_len (ra_cons (re_var (i := 0)) ra_nil)) (re_glI (by exact rfl) M.c_MOST_STAYS))))) (rss_one (rs_ret re_bl)) rss_nil)
  (rss_cons (rs_if (rt_not (rt_val (b_all (by exact rfl) (by exact rfl) M.f_all (ra_cons (re_lc (own := [("one", 1)]) (by exact rfl) sc_are_stays.nd (ri_seq (re_var (i := 0))) (blkOk_by (N := N_are_stays) (own := [("one", 1)]) (by kernel_rfl)) (by decide) (fun _ _ _ _ _ => (rg_name (i := 1) sc_are_stays.nd)) (fun _ _ _ _ _ => rts_nil) (fun _ _ _ _ _ => (re_and (re_isi (T := "tuple") (.inr (.inr (.inr (.inl rfl)))) (by exact rfl) M.f_isinstance (by decide +kernel) (by exact rfl) M.f_tuple (by decide +kernel) (re_var (i := 1))) (re_and (re_cmp (op_eqD h64) eqD_ok (b_len (by exact rfl) M.f_len (ra_cons (re_var (i := 1)) ra_nil)) re_int) (re_and (re_call C_is_day_papers hr (by decide) takes0 (ra_cons (re_ix (ix_all h1) ixD_ok (re_var (i := 1)) re_int (fun _ _ => rfl)) ra_nil) (by exact rfl)) (re_one (re_call C_is_day_papers hr (by decide) takes0 (ra_cons (re_ix (ix_all h1) ixD_ok (re_var (i := 1)) re_int (fun _ _ => rfl)) ra_nil) (by exact rfl)))))))) ra_nil)))) (rss_one (rs_ret re_bl)) rss_nil)
  (rss_one (rs_ret (re_and (b_all (by exact rfl) (by exact rfl) M.f_all (ra_cons (re_lc (own := [("come", 2), ("leave", 3)]) (by exact rfl) sc_are_stays.nd (ri_seq (re_var (i := 0))) (blkOk_by (N := N_are_stays) (own := [("come", 2), ("leave", 3)]) (by kernel_rfl)) (by decide) (fun _ _ _ _ _ => (rg_seq (n := 2) (by exact rfl) (rgs_cons (rg_name (i := 2) sc_are_stays.nd) (rgs_cons (rg_name (i := 3) sc_are_stays.nd) rgs_nil)) (ts_name_len (ts_name_len ts_nil_len)))) (fun _ _ _ _ _ => rts_nil) (fun _ _ _ _ _ => (re_cmp op_leD leD_ok (re_var (i := 2)) (re_var (i := 3))))) ra_nil)) (re_one (b_all (by exact rfl) (by exact rfl) M.f_all (ra_cons (re_lc (own := [("a", 4), ("b", 5)]) (by exact rfl) sc_are_stays.nd (ri_zip (by exact rfl) M.f_zip (ra_cons (re_var (i := 0)) (ra_cons (re_sl (re_var (i := 0)) (rp_at re_int) rp_no) ra_nil))) (blkOk_by (N := N_are_stays) (own := [("a", 4), ("b", 5)]) (by kernel_rfl)) (by decide) (fun _ _ _ _ _ => (rg_seq (n := 2) (by exact rfl) (rgs_cons (rg_name (i := 4) sc_are_stays.nd) (rgs_cons (rg_name (i := 5) sc_are_stays.nd) rgs_nil)) (ts_name_len (ts_name_len ts_nil_len)))) (fun _ _ _ _ _ => rts_nil) (fun _ _ _ _ _ => (re_cmp (op_ltD h64) ltD_ok (re_ix (ix_all h1) ixD_ok (re_var (i := 4)) re_int (fun _ _ => rfl)) (re_ix (ix_all h1) ixD_ok (re_var (i := 5)) re_int (fun _ _ => rfl))))) ra_nil))))))))
abbrev N_joined_stays : List Str := ["stays", "come", "leave", "found", "first", "last"]
theorem sc_joined_stays : FnScope N_joined_stays ["stays", "come", "leave"] (defScope (top 32)) := ⟨rfl, rfl, rfl, by decide +kernel, rfl, by decide +kernel, by decide +kernel⟩
theorem body_joined_stays (M : Mg mg) (C_check : Fn P w K mg base 1 "check" [false] F_check) (C_are_stays : Fn P w K mg base 4 "are_stays" [false] F_are_stays) (C_is_day_papers : Fn P w K mg base 3 "is_day_papers" [false] F_is_day_papers) (cdv : Value) (A : Around) (outer : List PySem.Env) (s : Shared) (H : Hp) (E : XK) (hr : Room 4 (A.deeper (envOfC "joined_stays" (defScope (top 32)) s.heap.objs.size f cdv))) : RSs (cxOf (L2.CX P w) P w K mg base N_joined_stays "joined_stays" (defScope (top 32)) f cdv A outer s H E) (fun cls d _ H => E cls d H) (defBody (top 32)) G_joined_stays := by
  have h66 : (A.deeper (envOfC "joined_stays" (defScope (top 32)) s.heap.objs.size f cdv)).units + 66 < cLine := by have := hr.un; omega
  have h65 : (A.deeper (envOfC "joined_stays" (defScope (top 32)) s.heap.objs.size f cdv)).units + 65 < cLine := by omega
  have h64 : (A.deeper (envOfC "joined_stays" (defScope (top 32)) s.heap.objs.size f cdv)).units + 64 < cLine := by omega
  have h1 : (A.deeper (envOfC "joined_stays" (defScope (top 32)) s.heap.objs.size f cdv)).units + 1 < cLine := by omega
  exact (rss_cons (rs_expr (re_call C_check hr (by decide) (takes_of (by exact rfl) (by exact rfl) (by exact rfl) (by exact rfl)) (ra_cons (re_call C_are_stays hr (by decide) (takes_of (by exact rfl) (by exact rfl) (by exact rfl) (by exact rfl)) (ra_cons (re_var (i := 0)) ra_nil) (by exact rfl)) ra_nil) (by exact rfl)))
  (rss_cons (rs_expr (re_call C_check hr (by decide) (takes_of (by exact rfl) (by exact rfl) (by exact rfl) (by exact rfl)) (ra_cons (re_and (re_call C_is_day_papers hr (by decide) (takes_of (by exact rfl) (by exact rfl) (by exact rfl) (by exact rfl)) (ra_cons (re_var (i := 1)) ra_nil) (by exact rfl)) (re_and (re_call C_is_day_papers hr (by decide) (takes_of (by exact rfl) (by exact rfl) (by exact rfl) (by exact rfl)) (ra_cons (re_var (i := 2)) ra_nil) (by exact rfl)) (re_one (re_cmp op_leD leD_ok (re_var (i := 1)) (re_var (i := 2)))))) ra_nil) (by exact rfl)))
  (rss_cons (rs_set (i := 3) sc_joined_stays.nd (re_lst ra_nil))
  (rss_cons (rs_for (passes_of (by exact rfl)) (by exact rfl) (ri_seq (b_sorted h66 (by exact rfl) M.f_sorted (ra_cons (re_lst (ra_star (re_var (i := 0)) (ra_cons (re_tup (ra_cons (re_var (i := 1)) (ra_cons (re_var (i := 2)) ra_nil))) ra_nil))) ra_nil))) (rg_seq (n := 2) (by exact rfl) (rgs_cons (rg_name (i := 4) sc_joined_stays.nd) (rgs_cons (rg_name (i := 5) sc_joined_stays.nd) rgs_nil)) (ts_name_len (ts_name_len ts_nil_len))) (rss_one (rs_if (rt_of (rw_and (rt_cmp op_gtD gtD_ok (b_len (by exact rfl) M.f_len (ra_cons (re_var (i := 3)) ra_nil)) re_int) (rw_and1 (rt_cmp op_leD leD_ok (re_var (i := 4)) (re_op op_addD addD_ok (re_ix (ix_all h1) ixD_ok (re_ix (ix_all h1) ixD_ok (re_var (i := 3)) (re_un un_neg negD_ok re_int) (fun _ _ => rfl)) re_int (fun _ _ => rfl)) re_int))))) (rss_one (rs_setIx h1 (pv (i := 3)) (re_un un_neg negD_ok re_int) (re_tup (ra_cons (re_ix (ix_all h1) ixD_ok (re_ix (ix_all h1) ixD_ok (re_var (i := 3)) (re_un un_neg negD_ok re_int) (fun _ _ => rfl)) re_int (fun _ _ => rfl)) (ra_cons (b_max2 (by exact rfl) (by exact rfl) M.f_max (ra_cons (re_ix (ix_all h1) ixD_ok (re_ix (ix_all h1) ixD_ok (re_var (i := 3)) (re_un un_neg negD_ok re_int) (fun _ _ => rfl)) re_int (fun _ _ => rfl)) (ra_cons (re_var (i := 5)) ra_nil))) ra_nil))))) (rss_one (rs_expr (re_append (pv (i := 3)) (re_tup (ra_cons (re_var (i := 4)) (ra_cons (re_var (i := 5)) ra_nil)))))))))
  (rss_cons (rs_if (rt_cmp op_gtD gtD_ok (b_len (by exact rfl) M.f_len (ra_cons (re_var (i := 3)) ra_nil)) (re_glI (by exact rfl) M.c_MOST_STAYS)) (rss_one rs_never) rss_nil)
  (rss_one (rs_ret (re_var (i := 3)))))))))
abbrev N_is_rule_stays : List Str := ["value"]
theorem sc_is_rule_stays : FnScope N_is_rule_stays ["value"] (defScope (top 15)) := ⟨rfl, rfl, rfl, by decide +kernel, rfl, by decide +kernel, by decide +kernel⟩
theorem body_is_rule_stays (M : Mg mg) (C_is_within : Fn P w K mg base 2 "is_within" [false, false, false] F_is_within) (cdv : Value) (A : Around) (outer : List PySem.Env) (s : Shared) (H : Hp) (E : XK) (hr : Room 2 (A.deeper (envOfC "is_rule" (defScope (top 15)) s.heap.objs.size f cdv))) : RSs (cxOf (L2.CX P w) P w K mg base N_is_rule_stays "is_rule" (defScope (top 15)) f cdv A outer s H E) (fun cls d _ H => E cls d H) (defBody (top 15)) G_is_rule_stays := by
  have h66 : (A.deeper (envOfC "is_rule" (defScope (top 15)) s.heap.objs.size f cdv)).units + 66 < cLine := by have := hr.un; omega
  have h65 : (A.deeper (envOfC "is_rule" (defScope (top 15)) s.heap.objs.size f cdv)).units + 65 < cLine := by omega
  have h64 : (A.deeper (envOfC "is_rule" (defScope (top 15)) s.heap.objs.size f cdv)).units + 64 < cLine := by omega
  have h1 : (A.deeper (envOfC "is_rule" (defScope (top 15)) s.heap.objs.size f cdv)).units + 1 < cLine := by omega
  exact (rss_cons (rs_if (rt_of (rw_or (rt_not (rt_val (re_isi (T := "tuple") (.inr (.inr (.inr (.inl rfl)))) (by exact rfl) M.f_isinstance (by decide +kernel) (by exact rfl) M.f_tuple (by decide +kernel) (re_var (i := 0))))) (rw_or (rt_cmp (op_neD h64) neD_ok (b_len (by exact rfl) M.f_len (ra_cons (re_var (i := 0)) ra_nil)) re_int) (rw_or1 (rt_not (rt_val (re_call C_is_within hr (by decide) (takes_of (by exact rfl) (by exact rfl) (by exact rfl) (by exact rfl)) (ra_cons (re_ix (ix_all h1) ixD_ok (re_var (i := 0)) re_int (fun _ _ => rfl)) (ra_cons re_int (ra_cons (re_glI (by exact rfl) M.c_LONGEST_WINDOW) ra_nil))) (by exact rfl)))))))) (rss_one (rs_ret re_bl)) rss_nil)
  (rss_one (rs_ret (re_call C_is_within hr (by decide) (takes_of (by exact rfl) (by exact rfl) (by exact rfl) (by exact rfl)) (ra_cons (re_ix (ix_all h1) ixD_ok (re_var (i := 0)) re_int (fun _ _ => rfl)) (ra_cons re_int (ra_cons (re_ix (ix_all h1) ixD_ok (re_var (i := 0)) re_int (fun _ _ => rfl)) ra_nil))) (by exact rfl)))))
abbrev N_check_stays : List Str := ["stays", "rule"]
theorem sc_check_stays : FnScope N_check_stays ["stays", "rule"] (defScope (top 17)) := ⟨rfl, rfl, rfl, by decide +kernel, rfl, by decide +kernel, by decide +kernel⟩
theorem body_check_stays (M : Mg mg) (C_check : Fn P w K mg base 1 "check" [false] F_check) (C_are_stays : Fn P w K mg base 4 "are_stays" [false] F_are_stays) (C_is_rule_stays : Fn P w K mg base 3 "is_rule_stays" [false] F_is_rule_stays) (cdv : Value) (A : Around) (outer : List PySem.Env) (s : Shared) (H : Hp) (E : XK) (hr : Room 4 (A.deeper (envOfC "check_stays" (defScope (top 17)) s.heap.objs.size f cdv))) : RSs (cxOf (L2.CX P w) P w K mg base N_check_stays "check_stays" (defScope (top 17)) f cdv A outer s H E) (fun cls d _ H => E cls d H) (defBody (top 17)) G_check_stays := by
  have h66 : (A.deeper (envOfC "check_stays" (defScope (top 17)) s.heap.objs.size f cdv)).units + 66 < cLine := by have := hr.un; omega
  have h65 : (A.deeper (envOfC "check_stays" (defScope (top 17)) s.heap.objs.size f cdv)).units + 65 < cLine := by omega
  have h64 : (A.deeper (envOfC "check_stays" (defScope (top 17)) s.heap.objs.size f cdv)).units + 64 < cLine := by omega
  have h1 : (A.deeper (envOfC "check_stays" (defScope (top 17)) s.heap.objs.size f cdv)).units + 1 < cLine := by omega
  exact (rss_cons (rs_expr (re_call C_check hr (by decide) (takes_of (by exact rfl) (by exact rfl) (by exact rfl) (by exact rfl)) (ra_cons (re_call C_are_stays hr (by decide) (takes_of (by exact rfl) (by exact rfl) (by exact rfl) (by exact rfl)) (ra_cons (re_var (i := 0)) ra_nil) (by exact rfl)) ra_nil) (by exact rfl)))
  (rss_one (rs_expr (re_call C_check hr (by decide) (takes_of (by exact rfl) (by exact rfl) (by exact rfl) (by exact rfl)) (ra_cons (re_call C_is_rule_stays hr (by decide) (takes_of (by exact rfl) (by exact rfl) (by exact rfl) (by exact rfl)) (ra_cons (re_var (i := 1)) ra_nil) (by exact rfl)) ra_nil) (by exact rfl)))))
abbrev N_last_of : List Str := ["stays"]
theorem sc_last_of : FnScope N_last_of ["stays"] (defScope (top 24)) := ⟨rfl, rfl, rfl, by decide +kernel, rfl, by decide +kernel, by decide +kernel⟩
theorem body_last_of (M : Mg mg)  (cdv : Value) (A : Around) (outer : List PySem.Env) (s : Shared) (H : Hp) (E : XK) (hr : Room 0 (A.deeper (envOfC "last_of" (defScope (top 24)) s.heap.objs.size f cdv))) : RSs (cxOf (L2.CX P w) P w K mg base N_last_of "last_of" (defScope (top 24)) f cdv A outer s H E) (fun cls d _ H => E cls d H) (defBody (top 24)) G_last_of := by
  have h66 : (A.deeper (envOfC "last_of" (defScope (top 24)) s.heap.objs.size f cdv)).units + 66 < cLine := by have := hr.un; omega
  have h65 : (A.deeper (envOfC "last_of" (defScope (top 24)) s.heap.objs.size f cdv)).units + 65 < cLine := by omega
  have h64 : (A.deeper (envOfC "last_of" (defScope (top 24)) s.heap.objs.size f cdv)).units + 64 < cLine := by omega
  have h1 : (A.deeper (envOfC "last_of" (defScope (top 24)) s.heap.objs.size f cdv)).units + 1 < cLine := by omega
  exact (rss_one (rs_ret (re_if (rt_cmp op_gtD gtD_ok (b_len (by exact rfl) M.f_len (ra_cons (re_var (i := 0)) ra_nil)) re_int) (re_ix (ix_all h1) ixD_ok (re_ix (ix_all h1) ixD_ok (re_var (i := 0)) (re_un un_neg negD_ok re_int) (fun _ _ => rfl)) re_int (fun _ _ => rfl)) (re_un un_neg negD_ok re_int))))
abbrev N_check_behind : List Str := ["stays", "day"]
theorem sc_check_behind : FnScope N_check_behind ["stays", "day"] (defScope (top 25)) := ⟨rfl, rfl, rfl, by decide +kernel, rfl, by decide +kernel, by decide +kernel⟩
theorem body_check_behind (M : Mg mg) (C_last_of : Fn P w K mg base 1 "last_of" [false] F_last_of) (cdv : Value) (A : Around) (outer : List PySem.Env) (s : Shared) (H : Hp) (E : XK) (hr : Room 1 (A.deeper (envOfC "check_behind" (defScope (top 25)) s.heap.objs.size f cdv))) : RSs (cxOf (L2.CX P w) P w K mg base N_check_behind "check_behind" (defScope (top 25)) f cdv A outer s H E) (fun cls d _ H => E cls d H) (defBody (top 25)) G_check_behind := by
  have h66 : (A.deeper (envOfC "check_behind" (defScope (top 25)) s.heap.objs.size f cdv)).units + 66 < cLine := by have := hr.un; omega
  have h65 : (A.deeper (envOfC "check_behind" (defScope (top 25)) s.heap.objs.size f cdv)).units + 65 < cLine := by omega
  have h64 : (A.deeper (envOfC "check_behind" (defScope (top 25)) s.heap.objs.size f cdv)).units + 64 < cLine := by omega
  have h1 : (A.deeper (envOfC "check_behind" (defScope (top 25)) s.heap.objs.size f cdv)).units + 1 < cLine := by omega
  exact (rss_one (rs_if (rt_cmp op_leD leD_ok (re_var (i := 1)) (re_call C_last_of hr (by decide) (takes_of (by exact rfl) (by exact rfl) (by exact rfl) (by exact rfl)) (ra_cons (re_var (i := 0)) ra_nil) (by exact rfl))) (rss_one rs_never) rss_nil))
abbrev N_days_by : List Str := ["stays", "a", "b", "come", "leave"]
theorem sc_days_by : FnScope N_days_by ["stays", "a", "b"] (defScope (top 18)) := ⟨rfl, rfl, rfl, by decide +kernel, rfl, by decide +kernel, by decide +kernel⟩
theorem body_days_by (M : Mg mg)  (cdv : Value) (A : Around) (outer : List PySem.Env) (s : Shared) (H : Hp) (E : XK) (hr : Room 0 (A.deeper (envOfC "days_by" (defScope (top 18)) s.heap.objs.size f cdv))) : RSs (cxOf (L2.CX P w) P w K mg base N_days_by "days_by" (defScope (top 18)) f cdv A outer s H E) (fun cls d _ H => E cls d H) (defBody (top 18)) G_days_by := by
  have h66 : (A.deeper (envOfC "days_by" (defScope (top 18)) s.heap.objs.size f cdv)).units + 66 < cLine := by have := hr.un; omega
  have h65 : (A.deeper (envOfC "days_by" (defScope (top 18)) s.heap.objs.size f cdv)).units + 65 < cLine := by omega
  have h64 : (A.deeper (envOfC "days_by" (defScope (top 18)) s.heap.objs.size f cdv)).units + 64 < cLine := by omega
  have h1 : (A.deeper (envOfC "days_by" (defScope (top 18)) s.heap.objs.size f cdv)).units + 1 < cLine := by omega
  exact (rss_one (rs_ret (b_sum (by exact rfl) (by exact rfl) M.f_sum (ra_cons (re_lc (own := [("come", 3), ("leave", 4)]) (by exact rfl) sc_days_by.nd (ri_seq (re_var (i := 0))) (blkOk_by (N := N_days_by) (own := [("come", 3), ("leave", 4)]) (by kernel_rfl)) (by decide) (fun _ _ _ _ _ => (rg_seq (n := 2) (by exact rfl) (rgs_cons (rg_name (i := 3) sc_days_by.nd) (rgs_cons (rg_name (i := 4) sc_days_by.nd) rgs_nil)) (ts_name_len (ts_name_len ts_nil_len)))) (fun _ _ _ _ _ => rts_nil) (fun _ _ _ _ _ => (b_max2 (by exact rfl) (by exact rfl) M.f_max (ra_cons re_int (ra_cons (re_op op_addD addD_ok (re_op op_sub subD_ok (b_min2 (by exact rfl) (by exact rfl) M.f_min (ra_cons (re_var (i := 4)) (ra_cons (re_var (i := 2)) ra_nil))) (b_max2 (by exact rfl) (by exact rfl) M.f_max (ra_cons (re_var (i := 3)) (ra_cons (re_var (i := 1)) ra_nil)))) re_int) ra_nil))))) ra_nil))))
abbrev N_used_by : List Str := ["stays", "window", "day"]
theorem sc_used_by : FnScope N_used_by ["stays", "window", "day"] (defScope (top 19)) := ⟨rfl, rfl, rfl, by decide +kernel, rfl, by decide +kernel, by decide +kernel⟩
theorem body_used_by (M : Mg mg) (C_days_by : Fn P w K mg base 1 "days_by" [false, false, false] F_days_by) (cdv : Value) (A : Around) (outer : List PySem.Env) (s : Shared) (H : Hp) (E : XK) (hr : Room 1 (A.deeper (envOfC "used_by" (defScope (top 19)) s.heap.objs.size f cdv))) : RSs (cxOf (L2.CX P w) P w K mg base N_used_by "used_by" (defScope (top 19)) f cdv A outer s H E) (fun cls d _ H => E cls d H) (defBody (top 19)) G_used_by := by
  have h66 : (A.deeper (envOfC "used_by" (defScope (top 19)) s.heap.objs.size f cdv)).units + 66 < cLine := by have := hr.un; omega
  have h65 : (A.deeper (envOfC "used_by" (defScope (top 19)) s.heap.objs.size f cdv)).units + 65 < cLine := by omega
  have h64 : (A.deeper (envOfC "used_by" (defScope (top 19)) s.heap.objs.size f cdv)).units + 64 < cLine := by omega
  have h1 : (A.deeper (envOfC "used_by" (defScope (top 19)) s.heap.objs.size f cdv)).units + 1 < cLine := by omega
  exact (rss_one (rs_ret (re_call C_days_by hr (by decide) (takes_of (by exact rfl) (by exact rfl) (by exact rfl) (by exact rfl)) (ra_cons (re_var (i := 0)) (ra_cons (re_op op_addD addD_ok (re_op op_sub subD_ok (re_var (i := 2)) (re_var (i := 1))) re_int) (ra_cons (re_var (i := 2)) ra_nil))) (by exact rfl))))
abbrev N_first_entry : List Str := ["stays", "rule", "day", "n", "free", "old", "come", "most", "window", "one", "k"]
theorem sc_first_entry : FnScope N_first_entry ["stays", "rule", "day", "n"] (defScope (top 28)) := ⟨rfl, rfl, rfl, by decide +kernel, rfl, by decide +kernel, by decide +kernel⟩
theorem body_first_entry (M : Mg mg) (C_check_stays : Fn P w K mg base 5 "check_stays" [false, false] F_check_stays) (C_check : Fn P w K mg base 1 "check" [false] F_check) (C_check_behind : Fn P w K mg base 2 "check_behind" [false, false] F_check_behind) (C_is_day_papers : Fn P w K mg base 3 "is_day_papers" [false] F_is_day_papers) (C_is_within : Fn P w K mg base 2 "is_within" [false, false, false] F_is_within) (C_used_by : Fn P w K mg base 2 "used_by" [false, false, false] F_used_by) (C_last_of : Fn P w K mg base 1 "last_of" [false] F_last_of) (cdv : Value) (A : Around) (outer : List PySem.Env) (s : Shared) (H : Hp) (E : XK) (hr : Room 5 (A.deeper (envOfC "first_entry" (defScope (top 28)) s.heap.objs.size f cdv))) : RSs (cxOf (L2.CX P w) P w K mg base N_first_entry "first_entry" (defScope (top 28)) f cdv A outer s H E) (fun cls d _ H => E cls d H) (defBody (top 28)) G_first_entry := by
  have h66 : (A.deeper (envOfC "first_entry" (defScope (top 28)) s.heap.objs.size f cdv)).units + 66 < cLine := by have := hr.un; omega
  have h65 : (A.deeper (envOfC "first_entry" (defScope (top 28)) s.heap.objs.size f cdv)).units + 65 < cLine := by omega
  have h64 : (A.deeper (envOfC "first_entry" (defScope (top 28)) s.heap.objs.size f cdv)).units + 64 < cLine := by omega
  have h1 : (A.deeper (envOfC "first_entry" (defScope (top 28)) s.heap.objs.size f cdv)).units + 1 < cLine := by omega
  exact (rss_cons (rs_expr (re_call C_check_stays hr (by decide) (takes_of (by exact rfl) (by exact rfl) (by exact rfl) (by exact rfl)) (ra_cons (re_var (i := 0)) (ra_cons (re_var (i := 1)) ra_nil)) (by exact rfl)))
  (rss_cons (rs_expr (re_call C_check hr (by decide) (takes_of (by exact rfl) (by exact rfl) (by exact rfl) (by exact rfl)) (ra_cons (re_call C_is_day_papers hr (by decide) (takes_of (by exact rfl) (by exact rfl) (by exact rfl) (by exact rfl)) (ra_cons (re_var (i := 2)) ra_nil) (by exact rfl)) ra_nil) (by exact rfl)))
  (rss_cons (rs_expr (re_call C_check hr (by decide) (takes_of (by exact rfl) (by exact rfl) (by exact rfl) (by exact rfl)) (ra_cons (re_call C_is_within hr (by decide) (takes_of (by exact rfl) (by exact rfl) (by exact rfl) (by exact rfl)) (ra_cons (re_var (i := 3)) (ra_cons re_int (ra_cons (re_ix (ix_all h1) ixD_ok (re_var (i := 1)) re_int (fun _ _ => rfl)) ra_nil))) (by exact rfl)) ra_nil) (by exact rfl)))
  (rss_cons (rs_expr (re_call C_check_behind hr (by decide) (takes_of (by exact rfl) (by exact rfl) (by exact rfl) (by exact rfl)) (ra_cons (re_var (i := 0)) (ra_cons (re_var (i := 2)) ra_nil)) (by exact rfl)))
  (rss_cons (rs_asg (re_var (i := 1)) (rg_seq (n := 2) (by exact rfl) (rgs_cons (rg_name (i := 7) sc_first_entry.nd) (rgs_cons (rg_name (i := 8) sc_first_entry.nd) rgs_nil)) (ts_name_len (ts_name_len ts_nil_len))))
  (rss_cons (rs_set (i := 4) sc_first_entry.nd (b_max2 (by exact rfl) (by exact rfl) M.f_max (ra_cons (re_var (i := 2)) (ra_cons (re_op op_addD addD_ok (re_call C_last_of hr (by decide) (takes_of (by exact rfl) (by exact rfl) (by exact rfl) (by exact rfl)) (ra_cons (re_var (i := 0)) ra_nil) (by exact rfl)) (re_var (i := 8))) ra_nil))))
  (rss_cons (rs_set (i := 5) sc_first_entry.nd (re_lc (own := [("one", 9)]) (by exact rfl) sc_first_entry.nd (ri_range2 (by exact rfl) M.f_range (ra_cons (re_var (i := 2)) (ra_cons (re_op op_addD addD_ok (re_var (i := 4)) (re_var (i := 3))) ra_nil))) (blkOk_by (N := N_first_entry) (own := [("one", 9)]) (by kernel_rfl)) (by decide) (fun _ _ _ _ _ => (rg_name (i := 9) sc_first_entry.nd)) (fun _ _ _ _ _ => rts_nil) (fun _ _ _ _ _ => (re_call C_used_by hr (by decide) takes0 (ra_cons (re_var (i := 0)) (ra_cons (re_var (i := 8)) (ra_cons (re_var (i := 9)) ra_nil))) (by exact rfl)))))
  (rss_cons (rs_for (passes_of (by exact rfl)) (by exact rfl) (ri_range2 (by exact rfl) M.f_range (ra_cons (re_var (i := 2)) (ra_cons (re_var (i := 4)) ra_nil))) (rg_name (i := 6) sc_first_entry.nd) (rss_one (rs_if (rt_val (b_all (by exact rfl) (by exact rfl) M.f_all (ra_cons (re_lc (own := [("k", 10)]) (by exact rfl) sc_first_entry.nd (ri_range1 (by exact rfl) M.f_range (ra_cons (re_var (i := 3)) ra_nil)) (blkOk_by (N := N_first_entry) (own := [("k", 10)]) (by kernel_rfl)) (by decide) (fun _ _ _ _ _ => (rg_name (i := 10) sc_first_entry.nd)) (fun _ _ _ _ _ => rts_nil) (fun _ _ _ _ _ => (re_cmp (op_ltD h64) ltD_ok (re_op op_addD addD_ok (re_ix (ix_all h1) ixD_ok (re_var (i := 5)) (re_op op_addD addD_ok (re_op op_sub subD_ok (re_var (i := 6)) (re_var (i := 2))) (re_var (i := 10))) (fun _ _ => rfl)) (re_var (i := 10))) (re_var (i := 7))))) ra_nil))) (rss_one (rs_ret (re_var (i := 6)))) rss_nil)))
  (rss_one (rs_ret (re_var (i := 4))))))))))))
abbrev N_used_days : List Str := ["stays", "window", "days", "found", "first", "at", "day", "come", "leave"]
theorem sc_used_days : FnScope N_used_days ["stays", "window"] (defScope (top 21)) := ⟨rfl, rfl, rfl, by decide +kernel, rfl, by decide +kernel, by decide +kernel⟩
theorem body_used_days (M : Mg mg)  (cdv : Value) (A : Around) (outer : List PySem.Env) (s : Shared) (H : Hp) (E : XK) (hr : Room 0 (A.deeper (envOfC "used_days" (defScope (top 21)) s.heap.objs.size f cdv))) : RSs (cxOf (L2.CX P w) P w K mg base N_used_days "used_days" (defScope (top 21)) f cdv A outer s H E) (fun cls d _ H => E cls d H) (defBody (top 21)) G_used_days := by
  have h66 : (A.deeper (envOfC "used_days" (defScope (top 21)) s.heap.objs.size f cdv)).units + 66 < cLine := by have := hr.un; omega
  have h65 : (A.deeper (envOfC "used_days" (defScope (top 21)) s.heap.objs.size f cdv)).units + 65 < cLine := by omega
  have h64 : (A.deeper (envOfC "used_days" (defScope (top 21)) s.heap.objs.size f cdv)).units + 64 < cLine := by omega
  have h1 : (A.deeper (envOfC "used_days" (defScope (top 21)) s.heap.objs.size f cdv)).units + 1 < cLine := by omega
  exact (rss_cons (rs_setLc2 (i := 2) (own := [("come", 7), ("leave", 8), ("day", 6)]) (vs1 := [6]) (by exact rfl) sc_used_days.nd (ri_seq (re_var (i := 0))) (blkOk_by (N := N_used_days) (own := [("come", 7), ("leave", 8), ("day", 6)]) (by kernel_rfl)) (by decide) (by decide) (by decide) (fun _ _ _ _ _ => (rg_seq (n := 2) (by exact rfl) (rgs_cons (rg_name (i := 7) sc_used_days.nd) (rgs_cons (rg_name (i := 8) sc_used_days.nd) rgs_nil)) (ts_name_len (ts_name_len ts_nil_len)))) (fun _ _ _ _ _ => rts_nil) (fun _ _ _ _ _ => (ri_range2 (by exact rfl) M.f_range (ra_cons (re_var (i := 7)) (ra_cons (re_op op_addD addD_ok (re_var (i := 8)) re_int) ra_nil)))) (fun _ _ _ _ _ => (rg_name (i := 6) sc_used_days.nd)) (fun _ _ _ _ _ => rts_nil) (fun _ _ _ _ _ => (re_var (i := 6))))
  (rss_cons (rs_par2 (i := 3) (j := 4) (by exact rfl) sc_used_days.nd (rk_cons (re_lst ra_nil) (rk_cons re_int rk_nil)))
  (rss_cons (rs_for (passes_of (by exact rfl)) (by exact rfl) (ri_enum (by exact rfl) M.f_enumerate (ra_cons (re_var (i := 2)) ra_nil)) (rg_seq (n := 2) (by exact rfl) (rgs_cons (rg_name (i := 5) sc_used_days.nd) (rgs_cons (rg_name (i := 6) sc_used_days.nd) rgs_nil)) (ts_name_len (ts_name_len ts_nil_len))) (rss_cons (rs_while (passes_of (by exact rfl)) (rt_cmp op_leD leD_ok (re_ix (ix_all h1) ixD_ok (re_var (i := 2)) (re_var (i := 4)) (fun _ _ => rfl)) (re_op op_sub subD_ok (re_var (i := 6)) (re_var (i := 1)))) (rss_one (rs_aug (i := 4) iop_addA iaddD_ok sc_used_days.nd re_int)))
  (rss_one (rs_expr (re_append (pv (i := 3)) (re_tup (ra_cons (re_var (i := 6)) (ra_cons (re_op op_addD addD_ok (re_op op_sub subD_ok (re_var (i := 5)) (re_var (i := 4))) re_int) ra_nil))))))))
  (rss_one (rs_ret (re_var (i := 3)))))))
abbrev N_over_days : List Str := ["stays", "rule", "found", "day", "much"]
theorem sc_over_days : FnScope N_over_days ["stays", "rule"] (defScope (top 22)) := ⟨rfl, rfl, rfl, by decide +kernel, rfl, by decide +kernel, by decide +kernel⟩
theorem body_over_days (M : Mg mg) (C_check_stays : Fn P w K mg base 5 "check_stays" [false, false] F_check_stays) (C_used_days : Fn P w K mg base 1 "used_days" [false, false] F_used_days) (cdv : Value) (A : Around) (outer : List PySem.Env) (s : Shared) (H : Hp) (E : XK) (hr : Room 5 (A.deeper (envOfC "over_days" (defScope (top 22)) s.heap.objs.size f cdv))) : RSs (cxOf (L2.CX P w) P w K mg base N_over_days "over_days" (defScope (top 22)) f cdv A outer s H E) (fun cls d _ H => E cls d H) (defBody (top 22)) G_over_days := by
  have h66 : (A.deeper (envOfC "over_days" (defScope (top 22)) s.heap.objs.size f cdv)).units + 66 < cLine := by have := hr.un; omega
  have h65 : (A.deeper (envOfC "over_days" (defScope (top 22)) s.heap.objs.size f cdv)).units + 65 < cLine := by omega
  have h64 : (A.deeper (envOfC "over_days" (defScope (top 22)) s.heap.objs.size f cdv)).units + 64 < cLine := by omega
  have h1 : (A.deeper (envOfC "over_days" (defScope (top 22)) s.heap.objs.size f cdv)).units + 1 < cLine := by omega
  exact (rss_cons (rs_expr (re_call C_check_stays hr (by decide) (takes_of (by exact rfl) (by exact rfl) (by exact rfl) (by exact rfl)) (ra_cons (re_var (i := 0)) (ra_cons (re_var (i := 1)) ra_nil)) (by exact rfl)))
  (rss_cons (rs_set (i := 2) sc_over_days.nd (re_lst ra_nil))
  (rss_cons (rs_for (passes_of (by exact rfl)) (by exact rfl) (ri_seq (re_call C_used_days hr (by decide) (takes_of (by exact rfl) (by exact rfl) (by exact rfl) (by exact rfl)) (ra_cons (re_var (i := 0)) (ra_cons (re_ix (ix_all h1) ixD_ok (re_var (i := 1)) re_int (fun _ _ => rfl)) ra_nil)) (by exact rfl))) (rg_seq (n := 2) (by exact rfl) (rgs_cons (rg_name (i := 3) sc_over_days.nd) (rgs_cons (rg_name (i := 4) sc_over_days.nd) rgs_nil)) (ts_name_len (ts_name_len ts_nil_len))) (rss_one (rs_if (rt_cmp op_gtD gtD_ok (re_var (i := 4)) (re_ix (ix_all h1) ixD_ok (re_var (i := 1)) re_int (fun _ _ => rfl))) (rss_one (rs_if (rt_of (rw_and (rt_cmp op_gtD gtD_ok (b_len (by exact rfl) M.f_len (ra_cons (re_var (i := 2)) ra_nil)) re_int) (rw_and1 (rt_cmp (op_eqD h64) eqD_ok (re_ix (ix_all h1) ixD_ok (re_ix (ix_all h1) ixD_ok (re_var (i := 2)) (re_un un_neg negD_ok re_int) (fun _ _ => rfl)) re_int (fun _ _ => rfl)) (re_op op_sub subD_ok (re_var (i := 3)) re_int))))) (rss_one (rs_setIx h1 (pv (i := 2)) (re_un un_neg negD_ok re_int) (re_tup (ra_cons (re_ix (ix_all h1) ixD_ok (re_ix (ix_all h1) ixD_ok (re_var (i := 2)) (re_un un_neg negD_ok re_int) (fun _ _ => rfl)) re_int (fun _ _ => rfl)) (ra_cons (re_var (i := 3)) ra_nil))))) (rss_one (rs_expr (re_append (pv (i := 2)) (re_tup (ra_cons (re_var (i := 3)) (ra_cons (re_var (i := 3)) ra_nil)))))))) rss_nil)))
  (rss_one (rs_ret (re_var (i := 2)))))))
abbrev N_do_keep : List Str := ["stays", "rule"]
theorem sc_do_keep : FnScope N_do_keep ["stays", "rule"] (defScope (top 23)) := ⟨rfl, rfl, rfl, by decide +kernel, rfl, by decide +kernel, by decide +kernel⟩
theorem body_do_keep (M : Mg mg) (C_over_days : Fn P w K mg base 6 "over_days" [false, false] F_over_days) (cdv : Value) (A : Around) (outer : List PySem.Env) (s : Shared) (H : Hp) (E : XK) (hr : Room 6 (A.deeper (envOfC "do_keep" (defScope (top 23)) s.heap.objs.size f cdv))) : RSs (cxOf (L2.CX P w) P w K mg base N_do_keep "do_keep" (defScope (top 23)) f cdv A outer s H E) (fun cls d _ H => E cls d H) (defBody (top 23)) G_do_keep := by
  have h66 : (A.deeper (envOfC "do_keep" (defScope (top 23)) s.heap.objs.size f cdv)).units + 66 < cLine := by have := hr.un; omega
  have h65 : (A.deeper (envOfC "do_keep" (defScope (top 23)) s.heap.objs.size f cdv)).units + 65 < cLine := by omega
  have h64 : (A.deeper (envOfC "do_keep" (defScope (top 23)) s.heap.objs.size f cdv)).units + 64 < cLine := by omega
  have h1 : (A.deeper (envOfC "do_keep" (defScope (top 23)) s.heap.objs.size f cdv)).units + 1 < cLine := by omega
  exact (rss_one (rs_ret (re_cmp (op_eqD h64) eqD_ok (b_len (by exact rfl) M.f_len (ra_cons (re_call C_over_days hr (by decide) (takes_of (by exact rfl) (by exact rfl) (by exact rfl) (by exact rfl)) (ra_cons (re_var (i := 0)) (ra_cons (re_var (i := 1)) ra_nil)) (by exact rfl)) ra_nil)) re_int)))
abbrev N_law_same : List Str := ["told", "due", "key", "k"]
theorem sc_law_same : FnScope N_law_same ["told", "due"] (defScope (top 49)) := ⟨rfl, rfl, rfl, by decide +kernel, rfl, by decide +kernel, by decide +kernel⟩
theorem body_law_same (M : Mg mg)  (kk : Nat) (self : DDef) (Cself : Fn P w K mg base kk "_law_same" [false, false] self) (cdv : Value) (A : Around) (outer : List PySem.Env) (s : Shared) (H : Hp) (E : XK) (hr : Room kk (A.deeper (envOfC "_law_same" (defScope (top 49)) s.heap.objs.size f cdv))) : RSs (cxOf (L2.CX P w) P w K mg base N_law_same "_law_same" (defScope (top 49)) f cdv A outer s H E) (fun cls d _ H => E cls d H) (defBody (top 49)) (G_law_same self) := by
  have h66 : (A.deeper (envOfC "_law_same" (defScope (top 49)) s.heap.objs.size f cdv)).units + 66 < cLine := by have := hr.un; omega
  have h65 : (A.deeper (envOfC "_law_same" (defScope (top 49)) s.heap.objs.size f cdv)).units + 65 < cLine := by omega
  have h64 : (A.deeper (envOfC "_law_same" (defScope (top 49)) s.heap.objs.size f cdv)).units + 64 < cLine := by omega
  have h1 : (A.deeper (envOfC "_law_same" (defScope (top 49)) s.heap.objs.size f cdv)).units + 1 < cLine := by omega
  exact (rss_cons (rs_if (rt_val (re_isi (T := "dict") (.inr (.inr (.inr (.inr (.inl rfl))))) (by exact rfl) M.f_isinstance (by decide +kernel) (by exact rfl) M.f_dict (by decide +kernel) (re_var (i := 1)))) (rss_cons (rs_if (rt_of (rw_or (rt_not (rt_val (re_isi (T := "dict") (.inr (.inr (.inr (.inr (.inl rfl))))) (by exact rfl) M.f_isinstance (by decide +kernel) (by exact rfl) M.f_dict (by decide +kernel) (re_var (i := 0))))) (rw_or1 (rt_cmp (op_neD h64) neD_ok (b_sorted h66 (by exact rfl) M.f_sorted (ra_cons (b_list (by exact rfl) M.f_list (ra_cons (re_var (i := 0)) ra_nil)) ra_nil)) (b_sorted h66 (by exact rfl) M.f_sorted (ra_cons (b_list (by exact rfl) M.f_list (ra_cons (re_var (i := 1)) ra_nil)) ra_nil)))))) (rss_one (rs_ret re_bl)) rss_nil)
  (rss_one (rs_ret (b_all (by exact rfl) (by exact rfl) M.f_all (ra_cons (re_lc (own := [("key", 2)]) (by exact rfl) sc_law_same.nd (ri_seq (re_var (i := 1))) (blkOk_by (N := N_law_same) (own := [("key", 2)]) (by kernel_rfl)) (by decide) (fun _ _ _ _ _ => (rg_name (i := 2) sc_law_same.nd)) (fun _ _ _ _ _ => rts_nil) (fun _ _ _ _ _ => (re_call Cself hr (Nat.le_refl _) takes0 (ra_cons (re_ix (ix_all h1) ixD_ok (re_var (i := 0)) (re_var (i := 2)) (fun _ _ => rfl)) (ra_cons (re_ix (ix_all h1) ixD_ok (re_var (i := 1)) (re_var (i := 2)) (fun _ _ => rfl)) ra_nil)) (by exact rfl)))) ra_nil))))) rss_nil)
  (rss_cons (rs_if (rt_of (rw_or (rt_val (re_isi (T := "tuple") (.inr (.inr (.inr (.inl rfl)))) (by exact rfl) M.f_isinstance (by decide +kernel) (by exact rfl) M.f_tuple (by decide +kernel) (re_var (i := 1)))) (rw_or1 (rt_val (re_isi (T := "list") (.inr (.inr (.inl rfl))) (by exact rfl) M.f_isinstance (by decide +kernel) (by exact rfl) M.f_list (by decide +kernel) (re_var (i := 1))))))) (rss_cons (rs_if (rt_of (rw_or (rt_cmp (op_neD h64) neD_ok (re_isi (T := "tuple") (.inr (.inr (.inr (.inl rfl)))) (by exact rfl) M.f_isinstance (by decide +kernel) (by exact rfl) M.f_tuple (by decide +kernel) (re_var (i := 1))) (re_isi (T := "tuple") (.inr (.inr (.inr (.inl rfl)))) (by exact rfl) M.f_isinstance (by decide +kernel) (by exact rfl) M.f_tuple (by decide +kernel) (re_var (i := 0)))) (rw_or1 (rt_cmp (op_neD h64) neD_ok (re_isi (T := "list") (.inr (.inr (.inl rfl))) (by exact rfl) M.f_isinstance (by decide +kernel) (by exact rfl) M.f_list (by decide +kernel) (re_var (i := 1))) (re_isi (T := "list") (.inr (.inr (.inl rfl))) (by exact rfl) M.f_isinstance (by decide +kernel) (by exact rfl) M.f_list (by decide +kernel) (re_var (i := 0))))))) (rss_one (rs_ret re_bl)) rss_nil)
  (rss_one (rs_ret (re_and (re_cmp (op_eqD h64) eqD_ok (b_len (by exact rfl) M.f_len (ra_cons (re_var (i := 0)) ra_nil)) (b_len (by exact rfl) M.f_len (ra_cons (re_var (i := 1)) ra_nil))) (re_one (b_all (by exact rfl) (by exact rfl) M.f_all (ra_cons (re_lc (own := [("k", 3)]) (by exact rfl) sc_law_same.nd (ri_range1 (by exact rfl) M.f_range (ra_cons (b_len (by exact rfl) M.f_len (ra_cons (re_var (i := 1)) ra_nil)) ra_nil)) (blkOk_by (N := N_law_same) (own := [("k", 3)]) (by kernel_rfl)) (by decide) (fun _ _ _ _ _ => (rg_name (i := 3) sc_law_same.nd)) (fun _ _ _ _ _ => rts_nil) (fun _ _ _ _ _ => (re_call Cself hr (Nat.le_refl _) takes0 (ra_cons (re_ix (ix_all h1) ixD_ok (re_var (i := 0)) (re_var (i := 3)) (fun _ _ => rfl)) (ra_cons (re_ix (ix_all h1) ixD_ok (re_var (i := 1)) (re_var (i := 3)) (fun _ _ => rfl)) ra_nil)) (by exact rfl)))) ra_nil))))))) rss_nil)
  (rss_cons (rs_if (rt_cmp op_isD isD_ok (re_var (i := 1)) re_non) (rss_one (rs_ret (re_cmp op_isD isD_ok (re_var (i := 0)) re_non))) rss_nil)
  (rss_cons (rs_if (rt_cmp (op_neD h64) neD_ok (re_isi (T := "bool") (.inr (.inr (.inr (.inr (.inr rfl))))) (by exact rfl) M.f_isinstance (by decide +kernel) (by exact rfl) M.f_bool (by decide +kernel) (re_var (i := 1))) (re_isi (T := "bool") (.inr (.inr (.inr (.inr (.inr rfl))))) (by exact rfl) M.f_isinstance (by decide +kernel) (by exact rfl) M.f_bool (by decide +kernel) (re_var (i := 0)))) (rss_one (rs_ret re_bl)) rss_nil)
  (rss_cons (rs_if (rt_of (rw_or (rt_cmp (op_neD h64) neD_ok (re_isi (T := "int") (.inl rfl) (by exact rfl) M.f_isinstance (by decide +kernel) (by exact rfl) M.f_int (by decide +kernel) (re_var (i := 1))) (re_isi (T := "int") (.inl rfl) (by exact rfl) M.f_isinstance (by decide +kernel) (by exact rfl) M.f_int (by decide +kernel) (re_var (i := 0)))) (rw_or1 (rt_cmp (op_neD h64) neD_ok (re_isi (T := "str") (.inr (.inl rfl)) (by exact rfl) M.f_isinstance (by decide +kernel) (by exact rfl) M.f_str (by decide +kernel) (re_var (i := 1))) (re_isi (T := "str") (.inr (.inl rfl)) (by exact rfl) M.f_isinstance (by decide +kernel) (by exact rfl) M.f_str (by decide +kernel) (re_var (i := 0))))))) (rss_one (rs_ret re_bl)) rss_nil)
  (rss_one (rs_ret (re_cmp (op_eqD h64) eqD_ok (re_var (i := 0)) (re_var (i := 1))))))))))
abbrev N_most_used : List Str := ["stays", "rule", "_", "much"]
theorem sc_most_used : FnScope N_most_used ["stays", "rule"] (defScope (top 31)) := ⟨rfl, rfl, rfl, by decide +kernel, rfl, by decide +kernel, by decide +kernel⟩
theorem body_most_used (M : Mg mg) (C_check_stays : Fn P w K mg base 5 "check_stays" [false, false] F_check_stays) (C_used_days : Fn P w K mg base 1 "used_days" [false, false] F_used_days) (cdv : Value) (A : Around) (outer : List PySem.Env) (s : Shared) (H : Hp) (E : XK) (hr : Room 5 (A.deeper (envOfC "most_used" (defScope (top 31)) s.heap.objs.size f cdv))) : RSs (cxOf (L2.CX P w) P w K mg base N_most_used "most_used" (defScope (top 31)) f cdv A outer s H E) (fun cls d _ H => E cls d H) (defBody (top 31)) G_most_used := by
  have h66 : (A.deeper (envOfC "most_used" (defScope (top 31)) s.heap.objs.size f cdv)).units + 66 < cLine := by have := hr.un; omega
  have h65 : (A.deeper (envOfC "most_used" (defScope (top 31)) s.heap.objs.size f cdv)).units + 65 < cLine := by omega
  have h64 : (A.deeper (envOfC "most_used" (defScope (top 31)) s.heap.objs.size f cdv)).units + 64 < cLine := by omega
  have h1 : (A.deeper (envOfC "most_used" (defScope (top 31)) s.heap.objs.size f cdv)).units + 1 < cLine := by omega
  exact (rss_cons (rs_expr (re_call C_check_stays hr (by decide) (takes_of (by exact rfl) (by exact rfl) (by exact rfl) (by exact rfl)) (ra_cons (re_var (i := 0)) (ra_cons (re_var (i := 1)) ra_nil)) (by exact rfl)))
  (rss_one (rs_ret (b_max (by exact rfl) (by exact rfl) M.f_max (ra_cons (re_lst (ra_cons re_int (ra_star (re_lc (own := [("_", 2), ("much", 3)]) (by exact rfl) sc_most_used.nd (ri_seq (re_call C_used_days hr (by decide) (takes_of (by exact rfl) (by exact rfl) (by exact rfl) (by exact rfl)) (ra_cons (re_var (i := 0)) (ra_cons (re_ix (ix_all h1) ixD_ok (re_var (i := 1)) re_int (fun _ _ => rfl)) ra_nil)) (by exact rfl))) (blkOk_by (N := N_most_used) (own := [("_", 2), ("much", 3)]) (by kernel_rfl)) (by decide) (fun _ _ _ _ _ => (rg_seq (n := 2) (by exact rfl) (rgs_cons (rg_name (i := 2) sc_most_used.nd) (rgs_cons (rg_name (i := 3) sc_most_used.nd) rgs_nil)) (ts_name_len (ts_name_len ts_nil_len)))) (fun _ _ _ _ _ => rts_nil) (fun _ _ _ _ _ => (re_var (i := 3)))) ra_nil))) ra_nil)))))
abbrev N_is_day_checkstays : List Str := ["value"]
theorem sc_is_day_checkstays : FnScope N_is_day_checkstays ["value"] (defScope (top 35)) := ⟨rfl, rfl, rfl, by decide +kernel, rfl, by decide +kernel, by decide +kernel⟩
theorem body_is_day_checkstays (M : Mg mg) (C_is_within : Fn P w K mg base 2 "is_within" [false, false, false] F_is_within) (cdv : Value) (A : Around) (outer : List PySem.Env) (s : Shared) (H : Hp) (E : XK) (hr : Room 2 (A.deeper (envOfC "is_day" (defScope (top 35)) s.heap.objs.size f cdv))) : RSs (cxOf (L2.CX P w) P w K mg base N_is_day_checkstays "is_day" (defScope (top 35)) f cdv A outer s H E) (fun cls d _ H => E cls d H) (defBody (top 35)) G_is_day_checkstays := by
  have h66 : (A.deeper (envOfC "is_day" (defScope (top 35)) s.heap.objs.size f cdv)).units + 66 < cLine := by have := hr.un; omega
  have h65 : (A.deeper (envOfC "is_day" (defScope (top 35)) s.heap.objs.size f cdv)).units + 65 < cLine := by omega
  have h64 : (A.deeper (envOfC "is_day" (defScope (top 35)) s.heap.objs.size f cdv)).units + 64 < cLine := by omega
  have h1 : (A.deeper (envOfC "is_day" (defScope (top 35)) s.heap.objs.size f cdv)).units + 1 < cLine := by omega
  exact (rss_one (rs_ret (re_call C_is_within hr (by decide) (takes_of (by exact rfl) (by exact rfl) (by exact rfl) (by exact rfl)) (ra_cons (re_var (i := 0)) (ra_cons re_int (ra_cons re_int ra_nil))) (by exact rfl))))
abbrev N_need_stays : List Str := ["stays", "one", "come", "leave", "other"]
theorem sc_need_stays : FnScope N_need_stays ["stays"] (defScope (top 37)) := ⟨rfl, rfl, rfl, by decide +kernel, rfl, by decide +kernel, by decide +kernel⟩
theorem body_need_stays (M : Mg mg) (C_check : Fn P w K mg base 1 "check" [false] F_check) (C_is_day_checkstays : Fn P w K mg base 3 "is_day_checkstays" [false] F_is_day_checkstays) (cdv : Value) (A : Around) (outer : List PySem.Env) (s : Shared) (H : Hp) (E : XK) (hr : Room 3 (A.deeper (envOfC "need_stays" (defScope (top 37)) s.heap.objs.size f cdv))) : RSs (cxOf (L2.CX P w) P w K mg base N_need_stays "need_stays" (defScope (top 37)) f cdv A outer s H E) (fun cls d _ H => E cls d H) (defBody (top 37)) G_need_stays := by
  have h66 : (A.deeper (envOfC "need_stays" (defScope (top 37)) s.heap.objs.size f cdv)).units + 66 < cLine := by have := hr.un; omega
  have h65 : (A.deeper (envOfC "need_stays" (defScope (top 37)) s.heap.objs.size f cdv)).units + 65 < cLine := by omega
  have h64 : (A.deeper (envOfC "need_stays" (defScope (top 37)) s.heap.objs.size f cdv)).units + 64 < cLine := by omega
  have h1 : (A.deeper (envOfC "need_stays" (defScope (top 37)) s.heap.objs.size f cdv)).units + 1 < cLine := by omega
  exact (rss_cons (rs_expr (re_call C_check hr (by decide) (takes_of (by exact rfl) (by exact rfl) (by exact rfl) (by exact rfl)) (ra_cons (re_and (re_isi (T := "list") (.inr (.inr (.inl rfl))) (by exact rfl) M.f_isinstance (by decide +kernel) (by exact rfl) M.f_list (by decide +kernel) (re_var (i := 0))) (re_one (re_cmp op_leD leD_ok (b_len (by exact rfl) M.f_len (ra_cons (re_var (i := 0)) ra_nil)) re_int))) ra_nil) (by exact rfl)))
  (rss_cons (rs_expr (re_call C_check hr (by decide) (takes_of (by exact rfl) (by exact rfl) (by exact rfl) (by exact rfl)) (ra_cons (b_all (by exact rfl) (by exact rfl) M.f_all (ra_cons (re_lc (own := [("one", 1)]) (by exact rfl) sc_need_stays.nd (ri_seq (re_var (i := 0))) (blkOk_by (N := N_need_stays) (own := [("one", 1)]) (by kernel_rfl)) (by decide) (fun _ _ _ _ _ => (rg_name (i := 1) sc_need_stays.nd)) (fun _ _ _ _ _ => rts_nil) (fun _ _ _ _ _ => (re_and (re_isi (T := "tuple") (.inr (.inr (.inr (.inl rfl)))) (by exact rfl) M.f_isinstance (by decide +kernel) (by exact rfl) M.f_tuple (by decide +kernel) (re_var (i := 1))) (re_and (re_cmp (op_eqD h64) eqD_ok (b_len (by exact rfl) M.f_len (ra_cons (re_var (i := 1)) ra_nil)) re_int) (re_and (re_call C_is_day_checkstays hr (by decide) takes0 (ra_cons (re_ix (ix_all h1) ixD_ok (re_var (i := 1)) re_int (fun _ _ => rfl)) ra_nil) (by exact rfl)) (re_one (re_call C_is_day_checkstays hr (by decide) takes0 (ra_cons (re_ix (ix_all h1) ixD_ok (re_var (i := 1)) re_int (fun _ _ => rfl)) ra_nil) (by exact rfl)))))))) ra_nil)) ra_nil) (by exact rfl)))
  (rss_cons (rs_expr (re_call C_check hr (by decide) (takes_of (by exact rfl) (by exact rfl) (by exact rfl) (by exact rfl)) (ra_cons (b_all (by exact rfl) (by exact rfl) M.f_all (ra_cons (re_lc (own := [("come", 2), ("leave", 3)]) (by exact rfl) sc_need_stays.nd (ri_seq (re_var (i := 0))) (blkOk_by (N := N_need_stays) (own := [("come", 2), ("leave", 3)]) (by kernel_rfl)) (by decide) (fun _ _ _ _ _ => (rg_seq (n := 2) (by exact rfl) (rgs_cons (rg_name (i := 2) sc_need_stays.nd) (rgs_cons (rg_name (i := 3) sc_need_stays.nd) rgs_nil)) (ts_name_len (ts_name_len ts_nil_len)))) (fun _ _ _ _ _ => rts_nil) (fun _ _ _ _ _ => (re_cmp op_leD leD_ok (re_var (i := 2)) (re_var (i := 3))))) ra_nil)) ra_nil) (by exact rfl)))
  (rss_one (rs_expr (re_call C_check hr (by decide) (takes_of (by exact rfl) (by exact rfl) (by exact rfl) (by exact rfl)) (ra_cons (b_all (by exact rfl) (by exact rfl) M.f_all (ra_cons (re_lc (own := [("one", 1), ("other", 4)]) (by exact rfl) sc_need_stays.nd (ri_zip (by exact rfl) M.f_zip (ra_cons (re_var (i := 0)) (ra_cons (re_sl (re_var (i := 0)) (rp_at re_int) rp_no) ra_nil))) (blkOk_by (N := N_need_stays) (own := [("one", 1), ("other", 4)]) (by kernel_rfl)) (by decide) (fun _ _ _ _ _ => (rg_seq (n := 2) (by exact rfl) (rgs_cons (rg_name (i := 1) sc_need_stays.nd) (rgs_cons (rg_name (i := 4) sc_need_stays.nd) rgs_nil)) (ts_name_len (ts_name_len ts_nil_len)))) (fun _ _ _ _ _ => rts_nil) (fun _ _ _ _ _ => (re_cmp (op_ltD h64) ltD_ok (re_ix (ix_all h1) ixD_ok (re_var (i := 1)) re_int (fun _ _ => rfl)) (re_ix (ix_all h1) ixD_ok (re_var (i := 4)) re_int (fun _ _ => rfl))))) ra_nil)) ra_nil) (by exact rfl)))))))
abbrev N_all_over : List Str := ["days", "rule", "most", "window", "at", "day"]
theorem sc_all_over : FnScope N_all_over ["days", "rule"] (defScope (top 40)) := ⟨rfl, rfl, rfl, by decide +kernel, rfl, by decide +kernel, by decide +kernel⟩
theorem body_all_over (M : Mg mg)  (cdv : Value) (A : Around) (outer : List PySem.Env) (s : Shared) (H : Hp) (E : XK) (hr : Room 0 (A.deeper (envOfC "all_over" (defScope (top 40)) s.heap.objs.size f cdv))) : RSs (cxOf (L2.CX P w) P w K mg base N_all_over "all_over" (defScope (top 40)) f cdv A outer s H E) (fun cls d _ H => E cls d H) (defBody (top 40)) G_all_over := by
  have h66 : (A.deeper (envOfC "all_over" (defScope (top 40)) s.heap.objs.size f cdv)).units + 66 < cLine := by have := hr.un; omega
  have h65 : (A.deeper (envOfC "all_over" (defScope (top 40)) s.heap.objs.size f cdv)).units + 65 < cLine := by omega
  have h64 : (A.deeper (envOfC "all_over" (defScope (top 40)) s.heap.objs.size f cdv)).units + 64 < cLine := by omega
  have h1 : (A.deeper (envOfC "all_over" (defScope (top 40)) s.heap.objs.size f cdv)).units + 1 < cLine := by omega
  exact (rss_cons (rs_asg (re_var (i := 1)) (rg_seq (n := 2) (by exact rfl) (rgs_cons (rg_name (i := 2) sc_all_over.nd) (rgs_cons (rg_name (i := 3) sc_all_over.nd) rgs_nil)) (ts_name_len (ts_name_len ts_nil_len))))
  (rss_one (rs_ret (re_lc (own := [("at", 4), ("day", 5)]) (by exact rfl) sc_all_over.nd (ri_enum (by exact rfl) M.f_enumerate (ra_cons (re_var (i := 0)) ra_nil)) (blkOk_by (N := N_all_over) (own := [("at", 4), ("day", 5)]) (by kernel_rfl)) (by decide) (fun _ _ _ _ _ => (rg_seq (n := 2) (by exact rfl) (rgs_cons (rg_name (i := 4) sc_all_over.nd) (rgs_cons (rg_name (i := 5) sc_all_over.nd) rgs_nil)) (ts_name_len (ts_name_len ts_nil_len)))) (fun _ _ _ _ _ => (rts_one (rt_of (rw_and (rt_cmp op_geD geD_ok (re_var (i := 4)) (re_var (i := 2))) (rw_and1 (rt_cmp op_gtD gtD_ok (re_ix (ix_all h1) ixD_ok (re_var (i := 0)) (re_op op_sub subD_ok (re_var (i := 4)) (re_var (i := 2))) (fun _ _ => rfl)) (re_op op_sub subD_ok (re_var (i := 5)) (re_var (i := 3))))))))) (fun _ _ _ _ _ => (re_var (i := 5)))))))
abbrev N_is_rule_checkstays : List Str := ["value"]
theorem sc_is_rule_checkstays : FnScope N_is_rule_checkstays ["value"] (defScope (top 38)) := ⟨rfl, rfl, rfl, by decide +kernel, rfl, by decide +kernel, by decide +kernel⟩
theorem body_is_rule_checkstays (M : Mg mg) (C_is_within : Fn P w K mg base 2 "is_within" [false, false, false] F_is_within) (cdv : Value) (A : Around) (outer : List PySem.Env) (s : Shared) (H : Hp) (E : XK) (hr : Room 2 (A.deeper (envOfC "is_rule" (defScope (top 38)) s.heap.objs.size f cdv))) : RSs (cxOf (L2.CX P w) P w K mg base N_is_rule_checkstays "is_rule" (defScope (top 38)) f cdv A outer s H E) (fun cls d _ H => E cls d H) (defBody (top 38)) G_is_rule_checkstays := by
  have h66 : (A.deeper (envOfC "is_rule" (defScope (top 38)) s.heap.objs.size f cdv)).units + 66 < cLine := by have := hr.un; omega
  have h65 : (A.deeper (envOfC "is_rule" (defScope (top 38)) s.heap.objs.size f cdv)).units + 65 < cLine := by omega
  have h64 : (A.deeper (envOfC "is_rule" (defScope (top 38)) s.heap.objs.size f cdv)).units + 64 < cLine := by omega
  have h1 : (A.deeper (envOfC "is_rule" (defScope (top 38)) s.heap.objs.size f cdv)).units + 1 < cLine := by omega
  exact (rss_cons (rs_if (rt_of (rw_or (rt_not (rt_val (re_isi (T := "tuple") (.inr (.inr (.inr (.inl rfl)))) (by exact rfl) M.f_isinstance (by decide +kernel) (by exact rfl) M.f_tuple (by decide +kernel) (re_var (i := 0))))) (rw_or1 (rt_cmp (op_neD h64) neD_ok (b_len (by exact rfl) M.f_len (ra_cons (re_var (i := 0)) ra_nil)) re_int)))) (rss_one (rs_ret re_bl)) rss_nil)
  (rss_one (rs_ret (re_and (re_call C_is_within hr (by decide) (takes_of (by exact rfl) (by exact rfl) (by exact rfl) (by exact rfl)) (ra_cons (re_ix (ix_all h1) ixD_ok (re_var (i := 0)) re_int (fun _ _ => rfl)) (ra_cons re_int (ra_cons re_int ra_nil))) (by exact rfl)) (re_one (re_call C_is_within hr (by decide) (takes_of (by exact rfl) (by exact rfl) (by exact rfl) (by exact rfl)) (ra_cons (re_ix (ix_all h1) ixD_ok (re_var (i := 0)) re_int (fun _ _ => rfl)) (ra_cons re_int (ra_cons (re_ix (ix_all h1) ixD_ok (re_var (i := 0)) re_int (fun _ _ => rfl)) ra_nil))) (by exact rfl)))))))
abbrev N_takes_over : List Str := ["stays", "rule", "told", "over", "own", "firsts", "lasts", "day", "come", "leave"]
theorem sc_takes_over : FnScope N_takes_over ["stays", "rule", "told"] (defScope (top 41)) := ⟨rfl, rfl, rfl, by decide +kernel, rfl, by decide +kernel, by decide +kernel⟩
theorem body_takes_over (M : Mg mg) (C_need_stays : Fn P w K mg base 4 "need_stays" [false] F_need_stays) (C_all_over : Fn P w K mg base 1 "all_over" [false, false] F_all_over) (C_is_rule_checkstays : Fn P w K mg base 3 "is_rule_checkstays" [false] F_is_rule_checkstays) (cdv : Value) (A : Around) (outer : List PySem.Env) (s : Shared) (H : Hp) (E : XK) (hr : Room 4 (A.deeper (envOfC "takes_over" (defScope (top 41)) s.heap.objs.size f cdv))) : RSs (cxOf (L2.CX P w) P w K mg base N_takes_over "takes_over" (defScope (top 41)) f cdv A outer s H E) (fun cls d _ H => E cls d H) (defBody (top 41)) G_takes_over := by
  have h66 : (A.deeper (envOfC "takes_over" (defScope (top 41)) s.heap.objs.size f cdv)).units + 66 < cLine := by have := hr.un; omega
  have h65 : (A.deeper (envOfC "takes_over" (defScope (top 41)) s.heap.objs.size f cdv)).units + 65 < cLine := by omega
  have h64 : (A.deeper (envOfC "takes_over" (defScope (top 41)) s.heap.objs.size f cdv)).units + 64 < cLine := by omega
  have h1 : (A.deeper (envOfC "takes_over" (defScope (top 41)) s.heap.objs.size f cdv)).units + 1 < cLine := by omega
  exact (rss_cons (rs_expr (re_call C_need_stays hr (by decide) (takes_of (by exact rfl) (by exact rfl) (by exact rfl) (by exact rfl)) (ra_cons (re_var (i := 0)) ra_nil) (by exact rfl)))
  (rss_cons (rs_if (rt_not (rt_val (re_call C_is_rule_checkstays hr (by decide) (takes_of (by exact rfl) (by exact rfl) (by exact rfl) (by exact rfl)) (ra_cons (re_var (i := 1)) ra_nil) (by exact rfl)))) (rss_one (rs_ret re_bl)) rss_nil)
  (rss_cons (rs_set (i := 3) sc_takes_over.nd (re_call C_all_over hr (by decide) (takes_of (by exact rfl) (by exact rfl) (by exact rfl) (by exact rfl)) (ra_cons (re_lc2 (own := [("come", 8), ("leave", 9), ("day", 7)]) (vs1 := [7]) (by exact rfl) sc_takes_over.nd (ri_seq (re_var (i := 0))) (blkOk_by (N := N_takes_over) (own := [("come", 8), ("leave", 9), ("day", 7)]) (by kernel_rfl)) (by decide) (by decide) (by decide) (fun _ _ _ _ _ => (rg_seq (n := 2) (by exact rfl) (rgs_cons (rg_name (i := 8) sc_takes_over.nd) (rgs_cons (rg_name (i := 9) sc_takes_over.nd) rgs_nil)) (ts_name_len (ts_name_len ts_nil_len)))) (fun _ _ _ _ _ => rts_nil) (fun _ _ _ _ _ => (ri_range2 (by exact rfl) M.f_range (ra_cons (re_var (i := 8)) (ra_cons (re_op op_addD addD_ok (re_var (i := 9)) re_int) ra_nil)))) (fun _ _ _ _ _ => (rg_name (i := 7) sc_takes_over.nd)) (fun _ _ _ _ _ => rts_nil) (fun _ _ _ _ _ => (re_var (i := 7)))) (ra_cons (re_var (i := 1)) ra_nil)) (by exact rfl)))
  (rss_cons (rs_set (i := 4) sc_takes_over.nd (re_dc (own := [("day", 7)]) (by exact rfl) sc_takes_over.nd (ri_seq (re_var (i := 3))) (blkOk_by (N := N_takes_over) (own := [("day", 7)]) (by kernel_rfl)) (by decide) (fun _ _ _ _ _ => (rg_name (i := 7) sc_takes_over.nd)) (fun _ _ _ _ _ => rts_nil) (fun _ _ _ _ _ => (re_var (i := 7))) (fun _ _ _ _ _ => re_bl)))
  (rss_cons (rs_setLc (i := 5) (own := [("day", 7)]) (by exact rfl) sc_takes_over.nd (ri_seq (re_var (i := 3))) (blkOk_by (N := N_takes_over) (own := [("day", 7)]) (by kernel_rfl)) (by decide) (fun _ _ _ _ _ => (rg_name (i := 7) sc_takes_over.nd)) (fun _ _ _ _ _ => (rts_one (rt_cmp (op_niA h65) notInD_ok (re_op op_sub subD_ok (re_var (i := 7)) re_int) (re_var (i := 4))))) (fun _ _ _ _ _ => (re_var (i := 7))))
  (rss_cons (rs_setLc (i := 6) (own := [("day", 7)]) (by exact rfl) sc_takes_over.nd (ri_seq (re_var (i := 3))) (blkOk_by (N := N_takes_over) (own := [("day", 7)]) (by kernel_rfl)) (by decide) (fun _ _ _ _ _ => (rg_name (i := 7) sc_takes_over.nd)) (fun _ _ _ _ _ => (rts_one (rt_cmp (op_niA h65) notInD_ok (re_op op_addD addD_ok (re_var (i := 7)) re_int) (re_var (i := 4))))) (fun _ _ _ _ _ => (re_var (i := 7))))
  (rss_one (rs_ret (re_cmp (op_eqD h64) eqD_ok (re_var (i := 2)) (re_listZip (by exact rfl) (by exact rfl) M.f_list (by exact rfl) M.f_zip (ra_cons (re_var (i := 5)) (ra_cons (re_var (i := 6)) ra_nil))))))))))))
abbrev N_used_on : List Str := ["stays", "rule", "day"]
theorem sc_used_on : FnScope N_used_on ["stays", "rule", "day"] (defScope (top 20)) := ⟨rfl, rfl, rfl, by decide +kernel, rfl, by decide +kernel, by decide +kernel⟩
theorem body_used_on (M : Mg mg) (C_check_stays : Fn P w K mg base 5 "check_stays" [false, false] F_check_stays) (C_check : Fn P w K mg base 1 "check" [false] F_check) (C_used_by : Fn P w K mg base 2 "used_by" [false, false, false] F_used_by) (C_is_day_papers : Fn P w K mg base 3 "is_day_papers" [false] F_is_day_papers) (cdv : Value) (A : Around) (outer : List PySem.Env) (s : Shared) (H : Hp) (E : XK) (hr : Room 5 (A.deeper (envOfC "used_on" (defScope (top 20)) s.heap.objs.size f cdv))) : RSs (cxOf (L2.CX P w) P w K mg base N_used_on "used_on" (defScope (top 20)) f cdv A outer s H E) (fun cls d _ H => E cls d H) (defBody (top 20)) G_used_on := by
  have h66 : (A.deeper (envOfC "used_on" (defScope (top 20)) s.heap.objs.size f cdv)).units + 66 < cLine := by have := hr.un; omega
  have h65 : (A.deeper (envOfC "used_on" (defScope (top 20)) s.heap.objs.size f cdv)).units + 65 < cLine := by omega
  have h64 : (A.deeper (envOfC "used_on" (defScope (top 20)) s.heap.objs.size f cdv)).units + 64 < cLine := by omega
  have h1 : (A.deeper (envOfC "used_on" (defScope (top 20)) s.heap.objs.size f cdv)).units + 1 < cLine := by omega
  exact (rss_cons (rs_expr (re_call C_check_stays hr (by decide) (takes_of (by exact rfl) (by exact rfl) (by exact rfl) (by exact rfl)) (ra_cons (re_var (i := 0)) (ra_cons (re_var (i := 1)) ra_nil)) (by exact rfl)))
  (rss_cons (rs_expr (re_call C_check hr (by decide) (takes_of (by exact rfl) (by exact rfl) (by exact rfl) (by exact rfl)) (ra_cons (re_call C_is_day_papers hr (by decide) (takes_of (by exact rfl) (by exact rfl) (by exact rfl) (by exact rfl)) (ra_cons (re_var (i := 2)) ra_nil) (by exact rfl)) ra_nil) (by exact rfl)))
  (rss_one (rs_ret (re_call C_used_by hr (by decide) (takes_of (by exact rfl) (by exact rfl) (by exact rfl) (by exact rfl)) (ra_cons (re_var (i := 0)) (ra_cons (re_ix (ix_all h1) ixD_ok (re_var (i := 1)) re_int (fun _ _ => rfl)) (ra_cons (re_var (i := 2)) ra_nil))) (by exact rfl))))))
abbrev N_law_is_over_due : List Str := ["stays", "rule", "most", "k", "told", "flat", "days", "first", "over", "come", "leave", "one", "last", "row"]
theorem sc_law_is_over_due : FnScope N_law_is_over_due ["stays", "rule"] (defScope (top 51)) := ⟨rfl, rfl, rfl, by decide +kernel, rfl, by decide +kernel, by decide +kernel⟩
theorem body_law_is_over_due (M : Mg mg) (C_over_days : Fn P w K mg base 6 "over_days" [false, false] F_over_days) (C_law_same : Fn P w K mg base 3 "_law_same" [false, false] F_law_same) (C_most_used : Fn P w K mg base 6 "most_used" [false, false] F_most_used) (C_do_keep : Fn P w K mg base 7 "do_keep" [false, false] F_do_keep) (C_takes_over : Fn P w K mg base 5 "takes_over" [false, false, false] F_takes_over) (C_used_on : Fn P w K mg base 6 "used_on" [false, false, false] F_used_on) (cdv : Value) (A : Around) (outer : List PySem.Env) (s : Shared) (H : Hp) (E : XK) (hr : Room 7 (A.deeper (envOfC "_law_is_over_due" (defScope (top 51)) s.heap.objs.size f cdv))) : RSs (cxOf (L2.CX P w) P w K mg base N_law_is_over_due "_law_is_over_due" (defScope (top 51)) f cdv A outer s H E) (fun cls d _ H => E cls d H) (defBody (top 51)) G_law_is_over_due := by
  have h66 : (A.deeper (envOfC "_law_is_over_due" (defScope (top 51)) s.heap.objs.size f cdv)).units + 66 < cLine := by have := hr.un; omega
  have h65 : (A.deeper (envOfC "_law_is_over_due" (defScope (top 51)) s.heap.objs.size f cdv)).units + 65 < cLine := by omega
  have h64 : (A.deeper (envOfC "_law_is_over_due" (defScope (top 51)) s.heap.objs.size f cdv)).units + 64 < cLine := by omega
  have h1 : (A.deeper (envOfC "_law_is_over_due" (defScope (top 51)) s.heap.objs.size f cdv)).units + 1 < cLine := by omega
  exact (rss_cons (rs_par3 (i := 6) (j := 7) (l := 8) (by exact rfl) sc_law_is_over_due.nd (rk_cons (re_lst ra_nil) (rk_cons re_int (rk_cons (re_lst ra_nil) rk_nil))))
  (rss_cons (rs_for (passes_of (by exact rfl)) (by exact rfl) (ri_seq (re_var (i := 0))) (rg_seq (n := 2) (by exact rfl) (rgs_cons (rg_name (i := 9) sc_law_is_over_due.nd) (rgs_cons (rg_name (i := 10) sc_law_is_over_due.nd) rgs_nil)) (ts_name_len (ts_name_len ts_nil_len))) (rss_one (rs_set (i := 6) sc_law_is_over_due.nd (re_op op_addD addD_ok (re_var (i := 6)) (re_listR2 (by exact rfl) (by exact rfl) M.f_list (by exact rfl) M.f_range (re_var (i := 9)) (re_op op_addD addD_ok (re_var (i := 10)) re_int))))))
  (rss_cons (rs_set (i := 2) sc_law_is_over_due.nd re_int)
  (rss_cons (rs_for (passes_of (by exact rfl)) (by exact rfl) (ri_range1 (by exact rfl) M.f_range (ra_cons (b_len (by exact rfl) M.f_len (ra_cons (re_var (i := 6)) ra_nil)) ra_nil)) (rg_name (i := 3) sc_law_is_over_due.nd) (rss_cons (rs_while (passes_of (by exact rfl)) (rt_cmp op_leD leD_ok (re_ix (ix_all h1) ixD_ok (re_var (i := 6)) (re_var (i := 7)) (fun _ _ => rfl)) (re_op op_sub subD_ok (re_ix (ix_all h1) ixD_ok (re_var (i := 6)) (re_var (i := 3)) (fun _ _ => rfl)) (re_ix (ix_all h1) ixD_ok (re_var (i := 1)) re_int (fun _ _ => rfl)))) (rss_one (rs_set (i := 7) sc_law_is_over_due.nd (re_op op_addD addD_ok (re_var (i := 7)) re_int))))
  (rss_cons (rs_set (i := 2) sc_law_is_over_due.nd (b_max2 (by exact rfl) (by exact rfl) M.f_max (ra_cons (re_var (i := 2)) (ra_cons (re_op op_addD addD_ok (re_op op_sub subD_ok (re_var (i := 3)) (re_var (i := 7))) re_int) ra_nil))))
  (rss_one (rs_if (rt_cmp op_gtD gtD_ok (re_op op_addD addD_ok (re_op op_sub subD_ok (re_var (i := 3)) (re_var (i := 7))) re_int) (re_ix (ix_all h1) ixD_ok (re_var (i := 1)) re_int (fun _ _ => rfl))) (rss_one (rs_expr (re_append (pv (i := 8)) (re_ix (ix_all h1) ixD_ok (re_var (i := 6)) (re_var (i := 3)) (fun _ _ => rfl))))) rss_nil)))))
  (rss_cons (rs_set (i := 4) sc_law_is_over_due.nd (re_call C_over_days hr (by decide) (takes_of (by exact rfl) (by exact rfl) (by exact rfl) (by exact rfl)) (ra_cons (re_var (i := 0)) (ra_cons (re_var (i := 1)) ra_nil)) (by exact rfl)))
  (rss_cons (rs_set (i := 5) sc_law_is_over_due.nd (re_lst ra_nil))
  (rss_cons (rs_for (passes_of (by exact rfl)) (by exact rfl) (ri_seq (re_var (i := 4))) (rg_seq (n := 2) (by exact rfl) (rgs_cons (rg_name (i := 11) sc_law_is_over_due.nd) (rgs_cons (rg_name (i := 12) sc_law_is_over_due.nd) rgs_nil)) (ts_name_len (ts_name_len ts_nil_len))) (rss_one (rs_set (i := 5) sc_law_is_over_due.nd (re_op op_addD addD_ok (re_var (i := 5)) (re_listR2 (by exact rfl) (by exact rfl) M.f_list (by exact rfl) M.f_range (re_var (i := 11)) (re_op op_addD addD_ok (re_var (i := 12)) re_int))))))
  (rss_cons (rs_if (rt_of (rw_or (rt_cmp (op_neD h64) neD_ok (re_var (i := 5)) (re_var (i := 8))) (rw_or (rt_cmp (op_neD h64) neD_ok (re_lc (own := [("k", 3)]) (by exact rfl) sc_law_is_over_due.nd (ri_range1 (by exact rfl) M.f_range (ra_cons (re_op op_sub subD_ok (b_len (by exact rfl) M.f_len (ra_cons (re_var (i := 4)) ra_nil)) re_int) ra_nil)) (blkOk_by (N := N_law_is_over_due) (own := [("k", 3)]) (by kernel_rfl)) (by decide) (fun _ _ _ _ _ => (rg_name (i := 3) sc_law_is_over_due.nd)) (fun _ _ _ _ _ => (rts_one (rt_cmp op_geD geD_ok (re_op op_addD addD_ok (re_ix (ix_all h1) ixD_ok (re_ix (ix_all h1) ixD_ok (re_var (i := 4)) (re_var (i := 3)) (fun _ _ => rfl)) re_int (fun _ _ => rfl)) re_int) (re_ix (ix_all h1) ixD_ok (re_ix (ix_all h1) ixD_ok (re_var (i := 4)) (re_op op_addD addD_ok (re_var (i := 3)) re_int) (fun _ _ => rfl)) re_int (fun _ _ => rfl))))) (fun _ _ _ _ _ => (re_var (i := 3)))) (re_lst ra_nil)) (rw_or1 (rt_cmp (op_neD h64) neD_ok (re_call C_most_used hr (by decide) (takes_of (by exact rfl) (by exact rfl) (by exact rfl) (by exact rfl)) (ra_cons (re_var (i := 0)) (ra_cons (re_var (i := 1)) ra_nil)) (by exact rfl)) (re_var (i := 2))))))) (rss_one (rs_ret re_bl)) rss_nil)
  (rss_cons (rs_if (rt_not (rt_val (re_call C_law_same hr (by decide) (takes_of (by exact rfl) (by exact rfl) (by exact rfl) (by exact rfl)) (ra_cons (re_lst (ra_cons (re_call C_do_keep hr (by decide) (takes_of (by exact rfl) (by exact rfl) (by exact rfl) (by exact rfl)) (ra_cons (re_var (i := 0)) (ra_cons (re_var (i := 1)) ra_nil)) (by exact rfl)) (ra_cons (re_call C_takes_over hr (by decide) (takes_of (by exact rfl) (by exact rfl) (by exact rfl) (by exact rfl)) (ra_cons (re_var (i := 0)) (ra_cons (re_var (i := 1)) (ra_cons (b_list (by exact rfl) M.f_list (ra_cons (re_var (i := 4)) ra_nil)) ra_nil))) (by exact rfl)) (ra_cons (re_call C_takes_over hr (by decide) (takes_of (by exact rfl) (by exact rfl) (by exact rfl) (by exact rfl)) (ra_cons (re_var (i := 0)) (ra_cons (re_var (i := 1)) (ra_cons (re_op op_addD addD_ok (re_var (i := 4)) (re_lst (ra_cons (re_tup (ra_cons re_int (ra_cons re_int ra_nil))) ra_nil))) ra_nil))) (by exact rfl)) ra_nil)))) (ra_cons (re_lst (ra_cons (re_cmp (op_eqD h64) eqD_ok (re_var (i := 8)) (re_lst ra_nil)) (ra_cons re_bl (ra_cons re_bl ra_nil)))) ra_nil)) (by exact rfl)))) (rss_one (rs_ret re_bl)) rss_nil)
  (rss_one (rs_ret (re_cmp (op_eqD h64) eqD_ok (re_lc (own := [("row", 13)]) (by exact rfl) sc_law_is_over_due.nd (ri_seq (re_sl (re_var (i := 4)) rp_no (rp_at re_int))) (blkOk_by (N := N_law_is_over_due) (own := [("row", 13)]) (by kernel_rfl)) (by decide) (fun _ _ _ _ _ => (rg_name (i := 13) sc_law_is_over_due.nd)) (fun _ _ _ _ _ => (rts_one (rt_cmp op_leD leD_ok (re_call C_used_on hr (by decide) takes0 (ra_cons (re_var (i := 0)) (ra_cons (re_var (i := 1)) (ra_cons (re_ix (ix_all h1) ixD_ok (re_var (i := 13)) re_int (fun _ _ => rfl)) ra_nil))) (by exact rfl)) (re_ix (ix_all h1) ixD_ok (re_var (i := 1)) re_int (fun _ _ => rfl))))) (fun _ _ _ _ _ => (re_var (i := 13)))) (re_lst ra_nil)))))))))))))
abbrev N_rest_by : List Str := ["stays", "rule", "day", "found"]
theorem sc_rest_by : FnScope N_rest_by ["stays", "rule", "day"] (defScope (top 26)) := ⟨rfl, rfl, rfl, by decide +kernel, rfl, by decide +kernel, by decide +kernel⟩
theorem body_rest_by (M : Mg mg) (C_used_by : Fn P w K mg base 2 "used_by" [false, false, false] F_used_by) (cdv : Value) (A : Around) (outer : List PySem.Env) (s : Shared) (H : Hp) (E : XK) (hr : Room 2 (A.deeper (envOfC "rest_by" (defScope (top 26)) s.heap.objs.size f cdv))) : RSs (cxOf (L2.CX P w) P w K mg base N_rest_by "rest_by" (defScope (top 26)) f cdv A outer s H E) (fun cls d _ H => E cls d H) (defBody (top 26)) G_rest_by := by
  have h66 : (A.deeper (envOfC "rest_by" (defScope (top 26)) s.heap.objs.size f cdv)).units + 66 < cLine := by have := hr.un; omega
  have h65 : (A.deeper (envOfC "rest_by" (defScope (top 26)) s.heap.objs.size f cdv)).units + 65 < cLine := by omega
  have h64 : (A.deeper (envOfC "rest_by" (defScope (top 26)) s.heap.objs.size f cdv)).units + 64 < cLine := by omega
  have h1 : (A.deeper (envOfC "rest_by" (defScope (top 26)) s.heap.objs.size f cdv)).units + 1 < cLine := by omega
  exact (rss_cons (rs_set (i := 3) sc_rest_by.nd re_int)
  (rss_cons (rs_while (passes_of (by exact rfl)) (rt_of (rw_and (rt_cmp (op_ltD h64) ltD_ok (re_var (i := 3)) (re_ix (ix_all h1) ixD_ok (re_var (i := 1)) re_int (fun _ _ => rfl))) (rw_and1 (rt_cmp op_leD leD_ok (re_op op_addD addD_ok (re_call C_used_by hr (by decide) (takes_of (by exact rfl) (by exact rfl) (by exact rfl) (by exact rfl)) (ra_cons (re_var (i := 0)) (ra_cons (re_ix (ix_all h1) ixD_ok (re_var (i := 1)) re_int (fun _ _ => rfl)) (ra_cons (re_op op_addD addD_ok (re_var (i := 2)) (re_var (i := 3))) ra_nil))) (by exact rfl)) (b_min2 (by exact rfl) (by exact rfl) M.f_min (ra_cons (re_op op_addD addD_ok (re_var (i := 3)) re_int) (ra_cons (re_ix (ix_all h1) ixD_ok (re_var (i := 1)) re_int (fun _ _ => rfl)) ra_nil)))) (re_ix (ix_all h1) ixD_ok (re_var (i := 1)) re_int (fun _ _ => rfl)))))) (rss_one (rs_aug (i := 3) iop_addA iaddD_ok sc_rest_by.nd re_int)))
  (rss_one (rs_ret (re_var (i := 3))))))
abbrev N_rest_from : List Str := ["stays", "rule", "day"]
theorem sc_rest_from : FnScope N_rest_from ["stays", "rule", "day"] (defScope (top 27)) := ⟨rfl, rfl, rfl, by decide +kernel, rfl, by decide +kernel, by decide +kernel⟩
theorem body_rest_from (M : Mg mg) (C_check_stays : Fn P w K mg base 5 "check_stays" [false, false] F_check_stays) (C_check : Fn P w K mg base 1 "check" [false] F_check) (C_check_behind : Fn P w K mg base 2 "check_behind" [false, false] F_check_behind) (C_rest_by : Fn P w K mg base 3 "rest_by" [false, false, false] F_rest_by) (C_is_day_papers : Fn P w K mg base 3 "is_day_papers" [false] F_is_day_papers) (cdv : Value) (A : Around) (outer : List PySem.Env) (s : Shared) (H : Hp) (E : XK) (hr : Room 5 (A.deeper (envOfC "rest_from" (defScope (top 27)) s.heap.objs.size f cdv))) : RSs (cxOf (L2.CX P w) P w K mg base N_rest_from "rest_from" (defScope (top 27)) f cdv A outer s H E) (fun cls d _ H => E cls d H) (defBody (top 27)) G_rest_from := by
  have h66 : (A.deeper (envOfC "rest_from" (defScope (top 27)) s.heap.objs.size f cdv)).units + 66 < cLine := by have := hr.un; omega
  have h65 : (A.deeper (envOfC "rest_from" (defScope (top 27)) s.heap.objs.size f cdv)).units + 65 < cLine := by omega
  have h64 : (A.deeper (envOfC "rest_from" (defScope (top 27)) s.heap.objs.size f cdv)).units + 64 < cLine := by omega
  have h1 : (A.deeper (envOfC "rest_from" (defScope (top 27)) s.heap.objs.size f cdv)).units + 1 < cLine := by omega
  exact (rss_cons (rs_expr (re_call C_check_stays hr (by decide) (takes_of (by exact rfl) (by exact rfl) (by exact rfl) (by exact rfl)) (ra_cons (re_var (i := 0)) (ra_cons (re_var (i := 1)) ra_nil)) (by exact rfl)))
  (rss_cons (rs_expr (re_call C_check hr (by decide) (takes_of (by exact rfl) (by exact rfl) (by exact rfl) (by exact rfl)) (ra_cons (re_call C_is_day_papers hr (by decide) (takes_of (by exact rfl) (by exact rfl) (by exact rfl) (by exact rfl)) (ra_cons (re_var (i := 2)) ra_nil) (by exact rfl)) ra_nil) (by exact rfl)))
  (rss_cons (rs_expr (re_call C_check_behind hr (by decide) (takes_of (by exact rfl) (by exact rfl) (by exact rfl) (by exact rfl)) (ra_cons (re_var (i := 0)) (ra_cons (re_var (i := 2)) ra_nil)) (by exact rfl)))
  (rss_one (rs_ret (re_call C_rest_by hr (by decide) (takes_of (by exact rfl) (by exact rfl) (by exact rfl) (by exact rfl)) (ra_cons (re_var (i := 0)) (ra_cons (re_var (i := 1)) (ra_cons (re_var (i := 2)) ra_nil))) (by exact rfl)))))))
abbrev N_free_again : List Str := ["stays", "rule", "day"]
theorem sc_free_again : FnScope N_free_again ["stays", "rule", "day"] (defScope (top 33)) := ⟨rfl, rfl, rfl, by decide +kernel, rfl, by decide +kernel, by decide +kernel⟩
theorem body_free_again (M : Mg mg) (C_check_stays : Fn P w K mg base 5 "check_stays" [false, false] F_check_stays) (C_check : Fn P w K mg base 1 "check" [false] F_check) (C_check_behind : Fn P w K mg base 2 "check_behind" [false, false] F_check_behind) (C_is_day_papers : Fn P w K mg base 3 "is_day_papers" [false] F_is_day_papers) (C_last_of : Fn P w K mg base 1 "last_of" [false] F_last_of) (cdv : Value) (A : Around) (outer : List PySem.Env) (s : Shared) (H : Hp) (E : XK) (hr : Room 5 (A.deeper (envOfC "free_again" (defScope (top 33)) s.heap.objs.size f cdv))) : RSs (cxOf (L2.CX P w) P w K mg base N_free_again "free_again" (defScope (top 33)) f cdv A outer s H E) (fun cls d _ H => E cls d H) (defBody (top 33)) G_free_again := by
  have h66 : (A.deeper (envOfC "free_again" (defScope (top 33)) s.heap.objs.size f cdv)).units + 66 < cLine := by have := hr.un; omega
  have h65 : (A.deeper (envOfC "free_again" (defScope (top 33)) s.heap.objs.size f cdv)).units + 65 < cLine := by omega
  have h64 : (A.deeper (envOfC "free_again" (defScope (top 33)) s.heap.objs.size f cdv)).units + 64 < cLine := by omega
  have h1 : (A.deeper (envOfC "free_again" (defScope (top 33)) s.heap.objs.size f cdv)).units + 1 < cLine := by omega
  exact (rss_cons (rs_expr (re_call C_check_stays hr (by decide) (takes_of (by exact rfl) (by exact rfl) (by exact rfl) (by exact rfl)) (ra_cons (re_var (i := 0)) (ra_cons (re_var (i := 1)) ra_nil)) (by exact rfl)))
  (rss_cons (rs_expr (re_call C_check hr (by decide) (takes_of (by exact rfl) (by exact rfl) (by exact rfl) (by exact rfl)) (ra_cons (re_call C_is_day_papers hr (by decide) (takes_of (by exact rfl) (by exact rfl) (by exact rfl) (by exact rfl)) (ra_cons (re_var (i := 2)) ra_nil) (by exact rfl)) ra_nil) (by exact rfl)))
  (rss_cons (rs_expr (re_call C_check_behind hr (by decide) (takes_of (by exact rfl) (by exact rfl) (by exact rfl) (by exact rfl)) (ra_cons (re_var (i := 0)) (ra_cons (re_var (i := 2)) ra_nil)) (by exact rfl)))
  (rss_one (rs_ret (re_if (rt_cmp op_gtD gtD_ok (b_len (by exact rfl) M.f_len (ra_cons (re_var (i := 0)) ra_nil)) re_int) (b_max2 (by exact rfl) (by exact rfl) M.f_max (ra_cons (re_var (i := 2)) (ra_cons (re_op op_addD addD_ok (re_call C_last_of hr (by decide) (takes_of (by exact rfl) (by exact rfl) (by exact rfl) (by exact rfl)) (ra_cons (re_var (i := 0)) ra_nil) (by exact rfl)) (re_ix (ix_all h1) ixD_ok (re_var (i := 1)) re_int (fun _ _ => rfl))) ra_nil))) (re_var (i := 2))))))))
abbrev N_last_day : List Str := ["stays", "rule", "day", "rest"]
theorem sc_last_day : FnScope N_last_day ["stays", "rule", "day"] (defScope (top 29)) := ⟨rfl, rfl, rfl, by decide +kernel, rfl, by decide +kernel, by decide +kernel⟩
theorem body_last_day (M : Mg mg) (C_rest_from : Fn P w K mg base 6 "rest_from" [false, false, false] F_rest_from) (cdv : Value) (A : Around) (outer : List PySem.Env) (s : Shared) (H : Hp) (E : XK) (hr : Room 6 (A.deeper (envOfC "last_day" (defScope (top 29)) s.heap.objs.size f cdv))) : RSs (cxOf (L2.CX P w) P w K mg base N_last_day "last_day" (defScope (top 29)) f cdv A outer s H E) (fun cls d _ H => E cls d H) (defBody (top 29)) G_last_day := by
  have h66 : (A.deeper (envOfC "last_day" (defScope (top 29)) s.heap.objs.size f cdv)).units + 66 < cLine := by have := hr.un; omega
  have h65 : (A.deeper (envOfC "last_day" (defScope (top 29)) s.heap.objs.size f cdv)).units + 65 < cLine := by omega
  have h64 : (A.deeper (envOfC "last_day" (defScope (top 29)) s.heap.objs.size f cdv)).units + 64 < cLine := by omega
  have h1 : (A.deeper (envOfC "last_day" (defScope (top 29)) s.heap.objs.size f cdv)).units + 1 < cLine := by omega
  exact (rss_cons (rs_set (i := 3) sc_last_day.nd (re_call C_rest_from hr (by decide) (takes_of (by exact rfl) (by exact rfl) (by exact rfl) (by exact rfl)) (ra_cons (re_var (i := 0)) (ra_cons (re_var (i := 1)) (ra_cons (re_var (i := 2)) ra_nil))) (by exact rfl)))
  (rss_one (rs_ret (re_if (rt_cmp op_gtD gtD_ok (re_var (i := 3)) re_int) (re_op op_sub subD_ok (re_op op_addD addD_ok (re_var (i := 2)) (re_var (i := 3))) re_int) re_non))))
abbrev N_can_stay : List Str := ["old", "rule", "come", "n", "days", "day"]
theorem sc_can_stay : FnScope N_can_stay ["old", "rule", "come", "n"] (defScope (top 42)) := ⟨rfl, rfl, rfl, by decide +kernel, rfl, by decide +kernel, by decide +kernel⟩
theorem body_can_stay (M : Mg mg) (C_all_over : Fn P w K mg base 1 "all_over" [false, false] F_all_over) (cdv : Value) (A : Around) (outer : List PySem.Env) (s : Shared) (H : Hp) (E : XK) (hr : Room 1 (A.deeper (envOfC "can_stay" (defScope (top 42)) s.heap.objs.size f cdv))) : RSs (cxOf (L2.CX P w) P w K mg base N_can_stay "can_stay" (defScope (top 42)) f cdv A outer s H E) (fun cls d _ H => E cls d H) (defBody (top 42)) G_can_stay := by
  have h66 : (A.deeper (envOfC "can_stay" (defScope (top 42)) s.heap.objs.size f cdv)).units + 66 < cLine := by have := hr.un; omega
  have h65 : (A.deeper (envOfC "can_stay" (defScope (top 42)) s.heap.objs.size f cdv)).units + 65 < cLine := by omega
  have h64 : (A.deeper (envOfC "can_stay" (defScope (top 42)) s.heap.objs.size f cdv)).units + 64 < cLine := by omega
  have h1 : (A.deeper (envOfC "can_stay" (defScope (top 42)) s.heap.objs.size f cdv)).units + 1 < cLine := by omega
  exact (rss_cons (rs_set (i := 4) sc_can_stay.nd (re_lst (ra_star (re_var (i := 0)) (ra_starR2 (by exact rfl) (by exact rfl) M.f_range (re_var (i := 2)) (re_op op_addD addD_ok (re_var (i := 2)) (re_var (i := 3))) ra_nil))))
  (rss_one (rs_ret (re_not (b_any (by exact rfl) (by exact rfl) M.f_any (ra_cons (re_lc (own := [("day", 5)]) (by exact rfl) sc_can_stay.nd (ri_seq (re_call C_all_over hr (by decide) (takes_of (by exact rfl) (by exact rfl) (by exact rfl) (by exact rfl)) (ra_cons (re_var (i := 4)) (ra_cons (re_var (i := 1)) ra_nil)) (by exact rfl))) (blkOk_by (N := N_can_stay) (own := [("day", 5)]) (by kernel_rfl)) (by decide) (fun _ _ _ _ _ => (rg_name (i := 5) sc_can_stay.nd)) (fun _ _ _ _ _ => rts_nil) (fun _ _ _ _ _ => (re_cmp op_geD geD_ok (re_var (i := 5)) (re_var (i := 2))))) ra_nil))))))
abbrev N_takes_entry : List Str := ["stays", "rule", "day", "n", "told", "last", "old", "one", "come", "leave"]
theorem sc_takes_entry : FnScope N_takes_entry ["stays", "rule", "day", "n", "told"] (defScope (top 43)) := ⟨rfl, rfl, rfl, by decide +kernel, rfl, by decide +kernel, by decide +kernel⟩
theorem body_takes_entry (M : Mg mg) (C_need_stays : Fn P w K mg base 4 "need_stays" [false] F_need_stays) (C_can_stay : Fn P w K mg base 2 "can_stay" [false, false, false, false] F_can_stay) (C_is_rule_checkstays : Fn P w K mg base 3 "is_rule_checkstays" [false] F_is_rule_checkstays) (C_is_day_checkstays : Fn P w K mg base 3 "is_day_checkstays" [false] F_is_day_checkstays) (C_is_within : Fn P w K mg base 2 "is_within" [false, false, false] F_is_within) (C_is_integer : Fn P w K mg base 1 "is_integer" [false] F_is_integer) (cdv : Value) (A : Around) (outer : List PySem.Env) (s : Shared) (H : Hp) (E : XK) (hr : Room 4 (A.deeper (envOfC "takes_entry" (defScope (top 43)) s.heap.objs.size f cdv))) : RSs (cxOf (L2.CX P w) P w K mg base N_takes_entry "takes_entry" (defScope (top 43)) f cdv A outer s H E) (fun cls d _ H => E cls d H) (defBody (top 43)) G_takes_entry := by
  have h66 : (A.deeper (envOfC "takes_entry" (defScope (top 43)) s.heap.objs.size f cdv)).units + 66 < cLine := by have := hr.un; omega
  have h65 : (A.deeper (envOfC "takes_entry" (defScope (top 43)) s.heap.objs.size f cdv)).units + 65 < cLine := by omega
  have h64 : (A.deeper (envOfC "takes_entry" (defScope (top 43)) s.heap.objs.size f cdv)).units + 64 < cLine := by omega
  have h1 : (A.deeper (envOfC "takes_entry" (defScope (top 43)) s.heap.objs.size f cdv)).units + 1 < cLine := by omega
  exact (rss_cons (rs_expr (re_call C_need_stays hr (by decide) (takes_of (by exact rfl) (by exact rfl) (by exact rfl) (by exact rfl)) (ra_cons (re_var (i := 0)) ra_nil) (by exact rfl)))
  (rss_cons (rs_if (rt_of (rw_or (rt_not (rt_val (re_call C_is_rule_checkstays hr (by decide) (takes_of (by exact rfl) (by exact rfl) (by exact rfl) (by exact rfl)) (ra_cons (re_var (i := 1)) ra_nil) (by exact rfl)))) (rw_or (rt_not (rt_val (re_call C_is_day_checkstays hr (by decide) (takes_of (by exact rfl) (by exact rfl) (by exact rfl) (by exact rfl)) (ra_cons (re_var (i := 2)) ra_nil) (by exact rfl)))) (rw_or (rt_not (rt_val (re_call C_is_within hr (by decide) (takes_of (by exact rfl) (by exact rfl) (by exact rfl) (by exact rfl)) (ra_cons (re_var (i := 3)) (ra_cons re_int (ra_cons (re_ix (ix_all h1) ixD_ok (re_var (i := 1)) re_int (fun _ _ => rfl)) ra_nil))) (by exact rfl)))) (rw_or (rt_not (rt_val (re_call C_is_integer hr (by decide) (takes_of (by exact rfl) (by exact rfl) (by exact rfl) (by exact rfl)) (ra_cons (re_var (i := 4)) ra_nil) (by exact rfl)))) (rw_or1 (rt_cmp (op_ltD h64) ltD_ok (re_var (i := 4)) (re_var (i := 2))))))))) (rss_one (rs_ret re_bl)) rss_nil)
  (rss_cons (rs_set (i := 5) sc_takes_entry.nd (re_if (rt_cmp op_gtD gtD_ok (b_len (by exact rfl) M.f_len (ra_cons (re_var (i := 0)) ra_nil)) re_int) (re_ix (ix_all h1) ixD_ok (re_ix (ix_all h1) ixD_ok (re_var (i := 0)) (re_un un_neg negD_ok re_int) (fun _ _ => rfl)) re_int (fun _ _ => rfl)) (re_un un_neg negD_ok re_int)))
  (rss_cons (rs_if (rt_of (rw_or (rt_cmp op_leD leD_ok (re_var (i := 2)) (re_var (i := 5))) (rw_or1 (rt_cmp op_gtD gtD_ok (re_var (i := 4)) (b_max2 (by exact rfl) (by exact rfl) M.f_max (ra_cons (re_var (i := 2)) (ra_cons (re_op op_addD addD_ok (re_var (i := 5)) (re_ix (ix_all h1) ixD_ok (re_var (i := 1)) re_int (fun _ _ => rfl))) ra_nil))))))) (rss_one (rs_ret re_bl)) rss_nil)
  (rss_cons (rs_set (i := 6) sc_takes_entry.nd (re_lc2 (own := [("come", 8), ("leave", 9), ("one", 7)]) (vs1 := [7]) (by exact rfl) sc_takes_entry.nd (ri_seq (re_var (i := 0))) (blkOk_by (N := N_takes_entry) (own := [("come", 8), ("leave", 9), ("one", 7)]) (by kernel_rfl)) (by decide) (by decide) (by decide) (fun _ _ _ _ _ => (rg_seq (n := 2) (by exact rfl) (rgs_cons (rg_name (i := 8) sc_takes_entry.nd) (rgs_cons (rg_name (i := 9) sc_takes_entry.nd) rgs_nil)) (ts_name_len (ts_name_len ts_nil_len)))) (fun _ _ _ _ _ => rts_nil) (fun _ _ _ _ _ => (ri_range2 (by exact rfl) M.f_range (ra_cons (b_max2 (by exact rfl) (by exact rfl) M.f_max (ra_cons (re_var (i := 8)) (ra_cons (re_op op_sub subD_ok (re_var (i := 5)) (re_ix (ix_all h1) ixD_ok (re_var (i := 1)) re_int (fun _ _ => rfl))) ra_nil))) (ra_cons (re_op op_addD addD_ok (re_var (i := 9)) re_int) ra_nil)))) (fun _ _ _ _ _ => (rg_name (i := 7) sc_takes_entry.nd)) (fun _ _ _ _ _ => rts_nil) (fun _ _ _ _ _ => (re_var (i := 7)))))
  (rss_one (rs_ret (re_and (re_call C_can_stay hr (by decide) (takes_of (by exact rfl) (by exact rfl) (by exact rfl) (by exact rfl)) (ra_cons (re_var (i := 6)) (ra_cons (re_var (i := 1)) (ra_cons (re_var (i := 4)) (ra_cons (re_var (i := 3)) ra_nil)))) (by exact rfl)) (re_one (re_not (b_any (by exact rfl) (by exact rfl) M.f_any (ra_cons (re_lc (own := [("come", 8)]) (by exact rfl) sc_takes_entry.nd (ri_range2 (by exact rfl) M.f_range (ra_cons (re_var (i := 2)) (ra_cons (re_var (i := 4)) ra_nil))) (blkOk_by (N := N_takes_entry) (own := [("come", 8)]) (by kernel_rfl)) (by decide) (fun _ _ _ _ _ => (rg_name (i := 8) sc_takes_entry.nd)) (fun _ _ _ _ _ => rts_nil) (fun _ _ _ _ _ => (re_call C_can_stay hr (by decide) takes0 (ra_cons (re_var (i := 6)) (ra_cons (re_var (i := 1)) (ra_cons (re_var (i := 8)) (ra_cons (re_var (i := 3)) ra_nil)))) (by exact rfl)))) ra_nil))))))))))))
abbrev N_law_is_behind_due : List Str := ["draws", "stays", "rule", "last", "rest", "much", "entry", "come", "free", "day", "n", "over", "fits", "row"]
theorem sc_law_is_behind_due : FnScope N_law_is_behind_due ["draws", "stays", "rule"] (defScope (top 52)) := ⟨rfl, rfl, rfl, by decide +kernel, rfl, by decide +kernel, by decide +kernel⟩
theorem body_law_is_behind_due (M : Mg mg) (C_rest_from : Fn P w K mg base 6 "rest_from" [false, false, false] F_rest_from) (C_first_entry : Fn P w K mg base 6 "first_entry" [false, false, false, false] F_first_entry) (C_free_again : Fn P w K mg base 6 "free_again" [false, false, false] F_free_again) (C_law_take : Fn P w K mg base 1 "_law_take" [true, false] F_law_take) (C_last_day : Fn P w K mg base 7 "last_day" [false, false, false] F_last_day) (C_over_days : Fn P w K mg base 6 "over_days" [false, false] F_over_days) (C_takes_entry : Fn P w K mg base 5 "takes_entry" [false, false, false, false, false] F_takes_entry) (C_used_on : Fn P w K mg base 6 "used_on" [false, false, false] F_used_on) (cdv : Value) (A : Around) (outer : List PySem.Env) (s : Shared) (H : Hp) (E : XK) (hr : Room 7 (A.deeper (envOfC "_law_is_behind_due" (defScope (top 52)) s.heap.objs.size f cdv))) : RSs (cxOf (L2.CX P w) P w K mg base N_law_is_behind_due "_law_is_behind_due" (defScope (top 52)) f cdv A outer s H E) (fun cls d _ H => E cls d H) (defBody (top 52)) G_law_is_behind_due := by
  have h66 : (A.deeper (envOfC "_law_is_behind_due" (defScope (top 52)) s.heap.objs.size f cdv)).units + 66 < cLine := by have := hr.un; omega
  have h65 : (A.deeper (envOfC "_law_is_behind_due" (defScope (top 52)) s.heap.objs.size f cdv)).units + 65 < cLine := by omega
  have h64 : (A.deeper (envOfC "_law_is_behind_due" (defScope (top 52)) s.heap.objs.size f cdv)).units + 64 < cLine := by omega
  have h1 : (A.deeper (envOfC "_law_is_behind_due" (defScope (top 52)) s.heap.objs.size f cdv)).units + 1 < cLine := by omega
  exact (rss_cons (rs_set (i := 3) sc_law_is_behind_due.nd (re_if (rt_cmp (op_neD h64) neD_ok (re_var (i := 1)) (re_lst ra_nil)) (re_ix (ix_all h1) ixD_ok (re_ix (ix_all h1) ixD_ok (re_var (i := 1)) (re_un un_neg negD_ok re_int) (fun _ _ => rfl)) re_int (fun _ _ => rfl)) (re_un un_neg negD_ok re_int)))
  (rss_cons (rs_asg (re_tup (ra_cons (re_op op_addD addD_ok (re_op op_addD addD_ok (re_var (i := 3)) re_int) (re_call C_law_take hr (by decide) (takes_of (by exact rfl) (by exact rfl) (by exact rfl) (by exact rfl)) (ra_cons (re_var (i := 0)) (ra_cons re_int ra_nil)) (by exact rfl))) (ra_cons (re_op op_addD addD_ok re_int (re_call C_law_take hr (by decide) (takes_of (by exact rfl) (by exact rfl) (by exact rfl) (by exact rfl)) (ra_cons (re_var (i := 0)) (ra_cons (re_ix (ix_all h1) ixD_ok (re_var (i := 2)) re_int (fun _ _ => rfl)) ra_nil)) (by exact rfl))) ra_nil))) (rg_seq (n := 2) (by exact rfl) (rgs_cons (rg_name (i := 9) sc_law_is_behind_due.nd) (rgs_cons (rg_name (i := 10) sc_law_is_behind_due.nd) rgs_nil)) (ts_name_len (ts_name_len ts_nil_len))))
  (rss_cons (rs_set (i := 4) sc_law_is_behind_due.nd (re_call C_rest_from hr (by decide) (takes_of (by exact rfl) (by exact rfl) (by exact rfl) (by exact rfl)) (ra_cons (re_var (i := 1)) (ra_cons (re_var (i := 2)) (ra_cons (re_var (i := 9)) ra_nil))) (by exact rfl)))
  (rss_cons (rs_if (rt_of (rw_or (rt_cmp (op_neD h64) neD_ok (re_call C_last_day hr (by decide) (takes_of (by exact rfl) (by exact rfl) (by exact rfl) (by exact rfl)) (ra_cons (re_var (i := 1)) (ra_cons (re_var (i := 2)) (ra_cons (re_var (i := 9)) ra_nil))) (by exact rfl)) (re_if (rt_cmp op_gtD gtD_ok (re_var (i := 4)) re_int) (re_op op_sub subD_ok (re_op op_addD addD_ok (re_var (i := 9)) (re_var (i := 4))) re_int) re_non)) (rw_or1 (rt_not (rt_chain op_leD op_leD leD_ok leD_ok re_int (re_var (i := 4)) (re_ix (ix_all h1) ixD_ok (re_var (i := 2)) re_int (fun _ _ => rfl))))))) (rss_one (rs_ret re_bl)) rss_nil)
  (rss_cons (rs_for (passes_of (by exact rfl)) (by exact rfl) (ri_seq (re_lst (ra_cons (re_var (i := 4)) (ra_cons (re_op op_addD addD_ok (re_var (i := 4)) re_int) ra_nil)))) (rg_name (i := 5) sc_law_is_behind_due.nd) (rss_one (rs_if (rt_of (rw_and (rt_cmp op_gtD gtD_ok (re_var (i := 5)) re_int) (rw_and1 (rt_of (rw_or (rt_cmp (op_eqD h64) eqD_ok (re_var (i := 5)) (re_var (i := 4))) (rw_or1 (rt_cmp (op_ltD h64) ltD_ok (re_var (i := 4)) (re_ix (ix_all h1) ixD_ok (re_var (i := 2)) re_int (fun _ _ => rfl))))))))) (rss_cons (rs_set (i := 11) sc_law_is_behind_due.nd (re_call C_over_days hr (by decide) (takes_of (by exact rfl) (by exact rfl) (by exact rfl) (by exact rfl)) (ra_cons (re_op op_addD addD_ok (re_var (i := 1)) (re_lst (ra_cons (re_tup (ra_cons (re_var (i := 9)) (ra_cons (re_op op_sub subD_ok (re_op op_addD addD_ok (re_var (i := 9)) (re_var (i := 5))) re_int) ra_nil))) ra_nil))) (ra_cons (re_var (i := 2)) ra_nil)) (by exact rfl)))
  (rss_cons (rs_set (i := 12) sc_law_is_behind_due.nd (re_cmp (op_eqD h64) eqD_ok (re_lc (own := [("row", 13)]) (by exact rfl) sc_law_is_behind_due.nd (ri_seq (re_var (i := 11))) (blkOk_by (N := N_law_is_behind_due) (own := [("row", 13)]) (by kernel_rfl)) (by decide) (fun _ _ _ _ _ => (rg_name (i := 13) sc_law_is_behind_due.nd)) (fun _ _ _ _ _ => (rts_one (rt_cmp op_geD geD_ok (re_ix (ix_all h1) ixD_ok (re_var (i := 13)) re_int (fun _ _ => rfl)) (re_var (i := 9))))) (fun _ _ _ _ _ => (re_var (i := 13)))) (re_lst ra_nil)))
  (rss_one (rs_if (rt_of (rw_and (rt_cmp (op_neD h64) neD_ok (re_var (i := 12)) (re_cmp (op_eqD h64) eqD_ok (re_var (i := 5)) (re_var (i := 4)))) (rw_and1 (rt_cmp (op_ltD h64) ltD_ok (b_len (by exact rfl) M.f_len (ra_cons (re_var (i := 1)) ra_nil)) re_int)))) (rss_one (rs_ret re_bl)) rss_nil)))) rss_nil)))
  (rss_cons (rs_set (i := 6) sc_law_is_behind_due.nd (re_call C_first_entry hr (by decide) (takes_of (by exact rfl) (by exact rfl) (by exact rfl) (by exact rfl)) (ra_cons (re_var (i := 1)) (ra_cons (re_var (i := 2)) (ra_cons (re_var (i := 9)) (ra_cons (re_var (i := 10)) ra_nil)))) (by exact rfl)))
  (rss_cons (rs_for (passes_of (by exact rfl)) (by exact rfl) (ri_seq (re_lst (ra_cons (re_var (i := 6)) (ra_cons (re_op op_sub subD_ok (re_var (i := 6)) re_int) (ra_cons (re_var (i := 9)) ra_nil))))) (rg_name (i := 7) sc_law_is_behind_due.nd) (rss_one (rs_if (rt_of (rw_and (rt_cmp op_geD geD_ok (re_var (i := 7)) (re_var (i := 9))) (rw_and1 (rt_cmp (op_ltD h64) ltD_ok (b_len (by exact rfl) M.f_len (ra_cons (re_var (i := 1)) ra_nil)) re_int)))) (rss_cons (rs_set (i := 11) sc_law_is_behind_due.nd (re_call C_over_days hr (by decide) (takes_of (by exact rfl) (by exact rfl) (by exact rfl) (by exact rfl)) (ra_cons (re_op op_addD addD_ok (re_var (i := 1)) (re_lst (ra_cons (re_tup (ra_cons (re_var (i := 7)) (ra_cons (re_op op_sub subD_ok (re_op op_addD addD_ok (re_var (i := 7)) (re_var (i := 10))) re_int) ra_nil))) ra_nil))) (ra_cons (re_var (i := 2)) ra_nil)) (by exact rfl)))
  (rss_one (rs_if (rt_cmp (op_neD h64) neD_ok (re_cmp (op_eqD h64) eqD_ok (re_lc (own := [("row", 13)]) (by exact rfl) sc_law_is_behind_due.nd (ri_seq (re_var (i := 11))) (blkOk_by (N := N_law_is_behind_due) (own := [("row", 13)]) (by kernel_rfl)) (by decide) (fun _ _ _ _ _ => (rg_name (i := 13) sc_law_is_behind_due.nd)) (fun _ _ _ _ _ => (rts_one (rt_cmp op_geD geD_ok (re_ix (ix_all h1) ixD_ok (re_var (i := 13)) re_int (fun _ _ => rfl)) (re_var (i := 7))))) (fun _ _ _ _ _ => (re_var (i := 13)))) (re_lst ra_nil)) (re_cmp (op_eqD h64) eqD_ok (re_var (i := 7)) (re_var (i := 6)))) (rss_one (rs_ret re_bl)) rss_nil))) rss_nil)))
  (rss_cons (rs_if (rt_of (rw_or (rt_cmp op_isNotD isNotD_ok (re_call C_takes_entry hr (by decide) (takes_of (by exact rfl) (by exact rfl) (by exact rfl) (by exact rfl)) (ra_cons (re_var (i := 1)) (ra_cons (re_var (i := 2)) (ra_cons (re_var (i := 9)) (ra_cons (re_var (i := 10)) (ra_cons (re_var (i := 6)) ra_nil))))) (by exact rfl)) re_bl) (rw_or1 (rt_cmp op_isNotD isNotD_ok (re_call C_takes_entry hr (by decide) (takes_of (by exact rfl) (by exact rfl) (by exact rfl) (by exact rfl)) (ra_cons (re_var (i := 1)) (ra_cons (re_var (i := 2)) (ra_cons (re_var (i := 9)) (ra_cons (re_var (i := 10)) (ra_cons (re_op op_addD addD_ok (re_var (i := 6)) re_int) ra_nil))))) (by exact rfl)) re_bl)))) (rss_one (rs_ret re_bl)) rss_nil)
  (rss_cons (rs_set (i := 8) sc_law_is_behind_due.nd (re_call C_free_again hr (by decide) (takes_of (by exact rfl) (by exact rfl) (by exact rfl) (by exact rfl)) (ra_cons (re_var (i := 1)) (ra_cons (re_var (i := 2)) (ra_cons (re_var (i := 9)) ra_nil))) (by exact rfl)))
  (rss_one (rs_ret (re_and (re_cmp (op_eqD h64) eqD_ok (re_call C_used_on hr (by decide) (takes_of (by exact rfl) (by exact rfl) (by exact rfl) (by exact rfl)) (ra_cons (re_var (i := 1)) (ra_cons (re_var (i := 2)) (ra_cons (re_var (i := 8)) ra_nil))) (by exact rfl)) re_int) (re_and (re_or (re_cmp (op_eqD h64) eqD_ok (re_var (i := 8)) (re_var (i := 9))) (re_one (re_cmp op_gtD gtD_ok (re_call C_used_on hr (by decide) (takes_of (by exact rfl) (by exact rfl) (by exact rfl) (by exact rfl)) (ra_cons (re_var (i := 1)) (ra_cons (re_var (i := 2)) (ra_cons (re_op op_sub subD_ok (re_var (i := 8)) re_int) ra_nil))) (by exact rfl)) re_int))) (re_and (re_cmp (op_eqD h64) eqD_ok (re_call C_rest_from hr (by decide) (takes_of (by exact rfl) (by exact rfl) (by exact rfl) (by exact rfl)) (ra_cons (re_var (i := 1)) (ra_cons (re_var (i := 2)) (ra_cons (re_var (i := 8)) ra_nil))) (by exact rfl)) (re_ix (ix_all h1) ixD_ok (re_var (i := 2)) re_int (fun _ _ => rfl))) (re_one (re_cmp op_leD leD_ok (re_var (i := 6)) (re_var (i := 8))))))))))))))))))
abbrev N_days_in : List Str := ["stays", "a", "b"]
theorem sc_days_in : FnScope N_days_in ["stays", "a", "b"] (defScope (top 30)) := ⟨rfl, rfl, rfl, by decide +kernel, rfl, by decide +kernel, by decide +kernel⟩
theorem body_days_in (M : Mg mg) (C_check : Fn P w K mg base 1 "check" [false] F_check) (C_days_by : Fn P w K mg base 1 "days_by" [false, false, false] F_days_by) (C_are_stays : Fn P w K mg base 4 "are_stays" [false] F_are_stays) (C_is_day_papers : Fn P w K mg base 3 "is_day_papers" [false] F_is_day_papers) (cdv : Value) (A : Around) (outer : List PySem.Env) (s : Shared) (H : Hp) (E : XK) (hr : Room 4 (A.deeper (envOfC "days_in" (defScope (top 30)) s.heap.objs.size f cdv))) : RSs (cxOf (L2.CX P w) P w K mg base N_days_in "days_in" (defScope (top 30)) f cdv A outer s H E) (fun cls d _ H => E cls d H) (defBody (top 30)) G_days_in := by
  have h66 : (A.deeper (envOfC "days_in" (defScope (top 30)) s.heap.objs.size f cdv)).units + 66 < cLine := by have := hr.un; omega
  have h65 : (A.deeper (envOfC "days_in" (defScope (top 30)) s.heap.objs.size f cdv)).units + 65 < cLine := by omega
  have h64 : (A.deeper (envOfC "days_in" (defScope (top 30)) s.heap.objs.size f cdv)).units + 64 < cLine := by omega
  have h1 : (A.deeper (envOfC "days_in" (defScope (top 30)) s.heap.objs.size f cdv)).units + 1 < cLine := by omega
  exact (rss_cons (rs_expr (re_call C_check hr (by decide) (takes_of (by exact rfl) (by exact rfl) (by exact rfl) (by exact rfl)) (ra_cons (re_call C_are_stays hr (by decide) (takes_of (by exact rfl) (by exact rfl) (by exact rfl) (by exact rfl)) (ra_cons (re_var (i := 0)) ra_nil) (by exact rfl)) ra_nil) (by exact rfl)))
  (rss_cons (rs_expr (re_call C_check hr (by decide) (takes_of (by exact rfl) (by exact rfl) (by exact rfl) (by exact rfl)) (ra_cons (re_and (re_call C_is_day_papers hr (by decide) (takes_of (by exact rfl) (by exact rfl) (by exact rfl) (by exact rfl)) (ra_cons (re_var (i := 1)) ra_nil) (by exact rfl)) (re_one (re_call C_is_day_papers hr (by decide) (takes_of (by exact rfl) (by exact rfl) (by exact rfl) (by exact rfl)) (ra_cons (re_var (i := 2)) ra_nil) (by exact rfl)))) ra_nil) (by exact rfl)))
  (rss_one (rs_ret (re_call C_days_by hr (by decide) (takes_of (by exact rfl) (by exact rfl) (by exact rfl) (by exact rfl)) (ra_cons (re_var (i := 0)) (ra_cons (re_var (i := 1)) (ra_cons (re_var (i := 2)) ra_nil))) (by exact rfl))))))
abbrev N_law : List Str := ["script", "draws", "turn", "rule", "last", "day", "here", "k", "stays", "window", "a", "b", "c", "whole", "much", "come", "n", "entry", "leave"]
theorem sc_law : FnScope N_law ["script"] (defScope (top 53)) := ⟨rfl, rfl, rfl, by decide +kernel, rfl, by decide +kernel, by decide +kernel⟩
theorem body_law (M : Mg mg) (C_law_draws : Fn P w K mg base 1 "_law_draws" [false] F_law_draws) (C_law_take : Fn P w K mg base 1 "_law_take" [true, false] F_law_take) (C_law_stays : Fn P w K mg base 3 "_law_stays" [true] F_law_stays) (C_joined_stays : Fn P w K mg base 5 "joined_stays" [false, false, false] F_joined_stays) (C_first_entry : Fn P w K mg base 6 "first_entry" [false, false, false, false] F_first_entry) (C_do_keep : Fn P w K mg base 7 "do_keep" [false, false] F_do_keep) (C_are_stays : Fn P w K mg base 4 "are_stays" [false] F_are_stays) (C_law_is_over_due : Fn P w K mg base 8 "_law_is_over_due" [false, false] F_law_is_over_due) (C_law_is_behind_due : Fn P w K mg base 8 "_law_is_behind_due" [true, false, false] F_law_is_behind_due) (C_days_in : Fn P w K mg base 5 "days_in" [false, false, false] F_days_in) (C_used_on : Fn P w K mg base 6 "used_on" [false, false, false] F_used_on) (C_law_pick : Fn P w K mg base 2 "_law_pick" [true, false] F_law_pick) (cdv : Value) (A : Around) (outer : List PySem.Env) (s : Shared) (H : Hp) (E : XK) (hr : Room 8 (A.deeper (envOfC "law" (defScope (top 53)) s.heap.objs.size f cdv))) : RSs (cxOf (L2.CX P w) P w K mg base N_law "law" (defScope (top 53)) f cdv A outer s H E) (fun cls d _ H => E cls d H) (defBody (top 53)) G_law := by
  have h66 : (A.deeper (envOfC "law" (defScope (top 53)) s.heap.objs.size f cdv)).units + 66 < cLine := by have := hr.un; omega
  have h65 : (A.deeper (envOfC "law" (defScope (top 53)) s.heap.objs.size f cdv)).units + 65 < cLine := by omega
  have h64 : (A.deeper (envOfC "law" (defScope (top 53)) s.heap.objs.size f cdv)).units + 64 < cLine := by omega
  have h1 : (A.deeper (envOfC "law" (defScope (top 53)) s.heap.objs.size f cdv)).units + 1 < cLine := by omega
  exact (rss_cons (rs_set (i := 1) sc_law.nd (re_call C_law_draws hr (by decide) (takes_of (by exact rfl) (by exact rfl) (by exact rfl) (by exact rfl)) (ra_cons (re_var (i := 0)) ra_nil) (by exact rfl)))
  (rss_cons (rs_for (passes_of (by exact rfl)) (by exact rfl) (ri_range1 (by exact rfl) M.f_range (ra_cons re_int ra_nil)) (rg_name (i := 2) sc_law.nd) (rss_cons (rs_par2 (i := 8) (j := 9) (by exact rfl) sc_law.nd (rk_cons (re_call C_law_stays hr (by decide) (takes_of (by exact rfl) (by exact rfl) (by exact rfl) (by exact rfl)) (ra_cons (re_var (i := 1)) ra_nil) (by exact rfl)) (rk_cons (re_op op_addD addD_ok re_int (re_call C_law_take hr (by decide) (takes_of (by exact rfl) (by exact rfl) (by exact rfl) (by exact rfl)) (ra_cons (re_var (i := 1)) (ra_cons (re_call C_law_pick hr (by decide) (takes_of (by exact rfl) (by exact rfl) (by exact rfl) (by exact rfl)) (ra_cons (re_var (i := 1)) (ra_cons (re_lst (ra_cons re_int (ra_cons re_int (ra_cons re_int ra_nil)))) ra_nil)) (by exact rfl)) ra_nil)) (by exact rfl))) rk_nil)))
  (rss_cons (rs_set (i := 3) sc_law.nd (re_tup (ra_cons (re_op op_addD addD_ok re_int (re_call C_law_take hr (by decide) (takes_of (by exact rfl) (by exact rfl) (by exact rfl) (by exact rfl)) (ra_cons (re_var (i := 1)) (ra_cons (re_var (i := 9)) ra_nil)) (by exact rfl))) (ra_cons (re_var (i := 9)) ra_nil))))
  (rss_cons (rs_if (rt_of (rw_or (rt_not (rt_val (re_call C_are_stays hr (by decide) (takes_of (by exact rfl) (by exact rfl) (by exact rfl) (by exact rfl)) (ra_cons (re_var (i := 8)) ra_nil) (by exact rfl)))) (rw_or (rt_not (rt_val (re_call C_law_is_over_due hr (by decide) (takes_of (by exact rfl) (by exact rfl) (by exact rfl) (by exact rfl)) (ra_cons (re_var (i := 8)) (ra_cons (re_var (i := 3)) ra_nil)) (by exact rfl)))) (rw_or1 (rt_not (rt_val (re_call C_law_is_behind_due hr (by decide) (takes_of (by exact rfl) (by exact rfl) (by exact rfl) (by exact rfl)) (ra_cons (re_var (i := 1)) (ra_cons (re_var (i := 8)) (ra_cons (re_var (i := 3)) ra_nil))) (by exact rfl)))))))) (rss_one (rs_ret re_bl)) rss_nil)
  (rss_cons (rs_set (i := 4) sc_law.nd (re_if (rt_cmp (op_neD h64) neD_ok (re_var (i := 8)) (re_lst ra_nil)) (re_ix (ix_all h1) ixD_ok (re_ix (ix_all h1) ixD_ok (re_var (i := 8)) (re_un un_neg negD_ok re_int) (fun _ _ => rfl)) re_int (fun _ _ => rfl)) re_int))
  (rss_cons (rs_asg (b_sorted h66 (by exact rfl) M.f_sorted (ra_cons (re_lc (own := [("k", 7)]) (by exact rfl) sc_law.nd (ri_range1 (by exact rfl) M.f_range (ra_cons re_int ra_nil)) (blkOk_by (N := N_law) (own := [("k", 7)]) (by kernel_rfl)) (by decide) (fun _ _ _ _ _ => (rg_name (i := 7) sc_law.nd)) (fun _ _ _ _ _ => rts_nil) (fun _ _ _ _ _ => (re_call C_law_take hr (by decide) takes0 (ra_cons (re_var (i := 1)) (ra_cons (re_op op_addD addD_ok (re_var (i := 4)) re_int) ra_nil)) (by exact rfl)))) ra_nil)) (rg_seq (n := 3) (by exact rfl) (rgs_cons (rg_name (i := 10) sc_law.nd) (rgs_cons (rg_name (i := 11) sc_law.nd) (rgs_cons (rg_name (i := 12) sc_law.nd) rgs_nil))) (ts_name_len (ts_name_len (ts_name_len ts_nil_len)))))
  (rss_cons (rs_if (rt_of (rw_or (rt_cmp (op_neD h64) neD_ok (re_op op_addD addD_ok (re_call C_days_in hr (by decide) (takes_of (by exact rfl) (by exact rfl) (by exact rfl) (by exact rfl)) (ra_cons (re_var (i := 8)) (ra_cons (re_var (i := 10)) (ra_cons (re_var (i := 11)) ra_nil))) (by exact rfl)) (re_call C_days_in hr (by decide) (takes_of (by exact rfl) (by exact rfl) (by exact rfl) (by exact rfl)) (ra_cons (re_var (i := 8)) (ra_cons (re_op op_addD addD_ok (re_var (i := 11)) re_int) (ra_cons (re_var (i := 12)) ra_nil))) (by exact rfl))) (re_call C_days_in hr (by decide) (takes_of (by exact rfl) (by exact rfl) (by exact rfl) (by exact rfl)) (ra_cons (re_var (i := 8)) (ra_cons (re_var (i := 10)) (ra_cons (re_var (i := 12)) ra_nil))) (by exact rfl))) (rw_or1 (rt_cmp (op_neD h64) neD_ok (re_call C_days_in hr (by decide) (takes_of (by exact rfl) (by exact rfl) (by exact rfl) (by exact rfl)) (ra_cons (re_var (i := 8)) (ra_cons (re_op op_addD addD_ok (re_var (i := 11)) re_int) (ra_cons (re_var (i := 11)) ra_nil))) (by exact rfl)) re_int)))) (rss_one (rs_ret re_bl)) rss_nil)
  (rss_cons (rs_set (i := 5) sc_law.nd (re_call C_law_take hr (by decide) (takes_of (by exact rfl) (by exact rfl) (by exact rfl) (by exact rfl)) (ra_cons (re_var (i := 1)) (ra_cons (re_op op_addD addD_ok (re_var (i := 4)) re_int) ra_nil)) (by exact rfl)))
  (rss_cons (rs_if (rt_of (rw_or (rt_cmp (op_neD h64) neD_ok (re_call C_used_on hr (by decide) (takes_of (by exact rfl) (by exact rfl) (by exact rfl) (by exact rfl)) (ra_cons (re_var (i := 8)) (ra_cons (re_var (i := 3)) (ra_cons (re_var (i := 5)) ra_nil))) (by exact rfl)) (re_call C_days_in hr (by decide) (takes_of (by exact rfl) (by exact rfl) (by exact rfl) (by exact rfl)) (ra_cons (re_var (i := 8)) (ra_cons (b_max2 (by exact rfl) (by exact rfl) M.f_max (ra_cons re_int (ra_cons (re_op op_addD addD_ok (re_op op_sub subD_ok (re_var (i := 5)) (re_var (i := 9))) re_int) ra_nil))) (ra_cons (re_var (i := 5)) ra_nil))) (by exact rfl))) (rw_or1 (rt_cmp op_gtD gtD_ok (re_call C_used_on hr (by decide) (takes_of (by exact rfl) (by exact rfl) (by exact rfl) (by exact rfl)) (ra_cons (re_var (i := 8)) (ra_cons (re_var (i := 3)) (ra_cons (re_var (i := 5)) ra_nil))) (by exact rfl)) (re_var (i := 9)))))) (rss_one (rs_ret re_bl)) rss_nil)
  (rss_cons (rs_if (rt_cmp (op_ltD h64) ltD_ok (b_len (by exact rfl) M.f_len (ra_cons (re_var (i := 8)) ra_nil)) re_int) (rss_cons (rs_set (i := 13) sc_law.nd (re_call C_joined_stays hr (by decide) (takes_of (by exact rfl) (by exact rfl) (by exact rfl) (by exact rfl)) (ra_cons (re_var (i := 8)) (ra_cons (re_var (i := 10)) (ra_cons (re_var (i := 11)) ra_nil))) (by exact rfl)))
  (rss_cons (rs_set (i := 14) sc_law.nd (b_sum (by exact rfl) (by exact rfl) M.f_sum (ra_cons (re_lc (own := [("come", 15), ("leave", 18)]) (by exact rfl) sc_law.nd (ri_seq (re_var (i := 8))) (blkOk_by (N := N_law) (own := [("come", 15), ("leave", 18)]) (by kernel_rfl)) (by decide) (fun _ _ _ _ _ => (rg_seq (n := 2) (by exact rfl) (rgs_cons (rg_name (i := 15) sc_law.nd) (rgs_cons (rg_name (i := 18) sc_law.nd) rgs_nil)) (ts_name_len (ts_name_len ts_nil_len)))) (fun _ _ _ _ _ => rts_nil) (fun _ _ _ _ _ => (re_op op_addD addD_ok (re_op op_sub subD_ok (re_var (i := 18)) (re_var (i := 15))) re_int))) ra_nil)))
  (rss_cons (rs_if (rt_of (rw_or (rt_cmp (op_neD h64) neD_ok (re_call C_days_in hr (by decide) (takes_of (by exact rfl) (by exact rfl) (by exact rfl) (by exact rfl)) (ra_cons (re_var (i := 13)) (ra_cons re_int (ra_cons re_int ra_nil))) (by exact rfl)) (re_op op_sub subD_ok (re_op op_addD addD_ok (re_op op_sub subD_ok (re_op op_addD addD_ok (re_var (i := 14)) (re_var (i := 11))) (re_var (i := 10))) re_int) (re_call C_days_in hr (by decide) (takes_of (by exact rfl) (by exact rfl) (by exact rfl) (by exact rfl)) (ra_cons (re_var (i := 8)) (ra_cons (re_var (i := 10)) (ra_cons (re_var (i := 11)) ra_nil))) (by exact rfl)))) (rw_or (rt_cmp (op_neD h64) neD_ok (re_call C_days_in hr (by decide) (takes_of (by exact rfl) (by exact rfl) (by exact rfl) (by exact rfl)) (ra_cons (re_var (i := 13)) (ra_cons (re_var (i := 10)) (ra_cons (re_var (i := 11)) ra_nil))) (by exact rfl)) (re_op op_addD addD_ok (re_op op_sub subD_ok (re_var (i := 11)) (re_var (i := 10))) re_int)) (rw_or1 (rt_not (rt_val (re_call C_are_stays hr (by decide) (takes_of (by exact rfl) (by exact rfl) (by exact rfl) (by exact rfl)) (ra_cons (re_var (i := 13)) ra_nil) (by exact rfl)))))))) (rss_one (rs_ret re_bl)) rss_nil)
  (rss_one (rs_if (rt_of (rw_or (rt_cmp (op_neD h64) neD_ok (re_lc (own := [("k", 7)]) (by exact rfl) sc_law.nd (ri_range1 (by exact rfl) M.f_range (ra_cons (re_op op_sub subD_ok (b_len (by exact rfl) M.f_len (ra_cons (re_var (i := 13)) ra_nil)) re_int) ra_nil)) (blkOk_by (N := N_law) (own := [("k", 7)]) (by kernel_rfl)) (by decide) (fun _ _ _ _ _ => (rg_name (i := 7) sc_law.nd)) (fun _ _ _ _ _ => (rts_one (rt_cmp op_geD geD_ok (re_op op_addD addD_ok (re_ix (ix_all h1) ixD_ok (re_ix (ix_all h1) ixD_ok (re_var (i := 13)) (re_var (i := 7)) (fun _ _ => rfl)) re_int (fun _ _ => rfl)) re_int) (re_ix (ix_all h1) ixD_ok (re_ix (ix_all h1) ixD_ok (re_var (i := 13)) (re_op op_addD addD_ok (re_var (i := 7)) re_int) (fun _ _ => rfl)) re_int (fun _ _ => rfl))))) (fun _ _ _ _ _ => (re_var (i := 7)))) (re_lst ra_nil)) (rw_or1 (rt_cmp (op_neD h64) neD_ok (re_call C_joined_stays hr (by decide) (takes_of (by exact rfl) (by exact rfl) (by exact rfl) (by exact rfl)) (ra_cons (re_var (i := 13)) (ra_cons (re_var (i := 10)) (ra_cons (re_var (i := 11)) ra_nil))) (by exact rfl)) (re_var (i := 13)))))) (rss_one (rs_ret re_bl)) rss_nil))))) rss_nil)
  (rss_cons (rs_set (i := 6) sc_law.nd (re_lst ra_nil))
  (rss_cons (rs_for (passes_of (by exact rfl)) (by exact rfl) (ri_range1 (by exact rfl) M.f_range (ra_cons re_int ra_nil)) (rg_name (i := 7) sc_law.nd) (rss_cons (rs_set (i := 15) sc_law.nd (re_op op_addD addD_ok (re_op op_addD addD_ok (re_if (rt_cmp (op_neD h64) neD_ok (re_var (i := 6)) (re_lst ra_nil)) (re_ix (ix_all h1) ixD_ok (re_ix (ix_all h1) ixD_ok (re_var (i := 6)) (re_un un_neg negD_ok re_int) (fun _ _ => rfl)) re_int (fun _ _ => rfl)) (re_un un_neg negD_ok re_int)) re_int) (re_call C_law_take hr (by decide) (takes_of (by exact rfl) (by exact rfl) (by exact rfl) (by exact rfl)) (ra_cons (re_var (i := 1)) (ra_cons re_int ra_nil)) (by exact rfl))))
  (rss_cons (rs_set (i := 16) sc_law.nd (re_op op_addD addD_ok re_int (re_call C_law_take hr (by decide) (takes_of (by exact rfl) (by exact rfl) (by exact rfl) (by exact rfl)) (ra_cons (re_var (i := 1)) (ra_cons (re_ix (ix_all h1) ixD_ok (re_var (i := 3)) re_int (fun _ _ => rfl)) ra_nil)) (by exact rfl))))
  (rss_cons (rs_set (i := 17) sc_law.nd (re_call C_first_entry hr (by decide) (takes_of (by exact rfl) (by exact rfl) (by exact rfl) (by exact rfl)) (ra_cons (re_var (i := 6)) (ra_cons (re_var (i := 3)) (ra_cons (re_var (i := 15)) (ra_cons (re_var (i := 16)) ra_nil)))) (by exact rfl)))
  (rss_one (rs_expr (re_append (pv (i := 6)) (re_tup (ra_cons (re_var (i := 17)) (ra_cons (re_op op_sub subD_ok (re_op op_addD addD_ok (re_var (i := 17)) (re_var (i := 16))) re_int) ra_nil))))))))))
  (rss_one (rs_if (rt_cmp op_isNotD isNotD_ok (re_call C_do_keep hr (by decide) (takes_of (by exact rfl) (by exact rfl) (by exact rfl) (by exact rfl)) (ra_cons (re_var (i := 6)) (ra_cons (re_var (i := 3)) ra_nil)) (by exact rfl)) re_bl) (rss_one (rs_ret re_bl)) rss_nil))))))))))))))
  (rss_one (rs_ret re_bl))))
end
end DL.k43
set_option maxRecDepth 100000
set_option maxHeartbeats 0
/-! The head: which defs stand where; the end. -/
namespace DL.k43
open PySem PySem.Spec PyProof.Rows L2
abbrev Rw : PySem.W.OpenRow := PySem.W.OpenLaw.row PySem.Challenge.rw_borderward_k43_whole_long_stays
def mkD (x : Str) (q : Str) (i : Nat) : He.DefD := ⟨(x, none), q, q, defArgs (top i), defBody (top i), defScope (top i), [], []⟩
def fn : List He.DefD := [mkD "_law_draws" "_law_draws" 45,
  mkD "_law_take" "_law_take" 46,
  mkD "_law_pick" "_law_pick" 47,
  mkD "_law_stays" "_law_stays" 50,
  mkD "check" "check" 6,
  mkD "is_integer" "is_integer" 4,
  mkD "is_within" "is_within" 5,
  mkD "is_day_papers" "is_day" 9,
  mkD "are_stays" "are_stays" 14,
  mkD "joined_stays" "joined_stays" 32,
  mkD "is_rule_stays" "is_rule" 15,
  mkD "check_stays" "check_stays" 17,
  mkD "last_of" "last_of" 24,
  mkD "check_behind" "check_behind" 25,
  mkD "days_by" "days_by" 18,
  mkD "used_by" "used_by" 19,
  mkD "first_entry" "first_entry" 28,
  mkD "used_days" "used_days" 21,
  mkD "over_days" "over_days" 22,
  mkD "do_keep" "do_keep" 23,
  mkD "_law_same" "_law_same" 49,
  mkD "most_used" "most_used" 31,
  mkD "is_day_checkstays" "is_day" 35,
  mkD "need_stays" "need_stays" 37,
  mkD "all_over" "all_over" 40,
  mkD "is_rule_checkstays" "is_rule" 38,
  mkD "takes_over" "takes_over" 41,
  mkD "used_on" "used_on" 20,
  mkD "_law_is_over_due" "_law_is_over_due" 51,
  mkD "rest_by" "rest_by" 26,
  mkD "rest_from" "rest_from" 27,
  mkD "free_again" "free_again" 33,
  mkD "last_day" "last_day" 29,
  mkD "can_stay" "can_stay" 42,
  mkD "takes_entry" "takes_entry" 43,
  mkD "_law_is_behind_due" "_law_is_behind_due" 52,
  mkD "days_in" "days_in" 30,
  mkD "law" "law" 53]
def fa : List He.Fa := [.glo "_law_draws", .glo "_law_take", .glo "_law_pick", .glo "_law_stays", .glo "check", .glo "is_integer", .glo "is_within", .glo "is_day_papers", .glo "are_stays", .glo "joined_stays", .glo "is_rule_stays", .glo "check_stays", .glo "last_of", .glo "check_behind", .glo "days_by", .glo "used_by", .glo "first_entry", .glo "used_days", .glo "over_days", .glo "do_keep", .glo "_law_same", .glo "most_used", .glo "is_day_checkstays", .glo "need_stays", .glo "all_over", .glo "is_rule_checkstays", .glo "takes_over", .glo "used_on", .glo "_law_is_over_due", .glo "rest_by", .glo "rest_from", .glo "free_again", .glo "last_day", .glo "can_stay", .glo "takes_entry", .glo "_law_is_behind_due", .glo "days_in", .glo "law", .free "abs", .free "all", .free "any", .free "bool", .free "dict", .free "enumerate", .free "int", .free "isinstance", .free "len", .free "list", .free "max", .free "min", .free "range", .free "reversed", .free "sorted", .free "str", .free "sum", .free "tuple", .free "zip", .int "LAST_DAY" 100000, .int "LONGEST_WINDOW" 1000, .int "MOST_STAYS" 200]
def nm0 : List Str := ["BorderError", "NotRight", "NoAnswer", "is_integer", "is_within", "check", "LAST_DAY", "is_day", "is_day_papers", "MOST_STAYS", "LONGEST_WINDOW", "are_stays", "is_rule", "is_rule_stays", "check_stays", "days_by", "used_by", "used_on", "used_days", "over_days", "do_keep", "last_of", "check_behind", "rest_by", "rest_from", "first_entry", "last_day", "days_in", "most_used", "joined_stays"]
def nm1 : List Str := ["free_again", "is_day_checkstays", "need_stays", "is_rule_checkstays", "all_over", "takes_over", "can_stay", "takes_entry", "_law_draws", "_law_take", "_law_pick", "_law_mixed", "_law_same", "_law_stays", "_law_is_over_due", "_law_is_behind_due"]
def names : List Str := nm0 ++ nm1
abbrev hk : PySem.W.Hook := He.hookD 4 fa fn
def ob (s : PySem.W.SharedT) : He.AlD := He.obsDG 4 fa fn (HandSHeadRun.getT s)
theorem ob_eq (s : PySem.W.SharedT) : ob s = hk.obs s.abs := He.obsDG_eq (HandSHeadRun.getT_eq s)
theorem run (w : World) : HandSHeadRun.RunEq Rw (PySem.W.view Rw.prog [53]) hk ob 4000 names w := by
  intro os
  kernel_rfl
theorem facts {P : Program} {w : World} {K : PySem.W.Frag} {h : Heap} {mg : Str → Option Value} {f : Addr} (X : K.In h) (G : h.Ns mainGlobals mg) (hfa : mg ("law" : Str) = some (.ref f)) (c : He.SaysD fa fn K) :
    ∃ fd : FuncData, (∀ (s : Shared) (v : Value), BindsTo s fd ⟨[v], []⟩ [("script", v)]) ∧ ∀ base : Heap, K.In base → base.Ns mainGlobals mg → FnOk P w K mg base (L2.CX P w) 9 f fd ["script"] (spF K mg [false] F_law) := by
  have M : Mg mg := ⟨He.free_ok X G (c.fact 38 (f := .free "abs") rfl), He.free_ok X G (c.fact 39 (f := .free "all") rfl), He.free_ok X G (c.fact 40 (f := .free "any") rfl), He.free_ok X G (c.fact 41 (f := .free "bool") rfl), He.free_ok X G (c.fact 42 (f := .free "dict") rfl), He.free_ok X G (c.fact 43 (f := .free "enumerate") rfl), He.free_ok X G (c.fact 44 (f := .free "int") rfl), He.free_ok X G (c.fact 45 (f := .free "isinstance") rfl), He.free_ok X G (c.fact 46 (f := .free "len") rfl), He.free_ok X G (c.fact 47 (f := .free "list") rfl), He.free_ok X G (c.fact 48 (f := .free "max") rfl), He.free_ok X G (c.fact 49 (f := .free "min") rfl), He.free_ok X G (c.fact 50 (f := .free "range") rfl), He.free_ok X G (c.fact 51 (f := .free "reversed") rfl), He.free_ok X G (c.fact 52 (f := .free "sorted") rfl), He.free_ok X G (c.fact 53 (f := .free "str") rfl), He.free_ok X G (c.fact 54 (f := .free "sum") rfl), He.free_ok X G (c.fact 55 (f := .free "tuple") rfl), He.free_ok X G (c.fact 56 (f := .free "zip") rfl), He.int_ok X G (c.fact 57 (f := .int "LAST_DAY" 100000) rfl), He.int_ok X G (c.fact 58 (f := .int "LONGEST_WINDOW" 1000) rfl), He.int_ok X G (c.fact 59 (f := .int "MOST_STAYS" 200) rfl)⟩
  obtain ⟨fd_law_draws, W_law_draws⟩ := c.def_ 0 (d := mkD "_law_draws" "_law_draws" 45) rfl
  have g_law_draws : mg "_law_draws" = some (.ref (He.fAd K ("_law_draws", none))) := He.glo_ok X G (c.fact 0 (f := .glo "_law_draws") rfl)
  obtain ⟨fd_law_take, W_law_take⟩ := c.def_ 1 (d := mkD "_law_take" "_law_take" 46) rfl
  have g_law_take : mg "_law_take" = some (.ref (He.fAd K ("_law_take", none))) := He.glo_ok X G (c.fact 1 (f := .glo "_law_take") rfl)
  obtain ⟨fd_law_pick, W_law_pick⟩ := c.def_ 2 (d := mkD "_law_pick" "_law_pick" 47) rfl
  have g_law_pick : mg "_law_pick" = some (.ref (He.fAd K ("_law_pick", none))) := He.glo_ok X G (c.fact 2 (f := .glo "_law_pick") rfl)
  obtain ⟨fd_law_stays, W_law_stays⟩ := c.def_ 3 (d := mkD "_law_stays" "_law_stays" 50) rfl
  have g_law_stays : mg "_law_stays" = some (.ref (He.fAd K ("_law_stays", none))) := He.glo_ok X G (c.fact 3 (f := .glo "_law_stays") rfl)
  obtain ⟨fd_check, W_check⟩ := c.def_ 4 (d := mkD "check" "check" 6) rfl
  have g_check : mg "check" = some (.ref (He.fAd K ("check", none))) := He.glo_ok X G (c.fact 4 (f := .glo "check") rfl)
  obtain ⟨fd_is_integer, W_is_integer⟩ := c.def_ 5 (d := mkD "is_integer" "is_integer" 4) rfl
  have g_is_integer : mg "is_integer" = some (.ref (He.fAd K ("is_integer", none))) := He.glo_ok X G (c.fact 5 (f := .glo "is_integer") rfl)
  obtain ⟨fd_is_within, W_is_within⟩ := c.def_ 6 (d := mkD "is_within" "is_within" 5) rfl
  have g_is_within : mg "is_within" = some (.ref (He.fAd K ("is_within", none))) := He.glo_ok X G (c.fact 6 (f := .glo "is_within") rfl)
  obtain ⟨fd_is_day_papers, W_is_day_papers⟩ := c.def_ 7 (d := mkD "is_day_papers" "is_day" 9) rfl
  have g_is_day_papers : mg "is_day_papers" = some (.ref (He.fAd K ("is_day_papers", none))) := He.glo_ok X G (c.fact 7 (f := .glo "is_day_papers") rfl)
  obtain ⟨fd_are_stays, W_are_stays⟩ := c.def_ 8 (d := mkD "are_stays" "are_stays" 14) rfl
  have g_are_stays : mg "are_stays" = some (.ref (He.fAd K ("are_stays", none))) := He.glo_ok X G (c.fact 8 (f := .glo "are_stays") rfl)
  obtain ⟨fd_joined_stays, W_joined_stays⟩ := c.def_ 9 (d := mkD "joined_stays" "joined_stays" 32) rfl
  have g_joined_stays : mg "joined_stays" = some (.ref (He.fAd K ("joined_stays", none))) := He.glo_ok X G (c.fact 9 (f := .glo "joined_stays") rfl)
  obtain ⟨fd_is_rule_stays, W_is_rule_stays⟩ := c.def_ 10 (d := mkD "is_rule_stays" "is_rule" 15) rfl
  have g_is_rule_stays : mg "is_rule_stays" = some (.ref (He.fAd K ("is_rule_stays", none))) := He.glo_ok X G (c.fact 10 (f := .glo "is_rule_stays") rfl)
  obtain ⟨fd_check_stays, W_check_stays⟩ := c.def_ 11 (d := mkD "check_stays" "check_stays" 17) rfl
  have g_check_stays : mg "check_stays" = some (.ref (He.fAd K ("check_stays", none))) := He.glo_ok X G (c.fact 11 (f := .glo "check_stays") rfl)
  obtain ⟨fd_last_of, W_last_of⟩ := c.def_ 12 (d := mkD "last_of" "last_of" 24) rfl
  have g_last_of : mg "last_of" = some (.ref (He.fAd K ("last_of", none))) := He.glo_ok X G (c.fact 12 (f := .glo "last_of") rfl)
  obtain ⟨fd_check_behind, W_check_behind⟩ := c.def_ 13 (d := mkD "check_behind" "check_behind" 25) rfl
  have g_check_behind : mg "check_behind" = some (.ref (He.fAd K ("check_behind", none))) := He.glo_ok X G (c.fact 13 (f := .glo "check_behind") rfl)
  obtain ⟨fd_days_by, W_days_by⟩ := c.def_ 14 (d := mkD "days_by" "days_by" 18) rfl
  have g_days_by : mg "days_by" = some (.ref (He.fAd K ("days_by", none))) := He.glo_ok X G (c.fact 14 (f := .glo "days_by") rfl)
  obtain ⟨fd_used_by, W_used_by⟩ := c.def_ 15 (d := mkD "used_by" "used_by" 19) rfl
  have g_used_by : mg "used_by" = some (.ref (He.fAd K ("used_by", none))) := He.glo_ok X G (c.fact 15 (f := .glo "used_by") rfl)
  obtain ⟨fd_first_entry, W_first_entry⟩ := c.def_ 16 (d := mkD "first_entry" "first_entry" 28) rfl
  have g_first_entry : mg "first_entry" = some (.ref (He.fAd K ("first_entry", none))) := He.glo_ok X G (c.fact 16 (f := .glo "first_entry") rfl)
  obtain ⟨fd_used_days, W_used_days⟩ := c.def_ 17 (d := mkD "used_days" "used_days" 21) rfl
  have g_used_days : mg "used_days" = some (.ref (He.fAd K ("used_days", none))) := He.glo_ok X G (c.fact 17 (f := .glo "used_days") rfl)
  obtain ⟨fd_over_days, W_over_days⟩ := c.def_ 18 (d := mkD "over_days" "over_days" 22) rfl
  have g_over_days : mg "over_days" = some (.ref (He.fAd K ("over_days", none))) := He.glo_ok X G (c.fact 18 (f := .glo "over_days") rfl)
  obtain ⟨fd_do_keep, W_do_keep⟩ := c.def_ 19 (d := mkD "do_keep" "do_keep" 23) rfl
  have g_do_keep : mg "do_keep" = some (.ref (He.fAd K ("do_keep", none))) := He.glo_ok X G (c.fact 19 (f := .glo "do_keep") rfl)
  obtain ⟨fd_law_same, W_law_same⟩ := c.def_ 20 (d := mkD "_law_same" "_law_same" 49) rfl
  have g_law_same : mg "_law_same" = some (.ref (He.fAd K ("_law_same", none))) := He.glo_ok X G (c.fact 20 (f := .glo "_law_same") rfl)
  obtain ⟨fd_most_used, W_most_used⟩ := c.def_ 21 (d := mkD "most_used" "most_used" 31) rfl
  have g_most_used : mg "most_used" = some (.ref (He.fAd K ("most_used", none))) := He.glo_ok X G (c.fact 21 (f := .glo "most_used") rfl)
  obtain ⟨fd_is_day_checkstays, W_is_day_checkstays⟩ := c.def_ 22 (d := mkD "is_day_checkstays" "is_day" 35) rfl
  have g_is_day_checkstays : mg "is_day_checkstays" = some (.ref (He.fAd K ("is_day_checkstays", none))) := He.glo_ok X G (c.fact 22 (f := .glo "is_day_checkstays") rfl)
  obtain ⟨fd_need_stays, W_need_stays⟩ := c.def_ 23 (d := mkD "need_stays" "need_stays" 37) rfl
  have g_need_stays : mg "need_stays" = some (.ref (He.fAd K ("need_stays", none))) := He.glo_ok X G (c.fact 23 (f := .glo "need_stays") rfl)
  obtain ⟨fd_all_over, W_all_over⟩ := c.def_ 24 (d := mkD "all_over" "all_over" 40) rfl
  have g_all_over : mg "all_over" = some (.ref (He.fAd K ("all_over", none))) := He.glo_ok X G (c.fact 24 (f := .glo "all_over") rfl)
  obtain ⟨fd_is_rule_checkstays, W_is_rule_checkstays⟩ := c.def_ 25 (d := mkD "is_rule_checkstays" "is_rule" 38) rfl
  have g_is_rule_checkstays : mg "is_rule_checkstays" = some (.ref (He.fAd K ("is_rule_checkstays", none))) := He.glo_ok X G (c.fact 25 (f := .glo "is_rule_checkstays") rfl)
  obtain ⟨fd_takes_over, W_takes_over⟩ := c.def_ 26 (d := mkD "takes_over" "takes_over" 41) rfl
  have g_takes_over : mg "takes_over" = some (.ref (He.fAd K ("takes_over", none))) := He.glo_ok X G (c.fact 26 (f := .glo "takes_over") rfl)
  obtain ⟨fd_used_on, W_used_on⟩ := c.def_ 27 (d := mkD "used_on" "used_on" 20) rfl
  have g_used_on : mg "used_on" = some (.ref (He.fAd K ("used_on", none))) := He.glo_ok X G (c.fact 27 (f := .glo "used_on") rfl)
  obtain ⟨fd_law_is_over_due, W_law_is_over_due⟩ := c.def_ 28 (d := mkD "_law_is_over_due" "_law_is_over_due" 51) rfl
  have g_law_is_over_due : mg "_law_is_over_due" = some (.ref (He.fAd K ("_law_is_over_due", none))) := He.glo_ok X G (c.fact 28 (f := .glo "_law_is_over_due") rfl)
  obtain ⟨fd_rest_by, W_rest_by⟩ := c.def_ 29 (d := mkD "rest_by" "rest_by" 26) rfl
  have g_rest_by : mg "rest_by" = some (.ref (He.fAd K ("rest_by", none))) := He.glo_ok X G (c.fact 29 (f := .glo "rest_by") rfl)
  obtain ⟨fd_rest_from, W_rest_from⟩ := c.def_ 30 (d := mkD "rest_from" "rest_from" 27) rfl
  have g_rest_from : mg "rest_from" = some (.ref (He.fAd K ("rest_from", none))) := He.glo_ok X G (c.fact 30 (f := .glo "rest_from") rfl)
  obtain ⟨fd_free_again, W_free_again⟩ := c.def_ 31 (d := mkD "free_again" "free_again" 33) rfl
  have g_free_again : mg "free_again" = some (.ref (He.fAd K ("free_again", none))) := He.glo_ok X G (c.fact 31 (f := .glo "free_again") rfl)
  obtain ⟨fd_last_day, W_last_day⟩ := c.def_ 32 (d := mkD "last_day" "last_day" 29) rfl
  have g_last_day : mg "last_day" = some (.ref (He.fAd K ("last_day", none))) := He.glo_ok X G (c.fact 32 (f := .glo "last_day") rfl)
  obtain ⟨fd_can_stay, W_can_stay⟩ := c.def_ 33 (d := mkD "can_stay" "can_stay" 42) rfl
  have g_can_stay : mg "can_stay" = some (.ref (He.fAd K ("can_stay", none))) := He.glo_ok X G (c.fact 33 (f := .glo "can_stay") rfl)
  obtain ⟨fd_takes_entry, W_takes_entry⟩ := c.def_ 34 (d := mkD "takes_entry" "takes_entry" 43) rfl
  have g_takes_entry : mg "takes_entry" = some (.ref (He.fAd K ("takes_entry", none))) := He.glo_ok X G (c.fact 34 (f := .glo "takes_entry") rfl)
  obtain ⟨fd_law_is_behind_due, W_law_is_behind_due⟩ := c.def_ 35 (d := mkD "_law_is_behind_due" "_law_is_behind_due" 52) rfl
  have g_law_is_behind_due : mg "_law_is_behind_due" = some (.ref (He.fAd K ("_law_is_behind_due", none))) := He.glo_ok X G (c.fact 35 (f := .glo "_law_is_behind_due") rfl)
  obtain ⟨fd_days_in, W_days_in⟩ := c.def_ 36 (d := mkD "days_in" "days_in" 30) rfl
  have g_days_in : mg "days_in" = some (.ref (He.fAd K ("days_in", none))) := He.glo_ok X G (c.fact 36 (f := .glo "days_in") rfl)
  obtain ⟨fd_law, W_law⟩ := c.def_ 37 (d := mkD "law" "law" 53) rfl
  have g_law : mg "law" = some (.ref (He.fAd K ("law", none))) := He.glo_ok X G (c.fact 37 (f := .glo "law") rfl)
  have e := hfa.symm.trans g_law
  cases e
  have b := FunD.bindsA (ps := ["script"]) W_law fun _ _ _ _ _ _ us hl => match us, hl with | [_], _ => rfl
  refine ⟨fd_law, fun s v => b s [v] rfl, fun base _ _ => ?_⟩
  have C_law_draws : Fn P w K mg base 1 "_law_draws" [false] F_law_draws := fn_ok W_law_draws sc_law_draws rfl rfl g_law_draws (W_law_draws.bindsN fun _ _ _ _ _ _ us hl => match us, hl with | [_], _ => rfl) fun cdv A outer s H E hr => body_law_draws M  cdv A outer s H E hr
  have C_law_take : Fn P w K mg base 1 "_law_take" [true, false] F_law_take := fn_ok W_law_take sc_law_take rfl rfl g_law_take (W_law_take.bindsN fun _ _ _ _ _ _ us hl => match us, hl with | [_, _], _ => rfl) fun cdv A outer s H E hr => body_law_take M  cdv A outer s H E hr
  have C_law_pick : Fn P w K mg base 2 "_law_pick" [true, false] F_law_pick := fn_ok W_law_pick sc_law_pick rfl rfl g_law_pick (W_law_pick.bindsN fun _ _ _ _ _ _ us hl => match us, hl with | [_, _], _ => rfl) fun cdv A outer s H E hr => body_law_pick M C_law_take cdv A outer s H E hr
  have C_law_stays : Fn P w K mg base 3 "_law_stays" [true] F_law_stays := fn_ok W_law_stays sc_law_stays rfl rfl g_law_stays (W_law_stays.bindsN fun _ _ _ _ _ _ us hl => match us, hl with | [_], _ => rfl) fun cdv A outer s H E hr => body_law_stays M C_law_take C_law_pick cdv A outer s H E hr
  have C_check : Fn P w K mg base 1 "check" [false] F_check := fn_ok W_check sc_check rfl rfl g_check (W_check.bindsN fun _ _ _ _ _ _ us hl => match us, hl with | [_], _ => rfl) fun cdv A outer s H E hr => body_check M  cdv A outer s H E hr
  have C_is_integer : Fn P w K mg base 1 "is_integer" [false] F_is_integer := fn_ok W_is_integer sc_is_integer rfl rfl g_is_integer (W_is_integer.bindsN fun _ _ _ _ _ _ us hl => match us, hl with | [_], _ => rfl) fun cdv A outer s H E hr => body_is_integer M  cdv A outer s H E hr
  have C_is_within : Fn P w K mg base 2 "is_within" [false, false, false] F_is_within := fn_ok W_is_within sc_is_within rfl rfl g_is_within (W_is_within.bindsN fun _ _ _ _ _ _ us hl => match us, hl with | [_, _, _], _ => rfl) fun cdv A outer s H E hr => body_is_within M C_is_integer cdv A outer s H E hr
  have C_is_day_papers : Fn P w K mg base 3 "is_day_papers" [false] F_is_day_papers := fn_ok W_is_day_papers sc_is_day_papers rfl rfl g_is_day_papers (W_is_day_papers.bindsN fun _ _ _ _ _ _ us hl => match us, hl with | [_], _ => rfl) fun cdv A outer s H E hr => body_is_day_papers M C_is_within cdv A outer s H E hr
  have C_are_stays : Fn P w K mg base 4 "are_stays" [false] F_are_stays := fn_ok W_are_stays sc_are_stays rfl rfl g_are_stays (W_are_stays.bindsN fun _ _ _ _ _ _ us hl => match us, hl with | [_], _ => rfl) fun cdv A outer s H E hr => body_are_stays M C_is_day_papers cdv A outer s H E hr
  have C_joined_stays : Fn P w K mg base 5 "joined_stays" [false, false, false] F_joined_stays := fn_ok W_joined_stays sc_joined_stays rfl rfl g_joined_stays (W_joined_stays.bindsN fun _ _ _ _ _ _ us hl => match us, hl with | [_, _, _], _ => rfl) fun cdv A outer s H E hr => body_joined_stays M C_check C_are_stays C_is_day_papers cdv A outer s H E hr
  have C_is_rule_stays : Fn P w K mg base 3 "is_rule_stays" [false] F_is_rule_stays := fn_ok W_is_rule_stays sc_is_rule_stays rfl rfl g_is_rule_stays (W_is_rule_stays.bindsN fun _ _ _ _ _ _ us hl => match us, hl with | [_], _ => rfl) fun cdv A outer s H E hr => body_is_rule_stays M C_is_within cdv A outer s H E hr
  have C_check_stays : Fn P w K mg base 5 "check_stays" [false, false] F_check_stays := fn_ok W_check_stays sc_check_stays rfl rfl g_check_stays (W_check_stays.bindsN fun _ _ _ _ _ _ us hl => match us, hl with | [_, _], _ => rfl) fun cdv A outer s H E hr => body_check_stays M C_check C_are_stays C_is_rule_stays cdv A outer s H E hr
  have C_last_of : Fn P w K mg base 1 "last_of" [false] F_last_of := fn_ok W_last_of sc_last_of rfl rfl g_last_of (W_last_of.bindsN fun _ _ _ _ _ _ us hl => match us, hl with | [_], _ => rfl) fun cdv A outer s H E hr => body_last_of M  cdv A outer s H E hr
  have C_check_behind : Fn P w K mg base 2 "check_behind" [false, false] F_check_behind := fn_ok W_check_behind sc_check_behind rfl rfl g_check_behind (W_check_behind.bindsN fun _ _ _ _ _ _ us hl => match us, hl with | [_, _], _ => rfl) fun cdv A outer s H E hr => body_check_behind M C_last_of cdv A outer s H E hr
  have C_days_by : Fn P w K mg base 1 "days_by" [false, false, false] F_days_by := fn_ok W_days_by sc_days_by rfl rfl g_days_by (W_days_by.bindsN fun _ _ _ _ _ _ us hl => match us, hl with | [_, _, _], _ => rfl) fun cdv A outer s H E hr => body_days_by M  cdv A outer s H E hr
  have C_used_by : Fn P w K mg base 2 "used_by" [false, false, false] F_used_by := fn_ok W_used_by sc_used_by rfl rfl g_used_by (W_used_by.bindsN fun _ _ _ _ _ _ us hl => match us, hl with | [_, _, _], _ => rfl) fun cdv A outer s H E hr => body_used_by M C_days_by cdv A outer s H E hr
  have C_first_entry : Fn P w K mg base 6 "first_entry" [false, false, false, false] F_first_entry := fn_ok W_first_entry sc_first_entry rfl rfl g_first_entry (W_first_entry.bindsN fun _ _ _ _ _ _ us hl => match us, hl with | [_, _, _, _], _ => rfl) fun cdv A outer s H E hr => body_first_entry M C_check_stays C_check C_check_behind C_is_day_papers C_is_within C_used_by C_last_of cdv A outer s H E hr
  have C_used_days : Fn P w K mg base 1 "used_days" [false, false] F_used_days := fn_ok W_used_days sc_used_days rfl rfl g_used_days (W_used_days.bindsN fun _ _ _ _ _ _ us hl => match us, hl with | [_, _], _ => rfl) fun cdv A outer s H E hr => body_used_days M  cdv A outer s H E hr
  have C_over_days : Fn P w K mg base 6 "over_days" [false, false] F_over_days := fn_ok W_over_days sc_over_days rfl rfl g_over_days (W_over_days.bindsN fun _ _ _ _ _ _ us hl => match us, hl with | [_, _], _ => rfl) fun cdv A outer s H E hr => body_over_days M C_check_stays C_used_days cdv A outer s H E hr
  have C_do_keep : Fn P w K mg base 7 "do_keep" [false, false] F_do_keep := fn_ok W_do_keep sc_do_keep rfl rfl g_do_keep (W_do_keep.bindsN fun _ _ _ _ _ _ us hl => match us, hl with | [_, _], _ => rfl) fun cdv A outer s H E hr => body_do_keep M C_over_days cdv A outer s H E hr
  have b_law_same : Binds K fd_law_same ["told", "due"] [] := W_law_same.bindsN fun _ _ _ _ _ _ us hl => match us, hl with | [_, _], _ => rfl
  have R_law_same : ∀ n : Nat, Fn P w K mg base n "_law_same" [false, false] (F_law_sameR n) := fun n => by
    induction n with
    | zero => exact fn_zero W_law_same rfl g_law_same b_law_same
    | succ n ih => exact fn_ok W_law_same sc_law_same rfl rfl g_law_same b_law_same fun cdv A outer s H E hr => body_law_same M  n _ ih cdv A outer s H E hr
  have C_law_same : Fn P w K mg base 3 "_law_same" [false, false] F_law_same := R_law_same 3
  have C_most_used : Fn P w K mg base 6 "most_used" [false, false] F_most_used := fn_ok W_most_used sc_most_used rfl rfl g_most_used (W_most_used.bindsN fun _ _ _ _ _ _ us hl => match us, hl with | [_, _], _ => rfl) fun cdv A outer s H E hr => body_most_used M C_check_stays C_used_days cdv A outer s H E hr
  have C_is_day_checkstays : Fn P w K mg base 3 "is_day_checkstays" [false] F_is_day_checkstays := fn_ok W_is_day_checkstays sc_is_day_checkstays rfl rfl g_is_day_checkstays (W_is_day_checkstays.bindsN fun _ _ _ _ _ _ us hl => match us, hl with | [_], _ => rfl) fun cdv A outer s H E hr => body_is_day_checkstays M C_is_within cdv A outer s H E hr
  have C_need_stays : Fn P w K mg base 4 "need_stays" [false] F_need_stays := fn_ok W_need_stays sc_need_stays rfl rfl g_need_stays (W_need_stays.bindsN fun _ _ _ _ _ _ us hl => match us, hl with | [_], _ => rfl) fun cdv A outer s H E hr => body_need_stays M C_check C_is_day_checkstays cdv A outer s H E hr
  have C_all_over : Fn P w K mg base 1 "all_over" [false, false] F_all_over := fn_ok W_all_over sc_all_over rfl rfl g_all_over (W_all_over.bindsN fun _ _ _ _ _ _ us hl => match us, hl with | [_, _], _ => rfl) fun cdv A outer s H E hr => body_all_over M  cdv A outer s H E hr
  have C_is_rule_checkstays : Fn P w K mg base 3 "is_rule_checkstays" [false] F_is_rule_checkstays := fn_ok W_is_rule_checkstays sc_is_rule_checkstays rfl rfl g_is_rule_checkstays (W_is_rule_checkstays.bindsN fun _ _ _ _ _ _ us hl => match us, hl with | [_], _ => rfl) fun cdv A outer s H E hr => body_is_rule_checkstays M C_is_within cdv A outer s H E hr
  have C_takes_over : Fn P w K mg base 5 "takes_over" [false, false, false] F_takes_over := fn_ok W_takes_over sc_takes_over rfl rfl g_takes_over (W_takes_over.bindsN fun _ _ _ _ _ _ us hl => match us, hl with | [_, _, _], _ => rfl) fun cdv A outer s H E hr => body_takes_over M C_need_stays C_all_over C_is_rule_checkstays cdv A outer s H E hr
  have C_used_on : Fn P w K mg base 6 "used_on" [false, false, false] F_used_on := fn_ok W_used_on sc_used_on rfl rfl g_used_on (W_used_on.bindsN fun _ _ _ _ _ _ us hl => match us, hl with | [_, _, _], _ => rfl) fun cdv A outer s H E hr => body_used_on M C_check_stays C_check C_used_by C_is_day_papers cdv A outer s H E hr
  have C_law_is_over_due : Fn P w K mg base 8 "_law_is_over_due" [false, false] F_law_is_over_due := fn_ok W_law_is_over_due sc_law_is_over_due rfl rfl g_law_is_over_due (W_law_is_over_due.bindsN fun _ _ _ _ _ _ us hl => match us, hl with | [_, _], _ => rfl) fun cdv A outer s H E hr => body_law_is_over_due M C_over_days C_law_same C_most_used C_do_keep C_takes_over C_used_on cdv A outer s H E hr
  have C_rest_by : Fn P w K mg base 3 "rest_by" [false, false, false] F_rest_by := fn_ok W_rest_by sc_rest_by rfl rfl g_rest_by (W_rest_by.bindsN fun _ _ _ _ _ _ us hl => match us, hl with | [_, _, _], _ => rfl) fun cdv A outer s H E hr => body_rest_by M C_used_by cdv A outer s H E hr
  have C_rest_from : Fn P w K mg base 6 "rest_from" [false, false, false] F_rest_from := fn_ok W_rest_from sc_rest_from rfl rfl g_rest_from (W_rest_from.bindsN fun _ _ _ _ _ _ us hl => match us, hl with | [_, _, _], _ => rfl) fun cdv A outer s H E hr => body_rest_from M C_check_stays C_check C_check_behind C_rest_by C_is_day_papers cdv A outer s H E hr
  have C_free_again : Fn P w K mg base 6 "free_again" [false, false, false] F_free_again := fn_ok W_free_again sc_free_again rfl rfl g_free_again (W_free_again.bindsN fun _ _ _ _ _ _ us hl => match us, hl with | [_, _, _], _ => rfl) fun cdv A outer s H E hr => body_free_again M C_check_stays C_check C_check_behind C_is_day_papers C_last_of cdv A outer s H E hr
  have C_last_day : Fn P w K mg base 7 "last_day" [false, false, false] F_last_day := fn_ok W_last_day sc_last_day rfl rfl g_last_day (W_last_day.bindsN fun _ _ _ _ _ _ us hl => match us, hl with | [_, _, _], _ => rfl) fun cdv A outer s H E hr => body_last_day M C_rest_from cdv A outer s H E hr
  have C_can_stay : Fn P w K mg base 2 "can_stay" [false, false, false, false] F_can_stay := fn_ok W_can_stay sc_can_stay rfl rfl g_can_stay (W_can_stay.bindsN fun _ _ _ _ _ _ us hl => match us, hl with | [_, _, _, _], _ => rfl) fun cdv A outer s H E hr => body_can_stay M C_all_over cdv A outer s H E hr
  have C_takes_entry : Fn P w K mg base 5 "takes_entry" [false, false, false, false, false] F_takes_entry := fn_ok W_takes_entry sc_takes_entry rfl rfl g_takes_entry (W_takes_entry.bindsN fun _ _ _ _ _ _ us hl => match us, hl with | [_, _, _, _, _], _ => rfl) fun cdv A outer s H E hr => body_takes_entry M C_need_stays C_can_stay C_is_rule_checkstays C_is_day_checkstays C_is_within C_is_integer cdv A outer s H E hr
  have C_law_is_behind_due : Fn P w K mg base 8 "_law_is_behind_due" [true, false, false] F_law_is_behind_due := fn_ok W_law_is_behind_due sc_law_is_behind_due rfl rfl g_law_is_behind_due (W_law_is_behind_due.bindsN fun _ _ _ _ _ _ us hl => match us, hl with | [_, _, _], _ => rfl) fun cdv A outer s H E hr => body_law_is_behind_due M C_rest_from C_first_entry C_free_again C_law_take C_last_day C_over_days C_takes_entry C_used_on cdv A outer s H E hr
  have C_days_in : Fn P w K mg base 5 "days_in" [false, false, false] F_days_in := fn_ok W_days_in sc_days_in rfl rfl g_days_in (W_days_in.bindsN fun _ _ _ _ _ _ us hl => match us, hl with | [_, _, _], _ => rfl) fun cdv A outer s H E hr => body_days_in M C_check C_days_by C_are_stays C_is_day_papers cdv A outer s H E hr
  exact fnok W_law sc_law rfl rfl fun cdv A outer s H E hr => body_law M C_law_draws C_law_take C_law_stays C_joined_stays C_first_entry C_do_keep C_are_stays C_law_is_over_due C_law_is_behind_due C_days_in C_used_on C_law_pick cdv A outer s H E hr
end DL.k43
open PySem PySem.W PySem.Calls PyProof.Rows
theorem DL.k43.holds (hlaw : ∀ (ns : List Int) x, ns.length ≤ 63 → x = .list (ns.map .int) ∨ x = DL.mark ns → ∃ fin, DL.k43.F_law [.sh x] = some (.ret (.sh (.bool true)) fin)) : PySem.Challenge.rw_borderward_k43_whole_long_stays.Holds := by
  w_on; o_law
  refine HandSHeadRun.head_any (r := OpenLaw.row PySem.Challenge.rw_borderward_k43_whole_long_stays) (q := view (OpenLaw.row PySem.Challenge.rw_borderward_k43_whole_long_stays).prog [53]) (H := DL.k43.hk) (ob := DL.k43.ob) (M := 4000) (loose := DL.k43.names) (d := HandSHeadRun.topDef (OpenLaw.row PySem.Challenge.rw_borderward_k43_whole_long_stays).prog 53) (kwd := []) DL.k43.ob_eq
    (by kernel_rfl) (fun s => by kernel_rfl) DL.k43.run (by kernel_rfl) (by kernel_rfl) (by kernel_rfl) (by rfl) (by first | assumption | decide +kernel) (by decide +kernel) ⟨rfl, rfl, rfl, rfl, rfl, by decide +kernel⟩ ?hw ?hc
  case hw => w_witness2
  case hc =>
    refine DL.walk_DL (l := PySem.Challenge.rw_borderward_k43_whole_long_stays) (n := 63) (k := 9) (x := "script") (f := DL.k43.F_law) rfl (by decide) (by kernel_rfl) ⟨rfl, by decide, by decide⟩ hlaw ?F
    intro w mg fa h Y G hmg0
    obtain ⟨K, KX, c⟩ := Y
    have hmg : mg ("law" : PySem.Str) = some (.ref fa) := by
      have e : (HandSHeadRun.topDef (OpenLaw.row PySem.Challenge.rw_borderward_k43_whole_long_stays).prog 53).name = ("law" : PySem.Str) := by kernel_rfl
      rw [← e]
      exact hmg0
    obtain ⟨fd, hb, hF⟩ := DL.k43.facts (P := (PySem.Challenge.rw_borderward_k43_whole_long_stays).prog) (w := w) KX G hmg c
    exact ⟨K, fd, KX, hb, hF⟩

open PySem PySem.W PyProof.Rows
set_option maxRecDepth 100000 in
set_option maxHeartbeats 8000000 in
theorem PySem.Challenge.cw_borderward_k43_whole_long_stays_holds : PySem.Challenge.rw_borderward_k43_whole_long_stays.Holds := by
  exact DL.k43.holds DL.k43.hlaw
