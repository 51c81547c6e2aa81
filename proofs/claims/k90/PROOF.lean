import PyProof.Rows.All
import Wide.All
import OpenK.AllK
import Wide.FinOn
import PyProof.ReprReads
import PyProof.P3Statements
import PyProof.EqLayable
import HandS.ForMost
import HandS.Exc
import HandS.More
import HandS.TupAny
import HandS.Deep
import HandS.Wide
import HandS.WordsExc
import HandS.Walk
import HandS.Style
import HandS.Ends
import HandS.HeadEnd
import HandS.Gcd
import HandS.SortInts
import HandS.IsInst
import KE.KStateDown
import HandS.Defaults
import HandS.Head0
import HandS.Head1
import HandS.Head2
import HandS.HeadHook1
import HandS.HeadHook2
import PyProof.P3Eq
import HandS.Head3
import Lean
import PySem.Challenge.RW_commonparts_k90_whole_rounds_roots_and_s
set_option Elab.async false
set_option linter.all false
set_option maxRecDepth 100000
section
set_option linter.all false
set_option maxRecDepth 100000
namespace DL
open PySem

abbrev Kk := Sum Int Str
inductive D where
  | non | bl (b : Bool) | int (i : Int) | str (x : Str)
  | tup (ds : List D) | lst (ds : List D) | dct (ks : List Kk) (ds : List D) | kdc (ks : List Str) (ds : List D)
  | scr (ns : List Int) | ref (i : Nat) | glb (x : Str) | ty (n : String)
  deriving Inhabited
inductive MO where
  | lst (ds : List D) | ins (c : Str) (fs : List (Str × D)) | dct (ks : List Kk) (ds : List D)
  deriving Inhabited
abbrev Hd := List MO
abbrev Sl := List (Option D)
structure Exc where
  cls : Str
  fs : List (Str × D)
inductive Out (α : Type) where
  | ok (a : α) (h : Hd)
  | ex (e : Exc) (h : Hd)
  | no
def Out.bind {α β : Type} : Out α → (α → Hd → Out β) → Out β
  | .ok a h, f => f a h
  | .ex e h, _ => .ex e h
  | .no, _ => .no
@[simp] theorem Out.bind_ok {α β : Type} (a : α) (h : Hd) (f : α → Hd → Out β) : (Out.ok a h).bind f = f a h := rfl
@[simp] theorem Out.bind_ex {α β : Type} (e : Exc) (h : Hd) (f : α → Hd → Out β) : (Out.ex e h : Out α).bind f = .ex e h := rfl
@[simp] theorem Out.bind_no {α β : Type} (f : α → Hd → Out β) : (Out.no : Out α).bind f = .no := rfl
abbrev Fn := List D → Hd → Out D

def line : Nat := 16777216
def seqL (h : Hd) : D → Option (List D)
  | .lst ds => some ds
  | .scr ns => some (ns.map .int)
  | .ref i => match h[i]? with
    | some (.lst ds) => some ds
    | _ => none
  | _ => none
def itemsD (h : Hd) : D → Option (List D)
  | .tup ds => some ds
  | x => seqL h x
def listD (h : Hd) : D → Option (List D)
  | .lst ds => some ds
  | .ref i => match h[i]? with
    | some (.lst ds) => some ds
    | _ => none
  | _ => none
mutual
def pureP : D → Option PyData
  | .non => some .none
  | .bl b => some (.bool b)
  | .int i => some (.int i)
  | .str x => some (.str x)
  | .tup ds => (purePs ds).map .tuple
  | .lst ds => (purePs ds).map .list
  | _ => none
def purePs : List D → Option (List PyData)
  | [] => some []
  | d :: ds => match pureP d, purePs ds with
    | some p, some ps => some (p :: ps)
    | _, _ => none
end
mutual
def toP (h : Hd) : D → Option PyData
  | .non => some .none
  | .bl b => some (.bool b)
  | .int i => some (.int i)
  | .str x => some (.str x)
  | .tup ds => (toPs h ds).map .tuple
  | .lst ds => (toPs h ds).map .list
  | .ref i => match h[i]? with
    | some (.lst ds) => (purePs ds).map .list
    | _ => none
  | _ => none
def toPs (h : Hd) : List D → Option (List PyData)
  | [] => some []
  | d :: ds => match toP h d, toPs h ds with
    | some p, some ps => some (p :: ps)
    | _, _ => none
end
def eqD (h : Hd) (x y : D) : Option Bool := match toP h x, toP h y with
  | some p, some q => if SeqAt.shaped p = true ∧ SeqAt.shaped q = true then some (PyData.eqv p q) else none
  | _, _ => none

inductive Bop | add | sub | mul | div | mod | pow | land | lor | shl | shr
  deriving DecidableEq
def mulOk (i j : Int) : Prop := (-(2 ^ 64) < i ∧ i < 2 ^ 64) ∨ (-(2 ^ 64) < j ∧ j < 2 ^ 64) ∨ (i.natAbs < 2 ^ 4000 ∧ j.natAbs < 2 ^ 4000)
def divOk (i j : Int) : Prop := j ≠ 0 ∧ (j.natAbs < 1073741824 ∨ (0 < j ∧ j.natAbs < 2 ^ 4000))
def powOk (i j : Int) : Prop := 0 ≤ j ∧ j ≤ 1000000 ∧ i.natAbs < 2 ^ 64
open Classical in
noncomputable def binD (o : Bop) (x y : D) (h : Hd) : Option D := match o, x, y with
  | .add, .int i, .int j => some (.int (i + j))
  | .sub, .int i, .int j => some (.int (i - j))
  | .mul, .int i, .int j => if mulOk i j then some (.int (i * j)) else none
  | .div, .int i, .int j => if divOk i j then some (.int (i.fdiv j)) else none
  | .mod, .int i, .int j => if j ≠ 0 then some (.int (i.fmod j)) else none
  | .pow, .int i, .int j => if powOk i j then some (.int (i ^ j.toNat)) else none
  | .shl, .int i, .int j => if powOk i j then some (.int (i * 2 ^ j.toNat)) else none
  | .shr, .int i, .int j => if 0 ≤ j then some (.int (i / 2 ^ j.toNat)) else none
  | .add, .str i, .str j => if i.length + j.length ≤ line then some (.str (i ++ j)) else none
  | .add, .tup xs, .tup ys => if xs.length + ys.length ≤ line then some (.tup (xs ++ ys)) else none
  | .add, x, y => match listD h x, listD h y with
    | some xs, some ys => if xs.length + ys.length ≤ line then some (.lst (xs ++ ys)) else none
    | _, _ => none
  | .mul, x, .int k => match listD h x with
    | some xs => if -(2 ^ 63) ≤ k ∧ k < 2 ^ 63 ∧ xs.length * k.toNat ≤ line then some (.lst (List.replicate k.toNat xs).flatten) else none
    | _ => none
  | _, _, _ => none
inductive Cop | lt | le | gt | ge | eq | ne | isN | notN | inn | nin
  deriving DecidableEq
def keyK : D → Option Kk
  | .int i => some (.inl i)
  | .str x => some (.inr x)
  | _ => none
def lexLt : List Int → List Int → Bool
  | [], [] => false
  | [], _ :: _ => true
  | _ :: _, [] => false
  | a :: as, b :: bs => if a = b then lexLt as bs else decide (a < b)
def intsD : List D → Option (List Int)
  | [] => some []
  | .int i :: ds => (intsD ds).map (i :: ·)
  | _ => none
def inD (h : Hd) (x y : D) : Option Bool := match toP h x, toP h y with
  | some p, some (.list ps) => if SeqAt.shaped p = true ∧ SeqAt.shaped (.list ps) = true then some (ps.any fun z => PyData.eqv z p) else none
  | some p, some (.tuple ps) => if SeqAt.shaped p = true ∧ SeqAt.shaped (.tuple ps) = true then some (ps.any fun z => PyData.eqv z p) else none
  | _, _ => none
def cmpD (o : Cop) (x y : D) (h : Hd) : Option Bool := match o, x, y with
  | .lt, .int i, .int j => some (decide (i < j))
  | .le, .int i, .int j => some (decide (i ≤ j))
  | .gt, .int i, .int j => some (decide (j < i))
  | .ge, .int i, .int j => some (decide (j ≤ i))
  | .lt, .tup xs, .tup ys => match intsD xs, intsD ys with
    | some a, some b => some (lexLt a b)
    | _, _ => none
  | .eq, x, y => eqD h x y
  | .ne, x, y => (eqD h x y).map (!·)
  | .isN, x, .non => some (match x with | .non => true | _ => false)
  | .notN, x, .non => some (match x with | .non => false | _ => true)
  | .inn, x, .dct ks _ => (keyK x).map fun k => ks.any fun j => decide (j = k)
  | .nin, x, .dct ks _ => (keyK x).map fun k => !(ks.any fun j => decide (j = k))
  | .inn, .str z, .kdc ks _ => some (ks.any fun j => decide (j = z))
  | .nin, .str z, .kdc ks _ => some (!(ks.any fun j => decide (j = z)))
  | .inn, x, y => inD h x y
  | .nin, x, y => (inD h x y).map (!·)
  | _, _, _ => none
def ixD (n : Nat) (i : Int) : Option Nat := if 0 ≤ i then (if i < n then some i.toNat else none) else if -(n : Int) ≤ i then some (i + n).toNat else none
def atD (ds : List D) (i : Int) : Option D := (ixD ds.length i).bind fun j => ds[j]?
def lookK (ks : List Kk) (ds : List D) (k : Kk) : Option D := ((ks.zip ds).find? fun kv => decide (kv.1 = k)).map (·.2)
def idxD (x i : D) (h : Hd) : Option D := match x, i with
  | .dct ks ds, i => (keyK i).bind (lookK ks ds)
  | .kdc ks ds, .str z => ((ks.zip ds).find? fun kv => decide (kv.1 = z)).map (·.2)
  | .ref r, i => match h[r]? with
    | some (.dct ks ds) => (keyK i).bind (lookK ks ds)
    | some (.lst ds) => match i with
      | .int i => atD ds i
      | _ => none
    | _ => none
  | .str z, .int i => if z.length ≤ line then ((ixD z.length i).bind fun j => z.cps[j]?).map fun c => .str ⟨#[c]⟩ else none
  | x, .int i => (itemsD h x).bind fun ds => atD ds i
  | _, _ => none
def sIx (n d : Nat) : Option Int → Nat
  | none => d
  | some i => if i < 0 then (i + (n : Int)).toNat else min i.toNat n
def cutD {α : Type} (xs : List α) (lo hi : Option Int) : List α := (xs.drop (sIx xs.length 0 lo)).take (sIx xs.length xs.length hi - sIx xs.length 0 lo)
def slcD (x : D) (lo hi : Option Int) (h : Hd) : Option D := match x with
  | .tup ds => some (.tup (cutD ds lo hi))
  | .str z => if z.length ≤ line then some (.str ⟨(cutD z.cps.toList lo hi).toArray⟩) else none
  | x => (seqL h x).map fun ds => .lst (cutD ds lo hi)
def truD (h : Hd) : D → Option Bool
  | .bl b => some b
  | .non => some false
  | .int i => some (i != 0)
  | .str z => if z.length ≤ line then some (z.length != 0) else none
  | .tup ds => some (!ds.isEmpty)
  | x => (seqL h x).map fun ds => !ds.isEmpty
def fldD (x : D) (c f : Str) (h : Hd) : Option D := match x with
  | .ref i => match h[i]? with
    | some (.ins c' fs) => if c' = c then fs.lookup f else none
    | _ => none
  | _ => none

inductive IK | seq | rng1 | rng2 | enum | zip | str | rev
  deriving DecidableEq
inductive SK | no | lo | hi | both
  deriving DecidableEq
inductive E where
  | var (i : Nat) | lit (d : D) | glo (x : Str) (d : D)
  | bin (o : Bop) (a b : E) | neg (a : E) | cmp (o : Cop) (a b : E) | chain (o p : Cop) (a b c : E)
  | and (es : List E) | or (es : List E) | not (a : E) | ife (c a b : E)
  | tup (es : List E) | lst (es : List E) | lstM (es : List E)
  | idx (a i : E) | slc (k : SK) (a : E) (es : List E)
  | call (x : Str) (F : Fn) (es : List E)
  | mth (m : Str) (P : Hd → D → Bool) (F : Fn) (a : E) (es : List E)
  | fld (a : E) (c f : Str)
  | comp (own : List (Str × Nat)) (e : E) (tg : List Nat) (ik : IK) (src : List E) (cs : List E)
  | comp2 (own : List (Str × Nat)) (e : E) (tg : List Nat) (ik : IK) (src : List E) (cs : List E) (tg1 : List Nat) (ik1 : IK) (src1 : List E) (cs1 : List E)
  | never

def storeD (tg : List Nat) (d : D) (δ : Sl) : Option Sl := match tg with
  | [i] => some (δ.set i (some d))
  | tg => match d with
    | .tup ds => if ds.length = tg.length then some ((tg.zip ds).foldl (fun δ p => δ.set p.1 (some p.2)) δ) else none
    | _ => none
def wipeD (δ : Sl) (vs : List Nat) : Sl := vs.foldr (fun v δ => δ.set v none) δ
def small (i : Int) : Prop := -(2 ^ 62) ≤ i ∧ i < 2 ^ 62
def rangeD (lo : Int) (n : Nat) : List D := (List.range n).map fun (k : Nat) => .int (lo + (k : Int))
open Classical in
noncomputable def srcD (ik : IK) (ds : List D) (h : Hd) : Option (List D) := match ik, ds with
  | .seq, [d] => itemsD h d
  | .rng1, [.int n] => if small n then some (rangeD 0 n.toNat) else none
  | .rng2, [.int a, .int b] => if small a ∧ small b then some (rangeD a (b - a).toNat) else none
  | .enum, [d] => (itemsD h d).map fun xs => (List.range xs.length).zipWith (fun i x => .tup [.int (i : Nat), x]) xs
  | .zip, [d, e] => match itemsD h d, itemsD h e with
    | some xs, some ys => some (xs.zipWith (fun x y => .tup [x, y]) ys)
    | _, _ => none
  | .rev, [d] => (itemsD h d).map List.reverse
  | .str, [.str z] => some (z.cps.toList.map fun c => .str ⟨#[c]⟩)
  | _, _ => none
def sameSrc (ik : IK) (ds : List D) (h h' : Hd) : Prop := match ik with
  | .rng1 => True
  | .rng2 => True
  | .str => True
  | _ => ∀ d ∈ ds, itemsD h' d = itemsD h d
open Classical in
noncomputable def turns (step : Nat → D → Hd → Out (List D)) (ok : Hd → Prop) (base : Nat) : List D → List D → Hd → Out (List D)
  | [], acc, h => .ok acc h
  | x :: xs, acc, h => (step (base + acc.length) x h).bind fun ys h' => if ok h' ∧ base + acc.length + ys.length ≤ line then turns step ok base xs (acc ++ ys) h' else .no
def Out.calm {α : Type} : Out α → Out α
  | .ex _ _ => .no
  | o => o

def optD {α : Type} (o : Option α) (h : Hd) : Out α := match o with
  | some a => .ok a h
  | none => .no
@[simp] theorem optD_some {α : Type} (a : α) (h : Hd) : optD (some a) h = .ok a h := rfl
@[simp] theorem optD_none {α : Type} (h : Hd) : optD (none : Option α) h = .no := rfl
mutual
noncomputable def denE : E → Sl → Hd → Out D
  | .var i, δ, h => match δ[i]? with
    | some (some d) => .ok d h
    | _ => .no
  | .lit d, _, h => .ok d h
  | .glo _ d, _, h => .ok d h
  | .bin o a b, δ, h => (denE a δ h).bind fun x h => (denE b δ h).bind fun y h => optD (binD o x y h) h
  | .neg a, δ, h => (denE a δ h).bind fun x h => optD (match x with
    | .int i => some (.int (-i))
    | _ => none) h
  | .cmp o a b, δ, h => (denE a δ h).bind fun x h => (denE b δ h).bind fun y h => optD ((cmpD o x y h).map .bl) h
  | .chain o p a b c, δ, h => (denE a δ h).bind fun x h => (denE b δ h).bind fun y h => match cmpD o x y h with
    | some true => (denE c δ h).bind fun z h => optD ((cmpD p y z h).map .bl) h
    | some false => .ok (.bl false) h
    | none => .no
  | .and es, δ, h => denAnd es δ h
  | .or es, δ, h => denOr es δ h
  | .not a, δ, h => (denE a δ h).bind fun x h => match x with
    | .bl k => .ok (.bl (!k)) h
    | _ => .no
  | .ife c a b, δ, h => (denE c δ h).bind fun x h => match truD h x with
    | some true => denE a δ h
    | some false => denE b δ h
    | none => .no
  | .tup es, δ, h => (denEs es δ h).bind fun ds h => if ds.length ≤ line then .ok (.tup ds) h else .no
  | .lst es, δ, h => (denEs es δ h).bind fun ds h => if ds.length ≤ line then .ok (.lst ds) h else .no
  | .lstM es, δ, h => (denEs es δ h).bind fun ds h => if ds.length ≤ line then .ok (.ref h.length) (h ++ [.lst ds]) else .no
  | .idx a i, δ, h => (denE a δ h).bind fun x h => (denE i δ h).bind fun y h => optD (idxD x y h) h
  | .slc k a es, δ, h => (denE a δ h).bind fun x h => (denEs es δ h).calm.bind fun ys h => match k, ys with
    | .no, [] => optD (slcD x none none h) h
    | .lo, [.int i] => optD (slcD x (some i) none h) h
    | .hi, [.int j] => optD (slcD x none (some j) h) h
    | .both, [.int i, .int j] => optD (slcD x (some i) (some j) h) h
    | _, _ => .no
  | .call _ F es, δ, h => (denEs es δ h).bind F
  | .mth _ P F a es, δ, h => (denE a δ h).bind fun x h => if P h x then (denEs es δ h).bind fun ds h => F (x :: ds) h else .no
  | .fld a c f, δ, h => (denE a δ h).bind fun x h => optD (fldD x c f h) h
  | .comp own e tg ik src cs, δ, h => (denEs src δ h).bind fun ss h => match srcD ik ss h with
    | some xs => (turns (fun n x h => match storeD tg x (wipeD δ (own.map (·.2))) with
        | some δ => (denCs cs δ h).calm.bind fun b h => if b then (denE e δ h).calm.bind fun y h => .ok [y] h else .ok [] h
        | none => .no) (sameSrc ik ss h) 0 xs [] h).bind fun ys h => .ok (.lst ys) h
    | none => .no
  | .comp2 own e tg ik src cs tg1 ik1 src1 cs1, δ, h => (denEs src δ h).bind fun ss h => match srcD ik ss h with
    | some xs => (turns (fun n x h => match storeD tg x (wipeD δ (own.map (·.2))) with
        | some δ => (denCs cs δ h).calm.bind fun b h => if b then (denEs src1 δ h).calm.bind fun ss1 h => (match srcD ik1 ss1 h with
            | some xs1 => turns (fun _ x h => match storeD tg1 x (wipeD δ tg1) with
                | some δ => (denCs cs1 δ h).calm.bind fun b h => if b then (denE e δ h).calm.bind fun y h => .ok [y] h else .ok [] h
                | none => .no) (sameSrc ik1 ss1 h) n xs1 [] h
            | none => .no) else .ok [] h
        | none => .no) (sameSrc ik ss h) 0 xs [] h).bind fun ys h => .ok (.lst ys) h
    | none => .no
  | .never, _, _ => .no
noncomputable def denEs : List E → Sl → Hd → Out (List D)
  | [], _, h => .ok [] h
  | e :: es, δ, h => (denE e δ h).bind fun d h => (denEs es δ h).bind fun ds h => .ok (d :: ds) h
noncomputable def denAnd : List E → Sl → Hd → Out D
  | [], _, _ => .no
  | [e], δ, h => denE e δ h
  | e :: es, δ, h => (denE e δ h).bind fun x h => match x with
    | .bl true => denAnd es δ h
    | .bl false => .ok (.bl false) h
    | _ => .no
noncomputable def denOr : List E → Sl → Hd → Out D
  | [], _, _ => .no
  | [e], δ, h => denE e δ h
  | e :: es, δ, h => (denE e δ h).bind fun x h => match x with
    | .bl false => denOr es δ h
    | .bl true => .ok (.bl true) h
    | _ => .no
noncomputable def denCs : List E → Sl → Hd → Out Bool
  | [], _, h => .ok true h
  | e :: es, δ, h => (denE e δ h).bind fun x h => match truD h x with
    | some true => denCs es δ h
    | some false => .ok false h
    | none => .no
end

inductive Tg where
  | nm (i : Nat) | sub (o i : E) | fld (o : E) (c f : Str)
inductive SE where
  | lit (d : D) | own (f : Str) | isi (x : Str) (b : Bool) | not (a : SE) | lst (es : List SE) | rep (a : SE) | ife (c a b : SE) | eqv (i : Nat) (a : SE) | and (a b : SE)
structure Hdl where
  cls : Str
  nm : Option Nat
  out : SE
inductive S where
  | asg (ts : List Tg) (e : E)
  | par (tg : List Nat) (es : List E)
  | aug (i : Nat) (o : Bop) (e : E)
  | expr (e : E) | ret (e : E) | retN
  | ife (c : E) (a b : List S) | whl (c : E) (b : List S)
  | fors (tg : List Nat) (ik : IK) (src : List E) (b : List S)
  | pass | brk | cnt
  | raise (x : Str) (f : Option Str) (es : List E)
  | tryx (b : List S) (hs : List Hdl)
  | never
inductive Fl where
  | nx (δ : Sl) | rt (d : D) | bk (δ : Sl) | ct (δ : Sl) | ex (e : Exc) (δ : Sl)
inductive OutS where
  | fl (f : Fl) (h : Hd) | no
def Out.stm {α : Type} (o : Out α) (δ : Sl) (f : α → Hd → OutS) : OutS := match o with
  | .ok a h => f a h
  | .ex e h => .fl (.ex e δ) h
  | .no => .no
@[simp] theorem Out.stm_ok {α : Type} (a : α) (h : Hd) (δ : Sl) (f : α → Hd → OutS) : (Out.ok a h).stm δ f = f a h := rfl
@[simp] theorem Out.stm_ex {α : Type} (e : Exc) (h : Hd) (δ : Sl) (f : α → Hd → OutS) : (Out.ex e h : Out α).stm δ f = .fl (.ex e δ) h := rfl
@[simp] theorem Out.stm_no {α : Type} (δ : Sl) (f : α → Hd → OutS) : (Out.no : Out α).stm δ f = .no := rfl
mutual
noncomputable def denT : E → Sl → Hd → Out Bool
  | .not a, δ, h => (denT a δ h).bind fun k h => .ok (!k) h
  | .and es, δ, h => denTA es δ h
  | .or es, δ, h => denTO es δ h
  | .cmp o a b, δ, h => (denE a δ h).bind fun x h => (denE b δ h).bind fun y h => optD (cmpD o x y h) h
  | .chain o p a b c, δ, h => (denE a δ h).bind fun x h => (denE b δ h).bind fun y h => match cmpD o x y h with
    | some true => (denE c δ h).bind fun z h => optD (cmpD p y z h) h
    | some false => .ok false h
    | none => .no
  | c, δ, h => (denE c δ h).bind fun x h => optD (truD h x) h
noncomputable def denTA : List E → Sl → Hd → Out Bool
  | [], _, _ => .no
  | [e], δ, h => denT e δ h
  | e :: es, δ, h => (denT e δ h).bind fun k h => if k then denTA es δ h else .ok false h
noncomputable def denTO : List E → Sl → Hd → Out Bool
  | [], _, _ => .no
  | [e], δ, h => denT e δ h
  | e :: es, δ, h => (denT e δ h).bind fun k h => if k then .ok true h else denTO es δ h
end
def LeO {α : Type} (o o' : Out α) : Prop := o = .no ∨ o = o'
theorem LeO.refl {α : Type} (o : Out α) : LeO o o := .inr rfl
theorem LeO.bind {α β : Type} {o o' : Out α} {f f' : α → Hd → Out β} (p : LeO o o') (q : ∀ a h, o = .ok a h → LeO (f a h) (f' a h)) : LeO (o.bind f) (o'.bind f') := by
  rcases p with p | p
  · subst p; exact .inl rfl
  · subst p
    cases o with
    | ok a h => exact q a h rfl
    | ex e h => exact .inr rfl
    | no => exact .inl rfl
theorem bind_bind {α β γ : Type} (o : Out α) (f : α → Hd → Out β) (g : β → Hd → Out γ) : (o.bind f).bind g = o.bind fun a h => (f a h).bind g := by cases o <;> rfl
abbrev asT (o : Out D) : Out Bool := o.bind fun x h => optD (truD h x) h
mutual
theorem denT_le : ∀ (c : E) (δ : Sl) (h : Hd), LeO (asT (denE c δ h)) (denT c δ h)
  | .not a, δ, h => by
    simp only [denE, denT, asT, bind_bind]
    have ih := denT_le a δ h
    unfold asT at ih
    cases e : denE a δ h with
    | no => exact .inl rfl
    | ex x h' => rw [e] at ih; rcases ih with z | z
                 · cases z
                 · rw [← z]; exact .inr rfl
    | ok d h' =>
      rw [e] at ih
      cases d with
      | bl k =>
        rcases ih with z | z
        · cases z
        · rw [← z]; exact .inr rfl
      | _ => exact .inl rfl
  | .and es, δ, h => by simp only [denE, denT]; exact denTA_le es δ h
  | .or es, δ, h => by simp only [denE, denT]; exact denTO_le es δ h
  | .cmp o a b, δ, h => by
    simp only [denE, denT, asT, bind_bind]
    refine LeO.bind (LeO.refl _) fun x h1 _ => LeO.bind (LeO.refl _) fun y h2 _ => ?_
    cases cmpD o x y h2 <;> exact .inr rfl
  | .chain o p a b c, δ, h => by
    simp only [denE, denT, asT, bind_bind]
    refine LeO.bind (LeO.refl _) fun x h1 _ => LeO.bind (LeO.refl _) fun y h2 _ => ?_
    cases cmpD o x y h2 with
    | none => exact .inr rfl
    | some k =>
      cases k with
      | false => exact .inr rfl
      | true =>
        show LeO ((Out.bind _ _).bind _) (Out.bind _ _)
        rw [bind_bind]
        refine LeO.bind (LeO.refl _) fun z h3 _ => ?_
        cases cmpD p y z h3 <;> exact .inr rfl
  | .var _, _, _ => .inr rfl | .lit _, _, _ => .inr rfl | .glo _ _, _, _ => .inr rfl | .bin _ _ _, _, _ => .inr rfl | .neg _, _, _ => .inr rfl
  | .ife _ _ _, _, _ => .inr rfl | .tup _, _, _ => .inr rfl | .lst _, _, _ => .inr rfl | .lstM _, _, _ => .inr rfl | .idx _ _, _, _ => .inr rfl | .slc _ _ _, _, _ => .inr rfl
  | .call _ _ _, _, _ => .inr rfl | .mth _ _ _ _ _, _, _ => .inr rfl | .fld _ _ _, _, _ => .inr rfl | .comp _ _ _ _ _ _, _, _ => .inr rfl | .comp2 _ _ _ _ _ _ _ _ _ _, _, _ => .inr rfl | .never, _, _ => .inr rfl
theorem denTA_le : ∀ (es : List E) (δ : Sl) (h : Hd), LeO (asT (denAnd es δ h)) (denTA es δ h)
  | [], _, _ => .inl rfl
  | [e], δ, h => by simp only [denAnd, denTA]; exact denT_le e δ h
  | e :: e2 :: es, δ, h => by
    have ih := denT_le e δ h
    have ih2 := denTA_le (e2 :: es)
    simp only [denAnd, denTA, asT, bind_bind]
    unfold asT at ih
    cases q : denE e δ h with
    | no => exact .inl rfl
    | ex x h' => rw [q] at ih; rcases ih with z | z
                 · cases z
                 · rw [← z]; exact .inr rfl
    | ok d h' =>
      rw [q] at ih
      cases d with
      | bl k =>
        rcases ih with z | z
        · cases z
        · rw [← z]
          cases k with
          | true => exact ih2 δ h'
          | false => exact .inr rfl
      | _ => exact .inl rfl
theorem denTO_le : ∀ (es : List E) (δ : Sl) (h : Hd), LeO (asT (denOr es δ h)) (denTO es δ h)
  | [], _, _ => .inl rfl
  | [e], δ, h => by simp only [denOr, denTO]; exact denT_le e δ h
  | e :: e2 :: es, δ, h => by
    have ih := denT_le e δ h
    have ih2 := denTO_le (e2 :: es)
    simp only [denOr, denTO, asT, bind_bind]
    unfold asT at ih
    cases q : denE e δ h with
    | no => exact .inl rfl
    | ex x h' => rw [q] at ih; rcases ih with z | z
                 · cases z
                 · rw [← z]; exact .inr rfl
    | ok d h' =>
      rw [q] at ih
      cases d with
      | bl k =>
        rcases ih with z | z
        · cases z
        · rw [← z]
          cases k with
          | true => exact .inr rfl
          | false => exact ih2 δ h'
      | _ => exact .inl rfl
end

open Classical in
noncomputable def setD (o i v : D) (h : Hd) : Option Hd := match o, i with
  | .ref r, .int k => match h[r]? with
    | some (.lst ds) => (ixD ds.length k).map fun j => h.set r (.lst (ds.set j v))
    | some (.dct ks ds) => none
    | _ => none
  | _, _ => none
def putFD (f : Str) (v : D) : List (Str × D) → List (Str × D)
  | [] => [(f, v)]
  | (g, u) :: r => if g = f then (g, v) :: r else (g, u) :: putFD f v r
def setFD (o : D) (cn f : Str) (v : D) (h : Hd) : Option Hd := match o with
  | .ref r => match h[r]? with
    | some (.ins c fs) => if c = cn ∧ fs.length < 100 then some (h.set r (.ins c (putFD f v fs))) else none
    | _ => none
  | _ => none
noncomputable def storeT (t : Tg) (v : D) (δ : Sl) (h : Hd) : OutS := match t with
  | .nm i => .fl (.nx (δ.set i (some v))) h
  | .sub o i => (denE o δ h).stm δ fun o h => (denE i δ h).stm δ fun i h => match setD o i v h with
    | some h => .fl (.nx δ) h
    | none => .no
  | .fld o c f => (denE o δ h).stm δ fun o h => match setFD o c f v h with
    | some h => .fl (.nx δ) h
    | none => .no
def OutS.then (o : OutS) (f : Sl → Hd → OutS) : OutS := match o with
  | .fl (.nx δ) h => f δ h
  | o => o
@[simp] theorem OutS.then_nx (δ : Sl) (h : Hd) (f : Sl → Hd → OutS) : (OutS.fl (.nx δ) h).then f = f δ h := rfl
@[simp] theorem OutS.then_rt (d : D) (h : Hd) (f : Sl → Hd → OutS) : (OutS.fl (.rt d) h).then f = .fl (.rt d) h := rfl
@[simp] theorem OutS.then_bk (δ : Sl) (h : Hd) (f : Sl → Hd → OutS) : (OutS.fl (.bk δ) h).then f = .fl (.bk δ) h := rfl
@[simp] theorem OutS.then_ct (δ : Sl) (h : Hd) (f : Sl → Hd → OutS) : (OutS.fl (.ct δ) h).then f = .fl (.ct δ) h := rfl
@[simp] theorem OutS.then_ex (e : Exc) (δ : Sl) (h : Hd) (f : Sl → Hd → OutS) : (OutS.fl (.ex e δ) h).then f = .fl (.ex e δ) h := rfl
@[simp] theorem OutS.then_no (f : Sl → Hd → OutS) : OutS.no.then f = .no := rfl
noncomputable def storesT : List Tg → List D → Sl → Hd → OutS
  | [], [], δ, h => .fl (.nx δ) h
  | t :: ts, d :: ds, δ, h => (storeT t d δ h).then fun δ h => storesT ts ds δ h
  | _, _, _, _ => .no
noncomputable def asgT (ts : List Tg) (v : D) (δ : Sl) (h : Hd) : OutS := match ts with
  | [t] => storeT t v δ h
  | ts => match v with
    | .tup ds => if ds.length = ts.length then storesT ts ds δ h else .no
    | _ => .no
def OutS.turn (o : OutS) (f : Sl → Hd → OutS) : OutS := match o with
  | .fl (.nx δ) h => f δ h
  | .fl (.ct δ) h => f δ h
  | .fl (.bk δ) h => .fl (.nx δ) h
  | o => o
@[simp] theorem OutS.turn_nx (δ : Sl) (h : Hd) (f : Sl → Hd → OutS) : (OutS.fl (.nx δ) h).turn f = f δ h := rfl
@[simp] theorem OutS.turn_ct (δ : Sl) (h : Hd) (f : Sl → Hd → OutS) : (OutS.fl (.ct δ) h).turn f = f δ h := rfl
@[simp] theorem OutS.turn_bk (δ : Sl) (h : Hd) (f : Sl → Hd → OutS) : (OutS.fl (.bk δ) h).turn f = .fl (.nx δ) h := rfl
@[simp] theorem OutS.turn_rt (d : D) (h : Hd) (f : Sl → Hd → OutS) : (OutS.fl (.rt d) h).turn f = .fl (.rt d) h := rfl
@[simp] theorem OutS.turn_ex (e : Exc) (δ : Sl) (h : Hd) (f : Sl → Hd → OutS) : (OutS.fl (.ex e δ) h).turn f = .fl (.ex e δ) h := rfl
@[simp] theorem OutS.turn_no (f : Sl → Hd → OutS) : OutS.no.turn f = .no := rfl
def whileN (c : Sl → Hd → Out Bool) (b : Sl → Hd → OutS) : Nat → Sl → Hd → OutS
  | 0, _, _ => .no
  | n + 1, δ, h => (c δ h).stm δ fun k h => if k then (b δ h).turn fun δ h => whileN c b n δ h else .fl (.nx δ) h
open Classical in
noncomputable def whileF (c : Sl → Hd → Out Bool) (b : Sl → Hd → OutS) (δ : Sl) (h : Hd) : OutS :=
  if p : ∃ n, whileN c b n δ h ≠ .no then whileN c b p.choose δ h else .no
open Classical in
noncomputable def forF (tg : List Nat) (ok : Hd → Prop) (b : Sl → Hd → OutS) : List D → Sl → Hd → OutS
  | [], δ, h => .fl (.nx δ) h
  | x :: xs, δ, h => match storeD tg x δ with
    | some δ => (b δ h).turn fun δ h => if ok h then forF tg ok b xs δ h else .no
    | none => .no
def denSE (x : Exc) (δ : Sl) : SE → Option D
  | .lit d => some d
  | .own f => x.fs.lookup f
  | .isi _ b => some (.bl b)
  | .not a => match denSE x δ a with
    | some (.bl b) => some (.bl (!b))
    | _ => none
  | .lst es => (denSEs x δ es).map .lst
  | .rep a => match (denSE x δ a).bind pureP with
    | some p => if p.showable = true ∧ p.shown.length ≤ line then some (.str p.shown) else none
    | none => none
  | .ife c a b => match denSE x δ c with
    | some (.bl true) => denSE x δ a
    | some (.bl false) => denSE x δ b
    | _ => none
  | .eqv i a => match δ[i]?, denSE x δ a with
    | some (some d), some e => (eqD [] e d).map .bl
    | _, _ => none
  | .and a b => match denSE x δ a with
    | some (.bl true) => denSE x δ b
    | some (.bl false) => some (.bl false)
    | _ => none
where denSEs (x : Exc) (δ : Sl) : List SE → Option (List D)
  | [] => some []
  | e :: es => match denSE x δ e, denSEs x δ es with
    | some d, some ds => some (d :: ds)
    | _, _ => none
def denHs (x : Exc) (δ : Sl) (h : Hd) : List Hdl → OutS
  | [] => .fl (.ex x δ) h
  | q :: hs => if q.cls = x.cls then (match denSE x δ q.out with
    | some d => .fl (.rt d) h
    | none => .no) else denHs x δ h hs
mutual
noncomputable def denS : S → Sl → Hd → OutS
  | .asg ts e, δ, h => (denE e δ h).stm δ fun v h => asgT ts v δ h
  | .par tg es, δ, h => (denEs es δ h).stm δ fun vs h => if vs.length = tg.length then .fl (.nx ((tg.zip vs).foldl (fun δ p => δ.set p.1 (some p.2)) δ)) h else .no
  | .aug i o e, δ, h => match δ[i]? with
    | some (some x) => (denE e δ h).stm δ fun y h => (optD (binD o x y h) h).stm δ fun z h => .fl (.nx (δ.set i (some z))) h
    | _ => .no
  | .expr e, δ, h => (denE e δ h).stm δ fun _ h => .fl (.nx δ) h
  | .ret e, δ, h => (denE e δ h).stm δ fun v h => .fl (.rt v) h
  | .retN, _, h => .fl (.rt .non) h
  | .ife c a b, δ, h => (denT c δ h).stm δ fun k h => if k then denSs a δ h else denSs b δ h
  | .whl c b, δ, h => whileF (denT c) (denSs b) δ h
  | .fors tg ik src b, δ, h => (denEs src δ h).stm δ fun ss h => match srcD ik ss h with
    | some xs => forF tg (sameSrc ik ss h) (denSs b) xs δ h
    | none => .no
  | .pass, δ, h => .fl (.nx δ) h
  | .brk, δ, h => .fl (.bk δ) h
  | .cnt, δ, h => .fl (.ct δ) h
  | .raise x f es, δ, h => (denEs es δ h).stm δ fun vs h => match f, vs with
    | none, [] => .fl (.ex ⟨x, []⟩ δ) h
    | some f, [v] => .fl (.ex ⟨x, [(f, v)]⟩ δ) h
    | _, _ => .no
  | .tryx b hs, δ, h => match denSs b δ h with
    | .fl (.ex x δ) h => denHs x δ h hs
    | o => o
  | .never, _, _ => .no
noncomputable def denSs : List S → Sl → Hd → OutS
  | [], δ, h => .fl (.nx δ) h
  | s :: ss, δ, h => (denS s δ h).then fun δ h => denSs ss δ h
end
noncomputable def runB (n p : Nat) (b : List S) : Fn := fun vs h => if vs.length = p then (match denSs b (vs.map some ++ List.replicate (n - vs.length) none) h with
  | .fl (.nx _) h => .ok .non h
  | .fl (.rt d) h => .ok d h
  | .fl (.ex e _) h => .ex e h
  | _ => .no) else .no

section
variable {c : Sl → Hd → Out Bool} {b : Sl → Hd → OutS}
theorem turn_le {o : OutS} {f g : Sl → Hd → OutS} (hfg : ∀ δ h, f δ h ≠ .no → g δ h = f δ h) (h : o.turn f ≠ .no) : o.turn g = o.turn f := by
  cases o with
  | no => rfl
  | fl f' h' => cases f' with
    | nx δ => exact hfg _ _ h
    | ct δ => exact hfg _ _ h
    | _ => rfl
theorem stm_le {α : Type} {o : Out α} {δ : Sl} {f g : α → Hd → OutS} (hfg : ∀ a h, f a h ≠ .no → g a h = f a h) (h : o.stm δ f ≠ .no) : o.stm δ g = o.stm δ f := by
  cases o with
  | ok a h' => exact hfg _ _ h
  | _ => rfl
theorem whileN_succ : ∀ (n : Nat) (δ : Sl) (h : Hd), whileN c b n δ h ≠ .no → whileN c b (n + 1) δ h = whileN c b n δ h
  | 0, _, _, q => absurd rfl q
  | n + 1, δ, h, q => by
    have e1 : whileN c b (n + 1) δ h = (c δ h).stm δ fun k h => if k then (b δ h).turn fun δ h => whileN c b n δ h else .fl (.nx δ) h := rfl
    have e2 : whileN c b (n + 1 + 1) δ h = (c δ h).stm δ fun k h => if k then (b δ h).turn fun δ h => whileN c b (n + 1) δ h else .fl (.nx δ) h := rfl
    rw [e2, e1]
    rw [e1] at q
    refine stm_le (fun k h' q' => ?_) q
    cases k with
    | true => exact turn_le (fun δ h r => whileN_succ n δ h r) q'
    | false => rfl
theorem whileN_mono {n m : Nat} (hm : n ≤ m) {δ : Sl} {h : Hd} (q : whileN c b n δ h ≠ .no) : whileN c b m δ h = whileN c b n δ h := by
  induction hm with
  | refl => rfl
  | step _ ih => rw [whileN_succ _ _ _ (by rw [ih]; exact q), ih]
theorem whileF_of {n : Nat} {δ : Sl} {h : Hd} (q : whileN c b n δ h ≠ .no) : whileF c b δ h = whileN c b n δ h := by
  have p : ∃ n, whileN c b n δ h ≠ .no := ⟨n, q⟩
  unfold whileF
  rw [dif_pos p]
  have q2 := p.choose_spec
  rcases Nat.le_total n p.choose with l | l
  · exact whileN_mono l q
  · exact (whileN_mono l q2).symm
theorem whileF_no {δ : Sl} {h : Hd} (q : ∀ n, whileN c b n δ h = .no) : whileF c b δ h = .no := by
  unfold whileF
  rw [dif_neg (fun ⟨n, e⟩ => e (q n))]
theorem whileF_eq (δ : Sl) (h : Hd) : whileF c b δ h = (c δ h).stm δ fun k h => if k then (b δ h).turn fun δ h => whileF c b δ h else .fl (.nx δ) h := by
  cases hc : c δ h with
  | no => exact whileF_no fun n => by cases n with
    | zero => rfl
    | succ n => show (c δ h).stm δ _ = _; rw [hc]; rfl
  | ex e h1 =>
    have e1 : whileN c b 1 δ h = .fl (.ex e δ) h1 := by show (c δ h).stm δ _ = _; rw [hc]; rfl
    rw [whileF_of (n := 1) (by rw [e1]; exact fun z => nomatch z), e1]; rfl
  | ok k h1 =>
    have e0 : ∀ n, whileN c b (n + 1) δ h = if k then (b δ h1).turn fun δ h => whileN c b n δ h else .fl (.nx δ) h1 := fun n => by
      show (c δ h).stm δ _ = _; rw [hc]; rfl
    cases k with
    | false =>
      have e1 : whileN c b 1 δ h = .fl (.nx δ) h1 := e0 0
      rw [whileF_of (n := 1) (by rw [e1]; exact fun z => nomatch z), e1]; rfl
    | true =>
      show _ = (b δ h1).turn _
      have e0' : ∀ n, whileN c b (n + 1) δ h = (b δ h1).turn fun δ h => whileN c b n δ h := fun n => e0 n
      have on : ∀ (δ2 : Sl) (h2 : Hd), (∀ n, whileN c b (n + 1) δ h = whileN c b n δ2 h2) → whileF c b δ h = whileF c b δ2 h2 := fun δ2 h2 en => by
        by_cases p : ∃ n, whileN c b n δ2 h2 ≠ .no
        · obtain ⟨n, p⟩ := p
          rw [whileF_of p, whileF_of (n := n + 1) (by rw [en]; exact p), en]
        · have p' : ∀ n, whileN c b n δ2 h2 = .no := fun n => Classical.byContradiction fun z => p ⟨n, z⟩
          rw [whileF_no p', whileF_no fun n => by cases n with
            | zero => rfl
            | succ n => rw [en, p']]
      cases hb : b δ h1 with
      | no => exact whileF_no fun n => by cases n with
        | zero => rfl
        | succ n => rw [e0', hb]; rfl
      | fl f h2 =>
        cases f with
        | nx δ2 => exact on δ2 h2 fun n => by rw [e0', hb]; rfl
        | ct δ2 => exact on δ2 h2 fun n => by rw [e0', hb]; rfl
        | rt d =>
          have e1 : whileN c b 1 δ h = .fl (.rt d) h2 := by rw [e0', hb]; rfl
          rw [whileF_of (n := 1) (by rw [e1]; exact fun z => nomatch z), e1]; rfl
        | bk δ2 =>
          have e1 : whileN c b 1 δ h = .fl (.nx δ2) h2 := by rw [e0', hb]; rfl
          rw [whileF_of (n := 1) (by rw [e1]; exact fun z => nomatch z), e1]; rfl
        | ex x δ2 =>
          have e1 : whileN c b 1 δ h = .fl (.ex x δ2) h2 := by rw [e0', hb]; rfl
          rw [whileF_of (n := 1) (by rw [e1]; exact fun z => nomatch z), e1]; rfl
end
example (i : Nat) (δ : Sl) (h : Hd) : denSs [.ret (.var i)] δ h = ((denE (.var i) δ h).stm δ fun v h => .fl (.rt v) h).then fun δ h => .fl (.nx δ) h := rfl
end DL
end

section
set_option Elab.async false
set_option linter.all false
set_option maxRecDepth 100000
set_option maxHeartbeats 2000000
namespace DL
open PySem PySem.Spec PyProof.Rows L2

structure Mp where
  ids : List Addr
  bz : List Addr
def Mp.has (m : Mp) (a : Addr) : Prop := a ∈ m.ids ∨ a ∈ m.bz
def Mp.push (m : Mp) (a : Addr) : Mp := ⟨m.ids ++ [a], m.bz⟩
structure Kn where
  prog : Program
  w : World
  K : PySem.W.Frag
  mg : Str → Option Value
  base : Heap
mutual
def Rep (κ : Kn) (mp : Mp) (H : Hp) : D → V → Prop
  | .non, v => v = .non
  | .bl b, v => v = .bl b
  | .int i, v => v = .int i
  | .str x, v => v = .str x
  | .tup ds, v => ∃ a vs, v = .ref a ∧ SqT κ.K H a vs ∧ Reps κ mp H ds vs
  | .lst ds, v => ∃ a vs, v = .ref a ∧ (H a = some (.lst vs) ∧ ¬ mp.has a) ∧ Reps κ mp H ds vs
  | .scr ns, v => ∃ a, v = .ref a ∧ ((Rd H a (.lst (ns.map V.int)) ∧ ¬ mp.has a) ∨ SqL κ.K (fun _ => none) a (ns.map V.int))
  | .dct ks ds, v => ∃ a vs, v = .ref a ∧ (H a = some (.dK (ks.zip vs)) ∧ ¬ mp.has a) ∧ ks.length = ds.length ∧ ks.Nodup ∧ Reps κ mp H ds vs
  | .kdc ks ds, v => ∃ a vs es n, v = .ref a ∧ KDict κ.K κ.w a es n ∧ ks.length = ds.length ∧ Reps κ mp H ds vs ∧
    ∀ z : Str, ∃ r, PySem.W.nsIn κ.K a z = some r ∧ RelO (((ks.zip vs).find? fun kv => decide (kv.1 = z)).map (·.2)) r
  | .ref i, v => ∃ a, mp.ids[i]? = some a ∧ v = .ref a
  | .glb x, v => ∃ a, κ.mg x = some (.ref a) ∧ v = .ref a
  | .ty n, v => v = .ty n
def Reps (κ : Kn) (mp : Mp) (H : Hp) : List D → List V → Prop
  | [], vs => vs = []
  | d :: ds, vs => ∃ v vr, vs = v :: vr ∧ Rep κ mp H d v ∧ Reps κ mp H ds vr
end
def RepF (κ : Kn) (mp : Mp) (H : Hp) : List (Str × D) → List (Str × V) → Prop
  | [], vs => vs = []
  | (f, d) :: ds, vs => ∃ v vr, vs = (f, v) :: vr ∧ Rep κ mp H d v ∧ RepF κ mp H ds vr
def RepO (κ : Kn) (mp : Mp) (H : Hp) (a : Addr) : MO → Prop
  | .lst ds => ∃ vs, H a = some (.lst vs) ∧ Reps κ mp H ds vs
  | .ins c fs => ∃ C dx vs, κ.mg c = some (.ref C) ∧ H a = some (.ins C dx vs) ∧ RepF κ mp H fs vs
  | .dct ks ds => ∃ vs, H a = some (.dK (ks.zip vs)) ∧ ks.length = ds.length ∧ ks.Nodup ∧ Reps κ mp H ds vs
structure RelH (κ : Kn) (mp : Mp) (H : Hp) (h : Hd) : Prop where
  nd : mp.ids.Nodup
  len : mp.ids.length = h.length
  ob : ∀ (i : Nat) (a : Addr) (o : MO), mp.ids[i]? = some a → h[i]? = some o → RepO κ mp H a o
  bz : ∀ b ∈ mp.bz, b ∉ mp.ids ∧ ∃ vs, H b = some (.lst vs)
structure Ext (mp : Mp) (H : Hp) (mp' : Mp) (H' : Hp) : Prop where
  pre : ∃ t, mp'.ids = mp.ids ++ t
  same : mp'.bz = mp.bz
  keep : ∀ a o, a ∉ mp.ids → H a = some o → H' a = some o
  there : ∀ a o, H a = some o → ∃ o', H' a = some o'
  fresh : ∀ a ∈ mp'.ids, a ∉ mp.ids → H a = none
structure ExtB (mp : Mp) (H : Hp) (mp' : Mp) (H' : Hp) : Prop where
  pre : ∃ t, mp'.ids = mp.ids ++ t
  bzz : ∀ b ∈ mp'.bz, b ∈ mp.bz ∨ H b = none
  keep : ∀ a o, ¬ mp.has a → H a = some o → H' a = some o
  there : ∀ a o, H a = some o → ∃ o', H' a = some o'
  fresh : ∀ a ∈ mp'.ids, a ∉ mp.ids → H a = none
def RepE (κ : Kn) (mp : Mp) (H : Hp) (δ : Sl) (σ : L2.St) : Prop := δ.length = σ.length ∧ ∀ (i : Nat) d, δ[i]? = some (some d) → ∃ v, σ[i]? = some (some v) ∧ Rep κ mp H d v
def RepX (κ : Kn) (mp : Mp) (H : Hp) (e : Exc) (c : Value) (dd : Option Addr) : Prop :=
  ∃ C, κ.mg e.cls = some (.ref C) ∧ c = .ref C ∧ ((e.fs = [] ∧ dd = none) ∨ ∃ f d a v, e.fs = [(f, d)] ∧ dd = some a ∧ H a = some (.xd [(f, v)]) ∧ ¬ mp.has a ∧ Rep κ mp H d v)

section
variable {κ : Kn} {mp mp' mp'' : Mp} {H H' H'' : Hp} {h h' : Hd}
theorem Ext.refl : Ext mp H mp H := ⟨⟨[], (List.append_nil _).symm⟩, rfl, fun _ _ _ e => e, fun _ o e => ⟨o, e⟩, fun _ h1 h2 => absurd h1 h2⟩
theorem Ext.b (e : Ext mp H mp' H') : ExtB mp H mp' H' := ⟨e.pre, fun b hb => .inl (by rw [← e.same]; exact hb), fun a o n q => e.keep a o (fun y => n (.inl y)) q, e.there, e.fresh⟩
theorem ExtB.get (e : ExtB mp H mp' H') {i : Nat} {a : Addr} (q : mp.ids[i]? = some a) : mp'.ids[i]? = some a := by
  obtain ⟨t, z⟩ := e.pre
  rw [z, List.getElem?_append_left (List.getElem?_eq_some_iff.mp q).1]
  exact q
theorem ExtB.out0 (e : ExtB mp H mp' H') {a : Addr} {o : HO} (q : H a = some o) (n : a ∉ mp.ids) : a ∉ mp'.ids := fun z => by
  rw [e.fresh a z n] at q
  cases q
theorem ExtB.out (e : ExtB mp H mp' H') {a : Addr} {o : HO} (q : H a = some o) (n : ¬ mp.has a) : ¬ mp'.has a := fun z => by
  rcases z with z | z
  · exact e.out0 q (fun y => n (.inl y)) z
  · rcases e.bzz a z with y | y
    · exact n (.inr y)
    · rw [y] at q; cases q
theorem ExtB.keeps (e : ExtB mp H mp' H') {a : Addr} {o : HO} (n : ¬ mp.has a) (q : H a = some o) : H' a = some o := e.keep a o n q
theorem Ext.out0 (e : Ext mp H mp' H') {a : Addr} {o : HO} (q : H a = some o) (n : a ∉ mp.ids) : a ∉ mp'.ids := fun z => by
  rw [e.fresh a z n] at q
  cases q
theorem Ext.out (e : Ext mp H mp' H') {a : Addr} {o : HO} (q : H a = some o) (n : ¬ mp.has a) : ¬ mp'.has a := fun z => by
  rcases z with z | z
  · exact e.out0 q (fun y => n (.inl y)) z
  · exact n (.inr (by rw [← e.same]; exact z))
theorem Ext.keeps (e : Ext mp H mp' H') {a : Addr} {o : HO} (n : ¬ mp.has a) (q : H a = some o) : H' a = some o := e.keep a o (fun y => n (.inl y)) q
theorem Ext.trans (e : Ext mp H mp' H') (f : Ext mp' H' mp'' H'') : Ext mp H mp'' H'' := by
  refine ⟨?_, f.same.trans e.same, fun a o n q => f.keep a o (e.out0 q n) (e.keep a o n q), fun a o q => let ⟨o1, q1⟩ := e.there a o q; f.there a o1 q1, fun a h1 h2 => ?_⟩
  · obtain ⟨t, z⟩ := e.pre
    obtain ⟨u, y⟩ := f.pre
    exact ⟨t ++ u, by rw [y, z, List.append_assoc]⟩
  · cases q : H a with
    | none => rfl
    | some o =>
      obtain ⟨o1, q1⟩ := e.there a o q
      have n' := e.out0 q h2
      rw [f.fresh a h1 n'] at q1
      cases q1
theorem ExtB.trans (e : ExtB mp H mp' H') (f : Ext mp' H' mp'' H'') : ExtB mp H mp'' H'' := by
  refine ⟨?_, fun b hb => e.bzz b (by rw [← f.same]; exact hb), fun a o n q => f.keep a o (e.out0 q fun y => n (.inl y)) (e.keep a o n q), fun a o q => let ⟨o1, q1⟩ := e.there a o q; f.there a o1 q1, fun a h1 h2 => ?_⟩
  · obtain ⟨t, z⟩ := e.pre
    obtain ⟨u, y⟩ := f.pre
    exact ⟨t ++ u, by rw [y, z, List.append_assoc]⟩
  · cases q : H a with
    | none => rfl
    | some o =>
      obtain ⟨o1, q1⟩ := e.there a o q
      have n' := e.out0 q h2
      rw [f.fresh a h1 n'] at q1
      cases q1
theorem RepO.kinds {a : Addr} {o : MO} (r : RepO κ mp H a o) : ∃ u, H a = some u ∧ (∀ xs, u ≠ .tup xs) ∧ (∀ x y, u ≠ .frz x y) ∧ (∀ x, u ≠ .own x) ∧ (∀ x, u ≠ .xd x) ∧ Mut (some u) := by
  cases o with
  | lst ds => obtain ⟨vs, e, _⟩ := r; exact ⟨_, e, fun _ z => by (cases z), fun _ _ z => by (cases z), fun _ z => by (cases z), fun _ z => by (cases z), trivial⟩
  | ins c fs => obtain ⟨C, dx, vs, _, e, _⟩ := r; exact ⟨_, e, fun _ z => by (cases z), fun _ _ z => by (cases z), fun _ z => by (cases z), fun _ z => by (cases z), trivial⟩
  | dct ks ds => obtain ⟨vs, e, _⟩ := r; exact ⟨_, e, fun _ z => by (cases z), fun _ _ z => by (cases z), fun _ z => by (cases z), fun _ z => by (cases z), trivial⟩
theorem RelH.at (R : RelH κ mp H h) {a : Addr} (ha : a ∈ mp.ids) : ∃ (i : Nat) (o : MO), mp.ids[i]? = some a ∧ h[i]? = some o ∧ RepO κ mp H a o := by
  obtain ⟨i, hi, e⟩ := List.getElem_of_mem ha
  have hi' : i < h.length := by rw [← R.len]; exact hi
  have e1 : mp.ids[i]? = some a := by rw [List.getElem?_eq_getElem hi, e]
  have e2 : h[i]? = some h[i] := List.getElem?_eq_getElem hi'
  exact ⟨i, h[i], e1, e2, R.ob i a _ e1 e2⟩
theorem RelH.some_ (R : RelH κ mp H h) {a : Addr} (ha : a ∈ mp.ids) : ∃ u, H a = some u ∧ (∀ xs, u ≠ .tup xs) ∧ (∀ x y, u ≠ .frz x y) ∧ (∀ x, u ≠ .own x) ∧ (∀ x, u ≠ .xd x) ∧ Mut (some u) :=
  let ⟨_, _, _, _, r⟩ := R.at ha; r.kinds
theorem RelH.notTup (R : RelH κ mp H h) {a : Addr} {xs : List V} (q : H a = some (.tup xs)) : ¬ mp.has a := fun z => by
  rcases z with z | z
  · obtain ⟨u, e, n, _⟩ := R.some_ z
    rw [q] at e
    exact n xs (Option.some.inj e).symm
  · obtain ⟨_, vs, e⟩ := R.bz a z
    rw [q] at e
    cases e
theorem RelH.notFrz (R : RelH κ mp H h) {a : Addr} {o : Obj} {u : HO} (q : H a = some (.frz o u)) : ¬ mp.has a := fun z => by
  rcases z with z | z
  · obtain ⟨u, e, _, n, _⟩ := R.some_ z
    rw [q] at e
    exact n _ _ (Option.some.inj e).symm
  · obtain ⟨_, vs, e⟩ := R.bz a z
    rw [q] at e
    cases e
theorem RelH.new0 (R : RelH κ mp H h) {a : Addr} (q : H a = none) : a ∉ mp.ids := fun z => by
  obtain ⟨u, e, _⟩ := R.some_ z
  rw [q] at e
  cases e
theorem RelH.new (R : RelH κ mp H h) {a : Addr} (q : H a = none) : ¬ mp.has a := fun z => by
  rcases z with z | z
  · exact R.new0 q z
  · obtain ⟨o, e⟩ := (R.bz a z).2
    rw [q] at e
    cases e
theorem rd_ext (e : ExtB mp H mp' H') {a : Addr} {u : HO} (r : Rd H a u) (n : ¬ mp.has a) : Rd H' a u := by
  rcases r with q | ⟨o, q⟩
  · exact .inl (e.keeps n q)
  · exact .inr ⟨o, e.keeps n q⟩
theorem rd_there {a : Addr} {u : HO} (r : Rd H a u) : ∃ o, H a = some o := by
  rcases r with q | ⟨o, q⟩
  · exact ⟨_, q⟩
  · exact ⟨_, q⟩
theorem sqT_extB (R : RelH κ mp H h) (e : ExtB mp H mp' H') {a : Addr} {vs : List V} (r : SqT κ.K H a vs) : SqT κ.K H' a vs := by
  rcases r with r | r
  · rcases r with q | ⟨o, q⟩
    · exact .inl (.inl (e.keep _ _ (R.notTup q) q))
    · exact .inl (.inr ⟨o, e.keep _ _ (R.notFrz q) q⟩)
  · exact .inr r
mutual
theorem Rep.extB (R : RelH κ mp H h) (e : ExtB mp H mp' H') : ∀ (d : D) (v : V), Rep κ mp H d v → Rep κ mp' H' d v
  | .non, _, r => by simpa only [Rep] using r
  | .bl _, _, r => by simpa only [Rep] using r
  | .int _, _, r => by simpa only [Rep] using r
  | .str _, _, r => by simpa only [Rep] using r
  | .ty _, _, r => by simpa only [Rep] using r
  | .glb _, _, r => by simpa only [Rep] using r
  | .tup ds, v, r => by
    simp only [Rep] at r ⊢
    obtain ⟨a, vs, ev, s, rs⟩ := r
    exact ⟨a, vs, ev, sqT_extB R e s, Reps.extB R e ds vs rs⟩
  | .lst ds, v, r => by
    simp only [Rep] at r ⊢
    obtain ⟨a, vs, ev, ⟨q, n⟩, rs⟩ := r
    exact ⟨a, vs, ev, ⟨e.keeps n q, e.out q n⟩, Reps.extB R e ds vs rs⟩
  | .scr ns, v, r => by
    simp only [Rep] at r ⊢
    obtain ⟨a, ev, s⟩ := r
    refine ⟨a, ev, ?_⟩
    rcases s with ⟨q, n⟩ | q
    · obtain ⟨o, z⟩ := rd_there q
      exact .inl ⟨rd_ext e q n, e.out z n⟩
    · exact .inr q
  | .dct ks ds, v, r => by
    simp only [Rep] at r ⊢
    obtain ⟨a, vs, ev, ⟨q, n⟩, l, nd, rs⟩ := r
    exact ⟨a, vs, ev, ⟨e.keeps n q, e.out q n⟩, l, nd, Reps.extB R e ds vs rs⟩
  | .kdc ks ds, v, r => by
    simp only [Rep] at r ⊢
    obtain ⟨a, vs, es, n, ev, s, l, rs, z⟩ := r
    exact ⟨a, vs, es, n, ev, s, l, Reps.extB R e ds vs rs, z⟩
  | .ref i, v, r => by
    simp only [Rep] at r ⊢
    obtain ⟨a, q, ev⟩ := r
    exact ⟨a, e.get q, ev⟩
theorem Reps.extB (R : RelH κ mp H h) (e : ExtB mp H mp' H') : ∀ (ds : List D) (vs : List V), Reps κ mp H ds vs → Reps κ mp' H' ds vs
  | [], _, r => by simpa only [Reps] using r
  | d :: ds, vs, r => by
    simp only [Reps] at r ⊢
    obtain ⟨v, vr, ev, r1, r2⟩ := r
    exact ⟨v, vr, ev, Rep.extB R e d v r1, Reps.extB R e ds vr r2⟩
end
theorem RepF.extB (R : RelH κ mp H h) (e : ExtB mp H mp' H') : ∀ (fs : List (Str × D)) (vs : List (Str × V)), RepF κ mp H fs vs → RepF κ mp' H' fs vs
  | [], _, r => r
  | (f, d) :: ds, vs, r => by
    obtain ⟨v, vr, ev, r1, r2⟩ := r
    exact ⟨v, vr, ev, r1.extB R e, RepF.extB R e ds vr r2⟩
theorem RepE.extB (R : RelH κ mp H h) (e : ExtB mp H mp' H') {δ : Sl} {σ : L2.St} (r : RepE κ mp H δ σ) : RepE κ mp' H' δ σ :=
  ⟨r.1, fun i d q => let ⟨v, e1, e2⟩ := r.2 i d q; ⟨v, e1, e2.extB R e⟩⟩
theorem RepX.extB (R : RelH κ mp H h) (e : ExtB mp H mp' H') {x : Exc} {c : Value} {dd : Option Addr} (r : RepX κ mp H x c dd) : RepX κ mp' H' x c dd := by
  obtain ⟨C, e1, e2, q⟩ := r
  refine ⟨C, e1, e2, ?_⟩
  rcases q with q | ⟨f, d, a, v, q1, q2, q3, q4, q5⟩
  · exact .inl q
  · exact .inr ⟨f, d, a, v, q1, q2, e.keeps q4 q3, e.out q3 q4, q5.extB R e⟩
theorem sqT_ext (R : RelH κ mp H h) (e : Ext mp H mp' H') {a : Addr} {vs : List V} (r : SqT κ.K H a vs) : SqT κ.K H' a vs := sqT_extB R e.b r
theorem Rep.ext (R : RelH κ mp H h) (e : Ext mp H mp' H') {d : D} {v : V} (r : Rep κ mp H d v) : Rep κ mp' H' d v := Rep.extB R e.b d v r
theorem Reps.ext (R : RelH κ mp H h) (e : Ext mp H mp' H') {ds : List D} {vs : List V} (r : Reps κ mp H ds vs) : Reps κ mp' H' ds vs := Reps.extB R e.b ds vs r
theorem RepF.ext (R : RelH κ mp H h) (e : Ext mp H mp' H') {fs : List (Str × D)} {vs : List (Str × V)} (r : RepF κ mp H fs vs) : RepF κ mp' H' fs vs := RepF.extB R e.b fs vs r
theorem RepE.ext (R : RelH κ mp H h) (e : Ext mp H mp' H') {δ : Sl} {σ : L2.St} (r : RepE κ mp H δ σ) : RepE κ mp' H' δ σ := RepE.extB R e.b r
theorem RepX.ext (R : RelH κ mp H h) (e : Ext mp H mp' H') {x : Exc} {c : Value} {dd : Option Addr} (r : RepX κ mp H x c dd) : RepX κ mp' H' x c dd := RepX.extB R e.b r
theorem RepO.ext (R : RelH κ mp H h) (e : Ext mp H mp' H') {a : Addr} {o : MO} (q : H' a = H a) (r : RepO κ mp H a o) : RepO κ mp' H' a o := by
  cases o with
  | lst ds => obtain ⟨vs, e1, r⟩ := r; exact ⟨vs, q.trans e1, r.ext R e⟩
  | ins c fs => obtain ⟨C, dx, vs, e0, e1, r⟩ := r; exact ⟨C, dx, vs, e0, q.trans e1, r.ext R e⟩
  | dct ks ds => obtain ⟨vs, e1, l, nd, r⟩ := r; exact ⟨vs, q.trans e1, l, nd, r.ext R e⟩
theorem RelH.grow (R : RelH κ mp H h) (k : ∀ a o, H a = some o → H' a = some o) : Ext mp H mp H' ∧ RelH κ mp H' h := by
  have e : Ext mp H mp H' := ⟨⟨[], (List.append_nil _).symm⟩, rfl, fun a o _ q => k a o q, fun a o q => ⟨o, k a o q⟩, fun _ h1 h2 => absurd h1 h2⟩
  refine ⟨e, R.nd, R.len, fun i a o h1 h2 => ?_, fun b hb => ⟨(R.bz b hb).1, let ⟨o, q⟩ := (R.bz b hb).2; ⟨o, k b _ q⟩⟩⟩
  have r := R.ob i a o h1 h2
  obtain ⟨u, q, _⟩ := r.kinds
  exact r.ext R e ((k a u q).trans q.symm)
theorem upd_grow {a : Addr} {o : HO} (n : H a = none) : ∀ b u, H b = some u → upd H a o b = some u := fun b u q => by
  rw [upd_ne (ne_of_none q n)]
  exact q
theorem RelH.fresh (R : RelH κ mp H h) {a : Addr} (o : HO) (n : H a = none) : Ext mp H mp (upd H a o) ∧ RelH κ mp (upd H a o) h := R.grow (upd_grow n)
theorem RelH.allocE (R : RelH κ mp H h) {a : Addr} {u : HO} (n : H a = none) : Ext mp H (mp.push a) (upd H a u) := ⟨⟨[a], rfl⟩, rfl, fun b v _ q => upd_grow n b v q, fun b v q => ⟨v, upd_grow n b v q⟩, fun b h1 h2 => by
  rcases List.mem_append.mp h1 with z | z
  · exact absurd z h2
  · rw [List.mem_singleton.mp z]; exact n⟩
theorem RelH.alloc (R : RelH κ mp H h) {a : Addr} {u : HO} {o : MO} (n : H a = none) (r : RepO κ (mp.push a) (upd H a u) a o) : RelH κ (mp.push a) (upd H a u) (h ++ [o]) := by
  have na := R.new0 n
  have e := R.allocE (u := u) n
  refine ⟨List.nodup_append.mpr ⟨R.nd, by simp, fun x hx y hy => ?_⟩, by simp [Mp.push, R.len], fun i b v h1 h2 => ?_, fun b hb => ?_⟩
  · rw [List.mem_singleton.mp hy]
    intro z
    rw [z] at hx
    exact na hx
  · have h1 : (mp.ids ++ [a])[i]? = some b := h1
    rcases Nat.lt_or_ge i mp.ids.length with hi | hi
    · rw [List.getElem?_append_left hi] at h1
      rw [List.getElem?_append_left (by rw [← R.len]; exact hi)] at h2
      have r1 := R.ob i b v h1 h2
      have hb : b ≠ a := fun z => na (z ▸ List.mem_of_getElem? h1)
      exact r1.ext R e (upd_ne hb)
    · rw [List.getElem?_append_right hi] at h1
      rw [List.getElem?_append_right (by rw [← R.len]; exact hi)] at h2
      cases ei : i - mp.ids.length with
      | succ k => rw [ei] at h1; simp at h1
      | zero =>
        have ei2 : i - h.length = 0 := by rw [← R.len]; exact ei
        rw [ei] at h1
        rw [ei2] at h2
        simp at h1 h2
        subst h1 h2
        exact r
  · obtain ⟨q1, o, q2⟩ := R.bz b hb
    refine ⟨fun z => ?_, o, upd_grow n b _ q2⟩
    rcases List.mem_append.mp z with z | z
    · exact q1 z
    · rw [List.mem_singleton.mp z, n] at q2
      cases q2
theorem RelH.putE {i : Nat} {a : Addr} {u : HO} (ha : mp.ids[i]? = some a) : Ext mp H mp (upd H a u) := by
  refine ⟨⟨[], (List.append_nil _).symm⟩, rfl, fun b v nb q => by rw [upd_ne (fun z => nb (by rw [z]; exact List.mem_of_getElem? ha))]; exact q, fun b v q => ?_, fun _ h1 h2 => absurd h1 h2⟩
  by_cases z : b = a
  · rw [z]; exact ⟨u, upd_same⟩
  · exact ⟨v, by rw [upd_ne z]; exact q⟩
theorem RelH.put (R : RelH κ mp H h) {i : Nat} {a : Addr} {u : HO} {o : MO} (ha : mp.ids[i]? = some a) (r : RepO κ mp (upd H a u) a o) : RelH κ mp (upd H a u) (h.set i o) := by
  have e : Ext mp H mp (upd H a u) := RelH.putE ha
  refine ⟨R.nd, by simp [R.len], fun j b v h1 h2 => ?_, fun b hb => ⟨(R.bz b hb).1, ?_⟩⟩
  · by_cases hj : i = j
    · subst hj
      rw [ha] at h1
      cases h1
      have hl : i < h.length := by rw [← R.len]; exact (List.getElem?_eq_some_iff.mp ha).1
      rw [List.getElem?_set_self hl] at h2
      cases h2
      exact r
    · rw [List.getElem?_set_ne hj] at h2
      have hb : b ≠ a := fun z => by
        rw [z] at h1
        obtain ⟨l1, q1⟩ := List.getElem?_eq_some_iff.mp ha
        obtain ⟨l2, q2⟩ := List.getElem?_eq_some_iff.mp h1
        exact hj ((List.getElem_inj R.nd).mp (q1.trans q2.symm))
      exact (R.ob j b v h1 h2).ext R e (upd_ne hb)
  · obtain ⟨q1, o, q2⟩ := R.bz b hb
    exact ⟨o, e.keep b _ q1 q2⟩

def Mp.busy (m : Mp) (a : Addr) : Mp := ⟨m.ids, a :: m.bz⟩
def Mp.free (m : Mp) : Mp := ⟨m.ids, m.bz.tail⟩
mutual
theorem Rep.grow (k : ∀ b o, H b = some o → H' b = some o) : ∀ (d : D) (v : V), Rep κ mp H d v → Rep κ mp H' d v
  | .non, _, r => by simpa only [Rep] using r
  | .bl _, _, r => by simpa only [Rep] using r
  | .int _, _, r => by simpa only [Rep] using r
  | .str _, _, r => by simpa only [Rep] using r
  | .ty _, _, r => by simpa only [Rep] using r
  | .glb _, _, r => by simpa only [Rep] using r
  | .ref i, v, r => by simpa only [Rep] using r
  | .tup ds, v, r => by
    simp only [Rep] at r ⊢
    obtain ⟨b, vs, ev, s, rs⟩ := r
    refine ⟨b, vs, ev, ?_, Reps.grow k ds vs rs⟩
    rcases s with (q | ⟨x, q⟩) | s
    · exact .inl (.inl (k _ _ q))
    · exact .inl (.inr ⟨x, k _ _ q⟩)
    · exact .inr s
  | .lst ds, v, r => by
    simp only [Rep] at r ⊢
    obtain ⟨b, vs, ev, ⟨q, z⟩, rs⟩ := r
    exact ⟨b, vs, ev, ⟨k _ _ q, z⟩, Reps.grow k ds vs rs⟩
  | .scr ns, v, r => by
    simp only [Rep] at r ⊢
    obtain ⟨b, ev, s⟩ := r
    refine ⟨b, ev, ?_⟩
    rcases s with ⟨q | ⟨x, q⟩, z⟩ | q
    · exact .inl ⟨.inl (k _ _ q), z⟩
    · exact .inl ⟨.inr ⟨x, k _ _ q⟩, z⟩
    · exact .inr q
  | .dct ks ds, v, r => by
    simp only [Rep] at r ⊢
    obtain ⟨b, vs, ev, ⟨q, z⟩, l, nd, rs⟩ := r
    exact ⟨b, vs, ev, ⟨k _ _ q, z⟩, l, nd, Reps.grow k ds vs rs⟩
  | .kdc ks ds, v, r => by
    simp only [Rep] at r ⊢
    obtain ⟨b, vs, es, m, ev, s, l, rs, z⟩ := r
    exact ⟨b, vs, es, m, ev, s, l, Reps.grow k ds vs rs, z⟩
theorem Reps.grow (k : ∀ b o, H b = some o → H' b = some o) : ∀ (ds : List D) (vs : List V), Reps κ mp H ds vs → Reps κ mp H' ds vs
  | [], _, r => by simpa only [Reps] using r
  | d :: ds, vs, r => by
    simp only [Reps] at r ⊢
    obtain ⟨v, vr, ev, r1, r2⟩ := r
    exact ⟨v, vr, ev, Rep.grow k d v r1, Reps.grow k ds vr r2⟩
end
mutual
theorem Rep.busy {a : Addr} (n : H a = none) : ∀ (d : D) (v : V), Rep κ mp H d v → Rep κ (mp.busy a) H d v
  | .non, _, r => by simpa only [Rep] using r
  | .bl _, _, r => by simpa only [Rep] using r
  | .int _, _, r => by simpa only [Rep] using r
  | .str _, _, r => by simpa only [Rep] using r
  | .ty _, _, r => by simpa only [Rep] using r
  | .glb _, _, r => by simpa only [Rep] using r
  | .ref i, v, r => by simp only [Rep] at r ⊢; exact r
  | .tup ds, v, r => by
    simp only [Rep] at r ⊢
    obtain ⟨b, vs, ev, s, rs⟩ := r
    exact ⟨b, vs, ev, s, Reps.busy n ds vs rs⟩
  | .lst ds, v, r => by
    simp only [Rep] at r ⊢
    obtain ⟨b, vs, ev, ⟨q, z⟩, rs⟩ := r
    refine ⟨b, vs, ev, ⟨q, fun y => ?_⟩, Reps.busy n ds vs rs⟩
    rcases y with y | y
    · exact z (.inl y)
    · rcases List.mem_cons.mp y with y | y
      · rw [y, n] at q; cases q
      · exact z (.inr y)
  | .scr ns, v, r => by
    simp only [Rep] at r ⊢
    obtain ⟨b, ev, s⟩ := r
    refine ⟨b, ev, ?_⟩
    rcases s with ⟨q, z⟩ | q
    · refine .inl ⟨q, fun y => ?_⟩
      rcases y with y | y
      · exact z (.inl y)
      · rcases List.mem_cons.mp y with y | y
        · obtain ⟨o, e⟩ := rd_there q
          rw [y, n] at e; cases e
        · exact z (.inr y)
    · exact .inr q
  | .dct ks ds, v, r => by
    simp only [Rep] at r ⊢
    obtain ⟨b, vs, ev, ⟨q, z⟩, l, nd, rs⟩ := r
    refine ⟨b, vs, ev, ⟨q, fun y => ?_⟩, l, nd, Reps.busy n ds vs rs⟩
    rcases y with y | y
    · exact z (.inl y)
    · rcases List.mem_cons.mp y with y | y
      · rw [y, n] at q; cases q
      · exact z (.inr y)
  | .kdc ks ds, v, r => by
    simp only [Rep] at r ⊢
    obtain ⟨b, vs, es, m, ev, s, l, rs, z⟩ := r
    exact ⟨b, vs, es, m, ev, s, l, Reps.busy n ds vs rs, z⟩
theorem Reps.busy {a : Addr} (n : H a = none) : ∀ (ds : List D) (vs : List V), Reps κ mp H ds vs → Reps κ (mp.busy a) H ds vs
  | [], _, r => by simpa only [Reps] using r
  | d :: ds, vs, r => by
    simp only [Reps] at r ⊢
    obtain ⟨v, vr, ev, r1, r2⟩ := r
    exact ⟨v, vr, ev, Rep.busy n d v r1, Reps.busy n ds vr r2⟩
end
mutual
theorem Rep.bzput {a : Addr} {o : HO} {u : HO} (nt : ∀ xs, u ≠ .tup xs ∧ ∀ x y, u ≠ .frz x y) (ha : H a = some u) (b : a ∈ mp.bz) : ∀ (d : D) (v : V), Rep κ mp H d v → Rep κ mp (upd H a o) d v
  | .non, _, r => by simpa only [Rep] using r
  | .bl _, _, r => by simpa only [Rep] using r
  | .int _, _, r => by simpa only [Rep] using r
  | .str _, _, r => by simpa only [Rep] using r
  | .ty _, _, r => by simpa only [Rep] using r
  | .glb _, _, r => by simpa only [Rep] using r
  | .ref i, v, r => by simp only [Rep] at r ⊢; exact r
  | .tup ds, v, r => by
    simp only [Rep] at r ⊢
    obtain ⟨b', vs, ev, s, rs⟩ := r
    refine ⟨b', vs, ev, ?_, Reps.bzput nt ha b ds vs rs⟩
    rcases s with s | s
    · rcases s with q | ⟨x, q⟩
      · refine .inl (.inl ?_)
        rw [upd_ne (fun z => by rw [z, ha] at q; exact (nt vs).1 (Option.some.inj q))]
        exact q
      · refine .inl (.inr ⟨x, ?_⟩)
        rw [upd_ne (fun z => by rw [z, ha] at q; exact (nt vs).2 _ _ (Option.some.inj q))]
        exact q
    · exact .inr s
  | .lst ds, v, r => by
    simp only [Rep] at r ⊢
    obtain ⟨b', vs, ev, ⟨q, z⟩, rs⟩ := r
    have ne : b' ≠ a := fun e => z (.inr (by rw [e]; exact b))
    exact ⟨b', vs, ev, ⟨by rw [upd_ne ne]; exact q, z⟩, Reps.bzput nt ha b ds vs rs⟩
  | .scr ns, v, r => by
    simp only [Rep] at r ⊢
    obtain ⟨b', ev, s⟩ := r
    refine ⟨b', ev, ?_⟩
    rcases s with ⟨q, z⟩ | q
    · have ne : b' ≠ a := fun e => z (.inr (by rw [e]; exact b))
      refine .inl ⟨?_, z⟩
      rcases q with q | ⟨x, q⟩
      · exact .inl (by rw [upd_ne ne]; exact q)
      · exact .inr ⟨x, by rw [upd_ne ne]; exact q⟩
    · exact .inr q
  | .dct ks ds, v, r => by
    simp only [Rep] at r ⊢
    obtain ⟨b', vs, ev, ⟨q, z⟩, l, nd, rs⟩ := r
    have ne : b' ≠ a := fun e => z (.inr (by rw [e]; exact b))
    exact ⟨b', vs, ev, ⟨by rw [upd_ne ne]; exact q, z⟩, l, nd, Reps.bzput nt ha b ds vs rs⟩
  | .kdc ks ds, v, r => by
    simp only [Rep] at r ⊢
    obtain ⟨b', vs, es, m, ev, s, l, rs, z⟩ := r
    exact ⟨b', vs, es, m, ev, s, l, Reps.bzput nt ha b ds vs rs, z⟩
theorem Reps.bzput {a : Addr} {o : HO} {u : HO} (nt : ∀ xs, u ≠ .tup xs ∧ ∀ x y, u ≠ .frz x y) (ha : H a = some u) (b : a ∈ mp.bz) : ∀ (ds : List D) (vs : List V), Reps κ mp H ds vs → Reps κ mp (upd H a o) ds vs
  | [], _, r => by simpa only [Reps] using r
  | d :: ds, vs, r => by
    simp only [Reps] at r ⊢
    obtain ⟨v, vr, ev, r1, r2⟩ := r
    exact ⟨v, vr, ev, Rep.bzput nt ha b d v r1, Reps.bzput nt ha b ds vr r2⟩
end
mutual
theorem Rep.less {bz : List Addr} (s : ∀ a ∈ bz, a ∈ mp.bz) : ∀ (d : D) (v : V), Rep κ mp H d v → Rep κ ⟨mp.ids, bz⟩ H d v
  | .non, _, r => by simpa only [Rep] using r
  | .bl _, _, r => by simpa only [Rep] using r
  | .int _, _, r => by simpa only [Rep] using r
  | .str _, _, r => by simpa only [Rep] using r
  | .ty _, _, r => by simpa only [Rep] using r
  | .glb _, _, r => by simpa only [Rep] using r
  | .ref i, v, r => by simp only [Rep] at r ⊢; exact r
  | .tup ds, v, r => by
    simp only [Rep] at r ⊢
    obtain ⟨b', vs, ev, q, rs⟩ := r
    exact ⟨b', vs, ev, q, Reps.less s ds vs rs⟩
  | .lst ds, v, r => by
    simp only [Rep] at r ⊢
    obtain ⟨b', vs, ev, ⟨q, z⟩, rs⟩ := r
    exact ⟨b', vs, ev, ⟨q, fun y => z (y.elim .inl fun y => .inr (s _ y))⟩, Reps.less s ds vs rs⟩
  | .scr ns, v, r => by
    simp only [Rep] at r ⊢
    obtain ⟨b', ev, q⟩ := r
    refine ⟨b', ev, ?_⟩
    rcases q with ⟨q, z⟩ | q
    · exact .inl ⟨q, fun y => z (y.elim .inl fun y => .inr (s _ y))⟩
    · exact .inr q
  | .dct ks ds, v, r => by
    simp only [Rep] at r ⊢
    obtain ⟨b', vs, ev, ⟨q, z⟩, l, nd, rs⟩ := r
    exact ⟨b', vs, ev, ⟨q, fun y => z (y.elim .inl fun y => .inr (s _ y))⟩, l, nd, Reps.less s ds vs rs⟩
  | .kdc ks ds, v, r => by
    simp only [Rep] at r ⊢
    obtain ⟨b', vs, es, m, ev, q, l, rs, z⟩ := r
    exact ⟨b', vs, es, m, ev, q, l, Reps.less s ds vs rs, z⟩
theorem Reps.less {bz : List Addr} (s : ∀ a ∈ bz, a ∈ mp.bz) : ∀ (ds : List D) (vs : List V), Reps κ mp H ds vs → Reps κ ⟨mp.ids, bz⟩ H ds vs
  | [], _, r => by simpa only [Reps] using r
  | d :: ds, vs, r => by
    simp only [Reps] at r ⊢
    obtain ⟨v, vr, ev, r1, r2⟩ := r
    exact ⟨v, vr, ev, Rep.less s d v r1, Reps.less s ds vr r2⟩
end
theorem RepF.via {mp2 : Mp} {H2 : Hp} (k : ∀ d v, Rep κ mp H d v → Rep κ mp2 H2 d v) : ∀ (fs : List (Str × D)) (vs : List (Str × V)), RepF κ mp H fs vs → RepF κ mp2 H2 fs vs
  | [], _, r => r
  | (f, d) :: ds, vs, r => by
    obtain ⟨v, vr, ev, r1, r2⟩ := r
    exact ⟨v, vr, ev, k _ _ r1, RepF.via k ds vr r2⟩
theorem Reps.via {mp2 : Mp} {H2 : Hp} (k : ∀ d v, Rep κ mp H d v → Rep κ mp2 H2 d v) : ∀ (ds : List D) (vs : List V), Reps κ mp H ds vs → Reps κ mp2 H2 ds vs
  | [], _, r => by simpa only [Reps] using r
  | d :: ds, vs, r => by
    simp only [Reps] at r ⊢
    obtain ⟨v, vr, ev, r1, r2⟩ := r
    exact ⟨v, vr, ev, k _ _ r1, Reps.via k ds vr r2⟩
theorem RepO.via {mp2 : Mp} {H2 : Hp} (k : ∀ d v, Rep κ mp H d v → Rep κ mp2 H2 d v) {a : Addr} {o : MO} (q : H2 a = H a) (r : RepO κ mp H a o) : RepO κ mp2 H2 a o := by
  cases o with
  | lst ds => obtain ⟨vs, e1, r⟩ := r; exact ⟨vs, q.trans e1, Reps.via k _ _ r⟩
  | ins c fs => obtain ⟨C, dx, vs, e0, e1, r⟩ := r; exact ⟨C, dx, vs, e0, q.trans e1, RepF.via k _ _ r⟩
  | dct ks ds => obtain ⟨vs, e1, l, nd, r⟩ := r; exact ⟨vs, q.trans e1, l, nd, Reps.via k _ _ r⟩
theorem RepE.via {mp2 : Mp} {H2 : Hp} (k : ∀ d v, Rep κ mp H d v → Rep κ mp2 H2 d v) {δ : Sl} {σ : L2.St} (r : RepE κ mp H δ σ) : RepE κ mp2 H2 δ σ :=
  ⟨r.1, fun i d q => let ⟨v, e1, e2⟩ := r.2 i d q; ⟨v, e1, k _ _ e2⟩⟩
theorem RelH.busy (R : RelH κ mp H h) {a : Addr} {us : List V} (n : H a = none) : RelH κ (mp.busy a) (upd H a (.lst us)) h := by
  refine ⟨R.nd, R.len, fun i b o h1 h2 => ?_, fun b hb => ?_⟩
  · have r := R.ob i b o h1 h2
    have hb : b ≠ a := fun z => R.new0 n (z ▸ List.mem_of_getElem? h1)
    exact RepO.via (fun d v r => Rep.grow (upd_grow n) d v (Rep.busy n d v r)) (upd_ne hb) r
  · rcases List.mem_cons.mp hb with z | z
    · rw [z]; exact ⟨R.new0 n, us, upd_same⟩
    · obtain ⟨q1, o, q2⟩ := R.bz b z
      exact ⟨q1, o, upd_grow n b _ q2⟩

theorem Rep.busyUpd {a : Addr} {u : HO} (n : H a = none) (d : D) (v : V) (r : Rep κ mp H d v) : Rep κ (mp.busy a) (upd H a u) d v := Rep.grow (upd_grow n) d v (Rep.busy n d v r)
theorem RelH.bzput (R : RelH κ mp H h) {a : Addr} {us : List V} {u : HO} (nt : ∀ xs, u ≠ .tup xs ∧ ∀ x y, u ≠ .frz x y) (ha : H a = some u) (b : a ∈ mp.bz) : RelH κ mp (upd H a (.lst us)) h := by
  refine ⟨R.nd, R.len, fun i c m h1 h2 => ?_, fun c hc => ⟨(R.bz c hc).1, ?_⟩⟩
  · have hb : c ≠ a := fun z => (R.bz a b).1 (z ▸ List.mem_of_getElem? h1)
    exact RepO.via (fun d v r => Rep.bzput nt ha b d v r) (upd_ne hb) (R.ob i c m h1 h2)
  · by_cases z : c = a
    · rw [z]; exact ⟨us, upd_same⟩
    · obtain ⟨_, o', q⟩ := R.bz c hc
      exact ⟨o', by rw [upd_ne z]; exact q⟩
theorem RelH.less (R : RelH κ mp H h) {bz : List Addr} (s : ∀ a ∈ bz, a ∈ mp.bz) : RelH κ ⟨mp.ids, bz⟩ H h :=
  ⟨R.nd, R.len, fun i c m h1 h2 => RepO.via (fun d v r => Rep.less s d v r) rfl (R.ob i c m h1 h2), fun b hb => R.bz b (s b hb)⟩

theorem Reps.len : ∀ {ds : List D} {vs : List V}, Reps κ mp H ds vs → ds.length = vs.length
  | [], _, r => by simp only [Reps] at r; rw [r]; rfl
  | d :: ds, vs, r => by
    simp only [Reps] at r
    obtain ⟨v, vr, rfl, _, r2⟩ := r
    simp [Reps.len r2]
theorem Reps.get : ∀ {ds : List D} {vs : List V} {i : Nat} {d : D}, Reps κ mp H ds vs → ds[i]? = some d → ∃ v, vs[i]? = some v ∧ Rep κ mp H d v
  | [], _, _, _, _, q => by simp at q
  | d :: ds, vs, 0, d', r, q => by
    simp only [Reps] at r
    obtain ⟨v, vr, rfl, r1, _⟩ := r
    simp at q
    subst q
    exact ⟨v, rfl, r1⟩
  | d :: ds, vs, i + 1, d', r, q => by
    simp only [Reps] at r
    obtain ⟨v, vr, rfl, _, r2⟩ := r
    obtain ⟨w, e, r⟩ := Reps.get (i := i) r2 (by simpa using q)
    exact ⟨w, by simpa using e, r⟩
theorem Reps.get' : ∀ {ds : List D} {vs : List V} {i : Nat} {v : V}, Reps κ mp H ds vs → vs[i]? = some v → ∃ d, ds[i]? = some d ∧ Rep κ mp H d v := fun {ds vs i v} r q => by
  have hi : i < ds.length := by rw [r.len]; exact (List.getElem?_eq_some_iff.mp q).1
  obtain ⟨w, e, r1⟩ := r.get (List.getElem?_eq_getElem hi)
  rw [q] at e
  cases e
  exact ⟨_, List.getElem?_eq_getElem hi, r1⟩
theorem Reps.app : ∀ {ds es : List D} {vs ws : List V}, Reps κ mp H ds vs → Reps κ mp H es ws → Reps κ mp H (ds ++ es) (vs ++ ws)
  | [], _, _, _, r, s => by simp only [Reps] at r; rw [r]; exact s
  | d :: ds, es, vs, ws, r, s => by
    simp only [Reps] at r
    obtain ⟨v, vr, rfl, r1, r2⟩ := r
    simp only [List.cons_append, Reps]
    exact ⟨v, vr ++ ws, rfl, r1, Reps.app r2 s⟩
theorem Reps.one {d : D} {v : V} (r : Rep κ mp H d v) : Reps κ mp H [d] [v] := by
  simp only [Reps]
  exact ⟨v, [], rfl, r, rfl⟩
theorem Reps.nil : Reps κ mp H [] [] := by simp only [Reps]
theorem Reps.cons {d : D} {ds : List D} {v : V} {vs : List V} (r : Rep κ mp H d v) (s : Reps κ mp H ds vs) : Reps κ mp H (d :: ds) (v :: vs) := by
  simp only [Reps]
  exact ⟨v, vs, rfl, r, s⟩
theorem Reps.set : ∀ {ds : List D} {vs : List V} {d : D} {v : V} (i : Nat), Reps κ mp H ds vs → Rep κ mp H d v → Reps κ mp H (ds.set i d) (vs.set i v)
  | [], _, _, _, _, r, _ => by simp only [Reps] at r; rw [r]; simp only [List.set_nil, Reps]
  | d :: ds, vs, e, w, 0, r, s => by
    simp only [Reps] at r
    obtain ⟨v, vr, rfl, _, r2⟩ := r
    exact Reps.cons s r2
  | d :: ds, vs, e, w, i + 1, r, s => by
    simp only [Reps] at r
    obtain ⟨v, vr, rfl, r1, r2⟩ := r
    exact Reps.cons r1 (Reps.set i r2 s)
theorem Reps.take : ∀ {ds : List D} {vs : List V} (n : Nat), Reps κ mp H ds vs → Reps κ mp H (ds.take n) (vs.take n)
  | _, _, 0, _ => by simp only [List.take_zero]; exact Reps.nil
  | [], _, n + 1, r => by simp only [Reps] at r; rw [r]; simp only [List.take_nil]; exact Reps.nil
  | d :: ds, vs, n + 1, r => by
    simp only [Reps] at r
    obtain ⟨v, vr, rfl, r1, r2⟩ := r
    exact Reps.cons r1 (Reps.take n r2)
theorem Reps.drop : ∀ {ds : List D} {vs : List V} (n : Nat), Reps κ mp H ds vs → Reps κ mp H (ds.drop n) (vs.drop n)
  | _, _, 0, r => r
  | [], _, n + 1, r => by simp only [Reps] at r; rw [r]; simp only [List.drop_nil]; exact Reps.nil
  | d :: ds, vs, n + 1, r => by
    simp only [Reps] at r
    obtain ⟨v, vr, rfl, r1, r2⟩ := r
    exact Reps.drop n r2
theorem Reps.ints : ∀ {ns : List Int} {vs : List V}, Reps κ mp H (ns.map D.int) vs → vs = ns.map V.int
  | [], vs, r => by simpa only [List.map_nil, Reps] using r
  | n :: ns, vs, r => by
    simp only [List.map_cons, Reps] at r
    obtain ⟨v, vr, rfl, r1, r2⟩ := r
    simp only [Rep] at r1
    rw [r1, Reps.ints r2, List.map_cons]
theorem Reps.ofInts : ∀ (ns : List Int), Reps κ mp H (ns.map D.int) (ns.map V.int)
  | [] => Reps.nil
  | n :: ns => Reps.cons (by simp only [Rep]) (Reps.ofInts ns)

theorem RepE.set {δ : Sl} {σ : L2.St} {d : D} {v : V} (i : Nat) (r : RepE κ mp H δ σ) (s : Rep κ mp H d v) : RepE κ mp H (δ.set i (some d)) (σ.set i (some v)) := by
  refine ⟨by simp [r.1], fun j e q => ?_⟩
  by_cases hj : i = j
  · subst hj
    have hl : i < δ.length := by
      rcases Nat.lt_or_ge i δ.length with z | z
      · exact z
      · rw [List.getElem?_eq_none (by simpa using z)] at q; cases q
    rw [List.getElem?_set_self hl] at q
    cases q
    exact ⟨v, List.getElem?_set_self (by rw [← r.1]; exact hl), s⟩
  · rw [List.getElem?_set_ne hj] at q
    obtain ⟨w, e1, e2⟩ := r.2 j e q
    exact ⟨w, by rw [List.getElem?_set_ne hj]; exact e1, e2⟩
theorem RepE.unset {δ : Sl} {σ : L2.St} (i : Nat) (r : RepE κ mp H δ σ) : RepE κ mp H (δ.set i none) (σ.set i none) := by
  refine ⟨by simp [r.1], fun j e q => ?_⟩
  by_cases hj : i = j
  · subst hj
    rcases Nat.lt_or_ge i δ.length with z | z
    · rw [List.getElem?_set_self z] at q; cases q
    · rw [List.getElem?_eq_none (by simpa using z)] at q; cases q
  · rw [List.getElem?_set_ne hj] at q
    obtain ⟨w, e1, e2⟩ := r.2 j e q
    exact ⟨w, by rw [List.getElem?_set_ne hj]; exact e1, e2⟩
theorem RepE.wipe {δ : Sl} {σ : L2.St} (r : RepE κ mp H δ σ) : ∀ vs : List Nat, RepE κ mp H (wipeD δ vs) (L2.wipe σ vs)
  | [] => r
  | v :: vs => (RepE.wipe r vs).unset v
theorem RepE.forget {δ δ' : Sl} {σ : L2.St} (r : RepE κ mp H δ σ) (l : δ'.length = δ.length) (k : ∀ (i : Nat) d, δ'[i]? = some (some d) → δ[i]? = some (some d)) : RepE κ mp H δ' σ :=
  ⟨l.trans r.1, fun i d q => r.2 i d (k i d q)⟩
end
end DL
end

section
set_option Elab.async false
set_option linter.all false
set_option maxRecDepth 100000
set_option maxHeartbeats 2000000
namespace DL
open PySem PySem.Spec PyProof.Rows L2

abbrev kn (X : Cx) : Kn := ⟨X.prog, X.w, X.K, X.mg, X.base⟩
def Put (κ : Kn) (mp : Mp) (H : Hp) (h : Hd) (d : D) (Q : VK) : Prop := ∀ v H', Ext mp H mp H' → RelH κ mp H' h → Rep κ mp H' d v → Q v H'
theorem Put.here {κ : Kn} {mp : Mp} {H : Hp} {h : Hd} {d : D} {Q : VK} (p : Put κ mp H h d Q) (R : RelH κ mp H h) {v : V} (r : Rep κ mp H d v) : Q v H := p v H Ext.refl R r
theorem Put.tup {κ : Kn} {mp : Mp} {H : Hp} {h : Hd} {ds : List D} {vs : List V} {Q : VK} (p : Put κ mp H h (.tup ds) Q) (R : RelH κ mp H h) (rs : Reps κ mp H ds vs) {a : Addr} (n : H a = none) : Q (.ref a) (upd H a (.tup vs)) := by
  obtain ⟨e, R'⟩ := R.fresh (.tup vs) n
  refine p _ _ e R' ?_
  simp only [Rep]
  exact ⟨a, vs, rfl, SqT.of upd_same, rs.ext R e⟩
theorem Put.lst {κ : Kn} {mp : Mp} {H : Hp} {h : Hd} {ds : List D} {vs : List V} {Q : VK} (p : Put κ mp H h (.lst ds) Q) (R : RelH κ mp H h) (rs : Reps κ mp H ds vs) {a : Addr} (n : H a = none) : Q (.ref a) (upd H a (.lst vs)) := by
  obtain ⟨e, R'⟩ := R.fresh (.lst vs) n
  refine p _ _ e R' ?_
  simp only [Rep]
  exact ⟨a, vs, rfl, ⟨upd_same, R.new n⟩, rs.ext R e⟩
section
variable {κ : Kn} {mp : Mp} {H : Hp} {h : Hd}
theorem seqL_at (R : RelH κ mp H h) {d : D} {v : V} {ds : List D} (r : Rep κ mp H d v) (e : seqL h d = some ds) : ∃ a vs, v = .ref a ∧ SqL κ.K H a vs ∧ Reps κ mp H ds vs := by
  cases d with
  | lst xs =>
    simp only [Rep] at r
    obtain ⟨a, vs, ev, s, rs⟩ := r
    have : xs = ds := Option.some.inj e
    subst this
    exact ⟨a, vs, ev, SqL.of s.1, rs⟩
  | scr ns =>
    simp only [Rep] at r
    obtain ⟨a, ev, s⟩ := r
    have : ns.map D.int = ds := Option.some.inj e
    subst this
    refine ⟨a, _, ev, ?_, Reps.ofInts ns⟩
    rcases s with ⟨q, _⟩ | q
    · exact .inl q
    · rcases q with q | q
      · rcases q with q | ⟨o, q⟩ <;> cases q
      · exact .inr q
  | ref i =>
    simp only [Rep] at r
    obtain ⟨a, ha, ev⟩ := r
    have e : (match h[i]? with | some (.lst ds) => some ds | _ => none) = some ds := e
    cases q : h[i]? with
    | none => rw [q] at e; cases e
    | some o =>
      rw [q] at e
      cases o with
      | lst xs =>
        have : xs = ds := Option.some.inj e
        subst this
        obtain ⟨vs, hv, rs⟩ := R.ob i a _ ha q
        exact ⟨a, vs, ev, SqL.of hv, rs⟩
      | _ => cases e
  | _ => cases e
theorem items_at (R : RelH κ mp H h) {d : D} {v : V} {ds : List D} (r : Rep κ mp H d v) (e : itemsD h d = some ds) : ∃ a vs, v = .ref a ∧ (SqL κ.K H a vs ∨ SqT κ.K H a vs) ∧ Reps κ mp H ds vs := by
  have l : seqL h d = some ds → ∃ a vs, v = .ref a ∧ (SqL κ.K H a vs ∨ SqT κ.K H a vs) ∧ Reps κ mp H ds vs := fun e => by
    obtain ⟨a, vs, ev, s, rs⟩ := seqL_at R r e
    exact ⟨a, vs, ev, .inl s, rs⟩
  cases d with
  | tup xs =>
    simp only [Rep] at r
    obtain ⟨a, vs, ev, s, rs⟩ := r
    have : xs = ds := Option.some.inj e
    subst this
    exact ⟨a, vs, ev, .inr s, rs⟩
  | _ => exact l e
theorem list_at (R : RelH κ mp H h) {d : D} {v : V} {ds : List D} (r : Rep κ mp H d v) (e : listD h d = some ds) : ∃ a vs, v = .ref a ∧ H a = some (.lst vs) ∧ Reps κ mp H ds vs := by
  cases d with
  | lst xs =>
    simp only [Rep] at r
    obtain ⟨a, vs, ev, s, rs⟩ := r
    have : xs = ds := Option.some.inj e
    subst this
    exact ⟨a, vs, ev, s.1, rs⟩
  | ref i =>
    simp only [Rep] at r
    obtain ⟨a, ha, ev⟩ := r
    have e : (match h[i]? with | some (.lst ds) => some ds | _ => none) = some ds := e
    cases q : h[i]? with
    | none => rw [q] at e; cases e
    | some o =>
      rw [q] at e
      cases o with
      | lst xs =>
        have : xs = ds := Option.some.inj e
        subst this
        obtain ⟨vs, hv, rs⟩ := R.ob i a _ ha q
        exact ⟨a, vs, ev, hv, rs⟩
      | _ => cases e
  | _ => cases e
mutual
theorem pureP_dp : ∀ (d : D) (v : V) (p : PyData), Rep κ mp H d v → pureP d = some p → Dp κ.K H v p
  | .non, v, p, r, e => by simp only [Rep] at r; simp only [pureP] at e; cases e; subst r; exact .non
  | .bl b, v, p, r, e => by simp only [Rep] at r; simp only [pureP] at e; cases e; subst r; exact .bl b
  | .int i, v, p, r, e => by simp only [Rep] at r; simp only [pureP] at e; cases e; subst r; exact .int i
  | .str x, v, p, r, e => by simp only [Rep] at r; simp only [pureP] at e; cases e; subst r; exact .str x
  | .tup ds, v, p, r, e => by
    simp only [Rep] at r
    simp only [pureP] at e
    obtain ⟨a, vs, rfl, s, rs⟩ := r
    cases q : purePs ds with
    | none => rw [q] at e; cases e
    | some ps => rw [q] at e; cases e; exact .tup s (purePs_dp ds vs ps rs q)
  | .lst ds, v, p, r, e => by
    simp only [Rep] at r
    simp only [pureP] at e
    obtain ⟨a, vs, rfl, s, rs⟩ := r
    cases q : purePs ds with
    | none => rw [q] at e; cases e
    | some ps => rw [q] at e; cases e; exact .lst (SqL.of s.1) (purePs_dp ds vs ps rs q)
  | .dct _ _, _, _, _, e => by simp only [pureP] at e; cases e
  | .kdc _ _, _, _, _, e => by simp only [pureP] at e; cases e
  | .scr _, _, _, _, e => by simp only [pureP] at e; cases e
  | .ref _, _, _, _, e => by simp only [pureP] at e; cases e
  | .glb _, _, _, _, e => by simp only [pureP] at e; cases e
  | .ty _, _, _, _, e => by simp only [pureP] at e; cases e
theorem purePs_dp : ∀ (ds : List D) (vs : List V) (ps : List PyData), Reps κ mp H ds vs → purePs ds = some ps → DpAll κ.K H vs ps
  | [], vs, ps, r, e => by simp only [Reps] at r; simp only [purePs] at e; cases e; subst r; exact .nil
  | d :: ds, vs, ps, r, e => by
    simp only [Reps] at r
    obtain ⟨v, vr, rfl, r1, r2⟩ := r
    simp only [purePs] at e
    cases q1 : pureP d with
    | none => rw [q1] at e; cases e
    | some p =>
      cases q2 : purePs ds with
      | none => rw [q1, q2] at e; cases e
      | some pr => rw [q1, q2] at e; cases e; exact .cons (pureP_dp d v p r1 q1) (purePs_dp ds vr pr r2 q2)
end
mutual
theorem toP_dp (R : RelH κ mp H h) : ∀ (d : D) (v : V) (p : PyData), Rep κ mp H d v → toP h d = some p → Dp κ.K H v p
  | .non, v, p, r, e => by simp only [Rep] at r; simp only [toP] at e; cases e; subst r; exact .non
  | .bl b, v, p, r, e => by simp only [Rep] at r; simp only [toP] at e; cases e; subst r; exact .bl b
  | .int i, v, p, r, e => by simp only [Rep] at r; simp only [toP] at e; cases e; subst r; exact .int i
  | .str x, v, p, r, e => by simp only [Rep] at r; simp only [toP] at e; cases e; subst r; exact .str x
  | .tup ds, v, p, r, e => by
    simp only [Rep] at r
    simp only [toP] at e
    obtain ⟨a, vs, rfl, s, rs⟩ := r
    cases q : toPs h ds with
    | none => rw [q] at e; cases e
    | some ps => rw [q] at e; cases e; exact .tup s (toPs_dp R ds vs ps rs q)
  | .lst ds, v, p, r, e => by
    simp only [Rep] at r
    simp only [toP] at e
    obtain ⟨a, vs, rfl, s, rs⟩ := r
    cases q : toPs h ds with
    | none => rw [q] at e; cases e
    | some ps => rw [q] at e; cases e; exact .lst (SqL.of s.1) (toPs_dp R ds vs ps rs q)
  | .ref i, v, p, r, e => by
    simp only [Rep] at r
    simp only [toP] at e
    obtain ⟨a, ha, rfl⟩ := r
    cases q : h[i]? with
    | none => rw [q] at e; cases e
    | some o =>
      rw [q] at e
      cases o with
      | lst xs =>
        obtain ⟨vs, hv, rs⟩ := R.ob i a _ ha q
        have e : (purePs xs).map PyData.list = some p := e
        cases q2 : purePs xs with
        | none => rw [q2] at e; cases e
        | some ps => rw [q2] at e; cases e; exact .lst (SqL.of hv) (purePs_dp xs vs ps rs q2)
      | ins _ _ => cases e
      | dct _ _ => cases e
  | .dct _ _, _, _, _, e => by simp only [toP] at e; cases e
  | .kdc _ _, _, _, _, e => by simp only [toP] at e; cases e
  | .scr _, _, _, _, e => by simp only [toP] at e; cases e
  | .glb _, _, _, _, e => by simp only [toP] at e; cases e
  | .ty _, _, _, _, e => by simp only [toP] at e; cases e
theorem toPs_dp (R : RelH κ mp H h) : ∀ (ds : List D) (vs : List V) (ps : List PyData), Reps κ mp H ds vs → toPs h ds = some ps → DpAll κ.K H vs ps
  | [], vs, ps, r, e => by simp only [Reps] at r; simp only [toPs] at e; cases e; subst r; exact .nil
  | d :: ds, vs, ps, r, e => by
    simp only [Reps] at r
    obtain ⟨v, vr, rfl, r1, r2⟩ := r
    simp only [toPs] at e
    cases q1 : toP h d with
    | none => rw [q1] at e; cases e
    | some p =>
      cases q2 : toPs h ds with
      | none => rw [q1, q2] at e; cases e
      | some pr => rw [q1, q2] at e; cases e; exact .cons (toP_dp R d v p r1 q1) (toPs_dp R ds vr pr r2 q2)
end
end

def opOf : Bop → Operator
  | .add => .Add | .sub => .Sub | .mul => .Mult | .div => .FloorDiv | .mod => .Mod | .pow => .Pow | .land => .BitAnd | .lor => .BitOr | .shl => .LShift | .shr => .RShift
def rB (κ : Kn) (o : Bop) : R2 := fun x y H Q => ∃ (mp : Mp) (h : Hd) (dx dy d : D), RelH κ mp H h ∧ Rep κ mp H dx x ∧ Rep κ mp H dy y ∧ binD o dx dy h = some d ∧ Put κ mp H h d Q
theorem line_eq : line = sizeLine := sizeLine_eq.symm
theorem iteS {α : Type} {c : Prop} {i : Decidable c} {a b : α} (e : (@ite (Option α) c i (some a) none) = some b) : c ∧ a = b := by
  by_cases hc : c
  · rw [if_pos hc] at e; exact ⟨hc, Option.some.inj e⟩
  · rw [if_neg hc] at e; cases e
theorem repInt {κ : Kn} {mp : Mp} {H : Hp} {i : Int} {v : V} : Rep κ mp H (.int i) v ↔ v = .int i := by simp only [Rep]
theorem repStr {κ : Kn} {mp : Mp} {H : Hp} {i : Str} {v : V} : Rep κ mp H (.str i) v ↔ v = .str i := by simp only [Rep]
theorem repBl {κ : Kn} {mp : Mp} {H : Hp} {i : Bool} {v : V} : Rep κ mp H (.bl i) v ↔ v = .bl i := by simp only [Rep]
theorem repNon {κ : Kn} {mp : Mp} {H : Hp} {v : V} : Rep κ mp H .non v ↔ v = .non := by simp only [Rep]
theorem mulOk_ok {i j : Int} (c : mulOk i j) : CMul i j ∨ CMulW i j := by
  rcases c with c | c | ⟨a, b⟩
  · exact .inl (.inl c)
  · exact .inl (.inr c)
  · exact .inr (wide_mul a b (by decide) (by decide) (by decide))
theorem op_binD (X : Cx) (o : Bop) : OpR X (binaryOp (opOf o)) (rB (kn X) o) := by
  intro pins s σ H x y v u Q I rx ry hh
  obtain ⟨mp, h, dx, dy, d, R, r1, r2, e, p⟩ := hh
  have ok : ∀ {w : V}, Rep (kn X) mp H d w → Q w H := fun r => p.here R r
  unfold binD at e
  split at e
  · cases e; rw [repInt] at r1 r2
    exact op_add pins s σ H x y v u Q I rx ry ⟨_, _, r1, r2, ok (repInt.mpr rfl)⟩
  · cases e; rw [repInt] at r1 r2
    exact op_sub pins s σ H x y v u Q I rx ry ⟨_, _, r1, r2, ok (repInt.mpr rfl)⟩
  · obtain ⟨c, e⟩ := iteS e; subst e; rw [repInt] at r1 r2
    rcases mulOk_ok c with c | c
    · exact op_mul pins s σ H x y v u Q I rx ry ⟨_, _, r1, r2, c, ok (repInt.mpr rfl)⟩
    · exact op_mulW pins s σ H x y v u Q I rx ry ⟨_, _, r1, r2, c, ok (repInt.mpr rfl)⟩
  · rename_i i j
    obtain ⟨⟨c1, c⟩, e⟩ := iteS e; subst e; rw [repInt] at r1 r2
    rcases c with c | ⟨c, c2⟩
    · exact op_fdivN pins s σ H x y v u Q I rx ry ⟨_, _, r1, r2, ⟨c1, c⟩, ok (repInt.mpr rfl)⟩
    · refine op_fdivW pins s σ H x y v u Q I rx ry ⟨_, _, r1, r2, wide_div c c2 (by decide) (by decide), ok (repInt.mpr ?_)⟩
      rw [Int.fdiv_eq_ediv_of_nonneg _ (Int.le_of_lt c)]
  · obtain ⟨c, e⟩ := iteS e; subst e; rw [repInt] at r1 r2
    exact op_modN pins s σ H x y v u Q I rx ry ⟨_, _, r1, r2, c, ok (repInt.mpr rfl)⟩
  · obtain ⟨c, e⟩ := iteS e; subst e; rw [repInt] at r1 r2
    exact op_pow pins s σ H x y v u Q I rx ry ⟨_, _, r1, r2, c, ok (repInt.mpr rfl)⟩
  · obtain ⟨c, e⟩ := iteS e; subst e; rw [repInt] at r1 r2
    exact op_shl pins s σ H x y v u Q I rx ry ⟨_, _, r1, r2, c, ok (repInt.mpr rfl)⟩
  · obtain ⟨c, e⟩ := iteS e; subst e; rw [repInt] at r1 r2
    exact op_shr pins s σ H x y v u Q I rx ry ⟨_, _, r1, r2, c, ok (repInt.mpr rfl)⟩
  · obtain ⟨c, e⟩ := iteS e; subst e; rw [repStr] at r1 r2
    exact op_add_str pins s σ H x y v u Q I rx ry ⟨_, _, r1, r2, by rw [← line_eq]; exact c, ok (repStr.mpr rfl)⟩
  · rename_i xs ys
    obtain ⟨c, e⟩ := iteS e; subst e
    simp only [Rep] at r1 r2
    obtain ⟨a, vs, rfl, s1, q1⟩ := r1
    obtain ⟨b, ws, rfl, s2, q2⟩ := r2
    refine op_catA pins s σ H _ _ v u Q I rx ry ⟨a, b, vs, ws, rfl, rfl, s1, s2, by rw [← line_eq, ← q1.len, ← q2.len]; exact c, fun z => ?_, fun _ z => ?_, fun _ _ t nt => p.tup R (q1.app q2) nt⟩
    · refine ok ?_
      have : xs = [] := List.length_eq_zero_iff.mp (by rw [q1.len, z]; rfl)
      subst this
      simp only [Rep]
      exact ⟨b, ws, rfl, s2, q2⟩
    · refine ok ?_
      have : ys = [] := List.length_eq_zero_iff.mp (by rw [q2.len, z]; rfl)
      subst this
      simp only [Rep, List.append_nil]
      exact ⟨a, vs, rfl, s1, q1⟩
  · split at e
    · rename_i xs ys q1 q2
      obtain ⟨c, e⟩ := iteS e; subst e
      obtain ⟨a, vs, rfl, s1, t1⟩ := list_at R r1 q1
      obtain ⟨b, ws, rfl, s2, t2⟩ := list_at R r2 q2
      exact op_cat pins s σ H _ _ v u Q I rx ry ⟨a, b, vs, ws, rfl, rfl, s1, s2, by rw [← line_eq, ← t1.len, ← t2.len]; exact c, fun t nt => p.lst R (t1.app t2) nt⟩
    · cases e
  · split at e
    · rename_i xs q1
      obtain ⟨⟨c1, c2, c3⟩, e⟩ := iteS e; subst e
      rw [repInt] at r2
      obtain ⟨a, vs, rfl, s1, t1⟩ := list_at R r1 q1
      refine op_rep pins s σ H _ _ v u Q I rx ry ⟨a, _, vs, rfl, r2, s1, c1, c2, by rw [← line_eq, ← t1.len]; exact c3, fun t nt => p.lst R ?_ nt⟩
      have rep : ∀ n : Nat, Reps (kn X) mp H (List.replicate n xs).flatten (List.replicate n vs).flatten := fun n => by
        induction n with
        | zero => exact Reps.nil
        | succ n ih =>
          rw [List.replicate_succ, List.replicate_succ, List.flatten_cons, List.flatten_cons]
          exact t1.app ih
      exact rep _
    · cases e
  · cases e

def cpOf : Cop → CmpOp
  | .lt => .Lt | .le => .LtE | .gt => .Gt | .ge => .GtE | .eq => .Eq | .ne => .NotEq | .isN => .Is | .notN => .IsNot | .inn => .In | .nin => .NotIn
def rCp (κ : Kn) (o : Cop) : R2 := fun x y H Q => ∃ (mp : Mp) (h : Hd) (dx dy : D) (k : Bool), RelH κ mp H h ∧ Rep κ mp H dx x ∧ Rep κ mp H dy y ∧ cmpD o dx dy h = some k ∧ Q (.bl k) H
theorem lexLt_eq : ∀ a b : List Int, lexLt a b = HT.lexLt a b
  | [], [] => rfl
  | [], _ :: _ => rfl
  | _ :: _, [] => rfl
  | a :: as, b :: bs => by
    show (if a = b then lexLt as bs else decide (a < b)) = (if a = b then HT.lexLt as bs else decide (a < b))
    rw [lexLt_eq as bs]
theorem intsD_eq : ∀ {ds : List D} {ns : List Int}, intsD ds = some ns → ds = ns.map D.int
  | [], ns, e => by cases e; rfl
  | d :: ds, ns, e => by
    cases d with
    | int i =>
      have e : (intsD ds).map (i :: ·) = some ns := e
      cases q : intsD ds with
      | none => rw [q] at e; cases e
      | some ms => rw [q] at e; cases e; rw [intsD_eq q]; rfl
    | _ => cases e
theorem dk_sel {ks : List Kk} {vs : List V} (l : ks.length = vs.length) (k : Kk) : (valV (ks.zip vs) k).isSome = ks.any fun j => decide (j = k) := by
  induction ks generalizing vs with
  | nil => rfl
  | cons j ks ih =>
    cases vs with
    | nil => simp at l
    | cons v vs =>
      rw [List.zip_cons_cons]
      by_cases hj : j = k
      · rw [valV_pos (p := (j, v)) hj]; simp [hj]
      · rw [valV_neg (p := (j, v)) hj, ih (by simpa using l)]; simp [hj]
theorem keyK_rep {κ : Kn} {mp : Mp} {H : Hp} {d : D} {v : V} {k : Kk} (r : Rep κ mp H d v) (e : keyK d = some k) : v = kV k := by
  cases d with
  | int i => cases e; simp only [Rep] at r; exact r
  | str x => cases e; simp only [Rep] at r; exact r
  | _ => cases e
theorem room64 {X : Cx} (hu : X.A.units + 200 < cLine) : X.A.units + 64 < cLine ∧ X.A.units + 65 < cLine ∧ X.A.units + 1 < cLine ∧ X.A.units < cLine := by omega
theorem op_cmpD (X : Cx) (hu : X.A.units + 200 < cLine) (o : Cop) : OpR X (compareOp (cpOf o)) (rCp (kn X) o) := by
  obtain ⟨hu1, hu2, hu3, hu4⟩ := room64 hu
  intro pins s σ H x y v u Q I rx ry hh
  obtain ⟨mp, h, dx, dy, k, R, r1, r2, e, p⟩ := hh
  have eqc : ∀ {b : Bool}, eqD h dx dy = some b → (Q (.bl b) H → wpAny (model X.prog X.w) X.A (compareOp .Eq v u) (EP X pins σ Q) X.xe s) ∧ (Q (.bl (!b)) H → wpAny (model X.prog X.w) X.A (compareOp .NotEq v u) (EP X pins σ Q) X.xe s) := fun {b} e => by
    unfold eqD at e
    split at e
    · rename_i p q e1 e2
      obtain ⟨⟨c1, c2⟩, e⟩ := iteS e
      subst e
      exact ⟨fun z => op_eqD hu1 pins s σ H x y v u Q I rx ry ⟨p, q, toP_dp R _ _ _ r1 e1, toP_dp R _ _ _ r2 e2, c1, c2, z⟩,
        fun z => op_neD hu1 pins s σ H x y v u Q I rx ry ⟨p, q, toP_dp R _ _ _ r1 e1, toP_dp R _ _ _ r2 e2, c1, c2, z⟩⟩
    · cases e
  have inc : ∀ {b : Bool}, inD h dx dy = some b → (Q (.bl b) H → wpAny (model X.prog X.w) X.A (compareOp .In v u) (EP X pins σ Q) X.xe s) ∧ (Q (.bl (!b)) H → wpAny (model X.prog X.w) X.A (compareOp .NotIn v u) (EP X pins σ Q) X.xe s) := fun {b} e => by
    unfold inD at e
    split at e
    · rename_i p ps e1 e2
      obtain ⟨⟨c1, c2⟩, e⟩ := iteS e
      subst e
      obtain ⟨as, q1⟩ := Dp.reads I _ _ _ (toP_dp R _ _ _ r1 e1) rx
      obtain ⟨bs, q2⟩ := Dp.reads I _ _ _ (toP_dp R _ _ _ r2 e2) ry
      exact ⟨fun z => SeqAt.in_list_reads q2 q1 (SeqAt.canLay_of_shaped c2) (SeqAt.canLay_of_shaped c1) (room_in_shaped c1 hu2) ⟨.bl _, H, I, rfl, z⟩,
        fun z => SeqAt.notIn_list_reads q2 q1 (SeqAt.canLay_of_shaped c2) (SeqAt.canLay_of_shaped c1) (room_in_shaped c1 hu2) ⟨.bl _, H, I, rfl, z⟩⟩
    · rename_i p ps e1 e2
      obtain ⟨⟨c1, c2⟩, e⟩ := iteS e
      subst e
      obtain ⟨as, q1⟩ := Dp.reads I _ _ _ (toP_dp R _ _ _ r1 e1) rx
      obtain ⟨bs, q2⟩ := Dp.reads I _ _ _ (toP_dp R _ _ _ r2 e2) ry
      exact ⟨fun z => SeqAt.in_tuple_reads q2 q1 (SeqAt.canLay_of_shaped c2) (SeqAt.canLay_of_shaped c1) (room_in_shaped c1 hu2) ⟨.bl _, H, I, rfl, z⟩,
        fun z => SeqAt.notIn_tuple_reads q2 q1 (SeqAt.canLay_of_shaped c2) (SeqAt.canLay_of_shaped c1) (room_in_shaped c1 hu2) ⟨.bl _, H, I, rfl, z⟩⟩
    · cases e
  have dctc : ∀ {ks : List Kk} {ds : List D} {j : Kk}, dy = .dct ks ds → keyK dx = some j → (Q (.bl (ks.any fun i => decide (i = j))) H → wpAny (model X.prog X.w) X.A (compareOp .In v u) (EP X pins σ Q) X.xe s) ∧
      (Q (.bl (!(ks.any fun i => decide (i = j)))) H → wpAny (model X.prog X.w) X.A (compareOp .NotIn v u) (EP X pins σ Q) X.xe s) := fun {ks ds j} e1 e2 => by
    subst e1
    have ek := keyK_rep r1 e2
    simp only [Rep] at r2
    obtain ⟨a, vs, rfl, ⟨q, n⟩, l, nd, rs⟩ := r2
    cases ry
    rw [ek] at rx
    have g : DGet H a (kV j) (valV (ks.zip vs) j) := DGet.k q
    have l2 : ks.length = vs.length := by rw [l, rs.len]
    refine ⟨fun z => d_in hu3 I g rx fun s' I' => ⟨.bl _, H, I', rfl, ?_⟩, fun z => d_notIn hu3 I g rx fun s' I' => ⟨.bl _, H, I', rfl, ?_⟩⟩
    · rw [dk_sel l2]; exact z
    · rw [dk_sel l2]; exact z
  have kdcc : ∀ {ks : List Str} {ds : List D} {j : Str}, dy = .kdc ks ds → dx = .str j → (Q (.bl (ks.any fun i => decide (i = j))) H → wpAny (model X.prog X.w) X.A (compareOp .In v u) (EP X pins σ Q) X.xe s) ∧
      (Q (.bl (!(ks.any fun i => decide (i = j)))) H → wpAny (model X.prog X.w) X.A (compareOp .NotIn v u) (EP X pins σ Q) X.xe s) := fun {ks ds j} e1 e2 => by
    subst e1 e2
    simp only [Rep] at r2 r1
    obtain ⟨a, vs, es, n, rfl, KD, l, rs, hk⟩ := r2
    subst r1
    obtain ⟨r, e1, e2⟩ := hk j
    have l2 : ks.length = vs.length := by rw [l, rs.len]
    have es : ∀ {ks : List Str} {vs : List V}, ks.length = vs.length → ((((ks.zip vs).find? fun kv => decide (kv.1 = j)).map (·.2)).isSome) = ks.any fun i => decide (i = j) := fun {ks} => by
      induction ks with
      | nil => intro vs _; rfl
      | cons i ks ih =>
        intro vs hl
        cases vs with
        | nil => simp at hl
        | cons w ws =>
          rw [List.zip_cons_cons]
          by_cases hj : i = j
          · simp [hj]
          · have := ih (vs := ws) (by simpa using hl)
            simp [hj, List.find?_cons, ← this]
    have er : r.isSome = ks.any fun i => decide (i = j) := by
      rw [← es l2]
      cases q : ((ks.zip vs).find? fun kv => decide (kv.1 = j)).map (·.2) with
      | none => rw [q] at e2; rw [RelO.none_of e2]; rfl
      | some w => rw [q] at e2; obtain ⟨u, hu, _⟩ := RelO.some_of e2; rw [hu]; rfl
    exact ⟨fun z => op_in_kd KD pins s σ H _ _ v u Q I rx ry ⟨j, r, rfl, rfl, e1, by rw [er]; exact z⟩, fun z => op_notIn_kd KD pins s σ H _ _ v u Q I rx ry ⟨j, r, rfl, rfl, e1, by rw [er]; exact z⟩⟩
  unfold cmpD at e
  split at e
  · cases e; rw [repInt] at r1 r2; exact op_lt pins s σ H x y v u Q I rx ry ⟨_, _, r1, r2, p⟩
  · cases e; rw [repInt] at r1 r2; exact op_le pins s σ H x y v u Q I rx ry ⟨_, _, r1, r2, p⟩
  · cases e; rw [repInt] at r1 r2; exact op_gt pins s σ H x y v u Q I rx ry ⟨_, _, r1, r2, p⟩
  · cases e; rw [repInt] at r1 r2; exact op_ge pins s σ H x y v u Q I rx ry ⟨_, _, r1, r2, p⟩
  · split at e
    · rename_i a b q1 q2
      cases e
      rw [intsD_eq q1] at r1
      rw [intsD_eq q2] at r2
      simp only [Rep] at r1 r2
      obtain ⟨a1, vs, rfl, s1, t1⟩ := r1
      obtain ⟨a2, ws, rfl, s2, t2⟩ := r2
      rw [t1.ints] at s1
      rw [t2.ints] at s2
      exact op_ltT hu4 pins s σ H _ _ v u Q I rx ry ⟨a1, a2, a, b, rfl, rfl, s1, s2, by rw [← lexLt_eq]; exact p⟩
    · cases e
  · exact (eqc e).1 p
  · cases q : eqD h dx dy with
    | none => rw [q] at e; cases e
    | some b => rw [q] at e; cases e; exact (eqc q).2 p
  · cases e
    rw [repNon] at r2
    refine op_isN pins s σ H x y v u Q I rx ry ⟨r2, ?_⟩
    cases dx <;> simp only [Rep] at r1 <;> first | (subst r1; exact p) | (obtain ⟨_, _, _, _, rfl, _⟩ := r1; exact p) | (obtain ⟨_, _, rfl, _⟩ := r1; exact p) | (obtain ⟨_, rfl, _⟩ := r1; exact p) | (obtain ⟨_, _, rfl⟩ := r1; exact p)
  · cases e
    rw [repNon] at r2
    refine op_notN pins s σ H x y v u Q I rx ry ⟨r2, ?_⟩
    cases dx <;> simp only [Rep] at r1 <;> first | (subst r1; exact p) | (obtain ⟨_, _, _, _, rfl, _⟩ := r1; exact p) | (obtain ⟨_, _, rfl, _⟩ := r1; exact p) | (obtain ⟨_, rfl, _⟩ := r1; exact p) | (obtain ⟨_, _, rfl⟩ := r1; exact p)
  · rename_i ks ds
    cases q : keyK dx with
    | none => rw [q] at e; cases e
    | some j => rw [q] at e; cases e; exact (dctc rfl q).1 p
  · rename_i ks ds
    cases q : keyK dx with
    | none => rw [q] at e; cases e
    | some j => rw [q] at e; cases e; exact (dctc rfl q).2 p
  · cases e; exact (kdcc rfl rfl).1 p
  · cases e; exact (kdcc rfl rfl).2 p
  · exact (inc e).1 p
  · cases q : inD h dx dy with
    | none => rw [q] at e; cases e
    | some b => rw [q] at e; cases e; exact (inc q).2 p
  · cases e

theorem ixD_eq (n : Nat) (i : Int) : ixD n i = L2.ixN n i := rfl
theorem atD_rep {κ : Kn} {mp : Mp} {H : Hp} {ds : List D} {vs : List V} {i : Int} {d : D} (rs : Reps κ mp H ds vs) (e : atD ds i = some d) : ∃ v, atI vs i = some v ∧ Rep κ mp H d v := by
  unfold atD at e
  unfold atI
  rw [← rs.len]
  cases q : ixD ds.length i with
  | none => rw [q] at e; cases e
  | some j =>
    rw [q] at e
    have e : ds[j]? = some d := e
    obtain ⟨v, e1, r⟩ := rs.get e
    refine ⟨v, ?_, r⟩
    rw [show L2.ixN ds.length i = some j from q]
    exact e1
theorem lookK_rep {κ : Kn} {mp : Mp} {H : Hp} {k : Kk} : ∀ {ks : List Kk} {ds : List D} {vs : List V} {d : D}, Reps κ mp H ds vs → lookK ks ds k = some d → ∃ v, valV (ks.zip vs) k = some v ∧ Rep κ mp H d v
  | [], _, _, _, _, e => by cases e
  | j :: ks, [], _, _, _, e => by cases e
  | j :: ks, x :: ds, vs, d, r, e => by
    simp only [Reps] at r
    obtain ⟨v, vr, rfl, r1, r2⟩ := r
    rw [List.zip_cons_cons]
    unfold lookK at e
    rw [List.zip_cons_cons] at e
    by_cases hj : j = k
    · rw [List.find?_cons] at e
      simp only [hj, decide_true, Option.map_some, Option.some.injEq] at e
      subst e
      exact ⟨v, valV_pos (p := (j, v)) hj, r1⟩
    · rw [List.find?_cons] at e
      simp only [hj, decide_false] at e
      rw [valV_neg (p := (j, v)) hj]
      exact lookK_rep r2 e
def rIxd (κ : Kn) : R2 := fun x y H Q => ∃ (mp : Mp) (h : Hd) (dx dy d : D), RelH κ mp H h ∧ Rep κ mp H dx x ∧ Rep κ mp H dy y ∧ idxD dx dy h = some d ∧ Put κ mp H h d Q
theorem ix_dct {X : Cx} {pins : List (Addr × Obj)} {σ : L2.St} {s : Shared} {H : Hp} {a : Addr} {y w : V} {v u : Value} {value slice : Expr} {Q : VK} (hu : X.A.units + 200 < cLine) (I : Inv X pins σ H s) (g : DGet H a y (some w)) (rx : RelV (.ref a) v) (ry : RelV y u)
    (q : Q w H) (hs : subscripted slice false v u = operate [v, u] (getItem v u)) : wpAny (model X.prog X.w) X.A (subscriptTail value slice v u) (EP X pins σ Q) X.xe s := by
  cases rx
  exact tail_any (dict_typeIs I g) slot_dict_getitem.lookup (d_getItem (by omega) I g ry fun w' s3 I3 rw' => ⟨w, H, I3, rw', q⟩) hs
theorem ix_D (X : Cx) (hu : X.A.units + 200 < cLine) : IxR X (rIxd (kn X)) := by
  intro value slice pins s σ H x y v u Q I rx ry hh hs
  obtain ⟨mp, h, dx, dy, d, R, r1, r2, e, p⟩ := hh
  have seq : ∀ {ds : List D} {i : Int}, itemsD h dx = some ds → dy = .int i → atD ds i = some d → wpAny (model X.prog X.w) X.A (subscriptTail value slice v u) (EP X pins σ Q) X.xe s := fun {ds i} e1 e2 e3 => by
    subst e2
    obtain ⟨a, vs, rfl, sq, rs⟩ := items_at R r1 e1
    obtain ⟨w, ew, rw'⟩ := atD_rep rs e3
    rw [repInt] at r2
    rcases sq with sq | sq
    · exact ix_list value slice pins s σ H _ y v u Q I rx ry ⟨a, vs, i, w, rfl, r2, sq, ew, p.here R rw'⟩ hs
    · exact ix_tup value slice pins s σ H _ y v u Q I rx ry ⟨a, vs, i, w, rfl, r2, sq, ew, p.here R rw'⟩ hs
  have dkt : ∀ {a : Addr} {ks : List Kk} {ds : List D} {vs : List V}, x = .ref a → H a = some (.dK (ks.zip vs)) → Reps (kn X) mp H ds vs → (keyK dy).bind (lookK ks ds) = some d → wpAny (model X.prog X.w) X.A (subscriptTail value slice v u) (EP X pins σ Q) X.xe s :=
    fun {a ks ds vs} ex hd rs e => by
    subst ex
    cases q : keyK dy with
    | none => rw [q] at e; cases e
    | some k =>
      rw [q] at e
      obtain ⟨w, e1, rw'⟩ := lookK_rep rs (show lookK ks ds k = some d from e)
      have ek := keyK_rep r2 q
      subst ek
      have g : DGet H a (kV k) (some w) := by rw [← e1]; exact DGet.k hd
      exact ix_dct hu I g rx ry (p.here R rw') hs
  unfold idxD at e
  split at e
  · simp only [Rep] at r1
    obtain ⟨a, vs, rfl, ⟨q, n⟩, l, nd, rs⟩ := r1
    exact dkt rfl q rs e
  · rename_i ks ds z
    have r1' := r1
    simp only [Rep] at r1 r2
    obtain ⟨a, vs, es, n, rfl, KD, l, rs, hk⟩ := r1
    subst r2
    obtain ⟨r, e1, e2⟩ := hk z
    have fnd : ∀ {ks : List Str} {ds : List D} {vs : List V}, Reps (kn X) mp H ds vs → ((ks.zip ds).find? fun kv => decide (kv.1 = z)).map (·.2) = some d →
        ∃ w, ((ks.zip vs).find? fun kv => decide (kv.1 = z)).map (·.2) = some w ∧ Rep (kn X) mp H d w := fun {ks} => by
      induction ks with
      | nil => intro ds vs _ e; cases e
      | cons j ks ih =>
        intro ds vs r e
        cases ds with
        | nil => cases e
        | cons x ds =>
          simp only [Reps] at r
          obtain ⟨w, wr, rfl, r1, r2⟩ := r
          rw [List.zip_cons_cons, List.find?_cons] at e ⊢
          by_cases hj : j = z
          · simp only [hj, decide_true, Option.map_some, Option.some.injEq] at e ⊢
            subst e
            exact ⟨w, rfl, r1⟩
          · simp only [hj, decide_false] at e ⊢
            exact ih r2 e
    obtain ⟨w, e3, rw'⟩ := fnd rs e
    rw [e3] at e2
    obtain ⟨u0, hu0, ru0⟩ := RelO.some_of e2
    rw [hu0] at e1
    exact ix_kdict value slice pins s σ H _ _ v u Q I rx ry ⟨a, z, w, rfl, rfl, ⟨es, n, u0, KD.at_, KD.lit, e1, ru0⟩, p.here R rw'⟩ hs
  · rename_i r
    split at e
    · rename_i ks ds q
      simp only [Rep] at r1
      obtain ⟨a, ha, rfl⟩ := r1
      obtain ⟨vs, hv, l, nd, rs⟩ := R.ob _ a _ ha q
      exact dkt rfl hv rs e
    · rename_i ds q
      split at e
      · refine seq (ds := ds) ?_ rfl e
        show (match h[r]? with | some (.lst ds) => some ds | _ => none) = some ds
        rw [q]
      · cases e
    · cases e
  · rename_i z i
    obtain ⟨c, e⟩ : z.length ≤ line ∧ ((ixD z.length i).bind fun j => z.cps[j]?).map (fun c => D.str ⟨#[c]⟩) = some d := by
      by_cases c : z.length ≤ line
      · rw [if_pos c] at e; exact ⟨c, e⟩
      · rw [if_neg c] at e; cases e
    rw [repStr] at r1
    rw [repInt] at r2
    cases q : (ixD z.length i).bind fun j => z.cps[j]? with
    | none => rw [q] at e; cases e
    | some c1 =>
      rw [q] at e
      cases e
      refine ix_str value slice pins s σ H x y v u Q I rx ry ⟨z, i, c1, r1, r2, by rw [← line_eq]; exact c, ?_, p.here R (repStr.mpr rfl)⟩ hs
      unfold atI
      have l : z.cps.toList.length = z.length := by simp [Str.length]
      rw [l]
      cases q2 : ixD z.length i with
      | none => rw [q2] at q; cases q
      | some j =>
        rw [q2] at q
        have q : z.cps[j]? = some c1 := q
        rw [show L2.ixN z.length i = some j from q2]
        simpa using q
  · rename_i i
    cases q : itemsD h dx with
    | none => rw [q] at e; cases e
    | some ds => rw [q] at e; exact seq q rfl e
  · cases e
theorem sIx_eq (n d : Nat) (o : Option Int) : sIx n d o = HT.sIx n d o := by cases o <;> rfl
theorem cut_rep {κ : Kn} {mp : Mp} {H : Hp} {ds : List D} {vs : List V} (lo hi : Option Int) (rs : Reps κ mp H ds vs) : Reps κ mp H (cutD ds lo hi) (cutV vs lo hi) := by
  unfold cutD cutV
  simp only [sIx_eq, rs.len]
  exact (rs.drop _).take _
def rSld (κ : Kn) : V → Option Int → Option Int → Hp → VK → Prop := fun x lo hi H Q => ∃ (mp : Mp) (h : Hd) (dx d : D), RelH κ mp H h ∧ Rep κ mp H dx x ∧ slcD dx lo hi h = some d ∧ Put κ mp H h d Q
theorem sl_D (X : Cx) : SlR X (rSld (kn X)) := by
  intro pins s σ H x v vl vu lo hi sl Q I rx hs pl pu hh
  obtain ⟨mp, h, dx, d, R, r1, e, p⟩ := hh
  unfold slcD at e
  split at e
  · rename_i ds
    cases e
    simp only [Rep] at r1
    obtain ⟨a, vs, rfl, sq, rs⟩ := r1
    refine sl_tupA pins s σ H _ v vl vu lo hi sl Q I rx hs pl pu ⟨a, vs, rfl, sq, fun ⟨w1, w2⟩ => ?_, fun _ t nt => p.tup R (cut_rep lo hi rs) nt⟩
    refine p.here R ?_
    simp only [Rep]
    refine ⟨a, vs, rfl, sq, ?_⟩
    have e : cutD ds lo hi = ds := by
      unfold cutD
      rw [sIx_eq, sIx_eq, rs.len, w1, w2, Nat.sub_zero, ← rs.len]
      simp
    rw [e]
    exact rs
  · rename_i z
    obtain ⟨c, e⟩ := iteS e
    subst e
    rw [repStr] at r1
    refine sl_str pins s σ H _ v vl vu lo hi sl Q I rx hs pl pu ⟨z, r1, by rw [← line_eq]; exact c, ?_⟩
    refine p.here R (repStr.mpr ?_)
    unfold cutS cutD
    simp only [sIx_eq]
    have l : z.cps.toList.length = z.length := by simp [Str.length]
    rw [l]
  · cases q : seqL h dx with
    | none => rw [q] at e; cases e
    | some ds =>
      rw [q] at e
      cases e
      obtain ⟨a, vs, rfl, sq, rs⟩ := seqL_at R r1 q
      exact sl_list pins s σ H _ v vl vu lo hi sl Q I rx hs pl pu ⟨a, vs, rfl, sq, fun t nt => p.lst R (cut_rep lo hi rs) nt⟩
def tTru (κ : Kn) (x : V) (H : Hp) (k : Bool) : Prop := ∃ (mp : Mp) (h : Hd) (d : D), RelH κ mp H h ∧ Rep κ mp H d x ∧ truD h d = some k
theorem tru_D (X : Cx) {x : V} {H : Hp} {k : Bool} (t : tTru (kn X) x H k) : TruV X.K x H k := by
  obtain ⟨mp, h, d, R, r, e⟩ := t
  have emp : ∀ {ds : List D} {vs : List V}, Reps (kn X) mp H ds vs → (!ds.isEmpty) = !vs.isEmpty := fun {ds vs} rs => by
    cases ds with
    | nil => simp only [Reps] at rs; rw [rs]; rfl
    | cons d ds => simp only [Reps] at rs; obtain ⟨v, vr, rfl, _⟩ := rs; rfl
  have sq : (seqL h d).map (fun ds => !ds.isEmpty) = some k → TruV X.K x H k := fun e => by
    cases q : seqL h d with
    | none => rw [q] at e; cases e
    | some ds =>
      rw [q] at e
      cases e
      obtain ⟨a, vs, rfl, sq, rs⟩ := seqL_at R r q
      exact .inl ⟨vs, sq, emp rs⟩
  cases d with
  | non => simp only [Rep] at r; subst r; exact (Option.some.inj e).symm
  | bl b => simp only [Rep] at r; subst r; exact (Option.some.inj e).symm
  | int i => simp only [Rep] at r; subst r; exact (Option.some.inj e).symm
  | str z =>
    simp only [Rep] at r
    subst r
    obtain ⟨c, e⟩ := iteS e
    refine ⟨by rw [← line_eq]; exact c, ?_⟩
    rw [← e]
    cases z.length <;> rfl
  | tup ds =>
    simp only [Rep] at r
    obtain ⟨a, vs, rfl, s, rs⟩ := r
    exact .inr (.inl ⟨vs, s, by rw [← emp rs]; exact (Option.some.inj e).symm⟩)
  | _ => exact sq e
end DL
end

section
set_option Elab.async false
set_option linter.all false
set_option maxRecDepth 100000
set_option maxHeartbeats 2000000
namespace DL
open PySem PySem.Spec PyProof.Rows L2

def PostG {α β : Type} (κ : Kn) (Rp : Mp → Hp → α → β → Prop) (W : WX) (σ : L2.St) (mp : Mp) (H : Hp) (o : Out α) (Q : β → Hp → Prop) : Prop := match o with
  | .no => False
  | .ok a h => ∀ v H' mp', Ext mp H mp' H' → RelH κ mp' H' h → Rp mp' H' a v → Q v H'
  | .ex e h => ∀ c dd H' mp', Ext mp H mp' H' → RelH κ mp' H' h → RepX κ mp' H' e c dd → W c dd σ H'
abbrev RpB : Mp → Hp → Bool → Bool → Prop := fun _ _ a b => a = b
section
variable {α β γ ζ : Type} {κ : Kn} {Rp : Mp → Hp → α → β → Prop} {Rq : Mp → Hp → γ → ζ → Prop} {W : WX} {σ : L2.St} {mp mp1 : Mp} {H H1 : Hp} {h : Hd} {o : Out α} {Q : β → Hp → Prop}
theorem PostG.ext (p : PostG κ Rp W σ mp H o Q) (e : Ext mp H mp1 H1) : PostG κ Rp W σ mp1 H1 o Q := by
  cases o with
  | no => exact p
  | ok a h => exact fun v H' mp' e' r q => p v H' mp' (e.trans e') r q
  | ex x h => exact fun c dd H' mp' e' r q => p c dd H' mp' (e.trans e') r q
theorem PostG.bind {f : α → Hd → Out γ} {Q : ζ → Hp → Prop} {Q' : β → Hp → Prop} (p : PostG κ Rq W σ mp H (o.bind f) Q)
    (k : ∀ a h1 v H1 mp1, o = .ok a h1 → Ext mp H mp1 H1 → RelH κ mp1 H1 h1 → Rp mp1 H1 a v → PostG κ Rq W σ mp1 H1 (f a h1) Q → Q' v H1) : PostG κ Rp W σ mp H o Q' := by
  cases o with
  | no => exact p
  | ex x h => exact p
  | ok a h => exact fun v H' mp' e r q => k a h v H' mp' rfl e r q (PostG.ext p e)
theorem PostG.imp {Q' : β → Hp → Prop} (p : PostG κ Rp W σ mp H o Q) (k : ∀ v H', Q v H' → Q' v H') : PostG κ Rp W σ mp H o Q' := by
  cases o with
  | no => exact p
  | ok a h => exact fun v H' mp' e' r q => k _ _ (p v H' mp' e' r q)
  | ex x h => exact p
theorem PostG.put {d : Option D} {Q : VK} (p : PostG κ (Rep κ) W σ mp H (optD d h) Q) : ∃ x, d = some x ∧ Put κ mp H h x Q := by
  cases d with
  | none => exact p.elim
  | some x => exact ⟨x, rfl, fun v H' e r q => p v H' mp e r q⟩
theorem PostG.here {a : α} {v : β} (p : PostG κ Rp W σ mp H (.ok a h) Q) (R : RelH κ mp H h) (r : Rp mp H a v) : Q v H := p v H mp Ext.refl R r
end
def tD (κ : Kn) (W : WX) (m : Sl → Hd → Out D) : TE := fun σ H Q => ∃ mp h δ, RelH κ mp H h ∧ RepE κ mp H δ σ ∧ PostG κ (Rep κ) W σ mp H (m δ h) Q
def tDs (κ : Kn) (W : WX) (m : Sl → Hd → Out (List D)) : TA := fun σ H Q => ∃ mp h δ, RelH κ mp H h ∧ RepE κ mp H δ σ ∧ PostG κ (Reps κ) W σ mp H (m δ h) Q
def tDt (κ : Kn) (W : WX) (m : Sl → Hd → Out Bool) : TT := fun σ H Q => ∃ mp h δ, RelH κ mp H h ∧ RepE κ mp H δ σ ∧ PostG κ RpB W σ mp H (m δ h) Q
theorem pe_wk {X : Cx} {e : Expr} {t t' : TE} (p : PE X e t) (h : ∀ σ H Q, t' σ H Q → t σ H Q) : PE X e t' := ⟨fun pins s σ H Q I q => p.run pins s σ H Q I (h σ H Q q)⟩
theorem pt_wk {X : Cx} {e : Expr} {t t' : TT} (p : PT X e t) (h : ∀ σ H Q, t' σ H Q → t σ H Q) : PT X e t' := ⟨fun pins s σ H Q I q => p.run pins s σ H Q I (h σ H Q q)⟩
theorem pw_wk {X : Cx} {e : Expr} {t t' : TT} (p : PW X e t) (h : ∀ σ H Q, t' σ H Q → t σ H Q) : PW X e t' := ⟨fun whole pins s σ H Q I q => p.run whole pins s σ H Q I (h σ H Q q)⟩
theorem pa_wk {X : Cx} {es : List Expr} {t t' : TA} (p : PA X es t) (h : ∀ σ H Q, t' σ H Q → t σ H Q) : PA X es t' := ⟨fun pos pins s σ H Q I q => p.run pos pins s σ H Q I (h σ H Q q)⟩
theorem po_wk {X : Cx} {e : Option Expr} {t t' : TO} (p : PO X e t) (h : ∀ σ H Q, t' σ H Q → t σ H Q) : PO X e t' := ⟨fun pins s σ H Q I q => p.run pins s σ H Q I (h σ H Q q)⟩

structure Ch where
  N : List Str
  sc : Scope
  df : Bool
def Gu (A : Around) : Prop := True
structure Gd (k : Nat) (c : Ch) (X : Cx) : Prop where
  n : X.N = c.N
  sc : X.env.scope = c.sc
  nd : X.N.Nodup
  calm : X.calm = true
  room : Room k X.A
  grd : Gu X.A
  po : PassesOwn (model X.prog X.w) X.A X.env X.xe
  fn : c.df = true → ∀ x, X.fn x = true
theorem Gd.hu {k : Nat} {c : Ch} {X : Cx} (G : Gd k c X) : X.A.units + 200 < cLine := by have := G.room.un; omega
def visB (sc : Scope) (x : Str) : Bool := (decide (sc.names.lookup x = some .local) || decide (sc.names.lookup x = some .cell) || decide (sc.names.lookup x = some .free)) && !(x == ("__debug__" : Str)) && !(x == ("__classdict__" : Str))
def gloB (sc : Scope) (x : Str) : Bool := decide (sc.names.lookup x = some .globalImplicit) && !(x == ("__debug__" : Str)) && !(x == ("__name__" : Str))
def locB (c : Ch) (x : Str) : Bool := decide (c.sc.names.lookup x = some .local) || (c.df && decide (c.sc.names.lookup x = some .cell))
theorem visB_ok {sc : Scope} {x : Str} (h : visB sc x = true) : Vis sc x ∧ (x == ("__debug__" : Str)) = false ∧ (x == ("__classdict__" : Str)) = false := by
  unfold visB at h
  simp only [Bool.and_eq_true, Bool.or_eq_true, decide_eq_true_eq, Bool.not_eq_true'] at h
  obtain ⟨⟨h1, h2⟩, h3⟩ := h
  refine ⟨?_, h2, h3⟩
  rcases h1 with (z | z) | z
  · exact .inl z
  · exact .inr (.inl z)
  · exact .inr (.inr z)
theorem gloB_ok {X : Cx} {x : Str} (h : gloB X.env.scope x = true) : Gl X x ∧ (x == ("__debug__" : Str)) = false ∧ x ≠ "__name__" := by
  unfold gloB at h
  simp only [Bool.and_eq_true, decide_eq_true_eq, Bool.not_eq_true'] at h
  obtain ⟨⟨h1, h2⟩, h3⟩ := h
  exact ⟨h1, h2, fun z => by rw [z] at h3; exact absurd h3 (by decide +kernel)⟩
def starB : Expr → Bool
  | .Starred .. => true
  | _ => false
theorem star_cons {e : Expr} {es : List Expr} {env : Env} (h : starB e = false) : starEach (e :: es) env = (false, eval e env) :: starEach es env := by
  cases e <;> first | rfl | cases h
theorem star_plain {env : Env} {pos : Pos} : ∀ {es : List Expr}, es.all (fun e => !starB e) = true → (backTo pos (starEach es env)).any (·.1) = false
  | [], _ => rfl
  | e :: es, h => by
    simp only [List.all_cons, Bool.and_eq_true, Bool.not_eq_true'] at h
    rw [star_cons h.1]
    show (false || (backTo pos (starEach es env)).any (·.1)) = false
    rw [star_plain h.2]
    rfl
def setB : Expr → Bool
  | .Set .. => true
  | _ => false
theorem noset_fold {e : Expr} {env : Env} (h : setB e = false) (x : Value) : foldedSetIterable e env x = pure x := by
  cases e <;> first | rfl | cases h
theorem noset_mark {e : Expr} (op : CmpOp) (h : setB e = false) : behindInMarks op e = false := by
  cases e <;> first | rfl | cases h
def slB : Expr → Bool
  | .Slice .. => true
  | _ => false
theorem nosl_ix {e : Expr} (h : slB e = false) : PlainIx e := fun o i => by
  cases e <;> first | rfl | cases h
def tstB : Expr → Bool
  | .UnaryOp .Not _ _ => false
  | .BoolOp .. => false
  | .IfExp .. => false
  | .Compare .. => false
  | _ => true
theorem tst_ok {e : Expr} {env : Env} (h : tstB e = true) (whole : Sem Value) : isTrue e env whole = (do let v ← whole; standAt e.pos; holding [v] (truthy v)) := by
  cases e <;> first | rfl | cases h | (rename_i op _ _; cases op <;> first | rfl | cases h)
def supB : Expr → Bool
  | .Call (.Name ..) [] [] _ => true
  | _ => false
theorem sup_ok {e : Expr} {m : Str} {env : Env} {whole : Sem Value} (h : supB e = false) : attributeBase e m env whole = whole := by
  unfold attributeBase
  split
  · cases h
  · rfl
def tCallD (κ : Kn) (W : WX) (F : Fn) (t : TA) : TE := fun σ H Q => t σ H fun vs H1 => ∃ mp h ds, RelH κ mp H1 h ∧ Reps κ mp H1 ds vs ∧ PostG κ (Rep κ) W σ mp H1 (F ds h) Q
def CallS (κ : Kn) (k : Nat) (x : Str) (F : Fn) : Prop := ∀ (X : Cx), kn X = κ → Room k X.A → Gu X.A → X.calm = true → Gl X x → (x == ("__debug__" : Str)) = false → x ≠ "__name__" → ∀ (W : WX), Takes X W → ∀ (p pos : Pos) (es : List Expr) (t : TA),
  es.all (fun e => !starB e) = true → (es = [] → ∀ σ H Q, t σ H Q → Q [] H) → PA X es t → PE X (.Call (.Name x p) es [] pos) (tCallD κ W F t)
def tMthD (κ : Kn) (W : WX) (P : Hd → D → Bool) (F : Fn) (to : TE) (t : TA) : TE := fun σ H Q => to σ H fun x H1 => (∃ mp h dx, RelH κ mp H1 h ∧ Rep κ mp H1 dx x ∧ P h dx = true) ∧
  t σ H1 fun vs H2 => ∃ mp h dx ds, RelH κ mp H2 h ∧ Rep κ mp H2 dx x ∧ Reps κ mp H2 ds vs ∧ PostG κ (Rep κ) W σ mp H2 (F (dx :: ds) h) Q
def MthS (κ : Kn) (k : Nat) (m : Str) (P : Hd → D → Bool) (F : Fn) : Prop := ∀ (X : Cx), kn X = κ → Room k X.A → Gu X.A → X.calm = true → ∀ (W : WX), Takes X W → ∀ (o : Expr) (ap pos : Pos) (to : TE) (es : List Expr) (t : TA),
  supB o = false → (ap.endLine == pos.line) = true → es.all (fun e => !starB e) = true → decide (es.length < 20) = true → (es = [] → ∀ σ H Q, t σ H Q → Q [] H) → PE X o to → PA X es t → PE X (.Call (.Attribute o m ap) es [] pos) (tMthD κ W P F to t)
def FldS (κ : Kn) (c f : Str) : Prop := ∃ C, κ.mg c = some (.ref C) ∧ Cls κ.K C ∧ NoAttr κ.K C f

section
variable {X : Cx} {W : WX} {κ : Kn} {a b c e : Expr} {es : List Expr} {ma mb mc : Sl → Hd → Out D} {pos : Pos}
theorem de_var {i : Nat} {x : Str} (hN : X.N[i]? = some x) (hv : visB X.env.scope x = true) : PE X (.Name x pos) (tD κ W fun δ h => match δ[i]? with | some (some d) => .ok d h | _ => .no) := by
  obtain ⟨v1, v2, v3⟩ := visB_ok hv
  refine pe_wk (pe_var hN v1 v2 v3) fun σ H Q ⟨mp, h, δ, R, r, p⟩ => ?_
  dsimp only at p
  split at p
  · rename_i d q
    obtain ⟨v, e1, e2⟩ := r.2 i d q
    exact ⟨v, e1, p.here R e2⟩
  · exact p.elim
theorem de_lit {v : V} {d : D} (h : PE X e (tC v)) (r : ∀ mp H, Rep κ mp H d v) : PE X e (tD κ W fun _ h => .ok d h) :=
  pe_wk h fun σ H Q ⟨mp, h, δ, R, _, p⟩ => p.here R (r mp H)
theorem de_bin {o : Bop} (hκ : kn X = κ) (ha : PE X a (tD κ W ma)) (hb : PE X b (tD κ W mb)) : PE X (.BinOp a (opOf o) b pos) (tD κ W fun δ h => (ma δ h).bind fun x h => (mb δ h).bind fun y h => optD (binD o x y h) h) := by
  subst hκ
  refine pe_wk (pe_op (op_binD X o) ha hb) fun σ H Q ⟨mp, h, δ, R, r, p⟩ => ⟨mp, h, δ, R, r, p.bind fun dx h1 x H1 mp1 _ e1 R1 rx p1 => ⟨mp1, h1, δ, R1, r.ext R e1, p1.bind fun dy h2 y H2 mp2 _ e2 R2 ry p2 => ?_⟩⟩
  obtain ⟨d, e, q⟩ := p2.put
  exact ⟨mp2, h2, dx, dy, d, R2, rx.ext R1 e2, ry, e, q⟩
theorem de_neg (ha : PE X a (tD κ W ma)) : PE X (.UnaryOp .USub a pos) (tD κ W fun δ h => (ma δ h).bind fun x h => optD (match x with | .int i => some (.int (-i)) | _ => none) h) := by
  refine pe_wk (pe_un un_neg ha) fun σ H Q ⟨mp, h, δ, R, r, p⟩ => ⟨mp, h, δ, R, r, p.bind fun dx h1 x H1 mp1 _ e1 R1 rx p1 => ?_⟩
  obtain ⟨d, e, q⟩ := p1.put
  cases dx with
  | int i => cases e; rw [repInt] at rx; exact ⟨i, rx, q.here R1 (repInt.mpr rfl)⟩
  | _ => cases e
theorem Put.bl {mp : Mp} {H : Hp} {h : Hd} {k : Bool} {Q : VK} (p : Put κ mp H h (.bl k) Q) (R : RelH κ mp H h) : Q (.bl k) H := p.here R (repBl.mpr rfl)
theorem de_cmp {o : Cop} (hκ : kn X = κ) (hu : X.A.units + 200 < cLine) (hs : setB b = false) (ha : PE X a (tD κ W ma)) (hb : PE X b (tD κ W mb)) :
    PE X (.Compare a [cpOf o] [b] pos) (tD κ W fun δ h => (ma δ h).bind fun x h => (mb δ h).bind fun y h => optD ((cmpD o x y h).map .bl) h) := by
  subst hκ
  refine pe_wk (pe_cmpR (op_cmpD X hu o) ha hb (noset_mark _ hs)) fun σ H Q ⟨mp, h, δ, R, r, p⟩ => ⟨mp, h, δ, R, r, p.bind fun dx h1 x H1 mp1 _ e1 R1 rx p1 => ⟨mp1, h1, δ, R1, r.ext R e1, p1.bind fun dy h2 y H2 mp2 _ e2 R2 ry p2 => ?_⟩⟩
  obtain ⟨d, e, q⟩ := p2.put
  cases hc : cmpD o dx dy h2 with
  | none => rw [hc] at e; cases e
  | some k => rw [hc] at e; cases e; exact ⟨mp2, h2, dx, dy, k, R2, rx.ext R1 e2, ry, hc, q.bl R2⟩
theorem dt_cmp {o : Cop} (hκ : kn X = κ) (hu : X.A.units + 200 < cLine) (hs : setB b = false) (ha : PE X a (tD κ W ma)) (hb : PE X b (tD κ W mb)) :
    PT X (.Compare a [cpOf o] [b] pos) (tDt κ W fun δ h => (ma δ h).bind fun x h => (mb δ h).bind fun y h => optD (cmpD o x y h) h) := by
  subst hκ
  refine pt_wk (pt_cmpR (op_cmpD X hu o) ha hb (noset_mark _ hs)) fun σ H Q ⟨mp, h, δ, R, r, p⟩ => ⟨mp, h, δ, R, r, p.bind fun dx h1 x H1 mp1 _ e1 R1 rx p1 => ⟨mp1, h1, δ, R1, r.ext R e1, p1.bind fun dy h2 y H2 mp2 _ e2 R2 ry p2 => ?_⟩⟩
  cases hc : cmpD o dx dy h2 with
  | none => rw [hc] at p2; exact p2.elim
  | some k => rw [hc] at p2; exact ⟨mp2, h2, dx, dy, k, R2, rx.ext R1 e2, ry, hc, k, rfl, p2.here R2 rfl⟩
end

section
variable {X : Cx} {W : WX} {κ : Kn} {a b c e : Expr} {es : List Expr} {ma mb mc : Sl → Hd → Out D} {ms : Sl → Hd → Out (List D)} {mt mu : Sl → Hd → Out Bool} {pos : Pos}
theorem noset_last {op op' : CmpOp} (h : setB c = false) : lastMarks [op, op'] [b, c] = false := by
  cases c <;> first | (with_unfolding_all rfl) | cases h
theorem de_chain {o o' : Cop} (hκ : kn X = κ) (hu : X.A.units + 200 < cLine) (hs : setB c = false) (ha : PE X a (tD κ W ma)) (hb : PE X b (tD κ W mb)) (hc : PE X c (tD κ W mc)) :
    PE X (.Compare a [cpOf o, cpOf o'] [b, c] pos) (tD κ W fun δ h => (ma δ h).bind fun x h => (mb δ h).bind fun y h => match cmpD o x y h with
      | some true => (mc δ h).bind fun z h => optD ((cmpD o' y z h).map .bl) h
      | some false => .ok (.bl false) h
      | none => .no) := by
  subst hκ
  refine pe_wk (pe_chain (op_cmpD X hu o) (op_cmpD X hu o') ha hb hc (noset_last hs)) fun σ H Q ⟨mp, h, δ, R, r, p⟩ => ⟨mp, h, δ, R, r, p.bind fun dx h1 x H1 mp1 _ e1 R1 rx p1 => ⟨mp1, h1, δ, R1, r.ext R e1, p1.bind fun dy h2 y H2 mp2 _ e2 R2 ry p2 => ?_⟩⟩
  cases hc : cmpD o dx dy h2 with
  | none => rw [hc] at p2; exact p2.elim
  | some k =>
    rw [hc] at p2
    refine ⟨mp2, h2, dx, dy, k, R2, rx.ext R1 e2, ry, hc, k, rfl, ?_⟩
    cases k with
    | false => rw [if_neg Bool.false_ne_true]; exact p2.here R2 (repBl.mpr rfl)
    | true =>
      rw [if_pos rfl]
      refine ⟨mp2, h2, δ, R2, (r.ext R e1).ext R1 e2, PostG.bind p2 fun dz h3 z H3 mp3 _ e3 R3 rz p3 => ?_⟩
      obtain ⟨d, e, q⟩ := p3.put
      cases hc2 : cmpD o' dy dz h3 with
      | none => rw [hc2] at e; cases e
      | some k => rw [hc2] at e; cases e; exact ⟨mp3, h3, dy, dz, k, R3, ry.ext R2 e3, rz, hc2, q.bl R3⟩
theorem dt_chain {o o' : Cop} (hκ : kn X = κ) (hu : X.A.units + 200 < cLine) (hs : setB c = false) (ha : PE X a (tD κ W ma)) (hb : PE X b (tD κ W mb)) (hc : PE X c (tD κ W mc)) :
    PT X (.Compare a [cpOf o, cpOf o'] [b, c] pos) (tDt κ W fun δ h => (ma δ h).bind fun x h => (mb δ h).bind fun y h => match cmpD o x y h with
      | some true => (mc δ h).bind fun z h => optD (cmpD o' y z h) h
      | some false => .ok false h
      | none => .no) := by
  subst hκ
  refine pt_wk (pt_chain (op_cmpD X hu o) (op_cmpD X hu o') ha hb hc (noset_last hs)) fun σ H Q ⟨mp, h, δ, R, r, p⟩ => ⟨mp, h, δ, R, r, p.bind fun dx h1 x H1 mp1 _ e1 R1 rx p1 => ⟨mp1, h1, δ, R1, r.ext R e1, p1.bind fun dy h2 y H2 mp2 _ e2 R2 ry p2 => ?_⟩⟩
  cases hc : cmpD o dx dy h2 with
  | none => rw [hc] at p2; exact p2.elim
  | some k =>
    rw [hc] at p2
    refine ⟨mp2, h2, dx, dy, k, R2, rx.ext R1 e2, ry, hc, k, rfl, ?_⟩
    cases k with
    | false => rw [if_neg Bool.false_ne_true]; exact ⟨false, rfl, p2.here R2 rfl⟩
    | true =>
      rw [if_pos rfl]
      refine ⟨mp2, h2, δ, R2, (r.ext R e1).ext R1 e2, PostG.bind p2 fun dz h3 z H3 mp3 _ e3 R3 rz p3 => ?_⟩
      cases hc2 : cmpD o' dy dz h3 with
      | none => rw [hc2] at p3; exact p3.elim
      | some k => rw [hc2] at p3; exact ⟨mp3, h3, dy, dz, k, R3, ry.ext R2 e3, rz, hc2, k, rfl, p3.here R3 rfl⟩
theorem dt_val (hκ : kn X = κ) (hs : tstB a = true) (ha : PE X a (tD κ W ma)) : PT X a (tDt κ W fun δ h => (ma δ h).bind fun x h => optD (truD h x) h) := by
  subst hκ
  refine pt_wk (pt_truth ha (tst_ok hs)) fun σ H Q ⟨mp, h, δ, R, r, p⟩ => ⟨mp, h, δ, R, r, p.bind fun dx h1 x H1 mp1 _ e1 R1 rx p1 => ?_⟩
  cases hc : truD h1 dx with
  | none => rw [hc] at p1; exact p1.elim
  | some k => rw [hc] at p1; exact ⟨k, tru_D X ⟨mp1, h1, dx, R1, rx, hc⟩, p1.here R1 rfl⟩
theorem dt_not (ha : PT X a (tDt κ W mt)) : PT X (.UnaryOp .Not a pos) (tDt κ W fun δ h => (mt δ h).bind fun k h => .ok (!k) h) := by
  refine pt_wk (pt_not ha) fun σ H Q ⟨mp, h, δ, R, r, p⟩ => ⟨mp, h, δ, R, r, p.bind fun k h1 x H1 mp1 _ e1 R1 rx p1 => ?_⟩
  have rx : k = x := rx
  subst rx
  exact p1.here R1 rfl
theorem dw_and1 (ha : PT X a (tDt κ W mt)) : PW X (.BoolOp .And [a] pos) (tDt κ W mt) := pw_and1 ha
theorem dw_or1 (ha : PT X a (tDt κ W mt)) : PW X (.BoolOp .Or [a] pos) (tDt κ W mt) := pw_or1 ha
theorem dw_and (ha : PT X a (tDt κ W mt)) (hb : PW X (.BoolOp .And (b :: es) pos) (tDt κ W mu)) : PW X (.BoolOp .And (a :: b :: es) pos) (tDt κ W fun δ h => (mt δ h).bind fun k h => if k then mu δ h else .ok false h) := by
  refine pw_wk (pw_and ha hb) fun σ H Q ⟨mp, h, δ, R, r, p⟩ => ⟨mp, h, δ, R, r, p.bind fun k h1 x H1 mp1 _ e1 R1 rx p1 => ?_⟩
  have rx : k = x := rx
  subst rx
  cases k with
  | true => rw [if_pos rfl]; exact ⟨mp1, h1, δ, R1, r.ext R e1, p1⟩
  | false => rw [if_neg Bool.false_ne_true]; exact PostG.here p1 R1 rfl
theorem dw_or (ha : PT X a (tDt κ W mt)) (hb : PW X (.BoolOp .Or (b :: es) pos) (tDt κ W mu)) : PW X (.BoolOp .Or (a :: b :: es) pos) (tDt κ W fun δ h => (mt δ h).bind fun k h => if k then .ok true h else mu δ h) := by
  refine pw_wk (pw_or ha hb) fun σ H Q ⟨mp, h, δ, R, r, p⟩ => ⟨mp, h, δ, R, r, p.bind fun k h1 x H1 mp1 _ e1 R1 rx p1 => ?_⟩
  have rx : k = x := rx
  subst rx
  cases k with
  | true => rw [if_pos rfl]; exact PostG.here p1 R1 rfl
  | false => rw [if_neg Bool.false_ne_true]; exact ⟨mp1, h1, δ, R1, r.ext R e1, p1⟩
theorem de_and1 (ha : PE X a (tD κ W ma)) : PE X (.BoolOp .And [a] pos) (tD κ W ma) := pe_one ha
theorem de_or1 (ha : PE X a (tD κ W ma)) : PE X (.BoolOp .Or [a] pos) (tD κ W ma) := pe_one ha
theorem de_and (ha : PE X a (tD κ W ma)) (hb : PE X (.BoolOp .And (b :: es) pos) (tD κ W mb)) : PE X (.BoolOp .And (a :: b :: es) pos) (tD κ W fun δ h => (ma δ h).bind fun x h => match x with
    | .bl true => mb δ h
    | .bl false => .ok (.bl false) h
    | _ => .no) := by
  refine pe_wk (pe_and ha hb) fun σ H Q ⟨mp, h, δ, R, r, p⟩ => ⟨mp, h, δ, R, r, p.bind fun dx h1 x H1 mp1 _ e1 R1 rx p1 => ?_⟩
  cases dx with
  | bl k =>
    rw [repBl] at rx
    subst rx
    refine ⟨k, rfl, ?_⟩
    cases k with
    | true => rw [if_pos rfl]; exact ⟨mp1, h1, δ, R1, r.ext R e1, p1⟩
    | false => rw [if_neg Bool.false_ne_true]; exact PostG.here p1 R1 (repBl.mpr rfl)
  | _ => exact p1.elim
theorem de_or (ha : PE X a (tD κ W ma)) (hb : PE X (.BoolOp .Or (b :: es) pos) (tD κ W mb)) : PE X (.BoolOp .Or (a :: b :: es) pos) (tD κ W fun δ h => (ma δ h).bind fun x h => match x with
    | .bl false => mb δ h
    | .bl true => .ok (.bl true) h
    | _ => .no) := by
  refine pe_wk (pe_or ha hb) fun σ H Q ⟨mp, h, δ, R, r, p⟩ => ⟨mp, h, δ, R, r, p.bind fun dx h1 x H1 mp1 _ e1 R1 rx p1 => ?_⟩
  cases dx with
  | bl k =>
    rw [repBl] at rx
    subst rx
    refine ⟨k, rfl, ?_⟩
    cases k with
    | true => rw [if_pos rfl]; exact PostG.here p1 R1 (repBl.mpr rfl)
    | false => rw [if_neg Bool.false_ne_true]; exact ⟨mp1, h1, δ, R1, r.ext R e1, p1⟩
  | _ => exact p1.elim
theorem de_not (ha : PE X a (tD κ W ma)) : PE X (.UnaryOp .Not a pos) (tD κ W fun δ h => (ma δ h).bind fun x h => match x with
    | .bl k => .ok (.bl (!k)) h
    | _ => .no) := by
  refine pe_wk (pe_not ha) fun σ H Q ⟨mp, h, δ, R, r, p⟩ => ⟨mp, h, δ, R, r, p.bind fun dx h1 x H1 mp1 _ e1 R1 rx p1 => ?_⟩
  cases dx with
  | bl k =>
    rw [repBl] at rx
    subst rx
    exact ⟨k, rfl, PostG.here p1 R1 (repBl.mpr rfl)⟩
  | _ => exact p1.elim
theorem de_ife (hc : PT X c (tDt κ W mt)) (ha : PE X a (tD κ W ma)) (hb : PE X b (tD κ W mb)) : PE X (.IfExp c a b pos) (tD κ W fun δ h => (mt δ h).bind fun k h => if k then ma δ h else mb δ h) := by
  refine pe_wk (pe_ifExp hc ha hb) fun σ H Q ⟨mp, h, δ, R, r, p⟩ => ⟨mp, h, δ, R, r, p.bind fun k h1 x H1 mp1 _ e1 R1 rx p1 => ?_⟩
  have rx : k = x := rx
  subst rx
  cases k with
  | true => rw [if_pos rfl]; exact ⟨mp1, h1, δ, R1, r.ext R e1, p1⟩
  | false => rw [if_neg Bool.false_ne_true]; exact ⟨mp1, h1, δ, R1, r.ext R e1, p1⟩
theorem da_nil : PA X [] (tDs κ W fun _ h => .ok [] h) := pa_wk pa_nil fun σ H Q ⟨mp, h, δ, R, r, p⟩ => p.here R Reps.nil
theorem da_cons (hs : starB e = false) (ha : PE X e (tD κ W ma)) (hr : PA X es (tDs κ W ms)) : PA X (e :: es) (tDs κ W fun δ h => (ma δ h).bind fun d h => (ms δ h).bind fun ds h => .ok (d :: ds) h) := by
  refine pa_wk (pa_cons ha hr (star_cons hs)) fun σ H Q ⟨mp, h, δ, R, r, p⟩ => ⟨mp, h, δ, R, r, p.bind fun dx h1 x H1 mp1 _ e1 R1 rx p1 => ⟨mp1, h1, δ, R1, r.ext R e1, PostG.bind p1 fun ds h2 vs H2 mp2 _ e2 R2 rs p2 => p2.here R2 (Reps.cons (rx.ext R1 e2) rs)⟩⟩
theorem de_tup {x1} (hκ : kn X = κ) (hl : decide (es.length < 1000) = true) (he : PA X es (tDs κ W ms)) : PE X (.Tuple es x1 pos) (tD κ W fun δ h => (ms δ h).bind fun ds h => if ds.length ≤ line then .ok (.tup ds) h else .no) := by
  subst hκ
  refine pe_wk (pe_tup he) fun σ H Q ⟨mp, h, δ, R, r, p⟩ => ⟨mp, h, δ, R, r, p.bind fun ds h1 vs H1 mp1 _ e1 R1 rs p1 => ?_⟩
  by_cases hz : ds.length ≤ line
  · rw [if_pos hz] at p1
    refine ⟨by rw [← line_eq, ← rs.len]; exact hz, fun t nt => ?_⟩
    obtain ⟨e2, R2⟩ := R1.fresh (.tup vs) nt
    refine p1 _ _ _ e2 R2 ?_
    simp only [Rep]
    exact ⟨t, vs, rfl, SqT.of upd_same, rs.ext R1 e2⟩
  · rw [if_neg hz] at p1; exact p1.elim
theorem de_lst (hκ : kn X = κ) (he : PA X es (tDs κ W ms)) : PE X (.List es pos) (tD κ W fun δ h => (ms δ h).bind fun ds h => if ds.length ≤ line then .ok (.lst ds) h else .no) := by
  subst hκ
  refine pe_wk (pe_lst he) fun σ H Q ⟨mp, h, δ, R, r, p⟩ => ⟨mp, h, δ, R, r, p.bind fun ds h1 vs H1 mp1 _ e1 R1 rs p1 => ?_⟩
  by_cases hz : ds.length ≤ line
  · rw [if_pos hz] at p1
    refine ⟨by rw [← line_eq, ← rs.len]; exact hz, fun t nt => ?_⟩
    obtain ⟨e2, R2⟩ := R1.fresh (.lst vs) nt
    refine p1 _ _ _ e2 R2 ?_
    simp only [Rep]
    exact ⟨t, vs, rfl, ⟨upd_same, R1.new nt⟩, rs.ext R1 e2⟩
  · rw [if_neg hz] at p1; exact p1.elim
theorem de_lstM (hκ : kn X = κ) (he : PA X es (tDs κ W ms)) : PE X (.List es pos) (tD κ W fun δ h => (ms δ h).bind fun ds h => if ds.length ≤ line then .ok (.ref h.length) (h ++ [.lst ds]) else .no) := by
  subst hκ
  refine pe_wk (pe_lst he) fun σ H Q ⟨mp, h, δ, R, r, p⟩ => ⟨mp, h, δ, R, r, p.bind fun ds h1 vs H1 mp1 _ e1 R1 rs p1 => ?_⟩
  by_cases hz : ds.length ≤ line
  · rw [if_pos hz] at p1
    refine ⟨by rw [← line_eq, ← rs.len]; exact hz, fun t nt => ?_⟩
    have e0 := R1.allocE (u := .lst vs) nt
    have R2 := R1.alloc (u := .lst vs) (o := .lst ds) nt ⟨vs, upd_same, rs.ext R1 e0⟩
    refine p1 _ _ _ e0 R2 ?_
    simp only [Rep]
    exact ⟨t, by rw [← R1.len]; show (mp1.ids ++ [t])[mp1.ids.length]? = some t; rw [List.getElem?_append_right (Nat.le_refl _)]; simp, rfl⟩
  · rw [if_neg hz] at p1; exact p1.elim
theorem de_idx (hκ : kn X = κ) (hu : X.A.units + 200 < cLine) (hs : slB b = false) (ha : PE X a (tD κ W ma)) (hb : PE X b (tD κ W mb)) : PE X (.Subscript a b pos) (tD κ W fun δ h => (ma δ h).bind fun x h => (mb δ h).bind fun y h => optD (idxD x y h) h) := by
  subst hκ
  refine pe_wk (pe_ix (ix_D X hu) ha hb (nosl_ix hs)) fun σ H Q ⟨mp, h, δ, R, r, p⟩ => ⟨mp, h, δ, R, r, p.bind fun dx h1 x H1 mp1 _ e1 R1 rx p1 => ⟨mp1, h1, δ, R1, r.ext R e1, p1.bind fun dy h2 y H2 mp2 _ e2 R2 ry p2 => ?_⟩⟩
  obtain ⟨d, e, q⟩ := p2.put
  exact ⟨mp2, h2, dx, dy, d, R2, rx.ext R1 e2, ry, e, q⟩
theorem de_call {x : Str} {F : Fn} {p : Pos} {k : Nat} (hκ : kn X = κ) (hr : Room k X.A) (hg : Gu X.A) (hc : X.calm = true) (tk : Takes X W) (C : CallS κ k x F) (gl : gloB X.env.scope x = true) (hs : es.all (fun e => !starB e) = true) (h0 : es = [] → ∀ σ H Q, tDs κ W ms σ H Q → Q [] H) (he : PA X es (tDs κ W ms)) :
    PE X (.Call (.Name x p) es [] pos) (tD κ W fun δ h => (ms δ h).bind F) := by
  obtain ⟨g1, g2, g3⟩ := gloB_ok gl
  refine pe_wk (C X hκ hr hg hc g1 g2 g3 W tk p pos es _ hs h0 he) fun σ H Q ⟨mp, h, δ, R, r, p⟩ => ⟨mp, h, δ, R, r, p.bind fun ds h1 vs H1 mp1 _ e1 R1 rs p1 => ⟨mp1, h1, ds, R1, rs, p1⟩⟩
end

section
variable {X : Cx} {W : WX} {κ : Kn} {a b c e : Expr} {es : List Expr} {ma mb mc : Sl → Hd → Out D} {ms : Sl → Hd → Out (List D)} {pos p2 : Pos}
theorem de_mth {m : Str} {P : Hd → D → Bool} {F : Fn} {ap : Pos} {k : Nat} (hκ : kn X = κ) (hr : Room k X.A) (hg : Gu X.A) (hc : X.calm = true) (tk : Takes X W) (M : MthS κ k m P F) (h1 : supB a = false) (h2 : (ap.endLine == pos.line) = true)
    (hs : es.all (fun e => !starB e) = true) (hl : decide (es.length < 20) = true) (h0 : es = [] → ∀ σ H Q, tDs κ W ms σ H Q → Q [] H) (ha : PE X a (tD κ W ma)) (he : PA X es (tDs κ W ms)) :
    PE X (.Call (.Attribute a m ap) es [] pos) (tD κ W fun δ h => (ma δ h).bind fun x h => if P h x then (ms δ h).bind fun ds h => F (x :: ds) h else .no) := by
  refine pe_wk (M X hκ hr hg hc W tk a ap pos _ es _ h1 h2 hs hl h0 ha he) fun σ H Q ⟨mp, h, δ, R, r, p⟩ => ⟨mp, h, δ, R, r, p.bind fun dx h1 x H1 mp1 _ e1 R1 rx p1 => ?_⟩
  cases hP : P h1 dx with
  | false => rw [hP, if_neg Bool.false_ne_true] at p1; exact p1.elim
  | true =>
    rw [hP, if_pos rfl] at p1
    exact ⟨⟨mp1, h1, dx, R1, rx, hP⟩, mp1, h1, δ, R1, r.ext R e1, PostG.bind p1 fun ds h2 vs H2 mp2 _ e2 R2 rs p2 => ⟨mp2, h2, dx, ds, R2, rx.ext R1 e2, rs, p2⟩⟩
theorem repF_look {mp : Mp} {H : Hp} {f : Str} {d : D} : ∀ {fs : List (Str × D)} {vs : List (Str × V)}, RepF κ mp H fs vs → fs.lookup f = some d → ∃ v, vs.lookup f = some v ∧ Rep κ mp H d v
  | [], _, _, e => by cases e
  | (g, x) :: fs, vs, r, e => by
    obtain ⟨v, vr, rfl, r1, r2⟩ := r
    rw [List.lookup_cons] at e ⊢
    cases hg : f == g with
    | true => rw [hg] at e; cases e; exact ⟨v, rfl, r1⟩
    | false => rw [hg] at e; exact repF_look r2 e
theorem repF_none {mp : Mp} {H : Hp} {f : Str} : ∀ {fs : List (Str × D)} {vs : List (Str × V)}, RepF κ mp H fs vs → fs.lookup f = none → vs.lookup f = none
  | [], _, r, e => by rw [show _ = _ from r]; rfl
  | (g, x) :: fs, vs, r, e => by
    obtain ⟨v, vr, rfl, r1, r2⟩ := r
    rw [List.lookup_cons] at e ⊢
    cases hg : f == g with
    | true => rw [hg] at e; cases e
    | false => rw [hg] at e; exact repF_none r2 e
theorem de_fld {cn f : Str} (hκ : kn X = κ) (S : FldS κ cn f) (h1 : supB a = false) (ha : PE X a (tD κ W ma)) : PE X (.Attribute a f pos) (tD κ W fun δ h => (ma δ h).bind fun x h => optD (fldD x cn f h) h) := by
  subst hκ
  obtain ⟨C, hC, cl, na⟩ := S
  refine pe_wk (pe_fld ha (sup_ok h1)) fun σ H Q ⟨mp, h, δ, R, r, p⟩ => ⟨mp, h, δ, R, r, p.bind fun dx h1 x H1 mp1 _ e1 R1 rx p1 => ?_⟩
  obtain ⟨d, e, q⟩ := p1.put
  cases dx with
  | ref i =>
    simp only [Rep] at rx
    obtain ⟨ad, ha, rfl⟩ := rx
    have e : (match h1[i]? with | some (.ins c' fs) => if c' = cn then fs.lookup f else none | _ => none) = some d := e
    cases hq : h1[i]? with
    | none => rw [hq] at e; cases e
    | some o =>
      rw [hq] at e
      cases o with
      | ins c' fs =>
        have e : (if c' = cn then fs.lookup f else none) = some d := e
        by_cases hc : c' = cn
        · rw [if_pos hc] at e
          obtain ⟨C', dx, vs, hC', hi, rf⟩ := R1.ob i ad _ ha hq
          rw [hc, hC] at hC'
          cases hC'
          obtain ⟨v, ev, rv⟩ := repF_look rf e
          exact ⟨ad, C, dx, vs, v, rfl, hi, cl, na, ev, q.here R1 rv⟩
        · rw [if_neg hc] at e; cases e
      | lst _ => cases e
      | dct _ _ => cases e
  | _ => cases e
theorem slc_no (hκ : kn X = κ) (ha : PE X a (tD κ W ma)) : PE X (.Subscript a (.Slice none none none p2) pos) (tD κ W fun δ h => (ma δ h).bind fun x h => optD (slcD x none none h) h) := by
  subst hκ
  refine pe_wk (pe_slice (sl_D X) ha po_none po_none) fun σ H Q ⟨mp, h, δ, R, r, p⟩ => ⟨mp, h, δ, R, r, p.bind fun dx h1 x H1 mp1 _ e1 R1 rx p1 => ?_⟩
  obtain ⟨d, e, q⟩ := p1.put
  exact ⟨mp1, h1, dx, d, R1, rx, e, q⟩
theorem slc_lo (hκ : kn X = κ) (ha : PE X a (tD κ W ma)) (hb : PE X b (tD κ W mb)) : PE X (.Subscript a (.Slice (some b) none none p2) pos) (tD κ W fun δ h => (ma δ h).bind fun x h => (mb δ h).bind fun y h => match y with | .int i => optD (slcD x (some i) none h) h | _ => .no) := by
  subst hκ
  refine pe_wk (pe_slice (sl_D X) ha (po_some hb) po_none) fun σ H Q ⟨mp, h, δ, R, r, p⟩ => ⟨mp, h, δ, R, r, p.bind fun dx h1 x H1 mp1 _ e1 R1 rx p1 => ⟨mp1, h1, δ, R1, r.ext R e1, PostG.bind p1 fun dy h2 y H2 mp2 _ e2 R2 ry p2 => ?_⟩⟩
  cases dy with
  | int i =>
    obtain ⟨d, e, q⟩ := PostG.put p2
    rw [repInt] at ry
    exact ⟨i, ry, mp2, h2, dx, d, R2, rx.ext R1 e2, e, q⟩
  | _ => exact p2.elim
theorem slc_hi (hκ : kn X = κ) (ha : PE X a (tD κ W ma)) (hb : PE X b (tD κ W mb)) : PE X (.Subscript a (.Slice none (some b) none p2) pos) (tD κ W fun δ h => (ma δ h).bind fun x h => (mb δ h).bind fun y h => match y with | .int i => optD (slcD x none (some i) h) h | _ => .no) := by
  subst hκ
  refine pe_wk (pe_slice (sl_D X) ha po_none (po_some hb)) fun σ H Q ⟨mp, h, δ, R, r, p⟩ => ⟨mp, h, δ, R, r, p.bind fun dx h1 x H1 mp1 _ e1 R1 rx p1 => ⟨mp1, h1, δ, R1, r.ext R e1, PostG.bind p1 fun dy h2 y H2 mp2 _ e2 R2 ry p2 => ?_⟩⟩
  cases dy with
  | int i =>
    obtain ⟨d, e, q⟩ := PostG.put p2
    rw [repInt] at ry
    exact ⟨i, ry, mp2, h2, dx, d, R2, rx.ext R1 e2, e, q⟩
  | _ => exact p2.elim
theorem slc_both (hκ : kn X = κ) (ha : PE X a (tD κ W ma)) (hb : PE X b (tD κ W mb)) (hc : PE X c (tD κ W mc)) : PE X (.Subscript a (.Slice (some b) (some c) none p2) pos)
    (tD κ W fun δ h => (ma δ h).bind fun x h => (mb δ h).bind fun y h => match y with | .int i => (mc δ h).bind fun z h => (match z with | .int j => optD (slcD x (some i) (some j) h) h | _ => .no) | _ => .no) := by
  subst hκ
  refine pe_wk (pe_slice (sl_D X) ha (po_some hb) (po_some hc)) fun σ H Q ⟨mp, h, δ, R, r, p⟩ => ⟨mp, h, δ, R, r, p.bind fun dx h1 x H1 mp1 _ e1 R1 rx p1 => ⟨mp1, h1, δ, R1, r.ext R e1, PostG.bind p1 fun dy h2 y H2 mp2 _ e2 R2 ry p2 => ?_⟩⟩
  cases dy with
  | int i =>
    rw [repInt] at ry
    refine ⟨i, ry, mp2, h2, δ, R2, (r.ext R e1).ext R1 e2, PostG.bind p2 fun dz h3 z H3 mp3 _ e3 R3 rz p3 => ?_⟩
    cases dz with
    | int j =>
      obtain ⟨d, e, q⟩ := PostG.put p3
      rw [repInt] at rz
      exact ⟨j, rz, mp3, h3, dx, d, R3, (rx.ext R1 e2).ext R2 e3, e, q⟩
    | _ => exact p3.elim
  | _ => exact p2.elim
end

structure WalkD (κ : Kn) (ss : List D) (ik : IK) (h : Hd) (xs : List D) (mp : Mp) (H : Hp) (J : It) : Prop where
  goes : ∀ (i : Nat) mp' H' h', i < xs.length → ExtB mp H mp' H' → RelH κ mp' H' h' → sameSrc ik ss h h' → J.go i H'
  stops : ∀ mp' H' h', ExtB mp H mp' H' → RelH κ mp' H' h' → sameSrc ik ss h h' → J.stop xs.length H'
  yields : ∀ (i : Nat) mp' H' h' x H'', i < xs.length → ExtB mp H mp' H' → RelH κ mp' H' h' → sameSrc ik ss h h' → J.yld i H' x H'' → Ext mp' H' mp' H'' ∧ RelH κ mp' H'' h' ∧ ∃ d, xs[i]? = some d ∧ Rep κ mp' H'' d x
def PostI (κ : Kn) (W : WX) (σ : L2.St) (mp : Mp) (H : Hp) (ik : IK) (o : Out (List D)) (R : It → Hp → Prop) : Prop := match o with
  | .no => False
  | .ok ss h => ∃ xs, srcD ik ss h = some xs ∧ ∀ mp' H' J, Ext mp H mp' H' → RelH κ mp' H' h → WalkD κ ss ik h xs mp' H' J → R J H'
  | .ex e h => ∀ c dd H' mp', Ext mp H mp' H' → RelH κ mp' H' h → RepX κ mp' H' e c dd → W c dd σ H'
def tIt (κ : Kn) (W : WX) (ik : IK) (ms : Sl → Hd → Out (List D)) : TI := fun σ H R => ∃ mp h δ, RelH κ mp H h ∧ RepE κ mp H δ σ ∧ PostI κ W σ mp H ik (ms δ h) R
section
variable {X : Cx} {W : WX} {κ : Kn} {a b tg : Expr} {es : List Expr} {ma mb : Sl → Hd → Out D} {ms : Sl → Hd → Out (List D)} {pos : Pos} {mp : Mp} {H : Hp} {h : Hd}
theorem pi_wk {e : Expr} {t t' : TI} (p : PI X tg e t) (h : ∀ σ H Q, t' σ H Q → t σ H Q) : PI X tg e t' := ⟨fun pins s σ H Q I q => p.run pins s σ H Q I (h σ H Q q)⟩
theorem walkD_list {xs : List D} {d : D} {ad : Addr} (ik : IK) (hik : ik = .seq) (e : itemsD h d = some xs) (hl : ∀ mp' H' h', ExtB mp H mp' H' → RelH κ mp' H' h' → itemsD h' d = some xs → ∃ vs, SqL κ.K H' ad vs ∧ Reps κ mp' H' xs vs) :
    WalkD κ [d] ik h xs mp H (Itl κ.K ad) := by
  subst hik
  have at_ : ∀ {mp' H' h'}, ExtB mp H mp' H' → RelH κ mp' H' h' → sameSrc .seq [d] h h' → ∃ vs, SqL κ.K H' ad vs ∧ Reps κ mp' H' xs vs := fun {mp' H' h'} e1 R1 s => hl mp' H' h' e1 R1 ((s d (List.mem_singleton.mpr rfl)).trans e)
  refine ⟨fun i mp' H' h' hi e1 R1 s => ?_, fun mp' H' h' e1 R1 s => ?_, fun i mp' H' h' x H'' hi e1 R1 s y => ?_⟩
  · obtain ⟨vs, sq, rs⟩ := at_ e1 R1 s
    have hv : i < vs.length := by rw [← rs.len]; exact hi
    exact ⟨vs, vs[i], sq, by simp [hv]⟩
  · obtain ⟨vs, sq, rs⟩ := at_ e1 R1 s
    exact ⟨vs, sq, Nat.le_of_eq rs.len.symm⟩
  · obtain ⟨vs, sq, rs⟩ := at_ e1 R1 s
    obtain ⟨rfl, y2⟩ := y
    obtain ⟨d', e2, r⟩ := rs.get' (y2 vs sq)
    exact ⟨Ext.refl, R1, d', e2, r⟩
theorem walkD_tup {xs : List D} {ad : Addr} (hl : ∀ mp' H' h', ExtB mp H mp' H' → RelH κ mp' H' h' → ∃ vs, SqT κ.K H' ad vs ∧ Reps κ mp' H' xs vs) : WalkD κ [.tup xs] .seq h xs mp H (Itt κ.K ad) := by
  refine ⟨fun i mp' H' h' hi e1 R1 s => ?_, fun mp' H' h' e1 R1 s => ?_, fun i mp' H' h' x H'' hi e1 R1 s y => ?_⟩
  · obtain ⟨vs, sq, rs⟩ := hl mp' H' h' e1 R1
    have hv : i < vs.length := by rw [← rs.len]; exact hi
    exact ⟨vs, vs[i], sq, by simp [hv]⟩
  · obtain ⟨vs, sq, rs⟩ := hl mp' H' h' e1 R1
    exact ⟨vs, sq, Nat.le_of_eq rs.len.symm⟩
  · obtain ⟨vs, sq, rs⟩ := hl mp' H' h' e1 R1
    obtain ⟨rfl, y2⟩ := y
    obtain ⟨d', e2, r⟩ := rs.get' (y2 vs sq)
    exact ⟨Ext.refl, R1, d', e2, r⟩
theorem di_seq (hκ : kn X = κ) (ha : PE X a (tD κ W ma)) : PI X tg a (tIt κ W .seq fun δ h => (ma δ h).bind fun d h => .ok [d] h) := by
  subst hκ
  refine ⟨fun pins s σ H Rr I ⟨mp, h, δ, R, r, p⟩ => ?_⟩
  -- what comes is told ahead of the run
  dsimp only at p
  cases o : ma δ h with
  | no => rw [o] at p; exact p.elim
  | ex e h1 =>
    rw [o] at p
    refine (pi_list ha).run pins s σ H Rr I ⟨mp, h, δ, R, r, ?_⟩
    rw [o]
    exact p
  | ok d h1 =>
    rw [o] at p
    obtain ⟨xs, ex, hJ⟩ := p
    have ex : itemsD h1 d = some xs := ex
    have lst : seqL h1 d = some xs → (∀ h', itemsD h' d = seqL h' d) → wpAny (model X.prog X.w) X.A (eval a X.env) (fun v s1 => wpAny (model X.prog X.w) X.A (pyIter v) (PIE X pins σ tg Rr) X.xe s1) X.xe s := fun e hs => by
      refine (pi_list ha).run pins s σ H Rr I ⟨mp, h, δ, R, r, ?_⟩
      rw [o]
      intro v H1 mp1 e1 R1 rv
      obtain ⟨ad, vs, rfl, sq, rs⟩ := seqL_at R1 rv e
      refine ⟨ad, rfl, ⟨vs, sq⟩, hJ mp1 H1 _ e1 R1 (walkD_list .seq rfl ex fun mp' H' h' e2 R2 q => ?_)⟩
      obtain ⟨a2, vs2, e3, sq2, rs2⟩ := seqL_at R2 (rv.extB R1 e2) (by rw [← hs]; exact q)
      cases e3
      exact ⟨vs2, sq2, rs2⟩
    cases d with
    | tup ds =>
      refine (pi_tup ha).run pins s σ H Rr I ⟨mp, h, δ, R, r, ?_⟩
      rw [o]
      intro v H1 mp1 e1 R1 rv
      have : ds = xs := Option.some.inj ex
      subst this
      have rv' := rv
      simp only [Rep] at rv'
      obtain ⟨ad, vs, rfl, sq, rs⟩ := rv'
      refine ⟨ad, rfl, ⟨vs, sq⟩, hJ mp1 H1 _ e1 R1 (walkD_tup fun mp' H' h' e2 R2 => ⟨vs, sqT_extB R1 e2 sq, rs.extB R1 e2⟩)⟩
    | _ => exact lst ex fun _ => rfl
theorem small_iff {i : Int} : small i → -(2 ^ 62) ≤ i ∧ i < 2 ^ 62 := fun h => h
theorem walkD_rng {ss : List D} {ik : IK} (lo : Int) (n : Nat) : WalkD κ ss ik h (rangeD lo n) mp H (Itr lo n) := by
  have l : (rangeD lo n).length = n := by simp [rangeD]
  refine ⟨fun i mp' H' h' hi e1 R1 s => by rw [l] at hi; exact hi, fun mp' H' h' e1 R1 s => by show n ≤ _; rw [l]; exact Nat.le_refl _, fun i mp' H' h' x H'' hi e1 R1 s y => ?_⟩
  obtain ⟨rfl, rfl⟩ := y
  rw [l] at hi
  exact ⟨Ext.refl, R1, .int (lo + i), by simp [rangeD, hi], repInt.mpr rfl⟩
theorem di_rng1 {p : Pos} (hκ : kn X = κ) (hm : X.mg "range" = none) (hg : Gl X "range") (hs : starB a = false) (ha : PE X a (tD κ W ma)) : PI X tg (.Call (.Name "range" p) [a] [] pos) (tIt κ W .rng1 fun δ h => (ma δ h).bind fun d h => .ok [d] h) := by
  subst hκ
  refine pi_wk (pi_range1 hg hm (da_cons hs ha da_nil) (star_cons hs)) fun σ H Rr ⟨mp, h, δ, R, r, p⟩ => ⟨mp, h, δ, R, r, ?_⟩
  dsimp only at p ⊢
  cases o : ma δ h with
  | no => rw [o] at p; exact p.elim
  | ex e h1 => rw [o] at p; exact p
  | ok d h1 =>
    rw [o] at p
    obtain ⟨xs, ex, hJ⟩ := p
    cases d with
    | int n =>
      obtain ⟨c, ex⟩ := iteS ex
      subst ex
      intro vs H1 mp1 e1 R1 rs
      simp only [Reps] at rs
      obtain ⟨v, vr, rfl, rv, rfl⟩ := rs
      rw [repInt] at rv
      subst rv
      exact ⟨n, rfl, c.1, c.2, hJ mp1 H1 _ e1 R1 (walkD_rng 0 n.toNat)⟩
    | _ => cases ex
theorem di_rng2 {p : Pos} (hκ : kn X = κ) (hm : X.mg "range" = none) (hg : Gl X "range") (hs : starB a = false) (hs2 : starB b = false) (ha : PE X a (tD κ W ma)) (hb : PE X b (tD κ W mb)) :
    PI X tg (.Call (.Name "range" p) [a, b] [] pos) (tIt κ W .rng2 fun δ h => (ma δ h).bind fun d h => (mb δ h).bind fun e h => .ok [d, e] h) := by
  subst hκ
  have e2 : starEach [a, b] X.env = [(false, eval a X.env), (false, eval b X.env)] := by rw [star_cons hs, star_cons hs2]; rfl
  refine pi_wk (pi_range2 hg hm (da_cons hs ha (da_cons hs2 hb da_nil)) e2 (star_cons hs2)) fun σ H Rr ⟨mp, h, δ, R, r, p⟩ => ⟨mp, h, δ, R, r, ?_⟩
  dsimp only at p ⊢
  cases o : ma δ h with
  | no => rw [o] at p; exact p.elim
  | ex e h1 => rw [o] at p; exact p
  | ok d h1 =>
    rw [o] at p
    show PostG _ _ _ _ _ _ (((mb δ h1).bind _).bind _) _
    rw [bind_bind]
    have p : PostI _ _ _ _ _ _ ((mb δ h1).bind _) _ := p
    cases o2 : mb δ h1 with
    | no => rw [o2] at p; exact p.elim
    | ex e h1 => rw [o2] at p; exact p
    | ok d2 h2 =>
      rw [o2] at p
      obtain ⟨xs, ex, hJ⟩ := p
      cases d with
      | int n =>
        cases d2 with
        | int m =>
          obtain ⟨⟨c1, c2⟩, ex⟩ := iteS ex
          subst ex
          intro vs H1 mp1 e1 R1 rs
          simp only [Reps] at rs
          obtain ⟨v, vr, rfl, rv, v2, vr2, rfl, rv2, rfl⟩ := rs
          rw [repInt] at rv rv2
          subst rv rv2
          exact ⟨n, m, rfl, ⟨c1.1, c1.2, c2.1, c2.2⟩, hJ mp1 H1 _ e1 R1 (walkD_rng n (m - n).toNat)⟩
        | _ => cases ex
      | _ => cases ex
end
end DL
end

section
set_option Elab.async false
set_option linter.all false
set_option maxRecDepth 100000
set_option maxHeartbeats 2000000
namespace DL
open PySem PySem.Spec PyProof.Rows L2

theorem wipe_get (σ : L2.St) (j : Nat) : ∀ vs : List Nat, (wipe σ vs)[j]? = if j ∈ vs then (if j < σ.length then some none else none) else σ[j]?
  | [] => by simp [wipe]
  | v :: vs => by
    have ih := wipe_get σ j vs
    show ((wipe σ vs).set v none)[j]? = _
    by_cases hj : v = j
    · subst hj
      by_cases hl : v < σ.length
      · rw [List.getElem?_set_self (by rw [wipe_length]; exact hl)]; simp [hl]
      · rw [List.getElem?_eq_none (by rw [List.length_set, wipe_length]; omega)]; simp [hl]
    · rw [List.getElem?_set_ne hj, ih]
      have : (j ∈ v :: vs) = (j ∈ vs) := by simp [Ne.symm hj]
      simp only [this]
theorem wipe_wipe (σ : L2.St) (vs : List Nat) : wipe (wipe σ vs) vs = wipe σ vs := by
  refine List.ext_getElem? fun j => ?_
  rw [wipe_get (wipe σ vs), wipe_length, wipe_get σ]
  by_cases h : j ∈ vs <;> simp [h]
theorem wipe_set (σ : L2.St) {i : Nat} {x : Option V} {vs : List Nat} (h : i ∈ vs) : wipe (σ.set i x) vs = wipe σ vs := by
  refine List.ext_getElem? fun j => ?_
  rw [wipe_get, wipe_get, List.length_set]
  by_cases hj : j ∈ vs
  · simp [hj]
  · simp only [hj, if_false]
    exact List.getElem?_set_ne (fun e => hj (by rw [← e]; exact h))
def SetAt (tg : List Nat) (σ σ' : L2.St) : Prop := ∀ vs : List Nat, (∀ i ∈ tg, i ∈ vs) → wipe σ' vs = wipe σ vs

def gD (κ : Kn) (tg : List Nat) : TG := fun v σ H Q => ∃ mp h δ d δ', RelH κ mp H h ∧ RepE κ mp H δ σ ∧ Rep κ mp H d v ∧ storeD tg d δ = some δ' ∧ ∀ σ', RepE κ mp H δ' σ' → SetAt tg σ σ' → Q σ' H
def gDs (κ : Kn) (tg : List Nat) : TGs := fun vs σ H Q => ∃ mp h δ ds, RelH κ mp H h ∧ RepE κ mp H δ σ ∧ Reps κ mp H ds vs ∧ ds.length = tg.length ∧ ∀ σ', RepE κ mp H ((tg.zip ds).foldl (fun δ p => δ.set p.1 (some p.2)) δ) σ' → SetAt tg σ σ' → Q σ' H
def nmB (c : Ch) : Expr → Nat → Bool
  | .Name x _, i => decide (c.N[i]? = some x) && locB c x
  | _, _ => false
def nmsB (c : Ch) : List Expr → List Nat → Bool
  | [], [] => true
  | e :: es, i :: is => nmB c e i && nmsB c es is
  | _, _ => false
def tgB (c : Ch) : Expr → List Nat → Bool
  | .Name x p, [i] => nmB c (.Name x p) i
  | .Tuple es _ _, is => nmsB c es is && decide (2 ≤ is.length)
  | _, _ => false
section
variable {X : Cx} {κ : Kn} {c : Ch} {k : Nat}
theorem pg_wk {e : Expr} {t t' : TG} (p : PG X e t) (h : ∀ v σ H Q, t' v σ H Q → t v σ H Q) : PG X e t' := ⟨fun pins s σ H v u Q I r q => p.run pins s σ H v u Q I r (h v σ H Q q)⟩
theorem pgs_wk {e : List Expr} {t t' : TGs} (p : PGs X e t) (h : ∀ v σ H Q, t' v σ H Q → t v σ H Q) : PGs X e t' := ⟨fun pins s σ H v u Q I r q => p.run pins s σ H v u Q I r (h v σ H Q q)⟩
theorem locB_ok (G : Gd k c X) {x : Str} (h : locB c x = true) : Loc X.env.scope x ∧ (X.fn x = true ∨ X.env.scope.names.lookup x = some .local) := by
  unfold locB at h
  rw [← G.sc] at h
  simp only [Bool.or_eq_true, decide_eq_true_eq, Bool.and_eq_true] at h
  rcases h with z | ⟨z1, z2⟩
  · exact ⟨.inl z, .inr z⟩
  · exact ⟨.inr z2, .inl (G.fn z1 x)⟩
theorem nm_ok (G : Gd k c X) {e : Expr} {i : Nat} (h : nmB c e i = true) : ∃ x p, e = .Name x p ∧ X.N[i]? = some x ∧ Loc X.env.scope x ∧ (X.fn x = true ∨ X.env.scope.names.lookup x = some .local) := by
  cases e with
  | Name x p =>
    have h : (decide (c.N[i]? = some x) && locB c x) = true := h
    simp only [Bool.and_eq_true, decide_eq_true_eq] at h
    obtain ⟨l1, l2⟩ := locB_ok G h.2
    exact ⟨x, p, rfl, by rw [G.n]; exact h.1, l1, l2⟩
  | _ => cases h
theorem pg_nm (G : Gd k c X) {e : Expr} {i : Nat} (h : nmB c e i = true) : PG X e (gName i) := by
  obtain ⟨x, p, rfl, h1, h2, h3⟩ := nm_ok G h
  exact pg_name G.nd h1 h2 h3
theorem each_cons {e : Expr} {es : List Expr} {env : Env} (h : starB e = false) : assignEach (e :: es) env = (false, assign e env) :: assignEach es env := by
  cases e <;> first | rfl | cases h
theorem nm_star {e : Expr} {i : Nat} (h : nmB c e i = true) : starB e = false := by cases e <;> first | rfl | cases h
theorem nms_each (env : Env) : ∀ {es : List Expr} {is : List Nat}, nmsB c es is = true → (assignEach es env).length = is.length ∧ (assignEach es env).findIdx? (·.1) = none ∧ es.length = is.length
  | [], [], _ => ⟨rfl, rfl, rfl⟩
  | [], _ :: _, h => by cases h
  | _ :: _, [], h => by cases h
  | e :: es, i :: is, h => by
    have h : (nmB c e i && nmsB c es is) = true := h
    simp only [Bool.and_eq_true] at h
    obtain ⟨h1, h2, h3⟩ := nms_each env h.2
    rw [each_cons (nm_star h.1)]
    refine ⟨by simp [h1], ?_, by simp [h3]⟩
    rw [List.findIdx?_cons, h2]
    rfl
theorem pgs_nms (G : Gd k c X) : ∀ {es : List Expr} {is : List Nat}, nmsB c es is = true → PGs X es (gDs κ is)
  | [], [], _ => pgs_wk pgs_nil fun vs σ H Q ⟨mp, h, δ, ds, R, r, rs, l, q⟩ => by
    cases ds with
    | nil => simp only [Reps] at rs; exact ⟨rs, q σ r fun _ _ => rfl⟩
    | cons _ _ => cases l
  | [], _ :: _, h => by cases h
  | _ :: _, [], h => by cases h
  | e :: es, i :: is, h => by
    have h : (nmB c e i && nmsB c es is) = true := h
    simp only [Bool.and_eq_true] at h
    refine pgs_wk (pgs_cons (pg_nm G h.1) (pgs_nms G h.2) (by rw [each_cons (nm_star h.1)]; rfl)) fun vs σ H Q ⟨mp, hd, δ, ds, R, r, rs, l, q⟩ => ?_
    cases ds with
    | nil => cases l
    | cons d ds =>
      simp only [Reps] at rs
      obtain ⟨v, vr, rfl, r1, r2⟩ := rs
      refine ⟨v, vr, rfl, mp, hd, δ.set i (some d), ds, R, r.set i r1, r2, by simpa using l, fun σ' r' s => q σ' r' fun ws hw => ?_⟩
      rw [s ws fun j hj => hw j (List.mem_cons_of_mem _ hj)]
      exact wipe_set σ (hw i List.mem_cons_self)
theorem dg_tg (hκ : kn X = κ) (G : Gd k c X) {e : Expr} {is : List Nat} (h : tgB c e is = true) : PG X e (gD κ is) := by
  subst hκ
  cases e with
  | Name x p =>
    cases is with
    | nil => cases h
    | cons i is =>
      cases is with
      | cons _ _ => cases h
      | nil =>
        refine pg_wk (pg_nm G h) fun v σ H Q ⟨mp, hd, δ, d, δ', R, r, rv, s, q⟩ => ?_
        cases s
        exact q _ (r.set i rv) fun ws hw => wipe_set σ (hw i List.mem_cons_self)
  | Tuple es kk p =>
    have h : (nmsB c es is && decide (2 ≤ is.length)) = true := h
    simp only [Bool.and_eq_true, decide_eq_true_eq] at h
    obtain ⟨h1, h2, h3⟩ := nms_each X.env h.1
    refine pg_wk (pg_tup (n := is.length) G.calm (pgs_nms (κ := kn X) G h.1) h1 h2) fun v σ H Q ⟨mp, hd, δ, d, δ', R, r, rv, s, q⟩ => ?_
    cases is with
    | nil => simp at h
    | cons i is =>
      cases is with
      | nil => simp at h
      | cons j is =>
        cases d with
        | tup ds =>
          have s : (if ds.length = (i :: j :: is).length then some (((i :: j :: is).zip ds).foldl (fun δ p => δ.set p.1 (some p.2)) δ) else none) = some δ' := s
          obtain ⟨l, s⟩ := iteS s
          subst s
          simp only [Rep] at rv
          obtain ⟨a, vs, rfl, sq, rs⟩ := rv
          exact ⟨a, vs, rfl, sq, by rw [← rs.len, l], mp, hd, δ, ds, R, r, rs, l, q⟩
        | _ => cases s
  | _ => cases h
end

def W0 : WX := fun _ _ _ _ => False
abbrev blkX (X : Cx) (scope : Scope) (s : Shared) (H : Hp) (C : Addr) (cl : List (Str × Addr)) (fp : List Addr) : Cx := X.blk s H scope (compEnvC scope cl C X.env) fp
section
variable {X : Cx} {W : WX} {κ : Kn} {elt tg iter tg1 iter1 : Expr} {ifs ifs1 : List Expr} {scope : Scope} {own : List (Str × Nat)} {pos : Pos} {is is1 : List Nat} {ik ik1 : IK} {ms ms1 : Sl → Hd → Out (List D)} {mt mt1 : Sl → Hd → Out Bool} {me : Sl → Hd → Out D}
theorem PostG.calmG {α β γ ζ : Type} {Rp : Mp → Hp → α → β → Prop} {Rq : Mp → Hp → γ → ζ → Prop} {σ σ' : L2.St} {mp mp1 : Mp} {H H1 : Hp} {o : Out α} {f : α → Hd → Out γ} {Q : ζ → Hp → Prop} {Q' : β → Hp → Prop} (p : PostG κ Rq W σ mp H (o.calm.bind f) Q)
    (k : ∀ a h1 v H2 mp2, Ext mp1 H1 mp2 H2 → RelH κ mp2 H2 h1 → Rp mp2 H2 a v → PostG κ Rq W σ mp H (f a h1) Q → Q' v H2) : PostG κ Rp W0 σ' mp1 H1 o Q' := by
  cases o with
  | no => exact p.elim
  | ex e h => exact p.elim
  | ok a h => exact fun v H2 mp2 e r q => k a h v H2 mp2 e r q p
theorem notLst {acc : List V} : ∀ xs, HO.lst acc ≠ .tup xs ∧ ∀ x y, HO.lst acc ≠ .frz x y := fun xs => ⟨fun z => (by cases z), fun x y z => (by cases z)⟩
theorem turns_cons (step : Nat → D → Hd → Out (List D)) (ok : Hd → Prop) (base : Nat) (x : D) (xs acc : List D) (h : Hd) : turns step ok base (x :: xs) acc h = (step (base + acc.length) x h).bind fun ys h' => open Classical in if ok h' ∧ base + acc.length + ys.length ≤ line then turns step ok base xs (acc ++ ys) h' else .no := rfl
theorem sameSrc_refl (ik : IK) (ss : List D) (h : Hd) : sameSrc ik ss h h := by cases ik <;> first | trivial | exact fun _ _ => rfl
theorem sameSrc_bz {ik : IK} {ss : List D} {h h' : Hd} (s : sameSrc ik ss h h') : sameSrc ik ss h h' := s
theorem Ext.rebz {mp mp' : Mp} {H H' : Hp} (e : Ext mp H mp' H') (bz : List Addr) : Ext ⟨mp.ids, bz⟩ H ⟨mp'.ids, bz⟩ H' := ⟨e.pre, rfl, e.keep, e.there, e.fresh⟩
theorem Ext.then_ {mp mp' mp2 : Mp} {H H' H2 : Hp} (e : Ext mp H ⟨mp'.ids, mp.bz⟩ H') (f : Ext mp' H' mp2 H2) : Ext mp H ⟨mp2.ids, mp.bz⟩ H2 := e.trans (f.rebz mp.bz)
theorem Ext.busy {mp mp' : Mp} {H H' : Hp} {Dd : Addr} (e : Ext mp H ⟨mp'.ids, mp.bz⟩ H') (eb : mp'.bz = Dd :: mp.bz) (nD : H Dd = none) : ExtB mp H mp' H' := ⟨e.pre, fun b hb => by
  rw [eb] at hb
  rcases List.mem_cons.mp hb with z | z
  · rw [z]; exact .inr nD
  · exact .inl z, fun a o n q => e.keep a o (fun y => n (.inl y)) q, e.there, e.fresh⟩
theorem Ext.upd {mp mp' : Mp} {H H' : Hp} {Dd : Addr} {u : HO} (e : Ext mp H mp' H') (nD : H Dd = none) : Ext mp H mp' (upd H' Dd u) := ⟨e.pre, e.same, fun a o n q => by
  rw [upd_ne (ne_of_none q nD)]
  exact e.keep a o n q, fun a o q => by
  rw [upd_ne (ne_of_none q nD)]
  exact e.there a o q, e.fresh⟩
def CompI (κ : Kn) (W : WX) (σ : L2.St) (δ : Sl) (mp1 : Mp) (H1 : Hp) (Dd : Addr) (ok : Hd → Prop) (Q : VK) (k : List D → Hd → Out D) (Hc : Hp) : Prop :=
  ∃ (mp' : Mp) (h' : Hd) (acc : List D) (accV : List V), mp'.bz = Dd :: mp1.bz ∧ Ext mp1 H1 ⟨mp'.ids, mp1.bz⟩ Hc ∧ RelH κ mp' Hc h' ∧ ok h' ∧ Hc Dd = some (.lst accV) ∧ Reps κ mp' Hc acc accV ∧ RepE κ mp' Hc δ σ ∧ acc.length ≤ line ∧ PostG κ (Rep κ) W σ mp1 H1 (k acc h') Q
section
variable {σ : L2.St} {δ : Sl} {mp1 mp' : Mp} {H1 Hc : Hp} {Dd : Addr} {ok : Hd → Prop} {Q : VK} {k : List D → Hd → Out D} {h1 h' : Hd} {acc : List D} {accV : List V}
theorem compI_start (R1 : RelH κ mp1 H1 h1) (nD : H1 Dd = none) (r : RepE κ mp1 H1 δ σ) (o : ok h1) (p : PostG κ (Rep κ) W σ mp1 H1 (k [] h1) Q) : CompI κ W σ δ mp1 H1 Dd ok Q k (upd H1 Dd (.lst [])) := by
  have e := (R1.fresh (.lst []) nD).1
  exact ⟨mp1.busy Dd, h1, [], [], rfl, e, R1.busy nD, o, upd_same, Reps.nil, RepE.via (Rep.busyUpd nD) r, Nat.zero_le _, p⟩
theorem compI_turn {kk : List D → Hd → Out (List D)} (ebz : mp'.bz = Dd :: mp1.bz) (e : Ext mp1 H1 ⟨mp'.ids, mp1.bz⟩ Hc) (R : RelH κ mp' Hc h') (hD : Hc Dd = some (.lst accV)) (rs : Reps κ mp' Hc acc accV) (r : RepE κ mp' Hc δ σ) (hl : acc.length ≤ line)
    (p : PostG κ (Rep κ) W σ mp1 H1 ((open Classical in if ok h' ∧ 0 + acc.length ≤ line then kk acc h' else .no).bind fun ys h => .ok (.lst ys) h) Q) : CompI κ W σ δ mp1 H1 Dd ok Q (fun acc h' => (kk acc h').bind fun ys h => .ok (.lst ys) h) Hc := by
  by_cases c : ok h' ∧ 0 + acc.length ≤ line
  · rw [if_pos c] at p
    exact ⟨mp', h', acc, accV, ebz, e, R, c.1, hD, rs, r, hl, p⟩
  · rw [if_neg c] at p; exact p.elim
theorem compI_add {yd : D} {yv : V} {kk : List D → Hd → Out (List D)} (ebz : mp'.bz = Dd :: mp1.bz) (e : Ext mp1 H1 ⟨mp'.ids, mp1.bz⟩ Hc) (R : RelH κ mp' Hc h') (nD : H1 Dd = none) (hD : Hc Dd = some (.lst accV)) (rs : Reps κ mp' Hc acc accV) (ry : Rep κ mp' Hc yd yv) (r : RepE κ mp' Hc δ σ) (hl : acc.length ≤ line)
    (p : PostG κ (Rep κ) W σ mp1 H1 (((Out.ok [yd] h').bind fun ys h' => open Classical in if ok h' ∧ 0 + acc.length + ys.length ≤ line then kk (acc ++ ys) h' else .no).bind fun ys h => .ok (.lst ys) h) Q) :
    ∃ acc', Hc Dd = some (.lst acc') ∧ acc'.length < sizeLine ∧ CompI κ W σ δ mp1 H1 Dd ok Q (fun acc h' => (kk acc h').bind fun ys h => .ok (.lst ys) h) (upd Hc Dd (.lst (acc' ++ [yv]))) := by
  rw [Out.bind_ok] at p
  by_cases c : ok h' ∧ 0 + acc.length + [yd].length ≤ line
  · rw [if_pos c] at p
    have hb : Dd ∈ mp'.bz := by rw [ebz]; exact List.mem_cons_self
    refine ⟨accV, hD, ?_, mp', h', acc ++ [yd], accV ++ [yv], ebz, e.upd nD, R.bzput notLst hD hb, c.1, upd_same, Reps.via (fun d v r => Rep.bzput notLst hD hb d v r) _ _ (rs.app (Reps.one ry)), RepE.via (fun d v r => Rep.bzput notLst hD hb d v r) r, by simpa using c.2, p⟩
    rw [← rs.len, ← line_eq]
    have := c.2
    simp only [List.length_singleton] at this
    omega
  · rw [if_neg c] at p; exact p.elim
theorem compI_end (R1 : RelH κ mp1 H1 h1) (nD : H1 Dd = none) (I : CompI κ W σ δ mp1 H1 Dd ok Q (fun acc h' => .ok (.lst acc) h') Hc) : Q (.ref Dd) Hc := by
  obtain ⟨mp', h', acc, accV, ebz, e2, R2, ss2, hD, rs, rE, hl, p2⟩ := I
  have ls : ∀ a ∈ mp1.bz, a ∈ mp'.bz := fun a ha => by rw [ebz]; exact List.mem_cons_of_mem _ ha
  refine p2 _ _ _ e2 (R2.less ls) ?_
  simp only [Rep]
  refine ⟨Dd, accV, rfl, ⟨hD, fun z => ?_⟩, Reps.less ls _ _ rs⟩
  rcases z with z | z
  · exact (R2.bz Dd (by rw [ebz]; exact List.mem_cons_self)).1 z
  · obtain ⟨_, o, q⟩ := R1.bz Dd z
    rw [nD] at q
    cases q
end
noncomputable abbrev compM (own : List (Str × Nat)) (is : List Nat) (ik : IK) (ms : Sl → Hd → Out (List D)) (mt : Sl → Hd → Out Bool) (me : Sl → Hd → Out D) : Sl → Hd → Out D :=
  fun δ h => (ms δ h).bind fun ss h => match srcD ik ss h with
      | some xs => (turns (fun _ x h => match storeD is x (wipeD δ (own.map (·.2))) with
        | some δ => (mt δ h).calm.bind fun b h => if b then (me δ h).calm.bind fun y h => .ok [y] h else .ok [] h
        | none => .no) (sameSrc ik ss h) 0 xs [] h).bind fun ys h => .ok (.lst ys) h
      | none => .no
theorem comp_rd (hsub : ∀ i ∈ is, i ∈ own.map (·.2)) : ∀ σ H Q, tD κ W (compM own is ik ms mt me) σ H Q → tLc (tIt κ W ik ms) (gD κ is) (tDt κ W0 mt) (tD κ W0 me) (own.map (·.2)) σ H Q := by
  rintro σ H Q ⟨mp, h, δ, R, r, p⟩
  refine ⟨mp, h, δ, R, r, ?_⟩
  dsimp only [compM] at p
  cases o : ms δ h with
  | no => rw [o] at p; exact p.elim
  | ex e h1 => rw [o] at p; exact p
  | ok ss h1 =>
    rw [o] at p
    rw [Out.bind_ok] at p
    cases ex : srcD ik ss h1 with
    | none => rw [ex] at p; exact p.elim
    | some xs =>
      rw [ex] at p
      refine ⟨xs, ex, fun mp1 H1 J e1 R1 WD Dd nD => ?_⟩
      have p1 := PostG.ext p e1
      generalize hstep : (fun _ x h => match storeD is x (wipeD δ (own.map (·.2))) with
        | some δ => (mt δ h).calm.bind fun b h => if b then (me δ h).calm.bind fun y h => .ok [y] h else .ok [] h
        | none => .no : Nat → D → Hd → Out (List D)) = step at p1
      refine ⟨fun i m Hc => m = xs.length - i ∧ i ≤ xs.length ∧ CompI κ W σ δ mp1 H1 Dd (sameSrc ik ss h1) Q (fun acc h' => (turns step (sameSrc ik ss h1) 0 (xs.drop i) acc h').bind fun ys h => .ok (.lst ys) h) Hc,
        ⟨xs.length, by simp, Nat.zero_le _, compI_start R1 nD (r.ext R e1) (sameSrc_refl ik ss h1) p1⟩, ?_⟩
      rintro i m Hc ⟨rfl, hi, I⟩
      rcases Nat.lt_or_ge i xs.length with hlt | hge
      · obtain ⟨mp', h', acc, accV, ebz, e2, R2, ss2, hD, rs, rE, hl, p2⟩ := I
        refine .inr ⟨WD.goes i _ Hc h' hlt (e2.busy ebz nD) R2 ss2, fun Hn => CompI κ W σ δ mp1 H1 Dd (sameSrc ik ss h1) Q (fun acc h' => (turns step (sameSrc ik ss h1) 0 (xs.drop (i + 1)) acc h').bind fun ys h => .ok (.lst ys) h) Hn, fun Hn q => ⟨xs.length - (i + 1), by omega, rfl, hlt, q⟩, fun x H'' y => ?_⟩
        obtain ⟨e3, R3, d, ed, rd⟩ := WD.yields i _ Hc h' x H'' hlt (e2.busy ebz nD) R2 ss2 y
        have hdr : xs.drop i = d :: xs.drop (i + 1) := by
          rw [List.drop_eq_getElem_cons hlt]
          obtain ⟨_, q⟩ := List.getElem?_eq_some_iff.mp ed
          rw [q]
        dsimp only at p2
        rw [hdr, turns_cons] at p2
        cases est : storeD is d (wipeD δ (own.map (·.2))) with
        | none =>
          have es : step (0 + acc.length) d h' = .no := by rw [← hstep]; simp only [est]
          rw [es] at p2
          exact p2.elim
        | some δ1 =>
          have es : step (0 + acc.length) d h' = (mt δ1 h').calm.bind fun b h => if b then (me δ1 h).calm.bind fun y h => .ok [y] h else .ok [] h := by rw [← hstep]; simp only [est]
          rw [es, bind_bind, bind_bind] at p2
          have hD3 : H'' Dd = some (.lst accV) := e3.keep _ _ (R2.bz Dd (by rw [ebz]; exact List.mem_cons_self)).1 hD
          refine ⟨mp', h', _, d, δ1, R3, (rE.ext R2 e3).wipe _, rd, est, fun σ1 r1 sa => ⟨by rw [sa _ hsub, wipe_wipe], mp', h', δ1, R3, r1, ?_⟩⟩
          refine PostG.calmG p2 fun b h4 b' H4 mp4 e4 R4 eb p3 => ?_
          have eb : b = b' := eb
          subst eb
          have ebz4 : mp4.bz = Dd :: mp1.bz := e4.same.trans ebz
          have hD4 : H4 Dd = some (.lst accV) := e4.keep _ _ (R3.bz Dd (by rw [ebz]; exact List.mem_cons_self)).1 hD3
          have e24 := (Ext.then_ e2 e3).then_ e4
          cases b with
          | false =>
            rw [if_neg Bool.false_ne_true]
            rw [if_neg Bool.false_ne_true] at p3
            refine compI_turn ebz4 e24 R4 hD4 ((rs.ext R2 e3).ext R3 e4) ((rE.ext R2 e3).ext R3 e4) hl ?_
            simpa only [List.append_nil, Out.bind_ok, List.length_nil, Nat.add_zero] using p3
          | true =>
            rw [if_pos rfl]
            rw [if_pos rfl] at p3
            simp only [bind_bind] at p3
            refine ⟨mp4, h4, δ1, R4, r1.ext R3 e4, PostG.calmG p3 fun yd h5 yv H5 mp5 e5 R5 ry p4 => ?_⟩
            have ebz5 : mp5.bz = Dd :: mp1.bz := e5.same.trans ebz4
            have hD5 : H5 Dd = some (.lst accV) := e5.keep _ _ (R4.bz Dd (by rw [ebz4]; exact List.mem_cons_self)).1 hD4
            exact compI_add ebz5 (e24.then_ e5) R5 nD hD5 (((rs.ext R2 e3).ext R3 e4).ext R4 e5) ry (((rE.ext R2 e3).ext R3 e4).ext R4 e5) hl p4
      · have ei : i = xs.length := by omega
        subst ei
        obtain ⟨mp', h', acc, accV, ebz, e2, R2, ss2, hD, rs, rE, hl, p2⟩ := I
        refine .inl ⟨WD.stops _ Hc h' (e2.busy ebz nD) R2 ss2, ?_⟩
        rw [List.drop_length] at p2
        exact compI_end R1 nD ⟨mp', h', acc, accV, ebz, e2, R2, ss2, hD, rs, rE, hl, p2⟩

theorem ExtB.updB {mp mp' : Mp} {H H' : Hp} {Dd : Addr} {u : HO} (e : ExtB mp H mp' H') (b : Dd ∈ mp.bz) : ExtB mp H mp' (upd H' Dd u) := ⟨e.pre, e.bzz, fun a o n q => by
  rw [upd_ne (fun z => n (.inr (by rw [z]; exact b)))]
  exact e.keep a o n q, fun a o q => by
  by_cases z : a = Dd
  · rw [z]; exact ⟨u, upd_same⟩
  · rw [upd_ne z]; exact e.there a o q, e.fresh⟩
def CompJ (κ : Kn) (W : WX) (σ σ2 : L2.St) (δ δ2 : Sl) (mp1 : Mp) (H1 : Hp) (mp2 : Mp) (H2 : Hp) (Dd : Addr) (ok : Hd → Prop) (Q : VK) (acc0 : List D) (k : List D → Hd → Out D) (Hc : Hp) : Prop :=
  ∃ (mp' : Mp) (h' : Hd) (acc : List D) (accV : List V), mp'.bz = Dd :: mp1.bz ∧ Ext mp1 H1 ⟨mp'.ids, mp1.bz⟩ Hc ∧ ExtB mp2 H2 mp' Hc ∧ RelH κ mp' Hc h' ∧ ok h' ∧ Hc Dd = some (.lst accV) ∧ Reps κ mp' Hc (acc0 ++ acc) accV ∧ RepE κ mp' Hc δ σ ∧ RepE κ mp' Hc δ2 σ2 ∧ acc0.length + acc.length ≤ line ∧ PostG κ (Rep κ) W σ mp1 H1 (k acc h') Q
noncomputable abbrev comp2M (own : List (Str × Nat)) (is is1 : List Nat) (ik ik1 : IK) (ms ms1 : Sl → Hd → Out (List D)) (mt mt1 : Sl → Hd → Out Bool) (me : Sl → Hd → Out D) : Sl → Hd → Out D :=
  fun δ h => (ms δ h).bind fun ss h => match srcD ik ss h with
      | some xs => (turns (fun n x h => match storeD is x (wipeD δ (own.map (·.2))) with
        | some δ => (mt δ h).calm.bind fun b h => if b then (ms1 δ h).calm.bind fun ss1 h => (match srcD ik1 ss1 h with
            | some xs1 => turns (fun _ x h => match storeD is1 x (wipeD δ is1) with
                | some δ => (mt1 δ h).calm.bind fun b h => if b then (me δ h).calm.bind fun y h => .ok [y] h else .ok [] h
                | none => .no) (sameSrc ik1 ss1 h) n xs1 [] h
            | none => .no) else .ok [] h
        | none => .no) (sameSrc ik ss h) 0 xs [] h).bind fun ys h => .ok (.lst ys) h
      | none => .no
theorem comp2_rd (hsub : ∀ i ∈ is, i ∈ own.map (·.2)) : ∀ σ H Q, tD κ W (comp2M own is is1 ik ik1 ms ms1 mt mt1 me) σ H Q → tLc2 (tIt κ W ik ms) (gD κ is) (tDt κ W0 mt) (tIt κ W0 ik1 ms1) (gD κ is1) (tDt κ W0 mt1) (tD κ W0 me) (own.map (·.2)) is1 σ H Q := by
  rintro σ H Q ⟨mp, h, δ, R, r, p⟩
  refine ⟨mp, h, δ, R, r, ?_⟩
  dsimp only [comp2M] at p
  cases o : ms δ h with
  | no => rw [o] at p; exact p.elim
  | ex e h1 => rw [o] at p; exact p
  | ok ss h1 =>
    rw [o] at p
    rw [Out.bind_ok] at p
    cases ex : srcD ik ss h1 with
    | none => rw [ex] at p; exact p.elim
    | some xs =>
      rw [ex] at p
      refine ⟨xs, ex, fun mp1 H1 J e1 R1 WD Dd nD => ?_⟩
      have p1 := PostG.ext p e1
      generalize hst1 : (fun δ (_ : Nat) x h => match storeD is1 x (wipeD δ is1) with
                | some δ => (mt1 δ h).calm.bind fun b h => if b then (me δ h).calm.bind fun y h => .ok [y] h else .ok [] h
                | none => .no : Sl → Nat → D → Hd → Out (List D)) = step1 at p1
      have hst1' : ∀ δ n x h, step1 δ n x h = match storeD is1 x (wipeD δ is1) with
                | some δ => (mt1 δ h).calm.bind fun b h => if b then (me δ h).calm.bind fun y h => .ok [y] h else .ok [] h
                | none => .no := fun δ n x h => by rw [← hst1]
      generalize hstep : (fun n x h => match storeD is x (wipeD δ (own.map (·.2))) with
        | some δ => (mt δ h).calm.bind fun b h => if b then (ms1 δ h).calm.bind fun ss1 h => (match srcD ik1 ss1 h with
            | some xs1 => turns (fun _ x h => match storeD is1 x (wipeD δ is1) with
                | some δ => (mt1 δ h).calm.bind fun b h => if b then (me δ h).calm.bind fun y h => .ok [y] h else .ok [] h
                | none => .no) (sameSrc ik1 ss1 h) n xs1 [] h
            | none => .no) else .ok [] h
        | none => .no : Nat → D → Hd → Out (List D)) = step at p1
      have hstep' : ∀ n x h, step n x h = match storeD is x (wipeD δ (own.map (·.2))) with
        | some δ => (mt δ h).calm.bind fun b h => if b then (ms1 δ h).calm.bind fun ss1 h => (match srcD ik1 ss1 h with
            | some xs1 => turns (step1 δ) (sameSrc ik1 ss1 h) n xs1 [] h
            | none => .no) else .ok [] h
        | none => .no := fun n x h => by rw [← hstep, ← hst1]
      clear hst1 hstep
      refine ⟨fun i m Hc => m = xs.length - i ∧ i ≤ xs.length ∧ CompI κ W σ δ mp1 H1 Dd (sameSrc ik ss h1) Q (fun acc h' => (turns step (sameSrc ik ss h1) 0 (xs.drop i) acc h').bind fun ys h => .ok (.lst ys) h) Hc,
        ⟨xs.length, by simp, Nat.zero_le _, compI_start R1 nD (r.ext R e1) (sameSrc_refl ik ss h1) p1⟩, ?_⟩
      rintro i m Hc ⟨rfl, hi, I⟩
      rcases Nat.lt_or_ge i xs.length with hlt | hge
      · obtain ⟨mp', h', acc, accV, ebz, e2, R2, ss2, hD, rs, rE, hl, p2⟩ := I
        refine .inr ⟨WD.goes i _ Hc h' hlt (e2.busy ebz nD) R2 ss2, fun Hn => CompI κ W σ δ mp1 H1 Dd (sameSrc ik ss h1) Q (fun acc h' => (turns step (sameSrc ik ss h1) 0 (xs.drop (i + 1)) acc h').bind fun ys h => .ok (.lst ys) h) Hn, fun Hn q => ⟨xs.length - (i + 1), by omega, rfl, hlt, q⟩, fun x H'' y => ?_⟩
        obtain ⟨e3, R3, d, ed, rd⟩ := WD.yields i _ Hc h' x H'' hlt (e2.busy ebz nD) R2 ss2 y
        have hdr : xs.drop i = d :: xs.drop (i + 1) := by
          rw [List.drop_eq_getElem_cons hlt]
          obtain ⟨_, q⟩ := List.getElem?_eq_some_iff.mp ed
          rw [q]
        dsimp only at p2
        rw [hdr, turns_cons, hstep'] at p2
        cases est : storeD is d (wipeD δ (own.map (·.2))) with
        | none => rw [est] at p2; exact p2.elim
        | some δ1 =>
          rw [est] at p2
          dsimp only at p2
          rw [bind_bind, bind_bind] at p2
          have hD3 : H'' Dd = some (.lst accV) := e3.keep _ _ (R2.bz Dd (by rw [ebz]; exact List.mem_cons_self)).1 hD
          refine ⟨mp', h', _, d, δ1, R3, (rE.ext R2 e3).wipe _, rd, est, fun σ1 r1 sa => ⟨by rw [sa _ hsub, wipe_wipe], mp', h', δ1, R3, r1, ?_⟩⟩
          refine PostG.calmG p2 fun b h4 b' H4 mp4 e4 R4 eb p3 => ?_
          have eb : b = b' := eb
          subst eb
          have ebz4 : mp4.bz = Dd :: mp1.bz := e4.same.trans ebz
          have hD4 : H4 Dd = some (.lst accV) := e4.keep _ _ (R3.bz Dd (by rw [ebz]; exact List.mem_cons_self)).1 hD3
          have e24 := (Ext.then_ e2 e3).then_ e4
          cases b with
          | false =>
            rw [if_neg Bool.false_ne_true]
            rw [if_neg Bool.false_ne_true] at p3
            refine compI_turn ebz4 e24 R4 hD4 ((rs.ext R2 e3).ext R3 e4) ((rE.ext R2 e3).ext R3 e4) hl ?_
            simpa only [List.append_nil, Out.bind_ok, List.length_nil, Nat.add_zero] using p3
          | true =>
            rw [if_pos rfl]
            rw [if_pos rfl] at p3
            refine ⟨mp4, h4, δ1, R4, r1.ext R3 e4, ?_⟩
            cases o1 : ms1 δ1 h4 with
            | no => rw [o1] at p3; exact p3.elim
            | ex e h1 => rw [o1] at p3; exact p3.elim
            | ok ss1 h5 =>
              rw [o1] at p3
              have p3 : PostG κ (Rep κ) W σ mp1 H1 (Out.bind (match srcD ik1 ss1 h5 with
                | some xs1 => turns (step1 δ1) (sameSrc ik1 ss1 h5) (0 + acc.length) xs1 [] h5
                | none => .no) _) Q := p3
              cases ex1 : srcD ik1 ss1 h5 with
              | none => rw [ex1] at p3; exact p3.elim
              | some xs1 =>
                rw [ex1] at p3
                dsimp only at p3
                refine ⟨xs1, ex1, fun mp5 H5 J1 e5 R5 WD1 => ?_⟩
                have ebz5 : mp5.bz = Dd :: mp1.bz := e5.same.trans ebz4
                have hb5 : Dd ∈ mp5.bz := by rw [ebz5]; exact List.mem_cons_self
                have hD5 : H5 Dd = some (.lst accV) := e5.keep _ _ (R4.bz Dd (by rw [ebz4]; exact List.mem_cons_self)).1 hD4
                refine ⟨fun j m Hc => m = xs1.length - j ∧ j ≤ xs1.length ∧ CompJ κ W σ σ1 δ δ1 mp1 H1 mp5 H5 Dd (sameSrc ik1 ss1 h5) Q acc (fun ac h' => (turns (step1 δ1) (sameSrc ik1 ss1 h5) (0 + acc.length) (xs1.drop j) ac h').bind fun ys h' => Out.bind (open Classical in if sameSrc ik ss h1 h' ∧ 0 + acc.length + ys.length ≤ line then turns step (sameSrc ik ss h1) 0 (xs.drop (i + 1)) (acc ++ ys) h' else .no) fun ys h => .ok (.lst ys) h) Hc,
                  ⟨xs1.length, by simp, Nat.zero_le _, mp5, h5, [], accV, ebz5, e24.then_ e5, Ext.refl.b, R5, sameSrc_refl ik1 ss1 h5, hD5, by rw [List.append_nil]; exact ((rs.ext R2 e3).ext R3 e4).ext R4 e5, ((rE.ext R2 e3).ext R3 e4).ext R4 e5, (r1.ext R3 e4).ext R4 e5, by simpa using hl, p3⟩, ?_⟩
                rintro j m Hc5 ⟨rfl, hj, I⟩
                obtain ⟨mp6, h6, ac, acV, ebz6, e6, e56, R6, ss6, hD6, rs6, rE6, rF6, hl6, p6⟩ := I
                rcases Nat.lt_or_ge j xs1.length with hlt1 | hge1
                · refine .inr ⟨WD1.goes j _ Hc5 h6 hlt1 e56 R6 ss6, fun Hn => CompJ κ W σ σ1 δ δ1 mp1 H1 mp5 H5 Dd (sameSrc ik1 ss1 h5) Q acc (fun ac h' => (turns (step1 δ1) (sameSrc ik1 ss1 h5) (0 + acc.length) (xs1.drop (j + 1)) ac h').bind fun ys h' => Out.bind (open Classical in if sameSrc ik ss h1 h' ∧ 0 + acc.length + ys.length ≤ line then turns step (sameSrc ik ss h1) 0 (xs.drop (i + 1)) (acc ++ ys) h' else .no) fun ys h => .ok (.lst ys) h) Hn, fun Hn q => ⟨xs1.length - (j + 1), by omega, rfl, hlt1, q⟩, fun x1 H7 y1 => ?_⟩
                  obtain ⟨e7, R7, d1, ed1, rd1⟩ := WD1.yields j _ Hc5 h6 x1 H7 hlt1 e56 R6 ss6 y1
                  have hdr1 : xs1.drop j = d1 :: xs1.drop (j + 1) := by
                    rw [List.drop_eq_getElem_cons hlt1]
                    obtain ⟨_, q⟩ := List.getElem?_eq_some_iff.mp ed1
                    rw [q]
                  dsimp only at p6
                  rw [hdr1, turns_cons, hst1'] at p6
                  cases est1 : storeD is1 d1 (wipeD δ1 is1) with
                  | none => rw [est1] at p6; exact p6.elim
                  | some δ7 =>
                    rw [est1] at p6
                    dsimp only at p6
                    rw [bind_bind, bind_bind] at p6
                    have hD7 : H7 Dd = some (.lst acV) := e7.keep _ _ (R6.bz Dd (by rw [ebz6]; exact List.mem_cons_self)).1 hD6
                    refine ⟨mp6, h6, _, d1, δ7, R7, (rF6.ext R6 e7).wipe _, rd1, est1, fun σ7 r7 sa7 => ⟨by rw [sa7 _ (fun _ z => z), wipe_wipe], mp6, h6, δ7, R7, r7, ?_⟩⟩
                    refine PostG.calmG p6 fun b h8 b' H8 mp8 e8 R8 eb8 p8 => ?_
                    have eb8 : b = b' := eb8
                    subst eb8
                    have ebz8 : mp8.bz = Dd :: mp1.bz := e8.same.trans ebz6
                    have hD8 : H8 Dd = some (.lst acV) := e8.keep _ _ (R7.bz Dd (by rw [ebz6]; exact List.mem_cons_self)).1 hD7
                    have e68 := (Ext.then_ e6 e7).then_ e8
                    have e58 := (e56.trans e7).trans e8
                    cases b with
                    | false =>
                      rw [if_neg Bool.false_ne_true]
                      rw [if_neg Bool.false_ne_true] at p8
                      simp only [List.append_nil, Out.bind_ok, List.length_nil, Nat.add_zero] at p8
                      by_cases c : sameSrc ik1 ss1 h5 h8 ∧ 0 + acc.length + ac.length ≤ line
                      · rw [if_pos c] at p8
                        exact ⟨mp8, h8, ac, acV, ebz8, e68, e58, R8, c.1, hD8, (rs6.ext R6 e7).ext R7 e8, (rE6.ext R6 e7).ext R7 e8, (rF6.ext R6 e7).ext R7 e8, hl6, p8⟩
                      · rw [if_neg c] at p8; exact p8.elim
                    | true =>
                      rw [if_pos rfl]
                      rw [if_pos rfl] at p8
                      rw [bind_bind] at p8
                      refine ⟨mp8, h8, δ7, R8, r7.ext R7 e8, PostG.calmG p8 fun yd h9 yv H9 mp9 e9 R9 ry p9 => ?_⟩
                      have ebz9 : mp9.bz = Dd :: mp1.bz := e9.same.trans ebz8
                      have hb9 : Dd ∈ mp9.bz := by rw [ebz9]; exact List.mem_cons_self
                      have hD9 : H9 Dd = some (.lst acV) := e9.keep _ _ (R8.bz Dd (by rw [ebz8]; exact List.mem_cons_self)).1 hD8
                      have rs9 := ((rs6.ext R6 e7).ext R7 e8).ext R8 e9
                      simp only [Out.bind_ok] at p9
                      by_cases c : sameSrc ik1 ss1 h5 h9 ∧ 0 + acc.length + ac.length + [yd].length ≤ line
                      · rw [if_pos c] at p9
                        have c2 := c.2
                        simp only [List.length_singleton] at c2
                        refine ⟨acV, hD9, ?_, mp9, h9, ac ++ [yd], acV ++ [yv], ebz9, (e68.then_ e9).upd nD, (e58.trans e9).updB hb5, R9.bzput notLst hD9 hb9, c.1, upd_same, ?_, RepE.via (fun d v r => Rep.bzput notLst hD9 hb9 d v r) (((rE6.ext R6 e7).ext R7 e8).ext R8 e9), RepE.via (fun d v r => Rep.bzput notLst hD9 hb9 d v r) (((rF6.ext R6 e7).ext R7 e8).ext R8 e9), by simp; omega, p9⟩
                        · rw [← rs6.len, ← line_eq, List.length_append]
                          omega
                        · rw [← List.append_assoc]
                          exact Reps.via (fun d v r => Rep.bzput notLst hD9 hb9 d v r) _ _ (rs9.app (Reps.one ry))
                      · rw [if_neg c] at p9; exact p9.elim
                · have ej : j = xs1.length := by omega
                  subst ej
                  refine .inl ⟨WD1.stops _ Hc5 h6 e56 R6 ss6, ?_⟩
                  dsimp only at p6
                  rw [List.drop_length] at p6
                  have p6 : PostG κ (Rep κ) W σ mp1 H1 (Out.bind (open Classical in if sameSrc ik ss h1 h6 ∧ 0 + acc.length + ac.length ≤ line then turns step (sameSrc ik ss h1) 0 (xs.drop (i + 1)) (acc ++ ac) h6 else .no) _) Q := p6
                  rw [show 0 + acc.length + ac.length = 0 + (acc ++ ac).length by rw [List.length_append]; omega] at p6
                  exact compI_turn (kk := fun a h => turns step (sameSrc ik ss h1) 0 (xs.drop (i + 1)) a h) ebz6 e6 R6 hD6 rs6 rE6 (by rw [List.length_append]; exact hl6) p6
      · have ei : i = xs.length := by omega
        subst ei
        obtain ⟨mp', h', acc, accV, ebz, e2, R2, ss2, hD, rs, rE, hl, p2⟩ := I
        refine .inl ⟨WD.stops _ Hc h' (e2.busy ebz nD) R2 ss2, ?_⟩
        rw [List.drop_length] at p2
        exact compI_end R1 nD ⟨mp', h', acc, accV, ebz, e2, R2, ss2, hD, rs, rE, hl, p2⟩

theorem de_comp (hκ : kn X = κ) (hc : X.calm = true) (hN : X.N.Nodup) (hi : PI X tg iter (tIt κ W ik ms)) (ok : BlkOk X.N X.env.scope scope own) (hsub : ∀ i ∈ is, i ∈ own.map (·.2)) (hset : setB iter = false)
    (hg : ∀ s H C cl fp, PG (blkX X scope s H C cl fp) tg (gD κ is)) (ht : ∀ s H C cl fp, PTs (blkX X scope s H C cl fp) ifs (tDt κ W0 mt)) (he : ∀ s H C cl fp, PE (blkX X scope s H C cl fp) elt (tD κ W0 me)) :
    PE X (.ListComp elt [⟨tg, iter, ifs, 0⟩] scope pos) (tD κ W (compM own is ik ms mt me)) :=
  pe_wk (pe_lc hc hN hi ok hg ht he (noset_fold hset)) (comp_rd hsub)
theorem de_comp2 (hκ : kn X = κ) (hc : X.calm = true) (hN : X.N.Nodup) (hi : PI X tg iter (tIt κ W ik ms)) (ok : BlkOk X.N X.env.scope scope own) (hsub : ∀ i ∈ is, i ∈ own.map (·.2)) (hsub1 : ∀ i ∈ is1, i ∈ own.map (·.2)) (hset : setB iter = false) (hset1 : setB iter1 = false)
    (hg : ∀ s H C cl fp, PG (blkX X scope s H C cl fp) tg (gD κ is)) (ht : ∀ s H C cl fp, PTs (blkX X scope s H C cl fp) ifs (tDt κ W0 mt)) (hi1 : ∀ s H C cl fp, PI (blkX X scope s H C cl fp) tg1 iter1 (tIt κ W0 ik1 ms1))
    (hg1 : ∀ s H C cl fp, PG (blkX X scope s H C cl fp) tg1 (gD κ is1)) (ht1 : ∀ s H C cl fp, PTs (blkX X scope s H C cl fp) ifs1 (tDt κ W0 mt1)) (he : ∀ s H C cl fp, PE (blkX X scope s H C cl fp) elt (tD κ W0 me)) :
    PE X (.ListComp elt [⟨tg, iter, ifs, 0⟩, ⟨tg1, iter1, ifs1, 0⟩] scope pos) (tD κ W (comp2M own is is1 ik ik1 ms ms1 mt mt1 me)) :=
  pe_wk (pe_lc2 (vs1 := is1) hc hN hi ok hsub1 hg ht hi1 hg1 ht1 he (noset_fold hset) (fun env x => noset_fold hset1 x)) (comp2_rd hsub)
theorem ps_comp {i : Nat} {y : Str} {py spos : Pos} (hc : X.calm = true) (hN : X.N.Nodup) (hy : X.N[i]? = some y) (hyl : X.env.scope.names.lookup y = some .local)
    (hsw : swapsWith (.ListComp elt [⟨tg, iter, ifs, 0⟩] scope pos) (some (.Name y py)) spos.line X.env = pure true) (hi : PI X tg iter (tIt κ W ik ms)) (ok : BlkOk X.N X.env.scope scope own) (hsub : ∀ i ∈ is, i ∈ own.map (·.2)) (hset : setB iter = false)
    (hg : ∀ s H C cl fp, PG (blkX X scope s H C cl fp) tg (gD κ is)) (ht : ∀ s H C cl fp, PTs (blkX X scope s H C cl fp) ifs (tDt κ W0 mt)) (he : ∀ s H C cl fp, PE (blkX X scope s H C cl fp) elt (tD κ W0 me)) :
    PS X (.Assign [.Name y py] (.ListComp elt [⟨tg, iter, ifs, 0⟩] scope pos) spos) (tAsg (tD κ W (compM own is ik ms mt me)) (gName i)) :=
  ⟨fun pins s σ H D I h => (ps_setLc hc hN hy hyl hsw hi ok hg ht he (noset_fold hset)).run pins s σ H D I (comp_rd hsub _ _ _ h)⟩
theorem ps_comp2 {i : Nat} {y : Str} {py spos : Pos} (hc : X.calm = true) (hN : X.N.Nodup) (hy : X.N[i]? = some y) (hyl : X.env.scope.names.lookup y = some .local)
    (hsw : swapsWith (.ListComp elt [⟨tg, iter, ifs, 0⟩, ⟨tg1, iter1, ifs1, 0⟩] scope pos) (some (.Name y py)) spos.line X.env = pure true) (hi : PI X tg iter (tIt κ W ik ms)) (ok : BlkOk X.N X.env.scope scope own) (hsub : ∀ i ∈ is, i ∈ own.map (·.2)) (hsub1 : ∀ i ∈ is1, i ∈ own.map (·.2)) (hset : setB iter = false) (hset1 : setB iter1 = false)
    (hg : ∀ s H C cl fp, PG (blkX X scope s H C cl fp) tg (gD κ is)) (ht : ∀ s H C cl fp, PTs (blkX X scope s H C cl fp) ifs (tDt κ W0 mt)) (hi1 : ∀ s H C cl fp, PI (blkX X scope s H C cl fp) tg1 iter1 (tIt κ W0 ik1 ms1))
    (hg1 : ∀ s H C cl fp, PG (blkX X scope s H C cl fp) tg1 (gD κ is1)) (ht1 : ∀ s H C cl fp, PTs (blkX X scope s H C cl fp) ifs1 (tDt κ W0 mt1)) (he : ∀ s H C cl fp, PE (blkX X scope s H C cl fp) elt (tD κ W0 me)) :
    PS X (.Assign [.Name y py] (.ListComp elt [⟨tg, iter, ifs, 0⟩, ⟨tg1, iter1, ifs1, 0⟩] scope pos) spos) (tAsg (tD κ W (comp2M own is is1 ik ik1 ms ms1 mt mt1 me)) (gName i)) :=
  ⟨fun pins s σ H D I h => (ps_setLc2 (vs1 := is1) hc hN hy hyl hsw hi ok hsub1 hg ht hi1 hg1 ht1 he (noset_fold hset) (fun env x => noset_fold hset1 x)).run pins s σ H D I (comp2_rd hsub _ _ _ h)⟩
end
end DL
end

section
set_option Elab.async false
set_option linter.all false
set_option maxRecDepth 100000
set_option maxHeartbeats 2000000
namespace DL
open PySem PySem.Spec PyProof.Rows L2

def PostS (κ : Kn) (W : WX) (D : Ends) (mp : Mp) (H : Hp) (o : OutS) : Prop := match o with
  | .no => False
  | .fl (.nx δ) h => ∀ σ' H' mp', Ext mp H mp' H' → RelH κ mp' H' h → RepE κ mp' H' δ σ' → D.nx σ' H'
  | .fl (.bk δ) h => ∀ σ' H' mp', Ext mp H mp' H' → RelH κ mp' H' h → RepE κ mp' H' δ σ' → D.bk σ' H'
  | .fl (.ct δ) h => ∀ σ' H' mp', Ext mp H mp' H' → RelH κ mp' H' h → RepE κ mp' H' δ σ' → D.ct σ' H'
  | .fl (.rt d) h => ∀ v H' mp', Ext mp H mp' H' → RelH κ mp' H' h → Rep κ mp' H' d v → D.rt v H'
  | .fl (.ex e δ) h => ∀ c dd σ' H' mp', Ext mp H mp' H' → RelH κ mp' H' h → RepX κ mp' H' e c dd → RepE κ mp' H' δ σ' → W c dd σ' H'
def tS (κ : Kn) (W : WX) (m : Sl → Hd → OutS) : TS := fun D σ H => ∃ mp h δ, RelH κ mp H h ∧ RepE κ mp H δ σ ∧ PostS κ W D mp H (m δ h)
theorem ps_wk {X : Cx} {e : Stmt} {t t' : TS} (p : PS X e t) (h : ∀ D σ H, t' D σ H → t D σ H) : PS X e t' := ⟨fun pins s σ H D I q => p.run pins s σ H D I (h D σ H q)⟩
theorem pss_wk {X : Cx} {e : List Stmt} {t t' : TS} (p : PSs X e t) (h : ∀ D σ H, t' D σ H → t D σ H) : PSs X e t' := ⟨fun pins s σ H D I q => p.run pins s σ H D I (h D σ H q)⟩
section
variable {α β : Type} {κ : Kn} {Rp : Mp → Hp → α → β → Prop} {W : WX} {D : Ends} {mp mp1 : Mp} {H H1 : Hp} {h : Hd} {σ : L2.St} {δ : Sl}
theorem PostS.ext {o : OutS} (p : PostS κ W D mp H o) (e : Ext mp H mp1 H1) : PostS κ W D mp1 H1 o := by
  cases o with
  | no => exact p
  | fl f h =>
    cases f with
    | nx δ => exact fun σ' H' mp' e' => p σ' H' mp' (e.trans e')
    | bk δ => exact fun σ' H' mp' e' => p σ' H' mp' (e.trans e')
    | ct δ => exact fun σ' H' mp' e' => p σ' H' mp' (e.trans e')
    | rt d => exact fun v H' mp' e' => p v H' mp' (e.trans e')
    | ex x δ => exact fun c dd σ' H' mp' e' => p c dd σ' H' mp' (e.trans e')
theorem PostS.stm {o : Out α} {f : α → Hd → OutS} {Q : β → Hp → Prop} (p : PostS κ W D mp H (o.stm δ f)) (R : RelH κ mp H h) (r : RepE κ mp H δ σ)
    (k : ∀ a h1 v H1 mp1, o = .ok a h1 → Ext mp H mp1 H1 → RelH κ mp1 H1 h1 → Rp mp1 H1 a v → PostS κ W D mp1 H1 (f a h1) → Q v H1) : PostG κ Rp W σ mp H o Q := by
  cases o with
  | no => exact p
  | ex x h => exact fun c dd H' mp' e r' q => p c dd σ H' mp' e r' q (r.ext R e)
  | ok a h => exact fun v H' mp' e r q => k a h v H' mp' rfl e r q (PostS.ext p e)
theorem PostS.then {o : OutS} {f : Sl → Hd → OutS} (p : PostS κ W D mp H (o.then f)) : PostS κ W { D with nx := tS κ W f D } mp H o := by
  cases o with
  | no => exact p
  | fl g h =>
    cases g with
    | nx δ => exact fun σ' H' mp' e' R' r' => ⟨mp', h, δ, R', r', PostS.ext p e'⟩
    | bk δ => exact p
    | ct δ => exact p
    | rt d => exact p
    | ex x δ => exact p
theorem PostS.turn {o : OutS} {f : Sl → Hd → OutS} {N : L2.St → Hp → Prop} (p : PostS κ W D mp H (o.turn f))
    (k : ∀ δ h1 σ' H' mp', Ext mp H mp' H' → RelH κ mp' H' h1 → RepE κ mp' H' δ σ' → PostS κ W D mp' H' (f δ h1) → N σ' H') : PostS κ W { D with nx := N, ct := N, bk := D.nx } mp H o := by
  cases o with
  | no => exact p
  | fl g h =>
    cases g with
    | nx δ => exact fun σ' H' mp' e' R' r' => k δ h σ' H' mp' e' R' r' (PostS.ext p e')
    | bk δ => exact p
    | ct δ => exact fun σ' H' mp' e' R' r' => k δ h σ' H' mp' e' R' r' (PostS.ext p e')
    | rt d => exact p
    | ex x δ => exact p
end

def gS1 (κ : Kn) (W : WX) (t : Tg) : TG := fun v σ H Q => ∃ (D : Ends) (mp : Mp) (h : Hd) (δ : Sl) (d : DL.D), RelH κ mp H h ∧ RepE κ mp H δ σ ∧ Rep κ mp H d v ∧ PostS κ W D mp H (storeT t d δ h) ∧ ∀ σ H, D.nx σ H → Q σ H
def gSs (κ : Kn) (W : WX) (ts : List Tg) : TGs := fun vs σ H Q => ∃ (D : Ends) (mp : Mp) (h : Hd) (δ : Sl) (ds : List DL.D), RelH κ mp H h ∧ RepE κ mp H δ σ ∧ Reps κ mp H ds vs ∧ PostS κ W D mp H (storesT ts ds δ h) ∧ ∀ σ H, D.nx σ H → Q σ H
def gS (κ : Kn) (W : WX) (ts : List Tg) : TG := fun v σ H Q => ∃ (D : Ends) (mp : Mp) (h : Hd) (δ : Sl) (d : DL.D), RelH κ mp H h ∧ RepE κ mp H δ σ ∧ Rep κ mp H d v ∧ PostS κ W D mp H (asgT ts d δ h) ∧ ∀ σ H, D.nx σ H → Q σ H
def rSetD (κ : Kn) : TSet := fun o i v H Q => ∃ mp h d1 d2 d3 h', RelH κ mp H h ∧ Rep κ mp H d1 o ∧ Rep κ mp H d2 i ∧ Rep κ mp H d3 v ∧ setD d1 d2 d3 h = some h' ∧ ∀ H', Ext mp H mp H' → RelH κ mp H' h' → Q H'
theorem ixD_ixN {n : Nat} {i : Int} {j : Nat} (h : ixD n i = some j) : ixN n i = some j := by
  unfold ixD at h
  unfold ixN
  exact h
theorem ixD_lt {n : Nat} {i : Int} {j : Nat} (h : ixD n i = some j) : j < n := by
  unfold ixD at h
  split at h
  · split at h
    · cases h; omega
    · cases h
  · split at h
    · cases h; omega
    · cases h
section
variable {X : Cx} {W : WX} {κ : Kn} {c : Ch} {k : Nat} {pos : Pos}
theorem set_D (X : Cx) : PSet X (rSetD (kn X)) := by
  intro pins s σ H o i v ov iv u Q I ro ri rv ⟨mp, h, d1, d2, d3, h', R, r1, r2, r3, e, q⟩
  refine set_list pins s σ H o i v ov iv u Q I ro ri rv ?_
  unfold setD at e
  split at e
  · rename_i r kk
    cases hq : h[r]? with
    | none => rw [hq] at e; cases e
    | some ob =>
      rw [hq] at e
      cases ob with
      | lst ds =>
        have e : ((ixD ds.length kk).map fun j => h.set r (.lst (ds.set j d3))) = some h' := e
        cases hj : ixD ds.length kk with
        | none => rw [hj] at e; cases e
        | some j =>
          rw [hj] at e
          cases e
          simp only [Rep] at r1
          obtain ⟨a, ha, rfl⟩ := r1
          rw [repInt] at r2
          subst r2
          obtain ⟨vs, hv, rs⟩ := R.ob r a _ ha hq
          have e2 : Ext mp H mp (upd H a (.lst (vs.set j v))) := RelH.putE ha
          refine ⟨a, vs, kk, j, rfl, rfl, hv, ixD_ixN (by rw [← rs.len]; exact hj), q _ e2 (R.put ha ?_)⟩
          exact ⟨_, upd_same, (rs.ext R e2).set j (r3.ext R e2)⟩
      | ins _ _ => cases e
      | dct _ _ => cases e
  · cases e
theorem tg_nm (G : Gd k c X) {e : Expr} {i : Nat} (h : nmB c e i = true) : PG X e (gS1 κ W (.nm i)) :=
  pg_wk (pg_nm G h) fun v σ H Q ⟨D, mp, hd, δ, d, R, r, rv, p, q⟩ => q _ _ (p _ H mp Ext.refl R (r.set i rv))
theorem tg_sub {o i : Expr} {eo ei : E} (hκ : kn X = κ) (hs : slB i = false) (ho : PE X o (tD κ W (denE eo))) (hi : PE X i (tD κ W (denE ei))) : PG X (.Subscript o i pos) (gS1 κ W (.sub eo ei)) := by
  subst hκ
  refine pg_wk (pg_sub ho hi (set_D X) (fun v => by cases i <;> first | rfl | cases hs)) fun v σ H Q ⟨D, mp, hd, δ, d, R, r, rv, p, q⟩ => ⟨mp, hd, δ, R, r, PostS.stm p R r fun d1 h1 o H1 mp1 _ e1 R1 r1 p1 => ⟨mp1, h1, δ, R1, r.ext R e1, PostS.stm p1 R1 (r.ext R e1) fun d2 h2 i H2 mp2 _ e2 R2 r2 p2 => ?_⟩⟩
  have r' := (r.ext R e1).ext R1 e2
  cases es : setD d1 d2 d h2 with
  | none => rw [es] at p2; exact p2.elim
  | some h' =>
    rw [es] at p2
    exact ⟨mp2, h2, d1, d2, d, h', R2, r1.ext R1 e2, r2, (rv.ext R e1).ext R1 e2, es, fun H' e3 R3 => q _ _ (p2 σ H' mp2 e3 R3 (r'.ext R2 e3))⟩
theorem tgs_nil : PGs X [] (gSs κ W []) := pgs_wk pgs_nil fun vs σ H Q ⟨D, mp, h, δ, ds, R, r, rs, p, q⟩ => by
  cases ds with
  | nil => simp only [Reps] at rs; exact ⟨rs, q _ _ (p σ H mp Ext.refl R r)⟩
  | cons _ _ => exact p.elim
theorem tgs_cons {e : Expr} {es : List Expr} {t : Tg} {ts : List Tg} (he : starB e = false) (h1 : PG X e (gS1 κ W t)) (h2 : PGs X es (gSs κ W ts)) : PGs X (e :: es) (gSs κ W (t :: ts)) := by
  refine pgs_wk (pgs_cons h1 h2 (by rw [each_cons he]; rfl)) fun vs σ H Q ⟨D, mp, h, δ, ds, R, r, rs, p, q⟩ => ?_
  cases ds with
  | nil => exact p.elim
  | cons d ds =>
    simp only [Reps] at rs
    obtain ⟨v, vr, rfl, r1, r2⟩ := rs
    have p : PostS κ W D mp H ((storeT t d δ h).then fun δ h => storesT ts ds δ h) := p
    refine ⟨v, vr, rfl, ?_⟩
    -- the later values keep, the objects may change
    refine ⟨{ D with nx := fun σ' H' => ∃ mp' h' δ', Ext mp H mp' H' ∧ RelH κ mp' H' h' ∧ RepE κ mp' H' δ' σ' ∧ PostS κ W D mp' H' (storesT ts ds δ' h') }, mp, h, δ, d, R, r, r1, ?_, fun σ' H' ⟨mp', h', δ', e', R', r', p'⟩ => ⟨D, mp', h', δ', ds, R', r', r2.ext R e', p', q⟩⟩
    cases ho : storeT t d δ h with
    | no => rw [ho] at p; exact p
    | fl g hh =>
      rw [ho] at p
      cases g with
      | nx δ1 => exact fun σ' H' mp' e' R' r' => ⟨mp', hh, δ1, e', R', r', PostS.ext p e'⟩
      | bk δ => exact p
      | ct δ => exact p
      | rt d => exact p
      | ex x δ => exact p
theorem tg_one {e : Expr} {t : Tg} (h : PG X e (gS1 κ W t)) : PG X e (gS κ W [t]) := h
theorem tg_tup {es : List Expr} {kk} {ts : List Tg} (hκ : kn X = κ) (G : Gd k c X) (hl : 2 ≤ ts.length) (h : PGs X es (gSs κ W ts)) (hn : (assignEach es X.env).length = ts.length) (hst : (assignEach es X.env).findIdx? (·.1) = none) :
    PG X (.Tuple es kk pos) (gS κ W ts) := by
  subst hκ
  refine pg_wk (pg_tup (n := ts.length) G.calm h hn hst) fun v σ H Q ⟨D, mp, hd, δ, d, R, r, rv, p, q⟩ => ?_
  cases ts with
  | nil => simp at hl
  | cons t ts =>
    cases ts with
    | nil => simp at hl
    | cons t2 ts =>
      cases d with
      | tup ds =>
        have p : PostS (kn X) W D mp H (if ds.length = (t :: t2 :: ts).length then storesT (t :: t2 :: ts) ds δ hd else .no) := p
        by_cases hl : ds.length = (t :: t2 :: ts).length
        · rw [if_pos hl] at p
          simp only [Rep] at rv
          obtain ⟨a, vs, rfl, sq, rs⟩ := rv
          exact ⟨a, vs, rfl, sq, by rw [← rs.len, hl], D, mp, hd, δ, ds, R, r, rs, p, q⟩
        · rw [if_neg hl] at p; exact p.elim
      | _ => exact p.elim
end

def lcB : Expr → Bool
  | .ListComp .. => true
  | .SetComp .. => true
  | .DictComp .. => true
  | _ => false
theorem swaps_no {e : Expr} {t : Option Expr} {l : Nat} {env : Env} (h : lcB e = false) : swapsWith e t l env = pure false := by
  cases e <;> first | rfl | cases h
theorem sole_no {e t : Expr} {l : Nat} {env : Env} (h : lcB e = false) : swapsWithSole [t] e l env = pure false := swaps_no h
def tupB : Expr → Bool
  | .Tuple .. => true
  | _ => false
theorem stores_no {e t : Expr} {env : Env} (h : tupB e = false ∨ (tupB t = false ∧ ∀ es p, t ≠ .List es p)) : swappedStores [t] e env = pure none := by
  rcases h with h | ⟨h1, h2⟩
  · cases e <;> first | (cases t <;> rfl) | cases h
  · cases t <;> first | rfl | exact (h2 _ _ rfl).elim | cases h1
def swB (sc : Scope) (ts vs : List Expr) : Option (Option (List Str)) :=
  if sc.kind = .function then
    if !(ts.length == 2 || ts.length == 3) || vs.length != ts.length then some none
    else if vs.any fun | .Starred .. => true | _ => false then some none
    else
      let line := (ts.head?.map (·.pos.line)).getD 0
      let names := ts.filterMap fun
        | .Name id pos => if sc.names.lookup id == some .local && pos.line == line then some id else none
        | _ => none
      if names.length != ts.length || names.eraseDups.length != names.length then some none
      else if vs.all (foldedForSure 8) then some none
      else if vs.all (constantsAlone 8) then none
      else some (some names)
  else none
theorem swB_ok {env : Env} {ts vs : List Expr} {r : Option (List Str)} {k1 k2 p1 p2} (h : swB env.scope ts vs = some r) : swappedStores [.Tuple ts k1 p1] (.Tuple vs k2 p2) env = pure r := by
  unfold swB at h
  split at h
  · rename_i hk
    have hb : env.blockKind = .function := by unfold Env.blockKind; rw [hk]; rfl
    unfold swappedStores
    rw [hb]
    simp only [Env.kindOf, bne_self_eq_false, Bool.or_false]
    dsimp only at h
    split at h
    · rename_i c; cases h; exact (if_pos c).trans rfl
    · rename_i c; refine (if_neg c).trans ?_
      split at h
      · rename_i c; cases h; exact (if_pos c).trans rfl
      · rename_i c; refine (if_neg c).trans ?_
        split at h
        · rename_i c; cases h; exact (if_pos c).trans rfl
        · rename_i c; refine (if_neg c).trans ?_
          split at h
          · rename_i c; cases h; exact (if_pos c).trans rfl
          · rename_i c; refine (if_neg c).trans ?_
            split at h
            · cases h
            · rename_i c; cases h; exact (if_neg c).trans rfl
  · cases h
section
variable {X : Cx} {W : WX} {κ : Kn} {c : Ch} {k : Nat} {pos : Pos} {e t : Expr} {es body a b : List Expr} {m : Sl → Hd → Out D} {ms : Sl → Hd → Out (List D)} {mc : Sl → Hd → Out Bool} {mb mb2 : Sl → Hd → OutS} {sa sb : List Stmt} {is : List Nat} {ik : IK}
theorem ds_asg {ts : List Tg} (he : PE X e (tD κ W m)) (hg : PG X t (gS κ W ts)) (h1 : swapsWithSole [t] e pos.line X.env = pure false) (h2 : swappedStores [t] e X.env = pure none) (h3 : starB t = false) : PS X (.Assign [t] e pos) (tS κ W fun δ h => (m δ h).stm δ fun v h => asgT ts v δ h) :=
  ps_wk (ps_asg he hg h1 h2 (by rw [each_cons h3]; rfl)) fun D σ H ⟨mp, h, δ, R, r, p⟩ => ⟨mp, h, δ, R, r, PostS.stm p R r fun d h1 v H1 mp1 _ e1 R1 rv p1 => ⟨D, mp1, h1, δ, d, R1, r.ext R e1, rv, p1, fun _ _ q => q⟩⟩
theorem ds_asgC {st : Stmt} {i : Nat} (hp : PS X st (tAsg (tD κ W m) (gName i))) : PS X st (tS κ W fun δ h => (m δ h).stm δ fun v h => asgT [.nm i] v δ h) :=
  ps_wk hp fun D σ H ⟨mp, h, δ, R, r, p⟩ => ⟨mp, h, δ, R, r, PostS.stm p R r fun d h1 v H1 mp1 _ e1 R1 rv p1 => p1 _ H1 mp1 Ext.refl R1 ((r.ext R e1).set i rv)⟩
theorem ds_expr (he : PE X e (tD κ W m)) (h1 : lcB e = false) : PS X (.Expr e pos) (tS κ W fun δ h => (m δ h).stm δ fun _ h => .fl (.nx δ) h) :=
  ps_wk (ps_expr he (swaps_no h1)) fun D σ H ⟨mp, h, δ, R, r, p⟩ => ⟨mp, h, δ, R, r, PostS.stm p R r fun d h1 v H1 mp1 _ e1 R1 rv p1 => p1 _ H1 mp1 Ext.refl R1 (r.ext R e1)⟩
theorem ds_ret (he : PE X e (tD κ W m)) : PS X (.Return (some e) pos) (tS κ W fun δ h => (m δ h).stm δ fun v h => .fl (.rt v) h) :=
  ps_wk (ps_ret he) fun D σ H ⟨mp, h, δ, R, r, p⟩ => ⟨mp, h, δ, R, r, PostS.stm p R r fun d h1 v H1 mp1 _ e1 R1 rv p1 => p1 _ H1 mp1 Ext.refl R1 rv⟩
theorem ds_retN : PS X (.Return none pos) (tS κ W fun _ h => .fl (.rt .non) h) :=
  ps_wk ps_retN fun D σ H ⟨mp, h, δ, R, r, p⟩ => p _ H mp Ext.refl R (repNon.mpr rfl)
theorem ds_pass : PS X (.Pass pos) (tS κ W fun δ h => .fl (.nx δ) h) := ps_wk ps_pass fun D σ H ⟨mp, h, δ, R, r, p⟩ => p _ H mp Ext.refl R r
theorem ds_brk : PS X (.Break pos) (tS κ W fun δ h => .fl (.bk δ) h) := ps_wk ps_break fun D σ H ⟨mp, h, δ, R, r, p⟩ => p _ H mp Ext.refl R r
theorem ds_cnt : PS X (.Continue pos) (tS κ W fun δ h => .fl (.ct δ) h) := ps_wk ps_continue fun D σ H ⟨mp, h, δ, R, r, p⟩ => p _ H mp Ext.refl R r
theorem ds_never {st : Stmt} : PS X st (tS κ W fun _ _ => .no) := ps_wk ps_never fun D σ H ⟨mp, h, δ, R, r, p⟩ => p
theorem ds_nil : PSs X [] (tS κ W fun δ h => .fl (.nx δ) h) := pss_wk pss_nil fun D σ H ⟨mp, h, δ, R, r, p⟩ => p _ H mp Ext.refl R r
theorem ds_cons {st : Stmt} {ss : List Stmt} (h1 : PS X st (tS κ W mb)) (h2 : PSs X ss (tS κ W mb2)) : PSs X (st :: ss) (tS κ W fun δ h => (mb δ h).then fun δ h => mb2 δ h) :=
  pss_wk (pss_cons h1 h2) fun D σ H ⟨mp, h, δ, R, r, p⟩ => ⟨mp, h, δ, R, r, PostS.then p⟩
theorem ds_if (hc : PT X e (tDt κ W mc)) (h1 : PSs X sa (tS κ W mb)) (h2 : PSs X sb (tS κ W mb2)) : PS X (.If e sa sb pos) (tS κ W fun δ h => (mc δ h).stm δ fun k h => if k then mb δ h else mb2 δ h) := by
  refine ps_wk (ps_if hc h1 h2) fun D σ H ⟨mp, h, δ, R, r, p⟩ => ⟨mp, h, δ, R, r, PostS.stm p R r fun k h1 v H1 mp1 _ e1 R1 rv p1 => ?_⟩
  have rv : k = v := rv
  subst rv
  cases k with
  | true => rw [if_pos rfl]; exact ⟨mp1, h1, δ, R1, r.ext R e1, p1⟩
  | false => rw [if_neg Bool.false_ne_true]; exact ⟨mp1, h1, δ, R1, r.ext R e1, p1⟩
theorem ds_while (hp : PassesOwn (model X.prog X.w) X.A X.env X.xe) (hc : PT X e (tDt κ W mc)) (h1 : PSs X sa (tS κ W mb)) : PS X (.While e sa [] pos) (tS κ W fun δ h => whileF mc mb δ h) := by
  refine ps_wk (ps_while hp hc h1) fun D σ H ⟨mp, h, δ, R, r, p⟩ => ?_
  dsimp only at p
  by_cases ex : ∃ n, whileN mc mb n δ h ≠ .no
  · obtain ⟨n, hn⟩ := ex
    rw [whileF_of hn] at p
    refine ⟨fun m σ H => ∃ mp h δ, RelH κ mp H h ∧ RepE κ mp H δ σ ∧ PostS κ W D mp H (whileN mc mb m δ h), ⟨n, mp, h, δ, R, r, p⟩, ?_⟩
    rintro m σ H ⟨mp, h, δ, R, r, p⟩
    cases m with
    | zero => exact p.elim
    | succ m =>
      have p : PostS κ W D mp H ((mc δ h).stm δ fun k h => if k then (mb δ h).turn fun δ h => whileN mc mb m δ h else .fl (.nx δ) h) := p
      refine ⟨mp, h, δ, R, r, PostS.stm p R r fun k h1 v H1 mp1 _ e1 R1 rv p1 => ?_⟩
      have rv : k = v := rv
      subst rv
      cases k with
      | true =>
        rw [if_pos rfl]
        rw [if_pos rfl] at p1
        exact ⟨_, fun σ' H' w => ⟨m, Nat.lt_succ_self m, w⟩, mp1, h1, δ, R1, r.ext R e1, PostS.turn p1 fun δ' h' σ' H' mp' _ R' r' p' => ⟨mp', h', δ', R', r', p'⟩⟩
      | false =>
        rw [if_neg Bool.false_ne_true]
        exact p1 _ H1 mp1 Ext.refl R1 (r.ext R e1)
  · rw [whileF_no fun n => Classical.byContradiction fun z => ex ⟨n, z⟩] at p
    exact p.elim
theorem ds_for (hp : PassesOwn (model X.prog X.w) X.A X.env X.xe) (hc : X.calm = true) (hi : PI X t e (tIt κ W ik ms)) (hg : PG X t (gD κ is)) (h1 : PSs X sa (tS κ W mb)) (hs : setB e = false) : PS X (.For t e sa [] pos) (tS κ W fun δ h => (ms δ h).stm δ fun ss h => match srcD ik ss h with
    | some xs => forF is (sameSrc ik ss h) mb xs δ h
    | none => .no) := by
  refine ps_wk (ps_for hp hc hi hg h1 (noset_fold hs)) fun D σ H ⟨mp, h, δ, R, r, p⟩ => ⟨mp, h, δ, R, r, ?_⟩
  dsimp only at p
  cases o : ms δ h with
  | no => rw [o] at p; exact p.elim
  | ex x h1 => rw [o] at p; exact fun c dd H' mp' e' R' q => p c dd σ H' mp' e' R' q (r.ext R e')
  | ok ss h1 =>
    rw [o] at p
    rw [Out.stm_ok] at p
    cases ex : srcD ik ss h1 with
    | none => rw [ex] at p; exact p.elim
    | some xs =>
      rw [ex] at p
      refine ⟨xs, ex, fun mp1 H1 J e1 R1 WD => ?_⟩
      refine ⟨fun i m σ' Hc => m = xs.length - i ∧ i ≤ xs.length ∧ ∃ mp' h' δ', Ext mp1 H1 mp' Hc ∧ RelH κ mp' Hc h' ∧ RepE κ mp' Hc δ' σ' ∧ sameSrc ik ss h1 h' ∧ PostS κ W D mp' Hc (forF is (sameSrc ik ss h1) mb (xs.drop i) δ' h'),
        ⟨xs.length, by simp, Nat.zero_le _, mp1, h1, δ, Ext.refl, R1, r.ext R e1, sameSrc_refl ik ss h1, PostS.ext p e1⟩, ?_⟩
      rintro i m σ' Hc ⟨rfl, hi, mp', h', δ', e2, R2, r2, ss2, p2⟩
      rcases Nat.lt_or_ge i xs.length with hlt | hge
      · refine .inr ⟨WD.goes i _ Hc h' hlt e2.b R2 ss2, fun σn Hn => ∃ mp' h' δ', Ext mp1 H1 mp' Hn ∧ RelH κ mp' Hn h' ∧ RepE κ mp' Hn δ' σn ∧ sameSrc ik ss h1 h' ∧ PostS κ W D mp' Hn (forF is (sameSrc ik ss h1) mb (xs.drop (i + 1)) δ' h'), fun σn Hn q => ⟨xs.length - (i + 1), by omega, rfl, hlt, q⟩, fun x H'' y => ?_⟩
        obtain ⟨e3, R3, d, ed, rd⟩ := WD.yields i _ Hc h' x H'' hlt e2.b R2 ss2 y
        have hdr : xs.drop i = d :: xs.drop (i + 1) := by
          rw [List.drop_eq_getElem_cons hlt]
          obtain ⟨_, q⟩ := List.getElem?_eq_some_iff.mp ed
          rw [q]
        rw [hdr] at p2
        have p2 : PostS κ W D mp' Hc (match storeD is d δ' with
          | some δ => (mb δ h').turn fun δ h => open Classical in if sameSrc ik ss h1 h then forF is (sameSrc ik ss h1) mb (xs.drop (i + 1)) δ h else .no
          | none => .no) := p2
        cases est : storeD is d δ' with
        | none => rw [est] at p2; exact p2.elim
        | some δ1 =>
          rw [est] at p2
          refine ⟨mp', h', δ', d, δ1, R3, r2.ext R2 e3, rd, est, fun σ1 r1 _ => ⟨mp', h', δ1, R3, r1, PostS.turn (PostS.ext p2 e3) fun δ4 h4 σ4 H4 mp4 e4 R4 r4 p4 => ?_⟩⟩
          by_cases c : sameSrc ik ss h1 h4
          · rw [if_pos c] at p4
            exact ⟨mp4, h4, δ4, (e2.trans e3).trans e4, R4, r4, c, p4⟩
          · rw [if_neg c] at p4; exact p4.elim
      · have ei : i = xs.length := by omega
        subst ei
        rw [List.drop_length] at p2
        exact .inl ⟨WD.stops _ Hc h' e2.b R2 ss2, p2 _ Hc mp' Ext.refl R2 r2⟩
theorem ds_par2 (G : Gd k c X) {i j : Nat} {x y : Str} {u v : Expr} {px py pt : Pos} {kt k2 pt2} (hi : X.N[i]? = some x) (hj : X.N[j]? = some y) (hij : i ≠ j) (hx : X.env.scope.names.lookup x = some .local) (hy : X.env.scope.names.lookup y = some .local) (ha : PA X [u, v] (tDs κ W ms))
    (hw : swB X.env.scope [.Name x px, .Name y py] [u, v] = some (some [x, y])) : PS X (.Assign [.Tuple [.Name x px, .Name y py] kt pt] (.Tuple [u, v] k2 pt2) pos)
    (tS κ W fun δ h => (ms δ h).stm δ fun vs h => if vs.length = [i, j].length then .fl (.nx (([i, j].zip vs).foldl (fun δ p => δ.set p.1 (some p.2)) δ)) h else .no) := by
  refine ps_wk (ps_par G.calm G.nd hi hj hij hx hy ha (swB_ok hw)) fun D σ H ⟨mp, h, δ, R, r, p⟩ => ⟨mp, h, δ, R, r, PostS.stm p R r fun ds h1 vs H1 mp1 _ e1 R1 rs p1 => ?_⟩
  by_cases hl : ds.length = [i, j].length
  · rw [if_pos hl] at p1
    match ds, hl with
    | [d1, d2], _ =>
      simp only [Reps] at rs
      obtain ⟨v1, _, rfl, r1, v2, _, rfl, r2, rfl⟩ := rs
      exact ⟨v1, v2, rfl, p1 _ H1 mp1 Ext.refl R1 (((r.ext R e1).set i r1).set j r2)⟩
  · rw [if_neg hl] at p1; exact p1.elim
theorem ds_par3 (G : Gd k c X) {i j l : Nat} {x y z : Str} {u v w : Expr} {px py pz pt : Pos} {kt k2 pt2} (hi : X.N[i]? = some x) (hj : X.N[j]? = some y) (hl : X.N[l]? = some z) (hij : i ≠ j) (hil : i ≠ l) (hjl : j ≠ l)
    (hx : X.env.scope.names.lookup x = some .local) (hy : X.env.scope.names.lookup y = some .local) (hz : X.env.scope.names.lookup z = some .local) (ha : PA X [u, v, w] (tDs κ W ms))
    (hw : swB X.env.scope [.Name x px, .Name y py, .Name z pz] [u, v, w] = some (some [x, y, z])) : PS X (.Assign [.Tuple [.Name x px, .Name y py, .Name z pz] kt pt] (.Tuple [u, v, w] k2 pt2) pos)
    (tS κ W fun δ h => (ms δ h).stm δ fun vs h => if vs.length = [i, j, l].length then .fl (.nx (([i, j, l].zip vs).foldl (fun δ p => δ.set p.1 (some p.2)) δ)) h else .no) := by
  refine ps_wk (ps_par3 G.calm G.nd hi hj hl hij hil hjl hx hy hz ha (swB_ok hw)) fun D σ H ⟨mp, h, δ, R, r, p⟩ => ⟨mp, h, δ, R, r, PostS.stm p R r fun ds h1 vs H1 mp1 _ e1 R1 rs p1 => ?_⟩
  by_cases hl : ds.length = [i, j, l].length
  · rw [if_pos hl] at p1
    match ds, hl with
    | [d1, d2, d3], _ =>
      simp only [Reps] at rs
      obtain ⟨v1, _, rfl, r1, v2, _, rfl, r2, v3, _, rfl, r3, rfl⟩ := rs
      exact ⟨v1, v2, v3, rfl, p1 _ H1 mp1 Ext.refl R1 ((((r.ext R e1).set i r1).set j r2).set l r3)⟩
  · rw [if_neg hl] at p1; exact p1.elim
end
end DL
end

section
set_option Elab.async false
set_option linter.all false
set_option maxRecDepth 100000
set_option maxHeartbeats 2000000
namespace DL
open PySem PySem.Spec PyProof.Rows L2

def litB : D → Expr → Bool
  | .int i, .Constant (.int j) _ _ => decide (i = j)
  | .str i, .Constant (.str j) _ _ => decide (i = j)
  | .bl i, .Constant (.bool j) _ _ => decide (i = j)
  | .non, .Constant .none _ _ => true
  | _, _ => false
def plainB (es : List Expr) : Bool := es.all fun e => !starB e
def blkB (N : List Str) (sc scope : Scope) (own : List (Str × Nat)) : Bool :=
  decide (scope.kind = .function) && scope.names.all (fun y => decide (scope.names.lookup y.1 = some y.2)) && own.all (fun p => decide (N[p.2]? = some p.1)) &&
  scope.names.all (fun y => decide (y.2 = .free → sc.names.lookup y.1 = some .cell ∨ sc.names.lookup y.1 = some .free)) &&
  scope.names.all (fun y => decide (y.2 = .local ∨ y.2 = .cell → y.1 ∈ own.map (·.1) ∨ y.1 ∉ N))
theorem blkB_ok {N : List Str} {sc scope : Scope} {own : List (Str × Nat)} (h : blkB N sc scope own = true) : BlkOk N sc scope own := by
  unfold blkB at h
  simp only [Bool.and_eq_true, decide_eq_true_eq, List.all_eq_true] at h
  obtain ⟨⟨⟨⟨h1, h2⟩, h3⟩, h4⟩, h5⟩ := h
  exact ⟨h1, h2, h3, h4, h5⟩
def subB (is : List Nat) (own : List (Str × Nat)) : Bool := is.all fun i => decide (i ∈ own.map (·.2))
theorem subB_ok {is : List Nat} {own : List (Str × Nat)} (h : subB is own = true) : ∀ i ∈ is, i ∈ own.map (·.2) := by
  unfold subB at h
  simpa only [List.all_eq_true, decide_eq_true_eq] using h
abbrev Ch.blk (c : Ch) (scope : Scope) : Ch := ⟨c.N, relS scope c.sc, false⟩
mutual
def tstE : E → Bool
  | .ife _ _ _ => false
  | .not a => tstE a
  | .and es => tstEs es
  | .or es => tstEs es
  | _ => true
def tstEs : List E → Bool
  | [] => true
  | e :: es => tstE e && tstEs es
end
mutual
def chkE (c : Ch) : E → Expr → Bool
  | .var i, e => match e with
    | .Name x _ => decide (c.N[i]? = some x) && visB c.sc x
    | _ => false
  | .lit d, e => litB d e
  | .glo x _, e => match e with
    | .Name y _ => decide (x = y) && gloB c.sc y
    | _ => false
  | .bin o a b, e => match e with
    | .BinOp l p r _ => decide (p = opOf o) && chkE c a l && chkE c b r
    | _ => false
  | .neg a, e => match e with
    | .UnaryOp .USub l _ => chkE c a l
    | _ => false
  | .cmp o a b, e => match e with
    | .Compare l [p] [r] _ => decide (p = cpOf o) && !setB r && chkE c a l && chkE c b r
    | _ => false
  | .chain o o2 a b d, e => match e with
    | .Compare l [p, p2] [r, r2] _ => decide (p = cpOf o) && decide (p2 = cpOf o2) && !setB r2 && chkE c a l && chkE c b r && chkE c d r2
    | _ => false
  | .and es, e => match e with
    | .BoolOp .And xs _ => chkEs c es xs && !es.isEmpty
    | _ => false
  | .or es, e => match e with
    | .BoolOp .Or xs _ => chkEs c es xs && !es.isEmpty
    | _ => false
  | .not a, e => match e with
    | .UnaryOp .Not l _ => chkE c a l
    | _ => false
  | .ife t a b, e => match e with
    | .IfExp z l r _ => tstE t && chkE c t z && chkE c a l && chkE c b r
    | _ => false
  | .tup es, e => match e with
    | .Tuple xs _ _ => chkEs c es xs && plainB xs && decide (xs.length < 1000)
    | _ => false
  | .lst es, e => match e with
    | .List xs _ => chkEs c es xs && plainB xs
    | _ => false
  | .lstM es, e => match e with
    | .List xs _ => chkEs c es xs && plainB xs
    | _ => false
  | .idx a i, e => match e with
    | .Subscript l r _ => !slB r && chkE c a l && chkE c i r
    | _ => false
  | .slc k a es, e => match e with
    | .Subscript l (.Slice lo hi none _) _ => chkE c a l && (match k, lo, hi with
      | .no, none, none => chkEs c es []
      | .lo, some x, none => chkEs c es [x]
      | .hi, none, some y => chkEs c es [y]
      | .both, some x, some y => chkEs c es [x, y]
      | _, _, _ => false)
    | _ => false
  | .call x _ es, e => match e with
    | .Call (.Name y _) xs [] _ => decide (x = y) && gloB c.sc y && plainB xs && chkEs c es xs
    | _ => false
  | .mth m _ _ a es, e => match e with
    | .Call (.Attribute o m2 ap) xs [] pos => decide (m = m2) && !supB o && (ap.endLine == pos.line) && plainB xs && decide (xs.length < 20) && chkE c a o && chkEs c es xs
    | _ => false
  | .fld a _ f, e => match e with
    | .Attribute o f2 _ => decide (f = f2) && !supB o && chkE c a o
    | _ => false
  | .comp own el tg ik src cs, e => match e with
    | .ListComp x [⟨t, it, ifs, 0⟩] scope _ => blkB c.N c.sc scope own && subB tg own && !setB it && tgB (c.blk scope) t tg && chkI c ik src it && chkEs (c.blk scope) cs ifs && tstEs cs && decide (cs.length < 2) && chkE (c.blk scope) el x
    | _ => false
  | .comp2 own el tg ik src cs tg1 ik1 src1 cs1, e => match e with
    | .ListComp x [⟨t, it, ifs, 0⟩, ⟨t1, it1, ifs1, 0⟩] scope _ => blkB c.N c.sc scope own && subB tg own && subB tg1 own && !setB it && !setB it1 && tgB (c.blk scope) t tg && tgB (c.blk scope) t1 tg1 && chkI c ik src it && chkI (c.blk scope) ik1 src1 it1
      && chkEs (c.blk scope) cs ifs && tstEs cs && decide (cs.length < 2) && chkEs (c.blk scope) cs1 ifs1 && tstEs cs1 && decide (cs1.length < 2) && chkE (c.blk scope) el x
    | _ => false
  | .never, _ => true
def chkEs (c : Ch) : List E → List Expr → Bool
  | [], xs => xs.isEmpty
  | e :: es, xs => match xs with
    | x :: xs => chkE c e x && chkEs c es xs
    | [] => false
def chkI (c : Ch) (ik : IK) : List E → Expr → Bool
  | [], _ => false
  | e :: es, x => match ik with
    | .seq => es.isEmpty && chkE c e x
    | .rng1 => es.isEmpty && (match x with
      | .Call (.Name r _) [a] [] _ => decide (r = "range") && gloB c.sc r && !starB a && chkE c e a
      | _ => false)
    | .rng2 => (match x with
      | .Call (.Name r _) [a, b] [] _ => decide (r = "range") && gloB c.sc r && !starB a && !starB b && chkE c e a && chkEs c es [b]
      | _ => false)
    | _ => false
end
def GloS (κ : Kn) (x : Str) (d : D) : Prop := ∃ u v, (κ.mg x = some u ∨ (κ.mg x = none ∧ bootBuiltins x = some u)) ∧ RelV v u ∧ ∀ mp H, Rep κ mp H d v
mutual
def OkE (κ : Kn) (k : Nat) : E → Prop
  | .var _ => True
  | .lit _ => True
  | .glo x d => GloS κ x d
  | .bin _ a b => OkE κ k a ∧ OkE κ k b
  | .neg a => OkE κ k a
  | .cmp _ a b => OkE κ k a ∧ OkE κ k b
  | .chain _ _ a b d => OkE κ k a ∧ OkE κ k b ∧ OkE κ k d
  | .and es => OkEs κ k es
  | .or es => OkEs κ k es
  | .not a => OkE κ k a
  | .ife t a b => OkE κ k t ∧ OkE κ k a ∧ OkE κ k b
  | .tup es => OkEs κ k es
  | .lst es => OkEs κ k es
  | .lstM es => OkEs κ k es
  | .idx a i => OkE κ k a ∧ OkE κ k i
  | .slc _ a es => OkE κ k a ∧ OkEs κ k es
  | .call x F es => CallS κ k x F ∧ OkEs κ k es
  | .mth m P F a es => MthS κ k m P F ∧ OkE κ k a ∧ OkEs κ k es
  | .fld a cn f => FldS κ cn f ∧ OkE κ k a
  | .comp _ el _ _ src cs => OkE κ k el ∧ OkEs κ k src ∧ OkEs κ k cs
  | .comp2 _ el _ _ src cs _ _ src1 cs1 => OkE κ k el ∧ OkEs κ k src ∧ OkEs κ k cs ∧ OkEs κ k src1 ∧ OkEs κ k cs1
  | .never => True
def OkEs (κ : Kn) (k : Nat) : List E → Prop
  | [] => True
  | e :: es => OkE κ k e ∧ OkEs κ k es
end

theorem pts_wk {X : Cx} {es : List Expr} {t t' : TT} (p : PTs X es t) (h : ∀ σ H Q, t' σ H Q → t σ H Q) : PTs X es t' := ⟨fun pins s σ H Q I q => p.run pins s σ H Q I (h σ H Q q)⟩
theorem takes_W0 {X : Cx} : Takes X W0 := fun u s' ⟨a, B, sI, pins, σ, H, cls, d, e, I, nb, up, sky, na, os, ag, w⟩ => w.elim
theorem Gd.blk {k : Nat} {c : Ch} {X : Cx} (G : Gd k c X) (scope : Scope) (s : Shared) (H : Hp) (C : Addr) (cl : List (Str × Addr)) (fp : List Addr) : Gd k (c.blk scope) (blkX X scope s H C cl fp) :=
  ⟨G.n, by show relS scope X.env.scope = relS scope c.sc; rw [G.sc], G.nd, G.calm, G.room, G.grd, PassesOwn.never, fun z => nomatch z⟩
section
variable {κ : Kn} {W : WX} {X : Cx}
theorem lit_ok {d : D} {e : Expr} (h : litB d e = true) : PE X e (tD κ W fun _ h => .ok d h) := by
  unfold litB at h
  split at h
  · cases of_decide_eq_true h; exact de_lit pe_int fun mp H => repInt.mpr rfl
  · cases of_decide_eq_true h; exact de_lit pe_str fun mp H => repStr.mpr rfl
  · cases of_decide_eq_true h; exact de_lit pe_bl fun mp H => repBl.mpr rfl
  · exact de_lit pe_non fun mp H => repNon.mpr rfl
  · cases h
theorem glo_ok {x : Str} {d : D} {pos : Pos} (hκ : kn X = κ) (S : GloS κ x d) (g : gloB X.env.scope x = true) : PE X (.Name x pos) (tD κ W fun _ h => .ok d h) := by
  subst hκ
  obtain ⟨g1, g2, g3⟩ := gloB_ok g
  obtain ⟨u, v, hm, r, rd⟩ := S
  rcases hm with hm | ⟨hm, hb⟩
  · exact de_lit (pe_glob g1 hm r g2) rd
  · exact de_lit (pe_bltn g1 hm hb r g3 g2) rd
theorem PostG.le {α β : Type} {Rp : Mp → Hp → α → β → Prop} {σ : L2.St} {mp : Mp} {H : Hp} {o o' : Out α} {Q : β → Hp → Prop} (l : LeO o o') (p : PostG κ Rp W σ mp H o Q) : PostG κ Rp W σ mp H o' Q := by
  rcases l with z | z
  · subst z; exact p.elim
  · subst z; exact p
theorem cs_le (e : E) (δ : Sl) (h : Hd) : LeO (denCs [e] δ h) (denT e δ h) := by
  have q : denCs [e] δ h = asT (denE e δ h) := by
    simp only [denCs, asT]
    cases denE e δ h with
    | ok x h1 => simp only [Out.bind_ok]; cases truD h1 x with
      | none => rfl
      | some k => cases k <;> rfl
    | _ => rfl
  rw [q]
  exact denT_le e δ h
theorem no_args {c : Ch} {es : List E} {xs : List Expr} (h : chkEs c es xs = true) (h0 : xs = []) : ∀ σ H Q, tDs κ W (denEs es) σ H Q → Q [] H := by
  subst h0
  cases es with
  | nil => exact fun σ H Q ⟨mp, h, δ, R, r, p⟩ => PostG.here p R Reps.nil
  | cons _ _ => cases h
structure Sd (κ : Kn) (k : Nat) (c : Ch) (X : Cx) (W : WX) : Prop where
  g : Gd k c X
  kk : kn X = κ
  tk : Takes X W
  rg : κ.mg "range" = none
theorem Sd.blk {k : Nat} {c : Ch} (S : Sd κ k c X W) (scope : Scope) (s : Shared) (H : Hp) (C : Addr) (cl : List (Str × Addr)) (fp : List Addr) : Sd κ k (c.blk scope) (blkX X scope s H C cl fp) W0 := ⟨S.g.blk scope s H C cl fp, S.kk, takes_W0, S.rg⟩
theorem Sd.glo {k : Nat} {c : Ch} (S : Sd κ k c X W) {x : Str} (h : gloB c.sc x = true) : gloB X.env.scope x = true := by rw [S.g.sc]; exact h
theorem Sd.bk {k : Nat} {c : Ch} (S : Sd κ k c X W) {scope : Scope} {own : List (Str × Nat)} (h : blkB c.N c.sc scope own = true) : BlkOk X.N X.env.scope scope own := by rw [S.g.n, S.g.sc]; exact blkB_ok h
theorem plain_cons {e : Expr} {es : List Expr} (h : plainB (e :: es) = true) : starB e = false ∧ plainB es = true := by
  unfold plainB at h
  simp only [List.all_cons, Bool.and_eq_true, Bool.not_eq_true'] at h
  exact h
end
theorem both {κ : Kn} {W : WX} {X : Cx} {x : Expr} {m : Sl → Hd → Out D} {b : Prop} (hκ : kn X = κ) (p : PE X x (tD κ W m)) (hs : tstB x = true) : PE X x (tD κ W m) ∧ (b → PT X x (tDt κ W fun δ h => (m δ h).bind fun x h => optD (truD h x) h)) :=
  ⟨p, fun _ => dt_val hκ hs p⟩
theorem pts_of {κ : Kn} {X : Cx} {xs : List Expr} {es : List E} {c : Ch} (hl : es.length < 2) (h : chkEs c es xs = true) (ht : tstEs es = true) (p : ∀ e x, es = [e] → xs = [x] → tstE e = true → PT X x (tDt κ W0 (denT e))) : PTs X xs (tDt κ W0 (denCs es)) := by
  cases es with
  | nil =>
    cases xs with
    | nil => exact pts_wk pts_nil fun σ H Q ⟨mp, h, δ, R, r, p⟩ => PostG.here (a := true) p R rfl
    | cons _ _ => cases h
  | cons e es =>
    cases es with
    | cons _ _ => simp only [List.length_cons] at hl; omega
    | nil =>
      cases xs with
      | nil => cases h
      | cons x xs =>
        have h : (chkE c e x && chkEs c [] xs) = true := h
        simp only [Bool.and_eq_true] at h
        cases xs with
        | cons _ _ => exact absurd h.2 (by simp [chkEs])
        | nil =>
          have ht : (tstE e && true) = true := ht
          rw [Bool.and_true] at ht
          exact pts_wk (pts_one (p e x rfl rfl ht)) fun σ H Q ⟨mp, h, δ, R, r, p⟩ => ⟨mp, h, δ, R, r, PostG.le (cs_le e δ h) p⟩
section
variable {a i j : E} {δ : Sl} {h : Hd}
theorem LeO.calm {α β : Type} (o : Out α) {f g : α → Hd → Out β} (p : ∀ a h, o = .ok a h → LeO (f a h) (g a h)) : LeO (o.calm.bind f) (o.bind g) := by
  cases o with
  | ok a h => exact p a h rfl
  | ex e h => exact .inl rfl
  | no => exact .inl rfl
theorem LeO.trans {α : Type} {a b c : Out α} (p : LeO a b) (q : LeO b c) : LeO a c := by
  rcases p with z | z
  · exact .inl z
  · rw [z]; exact q
theorem den_slc_no : LeO (denE (.slc .no a []) δ h) ((denE a δ h).bind fun x h => optD (slcD x none none h) h) := by
  simp only [denE, denEs, Out.calm, Out.bind_ok]
  exact LeO.refl _
theorem den_slc_lo : LeO (denE (.slc .lo a [i]) δ h) ((denE a δ h).bind fun x h => (denE i δ h).bind fun y h => match y with | .int i => optD (slcD x (some i) none h) h | _ => .no) := by
  simp only [denE, denEs, Out.bind_ok]
  refine LeO.bind (LeO.refl _) fun x h1 _ => ?_
  cases hi : denE i δ h1 with
  | no => exact .inl rfl
  | ex e h2 => exact .inl rfl
  | ok y h2 => cases y <;> exact .inr rfl
theorem den_slc_hi : LeO (denE (.slc .hi a [i]) δ h) ((denE a δ h).bind fun x h => (denE i δ h).bind fun y h => match y with | .int i => optD (slcD x none (some i) h) h | _ => .no) := by
  simp only [denE, denEs, Out.bind_ok]
  refine LeO.bind (LeO.refl _) fun x h1 _ => ?_
  cases hi : denE i δ h1 with
  | no => exact .inl rfl
  | ex e h2 => exact .inl rfl
  | ok y h2 => cases y <;> exact .inr rfl
theorem den_slc_both : LeO (denE (.slc .both a [i, j]) δ h) ((denE a δ h).bind fun x h => (denE i δ h).bind fun y h => match y with | .int i => (denE j δ h).bind fun z h => (match z with | .int j => optD (slcD x (some i) (some j) h) h | _ => .no) | _ => .no) := by
  simp only [denE, denEs, Out.bind_ok]
  refine LeO.bind (LeO.refl _) fun x h1 _ => ?_
  cases hi : denE i δ h1 with
  | no => exact .inl rfl
  | ex e h2 => exact .inl rfl
  | ok y h2 =>
    simp only [Out.bind_ok]
    cases hj : denE j δ h2 with
    | no => exact .inl rfl
    | ex e h3 => exact .inl rfl
    | ok z h3 => cases y <;> first | exact .inl rfl | (cases z <;> exact .inr rfl)
theorem den_pair : denEs [i, j] = fun δ h => (denE i δ h).bind fun d h => (denE j δ h).bind fun e h => .ok [d, e] h := by
  funext δ h
  simp only [denEs, bind_bind, Out.bind_ok]
end
theorem pe_le {X : Cx} {W : WX} {κ : Kn} {x : Expr} {m m' : Sl → Hd → Out D} (p : PE X x (tD κ W m)) (l : ∀ δ h, LeO (m' δ h) (m δ h)) : PE X x (tD κ W m') := pe_wk p fun σ H Q ⟨mp, h, δ, R, r, p⟩ => ⟨mp, h, δ, R, r, PostG.le (l δ h) p⟩
section
variable {κ : Kn} {k : Nat}
mutual
theorem sndE : ∀ (e : E) (x : Expr) (c : Ch) (X : Cx) (W : WX), Sd κ k c X W → chkE c e x = true → OkE κ k e → PE X x (tD κ W (denE e)) ∧ (tstE e = true → PT X x (tDt κ W (denT e)))
  | .var i, x, c, X, W, S, h, o => by
    cases x with
    | Name y p =>
      simp only [chkE, Bool.and_eq_true, decide_eq_true_eq] at h
      exact both S.kk (de_var (by rw [S.g.n]; exact h.1) (by rw [S.g.sc]; exact h.2)) rfl
    | _ => cases h
  | .lit d, x, c, X, W, S, h, o => both S.kk (lit_ok h) (by
    cases x with
    | Constant _ _ _ => rfl
    | _ => cases d <;> cases h)
  | .glo y d, x, c, X, W, S, h, o => by
    cases x with
    | Name z p =>
      simp only [chkE, Bool.and_eq_true, decide_eq_true_eq] at h
      obtain ⟨rfl, h⟩ := h
      exact both S.kk (glo_ok S.kk o (S.glo h)) rfl
    | _ => cases h
  | .bin p a b, x, c, X, W, S, h, o => by
    cases x with
    | BinOp l q r pos =>
      simp only [chkE, Bool.and_eq_true, decide_eq_true_eq] at h
      obtain ⟨⟨rfl, h1⟩, h2⟩ := h
      exact both S.kk (de_bin S.kk (sndE a l c X W S h1 o.1).1 (sndE b r c X W S h2 o.2).1) rfl
    | _ => cases h
  | .neg a, x, c, X, W, S, h, o => by
    cases x with
    | UnaryOp u l pos =>
      cases u with
      | USub => exact both S.kk (de_neg (sndE a l c X W S h o).1) rfl
      | _ => cases h
    | _ => cases h
  | .cmp p a b, x, c, X, W, S, h, o => by
    cases x with
    | Compare l ops rs pos =>
      match ops, rs, h with
      | [q], [r], h =>
        simp only [chkE, Bool.and_eq_true, decide_eq_true_eq, Bool.not_eq_true'] at h
        obtain ⟨⟨⟨rfl, h0⟩, h1⟩, h2⟩ := h
        have p1 := (sndE a l c X W S h1 o.1).1
        have p2 := (sndE b r c X W S h2 o.2).1
        exact ⟨de_cmp S.kk S.g.hu h0 p1 p2, fun _ => dt_cmp S.kk S.g.hu h0 p1 p2⟩
    | _ => cases h
  | .chain p p' a b d, x, c, X, W, S, h, o => by
    cases x with
    | Compare l ops rs pos =>
      match ops, rs, h with
      | [q, q2], [r, r2], h =>
        simp only [chkE, Bool.and_eq_true, decide_eq_true_eq, Bool.not_eq_true'] at h
        obtain ⟨⟨⟨⟨⟨rfl, rfl⟩, h0⟩, h1⟩, h2⟩, h3⟩ := h
        have p1 := (sndE a l c X W S h1 o.1).1
        have p2 := (sndE b r c X W S h2 o.2.1).1
        have p3 := (sndE d r2 c X W S h3 o.2.2).1
        exact ⟨de_chain S.kk S.g.hu h0 p1 p2 p3, fun _ => dt_chain S.kk S.g.hu h0 p1 p2 p3⟩
    | _ => cases h
  | .and es, x, c, X, W, S, h, o => by
    cases x with
    | BoolOp u xs pos =>
      cases u with
      | And =>
        simp only [chkE, Bool.and_eq_true, Bool.not_eq_true'] at h
        have q := sndAnd es xs pos c X W S h.1 h.2 o
        exact ⟨q.1, fun t => (q.2 t).pt⟩
      | _ => cases h
    | _ => cases h
  | .or es, x, c, X, W, S, h, o => by
    cases x with
    | BoolOp u xs pos =>
      cases u with
      | Or =>
        simp only [chkE, Bool.and_eq_true, Bool.not_eq_true'] at h
        have q := sndOr es xs pos c X W S h.1 h.2 o
        exact ⟨q.1, fun t => (q.2 t).pt⟩
      | _ => cases h
    | _ => cases h
  | .not a, x, c, X, W, S, h, o => by
    cases x with
    | UnaryOp u l pos =>
      cases u with
      | Not => have q := sndE a l c X W S h o; exact ⟨de_not q.1, fun t => dt_not (q.2 t)⟩
      | _ => cases h
    | _ => cases h
  | .ife t a b, x, c, X, W, S, h, o => by
    cases x with
    | IfExp z l r pos =>
      simp only [chkE, Bool.and_eq_true] at h
      obtain ⟨⟨⟨h0, h1⟩, h2⟩, h3⟩ := h
      refine ⟨?_, fun t => nomatch t⟩
      refine pe_wk (de_ife ((sndE t z c X W S h1 o.1).2 h0) (sndE a l c X W S h2 o.2.1).1 (sndE b r c X W S h3 o.2.2).1) fun σ H Q ⟨mp, hh, δ, R, r, p⟩ => ⟨mp, hh, δ, R, r, PostG.le ?_ p⟩
      have l1 := denT_le t δ hh
      simp only [denE]
      rcases l1 with z | z
      · left
        unfold asT at z
        cases ho : denE t δ hh with
        | no => rfl
        | ex e h => rw [ho] at z; cases z
        | ok d h =>
          rw [ho] at z
          simp only [Out.bind_ok] at z ⊢
          cases ht : truD h d with
          | none => rfl
          | some k => rw [ht] at z; cases z
      · right
        rw [← z]
        unfold asT
        rw [bind_bind]
        congr 1
        funext d h
        cases truD h d with
        | none => rfl
        | some k => cases k <;> rfl
    | _ => cases h
  | .tup es, x, c, X, W, S, h, o => by
    cases x with
    | Tuple xs kk pos =>
      simp only [chkE, Bool.and_eq_true] at h
      exact both S.kk (de_tup S.kk h.2 (sndEs es xs c X W S h.1.1 h.1.2 o)) rfl
    | _ => cases h
  | .lst es, x, c, X, W, S, h, o => by
    cases x with
    | List xs pos =>
      simp only [chkE, Bool.and_eq_true] at h
      exact both S.kk (de_lst S.kk (sndEs es xs c X W S h.1 h.2 o)) rfl
    | _ => cases h
  | .lstM es, x, c, X, W, S, h, o => by
    cases x with
    | List xs pos =>
      simp only [chkE, Bool.and_eq_true] at h
      exact both S.kk (de_lstM S.kk (sndEs es xs c X W S h.1 h.2 o)) rfl
    | _ => cases h
  | .idx a i, x, c, X, W, S, h, o => by
    cases x with
    | Subscript l r pos =>
      simp only [chkE, Bool.and_eq_true, Bool.not_eq_true'] at h
      exact both S.kk (de_idx S.kk S.g.hu h.1.1 (sndE a l c X W S h.1.2 o.1).1 (sndE i r c X W S h.2 o.2).1) rfl
    | _ => cases h
  | .call y F es, x, c, X, W, S, h, o => by
    cases x with
    | Call f xs kw pos =>
      cases f with
      | Name z p =>
        cases kw with
        | nil =>
          simp only [chkE, Bool.and_eq_true, decide_eq_true_eq] at h
          obtain ⟨⟨⟨rfl, h1⟩, h2⟩, h3⟩ := h
          exact both S.kk (de_call S.kk S.g.room S.g.grd S.g.calm S.tk o.1 (S.glo h1) h2 (no_args h3) (sndEs es xs c X W S h3 h2 o.2)) rfl
        | cons _ _ => cases h
      | _ => cases h
    | _ => cases h
  | .mth m P F a es, x, c, X, W, S, h, o => by
    cases x with
    | Call f xs kw pos =>
      cases f with
      | Attribute ob m2 ap =>
        cases kw with
        | nil =>
          simp only [chkE, Bool.and_eq_true, decide_eq_true_eq, Bool.not_eq_true'] at h
          obtain ⟨⟨⟨⟨⟨⟨rfl, h1⟩, h2⟩, h3⟩, h4⟩, h5⟩, h6⟩ := h
          exact both S.kk (de_mth S.kk S.g.room S.g.grd S.g.calm S.tk o.1 h1 h2 h3 (decide_eq_true h4) (no_args h6) (sndE a ob c X W S h5 o.2.1).1 (sndEs es xs c X W S h6 h3 o.2.2)) rfl
        | cons _ _ => cases h
      | _ => cases h
    | _ => cases h
  | .fld a cn f, x, c, X, W, S, h, o => by
    cases x with
    | Attribute ob f2 pos =>
      simp only [chkE, Bool.and_eq_true, decide_eq_true_eq, Bool.not_eq_true'] at h
      obtain ⟨⟨rfl, h1⟩, h2⟩ := h
      exact both S.kk (de_fld S.kk o.1 h1 (sndE a ob c X W S h2 o.2).1) rfl
    | _ => cases h
  | .slc sk a [], x, c, X, W, S, h, o => by
    cases x with
    | Subscript l r pos =>
      cases r with
      | Slice lo hi st p2 =>
        cases st with
        | some _ => cases h
        | none =>
          simp only [chkE, Bool.and_eq_true] at h
          have q := (sndE a l c X W S h.1 o.1).1
          have h2 := h.2
          split at h2
          · exact both S.kk (pe_le (slc_no S.kk q) fun δ h => den_slc_no) rfl
          · simp [chkEs] at h2
          · simp [chkEs] at h2
          · simp [chkEs] at h2
          · cases h2
      | _ => cases h
    | _ => cases h
  | .slc sk a [i], x, c, X, W, S, h, o => by
    cases x with
    | Subscript l r pos =>
      cases r with
      | Slice lo hi st p2 =>
        cases st with
        | some _ => cases h
        | none =>
          simp only [chkE, Bool.and_eq_true] at h
          have q := (sndE a l c X W S h.1 o.1).1
          have q2 := fun y hy => (sndE i y c X W S hy o.2.1).1
          have h2 := h.2
          split at h2
          · simp [chkEs] at h2
          · simp only [chkEs, Bool.and_eq_true] at h2
            exact both S.kk (pe_le (slc_lo S.kk q (q2 _ h2.1)) fun δ h => den_slc_lo) rfl
          · simp only [chkEs, Bool.and_eq_true] at h2
            exact both S.kk (pe_le (slc_hi S.kk q (q2 _ h2.1)) fun δ h => den_slc_hi) rfl
          · simp [chkEs] at h2
          · cases h2
      | _ => cases h
    | _ => cases h
  | .slc sk a [i, j], x, c, X, W, S, h, o => by
    cases x with
    | Subscript l r pos =>
      cases r with
      | Slice lo hi st p2 =>
        cases st with
        | some _ => cases h
        | none =>
          simp only [chkE, Bool.and_eq_true] at h
          have q := (sndE a l c X W S h.1 o.1).1
          have q2 := fun y hy => (sndE i y c X W S hy o.2.1).1
          have q3 := fun y hy => (sndE j y c X W S hy o.2.2.1).1
          have h2 := h.2
          split at h2
          · simp [chkEs] at h2
          · simp [chkEs] at h2
          · simp [chkEs] at h2
          · simp only [chkEs, Bool.and_eq_true] at h2
            exact both S.kk (pe_le (slc_both S.kk q (q2 _ h2.1) (q3 _ h2.2.1)) fun δ h => den_slc_both) rfl
          · cases h2
      | _ => cases h
    | _ => cases h
  | .slc sk a (_ :: _ :: _ :: _), x, c, X, W, S, h, o => by
    cases x with
    | Subscript l r pos =>
      cases r with
      | Slice lo hi st p2 =>
        cases st with
        | some _ => cases h
        | none =>
          simp only [chkE, Bool.and_eq_true] at h
          have h2 := h.2
          split at h2 <;> first | (simp [chkEs] at h2; done) | cases h2
      | _ => cases h
    | _ => cases h
  | .comp own el tg ik src cs, x, c, X, W, S, h, o => by
    cases x with
    | ListComp x gs scope pos =>
      have hh := h
      unfold chkE at hh
      split at hh
      · rename_i q
        cases q
        simp only [Bool.and_eq_true, Bool.not_eq_true', decide_eq_true_eq] at hh
        obtain ⟨⟨⟨⟨⟨⟨⟨⟨h1, h2⟩, h3⟩, h4⟩, h5⟩, h6⟩, h7⟩, h8⟩, h9⟩ := hh
        refine both S.kk (de_comp S.kk S.g.calm S.g.nd (sndI ik src _ _ c X W S h5 o.2.1) (S.bk h1) (subB_ok h2) h3 (fun s H C cl fp => dg_tg (S.blk _ s H C cl fp).kk (S.blk _ s H C cl fp).g h4) (fun s H C cl fp => ?_) (fun s H C cl fp => (sndE el _ _ _ W0 (S.blk _ s H C cl fp) h9 o.1).1)) rfl
        exact sndCs cs _ _ _ (S.blk _ s H C cl fp) h8 h6 h7 o.2.2
      · cases hh
    | _ => cases h
  | .comp2 own el tg ik src cs tg1 ik1 src1 cs1, x, c, X, W, S, h, o => by
    cases x with
    | ListComp x gs scope pos =>
      have hh := h
      unfold chkE at hh
      split at hh
      · rename_i q
        cases q
        simp only [Bool.and_eq_true, Bool.not_eq_true', decide_eq_true_eq] at hh
        obtain ⟨⟨⟨⟨⟨⟨⟨⟨⟨⟨⟨⟨⟨⟨⟨h1, h2⟩, h3⟩, h4⟩, h5⟩, h6⟩, h7⟩, h8⟩, h9⟩, h10⟩, h11⟩, h12⟩, h13⟩, h14⟩, h15⟩, h16⟩ := hh
        refine both S.kk (de_comp2 S.kk S.g.calm S.g.nd (sndI ik src _ _ c X W S h8 o.2.1) (S.bk h1) (subB_ok h2) (subB_ok h3) h4 h5 (fun s H C cl fp => dg_tg (S.blk _ s H C cl fp).kk (S.blk _ s H C cl fp).g h6) (fun s H C cl fp => sndCs cs _ _ _ (S.blk _ s H C cl fp) h12 h10 h11 o.2.2.1)
          (fun s H C cl fp => sndI ik1 src1 _ _ _ _ W0 (S.blk _ s H C cl fp) h9 o.2.2.2.1) (fun s H C cl fp => dg_tg (S.blk _ s H C cl fp).kk (S.blk _ s H C cl fp).g h7) (fun s H C cl fp => sndCs cs1 _ _ _ (S.blk _ s H C cl fp) h15 h13 h14 o.2.2.2.2) (fun s H C cl fp => (sndE el _ _ _ W0 (S.blk _ s H C cl fp) h16 o.1).1)) rfl
      · cases hh
    | _ => cases h
  | .never, x, c, X, W, S, h, o => ⟨⟨fun pins s σ H Q I ⟨_, _, _, _, _, p⟩ => p.elim⟩, fun _ => ⟨fun pins s σ H Q I ⟨_, _, _, _, _, p⟩ => p.elim⟩⟩
theorem sndEs : ∀ (es : List E) (xs : List Expr) (c : Ch) (X : Cx) (W : WX), Sd κ k c X W → chkEs c es xs = true → plainB xs = true → OkEs κ k es → PA X xs (tDs κ W (denEs es))
  | [], x, c, X, W, S, h, p, o => by
    cases x with
    | nil => exact da_nil
    | cons _ _ => cases h
  | e :: es, x, c, X, W, S, h, p, o => by
    cases x with
    | nil => cases h
    | cons x xs =>
      simp only [chkEs, Bool.and_eq_true] at h
      obtain ⟨p1, p2⟩ := plain_cons p
      exact da_cons p1 (sndE e x c X W S h.1 o.1).1 (sndEs es xs c X W S h.2 p2 o.2)
theorem sndCs : ∀ (es : List E) (xs : List Expr) (c : Ch) (X : Cx), Sd κ k c X W0 → es.length < 2 → chkEs c es xs = true → tstEs es = true → OkEs κ k es → PTs X xs (tDt κ W0 (denCs es))
  | [], xs, c, X, S, hl, h, t, o => pts_of hl h t fun e x z _ _ => nomatch z
  | [e], xs, c, X, S, hl, h, t, o => pts_of hl h t fun e' x z z2 t' => by
    cases z
    subst z2
    have h : (chkE c e x && true) = true := h
    rw [Bool.and_true] at h
    exact (sndE e x c X W0 S h o.1).2 t'
  | _ :: _ :: _, xs, c, X, S, hl, h, t, o => absurd hl (by simp)
theorem sndI : ∀ (ik : IK) (es : List E) (x t : Expr) (c : Ch) (X : Cx) (W : WX), Sd κ k c X W → chkI c ik es x = true → OkEs κ k es → PI X t x (tIt κ W ik (denEs es))
  | _, [], x, t, c, X, W, S, h, o => by cases h
  | ik, [e], x, t, c, X, W, S, h, o => by
    cases ik with
    | seq =>
      simp only [chkI, Bool.and_eq_true] at h
      exact di_seq S.kk (sndE e x c X W S h.2 o.1).1
    | rng1 =>
      simp only [chkI, Bool.and_eq_true] at h
      have h2 := h.2
      split at h2
      · simp only [Bool.and_eq_true, decide_eq_true_eq, Bool.not_eq_true'] at h2
        obtain ⟨⟨⟨rfl, h3⟩, h4⟩, h5⟩ := h2
        exact di_rng1 S.kk (by rw [← S.rg, ← S.kk]) (gloB_ok (S.glo h3)).1 h4 (sndE e _ c X W S h5 o.1).1
      · cases h2
    | rng2 =>
      simp only [chkI] at h
      split at h
      · simp [chkEs] at h
      · cases h
    | _ => cases h
  | ik, [e, e2], x, t, c, X, W, S, h, o => by
    cases ik with
    | seq => cases h
    | rng1 => cases h
    | rng2 =>
      simp only [chkI] at h
      split at h
      · simp only [chkEs, Bool.and_eq_true, decide_eq_true_eq, Bool.not_eq_true'] at h
        obtain ⟨⟨⟨⟨⟨rfl, h3⟩, h4⟩, h5⟩, h6⟩, h7⟩ := h
        rw [den_pair]
        exact di_rng2 S.kk (by rw [← S.rg, ← S.kk]) (gloB_ok (S.glo h3)).1 h4 h5 (sndE e _ c X W S h6 o.1).1 (sndE e2 _ c X W S h7.1 o.2.1).1
      · cases h
    | _ => cases h
  | ik, _ :: _ :: _ :: _, x, t, c, X, W, S, h, o => by
    cases ik with
    | rng2 =>
      simp only [chkI] at h
      split at h
      · simp [chkEs] at h
      · cases h
    | seq => cases h
    | rng1 => cases h
    | _ => cases h
theorem sndAnd : ∀ (es : List E) (xs : List Expr) (pos : Pos) (c : Ch) (X : Cx) (W : WX), Sd κ k c X W → chkEs c es xs = true → es.isEmpty = false → OkEs κ k es → PE X (.BoolOp .And xs pos) (tD κ W (denAnd es)) ∧ (tstEs es = true → PW X (.BoolOp .And xs pos) (tDt κ W (denTA es)))
  | [], xs, pos, c, X, W, S, h, n, o => by cases n
  | [e], xs, pos, c, X, W, S, h, n, o => by
    match xs, h with
    | [x], h =>
      simp only [chkEs, Bool.and_eq_true] at h
      have q := sndE e x c X W S h.1 o.1
      exact ⟨de_and1 q.1, fun t => dw_and1 (q.2 (by simpa [tstEs] using t))⟩
    | [], h => cases h
    | _ :: _ :: _, h => simp [chkEs] at h
  | e :: e2 :: es, xs, pos, c, X, W, S, h, n, o => by
    match xs, h with
    | [], h => cases h
    | [_], h => simp [chkEs] at h
    | x :: x2 :: xs, h =>
      have h : (chkE c e x && chkEs c (e2 :: es) (x2 :: xs)) = true := h
      simp only [Bool.and_eq_true] at h
      have q := sndE e x c X W S h.1 o.1
      have q2 := sndAnd (e2 :: es) (x2 :: xs) pos c X W S h.2 rfl o.2
      refine ⟨de_and q.1 q2.1, fun t => ?_⟩
      have t : (tstE e && tstEs (e2 :: es)) = true := t
      simp only [Bool.and_eq_true] at t
      exact dw_and (q.2 t.1) (q2.2 t.2)
theorem sndOr : ∀ (es : List E) (xs : List Expr) (pos : Pos) (c : Ch) (X : Cx) (W : WX), Sd κ k c X W → chkEs c es xs = true → es.isEmpty = false → OkEs κ k es → PE X (.BoolOp .Or xs pos) (tD κ W (denOr es)) ∧ (tstEs es = true → PW X (.BoolOp .Or xs pos) (tDt κ W (denTO es)))
  | [], xs, pos, c, X, W, S, h, n, o => by cases n
  | [e], xs, pos, c, X, W, S, h, n, o => by
    match xs, h with
    | [x], h =>
      simp only [chkEs, Bool.and_eq_true] at h
      have q := sndE e x c X W S h.1 o.1
      exact ⟨de_or1 q.1, fun t => dw_or1 (q.2 (by simpa [tstEs] using t))⟩
    | [], h => cases h
    | _ :: _ :: _, h => simp [chkEs] at h
  | e :: e2 :: es, xs, pos, c, X, W, S, h, n, o => by
    match xs, h with
    | [], h => cases h
    | [_], h => simp [chkEs] at h
    | x :: x2 :: xs, h =>
      have h : (chkE c e x && chkEs c (e2 :: es) (x2 :: xs)) = true := h
      simp only [Bool.and_eq_true] at h
      have q := sndE e x c X W S h.1 o.1
      have q2 := sndOr (e2 :: es) (x2 :: xs) pos c X W S h.2 rfl o.2
      refine ⟨de_or q.1 q2.1, fun t => ?_⟩
      have t : (tstE e && tstEs (e2 :: es)) = true := t
      simp only [Bool.and_eq_true] at t
      exact dw_or (q.2 t.1) (q2.2 t.2)
end
end

def chkTg (c : Ch) : Tg → Expr → Bool
  | .nm i, e => nmB c e i
  | .sub o i, e => match e with
    | .Subscript a b _ => !slB b && chkE c o a && chkE c i b
    | _ => false
  | .fld _ _ _, _ => false
def chkTgs (c : Ch) : List Tg → List Expr → Bool
  | [], [] => true
  | t :: ts, e :: es => chkTg c t e && chkTgs c ts es
  | _, _ => false
def listB : Expr → Bool
  | .List .. => true
  | _ => false
def lcSet (c : Ch) (t x : Expr) : Bool := match t, x with
  | .Name y py, .ListComp e gs scope pos => decide (c.sc.kind = .function) && decide (c.sc.names.lookup y = some .local) && (py.line == pos.line) && !(scope.names.any fun (n, k) => n == y && (k == .local || k == .cell))
  | _, _ => false
def lcNot (c : Ch) (t x : Expr) : Bool := match t, x with
  | .Name y py, .ListComp e gs scope pos => decide (c.sc.kind = .function) && !(decide (c.sc.names.lookup y = some .local) && (py.line == pos.line) && !(scope.names.any fun (n, k) => n == y && (k == .local || k == .cell)))
  | _, _ => false
mutual
def chkS (c : Ch) : S → Stmt → Bool
  | .asg ts e, st => match st with
    | .Assign [t] x _ => chkE c e x && (match ts with
      | [g] => chkTg c g t && !tupB t && !listB t && ((!lcB x) || lcNot c t x || (lcSet c t x && (match g, e with
        | .nm _, .comp _ _ _ _ _ _ => true
        | .nm _, .comp2 _ _ _ _ _ _ _ _ _ _ => true
        | _, _ => false)))
      | ts => !lcB x && (match t with
        | .Tuple es _ _ => chkTgs c ts es && decide (2 ≤ ts.length) && (match x with
          | .Tuple vs _ _ => decide (swB c.sc es vs = some none)
          | _ => true)
        | _ => false))
    | _ => false
  | .par tg es, st => match st with
    | .Assign [.Tuple ts _ _] (.Tuple vs _ _) _ => chkEs c es vs && plainB vs && (match tg, ts, vs with
      | [i, j], [.Name x p, .Name y q], [a, b] => decide (c.N[i]? = some x) && decide (c.N[j]? = some y) && decide (i ≠ j) && decide (c.sc.names.lookup x = some .local) && decide (c.sc.names.lookup y = some .local) && decide (swB c.sc [.Name x p, .Name y q] [a, b] = some (some [x, y]))
      | [i, j, l], [.Name x p, .Name y q, .Name z r], [a, b, d] => decide (c.N[i]? = some x) && decide (c.N[j]? = some y) && decide (c.N[l]? = some z) && decide (i ≠ j) && decide (i ≠ l) && decide (j ≠ l) && decide (c.sc.names.lookup x = some .local) && decide (c.sc.names.lookup y = some .local)
        && decide (c.sc.names.lookup z = some .local) && decide (swB c.sc [.Name x p, .Name y q, .Name z r] [a, b, d] = some (some [x, y, z]))
      | _, _, _ => false)
    | _ => false
  | .expr e, st => match st with
    | .Expr x _ => !lcB x && chkE c e x
    | _ => false
  | .ret e, st => match st with
    | .Return (some x) _ => chkE c e x
    | _ => false
  | .retN, st => match st with
    | .Return none _ => true
    | _ => false
  | .ife t a b, st => match st with
    | .If x sa sb _ => tstE t && chkE c t x && chkSs c a sa && chkSs c b sb
    | _ => false
  | .whl t b, st => match st with
    | .While x sb [] _ => tstE t && chkE c t x && chkSs c b sb
    | _ => false
  | .fors tg ik src b, st => match st with
    | .For t it sb [] _ => !setB it && tgB c t tg && chkI c ik src it && chkSs c b sb
    | _ => false
  | .pass, st => match st with
    | .Pass _ => true
    | _ => false
  | .brk, st => match st with
    | .Break _ => true
    | _ => false
  | .cnt, st => match st with
    | .Continue _ => true
    | _ => false
  | .aug _ _ _, _ => false
  | .raise _ _ _, _ => false
  | .tryx _ _, _ => false
  | .never, _ => true
def chkSs (c : Ch) : List S → List Stmt → Bool
  | [], xs => xs.isEmpty
  | s :: ss, xs => match xs with
    | x :: xs => chkS c s x && chkSs c ss xs
    | [] => false
end
def OkT (κ : Kn) (k : Nat) : Tg → Prop
  | .nm _ => True
  | .sub o i => OkE κ k o ∧ OkE κ k i
  | .fld o cn f => FldS κ cn f ∧ OkE κ k o
def OkTs (κ : Kn) (k : Nat) : List Tg → Prop
  | [] => True
  | t :: ts => OkT κ k t ∧ OkTs κ k ts
mutual
def OkS (κ : Kn) (k : Nat) : S → Prop
  | .asg ts e => OkTs κ k ts ∧ OkE κ k e
  | .par _ es => OkEs κ k es
  | .aug _ _ e => OkE κ k e
  | .expr e => OkE κ k e
  | .ret e => OkE κ k e
  | .ife t a b => OkE κ k t ∧ OkSs κ k a ∧ OkSs κ k b
  | .whl t b => OkE κ k t ∧ OkSs κ k b
  | .fors _ _ src b => OkEs κ k src ∧ OkSs κ k b
  | .raise _ _ es => OkEs κ k es
  | .tryx b _ => OkSs κ k b
  | _ => True
def OkSs (κ : Kn) (k : Nat) : List S → Prop
  | [] => True
  | s :: ss => OkS κ k s ∧ OkSs κ k ss
end
section
variable {κ : Kn} {k : Nat}
theorem sndTg {W : WX} {X : Cx} {c : Ch} (S : Sd κ k c X W) : ∀ (t : Tg) (e : Expr), chkTg c t e = true → OkT κ k t → PG X e (gS1 κ W t) ∧ starB e = false
  | .nm i, e, h, o => ⟨tg_nm S.g h, nm_star h⟩
  | .sub eo ei, e, h, o => by
    cases e with
    | Subscript a b pos =>
      simp only [chkTg, Bool.and_eq_true, Bool.not_eq_true'] at h
      exact ⟨tg_sub S.kk h.1.1 (sndE eo a c X W S h.1.2 o.1).1 (sndE ei b c X W S h.2 o.2).1, rfl⟩
    | _ => cases h
  | .fld _ _ _, e, h, o => by cases h
theorem sndTgs {W : WX} {X : Cx} {c : Ch} (S : Sd κ k c X W) : ∀ (ts : List Tg) (es : List Expr), chkTgs c ts es = true → OkTs κ k ts → PGs X es (gSs κ W ts) ∧ (assignEach es X.env).length = ts.length ∧ (assignEach es X.env).findIdx? (·.1) = none
  | [], [], h, o => ⟨tgs_nil, rfl, rfl⟩
  | [], _ :: _, h, o => by cases h
  | _ :: _, [], h, o => by cases h
  | t :: ts, e :: es, h, o => by
    have h : (chkTg c t e && chkTgs c ts es) = true := h
    simp only [Bool.and_eq_true] at h
    obtain ⟨p1, p2⟩ := sndTg S t e h.1 o.1
    obtain ⟨q1, q2, q3⟩ := sndTgs S ts es h.2 o.2
    refine ⟨tgs_cons p2 p1 q1, ?_, ?_⟩
    · rw [each_cons p2]; simp [q2]
    · rw [each_cons p2, List.findIdx?_cons, q3]; rfl
theorem swaps_lc {c : Ch} {X : Cx} (G : Gd k c X) {y : Str} {py pos : Pos} {e : Expr} {gs : List Comprehension} {scope : Scope} {l : Nat} (h : lcSet c (.Name y py) (.ListComp e gs scope pos) = true) : swapsWith (.ListComp e gs scope pos) (some (.Name y py)) l X.env = pure true ∧ X.env.scope.names.lookup y = some .local := by
  simp only [lcSet, Bool.and_eq_true, decide_eq_true_eq] at h
  obtain ⟨⟨⟨h1, h2⟩, h3⟩, h4⟩ := h
  refine ⟨?_, by rw [G.sc]; exact h2⟩
  have hb : X.env.blockKind = .function := by unfold Env.blockKind; rw [G.sc, h1]; rfl
  have hk : X.env.kindOf y = some .local := by unfold Env.kindOf; rw [G.sc]; exact h2
  show (pure (X.env.blockKind == .function && X.env.kindOf y == some .local && py.line == (Expr.ListComp e gs scope pos).pos.line && !(scope.names.any fun (n, k) => n == y && (k == .local || k == .cell))) : Sem Bool) = pure true
  rw [hb, hk]
  have h3' : (py.line == (Expr.ListComp e gs scope pos).pos.line) = true := h3
  rw [h3', h4]
  rfl
theorem swaps_lcNot {c : Ch} {X : Cx} (G : Gd k c X) {t x : Expr} {l : Nat} (h : lcNot c t x = true) : swapsWithSole [t] x l X.env = pure false := by
  unfold lcNot at h
  split at h
  · rename_i y py e gs scope pos
    simp only [Bool.and_eq_true, decide_eq_true_eq, Bool.not_eq_true'] at h
    obtain ⟨h1, h2⟩ := h
    have hb : X.env.blockKind = .function := by unfold Env.blockKind; rw [G.sc, h1]; rfl
    show (pure (X.env.blockKind == .function && X.env.kindOf y == some .local && py.line == (Expr.ListComp e gs scope pos).pos.line && !(scope.names.any fun (n, k) => n == y && (k == .local || k == .cell))) : Sem Bool) = pure false
    rw [hb]
    unfold Env.kindOf
    rw [G.sc]
    have e1 : (c.sc.names.lookup y == some .local) = decide (c.sc.names.lookup y = some .local) := by
      by_cases z : c.sc.names.lookup y = some .local
      · rw [z]; rfl
      · rw [decide_eq_false z]; exact beq_eq_false_iff_ne.mpr z
    rw [e1]
    congr 1
  · cases h
theorem sndLc {W : WX} {X : Cx} {c : Ch} (S : Sd κ k c X W) {t x : Expr} {i : Nat} {e : E} {pos : Pos} (h1 : lcSet c t x = true) (h2 : nmB c t i = true) (h : chkE c e x = true) (o : OkE κ k e) (he : (match e with | .comp _ _ _ _ _ _ => true | .comp2 _ _ _ _ _ _ _ _ _ _ => true | _ => false) = true) :
    PS X (.Assign [t] x pos) (tAsg (tD κ W (denE e)) (gName i)) := by
  cases t with
  | Name y py =>
    have h2 : (decide (c.N[i]? = some y) && locB c y) = true := h2
    simp only [Bool.and_eq_true, decide_eq_true_eq] at h2
    have hN : X.N[i]? = some y := by rw [S.g.n]; exact h2.1
    cases x with
    | ListComp x gs scope pos' =>
      obtain ⟨sw, sl⟩ := swaps_lc S.g (l := pos.line) h1
      cases e with
      | comp own el tg ik src cs =>
        have hh := h
        unfold chkE at hh
        split at hh
        · rename_i q
          cases q
          simp only [Bool.and_eq_true, Bool.not_eq_true', decide_eq_true_eq] at hh
          obtain ⟨⟨⟨⟨⟨⟨⟨⟨h1, h2⟩, h3⟩, h4⟩, h5⟩, h6⟩, h7⟩, h8⟩, h9⟩ := hh
          exact ps_comp S.g.calm S.g.nd hN sl sw (sndI ik src _ _ c X W S h5 o.2.1) (S.bk h1) (subB_ok h2) h3 (fun s H C cl fp => dg_tg (S.blk _ s H C cl fp).kk (S.blk _ s H C cl fp).g h4) (fun s H C cl fp => sndCs cs _ _ _ (S.blk _ s H C cl fp) h8 h6 h7 o.2.2) (fun s H C cl fp => (sndE el _ _ _ W0 (S.blk _ s H C cl fp) h9 o.1).1)
        · cases hh
      | comp2 own el tg ik src cs tg1 ik1 src1 cs1 =>
        have hh := h
        unfold chkE at hh
        split at hh
        · rename_i q
          cases q
          simp only [Bool.and_eq_true, Bool.not_eq_true', decide_eq_true_eq] at hh
          obtain ⟨⟨⟨⟨⟨⟨⟨⟨⟨⟨⟨⟨⟨⟨⟨h1, h2⟩, h3⟩, h4⟩, h5⟩, h6⟩, h7⟩, h8⟩, h9⟩, h10⟩, h11⟩, h12⟩, h13⟩, h14⟩, h15⟩, h16⟩ := hh
          exact ps_comp2 S.g.calm S.g.nd hN sl sw (sndI ik src _ _ c X W S h8 o.2.1) (S.bk h1) (subB_ok h2) (subB_ok h3) h4 h5 (fun s H C cl fp => dg_tg (S.blk _ s H C cl fp).kk (S.blk _ s H C cl fp).g h6) (fun s H C cl fp => sndCs cs _ _ _ (S.blk _ s H C cl fp) h12 h10 h11 o.2.2.1)
            (fun s H C cl fp => sndI ik1 src1 _ _ _ _ W0 (S.blk _ s H C cl fp) h9 o.2.2.2.1) (fun s H C cl fp => dg_tg (S.blk _ s H C cl fp).kk (S.blk _ s H C cl fp).g h7) (fun s H C cl fp => sndCs cs1 _ _ _ (S.blk _ s H C cl fp) h15 h13 h14 o.2.2.2.2) (fun s H C cl fp => (sndE el _ _ _ W0 (S.blk _ s H C cl fp) h16 o.1).1)
        · cases hh
      | _ => cases he
    | _ => cases h1
  | _ => cases h1
mutual
theorem sndS : ∀ (s : S) (st : Stmt) (c : Ch) (X : Cx) (W : WX), Sd κ k c X W → chkS c s st = true → OkS κ k s → PS X st (tS κ W (denS s))
  | .asg ts e, st, c, X, W, S, h, o => by
    unfold chkS at h
    split at h
    · rename_i t x pos
      simp only [Bool.and_eq_true] at h
      have pe := fun (_ : Unit) => (sndE e x c X W S h.1 o.2).1
      have h1 := h.1
      have h2 := h.2
      split at h2
      · rename_i g
        simp only [Bool.and_eq_true, Bool.or_eq_true, Bool.not_eq_true'] at h2
        obtain ⟨⟨⟨h3, h4⟩, h5⟩, h6⟩ := h2
        obtain ⟨p1, p2⟩ := sndTg S g t h3 o.1.1
        rcases h6 with (hl | hl) | ⟨hl, hm⟩
        · exact ds_asg (pe ()) (tg_one p1) (sole_no hl) (stores_no (.inr ⟨h4, fun es p z => by subst z; cases h5⟩)) p2
        · exact ds_asg (pe ()) (tg_one p1) (swaps_lcNot S.g hl) (stores_no (.inr ⟨h4, fun es p z => by subst z; cases h5⟩)) p2
        · have o2 := o.2
          split at hm
          · exact ds_asgC (sndLc S hl h3 h1 o2 rfl)
          · exact ds_asgC (sndLc S hl h3 h1 o2 rfl)
          · cases hm
      · simp only [Bool.and_eq_true, Bool.not_eq_true'] at h2
        obtain ⟨hl, h3⟩ := h2
        split at h3
        · rename_i es _ _
          simp only [Bool.and_eq_true, decide_eq_true_eq] at h3
          obtain ⟨⟨h4, h5⟩, h6⟩ := h3
          obtain ⟨q1, q2, q3⟩ := sndTgs S ts es h4 o.1
          refine ds_asg (pe ()) (tg_tup S.kk S.g h5 q1 q2 q3) (sole_no hl) ?_ rfl
          split at h6
          · exact swB_ok (by rw [S.g.sc]; exact of_decide_eq_true h6)
          · rename_i hx
            refine stores_no (.inl ?_)
            cases x with
            | Tuple vs k2 p2 => exact absurd rfl (hx vs k2 p2)
            | _ => rfl
        · cases h3
    · cases h
  | .expr e, st, c, X, W, S, h, o => by
    cases st with
    | Expr x pos =>
      simp only [chkS, Bool.and_eq_true, Bool.not_eq_true'] at h
      exact ds_expr (sndE e x c X W S h.2 o).1 h.1
    | _ => cases h
  | .ret e, st, c, X, W, S, h, o => by
    cases st with
    | Return v pos =>
      cases v with
      | some x => exact ds_ret (sndE e x c X W S h o).1
      | none => cases h
    | _ => cases h
  | .retN, st, c, X, W, S, h, o => by
    cases st with
    | Return v pos =>
      cases v with
      | some x => cases h
      | none => exact ds_retN
    | _ => cases h
  | .ife t a b, st, c, X, W, S, h, o => by
    cases st with
    | If x sa sb pos =>
      simp only [chkS, Bool.and_eq_true] at h
      exact ds_if ((sndE t x c X W S h.1.1.2 o.1).2 h.1.1.1) (sndSs a sa c X W S h.1.2 o.2.1) (sndSs b sb c X W S h.2 o.2.2)
    | _ => cases h
  | .whl t b, st, c, X, W, S, h, o => by
    cases st with
    | While x sb oe pos =>
      cases oe with
      | cons _ _ => cases h
      | nil =>
        simp only [chkS, Bool.and_eq_true] at h
        exact ds_while S.g.po ((sndE t x c X W S h.1.2 o.1).2 h.1.1) (sndSs b sb c X W S h.2 o.2)
    | _ => cases h
  | .fors tg ik src b, st, c, X, W, S, h, o => by
    cases st with
    | For t it sb oe pos =>
      cases oe with
      | cons _ _ => cases h
      | nil =>
        simp only [chkS, Bool.and_eq_true, Bool.not_eq_true'] at h
        exact ds_for S.g.po S.g.calm (sndI ik src it t c X W S h.1.2 o.1) (dg_tg S.kk S.g h.1.1.2) (sndSs b sb c X W S h.2 o.2) h.1.1.1
    | _ => cases h
  | .pass, st, c, X, W, S, h, o => by
    cases st with
    | Pass pos => exact ds_pass
    | _ => cases h
  | .brk, st, c, X, W, S, h, o => by
    cases st with
    | Break pos => exact ds_brk
    | _ => cases h
  | .cnt, st, c, X, W, S, h, o => by
    cases st with
    | Continue pos => exact ds_cnt
    | _ => cases h
  | .par tg es, st, c, X, W, S, h, o => by
    unfold chkS at h
    split at h
    · simp only [Bool.and_eq_true] at h
      have pa := fun (_ : Unit) => sndEs es _ c X W S h.1.1 h.1.2 o
      have h2 := h.2
      split at h2
      · simp only [Bool.and_eq_true, decide_eq_true_eq] at h2
        obtain ⟨⟨⟨⟨⟨a1, a2⟩, a3⟩, a4⟩, a5⟩, a6⟩ := h2
        exact ds_par2 S.g (by rw [S.g.n]; exact a1) (by rw [S.g.n]; exact a2) a3 (by rw [S.g.sc]; exact a4) (by rw [S.g.sc]; exact a5) (pa ()) (by rw [S.g.sc]; exact a6)
      · simp only [Bool.and_eq_true, decide_eq_true_eq] at h2
        obtain ⟨⟨⟨⟨⟨⟨⟨⟨⟨a1, a2⟩, a3⟩, a4⟩, a5⟩, a6⟩, a7⟩, a8⟩, a9⟩, a10⟩ := h2
        exact ds_par3 S.g (by rw [S.g.n]; exact a1) (by rw [S.g.n]; exact a2) (by rw [S.g.n]; exact a3) a4 a5 a6 (by rw [S.g.sc]; exact a7) (by rw [S.g.sc]; exact a8) (by rw [S.g.sc]; exact a9) (pa ()) (by rw [S.g.sc]; exact a10)
      · cases h2
    · cases h
  | .aug _ _ _, st, c, X, W, S, h, o => by cases h
  | .raise _ _ _, st, c, X, W, S, h, o => by cases h
  | .tryx _ _, st, c, X, W, S, h, o => by cases h
  | .never, st, c, X, W, S, h, o => ds_never
theorem sndSs : ∀ (s : List S) (st : List Stmt) (c : Ch) (X : Cx) (W : WX), Sd κ k c X W → chkSs c s st = true → OkSs κ k s → PSs X st (tS κ W (denSs s))
  | [], st, c, X, W, S, h, o => by
    cases st with
    | nil => exact ds_nil
    | cons _ _ => cases h
  | s :: ss, st, c, X, W, S, h, o => by
    cases st with
    | nil => cases h
    | cons x xs =>
      simp only [chkSs, Bool.and_eq_true] at h
      exact ds_cons (sndS s x c X W S h.1 o.1) (sndSs ss xs c X W S h.2 o.2)
end
end
end DL
end

section
set_option Elab.async false
set_option linter.all false
set_option maxRecDepth 100000
set_option maxHeartbeats 2000000
namespace DL
open PySem PySem.Spec PyProof.Rows L2

def spD (κ : Kn) (n : Nat) (F : Fn) : Sp := fun vs H Q E => ∃ mp h ds, RelH κ mp H h ∧ Reps κ mp H ds vs ∧ ds.length = n ∧ PostG κ (Rep κ) (fun c d _ H' => E c d H') [] mp H (F ds h) Q
abbrev CXk (κ : Kn) : CXT := CX κ.prog κ.w
abbrev FnD (κ : Kn) (k : Nat) (f : Addr) (fd : FuncData) (ps : List Str) (F : Fn) : Prop := FnOk κ.prog κ.w κ.K κ.mg κ.base (CXk κ) k f fd ps (spD κ ps.length F)
section
variable {κ : Kn} {k : Nat} {f : Addr} {ps N : List Str} {F : Fn}
theorem repE_start {mp : Mp} {H : Hp} {ds : List D} {vs : List V} (rs : Reps κ mp H ds vs) : RepE κ mp H (ds.map some ++ List.replicate (N.length - ds.length) none) (L2.start N vs) := by
  have l := rs.len
  unfold L2.start
  refine ⟨by simp [l], fun i d q => ?_⟩
  rcases Nat.lt_or_ge i ds.length with hi | hi
  · rw [List.getElem?_append_left (by simpa using hi)] at q
    rw [List.getElem?_append_left (by rw [List.length_map, ← l]; exact hi)]
    rw [List.getElem?_map] at q ⊢
    cases e : ds[i]? with
    | none => rw [e] at q; cases q
    | some d' =>
      rw [e] at q
      cases q
      obtain ⟨v, e1, r⟩ := rs.get e
      exact ⟨v, by rw [e1]; rfl, r⟩
  · rw [List.getElem?_append_right (by simpa using hi), List.getElem?_replicate] at q
    split at q <;> cases q
theorem post_run {n p0 : Nat} {b : List S} {ds : List D} {mp : Mp} {H : Hp} {h : Hd} {Q : VK} {E : XK} (p : PostG κ (Rep κ) (fun c d _ H' => E c d H') [] mp H (runB n p0 b ds h) Q) (hl : ds.length = p0) :
    PostS κ (fun c d _ H' => E c d H') { nx := fun _ H' => Q .non H', rt := Q } mp H (denSs b (ds.map some ++ List.replicate (n - ds.length) none) h) := by
  unfold runB at p
  rw [if_pos hl] at p
  cases o : denSs b (ds.map some ++ List.replicate (n - ds.length) none) h with
  | no => rw [o] at p; exact p
  | fl g h1 =>
    rw [o] at p
    cases g with
    | nx δ => exact fun σ' H' mp' e R r => p .non H' mp' e R (repNon.mpr rfl)
    | rt d => exact p
    | bk δ => exact (show False from p).elim
    | ct δ => exact (show False from p).elim
    | ex x δ => exact fun c dd σ' H' mp' e R q _ => p c dd H' mp' e R q
theorem fn_D {name qual : Str} {params : Arguments} {body : List Stmt} {scope : Scope} {dV kV doc pm cdv ct oc : Value} {an od : Option Addr} {osl : Array (Option Value)} {b : List S}
    (lk : κ.K.lookup f = some ⟨oc, od, .func (PySem.W.fnOf name qual params body scope dV kV doc pm an cdv ct), osl⟩) (hcd : PySem.W.codeIn κ.K cdv qual = true) (S : FnScope N ps scope) (rg : κ.mg "range" = none)
    (hc : chkSs ⟨N, scope, true⟩ b body = true) (ok : OkSs κ k b) : FnD κ (k + 1) f (PySem.W.fnOf name qual params body scope dV kV doc pm an cdv ct) ps (runB N.length ps.length b) := by
  refine fn_of lk hcd S (fun vs H Q E ⟨mp, h, ds, R, rs, l, p⟩ => by rw [← rs.len]; exact l) fun A outer s H vs Q E hr ⟨mp, h, ds, R, rs, l, p⟩ => ?_
  refine ⟨tS κ (fun c d _ H' => E c d H') (denSs b), sndSs b body ⟨N, scope, true⟩ _ _ ⟨⟨rfl, rfl, S.nd, rfl, hr, trivial, passes_of rfl, fun _ _ => rfl⟩, rfl, takes_of rfl rfl rfl rfl, rg⟩ hc ok, mp, h, _, R, repE_start rs, post_run p l⟩
theorem PostG.flat {W : WX} {σ : L2.St} {mp : Mp} {H : Hp} {o : Out D} {Q : VK} (p : PostG κ (Rep κ) W σ mp H o Q) : PostG κ (Rep κ) (fun c d _ H' => W c d σ H') [] mp H o Q := by
  cases o with
  | no => exact p
  | ok a h => exact p
  | ex e h => exact p
theorem CallS.mono {j : Nat} {x : Str} (C : CallS κ j x F) (h : j ≤ k) : CallS κ k x F := fun X hκ hr => C X hκ (hr.mono h)
theorem runB_len {n p : Nat} {b : List S} {ds : List D} {h : Hd} (q : runB n p b ds h ≠ .no) : ds.length = p := by
  unfold runB at q
  by_cases l : ds.length = p
  · exact l
  · rw [if_neg l] at q; exact absurd rfl q
theorem call_D {fd : FuncData} {x : Str} (FF : FnD κ k f fd ps F) (hl : ∀ ds h, F ds h ≠ .no → ds.length = ps.length) (hm : κ.mg x = some (.ref f)) (hk : PySem.W.keepIn κ.K (.ref f) = true) (hb : Binds κ.K fd ps []) : CallS κ k x F := by
  intro X hκ hr hg hc g1 g2 g3 W tk p pos es t hs h0 ha
  subst hκ
  have go : ∀ (pins : List (Addr × Obj)) (s : Shared) (σ : L2.St) (H : Hp) (Q : VK) (us : List Value) (vs : List V), Inv X pins σ H s → Vals vs us → (∃ mp h ds, RelH (kn X) mp H h ∧ Reps (kn X) mp H ds vs ∧ PostG (kn X) (Rep (kn X)) W σ mp H (F ds h) Q) →
      wpAny (model X.prog X.w) X.A (PySem.call (.ref f) us) (EP X pins σ Q) X.xe s := fun pins s σ H Q us vs I rv ⟨mp, h, ds, R, rs, q⟩ => by
    have hn : F ds h ≠ .no := fun z => by rw [z] at q; exact q
    have l := hl ds h hn
    have hsp : spD (kn X) ps.length F vs H Q fun c d H' => W c d σ H' := ⟨mp, h, ds, R, rs, l, PostG.flat q⟩
    have lu : us.length = ps.length := by rw [← rv.length, ← rs.len]; exact l
    have b := hb s us I.kIn (by rw [List.append_nil]; exact lu)
    rw [List.append_nil] at b
    refine wpAny_call (codeAny_mono (FF.run X.A X.stack s H ⟨us, []⟩ us vs Q (fun c d H' => W c d σ H') hr I.env0 b rv hsp) fun r s' hq => ?_)
    cases r with
    | error e => exact tk e s' (XE.of_call I (fun _ _ _ z => z) hq)
    | ok fl => cases fl with
      | ret u => exact I.after hq
      | _ => exact False.elim hq
  refine ⟨fun pins s σ H Q I hq => wpAny_Call_Name_kw (ld_glob I g1 hm ?_ g2)⟩
  cases es with
  | nil => 
    refine PySem.W.callWith_K0 I.kIn hk ?_
    exact go pins s σ H Q [] [] I .nil (h0 rfl σ H _ hq)
  | cons e es =>
    simp only [List.all_cons, Bool.and_eq_true, Bool.not_eq_true'] at hs
    refine PySem.W.callWith_K (h₀ := X.base) I.ok.mod.kin hk (wpAny_mono (ha.run pos pins s σ H _ I hq) (fun us s1 ⟨vs, H1, I1, r, q⟩ => ⟨I1.kIn, go pins s1 σ H1 Q us vs I1 r q⟩) fun _ _ z => z) (star_cons hs.1) (star_plain hs.2)
theorem law_sp {mp0 : Unit} {H : Hp} {a : Addr} {ns : List Int} (hS : SqL κ.K H a (ns.map V.int)) (hF : ∃ h', F [.scr ns] [] = .ok (.bl true) h') {Q : VK} (hQ : ∀ H', Q (.bl true) H') : spD κ 1 F [.ref a] H Q fun _ _ _ => False := by
  obtain ⟨h', hF⟩ := hF
  refine ⟨⟨[], []⟩, [], [.scr ns], ⟨List.nodup_nil, rfl, fun i a o h1 => (nomatch h1), fun b hb => (nomatch hb)⟩, Reps.one ?_, rfl, ?_⟩
  · simp only [Rep]
    refine ⟨a, rfl, ?_⟩
    rcases hS with z | z
    · exact .inl ⟨z, fun y => y.elim (fun y => nomatch y) fun y => nomatch y⟩
    · exact .inr (.inr z)
  · rw [hF]
    exact fun v H' mp' _ _ r => by rw [repBl.mp r]; exact hQ H'
end
end DL
end

section
set_option Elab.async false
set_option linter.all false
set_option maxRecDepth 100000
set_option maxHeartbeats 2000000
namespace DL
open PySem PySem.Spec PyProof.Rows L2

def rF (κ : Kn) (F : Fn) : List V → Hp → VK → Prop := fun vs H Q => ∃ mp h ds d h', RelH κ mp H h ∧ Reps κ mp H ds vs ∧ F ds h = .ok d h' ∧ ∀ v H' mp', Ext mp H mp' H' → RelH κ mp' H' h' → Rep κ mp' H' d v → Q v H'
def BltR (κ : Kn) (k : Nat) (u : Value) (F : Fn) : Prop := ∀ X : Cx, kn X = κ → Room k X.A → Gu X.A → X.calm = true → CallR X u (rF κ F)
structure Calm (F : Fn) : Prop where
  ex : ∀ ds h e h', F ds h ≠ .ex e h'
  nil : ∀ h, F [] h = .no
section
variable {κ : Kn} {k : Nat} {x : Str} {F : Fn} {bid T : String}
theorem rF_of {W : WX} {σ : L2.St} {H : Hp} {Q : VK} {vs : List V} (c : Calm F) : (∃ mp h ds, RelH κ mp H h ∧ Reps κ mp H ds vs ∧ PostG κ (Rep κ) W σ mp H (F ds h) Q) → rF κ F vs H Q := fun ⟨mp, h, ds, R, rs, p⟩ => by
  cases o : F ds h with
  | no => rw [o] at p; exact p.elim
  | ex e h' => exact absurd o (c.ex ds h e h')
  | ok d h' => rw [o] at p; exact ⟨mp, h, ds, d, h', R, rs, o, p⟩
theorem no_nil {W : WX} {σ : L2.St} {H : Hp} {Q : VK} (c : Calm F) : (∃ mp h ds, RelH κ mp H h ∧ Reps κ mp H ds [] ∧ PostG κ (Rep κ) W σ mp H (F ds h) Q) → False := fun ⟨mp, h, ds, R, rs, p⟩ => by
  cases ds with
  | nil => rw [c.nil] at p; exact p
  | cons d ds => simp only [Reps] at rs; obtain ⟨_, _, e, _⟩ := rs; cases e
def upE (t : TE) : TE := fun σ H Q => ∃ Q0, t σ H Q0 ∧ ∀ v H, Q0 v H → Q v H
theorem up_ {X : Cx} {e : Expr} {t : TE} (p : PE X e t) : PE X e (upE t) := ⟨fun pins s σ H Q I ⟨Q0, h, k⟩ => thn (p.run pins s σ H Q0 I h) fun us s1 ⟨vs, H1, I1, r, q⟩ => ⟨vs, H1, I1, r, k _ _ q⟩⟩
def upA (t : TA) : TA := fun σ H Q => ∃ Q0, t σ H Q0 ∧ ∀ vs H, Q0 vs H → Q vs H
theorem pa_up {X : Cx} {es : List Expr} {t : TA} (p : PA X es t) : PA X es (upA t) := ⟨fun pos pins s σ H Q I ⟨Q0, h, k⟩ => thn (p.run pos pins s σ H Q0 I h) fun us s1 ⟨vs, H1, I1, r, q⟩ => ⟨vs, H1, I1, r, k _ _ q⟩⟩
theorem call_B (c : Calm F) (hv : bootBuiltins x = some (.builtin bid)) (B : BltR κ k (.builtin bid) F) (hm : κ.mg x = none) : CallS κ k x F := by
  intro X hκ hr hg hc g1 g2 g3 W tk p pos es t hs h0 ha
  cases es with
  | nil => exact ⟨fun pins s σ H Q I q => (no_nil c (h0 rfl σ H _ q)).elim⟩
  | cons e es =>
    simp only [List.all_cons, Bool.and_eq_true, Bool.not_eq_true'] at hs
    exact pe_wk (pe_callB (B X hκ hr hg hc) g1 (by rw [← hm, ← hκ]) hv (pa_up ha) g3 g2 (star_cons hs.1) (star_plain hs.2)) fun σ H Q q => ⟨_, q, fun vs H1 z => rF_of c z⟩
theorem call_Bfun (c : Calm F) (B : BltR κ k (.builtin bid) F) (hm : κ.mg x = some (.builtin bid)) : CallS κ k x F := by
  intro X hκ hr hg hc g1 g2 g3 W tk p pos es t hs h0 ha
  cases es with
  | nil => exact ⟨fun pins s σ H Q I q => (no_nil c (h0 rfl σ H _ q)).elim⟩
  | cons e es =>
    simp only [List.all_cons, Bool.and_eq_true, Bool.not_eq_true'] at hs
    exact pe_wk (pe_callBfun (B X hκ hr hg hc) g1 (by rw [← hm, ← hκ]) (pa_up ha) g2 (star_cons hs.1) (star_plain hs.2)) fun σ H Q q => ⟨_, q, fun vs H1 z => rF_of c z⟩
theorem call_Ty (c : Calm F) (hv : bootBuiltins x = some (.type T)) (B : BltR κ k (.type T) F) (hm : κ.mg x = none) : CallS κ k x F := by
  intro X hκ hr hg hc g1 g2 g3 W tk p pos es t hs h0 ha
  cases es with
  | nil => exact ⟨fun pins s σ H Q I q => (no_nil c (h0 rfl σ H _ q)).elim⟩
  | cons e es =>
    simp only [List.all_cons, Bool.and_eq_true, Bool.not_eq_true'] at hs
    exact pe_wk (pe_callTy (B X hκ hr hg hc) g1 (by rw [← hm, ← hκ]) hv (pa_up ha) g3 g2 (star_cons hs.1) (star_plain hs.2)) fun σ H Q q => ⟨_, q, fun vs H1 z => rF_of c z⟩
theorem rF.here {mp : Mp} {H : Hp} {h h' : Hd} {d : D} {v : V} {Q : VK} (q : ∀ v H' mp', Ext mp H mp' H' → RelH κ mp' H' h' → Rep κ mp' H' d v → Q v H') (R : RelH κ mp H h') (r : Rep κ mp H d v) : Q v H := q v H mp Ext.refl R r

def intsL (h : Hd) (d : D) : Option (List Int) := (seqL h d).bind intsD
def blsD : List D → Option (List Bool)
  | [] => some []
  | .bl b :: ds => (blsD ds).map (b :: ·)
  | _ => none
def okI (o : Option D) (h : Hd) : Out D := match o with
  | some d => .ok d h
  | none => .no
theorem okI_ex {o : Option D} {h : Hd} {e : Exc} {h' : Hd} : okI o h ≠ .ex e h' := by cases o <;> exact fun z => nomatch z
theorem okI_ok {o : Option D} {h : Hd} {d : D} {h' : Hd} (e : okI o h = .ok d h') : o = some d ∧ h' = h := by
  cases o with
  | none => cases e
  | some d' => cases e; exact ⟨rfl, rfl⟩
def pureF (f : Hd → List D → Option D) : Fn := fun ds h => okI (f h ds) h
theorem pureF_calm {f : Hd → List D → Option D} (hn : ∀ h, f h [] = none) : Calm (pureF f) := ⟨fun _ _ _ _ => okI_ex, fun h => by show okI (f h []) h = .no; rw [hn]; rfl⟩
theorem pureF_of {f : Hd → List D → Option D} {vs : List V} {H : Hp} {Q : VK} (h : rF κ (pureF f) vs H Q) : ∃ mp h ds d, RelH κ mp H h ∧ Reps κ mp H ds vs ∧ f h ds = some d ∧ Put κ mp H h d Q := by
  obtain ⟨mp, h0, ds, d, h', R, rs, e, q⟩ := h
  obtain ⟨e1, e2⟩ := okI_ok e
  subst e2
  exact ⟨mp, _, ds, d, R, rs, e1, fun v H' e r rv => q v H' mp e r rv⟩
theorem reps1 {mp : Mp} {H : Hp} {d : D} {vs : List V} (r : Reps κ mp H [d] vs) : ∃ v, vs = [v] ∧ Rep κ mp H d v := by
  simp only [Reps] at r
  obtain ⟨v, _, rfl, r1, rfl⟩ := r
  exact ⟨v, rfl, r1⟩
theorem reps2 {mp : Mp} {H : Hp} {d e : D} {vs : List V} (r : Reps κ mp H [d, e] vs) : ∃ v w, vs = [v, w] ∧ Rep κ mp H d v ∧ Rep κ mp H e w := by
  simp only [Reps] at r
  obtain ⟨v, _, rfl, r1, w, _, rfl, r2, rfl⟩ := r
  exact ⟨v, w, rfl, r1, r2⟩
def lenP (h : Hd) : List D → Option D
  | [.str z] => if z.length ≤ line then some (.int z.length) else none
  | [d] => (itemsD h d).map fun xs => .int xs.length
  | _ => none
theorem lenV_of {mp : Mp} {H : Hp} {h : Hd} {y : D} {v : V} {ys : List D} (R : RelH κ mp H h) (rv : Rep κ mp H y v) (e : itemsD h y = some ys) : LenV κ.K v H ys.length := by
  obtain ⟨a, vs, rfl, sq, rs⟩ := items_at R rv e
  rcases sq with z | z
  · exact .inl ⟨vs, z, rs.len⟩
  · exact .inr ⟨vs, z, rs.len⟩
theorem blt_len : BltR κ k (.builtin "len") (pureF lenP) := by
  intro X hκ hr hg hc pins s σ H xs us Q I r hh
  subst hκ
  obtain ⟨mp, h, ds, d, R, rs, e, q⟩ := pureF_of hh
  refine call_len pins s σ H xs us Q I r ?_
  unfold lenP at e
  split at e
  · rename_i z
    obtain ⟨c, e⟩ := iteS e
    subst e
    obtain ⟨v, rfl, rv⟩ := reps1 rs
    rw [repStr] at rv
    subst rv
    exact ⟨_, z.length, rfl, ⟨by rw [← line_eq]; exact c, rfl⟩, q.here R (repInt.mpr rfl)⟩
  · rename_i y _
    cases ei : itemsD h y with
    | none => rw [ei] at e; cases e
    | some ys =>
      rw [ei] at e
      cases e
      obtain ⟨v, rfl, rv⟩ := reps1 rs
      exact ⟨v, ys.length, rfl, lenV_of R rv ei, q.here R (repInt.mpr rfl)⟩
  · cases e
def absP (h : Hd) : List D → Option D
  | [.int i] => some (.int i.natAbs)
  | _ => none
theorem blt_abs : BltR κ k (.builtin "abs") (pureF absP) := by
  intro X hκ hr hg hc pins s σ H xs us Q I r hh
  subst hκ
  obtain ⟨mp, h, ds, d, R, rs, e, q⟩ := pureF_of hh
  refine call_abs pins s σ H xs us Q I r ?_
  unfold absP at e
  split at e
  · rename_i i
    cases e
    obtain ⟨v, rfl, rv⟩ := reps1 rs
    rw [repInt] at rv
    refine ⟨i, by rw [rv], q.here R (repInt.mpr ?_)⟩
    congr 1
    split <;> omega
  · cases e
def gcdP (h : Hd) : List D → Option D
  | [.int i, .int j] => some (.int (Nat.gcd i.natAbs j.natAbs : Nat))
  | _ => none
theorem blt_gcd : BltR κ k (.builtin "math.gcd") (pureF gcdP) := by
  intro X hκ hr hg hc pins s σ H xs us Q I r hh
  subst hκ
  obtain ⟨mp, h, ds, d, R, rs, e, q⟩ := pureF_of hh
  refine cr_gcd pins s σ H xs us Q I r ?_
  unfold gcdP at e
  split at e
  · rename_i i j
    cases e
    obtain ⟨v, w, rfl, rv, rw_⟩ := reps2 rs
    rw [repInt] at rv rw_
    exact ⟨i, j, by rw [rv, rw_], q.here R (repInt.mpr rfl)⟩
  · cases e
def intP (h : Hd) : List D → Option D
  | [.int i] => some (.int i)
  | [.bl b] => some (.int (if b then 1 else 0))
  | _ => none
theorem blt_int : BltR κ k (.type "int") (pureF intP) := by
  intro X hκ hr hg hc pins s σ H xs us Q I r hh
  subst hκ
  obtain ⟨mp, h, ds, d, R, rs, e, q⟩ := pureF_of hh
  refine call_int1 pins s σ H xs us Q I r ?_
  unfold intP at e
  split at e
  · rename_i i
    cases e
    obtain ⟨v, rfl, rv⟩ := reps1 rs
    rw [repInt] at rv
    exact .inl ⟨i, by rw [rv], q.here R (repInt.mpr rfl)⟩
  · rename_i b
    cases e
    obtain ⟨v, rfl, rv⟩ := reps1 rs
    rw [repBl] at rv
    exact .inr ⟨b, by rw [rv], q.here R (repInt.mpr rfl)⟩
  · cases e
def divmodP (h : Hd) : List D → Option D
  | [.int i, .int j] => if 0 < j ∧ j < 1073741824 then some (.tup [.int (i / j), .int (i % j)]) else none
  | _ => none
theorem blt_divmod : BltR κ k (.builtin "divmod") (pureF divmodP) := by
  intro X hκ hr hg hc pins s σ H xs us Q I r hh
  subst hκ
  obtain ⟨mp, h, ds, d, R, rs, e, q⟩ := pureF_of hh
  refine call_divmod pins s σ H xs us Q I r ?_
  unfold divmodP at e
  split at e
  · rename_i i j
    obtain ⟨c, e⟩ := iteS e
    subst e
    obtain ⟨v, w, rfl, rv, rw_⟩ := reps2 rs
    rw [repInt] at rv rw_
    exact ⟨i, j, by rw [rv, rw_], c, fun p n => q.tup R (Reps.cons (repInt.mpr rfl) (Reps.cons (repInt.mpr rfl) Reps.nil)) n⟩
  · cases e
def sumP (h : Hd) : List D → Option D
  | [d] => (intsL h d).map fun ns => .int ns.sum
  | _ => none
def maxI : List Int → Option Int
  | [] => none
  | i :: is => some (is.foldl max i)
def minI : List Int → Option Int
  | [] => none
  | i :: is => some (is.foldl min i)
def maxP (h : Hd) : List D → Option D
  | [.int i, .int j] => some (.int (max i j))
  | [d] => (intsL h d).bind fun ns => (maxI ns).map .int
  | _ => none
def minP (h : Hd) : List D → Option D
  | [.int i, .int j] => some (.int (min i j))
  | [d] => (intsL h d).bind fun ns => (minI ns).map .int
  | _ => none
def allP (h : Hd) : List D → Option D
  | [d] => ((seqL h d).bind blsD).map fun bs => .bl (bs.all id)
  | _ => none
def anyP (h : Hd) : List D → Option D
  | [d] => ((seqL h d).bind blsD).map fun bs => .bl (bs.any id)
  | _ => none
def tupP (h : Hd) : List D → Option D
  | [.tup ds] => some (.tup ds)
  | [d] => (seqL h d).map fun ds => .tup ds
  | _ => none
def listP (h : Hd) : List D → Option D
  | [d] => (itemsD h d).map fun ds => .lst ds
  | _ => none
def insI (a : Int) : List Int → List Int
  | [] => [a]
  | b :: bs => if a ≤ b then a :: b :: bs else b :: insI a bs
def sortI : List Int → List Int
  | [] => []
  | a :: as => insI a (sortI as)
def sortP (h : Hd) : List D → Option D
  | [d] => (intsL h d).map fun ns => .lst ((sortI ns).map .int)
  | _ => none
theorem intsL_at {mp : Mp} {H : Hp} {h : Hd} {d : D} {v : V} {ns : List Int} (R : RelH κ mp H h) (rv : Rep κ mp H d v) (e : intsL h d = some ns) : ∃ a, v = .ref a ∧ SqL κ.K H a (ns.map V.int) := by
  unfold intsL at e
  cases es : seqL h d with
  | none => rw [es] at e; cases e
  | some ds =>
    rw [es] at e
    have e : intsD ds = some ns := e
    obtain ⟨a, vs, rfl, sq, rs⟩ := seqL_at R rv es
    rw [intsD_eq e] at rs
    rw [rs.ints] at sq
    exact ⟨a, rfl, sq⟩
theorem blt_sum : BltR κ k (.builtin "sum") (pureF sumP) := by
  intro X hκ hr hg hc pins s σ H xs us Q I r hh
  subst hκ
  obtain ⟨mp, h, ds, d, R, rs, e, q⟩ := pureF_of hh
  refine cr_sum hc pins s σ H xs us Q I r ?_
  unfold sumP at e
  split at e
  · rename_i y
    cases ei : intsL h y with
    | none => rw [ei] at e; cases e
    | some ns =>
      rw [ei] at e
      cases e
      obtain ⟨v, rfl, rv⟩ := reps1 rs
      obtain ⟨a, rfl, sq⟩ := intsL_at R rv ei
      exact ⟨a, ns, rfl, sq, q.here R (repInt.mpr rfl)⟩
  · cases e
theorem foldl_max : ∀ (is : List Int) (i : Int), (is.foldl max i ∈ i :: is) ∧ ∀ y ∈ i :: is, y ≤ is.foldl max i
  | [], i => ⟨List.mem_cons_self, fun y hy => by rw [List.mem_singleton.mp hy]; exact Int.le_refl _⟩
  | j :: is, i => by
    obtain ⟨h1, h2⟩ := foldl_max is (max i j)
    refine ⟨?_, fun y hy => ?_⟩
    · rcases List.mem_cons.mp h1 with z | z
      · show is.foldl max (max i j) ∈ _
        rw [z]
        rcases Int.le_total i j with l | l
        · rw [Int.max_eq_right l]; exact List.mem_cons_of_mem _ List.mem_cons_self
        · rw [Int.max_eq_left l]; exact List.mem_cons_self
      · exact List.mem_cons_of_mem _ (List.mem_cons_of_mem _ z)
    · have hm := h2 (max i j) List.mem_cons_self
      show y ≤ is.foldl max (max i j)
      rcases List.mem_cons.mp hy with z | z
      · rw [z]; exact Int.le_trans (Int.le_max_left i j) hm
      · rcases List.mem_cons.mp z with z | z
        · rw [z]; exact Int.le_trans (Int.le_max_right i j) hm
        · exact h2 y (List.mem_cons_of_mem _ z)
theorem foldl_min : ∀ (is : List Int) (i : Int), (is.foldl min i ∈ i :: is) ∧ ∀ y ∈ i :: is, is.foldl min i ≤ y
  | [], i => ⟨List.mem_cons_self, fun y hy => by rw [List.mem_singleton.mp hy]; exact Int.le_refl _⟩
  | j :: is, i => by
    obtain ⟨h1, h2⟩ := foldl_min is (min i j)
    refine ⟨?_, fun y hy => ?_⟩
    · rcases List.mem_cons.mp h1 with z | z
      · show is.foldl min (min i j) ∈ _
        rw [z]
        rcases Int.le_total i j with l | l
        · rw [Int.min_eq_left l]; exact List.mem_cons_self
        · rw [Int.min_eq_right l]; exact List.mem_cons_of_mem _ List.mem_cons_self
      · exact List.mem_cons_of_mem _ (List.mem_cons_of_mem _ z)
    · have hm := h2 (min i j) List.mem_cons_self
      show is.foldl min (min i j) ≤ y
      rcases List.mem_cons.mp hy with z | z
      · rw [z]; exact Int.le_trans hm (Int.min_le_left i j)
      · rcases List.mem_cons.mp z with z | z
        · rw [z]; exact Int.le_trans hm (Int.min_le_right i j)
        · exact h2 y (List.mem_cons_of_mem _ z)
theorem maxI_ok {ns : List Int} {M : Int} (e : maxI ns = some M) : 0 < ns.length ∧ ∀ m, m ∈ ns → (∀ y, y ∈ ns → y ≤ m) → m = M := by
  cases ns with
  | nil => cases e
  | cons i is =>
    cases e
    obtain ⟨h1, h2⟩ := foldl_max is i
    exact ⟨by simp, fun m hm hy => Int.le_antisymm (h2 m hm) (hy _ h1)⟩
theorem minI_ok {ns : List Int} {M : Int} (e : minI ns = some M) : 0 < ns.length ∧ ∀ m, m ∈ ns → (∀ y, y ∈ ns → m ≤ y) → m = M := by
  cases ns with
  | nil => cases e
  | cons i is =>
    cases e
    obtain ⟨h1, h2⟩ := foldl_min is i
    exact ⟨by simp, fun m hm hy => Int.le_antisymm (hy _ h1) (h2 m hm)⟩
theorem blt_max : BltR κ k (.builtin "max") (pureF maxP) := by
  intro X hκ hr hg hc pins s σ H xs us Q I r hh
  subst hκ
  obtain ⟨mp, h, ds, d, R, rs, e, q⟩ := pureF_of hh
  unfold maxP at e
  split at e
  · rename_i i j
    cases e
    refine call_max2 hc pins s σ H xs us Q I r ?_
    obtain ⟨v, w, rfl, rv, rw_⟩ := reps2 rs
    rw [repInt] at rv rw_
    refine ⟨i, j, by rw [rv, rw_], q.here R (repInt.mpr ?_)⟩
    congr 1
    rw [Int.max_def]
    split <;> split <;> omega
  · rename_i y
    refine cr_max hc pins s σ H xs us Q I r ?_
    cases ei : intsL h y with
    | none => rw [ei] at e; cases e
    | some ns =>
      rw [ei] at e
      cases em : maxI ns with
      | none => rw [Option.bind_some, em] at e; cases e
      | some M =>
        rw [Option.bind_some, em] at e
        cases e
        obtain ⟨v, rfl, rv⟩ := reps1 rs
        obtain ⟨a, rfl, sq⟩ := intsL_at R rv ei
        obtain ⟨h1, h2⟩ := maxI_ok em
        exact ⟨a, ns, rfl, sq, h1, fun m hm hy => by rw [h2 m hm hy]; exact q.here R (repInt.mpr rfl)⟩
  · cases e
theorem blt_min : BltR κ k (.builtin "min") (pureF minP) := by
  intro X hκ hr hg hc pins s σ H xs us Q I r hh
  subst hκ
  obtain ⟨mp, h, ds, d, R, rs, e, q⟩ := pureF_of hh
  unfold minP at e
  split at e
  · rename_i i j
    cases e
    refine call_min2 hc pins s σ H xs us Q I r ?_
    obtain ⟨v, w, rfl, rv, rw_⟩ := reps2 rs
    rw [repInt] at rv rw_
    refine ⟨i, j, by rw [rv, rw_], q.here R (repInt.mpr ?_)⟩
    congr 1
    rw [Int.min_def]
    split <;> split <;> omega
  · rename_i y
    refine cr_min hc pins s σ H xs us Q I r ?_
    cases ei : intsL h y with
    | none => rw [ei] at e; cases e
    | some ns =>
      rw [ei] at e
      cases em : minI ns with
      | none => rw [Option.bind_some, em] at e; cases e
      | some M =>
        rw [Option.bind_some, em] at e
        cases e
        obtain ⟨v, rfl, rv⟩ := reps1 rs
        obtain ⟨a, rfl, sq⟩ := intsL_at R rv ei
        obtain ⟨h1, h2⟩ := minI_ok em
        exact ⟨a, ns, rfl, sq, h1, fun m hm hy => by rw [h2 m hm hy]; exact q.here R (repInt.mpr rfl)⟩
  · cases e
theorem reps_bls {mp : Mp} {H : Hp} : ∀ {ds : List D} {bs : List Bool} {vs : List V}, blsD ds = some bs → Reps κ mp H ds vs → vs = bs.map V.bl
  | [], bs, vs, e, r => by cases e; simp only [Reps] at r; rw [r]; rfl
  | d :: ds, bs, vs, e, r => by
    simp only [Reps] at r
    obtain ⟨v, vr, rfl, r1, r2⟩ := r
    cases d with
    | bl b =>
      have e : (blsD ds).map (b :: ·) = some bs := e
      cases eb : blsD ds with
      | none => rw [eb] at e; cases e
      | some bs' =>
        rw [eb] at e
        cases e
        rw [repBl] at r1
        rw [r1, reps_bls eb r2]
        rfl
    | _ => cases e
theorem bls_at {mp : Mp} {H : Hp} {h : Hd} {d : D} {v : V} {bs : List Bool} (R : RelH κ mp H h) (rv : Rep κ mp H d v) (e : (seqL h d).bind blsD = some bs) : ∃ a, v = .ref a ∧ SqL κ.K H a (bs.map V.bl) := by
  cases es : seqL h d with
  | none => rw [es] at e; cases e
  | some ds =>
    rw [es] at e
    have e : blsD ds = some bs := e
    obtain ⟨a, vs, rfl, sq, rs⟩ := seqL_at R rv es
    rw [reps_bls e rs] at sq
    exact ⟨a, rfl, sq⟩
theorem blt_all : BltR κ k (.builtin "all") (pureF allP) := by
  intro X hκ hr hg hc pins s σ H xs us Q I r hh
  subst hκ
  obtain ⟨mp, h, ds, d, R, rs, e, q⟩ := pureF_of hh
  refine cr_all hc pins s σ H xs us Q I r ?_
  unfold allP at e
  split at e
  · rename_i y
    cases eb : (seqL h y).bind blsD with
    | none => rw [eb] at e; cases e
    | some bs =>
      rw [eb] at e
      cases e
      obtain ⟨v, rfl, rv⟩ := reps1 rs
      obtain ⟨a, rfl, sq⟩ := bls_at R rv eb
      exact ⟨a, bs, rfl, sq, q.here R (repBl.mpr rfl)⟩
  · cases e
theorem blt_any : BltR κ k (.builtin "any") (pureF anyP) := by
  intro X hκ hr hg hc pins s σ H xs us Q I r hh
  subst hκ
  obtain ⟨mp, h, ds, d, R, rs, e, q⟩ := pureF_of hh
  refine cr_any hc pins s σ H xs us Q I r ?_
  unfold anyP at e
  split at e
  · rename_i y
    cases eb : (seqL h y).bind blsD with
    | none => rw [eb] at e; cases e
    | some bs =>
      rw [eb] at e
      cases e
      obtain ⟨v, rfl, rv⟩ := reps1 rs
      obtain ⟨a, rfl, sq⟩ := bls_at R rv eb
      exact ⟨a, bs, rfl, sq, q.here R (repBl.mpr rfl)⟩
  · cases e
theorem blt_tuple : BltR κ k (.type "tuple") (pureF tupP) := by
  intro X hκ hr hg hc pins s σ H xs us Q I r hh
  subst hκ
  obtain ⟨mp, h, ds, d, R, rs, e, q⟩ := pureF_of hh
  refine call_tuple_of pins s σ H xs us Q I r ?_
  unfold tupP at e
  split at e
  · rename_i ys
    cases e
    obtain ⟨v, rfl, rv⟩ := reps1 rs
    have rv' := rv
    simp only [Rep] at rv'
    obtain ⟨a, vs, rfl, sq, rr⟩ := rv'
    exact ⟨a, vs, rfl, .inr ⟨sq, q.here R rv⟩⟩
  · rename_i y _
    cases es : seqL h y with
    | none => rw [es] at e; cases e
    | some ys =>
      rw [es] at e
      cases e
      obtain ⟨v, rfl, rv⟩ := reps1 rs
      obtain ⟨a, vs, rfl, sq, rr⟩ := seqL_at R rv es
      exact ⟨a, vs, rfl, .inl ⟨sq, fun l n => q.tup R rr n⟩⟩
  · cases e
theorem insI_perm (a : Int) : ∀ bs, (insI a bs).Perm (a :: bs)
  | [] => .refl _
  | b :: bs => by
    unfold insI
    split
    · exact .refl _
    · exact ((insI_perm a bs).cons b).trans (.swap a b bs)
theorem sortI_perm : ∀ ns, (sortI ns).Perm ns
  | [] => .refl _
  | a :: as => (insI_perm a (sortI as)).trans ((sortI_perm as).cons a)
theorem insI_rises (a : Int) : ∀ bs : List Int, bs.Pairwise (· ≤ ·) → (insI a bs).Pairwise (· ≤ ·)
  | [], _ => List.pairwise_singleton _ _
  | b :: bs, h => by
    obtain ⟨h1, h2⟩ := List.pairwise_cons.mp h
    unfold insI
    split
    · rename_i l
      refine List.pairwise_cons.mpr ⟨fun y hy => ?_, h⟩
      rcases List.mem_cons.mp hy with z | z
      · rw [z]; exact l
      · exact Int.le_trans l (h1 y z)
    · rename_i l
      refine List.pairwise_cons.mpr ⟨fun y hy => ?_, insI_rises a bs h2⟩
      rcases List.mem_cons.mp ((insI_perm a bs).mem_iff.mp hy) with z | z
      · rw [z]; omega
      · exact h1 y z
theorem sortI_rises : ∀ ns, (sortI ns).Pairwise (· ≤ ·)
  | [] => List.Pairwise.nil
  | a :: as => insI_rises a _ (sortI_rises as)
theorem blt_sorted : BltR κ k (.builtin "sorted") (pureF sortP) := by
  intro X hκ hr hg hc pins s σ H xs us Q I r hh
  subst hκ
  obtain ⟨mp, h, ds, d, R, rs, e, q⟩ := pureF_of hh
  refine cr_sortedI pins s σ H xs us Q I r ?_
  unfold sortP at e
  split at e
  · rename_i y
    cases ei : intsL h y with
    | none => rw [ei] at e; cases e
    | some ns =>
      rw [ei] at e
      cases e
      obtain ⟨v, rfl, rv⟩ := reps1 rs
      obtain ⟨a, rfl, sq⟩ := intsL_at R rv ei
      refine ⟨a, ns, rfl, sq, fun ns' p hp hs n => ?_⟩
      have : ns' = sortI ns := (hp.trans (sortI_perm ns).symm).eq_of_pairwise (fun a b _ _ h1 h2 => Int.le_antisymm h1 h2) hs (sortI_rises ns)
      rw [this]
      exact q.lst R (Reps.ofInts _) n
  · cases e
def tyD (h : Hd) : D → Option String
  | .non => some "NoneType"
  | .bl _ => some "bool"
  | .int _ => some "int"
  | .str _ => some "str"
  | .tup _ => some "tuple"
  | .lst _ => some "list"
  | .ref i => match h[i]? with
    | some (.lst _) => some "list"
    | _ => none
  | _ => none
def tyNs : List String := ["int", "bool", "str", "tuple", "list"]
def subT (t n : String) : Bool := t == n || (t == "bool" && n == "int")
theorem kitB_tys : ∀ t ∈ ["NoneType", "bool", "int", "str", "tuple", "list"], ∀ n ∈ tyNs, kitB t n = some (subT t n) := by decide +kernel
def isiP (h : Hd) : List D → Option D
  | [x, .ty n] => if n ∈ tyNs then (tyD h x).map fun t => .bl (subT t n) else none
  | _ => none
theorem tyX_of {mp : Mp} {H : Hp} {h : Hd} {d : D} {v : V} {t : String} (R : RelH κ mp H h) (r : Rep κ mp H d v) (e : tyD h d = some t) : TyX κ.K H v (.type t) ∧ t ∈ ["NoneType", "bool", "int", "str", "tuple", "list"] := by
  cases d with
  | non => cases e; rw [repNon] at r; subst r; exact ⟨.base .non, by simp⟩
  | bl b => cases e; rw [repBl] at r; subst r; exact ⟨.base (.bl b), by simp⟩
  | int i => cases e; rw [repInt] at r; subst r; exact ⟨.base (.int i), by simp⟩
  | str z => cases e; rw [repStr] at r; subst r; exact ⟨.base (.str z), by simp⟩
  | tup ds =>
    cases e
    simp only [Rep] at r
    obtain ⟨a, vs, rfl, sq, _⟩ := r
    refine ⟨?_, by simp⟩
    rcases sq with (z | ⟨o, z⟩) | ⟨o, its, n, z, c, _⟩
    · exact .base (.tup z)
    · exact .fTuple z
    · exact .kTuple z c
  | lst ds =>
    cases e
    simp only [Rep] at r
    obtain ⟨a, vs, rfl, ⟨z, _⟩, _⟩ := r
    exact ⟨.base (.lst z), by simp⟩
  | ref i =>
    simp only [Rep] at r
    obtain ⟨a, ha, rfl⟩ := r
    have e : (match h[i]? with | some (.lst _) => some "list" | _ => none) = some t := e
    cases hq : h[i]? with
    | none => rw [hq] at e; cases e
    | some o =>
      rw [hq] at e
      cases o with
      | lst ds =>
        cases e
        obtain ⟨vs, hv, _⟩ := R.ob i a _ ha hq
        exact ⟨.base (.lst hv), by simp⟩
      | ins _ _ => cases e
      | dct _ _ => cases e
  | _ => cases e
theorem blt_isinstance : BltR κ k (.builtin "isinstance") (pureF isiP) := by
  intro X hκ hr hg hc pins s σ H xs us Q I r hh
  subst hκ
  obtain ⟨mp, h, ds, d, R, rs, e, q⟩ := pureF_of hh
  refine call_isi pins s σ H xs us Q I r ?_
  unfold isiP at e
  split at e
  · rename_i y n
    by_cases hn : n ∈ tyNs
    · rw [if_pos hn] at e
      cases et : tyD h y with
      | none => rw [et] at e; cases e
      | some t =>
        rw [et] at e
        cases e
        obtain ⟨v, w, rfl, rv, rw_⟩ := reps2 rs
        simp only [Rep] at rw_
        subst rw_
        obtain ⟨t1, t2⟩ := tyX_of R rv et
        exact ⟨v, _, _, _, _, rfl, .ty n, t1, kit_ty (kitB_tys t t2 n hn), q.here R (repBl.mpr rfl)⟩
    · rw [if_neg hn] at e; cases e
  · cases e
theorem few_ok {env : Env} {pos : Pos} {e : Expr} {es : List Expr} (hs : (e :: es).all (fun e => !starB e) = true) (hl : decide ((e :: es).length < 20) = true) :
    ((backTo pos (starEach (e :: es) env)).all (fun x => !x.1) && (backToKw pos (keywordEach [] env)).all (fun x => x.1.isSome) && decide ((e :: es).length + ([] : List Keyword).length + (if ([] : List Keyword).isEmpty then 0 else 1) < 30)) = true := by
  have h1 := star_plain (env := env) (pos := pos) hs
  have hl := of_decide_eq_true hl
  simp only [Bool.and_eq_true, decide_eq_true_eq]
  refine ⟨⟨?_, rfl⟩, ?_⟩
  · rw [← List.not_any_eq_all_not, h1]; rfl
  · simp only [List.length_nil, List.isEmpty_nil, if_true]; omega
def isLst (h : Hd) : D → Bool
  | .ref i => match h[i]? with
    | some (.lst _) => true
    | _ => false
  | _ => false
def appF : Fn := fun ds h => match ds with
  | [.ref i, y] => match h[i]? with
    | some (.lst xs) => if xs.length < line then .ok .non (h.set i (.lst (xs ++ [y]))) else .no
    | _ => .no
  | _ => .no
theorem isLst_at {mp : Mp} {H : Hp} {h : Hd} {d : D} {v : V} (R : RelH κ mp H h) (r : Rep κ mp H d v) (e : isLst h d = true) : ∃ a vs, v = .ref a ∧ H a = some (.lst vs) := by
  cases d with
  | ref i =>
    simp only [Rep] at r
    obtain ⟨a, ha, rfl⟩ := r
    have e : (match h[i]? with | some (.lst _) => true | _ => false) = true := e
    cases hq : h[i]? with
    | none => rw [hq] at e; cases e
    | some o =>
      rw [hq] at e
      cases o with
      | lst ds => obtain ⟨vs, hv, _⟩ := R.ob i a _ ha hq; exact ⟨a, vs, rfl, hv⟩
      | ins _ _ => cases e
      | dct _ _ => cases e
  | _ => cases e
theorem mth_append : MthS κ k "append" isLst appF := by
  intro X hκ hr hg hc W tk o ap pos to es t hsup hline hs hl h0 ho ha
  subst hκ
  cases es with
  | nil =>
    -- without an argument nothing is told
    refine ⟨fun pins s σ H Q I q => ?_⟩
    refine wpAny_Call_method0_late (sup_ok hsup) hline (thn (ho.run pins s σ H _ I q) fun v s1 ⟨x, H1, I1, r1, _, q1⟩ => ?_)
    obtain ⟨mp, h, dx, ds, R, rx, rs, p⟩ := h0 rfl σ H1 _ q1
    cases ds with
    | nil => cases dx <;> exact p.elim
    | cons _ _ => simp only [Reps] at rs; obtain ⟨_, _, e, _⟩ := rs; cases e
  | cons e es =>
    have hs' := hs
    simp only [List.all_cons, Bool.and_eq_true, Bool.not_eq_true'] at hs'
    refine pe_wk (pe_bm PySem.F.plainAttrs_list PySem.F.slot_list_append PySem.F.type_list_append mt_append (up_ ho) (pa_up ha) (sup_ok hsup) (few_ok hs hl) hline (star_cons hs'.1) (star_plain hs'.2)) fun σ H Q q => ⟨_, q, fun x H1 ⟨⟨mp, h, dx, R, rx, hP⟩, q1⟩ => ?_⟩
    obtain ⟨a, vs, rfl, hv⟩ := isLst_at R rx hP
    refine ⟨.inl ⟨rfl, _, .inl (.inl hv)⟩, _, q1, fun ws H2 ⟨mp2, h2, dx2, ds, R2, rx2, rs, p⟩ => ?_⟩
    have p' := p
    unfold appF at p
    split at p
    · rename_i i y heq
      cases heq
      cases hq : h2[i]? with
      | none => rw [hq] at p; exact p.elim
      | some ob =>
        rw [hq] at p
        cases ob with
        | lst xs =>
          have p : PostG (kn X) (Rep (kn X)) W σ mp2 H2 (if xs.length < line then .ok .non (h2.set i (.lst (xs ++ [y]))) else .no) Q := p
          by_cases c : xs.length < line
          · rw [if_pos c] at p
            simp only [Rep] at rx2
            obtain ⟨a2, ha2, e2⟩ := rx2
            cases e2
            obtain ⟨us, hu, ru⟩ := R2.ob i a _ ha2 hq
            obtain ⟨w, rfl, rw_⟩ := reps1 rs
            refine ⟨a, us, w, rfl, rfl, hu, by rw [← ru.len, ← line_eq]; exact c, ?_⟩
            have e3 : Ext mp2 H2 mp2 (upd H2 a (.lst (us ++ [w]))) := RelH.putE ha2
            exact p .non _ mp2 e3 (R2.put ha2 ⟨_, upd_same, (ru.ext R2 e3).app (Reps.one (rw_.ext R2 e3))⟩) (repNon.mpr rfl)
          · rw [if_neg c] at p; exact p.elim
        | ins _ _ => exact p.elim
        | dct _ _ => exact p.elim
    · exact p.elim
end
end DL
end

section
set_option Elab.async false
set_option linter.all false
set_option maxRecDepth 100000
set_option maxHeartbeats 2000000
namespace DL
open PySem PySem.Spec PyProof.Rows L2

mutual
def valB (K : PySem.W.Frag) : D → Value → Bool
  | .non, u => match u with
    | .none => true
    | _ => false
  | .bl b, u => match u with
    | .bool c => decide (b = c)
    | _ => false
  | .int i, u => match u with
    | .int j _ => decide (i = j)
    | _ => false
  | .str x, u => match u with
    | .str y _ => decide (x = y)
    | _ => false
  | .tup ds, u => match u with
    | .ref a => (match K.lookup a with
      | some ⟨.type c, _, .seq its _, _⟩ => decide (c = "tuple") && decide (its.size ≤ sizeLine) && valsB K ds its.toList
      | _ => false)
    | _ => false
  | _, _ => false
def valsB (K : PySem.W.Frag) : List D → List Value → Bool
  | [], us => us.isEmpty
  | d :: ds, us => match us with
    | u :: us => valB K d u && valsB K ds us
    | [] => false
end
section
variable {κ : Kn}
mutual
theorem valB_ok : ∀ (d : D) (u : Value), valB κ.K d u = true → ∃ v, RelV v u ∧ ∀ mp H, Rep κ mp H d v
  | .non, u, h => by
    cases u with
    | none => exact ⟨.non, rfl, fun _ _ => repNon.mpr rfl⟩
    | _ => cases h
  | .bl b, u, h => by
    cases u with
    | bool c => cases (of_decide_eq_true h); exact ⟨.bl b, rfl, fun _ _ => repBl.mpr rfl⟩
    | _ => cases h
  | .int i, u, h => by
    cases u with
    | int j t => cases (of_decide_eq_true h); exact ⟨.int i, ⟨t, rfl⟩, fun _ _ => repInt.mpr rfl⟩
    | _ => cases h
  | .str x, u, h => by
    cases u with
    | str y t => cases (of_decide_eq_true h); exact ⟨.str x, ⟨t, rfl⟩, fun _ _ => repStr.mpr rfl⟩
    | _ => cases h
  | .tup ds, u, h => by
    cases u with
    | ref a =>
      simp only [valB] at h
      split at h
      · rename_i c od its n sl hl
        simp only [Bool.and_eq_true, decide_eq_true_eq] at h
        obtain ⟨⟨rfl, h2⟩, h3⟩ := h
        obtain ⟨vs, r, rs⟩ := valsB_ok ds its.toList h3
        refine ⟨.ref a, rfl, fun mp H => ?_⟩
        simp only [Rep]
        exact ⟨a, vs, rfl, .inr ⟨_, its, n, hl, rfl, rfl, h2, r⟩, rs mp H⟩
      · cases h
    | _ => cases h
  | .lst _, u, h => by cases h
  | .dct _ _, u, h => by cases h
  | .kdc _ _, u, h => by cases h
  | .scr _, u, h => by cases h
  | .ref _, u, h => by cases h
  | .glb _, u, h => by cases h
  | .ty _, u, h => by cases h
theorem valsB_ok : ∀ (ds : List D) (us : List Value), valsB κ.K ds us = true → ∃ vs, Vals vs us ∧ ∀ mp H, Reps κ mp H ds vs
  | [], us, h => by
    cases us with
    | nil => exact ⟨[], .nil, fun _ _ => Reps.nil⟩
    | cons _ _ => cases h
  | d :: ds, us, h => by
    cases us with
    | nil => cases h
    | cons u us =>
      simp only [valsB, Bool.and_eq_true] at h
      obtain ⟨v, r1, r2⟩ := valB_ok d u h.1
      obtain ⟨vs, q1, q2⟩ := valsB_ok ds us h.2
      exact ⟨v :: vs, .cons r1 q1, fun mp H => Reps.cons (r2 mp H) (q2 mp H)⟩
end
end
def gvB (x : Str) (d : D) (K : PySem.W.Frag) : Bool := match PySem.W.nsIn K mainGlobals x with
  | some (some u) => valB K d u
  | _ => false
def gbB (x : Str) (id : String) (K : PySem.W.Frag) : Bool := match PySem.W.nsIn K mainGlobals x with
  | some (some (.builtin b)) => decide (b = id)
  | _ => false
section
variable {κ : Kn} {h : Heap}
theorem gv_ok {x : Str} {d : D} (X : κ.K.In h) (G : h.Ns mainGlobals κ.mg) (c : gvB x d κ.K = true) : GloS κ x d := by
  unfold gvB at c
  split at c
  · rename_i u e
    obtain ⟨v, r1, r2⟩ := valB_ok d u c
    exact ⟨u, v, .inl (PySem.W.mg_of X G e), r1, r2⟩
  · cases c
theorem gb_ok {x : Str} {id : String} (X : κ.K.In h) (G : h.Ns mainGlobals κ.mg) (c : gbB x id κ.K = true) : κ.mg x = some (.builtin id) := by
  unfold gbB at c
  split at c
  · rename_i b e
    cases (of_decide_eq_true c)
    exact PySem.W.mg_of X G e
  · cases c
theorem ty_ok {x : Str} {n : String} (hm : κ.mg x = none) (hb : bootBuiltins x = some (.type n)) : GloS κ x (.ty n) := ⟨_, .ty n, .inr ⟨hm, hb⟩, rfl, fun _ _ => by simp only [Rep]⟩
end

abbrev AlX : Type := Bool × He.AlD
abbrev Fb : Type := PySem.W.Frag → Bool
def obsX (fa : List He.Fa) (fb : List Fb) (fn : List He.DefD) (K : PySem.W.Frag) : AlX := (fb.all fun f => f K, He.obsD fa fn K)
def valX (fn : List He.DefD) : AlX := (true, He.valD fn)
def obsXG (n : Nat) (fa : List He.Fa) (fb : List Fb) (fn : List He.DefD) (g : Addr → Option Obj) : AlX := obsX fa fb fn (He.frG g (He.asD g n))
def hookX (n : Nat) (fa : List He.Fa) (fb : List Fb) (fn : List He.DefD) : PySem.W.Hook where
  α := AlX
  obs := fun s => obsXG n fa fb fn s.heap.get?
  val := fun _ => valX fn
  says := fun _ h => ∃ K : PySem.W.Frag, K.In h ∧ obsX fa fb fn K = valX fn
  of := fun _ _ e => ⟨_, He.frG_in, e⟩
  keeps := fun _ _ _ ⟨K, hK, c⟩ k => ⟨K, PySem.W.Frag.In.keeps hK k, c⟩
theorem obsXG_eq {n : Nat} {fa : List He.Fa} {fb : List Fb} {fn : List He.DefD} {g : Addr → Option Obj} {s : Shared} (h : ∀ a, g a = s.heap.get? a) : obsXG n fa fb fn g = (hookX n fa fb fn).obs s := by
  have e : g = s.heap.get? := funext h
  rw [e] <;> rfl
section
variable {fa : List He.Fa} {fb : List Fb} {fn : List He.DefD} {K : PySem.W.Frag}
theorem saysX (c : obsX fa fb fn K = valX fn) : He.SaysD fa fn K := congrArg (fun z : AlX => z.2) c
theorem factX (c : obsX fa fb fn K = valX fn) (i : Nat) {f : Fb} (h : fb[i]? = some f := by rfl) : f K = true :=
  List.all_eq_true.mp (congrArg (fun z : AlX => z.1) c) f (List.mem_of_getElem? h)
end
section
variable {κ : Kn} {k : Nat}
theorem fnD_of {CX : Unit} {x : Str} {pa : Arguments} {body : List Stmt} {sc : Scope} {f : Addr} {fd : FuncData} {N ps : List Str} {b : List S} (F : FunD κ.K x x pa body sc [] [] f fd) (Sc : FnScope N ps sc) (rg : κ.mg "range" = none)
    (hc : chkSs ⟨N, sc, true⟩ b body = true) (ok : OkSs κ k b) : FnD κ (k + 1) f fd ps (runB N.length ps.length b) := by
  obtain ⟨oc, od, dV, kV, doc, pm, an, cdv, ct, osl, rfl, lk, hcd, _, _⟩ := F.ex
  exact fn_D lk hcd Sc rg hc ok
theorem fn_call {x : Str} {pa : Arguments} {body : List Stmt} {sc : Scope} {f : Addr} {fd : FuncData} {N ps : List Str} {b : List S} {G : Fn} (F : FunD κ.K x x pa body sc [] [] f fd)
    (hb : ∀ (kV doc pm : Value) (an : Option Addr) (cdv ct : Value) (us : List Value), us.length = ps.length → bindArgs (PySem.W.fnOf x x pa body sc .none kV doc pm an cdv ct) ⟨us, []⟩ = pure (ps.zip us))
    (Sc : FnScope N ps sc) (rg : κ.mg "range" = none) (hm : κ.mg x = some (.ref f)) (hc : chkSs ⟨N, sc, true⟩ b body = true) (ok : OkSs κ k b) (hG : G = runB N.length ps.length b) : CallS κ (k + 1) x G := by
  subst hG
  exact call_D (fnD_of (CX := ()) F Sc rg hc ok) (fun ds h => runB_len) hm F.kp (F.bindsN hb)
theorem to0 {P : Program} {w : World} {K : PySem.W.Frag} {mg : Str → Option Value} {base : Heap} {f : Addr} {fd : FuncData} {ps : List Str} {sp : Sp} (F : FnOk P w K mg base (CX P w) k f fd ps sp) :
    FnOk P w K mg base CX0 k f fd ps fun vs H Q _ => sp vs H Q fun _ _ _ => False :=
  ⟨fun vs H Q E h => F.len vs H Q _ h, fun A outer s H args us vs Q E hr e0 hb hv hs => codeAny_mono (F.run A outer s H args us vs Q _ hr e0 hb hv hs) fun r s' q => by
    cases r with
    | ok fl => cases fl <;> exact q
    | error e =>
      have q : CX P w outer H s (fun _ _ _ => False) e s' := q
      obtain ⟨_, _, _, _, _, _, _, _, _, _, _, _, z⟩ := q
      exact z.elim⟩
def spEnd (K : PySem.W.Frag) : Sp := fun vs H Q _ => ∃ (a : Addr) (ns : List Int), vs = [.ref a] ∧ ns.length ≤ 63 ∧ SqL K H a (ns.map V.int) ∧ ∀ H', Q (.bl true) H'
theorem law_end {f : Addr} {fd : FuncData} {x : Str} {F : Fn} (FF : FnD κ k f fd [x] F) (hL : ∀ ns : List Int, ns.length ≤ 63 → ∃ h', F [.scr ns] [] = .ok (.bl true) h') : FnOk κ.prog κ.w κ.K κ.mg κ.base CX0 k f fd [x] (spEnd κ.K) :=
  (to0 FF).imp fun vs H Q E ⟨a, ns, e, l, hS, q⟩ => by
    subst e
    exact law_sp (mp0 := ()) hS (hL ns l) q
end
end DL
end

section
set_option Elab.async false
set_option linter.all false
set_option maxRecDepth 100000
set_option maxHeartbeats 2000000
namespace DL
open PySem PySem.Spec PyProof.Rows L2
mutual
def cl (n : Nat) : D → Prop
  | .ref i => i < n
  | .tup ds => cls n ds
  | .lst ds => cls n ds
  | .dct _ ds => cls n ds
  | .kdc _ ds => cls n ds
  | _ => True
def cls (n : Nat) : List D → Prop
  | [] => True
  | d :: ds => cl n d ∧ cls n ds
end
def clF (n : Nat) : List (Str × D) → Prop
  | [] => True
  | (_, d) :: fs => cl n d ∧ clF n fs
def clO (n : Nat) : MO → Prop
  | .lst ds => cls n ds
  | .ins _ fs => clF n fs
  | .dct _ ds => cls n ds
def clH (n : Nat) (h : Hd) : Prop := ∀ (i : Nat) (o : MO), h[i]? = some o → clO n o
inductive Trunc (n : Nat) : Out D → Out D → Prop where
  | no (p : Out D) : Trunc n .no p
  | ok (d : D) (h g : Hd) (hl : n ≤ h.length) (hh : clH h.length h) (hd : cl h.length d) : Trunc n (.ok d h) (.ok d (h ++ g))
  | ex (e : Exc) (h g : Hd) (hl : n ≤ h.length) (hh : clH h.length h) (hd : clF h.length e.fs) : Trunc n (.ex e h) (.ex e (h ++ g))
section
variable {κ : Kn} {mp mp' : Mp} {H H' : Hp}
mutual
theorem Rep.cl : ∀ (d : D) (v : V), Rep κ mp H d v → DL.cl mp.ids.length d
  | .ref i, v, r => by
    simp only [Rep] at r
    obtain ⟨a, ha, _⟩ := r
    exact (List.getElem?_eq_some_iff.mp ha).1
  | .tup ds, v, r => by
    simp only [Rep] at r
    obtain ⟨a, vs, _, _, rs⟩ := r
    exact Reps.cls ds vs rs
  | .lst ds, v, r => by
    simp only [Rep] at r
    obtain ⟨a, vs, _, _, rs⟩ := r
    exact Reps.cls ds vs rs
  | .dct ks ds, v, r => by
    simp only [Rep] at r
    obtain ⟨a, vs, _, _, _, _, rs⟩ := r
    exact Reps.cls ds vs rs
  | .kdc ks ds, v, r => by
    simp only [Rep] at r
    obtain ⟨a, vs, es, n, _, _, _, rs, _⟩ := r
    exact Reps.cls ds vs rs
  | .non, _, _ => trivial | .bl _, _, _ => trivial | .int _, _, _ => trivial | .str _, _, _ => trivial | .scr _, _, _ => trivial | .glb _, _, _ => trivial | .ty _, _, _ => trivial
theorem Reps.cls : ∀ (ds : List D) (vs : List V), Reps κ mp H ds vs → DL.cls mp.ids.length ds
  | [], _, _ => trivial
  | d :: ds, vs, r => by
    simp only [Reps] at r
    obtain ⟨v, vr, _, r1, r2⟩ := r
    exact ⟨Rep.cl d v r1, Reps.cls ds vr r2⟩
end
theorem RepF.clF : ∀ (fs : List (Str × D)) (vs : List (Str × V)), RepF κ mp H fs vs → DL.clF mp.ids.length fs
  | [], _, _ => trivial
  | (f, d) :: ds, vs, r => by
    obtain ⟨v, vr, ev, r1, r2⟩ := r
    exact ⟨Rep.cl d v r1, RepF.clF ds vr r2⟩
theorem RepO.clO {a : Addr} : ∀ {o : MO}, RepO κ mp H a o → DL.clO mp.ids.length o
  | .lst ds, ⟨vs, _, rs⟩ => Reps.cls ds vs rs
  | .ins c fs, ⟨C, dx, vs, _, _, rf⟩ => RepF.clF fs vs rf
  | .dct ks ds, ⟨vs, _, _, _, rs⟩ => Reps.cls ds vs rs
theorem RelH.clH {h : Hd} (R : RelH κ mp H h) : DL.clH h.length h := fun i o ho => by
  have hi : i < mp.ids.length := by rw [R.len]; exact (List.getElem?_eq_some_iff.mp ho).1
  rw [← R.len]
  exact (R.ob i _ o (List.getElem?_eq_getElem hi) ho).clO
abbrev Mp.cut (m : Mp) (n : Nat) : Mp := ⟨m.ids.take n, m.bz⟩
theorem has_cut {n : Nat} {a : Addr} (h : (mp.cut n).has a) : mp.has a := h.elim (fun z => .inl (List.mem_of_mem_take z)) .inr
mutual
theorem Rep.cut (n : Nat) : ∀ (d : D) (v : V), Rep κ mp H d v → DL.cl n d → Rep κ (mp.cut n) H d v
  | .ref i, v, r, c => by
    simp only [Rep] at r ⊢
    obtain ⟨a, ha, e⟩ := r
    exact ⟨a, by show (mp.ids.take n)[i]? = some a; rw [List.getElem?_take_of_lt c]; exact ha, e⟩
  | .tup ds, v, r, c => by
    simp only [Rep] at r ⊢
    obtain ⟨a, vs, e, s, rs⟩ := r
    exact ⟨a, vs, e, s, Reps.cut n ds vs rs c⟩
  | .lst ds, v, r, c => by
    simp only [Rep] at r ⊢
    obtain ⟨a, vs, e, ⟨s, z⟩, rs⟩ := r
    exact ⟨a, vs, e, ⟨s, fun y => z (has_cut y)⟩, Reps.cut n ds vs rs c⟩
  | .dct ks ds, v, r, c => by
    simp only [Rep] at r ⊢
    obtain ⟨a, vs, e, ⟨s, z⟩, l, nd, rs⟩ := r
    exact ⟨a, vs, e, ⟨s, fun y => z (has_cut y)⟩, l, nd, Reps.cut n ds vs rs c⟩
  | .kdc ks ds, v, r, c => by
    simp only [Rep] at r ⊢
    obtain ⟨a, vs, es, m, e, s, l, rs, z⟩ := r
    exact ⟨a, vs, es, m, e, s, l, Reps.cut n ds vs rs c, z⟩
  | .scr ns, v, r, c => by
    simp only [Rep] at r ⊢
    obtain ⟨a, e, s⟩ := r
    exact ⟨a, e, s.imp (fun ⟨q, z⟩ => ⟨q, fun y => z (has_cut y)⟩) id⟩
  | .non, _, r, _ => by simpa only [Rep] using r
  | .bl _, _, r, _ => by simpa only [Rep] using r
  | .int _, _, r, _ => by simpa only [Rep] using r
  | .str _, _, r, _ => by simpa only [Rep] using r
  | .glb _, _, r, _ => by simpa only [Rep] using r
  | .ty _, _, r, _ => by simpa only [Rep] using r
theorem Reps.cut (n : Nat) : ∀ (ds : List D) (vs : List V), Reps κ mp H ds vs → DL.cls n ds → Reps κ (mp.cut n) H ds vs
  | [], _, r, _ => by simpa only [Reps] using r
  | d :: ds, vs, r, c => by
    simp only [Reps] at r ⊢
    obtain ⟨v, vr, e, r1, r2⟩ := r
    exact ⟨v, vr, e, Rep.cut n d v r1 c.1, Reps.cut n ds vr r2 c.2⟩
end
theorem RepF.cut (n : Nat) : ∀ (fs : List (Str × D)) (vs : List (Str × V)), RepF κ mp H fs vs → DL.clF n fs → RepF κ (mp.cut n) H fs vs
  | [], _, r, _ => r
  | (f, d) :: ds, vs, r, c => by
    obtain ⟨v, vr, ev, r1, r2⟩ := r
    exact ⟨v, vr, ev, Rep.cut n d v r1 c.1, RepF.cut n ds vr r2 c.2⟩
theorem RepO.cut (n : Nat) {a : Addr} : ∀ {o : MO}, RepO κ mp H a o → DL.clO n o → RepO κ (mp.cut n) H a o
  | .lst ds, ⟨vs, e, rs⟩, c => ⟨vs, e, Reps.cut n ds vs rs c⟩
  | .ins cn fs, ⟨C, dx, vs, e0, e, rf⟩, c => ⟨C, dx, vs, e0, e, RepF.cut n fs vs rf c⟩
  | .dct ks ds, ⟨vs, e, l, nd, rs⟩, c => ⟨vs, e, l, nd, Reps.cut n ds vs rs c⟩
theorem RelH.cut {h g : Hd} (R : RelH κ mp H (h ++ g)) (c : DL.clH h.length h) : RelH κ (mp.cut h.length) H h := by
  have l : h.length ≤ mp.ids.length := by rw [R.len, List.length_append]; omega
  refine ⟨R.nd.sublist (List.take_sublist _ _), by show (mp.ids.take h.length).length = _; rw [List.length_take]; omega, fun i a o h1 h2 => ?_, fun b hb => ⟨fun z => (R.bz b hb).1 (List.mem_of_mem_take z), (R.bz b hb).2⟩⟩
  have hi : i < h.length := (List.getElem?_eq_some_iff.mp h2).1
  have h1' : mp.ids[i]? = some a := by
    have h1 : (mp.ids.take h.length)[i]? = some a := h1
    rw [List.getElem?_take_of_lt hi] at h1
    exact h1
  exact (R.ob i a o h1' (by rw [List.getElem?_append_left hi]; exact h2)).cut _ (c i o h2)
theorem Ext.cut (e : Ext mp H mp' H') {n : Nat} (hn : mp.ids.length ≤ n) : Ext mp H (mp'.cut n) H' := by
  refine ⟨?_, e.same, e.keep, e.there, fun a h1 h2 => e.fresh a (List.mem_of_mem_take h1) h2⟩
  obtain ⟨t, z⟩ := e.pre
  refine ⟨t.take (n - mp.ids.length), ?_⟩
  show mp'.ids.take n = _
  rw [z, List.take_append, List.take_of_length_le hn]
theorem RepX.cut {n : Nat} {x : Exc} {c : Value} {dd : Option Addr} (r : RepX κ mp H x c dd) (k : DL.clF n x.fs) : RepX κ (mp.cut n) H x c dd := by
  obtain ⟨C, e1, e2, q⟩ := r
  refine ⟨C, e1, e2, ?_⟩
  rcases q with q | ⟨f, d, a, v, q1, q2, q3, q4, q5⟩
  · exact .inl q
  · rw [q1] at k
    exact .inr ⟨f, d, a, v, q1, q2, q3, fun y => q4 (has_cut y), Rep.cut n d v q5 k.1⟩
theorem PostG.trunc {W : WX} {σ : L2.St} {n : Nat} {o p : Out D} {Q : VK} (t : Trunc n o p) (hn : mp.ids.length = n) (q : PostG κ (Rep κ) W σ mp H o Q) : PostG κ (Rep κ) W σ mp H p Q := by
  cases t with
  | no => exact q.elim
  | ok d h g hl hh hd => exact fun v H' mp' e R r => q v H' (mp'.cut h.length) (e.cut (by rw [hn]; exact hl)) (R.cut hh) (Rep.cut _ d v r hd)
  | ex x h g hl hh hd => exact fun c dd H' mp' e R r => q c dd H' (mp'.cut h.length) (e.cut (by rw [hn]; exact hl)) (R.cut hh) (r.cut hd)
end
theorem CallS.as {κ : Kn} {k : Nat} {x : Str} {F G : Fn} (C : CallS κ k x F) (t : ∀ ds h, clH h.length h → cls h.length ds → Trunc h.length (G ds h) (F ds h)) : CallS κ k x G := by
  intro X hκ hr hg hc g1 g2 g3 W tk p pos es ta hs h0 ha
  have up : ∀ (σ : L2.St) (H : Hp) (Q : VK) (vs : List V) (H1 : Hp), (∃ mp h ds, RelH κ mp H1 h ∧ Reps κ mp H1 ds vs ∧ PostG κ (Rep κ) W σ mp H1 (G ds h) Q) → ∃ mp h ds, RelH κ mp H1 h ∧ Reps κ mp H1 ds vs ∧ PostG κ (Rep κ) W σ mp H1 (F ds h) Q := fun σ H Q vs H1 ⟨mp, h, ds, R, rs, q⟩ =>
    ⟨mp, h, ds, R, rs, PostG.trunc (t ds h R.clH (by rw [← R.len]; exact Reps.cls ds vs rs)) R.len q⟩
  have c := C X hκ hr hg hc g1 g2 g3 W tk p pos es (fun σ (H : Hp) (Q : List V → Hp → Prop) => ∃ Q0 : List V → Hp → Prop, ta σ H Q0 ∧ ∀ vs H, Q0 vs H → Q vs H) hs (fun e σ H Q ⟨Q0, h, k⟩ => k _ _ (h0 e σ H Q0 h)) ⟨fun pos pins s σ H Q I ⟨Q0, h, k⟩ => thn (ha.run pos pins s σ H Q0 I h) fun us s1 ⟨vs, H1, I1, r, q⟩ => ⟨vs, H1, I1, r, k _ _ q⟩⟩
  exact pe_wk c fun σ H Q q => ⟨_, q, fun vs H1 z => up σ H Q vs H1 z⟩
end DL
end

section
set_option Elab.async false
set_option linter.all false
set_option maxRecDepth 100000
namespace DL
open PySem
mutual
def fine : D → Nat → Bool
  | .non, _ => true
  | .bl _, _ => true
  | .int _, _ => true
  | .tup ds, n => match n with
    | 0 => false
    | n + 1 => fines ds n
  | .lst ds, n => match n with
    | 0 => false
    | n + 1 => fines ds n
  | _, _ => false
def fines : List D → Nat → Bool
  | [], _ => true
  | d :: ds, n => fine d n && fines ds n
end
mutual
def pd : D → PyData
  | .bl b => .bool b
  | .int i => .int i
  | .tup ds => .tuple (pds ds)
  | .lst ds => .list (pds ds)
  | _ => .none
def pds : List D → List PyData
  | [] => []
  | d :: ds => pd d :: pds ds
end
mutual
theorem fine_to (h : Hd) : ∀ (d : D) (n : Nat), fine d n = true → toP h d = some (pd d) ∧ (pd d).canLay0 = true ∧ (pd d).depth ≤ n + 1
  | .non, n, _ => ⟨rfl, rfl, by simp [pd, PyData.depth]⟩
  | .bl b, n, _ => ⟨rfl, rfl, by simp [pd, PyData.depth]⟩
  | .int i, n, _ => ⟨rfl, rfl, by simp [pd, PyData.depth]⟩
  | .tup ds, 0, f => by cases f
  | .tup ds, n + 1, f => by
    obtain ⟨h1, h2, h3⟩ := fines_to h ds n f
    refine ⟨by simp [toP, h1, pd], by simpa [pd, PyData.canLay0] using h2, ?_⟩
    simp only [pd, PyData.depth]
    omega
  | .lst ds, 0, f => by cases f
  | .lst ds, n + 1, f => by
    obtain ⟨h1, h2, h3⟩ := fines_to h ds n f
    refine ⟨by simp [toP, h1, pd], by simpa [pd, PyData.canLay0] using h2, ?_⟩
    simp only [pd, PyData.depth]
    omega
  | .str _, _, f => by cases f
  | .dct _ _, _, f => by cases f
  | .kdc _ _, _, f => by cases f
  | .scr _, _, f => by cases f
  | .ref _, _, f => by cases f
  | .glb _, _, f => by cases f
  | .ty _, _, f => by cases f
theorem fines_to (h : Hd) : ∀ (ds : List D) (n : Nat), fines ds n = true → toPs h ds = some (pds ds) ∧ PyData.canLayAll0 (pds ds) = true ∧ PyData.depthAll (pds ds) ≤ n + 1
  | [], n, _ => ⟨rfl, rfl, by simp [pds, PyData.depthAll]⟩
  | d :: ds, n, f => by
    simp only [fines, Bool.and_eq_true] at f
    obtain ⟨h1, h2, h3⟩ := fine_to h d n f.1
    obtain ⟨k1, k2, k3⟩ := fines_to h ds n f.2
    refine ⟨by simp [toPs, h1, k1, pds], by simp [pds, PyData.canLayAll0, h2, k2], ?_⟩
    simp only [pds, PyData.depthAll]
    omega
end
theorem fine_shaped {d : D} {n : Nat} (f : fine d n = true) (hn : n ≤ 63) : SeqAt.shaped (pd d) = true := by
  obtain ⟨_, h2, h3⟩ := fine_to [] d n f
  simp only [SeqAt.shaped, Bool.and_eq_true, decide_eq_true_eq]
  exact ⟨h2, by omega⟩
theorem eqD_fine (h : Hd) {x y : D} (fx : fine x 9 = true) (fy : fine y 9 = true) : eqD h x y = some (PyData.eqv (pd x) (pd y)) := by
  unfold eqD
  rw [(fine_to h x 9 fx).1, (fine_to h y 9 fy).1]
  simp [fine_shaped fx (by decide), fine_shaped fy (by decide)]
theorem eqD_self (h : Hd) {x : D} (fx : fine x 9 = true) : eqD h x x = some true := by
  rw [eqD_fine h fx fx, SeqAt.eqv_refl _ (fine_to h x 9 fx).2.1]
theorem eqD_int (h : Hd) (i j : Int) : eqD h (.int i) (.int j) = some (decide (i = j)) := by
  rw [eqD_fine h rfl rfl]
  simp [pd, PyData.eqv, BEq.beq]
theorem eqD_bl (h : Hd) (i j : Bool) : eqD h (.bl i) (.bl j) = some (i == j) := by
  rw [eqD_fine h rfl rfl]
  rfl
theorem fines_ints : ∀ (ns : List Int) (n : Nat), fines (ns.map .int) n = true
  | [], _ => rfl
  | _ :: ns, n => by simp [fines, fine, fines_ints ns n]
theorem eqD_tupnil (h : Hd) {ds : List D} (f : fines ds 8 = true) : eqD h (.tup ds) (.tup []) = some ds.isEmpty := by
  rw [eqD_fine h (show fine (.tup ds) 9 = true from f) rfl]
  cases ds <;> rfl
theorem eqD_lstnil (h : Hd) {ds : List D} (f : fines ds 8 = true) : eqD h (.lst ds) (.lst []) = some ds.isEmpty := by
  rw [eqD_fine h (show fine (.lst ds) 9 = true from f) rfl]
  cases ds <;> rfl
section
variable {c : Sl → Hd → Out Bool} {b : Sl → Hd → OutS} {δ δ' : Sl} {h h' h1 : Hd}
theorem while_true (hc : c δ h = .ok true h1) (hb : b δ h1 = .fl (.nx δ') h') : whileF c b δ h = whileF c b δ' h' := by
  rw [whileF_eq, hc, Out.stm_ok, if_pos rfl, hb, OutS.turn_nx]
theorem while_false (hc : c δ h = .ok false h1) : whileF c b δ h = .fl (.nx δ) h1 := by
  rw [whileF_eq, hc, Out.stm_ok, if_neg Bool.false_ne_true]
theorem for_nil {tg : List Nat} {ok : Hd → Prop} : forF tg ok b [] δ h = .fl (.nx δ) h := rfl
theorem for_cons {tg : List Nat} {ok : Hd → Prop} {x : D} {xs : List D} {δ1 : Sl} (hs : storeD tg x δ = some δ1) (hb : b δ1 h = .fl (.nx δ') h') (ho : ok h') : forF tg ok b (x :: xs) δ h = forF tg ok b xs δ' h' := by
  show (match storeD tg x δ with
    | some δ => (b δ h).turn fun δ h => open Classical in if ok h then forF tg ok b xs δ h else .no
    | none => .no) = _
  rw [hs]
  show (b δ1 h).turn _ = _
  rw [hb, OutS.turn_nx, if_pos ho]
theorem turns_nil {step : Nat → D → Hd → Out (List D)} {ok : Hd → Prop} {base : Nat} {acc : List D} : turns step ok base [] acc h = .ok acc h := rfl
theorem turns_one {step : Nat → D → Hd → Out (List D)} {ok : Hd → Prop} {base : Nat} {x : D} {xs acc ys : List D} (hs : step (base + acc.length) x h = .ok ys h') (ho : ok h') (hl : base + acc.length + ys.length ≤ line) : turns step ok base (x :: xs) acc h = turns step ok base xs (acc ++ ys) h' := by
  show (step (base + acc.length) x h).bind _ = _
  rw [hs, Out.bind_ok]
  exact if_pos ⟨ho, hl⟩
theorem turns_pure {step : Nat → D → Hd → Out (List D)} {ok : Hd → Prop} {base : Nat} (f : D → List D) (ho : ok h) : ∀ (xs acc : List D), (∀ x ∈ xs, ∀ n, step n x h = .ok (f x) h) → base + (acc ++ xs.flatMap f).length ≤ line → turns step ok base xs acc h = .ok (acc ++ xs.flatMap f) h
  | [], acc, _, _ => by simp [turns_nil]
  | x :: xs, acc, hs, hl => by
    rw [turns_one (hs x List.mem_cons_self _) ho (by simp at hl ⊢; omega), turns_pure f ho xs (acc ++ f x) (fun y hy => hs y (List.mem_cons_of_mem _ hy)) (by simp at hl ⊢; omega)]
    simp
theorem den_nx {s : S} {ss : List S} (hs : denS s δ h = .fl (.nx δ') h') : denSs (s :: ss) δ h = denSs ss δ' h' := by
  show (denS s δ h).then _ = _
  rw [hs, OutS.then_nx]
theorem den_rt {s : S} {ss : List S} {d : D} (hs : denS s δ h = .fl (.rt d) h') : denSs (s :: ss) δ h = .fl (.rt d) h' := by
  show (denS s δ h).then _ = _
  rw [hs, OutS.then_rt]
theorem den_whl {t : E} {a : List S} : denS (.whl t a) δ h = whileF (denT t) (denSs a) δ h := rfl
theorem den_for {tg : List Nat} {ik : IK} {src : List E} {a : List S} {ss xs : List D} (hs : denEs src δ h = .ok ss h1) (hx : srcD ik ss h1 = some xs) : denS (.fors tg ik src a) δ h = forF tg (sameSrc ik ss h1) (denSs a) xs δ h1 := by
  show (denEs src δ h).stm δ _ = _
  rw [hs, Out.stm_ok, hx]
theorem den_nil : denSs [] δ h = .fl (.nx δ) h := rfl
theorem den_if1 {t : E} {a b : List S} (hc : denT t δ h = .ok true h1) : denS (.ife t a b) δ h = denSs a δ h1 := by
  show (denT t δ h).stm δ _ = _
  rw [hc, Out.stm_ok, if_pos rfl]
theorem den_if0 {t : E} {a b : List S} (hc : denT t δ h = .ok false h1) : denS (.ife t a b) δ h = denSs b δ h1 := by
  show (denT t δ h).stm δ _ = _
  rw [hc, Out.stm_ok, if_neg Bool.false_ne_true]
theorem run_rt {n p : Nat} {b : List S} {ds : List D} {d : D} (l : ds.length = p) (hs : denSs b (ds.map some ++ List.replicate (n - ds.length) none) h = .fl (.rt d) h') : runB n p b ds h = .ok d h' := by
  unfold runB
  rw [if_pos l, hs]
theorem run_nx {n p : Nat} {b : List S} {ds : List D} (l : ds.length = p) (hs : denSs b (ds.map some ++ List.replicate (n - ds.length) none) h = .fl (.nx δ') h') : runB n p b ds h = .ok .non h' := by
  unfold runB
  rw [if_pos l, hs]
theorem sameSrc_self (ik : IK) (ss : List D) (h : Hd) : sameSrc ik ss h h := by cases ik <;> first | trivial | exact fun _ _ => rfl
theorem den_comp {own : List (Str × Nat)} {e : E} {tg : List Nat} {ik : IK} {src cs : List E} {ss xs : List D} (f : D → List D) (hs : denEs src δ h = .ok ss h) (hx : srcD ik ss h = some xs)
    (hstep : ∀ x ∈ xs, ∃ δ1, storeD tg x (wipeD δ (own.map (·.2))) = some δ1 ∧ (denCs cs δ1 h).calm.bind (fun b h => if b then (denE e δ1 h).calm.bind fun y h => .ok [y] h else .ok [] h) = .ok (f x) h)
    (hl : (xs.flatMap f).length ≤ line) : denE (.comp own e tg ik src cs) δ h = .ok (.lst (xs.flatMap f)) h := by
  simp only [denE]
  rw [hs, Out.bind_ok, hx]
  dsimp only
  rw [turns_pure f (sameSrc_self ik ss h) xs [] (fun x hx n => by
    obtain ⟨δ1, e1, e2⟩ := hstep x hx
    rw [e1]
    exact e2) (by simpa using hl)]
  rfl
theorem den_comp2 {own : List (Str × Nat)} {e : E} {tg tg1 : List Nat} {ik ik1 : IK} {src cs src1 cs1 : List E} {ss xs : List D} (f : D → List D) (hs : denEs src δ h = .ok ss h) (hx : srcD ik ss h = some xs)
    (hstep : ∀ x ∈ xs, ∃ δ1 ss1 xs1, ∃ g : D → List D, storeD tg x (wipeD δ (own.map (·.2))) = some δ1 ∧ denCs cs δ1 h = .ok true h ∧ denEs src1 δ1 h = .ok ss1 h ∧ srcD ik1 ss1 h = some xs1 ∧ xs1.flatMap g = f x ∧
      ∀ y ∈ xs1, ∃ δ2, storeD tg1 y (wipeD δ1 tg1) = some δ2 ∧ (denCs cs1 δ2 h).calm.bind (fun b h => if b then (denE e δ2 h).calm.bind fun y h => .ok [y] h else .ok [] h) = .ok (g y) h)
    (hl : (xs.flatMap f).length ≤ line) : denE (.comp2 own e tg ik src cs tg1 ik1 src1 cs1) δ h = .ok (.lst (xs.flatMap f)) h := by
  simp only [denE]
  rw [hs, Out.bind_ok, hx]
  dsimp only
  have go : ∀ (ys acc : List D), (∀ y ∈ ys, y ∈ xs) → (acc ++ ys.flatMap f).length ≤ line → turns (fun n x h => match storeD tg x (wipeD δ (own.map (·.2))) with
        | some δ => (denCs cs δ h).calm.bind fun b h => if b then (denEs src1 δ h).calm.bind fun ss1 h => (match srcD ik1 ss1 h with
            | some xs1 => turns (fun _ x h => match storeD tg1 x (wipeD δ tg1) with
                | some δ => (denCs cs1 δ h).calm.bind fun b h => if b then (denE e δ h).calm.bind fun y h => .ok [y] h else .ok [] h
                | none => .no) (sameSrc ik1 ss1 h) n xs1 [] h
            | none => .no) else .ok [] h
        | none => .no) (sameSrc ik ss h) 0 ys acc h = .ok (acc ++ ys.flatMap f) h := by
    intro ys
    induction ys with
    | nil => intro acc _ _; simp [turns_nil]
    | cons y ys ih =>
      intro acc hm hl
      obtain ⟨δ1, ss1, xs1, g, e1, e2, e3, e4, e5, e6⟩ := hstep y (hm y List.mem_cons_self)
      have hl2 : acc.length + (f y).length ≤ line := by simp at hl; omega
      rw [turns_one (ys := f y) (h' := h) (by
        rw [e1]
        dsimp only
        rw [e2]
        show Out.bind (denEs src1 δ1 h).calm _ = _
        rw [e3]
        show (match srcD ik1 ss1 h with
            | some xs1 => _
            | none => _) = _
        rw [e4]
        dsimp only
        rw [turns_pure g (sameSrc_self ik1 ss1 h) xs1 [] (fun z hz n => by
          obtain ⟨δ2, a1, a2⟩ := e6 z hz
          rw [a1]
          exact a2) (by rw [List.nil_append, e5]; omega), List.nil_append, e5]) (sameSrc_self ik ss h) (by omega)]
      rw [ih (acc ++ f y) (fun z hz => hm z (List.mem_cons_of_mem _ hz)) (by simpa using hl)]
      simp
  exact (congrArg (fun o : Out (List D) => o.bind fun ys h => Out.ok (D.lst ys) h) (go xs [] (fun _ z => z) (by simpa using hl))).trans (by simp)
end
end DL
end

section
set_option Elab.async false
set_option linter.all false
set_option maxRecDepth 100000
namespace DL
open PySem
theorem den_ret {e : E} {δ : Sl} {h h1 : Hd} {d : D} (he : denE e δ h = .ok d h1) : denS (.ret e) δ h = .fl (.rt d) h1 := by
  show (denE e δ h).stm δ _ = _
  rw [he]
  rfl
theorem den_as {i : Nat} {e : E} {δ : Sl} {h h1 : Hd} {d : D} (he : denE e δ h = .ok d h1) : denS (.asg [.nm i] e) δ h = .fl (.nx (δ.set i (some d))) h1 := by
  show (denE e δ h).stm δ _ = _
  rw [he]
  rfl
theorem den_ex {e : E} {δ : Sl} {h h1 : Hd} {d : D} (he : denE e δ h = .ok d h1) : denS (.expr e) δ h = .fl (.nx δ) h1 := by
  show (denE e δ h).stm δ _ = _
  rw [he]
  rfl
theorem den_call1 {x : Str} {F : Fn} {a : E} {δ : Sl} {h h1 h2 : Hd} {d r : D} (ha : denE a δ h = .ok d h1) (hF : F [d] h1 = .ok r h2) : denE (.call x F [a]) δ h = .ok r h2 := by
  simp only [denE, denEs, ha, Out.bind_ok, hF]
theorem den_call2 {x : Str} {F : Fn} {a b : E} {δ : Sl} {h h1 h2 h3 : Hd} {d e r : D} (ha : denE a δ h = .ok d h1) (hb : denE b δ h1 = .ok e h2) (hF : F [d, e] h2 = .ok r h3) : denE (.call x F [a, b]) δ h = .ok r h3 := by
  simp only [denE, denEs, ha, hb, Out.bind_ok, hF]
theorem den_call3 {x : Str} {F : Fn} {a b c : E} {δ : Sl} {h h1 h2 h3 h4 : Hd} {d e f r : D} (ha : denE a δ h = .ok d h1) (hb : denE b δ h1 = .ok e h2) (hc : denE c δ h2 = .ok f h3) (hF : F [d, e, f] h3 = .ok r h4) : denE (.call x F [a, b, c]) δ h = .ok r h4 := by
  simp only [denE, denEs, ha, hb, hc, Out.bind_ok, hF]
theorem den_bin {o : Bop} {a b : E} {δ : Sl} {h h1 h2 : Hd} {x y d : D} (ha : denE a δ h = .ok x h1) (hb : denE b δ h1 = .ok y h2) (hd : binD o x y h2 = some d) : denE (.bin o a b) δ h = .ok d h2 := by
  simp only [denE, ha, hb, Out.bind_ok, hd, optD_some]
theorem den_cmp {o : Cop} {a b : E} {δ : Sl} {h h1 h2 : Hd} {x y : D} {k : Bool} (ha : denE a δ h = .ok x h1) (hb : denE b δ h1 = .ok y h2) (hd : cmpD o x y h2 = some k) : denE (.cmp o a b) δ h = .ok (.bl k) h2 := by
  simp only [denE, ha, hb, Out.bind_ok, hd, Option.map, optD_some]
theorem denT_cmp {o : Cop} {a b : E} {δ : Sl} {h h1 h2 : Hd} {x y : D} {k : Bool} (ha : denE a δ h = .ok x h1) (hb : denE b δ h1 = .ok y h2) (hd : cmpD o x y h2 = some k) : denT (.cmp o a b) δ h = .ok k h2 := by
  simp only [denT, ha, hb, Out.bind_ok, hd, optD_some]
theorem den_var {i : Nat} {δ : Sl} {h : Hd} {d : D} (e : δ[i]? = some (some d)) : denE (.var i) δ h = .ok d h := by
  simp only [denE, e]
theorem mul_sm {i j : Int} (h : -(2 ^ 64) < i ∧ i < 2 ^ 64) : mulOk i j := .inl h
theorem mul_sm2 {i j : Int} (h : -(2 ^ 64) < j ∧ j < 2 ^ 64) : mulOk i j := .inr (.inl h)
theorem fmN (a b : Nat) : Int.fmod (a : Int) (b : Int) = ((a % b : Nat) : Int) := by simp [Int.fmod_eq_emod_of_nonneg]
theorem fdN (a b : Nat) : Int.fdiv (a : Int) (b : Int) = ((a / b : Nat) : Int) := by simp [Int.fdiv_eq_ediv_of_nonneg]

theorem b_add {i j : Int} {h : Hd} : binD .add (.int i) (.int j) h = some (.int (i + j)) := rfl
theorem b_sub {i j : Int} {h : Hd} : binD .sub (.int i) (.int j) h = some (.int (i - j)) := rfl
theorem b_mul {i j : Int} {h : Hd} (m : mulOk i j) : binD .mul (.int i) (.int j) h = some (.int (i * j)) := if_pos m
theorem b_div {i j : Int} {h : Hd} (m : divOk i j) : binD .div (.int i) (.int j) h = some (.int (Int.fdiv i j)) := if_pos m
theorem b_mod {i j : Int} {h : Hd} (m : j ≠ 0) : binD .mod (.int i) (.int j) h = some (.int (Int.fmod i j)) := if_pos m
theorem b_pow {i j : Int} {h : Hd} (m : powOk i j) : binD .pow (.int i) (.int j) h = some (.int (i ^ j.toNat)) := if_pos m
theorem bN_add {i j : Nat} {h : Hd} : binD .add (.int i) (.int j) h = some (.int (i + j : Nat)) := by rw [b_add, Int.natCast_add]
theorem bN_mul {i j : Nat} {h : Hd} (m : mulOk i j) : binD .mul (.int i) (.int j) h = some (.int (i * j : Nat)) := by rw [b_mul m, Int.natCast_mul]
theorem bN_div {i j : Nat} {h : Hd} (m : divOk i j) : binD .div (.int i) (.int j) h = some (.int (i / j : Nat)) := by rw [b_div m, fdN]
theorem bN_mod {i j : Nat} {h : Hd} (m : j ≠ 0) : binD .mod (.int i) (.int j) h = some (.int (i % j : Nat)) := by rw [b_mod (by omega), fmN]
theorem bN_sub {i j : Nat} {h : Hd} (m : j ≤ i) : binD .sub (.int i) (.int j) h = some (.int (i - j : Nat)) := by rw [b_sub, Int.ofNat_sub m]
theorem c_lt {i j : Int} {h : Hd} : cmpD .lt (.int i) (.int j) h = some (decide (i < j)) := rfl
theorem c_le {i j : Int} {h : Hd} : cmpD .le (.int i) (.int j) h = some (decide (i ≤ j)) := rfl
theorem c_gt {i j : Int} {h : Hd} : cmpD .gt (.int i) (.int j) h = some (decide (j < i)) := rfl
theorem c_ge {i j : Int} {h : Hd} : cmpD .ge (.int i) (.int j) h = some (decide (j ≤ i)) := rfl
theorem c_eq {i j : Int} {h : Hd} : cmpD .eq (.int i) (.int j) h = some (decide (i = j)) := eqD_int h i j
theorem c_ne {i j : Int} {h : Hd} : cmpD .ne (.int i) (.int j) h = some (decide (i ≠ j)) := by
  show (eqD h (.int i) (.int j)).map (!·) = _
  rw [eqD_int]
  by_cases z : i = j
  · simp [z]
  · simp [z]
theorem cN_lt {i j : Nat} {h : Hd} : cmpD .lt (.int i) (.int j) h = some (decide (i < j)) := by rw [c_lt]; congr 1; exact decide_eq_decide.mpr (by omega)
theorem cN_le {i j : Nat} {h : Hd} : cmpD .le (.int i) (.int j) h = some (decide (i ≤ j)) := by rw [c_le]; congr 1; exact decide_eq_decide.mpr (by omega)
theorem cN_gt {i j : Nat} {h : Hd} : cmpD .gt (.int i) (.int j) h = some (decide (j < i)) := by rw [c_gt]; congr 1; exact decide_eq_decide.mpr (by omega)
theorem cN_ge {i j : Nat} {h : Hd} : cmpD .ge (.int i) (.int j) h = some (decide (j ≤ i)) := by rw [c_ge]; congr 1; exact decide_eq_decide.mpr (by omega)
theorem cN_eq {i j : Nat} {h : Hd} : cmpD .eq (.int i) (.int j) h = some (decide (i = j)) := by rw [c_eq]; congr 1; exact decide_eq_decide.mpr (by omega)
theorem cN_ne {i j : Nat} {h : Hd} : cmpD .ne (.int i) (.int j) h = some (decide (i ≠ j)) := by rw [c_ne]; congr 1; exact decide_eq_decide.mpr (by omega)
theorem cs0 {e : E} {δ : Sl} {h : Hd} {y : D} (he : denE e δ h = .ok y h) : (denCs [] δ h).calm.bind (fun b h => if b then (denE e δ h).calm.bind fun y h => .ok [y] h else .ok [] h) = .ok [y] h := by
  rw [denCs]
  show (if true = true then (denE e δ h).calm.bind fun y h => Out.ok [y] h else .ok [] h) = _
  rw [if_pos rfl, he]
  rfl
theorem cs1 {c e : E} {δ : Sl} {h : Hd} {y : D} {k : Bool} (hc : denE c δ h = .ok (.bl k) h) (he : k = true → denE e δ h = .ok y h) : (denCs [c] δ h).calm.bind (fun b h => if b then (denE e δ h).calm.bind fun y h => .ok [y] h else .ok [] h) = .ok (if k then [y] else []) h := by
  rw [denCs, hc, Out.bind_ok]
  cases k with
  | false => rfl
  | true =>
    show (if true = true then (denE e δ h).calm.bind fun y h => Out.ok [y] h else .ok [] h) = _
    rw [if_pos rfl, he rfl]
    rfl
theorem den_ife {c a b : E} {δ : Sl} {h h1 h2 : Hd} {x d : D} {k : Bool} (hc : denE c δ h = .ok x h1) (ht : truD h1 x = some k) (hd : (if k then denE a δ h1 else denE b δ h1) = .ok d h2) : denE (.ife c a b) δ h = .ok d h2 := by
  rw [denE, hc, Out.bind_ok, ht]
  cases k <;> exact hd
def poolO (a b c : Nat) : MO := .lst [.int a, .int b, .int c]
noncomputable def drawB : List S := [.ife (.cmp .gt (.idx (.var 0) (.lit (.int 1))) (.lit (.int 0))) [.asg [.sub (.var 0) (.lit (.int 1)), .nm 3] (.call "divmod" (pureF divmodP) [(.idx (.var 0) (.lit (.int 1))), (.var 1)]),
    .ret (.var 3)] [],
    .asg [.sub (.var 0) (.lit (.int 2))] (.bin .add (.idx (.var 0) (.lit (.int 2))) (.lit (.int 1))),
    .asg [.nm 2] (.call "int" (pureF intP) [(.idx (.var 0) (.lit (.int 0)))]),
    .asg [.sub (.var 0) (.lit (.int 0))] (.bin .mod (.call "int" (pureF intP) [(.bin .add (.bin .add (.bin .mul (.var 2) (.bin .add (.bin .mod (.var 2) (.lit (.int 20011))) (.lit (.int 30011)))) (.bin .mul (.lit (.int 70001)) (.idx (.var 0) (.lit (.int 2))))) (.lit (.int 9)))]) (.lit (.int 2147482937))),
    .ret (.bin .mod (.call "int" (pureF intP) [(.bin .div (.idx (.var 0) (.lit (.int 0))) (.lit (.int 128)))]) (.var 1))]
noncomputable def drawF : Fn := runB 4 2 drawB
theorem pool_at {h : Hd} {i a b c : Nat} (hp : h[i]? = some (poolO a b c)) : i < h.length := (List.getElem?_eq_some_iff.mp hp).1
theorem pool_0 {h : Hd} {i a b c : Nat} (hp : h[i]? = some (poolO a b c)) : idxD (.ref i) (.int 0) h = some (.int a) := by simp [idxD, hp, poolO, atD, ixD]
theorem pool_1 {h : Hd} {i a b c : Nat} (hp : h[i]? = some (poolO a b c)) : idxD (.ref i) (.int 1) h = some (.int b) := by simp [idxD, hp, poolO, atD, ixD]
theorem pool_2 {h : Hd} {i a b c : Nat} (hp : h[i]? = some (poolO a b c)) : idxD (.ref i) (.int 2) h = some (.int c) := by simp [idxD, hp, poolO, atD, ixD]
theorem pool_s0 {h : Hd} {i a b c v : Nat} (hp : h[i]? = some (poolO a b c)) : setD (.ref i) (.int 0) (.int v) h = some (h.set i (poolO v b c)) := by simp [setD, hp, poolO, ixD]
theorem pool_s1 {h : Hd} {i a b c v : Nat} (hp : h[i]? = some (poolO a b c)) : setD (.ref i) (.int 1) (.int v) h = some (h.set i (poolO a v c)) := by simp [setD, hp, poolO, ixD]
theorem pool_s2 {h : Hd} {i a b c v : Nat} (hp : h[i]? = some (poolO a b c)) : setD (.ref i) (.int 2) (.int v) h = some (h.set i (poolO a b v)) := by simp [setD, hp, poolO, ixD]
theorem pool_set {h : Hd} {i a b c a' b' c' : Nat} (hp : h[i]? = some (poolO a b c)) : (h.set i (poolO a' b' c'))[i]? = some (poolO a' b' c') := by simp [pool_at hp]
theorem draw_ok {h : Hd} {i a b c many : Nat} (hp : h[i]? = some (poolO a b c)) (h1 : 0 < many) (h2 : many < 1073741824) : ∃ v a' b' c', v < many ∧ drawF [.ref i, .int many] h = .ok (.int (v : Nat)) (h.set i (poolO a' b' c')) := by
  by_cases z : 0 < b
  · refine ⟨b % many, a, b / many, c, Nat.mod_lt _ h1, ?_⟩
    refine run_rt rfl ?_
    show denSs drawB [some (.ref i), some (.int many), none, none] h = _
    unfold drawB
    have z' : (0 : Int) < (b : Int) := by omega
    refine den_rt ((den_if1 (h1 := h) (by simp [denT, denE, pool_1 hp, cmpD]; exact z)).trans ?_)
    have e1 : (b : Int) / (many : Int) = ((b / many : Nat) : Int) := by simp
    have e2 : (b : Int) % (many : Int) = ((b % many : Nat) : Int) := by simp
    have hm : (many : Int) < 1073741824 := by omega
    rw [den_nx (δ' := [some (.ref i), some (.int many), none, some (.int (b % many : Nat))]) (h' := h.set i (poolO a (b / many) c)) (by
      simp only [denS, denE, denEs, List.getElem?_cons_zero, List.getElem?_cons_succ, Out.bind_ok, pool_1 hp, optD_some, pureF, okI, divmodP, Out.stm_ok]
      rw [if_pos ⟨by omega, hm⟩, e1, e2]
      simp only [okI, Out.stm_ok, asgT, List.length_cons, List.length_nil, if_true, storesT, storeT, denE, List.getElem?_cons_zero, List.getElem?_cons_succ, pool_s1 hp, OutS.then_nx]
      rfl)]
    refine den_rt (den_ret ?_)
    rfl
  · refine ⟨(a * (a % 20011 + 30011) + 70001 * (c + 1) + 9) % 2147482937 / 128 % many, (a * (a % 20011 + 30011) + 70001 * (c + 1) + 9) % 2147482937, b, c + 1, Nat.mod_lt _ h1, ?_⟩
    refine run_rt rfl ?_
    show denSs drawB [some (.ref i), some (.int many), none, none] h = _
    unfold drawB
    have z' : ¬ (0 : Int) < (b : Int) := by omega
    rw [den_nx (δ' := [some (.ref i), some (.int many), none, none]) (h' := h) ((den_if0 (h1 := h) (by simp [denT, denE, pool_1 hp, cmpD]; omega)).trans den_nil)]
    have hp2 := pool_set (a' := a) (b' := b) (c' := c + 1) hp
    have l0 : ∀ w x y : Option D, denE (.idx (.var 0) (.lit (.int 2))) [some (.ref i), w, x, y] h = .ok (.int c) h := fun w x y => by
      simp only [denE, List.getElem?_cons_zero, Out.bind_ok, pool_2 hp, optD_some]
    rw [den_nx (δ' := [some (.ref i), some (.int many), none, none]) (h' := h.set i (poolO a b (c + 1))) (by
      simp only [denS]
      rw [den_bin (l0 _ _ _) rfl b_add]
      simp only [Out.stm_ok, asgT, storeT, denE, List.getElem?_cons_zero]
      have : setD (.ref i) (.int 2) (.int ((c : Int) + 1)) h = some (h.set i (poolO a b (c + 1))) := pool_s2 (v := c + 1) hp
      rw [this])]
    refine Eq.trans ?_ (congrArg (OutS.fl _) (show (h.set i (poolO a b (c + 1))).set i (poolO ((a * (a % 20011 + 30011) + 70001 * (c + 1) + 9) % 2147482937) b (c + 1)) = _ from List.set_set _))
    generalize h.set i (poolO a b (c + 1)) = hh at hp2 ⊢
    have l1 : ∀ w x y : Option D, denE (.idx (.var 0) (.lit (.int 0))) [some (.ref i), w, x, y] hh = .ok (.int a) hh := fun w x y => by
      simp only [denE, List.getElem?_cons_zero, Out.bind_ok, pool_0 hp2, optD_some]
    have l2 : ∀ w x y : Option D, denE (.idx (.var 0) (.lit (.int 2))) [some (.ref i), w, x, y] hh = .ok (.int (c + 1 : Nat)) hh := fun w x y => by
      simp only [denE, List.getElem?_cons_zero, Out.bind_ok, pool_2 hp2, optD_some]
    rw [den_nx (den_as (d := .int a) (h1 := hh) (den_call1 (l1 _ _ _) rfl))]
    have m1 : mulOk (a : Int) ((a % 20011 + 30011 : Nat) : Int) := mul_sm2 ⟨by omega, by omega⟩
    have m2 : mulOk ((70001 : Nat) : Int) ((c + 1 : Nat) : Int) := mul_sm ⟨by omega, by omega⟩
    have e3 : denE (.bin .mod (.call "int" (pureF intP) [(.bin .add (.bin .add (.bin .mul (.var 2) (.bin .add (.bin .mod (.var 2) (.lit (.int 20011))) (.lit (.int 30011)))) (.bin .mul (.lit (.int 70001)) (.idx (.var 0) (.lit (.int 2))))) (.lit (.int 9)))]) (.lit (.int 2147482937))) [some (.ref i), some (.int many), some (.int a), none] hh = .ok (.int ((a * (a % 20011 + 30011) + 70001 * (c + 1) + 9) % 2147482937 : Nat)) hh :=
      den_bin (den_call1 (den_bin (den_bin (den_bin rfl (den_bin (den_bin (x := .int a) rfl rfl (bN_mod (j := 20011) (by decide))) rfl (bN_add (j := 30011))) (bN_mul m1)) (den_bin rfl (l2 _ _ _) (bN_mul m2)) bN_add) rfl (bN_add (j := 9))) rfl) rfl (bN_mod (j := 2147482937) (by decide))
    rw [den_nx (δ' := [some (.ref i), some (.int many), some (.int a), none]) (h' := hh.set i (poolO ((a * (a % 20011 + 30011) + 70001 * (c + 1) + 9) % 2147482937) b (c + 1))) (by
      simp only [denS, List.set]
      rw [e3]
      simp only [Out.stm_ok, asgT, storeT, denE, List.getElem?_cons_zero, pool_s0 hp2])]
    have hp3 := pool_set (a' := (a * (a % 20011 + 30011) + 70001 * (c + 1) + 9) % 2147482937) (b' := b) (c' := c + 1) hp2
    refine den_rt (den_ret ?_)
    generalize (a * (a % 20011 + 30011) + 70001 * (c + 1) + 9) % 2147482937 = w at *
    have d1 : divOk (w : Int) ((128 : Nat) : Int) := ⟨by decide, .inl (by decide)⟩
    have l3 : denE (.idx (.var 0) (.lit (.int 0))) [some (.ref i), some (.int many), some (.int a), none] (hh.set i (poolO w b (c + 1))) = .ok (.int w) (hh.set i (poolO w b (c + 1))) := by
      simp only [denE, List.getElem?_cons_zero, Out.bind_ok, pool_0 hp3, optD_some]
    exact den_bin (den_call1 (den_bin l3 rfl (bN_div d1)) rfl) rfl (bN_mod (by omega))
noncomputable def pickB (Fd : Fn) : List S := [.ret (.idx (.var 1) (.call "_law_draw" Fd [(.var 0), (.call "len" (pureF lenP) [(.var 1)])]))]
noncomputable def pickF : Fn := runB 2 2 (pickB drawF)
theorem at_get {xs : List D} {v : Nat} (hv : v < xs.length) : atD xs (v : Int) = some xs[v] := by
  unfold atD ixD
  rw [if_pos (by omega), if_pos (by omega)]
  simp [hv]
theorem pick_ok {h : Hd} {i a b c : Nat} {xs : List D} {d : D} (hd : d = .lst xs ∨ d = .tup xs) (hp : h[i]? = some (poolO a b c)) (h1 : 0 < xs.length) (h2 : xs.length < 1073741824) : ∃ v a' b' c', ∃ hv : v < xs.length, pickF [.ref i, d] h = .ok xs[v] (h.set i (poolO a' b' c')) := by
  obtain ⟨v, a', b', c', hv, e⟩ := draw_ok hp h1 h2
  refine ⟨v, a', b', c', hv, run_rt rfl ?_⟩
  show denSs (pickB drawF) [some (.ref i), some d] h = _
  refine den_rt (den_ret ?_)
  have e2 : denE (.call "_law_draw" drawF [(.var 0), (.call "len" (pureF lenP) [(.var 1)])]) [some (.ref i), some d] h = .ok (.int v) (h.set i (poolO a' b' c')) := by
    simp only [denE, denEs, List.getElem?_cons_zero, List.getElem?_cons_succ, Out.bind_ok, pureF, okI]
    have : lenP h [d] = some (.int xs.length) := by rcases hd with z | z <;> subst z <;> rfl
    rw [this]
    exact e
  rw [denE, den_var rfl, Out.bind_ok, e2, Out.bind_ok]
  have : idxD d (.int v) (h.set i (poolO a' b' c')) = some xs[v] := by
    rcases hd with z | z <;> subst z <;> exact at_get hv
  rw [this]
  rfl

noncomputable def numberB (Fd Fp : Fn) : List S := [.ife (.cmp .eq (.call "_law_draw" Fd [(.var 0), (.lit (.int 4))]) (.lit (.int 0))) [.ret (.bin .add (.lit (.int 1)) (.call "_law_draw" Fd [(.var 0), (.var 1)]))] [],
    .asg [.nm 2] (.lit (.int 1)),
    .fors [3] .rng1 [(.bin .add (.lit (.int 1)) (.call "_law_draw" Fd [(.var 0), (.lit (.int 6))]))] [.asg [.nm 4] (.call "_law_pick" Fp [(.var 0), (.lst [(.lit (.int 2)), (.lit (.int 2)), (.lit (.int 2)), (.lit (.int 3)), (.lit (.int 3)), (.lit (.int 5)), (.lit (.int 7))])]),
    .asg [.nm 2] (.ife (.cmp .le (.bin .mul (.var 2) (.var 4)) (.var 1)) (.bin .mul (.var 2) (.var 4)) (.var 2))],
    .ret (.var 2)]
noncomputable def numberF : Fn := runB 5 2 (numberB drawF pickF)
theorem set_same {h : Hd} {i : Nat} {o : MO} (hp : h[i]? = some o) : h.set i o = h := by
  obtain ⟨l, e⟩ := List.getElem?_eq_some_iff.mp hp
  subst e
  exact List.set_getElem_self l
theorem den_draw {x : Str} {a e : E} {δ : Sl} {h : Hd} {i p0 p1 p2 many : Nat} (ha : denE a δ h = .ok (.ref i) h) (he : denE e δ h = .ok (.int many) h) (hp : h[i]? = some (poolO p0 p1 p2)) (h1 : 0 < many) (h2 : many < 1073741824) :
    ∃ v a' b' c', v < many ∧ denE (.call x drawF [a, e]) δ h = .ok (.int (v : Nat)) (h.set i (poolO a' b' c')) := by
  obtain ⟨v, a', b', c', hv, e⟩ := draw_ok hp h1 h2
  exact ⟨v, a', b', c', hv, den_call2 ha he e⟩
theorem number_loop (i most : Nat) (h1 : 1 ≤ most) (h2 : most < 1073741824) (ok : Hd → Prop) (hok : ∀ h, ok h) : ∀ (xs : List D) (h : Hd) (a b c n : Nat) (x3 x4 : Option D), h[i]? = some (poolO a b c) → 1 ≤ n → n ≤ most →
    ∃ n' a' b' c' y3 y4, 1 ≤ n' ∧ n' ≤ most ∧ forF [3] ok (denSs [.asg [.nm 4] (.call "_law_pick" pickF [(.var 0), (.lst [(.lit (.int 2)), (.lit (.int 2)), (.lit (.int 2)), (.lit (.int 3)), (.lit (.int 3)), (.lit (.int 5)), (.lit (.int 7))])]),
    .asg [.nm 2] (.ife (.cmp .le (.bin .mul (.var 2) (.var 4)) (.var 1)) (.bin .mul (.var 2) (.var 4)) (.var 2))]) xs [some (.ref i), some (.int most), some (.int n), x3, x4] h
      = .fl (.nx [some (.ref i), some (.int most), some (.int n'), y3, y4]) (h.set i (poolO a' b' c'))
  | [], h, a, b, c, n, x3, x4, hp, n1, n2 => ⟨n, a, b, c, x3, x4, n1, n2, by
    rw [for_nil, set_same hp]⟩
  | x :: xs, h, a, b, c, n, x3, x4, hp, n1, n2 => by
    obtain ⟨v, a', b', c', hv, e⟩ := pick_ok (d := .lst [.int 2, .int 2, .int 2, .int 3, .int 3, .int 5, .int 7]) (.inl rfl) hp (by decide) (by decide)
    have hby : ∃ by_ : Nat, 1 ≤ by_ ∧ by_ ≤ 7 ∧ [D.int 2, .int 2, .int 2, .int 3, .int 3, .int 5, .int 7][v] = .int by_ := by
      match v, hv with
      | 0, _ => exact ⟨2, by decide, by decide, rfl⟩
      | 1, _ => exact ⟨2, by decide, by decide, rfl⟩
      | 2, _ => exact ⟨2, by decide, by decide, rfl⟩
      | 3, _ => exact ⟨3, by decide, by decide, rfl⟩
      | 4, _ => exact ⟨3, by decide, by decide, rfl⟩
      | 5, _ => exact ⟨5, by decide, by decide, rfl⟩
      | 6, _ => exact ⟨7, by decide, by decide, rfl⟩
    obtain ⟨by_, b1, b2, eb⟩ := hby
    rw [eb] at e
    have hp' := pool_set (a' := a') (b' := b') (c' := c') hp
    have m1 : mulOk (n : Int) (by_ : Int) := mul_sm2 ⟨by omega, by omega⟩
    have nb : 1 ≤ n * by_ := Nat.mul_pos n1 b1
    have turn : denSs [.asg [.nm 4] (.call "_law_pick" pickF [(.var 0), (.lst [(.lit (.int 2)), (.lit (.int 2)), (.lit (.int 2)), (.lit (.int 3)), (.lit (.int 3)), (.lit (.int 5)), (.lit (.int 7))])]),
      .asg [.nm 2] (.ife (.cmp .le (.bin .mul (.var 2) (.var 4)) (.var 1)) (.bin .mul (.var 2) (.var 4)) (.var 2))] [some (.ref i), some (.int most), some (.int n), some x, x4] h
      = .fl (.nx [some (.ref i), some (.int most), some (.int (if n * by_ ≤ most then n * by_ else n : Nat)), some x, some (.int by_)]) (h.set i (poolO a' b' c')) := by
      rw [den_nx (den_as (den_call2 (d := .ref i) (e := .lst [.int 2, .int 2, .int 2, .int 3, .int 3, .int 5, .int 7]) (h1 := h) (h2 := h) rfl (by simp [denE, denEs, line]) e))]
      simp only [List.set, denSs, denS, denE, List.getElem?_cons_zero, List.getElem?_cons_succ, Out.bind_ok, binD]
      rw [if_pos m1, ← Int.natCast_mul]
      simp only [optD_some, Out.bind_ok, cmpD, Option.map, truD]
      by_cases z : n * by_ ≤ most
      · rw [decide_eq_true (by omega), if_pos z]; rfl
      · rw [decide_eq_false (by omega), if_neg z]; rfl
    have fc := for_cons (tg := [3]) (ok := ok) (xs := xs) (δ := [some (.ref i), some (.int most), some (.int n), x3, x4]) (δ1 := [some (.ref i), some (.int most), some (.int n), some x, x4]) rfl turn (hok _)
    obtain ⟨n', a2, b2, c2, y3, y4, q1, q2, q3⟩ := number_loop i most h1 h2 ok hok xs (h.set i (poolO a' b' c')) a' b' c' (if n * by_ ≤ most then n * by_ else n) (some x) (some (.int by_)) hp' (by split <;> omega) (by split <;> omega)
    exact ⟨n', a2, b2, c2, y3, y4, q1, q2, by rw [fc, q3, List.set_set]⟩
theorem number_ok {h : Hd} {i a b c most : Nat} (hp : h[i]? = some (poolO a b c)) (h1 : 1 ≤ most) (h2 : most < 1073741824) : ∃ n a' b' c', 1 ≤ n ∧ n ≤ most ∧ numberF [.ref i, .int most] h = .ok (.int (n : Nat)) (h.set i (poolO a' b' c')) := by
  obtain ⟨v, a1, b1, c1, hv, e⟩ := draw_ok (many := 4) hp (by decide) (by decide)
  have hp1 := pool_set (a' := a1) (b' := b1) (c' := c1) hp
  have d1 : ∀ x2 x3 x4 : Option D, denT (.cmp .eq (.call "_law_draw" drawF [(.var 0), (.lit (.int 4))]) (.lit (.int 0))) [some (.ref i), some (.int most), x2, x3, x4] h = .ok (decide (v = 0)) (h.set i (poolO a1 b1 c1)) := fun x2 x3 x4 => by
    refine denT_cmp (den_call2 (h1 := h) (h2 := h) rfl rfl e) rfl ?_
    simp only [cmpD, eqD_int]
    congr 1
    by_cases z : v = 0
    · rw [decide_eq_true z, decide_eq_true (by omega)]
    · rw [decide_eq_false z, decide_eq_false (by omega)]
  by_cases z : v = 0
  · obtain ⟨w, a2, b2, c2, hw, e2⟩ := draw_ok (many := most) hp1 h1 h2
    refine ⟨1 + w, a2, b2, c2, by omega, by omega, run_rt rfl ?_⟩
    show denSs (numberB drawF pickF) [some (.ref i), some (.int most), none, none, none] h = _
    unfold numberB
    rw [decide_eq_true z] at d1
    rw [List.set_set] at e2
    exact den_rt ((den_if1 (d1 _ _ _)).trans (den_rt (den_ret (den_bin (h1 := h.set i (poolO a1 b1 c1)) rfl (den_call2 (h1 := h.set i (poolO a1 b1 c1)) (h2 := h.set i (poolO a1 b1 c1)) rfl rfl e2) rfl))))
  · obtain ⟨w, a2, b2, c2, hw, e2⟩ := draw_ok (many := 6) hp1 (by decide) (by decide)
    have hp2 := pool_set (a' := a2) (b' := b2) (c' := c2) hp1
    rw [List.set_set] at e2 hp2
    obtain ⟨n', a3, b3, c3, y3, y4, q1, q2, q3⟩ := number_loop i most h1 h2 (sameSrc .rng1 [.int (1 + (w : Int))] (h.set i (poolO a2 b2 c2))) (fun _ => trivial) (rangeD 0 (1 + (w : Int)).toNat) (h.set i (poolO a2 b2 c2)) a2 b2 c2 1 none none hp2 (Nat.le_refl _) h1
    rw [List.set_set] at q3
    refine ⟨n', a3, b3, c3, q1, q2, run_rt rfl ?_⟩
    show denSs (numberB drawF pickF) [some (.ref i), some (.int most), none, none, none] h = _
    unfold numberB
    rw [decide_eq_false z] at d1
    rw [den_nx (δ' := [some (.ref i), some (.int most), none, none, none]) ((den_if0 (d1 _ _ _)).trans den_nil)]
    rw [den_nx (den_as rfl)]
    refine (den_nx ((den_for (h1 := h.set i (poolO a2 b2 c2)) (ss := [.int (1 + (w : Int))]) ?_ ?_).trans q3)).trans ?_
    · have := den_bin (o := .add) (a := .lit (.int 1)) (δ := [some (.ref i), some (.int most), some (.int 1), none, none]) (h1 := h.set i (poolO a1 b1 c1)) rfl (den_call2 (x := "_law_draw") (a := .var 0) (b := .lit (.int 6)) (h1 := h.set i (poolO a1 b1 c1)) (h2 := h.set i (poolO a1 b1 c1)) rfl rfl e2) rfl
      rw [denEs]
      erw [this]
      rfl
    · exact if_pos ⟨by omega, by omega⟩
    · exact den_rt (den_ret rfl)
theorem den_compI {own : List (Str × Nat)} {e : E} {tg : List Nat} {ik : IK} {src : List E} {δ : Sl} {h h1 : Hd} {ss xs : List D} (I : Hd → Prop) (P : D → Prop) (hs : denEs src δ h = .ok ss h1) (hx : srcD ik ss h1 = some xs) (hI : I h1) (hok : ∀ h, I h → sameSrc ik ss h1 h)
    (hstep : ∀ x ∈ xs, ∀ h, I h → ∃ δ1 y h', storeD tg x (wipeD δ (own.map (·.2))) = some δ1 ∧ denE e δ1 h = .ok y h' ∧ P y ∧ I h') (hl : xs.length ≤ line) :
    ∃ ys h', denE (.comp own e tg ik src []) δ h = .ok (.lst ys) h' ∧ I h' ∧ ys.length = xs.length ∧ ∀ y ∈ ys, P y := by
  simp only [denE]
  rw [hs, Out.bind_ok, hx]
  dsimp only
  have go : ∀ (zs acc : List D) (h : Hd), (∀ z ∈ zs, z ∈ xs) → I h → acc.length + zs.length ≤ line → (∀ y ∈ acc, P y) → ∃ ys h', turns (fun n x h => match storeD tg x (wipeD δ (own.map (·.2))) with
        | some δ => (denCs [] δ h).calm.bind fun b h => if b then (denE e δ h).calm.bind fun y h => .ok [y] h else .ok [] h
        | none => .no) (sameSrc ik ss h1) 0 zs acc h = .ok ys h' ∧ I h' ∧ ys.length = acc.length + zs.length ∧ ∀ y ∈ ys, P y := by
    intro zs
    induction zs with
    | nil => intro acc h _ q _ ha; exact ⟨acc, h, turns_nil, q, rfl, ha⟩
    | cons z zs ih =>
      intro acc h hm q hl ha
      obtain ⟨δ1, y, h', e1, e2, e3, e4⟩ := hstep z (hm z List.mem_cons_self) h q
      simp only [List.length_cons] at hl
      obtain ⟨ys, h2, q1, q2, q3, q4⟩ := ih (acc ++ [y]) h' (fun w hw => hm w (List.mem_cons_of_mem _ hw)) e4 (by simp; omega) (fun w hw => by
        rcases List.mem_append.mp hw with w' | w'
        · exact ha w w'
        · rw [List.mem_singleton.mp w']; exact e3)
      refine ⟨ys, h2, ?_, q2, by simp [q3]; omega, q4⟩
      rw [turns_one (ys := [y]) (h' := h') (by
        rw [e1]
        dsimp only
        rw [denCs]
        show (if true = true then (denE e δ1 h).calm.bind fun y h => Out.ok [y] h else .ok [] h) = _
        rw [if_pos rfl, e2]
        rfl) (hok h' e4) (by simp; omega)]
      exact q1
  obtain ⟨ys, h', q1, q2, q3, q4⟩ := go xs [] h1 (fun _ z => z) hI (by simpa using hl) (fun _ z => nomatch z)
  exact ⟨ys, h', congrArg (fun o : Out (List D) => o.bind fun ys h => Out.ok (D.lst ys) h) q1, q2, by simpa using q3, q4⟩
noncomputable def lawB (Fr Fp : Fn) : List S := [.ret (.call "all" (pureF allP) [(.comp [("turn", 1)] (.call "_law_right" Fr [(.call "_law_pool" Fp [(.var 0), (.var 1)])]) [1] .rng1 [(.call "max" (pureF maxP) [(.lit (.int 2)), (.call "min" (pureF minP) [(.call "len" (pureF lenP) [(.var 0)]), (.lit (.int 3))])])] [])])]
theorem blsD_true : ∀ ys : List D, (∀ y ∈ ys, y = .bl true) → blsD ys = some (List.replicate ys.length true)
  | [], _ => rfl
  | y :: ys, h => by
    rw [h y List.mem_cons_self]
    show (blsD ys).map (true :: ·) = _
    rw [blsD_true ys fun z hz => h z (List.mem_cons_of_mem _ hz)]
    rfl
theorem law_ok (Fr Fp : Fn) (hp : ∀ (ns : List Int) (turn : Nat) (h : Hd), ns.length ≤ 63 → turn < 3 → ∃ i a b c h', Fp [.scr ns, .int turn] h = .ok (.ref i) h' ∧ h'[i]? = some (poolO a b c))
    (hr : ∀ (i a b c : Nat) (h : Hd), h[i]? = some (poolO a b c) → ∃ h', Fr [.ref i] h = .ok (.bl true) h') (ns : List Int) (hn : ns.length ≤ 63) : ∃ h', runB 2 1 (lawB Fr Fp) [.scr ns] [] = .ok (.bl true) h' := by
  have hk : ∃ k : Nat, k ≤ 3 ∧ (max 2 (min ((ns.length : Nat) : Int) 3)) = (k : Int) := ⟨max 2 (min ns.length 3), by omega, by omega⟩
  obtain ⟨k, hk, ek⟩ := hk
  have hl : (rangeD 0 (k : Int).toNat).length = k := by simp [rangeD]
  obtain ⟨ys, h', q1, _, q2, q3⟩ := den_compI (own := [("turn", 1)]) (e := .call "_law_right" Fr [(.call "_law_pool" Fp [(.var 0), (.var 1)])]) (tg := [1]) (ik := .rng1) (src := [(.call "max" (pureF maxP) [(.lit (.int 2)), (.call "min" (pureF minP) [(.call "len" (pureF lenP) [(.var 0)]), (.lit (.int 3))])])]) (δ := [some (.scr ns), none]) (h := []) (h1 := []) (ss := [.int k]) (xs := rangeD 0 (k : Int).toNat)
    (fun _ => True) (· = .bl true) (by
      simp only [denEs, denE, pureF, okI, List.getElem?_cons_zero, Out.bind_ok, lenP, itemsD, seqL, Option.map, minP, maxP, List.length_map]
      rw [ek]) (by exact if_pos ⟨by omega, by omega⟩) trivial (fun _ _ => trivial) (fun x hx h _ => by
      obtain ⟨t, ht, rfl⟩ := List.mem_map.mp hx
      have ht : t < k := by simpa using List.mem_range.mp ht
      obtain ⟨i, a, b, c, h1, e1, e2⟩ := hp ns t h hn (by omega)
      obtain ⟨h2, e3⟩ := hr i a b c h1 e2
      refine ⟨[some (.scr ns), some (.int (0 + (t : Int)))], .bl true, h2, rfl, ?_, rfl, trivial⟩
      rw [Int.zero_add]
      exact den_call1 (den_call2 (h1 := h) (h2 := h) rfl rfl e1) e3) (by rw [hl]; unfold line; omega)
  refine ⟨h', run_rt rfl (den_rt (den_ret (den_call1 q1 ?_)))⟩
  show okI (((seqL h' (.lst ys)).bind blsD).map fun bs => D.bl (bs.all id)) h' = _
  show okI ((blsD ys).map fun bs => D.bl (bs.all id)) h' = _
  rw [blsD_true ys q3]
  show Out.ok (D.bl ((List.replicate ys.length true).all id)) h' = _
  simp
noncomputable def poolB (c1 c2 : Int) : List S := [.par [3, 4] [(.ife (.cmp .lt (.var 1) (.call "len" (pureF lenP) [(.var 0)])) (.call "int" (pureF intP) [(.idx (.var 0) (.var 1))]) (.bin .add (.bin .mul (.lit (.int 70001)) (.var 1)) (.lit (.int 89)))), (.bin .add (.lit (.int c1)) (.bin .mul (.lit (.int c2)) (.var 1)))],
    .fors [2] .seq [(.slc .hi (.var 0) [(.lit (.int 6))])] [.asg [.nm 4] (.bin .mod (.call "int" (pureF intP) [(.bin .add (.bin .add (.bin .mul (.var 4) (.lit (.int 48271))) (.bin .mod (.call "int" (pureF intP) [(.var 2)]) (.lit (.int 2147482937)))) (.lit (.int 43)))]) (.lit (.int 2147482937)))],
    .ret (.lstM [(.bin .mod (.call "int" (pureF intP) [(.bin .add (.var 4) (.bin .mul (.var 3) (.lit (.int 1033))))]) (.lit (.int 2147482937))), (.ife (.or [(.cmp .lt (.var 3) (.lit (.int 0))), (.cmp .ge (.var 3) (.bin .pow (.lit (.int 10)) (.lit (.int 18))))]) (.call "abs" (pureF absP) [(.var 3)]) (.lit (.int 0))), (.lit (.int 0))])]
theorem pool_loop (h : Hd) (ok : Hd → Prop) (ho : ok h) (x0 x1 x3 : Option D) : ∀ (ns : List Int) (s : Int) (x2 : Option D), ∃ (s' : Int) (x2' : Option D), forF [2] ok (denSs [.asg [.nm 4] (.bin .mod (.call "int" (pureF intP) [(.bin .add (.bin .add (.bin .mul (.var 4) (.lit (.int 48271))) (.bin .mod (.call "int" (pureF intP) [(.var 2)]) (.lit (.int 2147482937)))) (.lit (.int 43)))]) (.lit (.int 2147482937)))])
    (ns.map .int) [x0, x1, x2, x3, some (.int s)] h = .fl (.nx [x0, x1, x2', x3, some (.int s')]) h
  | [], s, x2 => ⟨s, x2, rfl⟩
  | n :: ns, s, x2 => by
    obtain ⟨s', x2', e⟩ := pool_loop h ok ho x0 x1 x3 ns (Int.fmod (s * 48271 + Int.fmod n 2147482937 + 43) 2147482937) (some (.int n))
    refine ⟨s', x2', ?_⟩
    rw [List.map_cons, for_cons (δ1 := [x0, x1, some (.int n), x3, some (.int s)]) rfl ?_ ho]
    · exact e
    · refine den_nx (den_as ?_)
      have m1 : mulOk s 48271 := mul_sm2 ⟨by decide, by decide⟩
      exact den_bin (den_call1 (den_bin (den_bin (den_bin rfl rfl (b_mul m1)) (den_bin (den_call1 (d := .int n) rfl rfl) rfl (b_mod (by decide))) b_add) rfl b_add) rfl) rfl (b_mod (by decide))
theorem pool_ok (c1 c2 : Int) (hc : -(2 ^ 60) < c2 ∧ c2 < 2 ^ 60) (ns : List Int) (turn : Nat) (h : Hd) (hn : ns.length ≤ 63) (ht : turn < 3) : ∃ i a b c h', runB 5 2 (poolB c1 c2) [.scr ns, .int turn] h = .ok (.ref i) h' ∧ h'[i]? = some (poolO a b c) := by
  have own : ∃ o : Int, denE (.ife (.cmp .lt (.var 1) (.call "len" (pureF lenP) [(.var 0)])) (.call "int" (pureF intP) [(.idx (.var 0) (.var 1))]) (.bin .add (.bin .mul (.lit (.int 70001)) (.var 1)) (.lit (.int 89)))) [some (.scr ns), some (.int turn), none, none, none] h = .ok (.int o) h := by
    by_cases z : turn < ns.length
    · refine ⟨ns[turn], ?_⟩
      have z' : (turn : Int) < (ns.length : Int) := by omega
      simp only [denE, denEs, List.getElem?_cons_zero, List.getElem?_cons_succ, Out.bind_ok, pureF, okI, lenP, itemsD, seqL, Option.map, List.length_map, cmpD, optD_some]
      rw [decide_eq_true z']
      simp only [truD]
      have : idxD (.scr ns) (.int turn) h = some (.int ns[turn]) := by
        show (some (ns.map D.int)).bind (fun ds => atD ds turn) = _
        show atD (ns.map D.int) turn = _
        rw [at_get (by simpa using z)]
        simp
      rw [this]
      rfl
    · refine ⟨70001 * turn + 89, ?_⟩
      have z' : ¬ (turn : Int) < (ns.length : Int) := by omega
      have m1 : mulOk 70001 (turn : Int) := mul_sm ⟨by decide, by decide⟩
      simp only [denE, denEs, List.getElem?_cons_zero, List.getElem?_cons_succ, Out.bind_ok, pureF, okI, lenP, itemsD, seqL, Option.map, List.length_map, cmpD, optD_some]
      rw [decide_eq_false z']
      exact den_bin (a := .bin .mul (.lit (.int 70001)) (.var 1)) (b := .lit (.int 89)) (δ := [some (.scr ns), some (.int turn), none, none, none]) (den_bin rfl rfl (b_mul m1)) rfl b_add
  obtain ⟨o, eo⟩ := own
  obtain ⟨s', x2', el⟩ := pool_loop h (sameSrc .seq [.lst (cutD (ns.map .int) none (some 6))] h) (fun _ _ => rfl) (some (.scr ns)) (some (.int turn)) (some (.int o)) (cutD ns none (some 6)) (c1 + c2 * turn) none
  have ec : (cutD ns none (some 6)).map D.int = cutD (ns.map .int) none (some 6) := by simp [cutD, List.map_drop, List.map_take]
  rw [ec] at el
  have hb : ∃ b : Nat, denE (.ife (.or [(.cmp .lt (.var 3) (.lit (.int 0))), (.cmp .ge (.var 3) (.bin .pow (.lit (.int 10)) (.lit (.int 18))))]) (.call "abs" (pureF absP) [(.var 3)]) (.lit (.int 0))) [some (.scr ns), some (.int turn), x2', some (.int o), some (.int s')] h = .ok (.int b) h := by
    have pk : powOk 10 18 := ⟨by decide, by decide, by decide⟩
    have q1 : denE (.cmp .lt (.var 3) (.lit (.int 0))) [some (.scr ns), some (.int turn), x2', some (.int o), some (.int s')] h = .ok (.bl (decide (o < 0))) h := den_cmp rfl rfl c_lt
    have q2 : denE (.cmp .ge (.var 3) (.bin .pow (.lit (.int 10)) (.lit (.int 18)))) [some (.scr ns), some (.int turn), x2', some (.int o), some (.int s')] h = .ok (.bl (decide ((10 : Int) ^ 18 ≤ o))) h := den_cmp rfl (den_bin rfl rfl (b_pow pk)) c_ge
    have e1 : ∀ k : Bool, denE (.or [(.cmp .lt (.var 3) (.lit (.int 0))), (.cmp .ge (.var 3) (.bin .pow (.lit (.int 10)) (.lit (.int 18))))]) [some (.scr ns), some (.int turn), x2', some (.int o), some (.int s')] h = .ok (.bl (decide (o < 0) || decide ((10 : Int) ^ 18 ≤ o))) h := fun _ => by
      rw [denE, denOr, q1, Out.bind_ok, denOr, q2]
      · cases decide (o < 0) <;> rfl
      · exact fun z => nomatch z
    rw [denE, e1 true, Out.bind_ok]
    simp only [truD]
    cases (decide (o < 0) || decide ((10 : Int) ^ 18 ≤ o)) with
    | true => exact ⟨o.natAbs, rfl⟩
    | false => exact ⟨0, rfl⟩
  obtain ⟨b, eb⟩ := hb
  have hw : ∃ a : Nat, Int.fmod (s' + o * 1033) 2147482937 = (a : Int) := ⟨(Int.fmod (s' + o * 1033) 2147482937).toNat, by
    rw [Int.toNat_of_nonneg]
    exact Int.fmod_nonneg_of_pos _ (by decide)⟩
  obtain ⟨a, ea⟩ := hw
  refine ⟨h.length, a, b, 0, h ++ [poolO a b 0], run_rt rfl ?_, by simp⟩
  show denSs (poolB c1 c2) [some (.scr ns), some (.int turn), none, none, none] h = _
  unfold poolB
  have m2 : mulOk c2 (turn : Int) := mul_sm ⟨by omega, by omega⟩
  rw [den_nx (δ' := [some (.scr ns), some (.int turn), none, some (.int o), some (.int (c1 + c2 * turn))]) (h' := h) (by
    have e2 : denE (.bin .add (.lit (.int c1)) (.bin .mul (.lit (.int c2)) (.var 1))) [some (.scr ns), some (.int turn), none, none, none] h = .ok (.int (c1 + c2 * turn)) h := by
      exact den_bin rfl (den_bin rfl rfl (b_mul m2)) b_add
    simp only [denS, denEs, eo, e2, Out.bind_ok, Out.stm_ok]
    rfl)]
  rw [den_nx ((den_for (h1 := h) (ss := [.lst (cutD (ns.map .int) none (some 6))]) (xs := cutD (ns.map .int) none (some 6)) (by
    simp only [denEs, denE, List.getElem?_cons_zero, Out.bind_ok, Out.calm]
    rfl) rfl).trans el)]
  have m3 : mulOk o 1033 := mul_sm2 ⟨by decide, by decide⟩
  have e3 : denE (.bin .mod (.call "int" (pureF intP) [(.bin .add (.var 4) (.bin .mul (.var 3) (.lit (.int 1033))))]) (.lit (.int 2147482937))) [some (.scr ns), some (.int turn), x2', some (.int o), some (.int s')] h = .ok (.int a) h := by
    rw [← ea]
    exact den_bin (den_call1 (den_bin rfl (den_bin rfl rfl (b_mul m3)) b_add) rfl) rfl (b_mod (by decide))
  refine den_rt (den_ret ?_)
  rw [denE]
  simp only [denEs, e3, eb, Out.bind_ok]
  rw [denE, Out.bind_ok, Out.bind_ok, Out.bind_ok, Out.bind_ok, if_pos (by simp [line])]
  rfl
end DL
end

section
set_option Elab.async false
set_option linter.all false
set_option maxRecDepth 100000
namespace K90
open DL PySem
def strip : Nat → Nat → Nat → Nat → Nat × Nat
  | 0, l, _, o => (l, o)
  | f + 1, l, p, o => if l % p = 0 then strip f (l / p) p (o + 1) else (l, o)
def primesN : Nat → Nat → Nat → List (Nat × Nat) → List (Nat × Nat)
  | 0, _, _, acc => acc
  | f + 1, l, p, acc => if 1 < l then
      primesN f (strip l l p 0).1 (if p * p ≤ (strip l l p 0).1 then p + 1 else max (strip l l p 0).1 (p + 1)) (if 0 < (strip l l p 0).2 then acc ++ [(p, (strip l l p 0).2)] else acc)
    else acc
def pairD (p : Nat × Nat) : D := .tup [.int p.1, .int p.2]
def primesOf (n : Nat) : List (Nat × Nat) := primesN (n + 1) n 2 []
def natF (p : Nat → Bool) (f : Nat → D) : Fn := pureF fun _ ds => match ds with
  | [.int i] => if 0 ≤ i ∧ p i.toNat = true then some (f i.toNat) else none
  | _ => none
theorem natF_ok {p : Nat → Bool} {f : Nat → D} {n : Nat} (h : Hd) (hp : p n = true) : natF p f [.int n] h = .ok (f n) h := by
  simp [natF, pureF, okI, hp]
def G_primes_by : Fn := natF (fun n => decide (1 ≤ n ∧ n < 16777214)) fun n => .tup ((primesOf n).map pairD)
def rootN : Nat → Nat → Nat → Nat
  | 0, _, t => t
  | f + 1, n, t => if (t + 1) * (t + 1) ≤ n then rootN f n (t + 1) else t
def rootOf (n : Nat) : Nat := rootN (n + 1) n 0
def squaresOf (n : Nat) : List (Nat × Nat) := (List.range (rootOf (n / 2) + 1)).flatMap fun a => if a * a + rootOf (n - a * a) * rootOf (n - a * a) = n then [(a, rootOf (n - a * a))] else []
def G_squares_by : Fn := natF (fun n => decide (1 ≤ n ∧ n < 1000000)) fun n => .tup ((squaresOf n).map pairD)
def roundN : Nat → Nat → Nat → Nat → Nat → Option Nat
  | 0, _, _, _, _ => none
  | f + 1, b, n, t, k => if t = 1 % n then some k else roundN f b n (t * b % n) (k + 1)
def roundOf (b n : Nat) : Option Nat := roundN (n + 1) b n (b % n) 1
def powerOf (b k : Nat) : Nat := b ^ k
def freeOf (n : Nat) : Nat := ((primesOf n).map fun q => q.1 ^ (q.2 - 1) * (q.1 - 1)).foldl (· * ·) 1
def hasRoots (n : Nat) : Bool := n == 2 || n == 4 || (match primesOf n with
  | [q] => decide (2 < q.1)
  | [q, _] => q == (2, 1)
  | _ => false)
def firstN : Nat → Nat → Nat → Nat → Option Nat
  | 0, _, _, _ => none
  | f + 1, n, free, b => if Nat.gcd b n = 1 then (match roundOf b n with
      | some r => if r = free then some b else firstN f n free (b + 1)
      | none => none) else firstN f n free (b + 1)
def rootsFrom (n free first : Nat) : List Nat := (List.range free).flatMap fun i => if Nat.gcd (i + 1) free = 1 then [first ^ (i + 1) % n] else []
def rootsOf (n : Nat) : Option (List Int) := if hasRoots n then (firstN n n (freeOf n) 1).map fun b => sortI ((rootsFrom n (freeOf n) b).map Int.ofNat) else some []
def G_roots_by : Fn := natF (fun n => decide (2 ≤ n ∧ n < 10000 ∧ freeOf n < 10000) && (rootsOf n).isSome) fun n => .tup (((rootsOf n).getD []).map .int)
end K90
end

section
set_option Elab.async false
set_option linter.all false
set_option maxRecDepth 100000
namespace K90
open DL PySem

noncomputable def b__law_pool : List S := [.par [3, 4] [(.ife (.cmp .lt (.var 1) (.call "len" (pureF lenP) [(.var 0)])) (.call "int" (pureF intP) [(.idx (.var 0) (.var 1))]) (.bin .add (.bin .mul (.lit (.int 70001)) (.var 1)) (.lit (.int 89)))), (.bin .add (.lit (.int 60127)) (.bin .mul (.lit (.int 5101)) (.var 1)))],
    .fors [2] .seq [(.slc .hi (.var 0) [(.lit (.int 6))])] [.asg [.nm 4] (.bin .mod (.call "int" (pureF intP) [(.bin .add (.bin .add (.bin .mul (.var 4) (.lit (.int 48271))) (.bin .mod (.call "int" (pureF intP) [(.var 2)]) (.lit (.int 2147482937)))) (.lit (.int 43)))]) (.lit (.int 2147482937)))],
    .ret (.lstM [(.bin .mod (.call "int" (pureF intP) [(.bin .add (.var 4) (.bin .mul (.var 3) (.lit (.int 1033))))]) (.lit (.int 2147482937))), (.ife (.or [(.cmp .lt (.var 3) (.lit (.int 0))), (.cmp .ge (.var 3) (.bin .pow (.lit (.int 10)) (.lit (.int 18))))]) (.call "abs" (pureF absP) [(.var 3)]) (.lit (.int 0))), (.lit (.int 0))])]
noncomputable def F__law_pool : Fn := runB 5 2 b__law_pool
noncomputable def b_round_by : List S := [.par [2, 3] [(.bin .mod (.var 0) (.var 1)), (.lit (.int 1))],
    .whl (.cmp .ne (.var 2) (.bin .mod (.lit (.int 1)) (.var 1))) [.par [2, 3] [(.bin .mod (.bin .mul (.var 2) (.var 0)) (.var 1)), (.bin .add (.var 3) (.lit (.int 1)))]],
    .ret (.var 3)]
noncomputable def F_round_by : Fn := runB 4 2 b_round_by
noncomputable def b_is_whole : List S := [.ret (.and [(.call "isinstance" (pureF isiP) [(.var 0), (.glo "int" (.ty "int"))]), (.not (.call "isinstance" (pureF isiP) [(.var 0), (.glo "bool" (.ty "bool"))]))])]
noncomputable def F_is_whole : Fn := runB 1 1 b_is_whole
noncomputable def b_is_between : List S := [.ret (.and [(.call "is_whole" F_is_whole [(.var 0)]), (.chain .le .le (.var 1) (.var 0) (.var 2))])]
noncomputable def F_is_between : Fn := runB 3 3 b_is_between
noncomputable def b_is_given : List S := [.ret (.call "is_between" F_is_between [(.var 0), (.lit (.int 1)), (.glo "MOST" (.int 9999))])]
noncomputable def F_is_given : Fn := runB 1 1 b_is_given
noncomputable def b_check_number : List S := [.ife (.not (.call "is_given" F_is_given [(.var 0)])) [.never] []]
noncomputable def F_check_number : Fn := runB 1 1 b_check_number
noncomputable def b_are_apart_by : List S := [.ret (.cmp .eq (.call "gcd" (pureF gcdP) [(.var 0), (.var 1)]) (.lit (.int 1)))]
noncomputable def F_are_apart_by : Fn := runB 2 2 b_are_apart_by
noncomputable def b_is_powered : List S := [.ret (.and [(.call "is_given" F_is_given [(.var 0)]), (.cmp .ge (.var 0) (.glo "LEAST_POWERED" (.int 2)))])]
noncomputable def F_is_powered : Fn := runB 1 1 b_is_powered
noncomputable def b_check_powered : List S := [.ife (.not (.call "is_powered" F_is_powered [(.var 0)])) [.never] []]
noncomputable def F_check_powered : Fn := runB 1 1 b_check_powered
noncomputable def b_check_rounded : List S := [.expr (.call "check_number" F_check_number [(.var 0)]),
    .expr (.call "check_powered" F_check_powered [(.var 1)]),
    .ife (.not (.call "are_apart_by" F_are_apart_by [(.var 0), (.var 1)])) [.never] []]
noncomputable def F_check_rounded : Fn := runB 2 2 b_check_rounded
noncomputable def b_round_of : List S := [.expr (.call "check_rounded" F_check_rounded [(.var 0), (.var 1)]),
    .ret (.call "round_by" F_round_by [(.var 0), (.var 1)])]
noncomputable def F_round_of : Fn := runB 2 2 b_round_of
noncomputable def b_primes_by : List S := [.par [1, 2, 3] [(.lstM []), (.var 0), (.lit (.int 2))],
    .whl (.cmp .gt (.var 2) (.lit (.int 1))) [.asg [.nm 4] (.lit (.int 0)),
    .whl (.cmp .eq (.bin .mod (.var 2) (.var 3)) (.lit (.int 0))) [.par [2, 4] [(.bin .div (.var 2) (.var 3)), (.bin .add (.var 4) (.lit (.int 1)))]],
    .ife (.cmp .gt (.var 4) (.lit (.int 0))) [.expr (.mth "append" isLst appF (.var 1) [(.tup [(.var 3), (.var 4)])])] [],
    .asg [.nm 3] (.ife (.cmp .le (.bin .mul (.var 3) (.var 3)) (.var 2)) (.bin .add (.var 3) (.lit (.int 1))) (.call "max" (pureF maxP) [(.var 2), (.bin .add (.var 3) (.lit (.int 1)))]))],
    .ret (.call "tuple" (pureF tupP) [(.var 1)])]
noncomputable def F_primes_by : Fn := runB 5 1 b_primes_by
noncomputable def b_whole_by : List S := [.asg [.nm 1] (.lit (.int 1)),
    .fors [2] .seq [(.var 0)] [.asg [.nm 1] (.bin .div (.bin .mul (.var 1) (.var 2)) (.call "gcd" (pureF gcdP) [(.var 1), (.var 2)]))],
    .ret (.var 1)]
noncomputable def F_whole_by : Fn := runB 3 1 b_whole_by
noncomputable def b_product_of : List S := [.asg [.nm 1] (.lit (.int 1)),
    .fors [2] .seq [(.var 0)] [.asg [.nm 1] (.bin .mul (.var 1) (.var 2))],
    .ret (.var 1)]
noncomputable def F_product_of : Fn := runB 3 1 b_product_of
noncomputable def b_power_of : List S := [.ret (.call "product_of" F_product_of [(.comp [("turn", 2)] (.var 0) [2] .rng1 [(.var 1)] [])])]
noncomputable def F_power_of : Fn := runB 3 2 b_power_of
noncomputable def b_greatest_of : List S := [.ife (.cmp .eq (.var 0) (.lit (.int 2))) [.ret (.ife (.cmp .lt (.var 1) (.lit (.int 3))) (.call "power_of" F_power_of [(.lit (.int 2)), (.bin .sub (.var 1) (.lit (.int 1)))]) (.call "power_of" F_power_of [(.lit (.int 2)), (.bin .sub (.var 1) (.lit (.int 2)))]))] [],
    .ret (.bin .mul (.call "power_of" F_power_of [(.var 0), (.bin .sub (.var 1) (.lit (.int 1)))]) (.bin .sub (.var 0) (.lit (.int 1))))]
noncomputable def F_greatest_of : Fn := runB 2 2 b_greatest_of
noncomputable def b_greatest_by : List S := [.ret (.call "whole_by" F_whole_by [(.comp [("prime", 1), ("often", 2)] (.call "greatest_of" F_greatest_of [(.var 1), (.var 2)]) [1, 2] .seq [(.call "primes_by" G_primes_by [(.var 0)])] [])])]
noncomputable def F_greatest_by : Fn := runB 3 1 b_greatest_by
noncomputable def b_greatest_round : List S := [.expr (.call "check_powered" F_check_powered [(.var 0)]),
    .ret (.call "greatest_by" F_greatest_by [(.var 0)])]
noncomputable def F_greatest_round : Fn := runB 1 1 b_greatest_round
noncomputable def b_has_roots_by : List S := [.ife (.cmp .inn (.var 0) (.glo "ROOTED" (.tup [(.int 2), (.int 4)]))) [.ret (.lit (.bl true))] [],
    .asg [.nm 1] (.call "primes_by" G_primes_by [(.var 0)]),
    .ife (.cmp .eq (.call "len" (pureF lenP) [(.var 1)]) (.lit (.int 1))) [.ret (.cmp .gt (.idx (.idx (.var 1) (.lit (.int 0))) (.lit (.int 0))) (.lit (.int 2)))] [],
    .ret (.and [(.cmp .eq (.call "len" (pureF lenP) [(.var 1)]) (.lit (.int 2))), (.cmp .eq (.idx (.var 1) (.lit (.int 0))) (.tup [(.lit (.int 2)), (.lit (.int 1))]))])]
noncomputable def F_has_roots_by : Fn := runB 2 1 b_has_roots_by
noncomputable def b_has_roots : List S := [.expr (.call "check_powered" F_check_powered [(.var 0)]),
    .ret (.call "has_roots_by" F_has_roots_by [(.var 0)])]
noncomputable def F_has_roots : Fn := runB 1 1 b_has_roots
noncomputable def b_freedom_of : List S := [.ret (.call "product_of" F_product_of [(.comp [("prime", 1), ("often", 2)] (.bin .mul (.call "power_of" F_power_of [(.var 1), (.bin .sub (.var 2) (.lit (.int 1)))]) (.bin .sub (.var 1) (.lit (.int 1)))) [1, 2] .seq [(.call "primes_by" G_primes_by [(.var 0)])] [])])]
noncomputable def F_freedom_of : Fn := runB 3 1 b_freedom_of
noncomputable def b_count_roots_by : List S := [.ret (.ife (.call "has_roots_by" F_has_roots_by [(.var 0)]) (.call "freedom_of" F_freedom_of [(.call "freedom_of" F_freedom_of [(.var 0)])]) (.lit (.int 0)))]
noncomputable def F_count_roots_by : Fn := runB 1 1 b_count_roots_by
noncomputable def b_count_roots : List S := [.expr (.call "check_powered" F_check_powered [(.var 0)]),
    .ret (.call "count_roots_by" F_count_roots_by [(.var 0)])]
noncomputable def F_count_roots : Fn := runB 1 1 b_count_roots
noncomputable def b_roots_by : List S := [.ife (.not (.call "has_roots_by" F_has_roots_by [(.var 0)])) [.ret (.tup [])] [],
    .par [2, 3] [(.call "freedom_of" F_freedom_of [(.var 0)]), (.lit (.int 1))],
    .whl (.or [(.not (.call "are_apart_by" F_are_apart_by [(.var 3), (.var 0)])), (.cmp .ne (.call "round_by" F_round_by [(.var 3), (.var 0)]) (.var 2))]) [.asg [.nm 3] (.bin .add (.var 3) (.lit (.int 1)))],
    .par [4, 5] [(.bin .mod (.var 3) (.var 0)), (.lstM [])],
    .fors [1] .rng2 [(.lit (.int 1)), (.bin .add (.var 2) (.lit (.int 1)))] [.ife (.call "are_apart_by" F_are_apart_by [(.var 1), (.var 2)]) [.expr (.mth "append" isLst appF (.var 5) [(.var 4)])] [],
    .asg [.nm 4] (.bin .mod (.bin .mul (.var 4) (.var 3)) (.var 0))],
    .ret (.call "tuple" (pureF tupP) [(.call "sorted" (pureF sortP) [(.var 5)])])]
noncomputable def F_roots_by : Fn := runB 6 1 b_roots_by
noncomputable def b_is_rooted : List S := [.ret (.and [(.call "is_powered" F_is_powered [(.var 0)]), (.cmp .le (.var 0) (.glo "MOST_ROOTED" (.int 999)))])]
noncomputable def F_is_rooted : Fn := runB 1 1 b_is_rooted
noncomputable def b_roots : List S := [.ife (.not (.call "is_rooted" F_is_rooted [(.var 0)])) [.never] [],
    .ret (.call "roots_by" G_roots_by [(.var 0)])]
noncomputable def F_roots : Fn := runB 1 1 b_roots
noncomputable def b_root_of : List S := [.asg [.nm 1] (.lit (.int 0)),
    .whl (.cmp .le (.bin .mul (.bin .add (.var 1) (.lit (.int 1))) (.bin .add (.var 1) (.lit (.int 1)))) (.var 0)) [.asg [.nm 1] (.bin .add (.var 1) (.lit (.int 1)))],
    .ret (.var 1)]
noncomputable def F_root_of : Fn := runB 2 1 b_root_of
noncomputable def b_squares_by : List S := [.asg [.nm 1] (.lstM []),
    .fors [2] .rng1 [(.bin .add (.call "root_of" F_root_of [(.bin .div (.var 0) (.lit (.int 2)))]) (.lit (.int 1)))] [.asg [.nm 3] (.call "root_of" F_root_of [(.bin .sub (.var 0) (.bin .mul (.var 2) (.var 2)))]),
    .ife (.cmp .eq (.bin .add (.bin .mul (.var 2) (.var 2)) (.bin .mul (.var 3) (.var 3))) (.var 0)) [.expr (.mth "append" isLst appF (.var 1) [(.tup [(.var 2), (.var 3)])])] []],
    .ret (.call "tuple" (pureF tupP) [(.var 1)])]
noncomputable def F_squares_by : Fn := runB 4 1 b_squares_by
noncomputable def b_squares : List S := [.expr (.call "check_number" F_check_number [(.var 0)]),
    .ret (.call "squares_by" G_squares_by [(.var 0)])]
noncomputable def F_squares : Fn := runB 1 1 b_squares
noncomputable def b_parts_by : List S := [.asg [.nm 1] (.lst [(.lit (.int 1))]),
    .fors [2, 3] .seq [(.call "primes_by" G_primes_by [(.var 0)])] [.asg [.nm 1] (.comp2 [("own", 4), ("many", 5)] (.bin .mul (.var 4) (.call "power_of" F_power_of [(.var 2), (.var 5)])) [4] .seq [(.var 1)] [] [5] .rng1 [(.bin .add (.var 3) (.lit (.int 1)))] [])],
    .ret (.call "tuple" (pureF tupP) [(.call "sorted" (pureF sortP) [(.var 1)])])]
noncomputable def F_parts_by : Fn := runB 6 1 b_parts_by
noncomputable def b_count_squares_by : List S := [.ret (.bin .mul (.lit (.int 4)) (.call "sum" (pureF sumP) [(.comp [("part", 1)] (.ife (.cmp .eq (.bin .mod (.var 1) (.lit (.int 4))) (.lit (.int 1))) (.lit (.int 1)) (.neg (.lit (.int 1)))) [1] .seq [(.call "parts_by" F_parts_by [(.var 0)])] [(.cmp .eq (.bin .mod (.var 1) (.lit (.int 2))) (.lit (.int 1)))])]))]
noncomputable def F_count_squares_by : Fn := runB 2 1 b_count_squares_by
noncomputable def b_count_squares : List S := [.expr (.call "check_number" F_check_number [(.var 0)]),
    .ret (.call "count_squares_by" F_count_squares_by [(.var 0)])]
noncomputable def F_count_squares : Fn := runB 1 1 b_count_squares
noncomputable def b__law_draw : List S := [.ife (.cmp .gt (.idx (.var 0) (.lit (.int 1))) (.lit (.int 0))) [.asg [.sub (.var 0) (.lit (.int 1)), .nm 3] (.call "divmod" (pureF divmodP) [(.idx (.var 0) (.lit (.int 1))), (.var 1)]),
    .ret (.var 3)] [],
    .asg [.sub (.var 0) (.lit (.int 2))] (.bin .add (.idx (.var 0) (.lit (.int 2))) (.lit (.int 1))),
    .asg [.nm 2] (.call "int" (pureF intP) [(.idx (.var 0) (.lit (.int 0)))]),
    .asg [.sub (.var 0) (.lit (.int 0))] (.bin .mod (.call "int" (pureF intP) [(.bin .add (.bin .add (.bin .mul (.var 2) (.bin .add (.bin .mod (.var 2) (.lit (.int 20011))) (.lit (.int 30011)))) (.bin .mul (.lit (.int 70001)) (.idx (.var 0) (.lit (.int 2))))) (.lit (.int 9)))]) (.lit (.int 2147482937))),
    .ret (.bin .mod (.call "int" (pureF intP) [(.bin .div (.idx (.var 0) (.lit (.int 0))) (.lit (.int 128)))]) (.var 1))]
noncomputable def F__law_draw : Fn := runB 4 2 b__law_draw
noncomputable def b__law_pick : List S := [.ret (.idx (.var 1) (.call "_law_draw" F__law_draw [(.var 0), (.call "len" (pureF lenP) [(.var 1)])]))]
noncomputable def F__law_pick : Fn := runB 2 2 b__law_pick
noncomputable def b__law_primes : List S := [.par [1, 2, 3] [(.lst []), (.lit (.int 2)), (.var 0)],
    .whl (.cmp .gt (.var 3) (.lit (.int 1))) [.asg [.nm 4] (.lit (.int 0)),
    .whl (.cmp .eq (.bin .mod (.call "int" (pureF intP) [(.var 3)]) (.var 2)) (.lit (.int 0))) [.par [3, 4] [(.bin .div (.var 3) (.var 2)), (.bin .add (.var 4) (.lit (.int 1)))]],
    .asg [.nm 1] (.bin .add (.var 1) (.bin .mul (.lst [(.tup [(.var 2), (.var 4)])]) (.call "int" (pureF intP) [(.cmp .gt (.var 4) (.lit (.int 0)))]))),
    .asg [.nm 2] (.ife (.cmp .le (.bin .mul (.var 2) (.var 2)) (.var 3)) (.bin .add (.var 2) (.lit (.int 1))) (.call "max" (pureF maxP) [(.var 3), (.bin .add (.var 2) (.lit (.int 1)))]))],
    .ret (.call "tuple" (pureF tupP) [(.var 1)])]
noncomputable def F__law_primes : Fn := runB 5 1 b__law_primes
noncomputable def b__law_parts : List S := [.asg [.nm 1] (.lst [(.lit (.int 1))]),
    .fors [2, 3] .seq [(.call "_law_primes" F__law_primes [(.var 0)])] [.asg [.nm 5, .nm 6] (.tup [(.lst []), (.lit (.int 1))]),
    .fors [4] .rng1 [(.bin .add (.var 3) (.lit (.int 1)))] [.asg [.nm 5] (.bin .add (.var 5) (.comp [("own", 7)] (.bin .mul (.var 7) (.var 6)) [7] .seq [(.var 1)] [])),
    .asg [.nm 6] (.bin .mul (.var 6) (.var 2))],
    .asg [.nm 1] (.var 5)],
    .ret (.call "tuple" (pureF tupP) [(.call "sorted" (pureF sortP) [(.var 1)])])]
noncomputable def F__law_parts : Fn := runB 8 1 b__law_parts
noncomputable def b__law_number : List S := [.ife (.cmp .eq (.call "_law_draw" F__law_draw [(.var 0), (.lit (.int 4))]) (.lit (.int 0))) [.ret (.bin .add (.lit (.int 1)) (.call "_law_draw" F__law_draw [(.var 0), (.var 1)]))] [],
    .asg [.nm 2] (.lit (.int 1)),
    .fors [3] .rng1 [(.bin .add (.lit (.int 1)) (.call "_law_draw" F__law_draw [(.var 0), (.lit (.int 6))]))] [.asg [.nm 4] (.call "_law_pick" F__law_pick [(.var 0), (.lst [(.lit (.int 2)), (.lit (.int 2)), (.lit (.int 2)), (.lit (.int 3)), (.lit (.int 3)), (.lit (.int 5)), (.lit (.int 7))])]),
    .asg [.nm 2] (.ife (.cmp .le (.bin .mul (.var 2) (.var 4)) (.var 1)) (.bin .mul (.var 2) (.var 4)) (.var 2))],
    .ret (.var 2)]
noncomputable def F__law_number : Fn := runB 5 2 b__law_number
noncomputable def b__law_common : List S := [.par [0, 1] [(.call "abs" (pureF absP) [(.var 0)]), (.call "abs" (pureF absP) [(.var 1)])],
    .whl (.cmp .gt (.var 1) (.lit (.int 0))) [.par [0, 1] [(.var 1), (.bin .mod (.call "int" (pureF intP) [(.var 0)]) (.call "int" (pureF intP) [(.var 1)]))]],
    .ret (.var 0)]
noncomputable def F__law_common : Fn := runB 2 2 b__law_common
noncomputable def b__law_free : List S := [.ret (.comp [("own", 1)] (.var 1) [1] .rng2 [(.lit (.int 1)), (.bin .add (.var 0) (.lit (.int 1)))] [(.cmp .eq (.call "_law_common" F__law_common [(.var 1), (.var 0)]) (.lit (.int 1)))])]
noncomputable def F__law_free : Fn := runB 2 1 b__law_free
noncomputable def b__law_round : List S := [.par [2, 3] [(.lit (.int 1)), (.bin .mod (.call "int" (pureF intP) [(.var 0)]) (.var 1))],
    .whl (.cmp .ne (.var 3) (.bin .mod (.call "int" (pureF intP) [(.lit (.int 1))]) (.var 1))) [.par [2, 3] [(.bin .add (.var 2) (.lit (.int 1))), (.bin .mod (.call "int" (pureF intP) [(.bin .mul (.var 3) (.var 0))]) (.var 1))]],
    .ret (.var 2)]
noncomputable def F__law_round : Fn := runB 4 2 b__law_round
noncomputable def b__law_squares : List S := [.par [1, 2] [(.lst []), (.lit (.int 0))],
    .whl (.cmp .le (.bin .mul (.bin .mul (.lit (.int 2)) (.var 2)) (.var 2)) (.var 0)) [.asg [.nm 3] (.var 2),
    .whl (.cmp .lt (.bin .add (.bin .mul (.var 2) (.var 2)) (.bin .mul (.var 3) (.var 3))) (.var 0)) [.asg [.nm 3] (.bin .add (.var 3) (.lit (.int 1)))],
    .asg [.nm 1] (.bin .add (.var 1) (.bin .mul (.lst [(.tup [(.var 2), (.var 3)])]) (.call "int" (pureF intP) [(.cmp .eq (.bin .add (.bin .mul (.var 2) (.var 2)) (.bin .mul (.var 3) (.var 3))) (.var 0))]))),
    .asg [.nm 2] (.bin .add (.var 2) (.lit (.int 1)))],
    .ret (.var 1)]
noncomputable def F__law_squares : Fn := runB 4 1 b__law_squares
noncomputable def b__law_right : List S := [.asg [.nm 1] (.lst [(.bin .add (.lit (.int 2)) (.call "_law_draw" F__law_draw [(.var 0), (.lit (.int 60))])), (.bin .add (.lit (.int 2)) (.call "_law_draw" F__law_draw [(.var 0), (.lit (.int 60))])), (.bin .add (.call "_law_number" F__law_number [(.var 0), (.lit (.int 200))]) (.lit (.int 1)))]),
    .asg [.nm 2] (.call "_law_pick" F__law_pick [(.var 0), (.bin .add (.lst [(.lit (.int 2)), (.lit (.int 4)), (.lit (.int 9)), (.lit (.int 14)), (.lit (.int 25)), (.lit (.int 49))]) (.var 1))]),
    .asg [.nm 3] (.comp [("own", 10)] (.var 10) [10] .seq [(.call "_law_free" F__law_free [(.var 2)])] [(.or [(.cmp .lt (.var 10) (.var 2)), (.cmp .eq (.var 2) (.lit (.int 2)))])]),
    .asg [.nm 4] (.comp [("own", 10)] (.call "_law_round" F__law_round [(.var 10), (.var 2)]) [10] .seq [(.var 3)] []),
    .asg [.nm 5] (.bin .add (.call "_law_pick" F__law_pick [(.var 0), (.var 3)]) (.bin .mul (.var 2) (.call "_law_draw" F__law_draw [(.var 0), (.lit (.int 3))]))),
    .asg [.nm 6] (.call "tuple" (pureF tupP) [(.comp [("k", 17)] (.idx (.var 3) (.var 17)) [17] .rng1 [(.call "len" (pureF lenP) [(.var 3)])] [(.cmp .eq (.idx (.var 4) (.var 17)) (.call "len" (pureF lenP) [(.var 3)]))])]),
    .ife (.or [(.cmp .ne (.call "round_of" F_round_of [(.var 5), (.var 2)]) (.call "_law_round" F__law_round [(.var 5), (.var 2)])), (.cmp .ne (.call "greatest_round" F_greatest_round [(.var 2)]) (.call "max" (pureF maxP) [(.var 4)]))]) [.ret (.lit (.bl false))] [],
    .ife (.cmp .ne (.call "roots" F_roots [(.var 2)]) (.var 6)) [.ret (.lit (.bl false))] [],
    .ife (.or [(.cmp .ne (.call "has_roots" F_has_roots [(.var 2)]) (.cmp .ne (.var 6) (.tup []))), (.cmp .ne (.call "count_roots" F_count_roots [(.var 2)]) (.call "len" (pureF lenP) [(.var 6)]))]) [.ret (.lit (.bl false))] [],
    .asg [.nm 7] (.call "_law_primes" F__law_primes [(.var 2)]),
    .asg [.nm 8] (.or [(.cmp .inn (.var 2) (.lst [(.lit (.int 2)), (.lit (.int 4))])), (.and [(.cmp .eq (.call "len" (pureF lenP) [(.var 7)]) (.lit (.int 1))), (.cmp .gt (.idx (.idx (.var 7) (.lit (.int 0))) (.lit (.int 0))) (.lit (.int 2)))]), (.and [(.cmp .eq (.call "len" (pureF lenP) [(.var 7)]) (.lit (.int 2))), (.cmp .eq (.idx (.var 7) (.lit (.int 0))) (.tup [(.lit (.int 2)), (.lit (.int 1))]))])]),
    .ife (.or [(.cmp .ne (.cmp .ne (.var 6) (.tup [])) (.var 8)), (.and [(.cmp .ne (.var 6) (.tup [])), (.cmp .ne (.call "len" (pureF lenP) [(.var 6)]) (.call "len" (pureF lenP) [(.call "_law_free" F__law_free [(.call "len" (pureF lenP) [(.var 3)])])]))])]) [.ret (.lit (.bl false))] [],
    .asg [.nm 1] (.lst [(.call "_law_number" F__law_number [(.var 0), (.lit (.int 9999))]), (.bin .add (.lit (.int 1)) (.call "_law_draw" F__law_draw [(.var 0), (.lit (.int 400))])), (.bin .mul (.lit (.int 5)) (.call "_law_number" F__law_number [(.var 0), (.lit (.int 800))]))]),
    .asg [.nm 9] (.call "_law_pick" F__law_pick [(.var 0), (.bin .add (.var 1) (.lst [(.lit (.int 25)), (.lit (.int 325)), (.lit (.int 1105))]))]),
    .asg [.nm 10] (.call "_law_squares" F__law_squares [(.var 9)]),
    .asg [.nm 11] (.lit (.int 0)),
    .fors [15, 16] .seq [(.var 10)] [.asg [.nm 11] (.bin .add (.var 11) (.bin .mul (.bin .mul (.ife (.cmp .ne (.var 15) (.var 16)) (.lit (.int 2)) (.lit (.int 1))) (.ife (.cmp .gt (.var 15) (.lit (.int 0))) (.lit (.int 2)) (.lit (.int 1)))) (.ife (.cmp .gt (.var 16) (.lit (.int 0))) (.lit (.int 2)) (.lit (.int 1)))))],
    .ife (.cmp .ne (.lst [(.call "squares" F_squares [(.var 9)]), (.call "count_squares" F_count_squares [(.var 9)])]) (.lst [(.call "tuple" (pureF tupP) [(.var 10)]), (.var 11)])) [.ret (.lit (.bl false))] [],
    .asg [.nm 12] (.cmp .eq (.comp [("prime", 19), ("times", 20)] (.lit (.int 1)) [19, 20] .seq [(.call "_law_primes" F__law_primes [(.var 9)])] [(.and [(.cmp .eq (.bin .mod (.call "int" (pureF intP) [(.var 19)]) (.lit (.int 4))) (.lit (.int 3))), (.cmp .eq (.bin .mod (.call "int" (pureF intP) [(.var 20)]) (.lit (.int 2))) (.lit (.int 1)))])]) (.lst [])),
    .asg [.nm 13] (.call "len" (pureF lenP) [(.comp [("part", 18)] (.var 18) [18] .seq [(.call "_law_parts" F__law_parts [(.var 9)])] [(.cmp .eq (.bin .mod (.call "int" (pureF intP) [(.var 18)]) (.lit (.int 4))) (.lit (.int 1)))])]),
    .asg [.nm 14] (.call "len" (pureF lenP) [(.comp [("part", 18)] (.var 18) [18] .seq [(.call "_law_parts" F__law_parts [(.var 9)])] [(.cmp .eq (.bin .mod (.call "int" (pureF intP) [(.var 18)]) (.lit (.int 4))) (.lit (.int 3)))])]),
    .ret (.and [(.cmp .eq (.cmp .ne (.var 10) (.lst [])) (.var 12)), (.cmp .eq (.var 11) (.bin .mul (.lit (.int 4)) (.bin .sub (.var 13) (.var 14))))])]
noncomputable def F__law_right : Fn := runB 21 1 b__law_right
noncomputable def b_law : List S := [.ret (.call "all" (pureF allP) [(.comp [("turn", 1)] (.call "_law_right" F__law_right [(.call "_law_pool" F__law_pool [(.var 0), (.var 1)])]) [1] .rng1 [(.call "max" (pureF maxP) [(.lit (.int 2)), (.call "min" (pureF minP) [(.call "len" (pureF lenP) [(.var 0)]), (.lit (.int 3))])])] [])])]
noncomputable def F_law : Fn := runB 2 1 b_law
end K90
end

section
set_option Elab.async false
set_option linter.all false
set_option maxRecDepth 100000
namespace K90
open DL PySem
theorem fm (a b : Nat) : Int.fmod (a : Int) (b : Int) = ((a % b : Nat) : Int) := by simp [Int.fmod_eq_emod_of_nonneg]
theorem fd (a b : Nat) : Int.fdiv (a : Int) (b : Int) = ((a / b : Nat) : Int) := by simp [Int.fdiv_eq_ediv_of_nonneg]
theorem strip_loop (x0 x1 : Option D) (h : Hd) (p : Nat) (hp : 2 ≤ p) (hq : p < 1073741824) : ∀ (f l o : Nat), 1 ≤ l → l ≤ f →
    whileF (denT (.cmp .eq (.bin .mod (.var 2) (.var 3)) (.lit (.int 0)))) (denSs [.par [2, 4] [(.bin .div (.var 2) (.var 3)), (.bin .add (.var 4) (.lit (.int 1)))]]) [x0, x1, some (.int l), some (.int p), some (.int o)] h
      = .fl (.nx [x0, x1, some (.int (strip f l p o).1), some (.int p), some (.int (strip f l p o).2)]) h
  | 0, l, o, h1, h2 => by omega
  | f + 1, l, o, h1, h2 => by
    have p0 : (p : Int) ≠ 0 := by omega
    have p0' : p ≠ 0 := by omega
    have pd0 : divOk (l : Int) (p : Int) := ⟨p0, .inl (by simpa using hq)⟩
    by_cases c : l % p = 0
    · have c' : ((l % p : Nat) : Int) = 0 := by simp [c]
      rw [while_true (δ' := [x0, x1, some (.int (l / p : Nat)), some (.int p), some (.int (o + 1 : Nat))]) (h' := h) (h1 := h)
        (by simp [denT, denE, binD, p0, p0', fm, cmpD, eqD_int, c']) (by simp [denE, denSs, denS, denEs, binD, p0, p0', fd, pd0])]
      rw [strip_loop x0 x1 h p hp hq f (l / p) (o + 1) (by
        have := Nat.div_add_mod l p
        rcases Nat.eq_zero_or_pos (l / p) with z | z
        · rw [z, c] at this; omega
        · exact z) (by have := Nat.div_lt_self (by omega : 0 < l) (by omega : 1 < p); omega)]
      simp only [strip, c, if_true]
    · have c' : ¬ ((l % p : Nat) : Int) = 0 := by omega
      have c2 : ¬ (l : Int) % (p : Int) = 0 := by rw [← Int.natCast_emod]; exact c'
      rw [while_false (h1 := h) (by simp [denT, denE, binD, p0, p0', fm, cmpD, eqD_int, c2])]
      simp only [strip, c, if_false]
theorem strip_le : ∀ (f l p o : Nat), 1 ≤ l → 1 ≤ (strip f l p o).1 ∧ (strip f l p o).1 ≤ l ∧ o ≤ (strip f l p o).2
  | 0, l, p, o, h => ⟨h, Nat.le_refl _, Nat.le_refl _⟩
  | f + 1, l, p, o, h => by
    unfold strip
    by_cases c : l % p = 0
    · rw [if_pos c]
      have h2 : 1 ≤ l / p := by
        have := Nat.div_add_mod l p
        rcases Nat.eq_zero_or_pos (l / p) with z | z
        · rw [z, c] at this; omega
        · exact z
      obtain ⟨a, b, d⟩ := strip_le f (l / p) p (o + 1) h2
      exact ⟨a, Nat.le_trans b (Nat.div_le_self l p), by omega⟩
    · rw [if_neg c]; exact ⟨h, Nat.le_refl _, Nat.le_refl _⟩
theorem strip_nd : ∀ (f l p o : Nat), 1 ≤ l → l ≤ f → 2 ≤ p → (strip f l p o).1 ∣ l ∧ ¬ p ∣ (strip f l p o).1
  | 0, l, p, o, h1, h2, h3 => by omega
  | f + 1, l, p, o, h1, h2, h3 => by
    unfold strip
    by_cases c : l % p = 0
    · rw [if_pos c]
      have e := Nat.div_add_mod l p
      have h4 : 1 ≤ l / p := by
        rcases Nat.eq_zero_or_pos (l / p) with z | z
        · rw [z, c] at e; omega
        · exact z
      have h5 := Nat.div_lt_self (by omega : 0 < l) (by omega : 1 < p)
      obtain ⟨a, b⟩ := strip_nd f (l / p) p (o + 1) h4 (by omega) h3
      exact ⟨Nat.dvd_trans a (Nat.div_dvd_of_dvd (Nat.dvd_of_mod_eq_zero c)), b⟩
    · rw [if_neg c]; exact ⟨Nat.dvd_refl _, fun z => c (Nat.mod_eq_zero_of_dvd z)⟩
def Rough (l p : Nat) : Prop := ∀ d, 2 ≤ d → d < p → ¬ d ∣ l
theorem rough_next {l p : Nat} (hl : 1 < l) (hp : 2 ≤ p) (r : Rough l p) : p ≤ l ∧ Rough (strip l l p 0).1 (if p * p ≤ (strip l l p 0).1 then p + 1 else max (strip l l p 0).1 (p + 1)) ∧ p < (if p * p ≤ (strip l l p 0).1 then p + 1 else max (strip l l p 0).1 (p + 1)) := by
  obtain ⟨h1, h2⟩ := strip_nd l l p 0 (by omega) (Nat.le_refl _) hp
  generalize (strip l l p 0).1 = m at h1 h2
  refine ⟨Nat.le_of_not_lt fun z => r l hl z (Nat.dvd_refl _), ?_, by split <;> omega⟩
  have base : ∀ d, 2 ≤ d → d < p + 1 → ¬ d ∣ m := fun d h3 h4 h5 => by
    rcases Nat.lt_or_ge d p with z | z
    · exact r d h3 z (Nat.dvd_trans h5 h1)
    · have : d = p := by omega
      subst this; exact h2 h5
  intro d h3 h4 h5
  split at h4
  · exact base d h3 h4 h5
  · rename_i c
    rcases Nat.lt_or_ge d (p + 1) with z | z
    · exact base d h3 z h5
    · have hm : d < m := by omega
      obtain ⟨q, rfl⟩ := h5
      have hq : q < p + 1 := by
        rcases Nat.lt_or_ge q (p + 1) with y | y
        · exact y
        · have := Nat.mul_le_mul (show p ≤ d by omega) (show p ≤ q by omega)
          omega
      have hq2 : 2 ≤ q := by
        rcases Nat.lt_or_ge q 2 with y | y
        · have : q = 0 ∨ q = 1 := by omega
          rcases this with y | y <;> subst y <;> simp at hm
        · exact y
      exact base q hq2 hq ⟨d, Nat.mul_comm d q⟩
noncomputable abbrev pmC : E := .cmp .gt (.var 2) (.lit (.int 1))
noncomputable abbrev pmB : List S := [.asg [.nm 4] (.lit (.int 0)),
    .whl (.cmp .eq (.bin .mod (.var 2) (.var 3)) (.lit (.int 0))) [.par [2, 4] [(.bin .div (.var 2) (.var 3)), (.bin .add (.var 4) (.lit (.int 1)))]],
    .ife (.cmp .gt (.var 4) (.lit (.int 0))) [.expr (.mth "append" isLst appF (.var 1) [(.tup [(.var 3), (.var 4)])])] [],
    .asg [.nm 3] (.ife (.cmp .le (.bin .mul (.var 3) (.var 3)) (.var 2)) (.bin .add (.var 3) (.lit (.int 1))) (.call "max" (pureF maxP) [(.var 2), (.bin .add (.var 3) (.lit (.int 1)))]))]
theorem mul_small {i j : Int} (h : 0 ≤ i ∧ i < 1073741824) : mulOk i j := .inl ⟨by omega, by omega⟩
theorem primes_turn (x0 : Option D) (x4 : Option D) (h0 : Hd) (l p : Nat) (acc : List (Nat × Nat)) (h1 : 1 ≤ l) (hp : 2 ≤ p) (hq : p < 1073741824) (ha : acc.length < line) :
    denSs pmB [x0, some (.ref h0.length), some (.int l), some (.int p), x4] (h0 ++ [.lst (acc.map pairD)])
      = .fl (.nx [x0, some (.ref h0.length), some (.int (strip l l p 0).1), some (.int (if p * p ≤ (strip l l p 0).1 then p + 1 else max (strip l l p 0).1 (p + 1) : Nat)), some (.int (strip l l p 0).2)])
        (h0 ++ [.lst ((if 0 < (strip l l p 0).2 then acc ++ [(p, (strip l l p 0).2)] else acc).map pairD)]) := by
  rw [den_nx (δ' := [x0, some (.ref h0.length), some (.int l), some (.int p), some (.int (0 : Nat))]) (h' := h0 ++ [.lst (acc.map pairD)]) (by simp [denS, denE, asgT, storeT])]
  rw [den_nx (den_whl.trans (strip_loop x0 _ _ p hp hq l l 0 h1 (Nat.le_refl _)))]
  generalize strip l l p 0 = m
  obtain ⟨m, e⟩ := m
  dsimp only
  have step3 : denS (.ife (.cmp .gt (.var 4) (.lit (.int 0))) [.expr (.mth "append" isLst appF (.var 1) [(.tup [(.var 3), (.var 4)])])] []) [x0, some (.ref h0.length), some (.int m), some (.int p), some (.int e)] (h0 ++ [.lst (acc.map pairD)])
      = .fl (.nx [x0, some (.ref h0.length), some (.int m), some (.int p), some (.int e)]) (h0 ++ [.lst ((if 0 < e then acc ++ [(p, e)] else acc).map pairD)]) := by
    by_cases c : 0 < e
    · rw [den_if1 (h1 := h0 ++ [.lst (acc.map pairD)]) (by simp [denT, denE, cmpD, c])]
      rw [den_nx (δ' := [x0, some (.ref h0.length), some (.int m), some (.int p), some (.int e)]) (h' := h0 ++ [.lst ((acc ++ [(p, e)]).map pairD)]) (by
        have ha' : acc.length < 16777216 := ha
        simp [denS, denE, denEs, isLst, appF, ha, ha', line]
        rfl)]
      simp [den_nil, c]
    · rw [den_if0 (h1 := h0 ++ [.lst (acc.map pairD)]) (by simp [denT, denE, cmpD]; omega)]
      simp [den_nil, c]
  rw [den_nx step3]
  have hm : mulOk (p : Int) (p : Int) := mul_small ⟨by omega, by omega⟩
  by_cases c : p * p ≤ m
  · have c' : (p : Int) * (p : Int) ≤ (m : Int) := by exact_mod_cast c
    simp [denSs, denS, denE, denEs, binD, hm, cmpD, c', c, truD, asgT, storeT]
  · have c' : ¬ (p : Int) * (p : Int) ≤ (m : Int) := by exact_mod_cast c
    simp [denSs, denS, denE, denEs, binD, hm, cmpD, c', c, truD, asgT, storeT, pureF, okI, maxP]
    omega
theorem primes_loop (x0 : Option D) (h0 : Hd) : ∀ (f l p : Nat) (acc : List (Nat × Nat)) (x4 : Option D), 1 ≤ l → 2 ≤ p → Rough l p → l + 1 - p < f → l < 16777214 → p ≤ l + 1 ∨ l = 1 → acc.length ≤ p → p < 16777216 →
    ∃ δ', whileF (denT pmC) (denSs pmB) [x0, some (.ref h0.length), some (.int l), some (.int p), x4] (h0 ++ [.lst (acc.map pairD)])
      = .fl (.nx δ') (h0 ++ [.lst ((primesN f l p acc).map pairD)]) ∧ δ'[1]? = some (some (.ref h0.length)) ∧ (primesN f l p acc).length < line
  | 0, l, p, acc, x4, h1, h2, r, hf, hl, hp, ha, hq => by omega
  | f + 1, l, p, acc, x4, h1, h2, r, hf, hl, hp, ha, hq => by
    by_cases c : 1 < l
    · have c' : (1 : Int) < (l : Int) := by omega
      obtain ⟨n1, n2, n3⟩ := rough_next c h2 r
      obtain ⟨s1, s2, _⟩ := strip_le l l p 0 h1
      rw [while_true (h1 := h0 ++ [.lst (acc.map pairD)]) (by simp [denT, denE, cmpD, c']) (primes_turn x0 x4 h0 l p acc h1 h2 (by omega) (by unfold line; omega))]
      simp only [primesN, c, if_true]
      generalize hm : strip l l p 0 = m at *
      obtain ⟨m, e⟩ := m
      dsimp only at *
      have hp' : (if p * p ≤ m then p + 1 else max m (p + 1)) ≤ m + 1 ∨ m = 1 := by
        by_cases hm1 : m = 1
        · exact .inr hm1
        · left
          by_cases y : p * p ≤ m
          · rw [if_pos y]; have := Nat.mul_le_mul_right p h2; omega
          · rw [if_neg y]
            rcases Nat.lt_or_ge m p with z | z
            · exfalso
              have h5 : 2 ≤ m := by omega
              have h6 : m ∣ l := by
                have := (strip_nd l l p 0 h1 (Nat.le_refl _) h2).1
                rw [hm] at this; exact this
              exact r m h5 z h6
            · omega
      exact primes_loop x0 h0 f m _ _ _ s1 (by omega) n2 (by omega) (by omega) hp' (by
        have : (if 0 < e then acc ++ [(p, e)] else acc).length ≤ acc.length + 1 := by split <;> simp
        omega) (by split <;> omega)
    · have c' : ¬ (1 : Int) < (l : Int) := by omega
      rw [while_false (h1 := h0 ++ [.lst (acc.map pairD)]) (by simp [denT, denE, cmpD]; omega)]
      simp only [primesN, c, if_false]
      exact ⟨_, rfl, rfl, by unfold line; omega⟩
theorem f_primes_by (n : Nat) (h : Hd) (h1 : 1 ≤ n) (h2 : n < 16777214) : F_primes_by [.int n] h = .ok (.tup ((primesOf n).map pairD)) (h ++ [.lst ((primesOf n).map pairD)]) := by
  obtain ⟨δ', e1, e2, e3⟩ := primes_loop (some (.int n)) h (n + 1) n 2 [] none h1 (Nat.le_refl _) (fun d a b => by omega) (by omega) h2 (by omega) (by simp) (by omega)
  refine run_rt rfl ?_
  show denSs b_primes_by [some (.int n), none, none, none, none] h = _
  unfold b_primes_by
  rw [den_nx (δ' := [some (.int n), some (.ref h.length), some (.int n), some (.int (2 : Nat)), none]) (h' := h ++ [.lst (([] : List (Nat × Nat)).map pairD)]) (by simp [denS, denE, denEs, line])]
  rw [den_nx (den_whl.trans e1)]
  refine den_rt ?_
  simp [denS, denE, denEs, e2, pureF, okI, tupP, seqL, primesOf]
theorem lstrip_loop (x0 x1 : Option D) (h : Hd) (p : Nat) (hp : 2 ≤ p) (hq : p < 1073741824) : ∀ (f l o : Nat), 1 ≤ l → l ≤ f →
    whileF (denT (.cmp .eq (.bin .mod (.call "int" (pureF intP) [(.var 3)]) (.var 2)) (.lit (.int 0)))) (denSs [.par [3, 4] [(.bin .div (.var 3) (.var 2)), (.bin .add (.var 4) (.lit (.int 1)))]]) [x0, x1, some (.int p), some (.int l), some (.int o)] h
      = .fl (.nx [x0, x1, some (.int p), some (.int (strip f l p o).1), some (.int (strip f l p o).2)]) h
  | 0, l, o, h1, h2 => by omega
  | f + 1, l, o, h1, h2 => by
    have p0 : (p : Int) ≠ 0 := by omega
    have p0' : p ≠ 0 := by omega
    have pd0 : divOk (l : Int) (p : Int) := ⟨p0, .inl (by simpa using hq)⟩
    by_cases c : l % p = 0
    · have c' : ((l % p : Nat) : Int) = 0 := by simp [c]
      rw [while_true (δ' := [x0, x1, some (.int p), some (.int (l / p : Nat)), some (.int (o + 1 : Nat))]) (h' := h) (h1 := h)
        (by simp [denT, denE, denEs, pureF, okI, intP, binD, p0, p0', fm, cmpD, eqD_int, c']) (by simp [denE, denSs, denS, denEs, binD, p0, p0', fd, pd0])]
      rw [lstrip_loop x0 x1 h p hp hq f (l / p) (o + 1) (by
        have := Nat.div_add_mod l p
        rcases Nat.eq_zero_or_pos (l / p) with z | z
        · rw [z, c] at this; omega
        · exact z) (by have := Nat.div_lt_self (by omega : 0 < l) (by omega : 1 < p); omega)]
      simp only [strip, c, if_true]
    · have c' : ¬ ((l % p : Nat) : Int) = 0 := by omega
      have c2 : ¬ (l : Int) % (p : Int) = 0 := by rw [← Int.natCast_emod]; exact c'
      rw [while_false (h1 := h) (by simp [denT, denE, denEs, pureF, okI, intP, binD, p0, p0', fm, cmpD, eqD_int, c2])]
      simp only [strip, c, if_false]
noncomputable abbrev lpC : E := .cmp .gt (.var 3) (.lit (.int 1))
noncomputable abbrev lpB : List S := [.asg [.nm 4] (.lit (.int 0)),
    .whl (.cmp .eq (.bin .mod (.call "int" (pureF intP) [(.var 3)]) (.var 2)) (.lit (.int 0))) [.par [3, 4] [(.bin .div (.var 3) (.var 2)), (.bin .add (.var 4) (.lit (.int 1)))]],
    .asg [.nm 1] (.bin .add (.var 1) (.bin .mul (.lst [(.tup [(.var 2), (.var 4)])]) (.call "int" (pureF intP) [(.cmp .gt (.var 4) (.lit (.int 0)))]))),
    .asg [.nm 2] (.ife (.cmp .le (.bin .mul (.var 2) (.var 2)) (.var 3)) (.bin .add (.var 2) (.lit (.int 1))) (.call "max" (pureF maxP) [(.var 3), (.bin .add (.var 2) (.lit (.int 1)))]))]
theorem lprimes_turn (x0 : Option D) (x4 : Option D) (h : Hd) (l p : Nat) (acc : List (Nat × Nat)) (h1 : 1 ≤ l) (hp : 2 ≤ p) (hq : p < 1073741824) (ha : acc.length < line) :
    denSs lpB [x0, some (.lst (acc.map pairD)), some (.int p), some (.int l), x4] h
      = .fl (.nx [x0, some (.lst ((if 0 < (strip l l p 0).2 then acc ++ [(p, (strip l l p 0).2)] else acc).map pairD)), some (.int (if p * p ≤ (strip l l p 0).1 then p + 1 else max (strip l l p 0).1 (p + 1) : Nat)), some (.int (strip l l p 0).1), some (.int (strip l l p 0).2)]) h := by
  rw [den_nx (δ' := [x0, some (.lst (acc.map pairD)), some (.int p), some (.int l), some (.int (0 : Nat))]) (h' := h) (by simp [denS, denE, asgT, storeT])]
  rw [den_nx (den_whl.trans (lstrip_loop x0 _ _ p hp hq l l 0 h1 (Nat.le_refl _)))]
  generalize strip l l p 0 = m
  obtain ⟨m, e⟩ := m
  dsimp only
  have ha' : acc.length < 16777216 := ha
  rw [den_nx (δ' := [x0, some (.lst ((if 0 < e then acc ++ [(p, e)] else acc).map pairD)), some (.int p), some (.int m), some (.int e)]) (h' := h) (by
    by_cases c : 0 < e
    · simp [denS, denE, denEs, binD, listD, pureF, okI, intP, cmpD, c, asgT, storeT, line, pairD]
      rw [if_pos (by omega)]; rfl
    · simp [denS, denE, denEs, binD, listD, pureF, okI, intP, cmpD, c, asgT, storeT, line, pairD]
      rw [if_pos (by omega)]; rfl)]
  have hm : mulOk (p : Int) (p : Int) := mul_small ⟨by omega, by omega⟩
  by_cases c : p * p ≤ m
  · have c' : (p : Int) * (p : Int) ≤ (m : Int) := by exact_mod_cast c
    simp [denSs, denS, denE, denEs, binD, hm, cmpD, c', c, truD, asgT, storeT]
  · have c' : ¬ (p : Int) * (p : Int) ≤ (m : Int) := by exact_mod_cast c
    simp [denSs, denS, denE, denEs, binD, hm, cmpD, c', c, truD, asgT, storeT, pureF, okI, maxP]
    omega
theorem lprimes_loop (x0 : Option D) (h : Hd) : ∀ (f l p : Nat) (acc : List (Nat × Nat)) (x4 : Option D), 1 ≤ l → 2 ≤ p → Rough l p → l + 1 - p < f → l < 16777214 → p ≤ l + 1 ∨ l = 1 → acc.length ≤ p → p < 16777216 →
    ∃ δ', whileF (denT lpC) (denSs lpB) [x0, some (.lst (acc.map pairD)), some (.int p), some (.int l), x4] h
      = .fl (.nx δ') h ∧ δ'[1]? = some (some (.lst ((primesN f l p acc).map pairD))) ∧ (primesN f l p acc).length < line
  | 0, l, p, acc, x4, h1, h2, r, hf, hl, hp, ha, hq => by omega
  | f + 1, l, p, acc, x4, h1, h2, r, hf, hl, hp, ha, hq => by
    by_cases c : 1 < l
    · have c' : (1 : Int) < (l : Int) := by omega
      obtain ⟨n1, n2, n3⟩ := rough_next c h2 r
      obtain ⟨s1, s2, _⟩ := strip_le l l p 0 h1
      rw [while_true (h1 := h) (by simp [denT, denE, cmpD, c']) (lprimes_turn x0 x4 h l p acc h1 h2 (by omega) (by unfold line; omega))]
      simp only [primesN, c, if_true]
      generalize hm : strip l l p 0 = m at *
      obtain ⟨m, e⟩ := m
      dsimp only at *
      have hp' : (if p * p ≤ m then p + 1 else max m (p + 1)) ≤ m + 1 ∨ m = 1 := by
        by_cases hm1 : m = 1
        · exact .inr hm1
        · left
          by_cases y : p * p ≤ m
          · rw [if_pos y]; have := Nat.mul_le_mul_right p h2; omega
          · rw [if_neg y]
            rcases Nat.lt_or_ge m p with z | z
            · exfalso
              have h5 : 2 ≤ m := by omega
              have h6 : m ∣ l := by
                have := (strip_nd l l p 0 h1 (Nat.le_refl _) h2).1
                rw [hm] at this; exact this
              exact r m h5 z h6
            · omega
      exact lprimes_loop x0 h f m _ _ _ s1 (by omega) n2 (by omega) (by omega) hp' (by
        have : (if 0 < e then acc ++ [(p, e)] else acc).length ≤ acc.length + 1 := by split <;> simp
        omega) (by split <;> omega)
    · have c' : ¬ (1 : Int) < (l : Int) := by omega
      rw [while_false (h1 := h) (by simp [denT, denE, cmpD]; omega)]
      simp only [primesN, c, if_false]
      exact ⟨_, rfl, rfl, by unfold line; omega⟩
theorem f_law_primes (n : Nat) (h : Hd) (h1 : 1 ≤ n) (h2 : n < 16777214) : F__law_primes [.int n] h = .ok (.tup ((primesOf n).map pairD)) h := by
  obtain ⟨δ', e1, e2, e3⟩ := lprimes_loop (some (.int n)) h (n + 1) n 2 [] none h1 (Nat.le_refl _) (fun d a b => by omega) (by omega) h2 (by omega) (by simp) (by omega)
  refine run_rt rfl ?_
  show denSs b__law_primes [some (.int n), none, none, none, none] h = _
  unfold b__law_primes
  rw [den_nx (δ' := [some (.int n), some (.lst (([] : List (Nat × Nat)).map pairD)), some (.int (2 : Nat)), some (.int n), none]) (h' := h) (by simp [denS, denE, denEs, line])]
  rw [den_nx (den_whl.trans e1)]
  refine den_rt ?_
  simp [denS, denE, denEs, e2, pureF, okI, tupP, seqL, primesOf]
theorem natF_trunc {p : Nat → Bool} {f : Nat → D} {F : Fn} (hf : ∀ n h, p n = true → ∃ g, F [.int (n : Nat)] h = .ok (f n) (h ++ g)) (hc : ∀ n m, cl m (f n)) : ∀ ds h, clH h.length h → cls h.length ds → Trunc h.length (natF p f ds h) (F ds h) := by
  intro ds h c k
  have no : natF p f ds h = .no → Trunc h.length (natF p f ds h) (F ds h) := fun e => by rw [e]; exact .no _
  match ds with
  | [.int i] =>
    by_cases q : 0 ≤ i ∧ p i.toNat = true
    · obtain ⟨g, e⟩ := hf i.toNat h q.2
      have ei : ((i.toNat : Nat) : Int) = i := Int.toNat_of_nonneg q.1
      have en : natF p f [.int i] h = .ok (f i.toNat) h := by rw [← ei]; exact natF_ok h (by simpa [ei] using q.2)
      rw [ei] at e
      rw [en, e]
      exact .ok _ h g (Nat.le_refl _) c (hc _ _)
    · refine no ?_
      show okI (if 0 ≤ i ∧ p i.toNat = true then some (f i.toNat) else none) h = .no
      rw [if_neg q]
      rfl
  | [] => exact no rfl
  | .non :: _ => exact no (by rename_i l; cases l <;> rfl)
  | .bl _ :: _ => exact no (by rename_i l; cases l <;> rfl)
  | .str _ :: _ => exact no (by rename_i l; cases l <;> rfl)
  | .tup _ :: _ => exact no (by rename_i l; cases l <;> rfl)
  | .lst _ :: _ => exact no (by rename_i l; cases l <;> rfl)
  | .dct _ _ :: _ => exact no (by rename_i l; cases l <;> rfl)
  | .kdc _ _ :: _ => exact no (by rename_i l; cases l <;> rfl)
  | .scr _ :: _ => exact no (by rename_i l; cases l <;> rfl)
  | .ref _ :: _ => exact no (by rename_i l; cases l <;> rfl)
  | .glb _ :: _ => exact no (by rename_i l; cases l <;> rfl)
  | .ty _ :: _ => exact no (by rename_i l; cases l <;> rfl)
  | .int _ :: _ :: _ => exact no rfl
theorem cls_pairs (m : Nat) : ∀ ps : List (Nat × Nat), cls m (ps.map pairD)
  | [] => trivial
  | p :: ps => ⟨⟨trivial, trivial, trivial⟩, cls_pairs m ps⟩
theorem cls_ints (m : Nat) : ∀ ps : List Int, cls m (ps.map .int)
  | [] => trivial
  | p :: ps => ⟨trivial, cls_ints m ps⟩
theorem t_primes_by : ∀ ds h, clH h.length h → cls h.length ds → Trunc h.length (G_primes_by ds h) (F_primes_by ds h) :=
  natF_trunc (fun n h q => ⟨_, f_primes_by n h (of_decide_eq_true q).1 (of_decide_eq_true q).2⟩) fun n m => cls_pairs m _
theorem g_primes_by (n : Nat) (h : Hd) (h1 : 1 ≤ n) (h2 : n < 16777214) : G_primes_by [.int n] h = .ok (.tup ((primesOf n).map pairD)) h := natF_ok h (decide_eq_true ⟨h1, h2⟩)
end K90
end

section
set_option Elab.async false
set_option linter.all false
set_option maxRecDepth 100000
namespace K90
open DL PySem
theorem root_loop (n : Nat) (hn : n < 100000000) (h : Hd) : ∀ (f t : Nat), n < f + t → t ≤ n →
    whileF (denT (.cmp .le (.bin .mul (.bin .add (.var 1) (.lit (.int 1))) (.bin .add (.var 1) (.lit (.int 1)))) (.var 0))) (denSs [.asg [.nm 1] (.bin .add (.var 1) (.lit (.int 1)))]) [some (.int n), some (.int t)] h
      = .fl (.nx [some (.int n), some (.int (rootN f n t))]) h
  | 0, t, h1, h2 => by omega
  | f + 1, t, h1, h2 => by
    have hm : mulOk ((t : Int) + 1) ((t : Int) + 1) := mul_small ⟨by omega, by omega⟩
    by_cases c : (t + 1) * (t + 1) ≤ n
    · have c' : ((t : Int) + 1) * ((t : Int) + 1) ≤ (n : Int) := by exact_mod_cast c
      rw [while_true (δ' := [some (.int n), some (.int (t + 1 : Nat))]) (h' := h) (h1 := h) (by simp [denT, denE, binD, hm, cmpD, c']) (by simp [denSs, denS, denE, binD, asgT, storeT])]
      have h3 : t + 1 ≤ n := Nat.le_trans (by have := Nat.mul_le_mul_left (t + 1) (show 1 ≤ t + 1 by omega); omega) c
      rw [root_loop n hn h f (t + 1) (by omega) h3]
      simp only [rootN, c, if_true]
    · have c' : ¬ ((t : Int) + 1) * ((t : Int) + 1) ≤ (n : Int) := by exact_mod_cast c
      rw [while_false (h1 := h) (by simp [denT, denE, binD, hm, cmpD, c'])]
      simp only [rootN, c, if_false]
theorem f_root_of (n : Nat) (hn : n < 100000000) (h : Hd) : F_root_of [.int n] h = .ok (.int (rootOf n)) h := by
  refine run_rt rfl ?_
  show denSs b_root_of [some (.int n), none] h = _
  unfold b_root_of
  rw [den_nx (δ' := [some (.int n), some (.int (0 : Nat))]) (h' := h) (by simp [denS, denE, asgT, storeT])]
  rw [den_nx (den_whl.trans (root_loop n hn h (n + 1) 0 (by omega) (by omega)))]
  refine den_rt ?_
  simp [denS, denE, rootOf]
theorem prod_loop (x0 : Option D) (h : Hd) : ∀ (ns : List Nat) (a : Nat) (x2 : Option D) (ok : Hd → Prop), ok h → (∀ n ∈ ns, n < 1073741824) →
    ∃ δ', forF [2] ok (denSs [.asg [.nm 1] (.bin .mul (.var 1) (.var 2))]) (ns.map fun (n : Nat) => D.int n) [x0, some (.int a), x2] h = .fl (.nx δ') h ∧ δ'[1]? = some (some (.int (ns.foldl (· * ·) a : Nat)))
  | [], a, x2, ok, ho, hs => ⟨_, rfl, rfl⟩
  | n :: ns, a, x2, ok, ho, hs => by
    have hm : mulOk (a : Int) (n : Int) := .inr (.inl ⟨by omega, by have := hs n List.mem_cons_self; omega⟩)
    rw [List.map_cons, for_cons (δ' := [x0, some (.int (a * n : Nat)), some (.int n)]) (h' := h) rfl (by simp [denSs, denS, denE, binD, hm, asgT, storeT]) ho]
    exact prod_loop x0 h ns (a * n) _ ok ho fun m hm => hs m (List.mem_cons_of_mem _ hm)
theorem f_product_of (ns : List Nat) (h : Hd) (hs : ∀ n ∈ ns, n < 1073741824) : F_product_of [.lst (ns.map fun (n : Nat) => D.int n)] h = .ok (.int (ns.foldl (· * ·) 1 : Nat)) h := by
  obtain ⟨δ', e1, e2⟩ := prod_loop (some (.lst (ns.map fun (n : Nat) => D.int n))) h ns 1 none (sameSrc .seq [.lst (ns.map fun (n : Nat) => D.int n)] h) (fun _ _ => rfl) hs
  refine run_rt rfl ?_
  show denSs b_product_of [some (.lst _), none, none] h = _
  unfold b_product_of
  rw [den_nx (δ' := [some (.lst (ns.map fun (n : Nat) => D.int n)), some (.int (1 : Nat)), none]) (h' := h) (by simp [denS, denE, asgT, storeT])]
  rw [den_nx ((den_for (h1 := h) (ss := [.lst (ns.map fun (n : Nat) => D.int n)]) (by simp [denEs, denE]) rfl).trans e1)]
  refine den_rt ?_
  simp [denS, denE, e2]
theorem foldl_rep_mul (b : Nat) : ∀ (k a : Nat), (List.replicate k b).foldl (· * ·) a = a * b ^ k
  | 0, a => by simp
  | k + 1, a => by rw [List.replicate_succ, List.foldl_cons, foldl_rep_mul b k, Nat.pow_succ, Nat.mul_assoc, Nat.mul_comm b]
theorem flat_const (x : D) : ∀ xs : List D, (xs.flatMap fun _ => [x]) = List.replicate xs.length x
  | [] => rfl
  | y :: ys => by rw [List.flatMap_cons, flat_const x ys]; rfl
theorem f_power_of (b k : Nat) (h : Hd) (hb : b < 1073741824) (hk : k ≤ 100000) : F_power_of [.int b, .int k] h = .ok (.int (b ^ k : Nat)) h := by
  refine run_rt rfl ?_
  show denSs b_power_of [some (.int b), some (.int k), none] h = _
  unfold b_power_of
  refine den_rt ?_
  have hk' : (k : Int) < 2 ^ 62 := by omega
  have e1 : ((rangeD 0 k).flatMap fun _ => [D.int b]) = List.replicate k (.int b) := by
    have l : (rangeD 0 k).length = k := by simp [rangeD]
    rw [flat_const, l]
  have e0 : denE (.comp [("turn", 2)] (.var 0) [2] .rng1 [(.var 1)] []) [some (.int b), some (.int k), none] h = .ok (.lst ((rangeD 0 k).flatMap fun _ => [.int b])) h :=
    den_comp (fun _ => [.int b]) (ss := [.int k]) (by simp [denEs, denE]) (by simp [srcD, small]; omega) (fun x hx => ⟨_, rfl, by simp [denCs, denE, Out.calm, wipeD]⟩) (by rw [e1]; simp [line]; omega)
  have e := f_product_of (List.replicate k b) h (fun n hn => by rw [List.eq_of_mem_replicate hn]; exact hb)
  rw [foldl_rep_mul, Nat.one_mul, List.map_replicate] at e
  rw [e1] at e0
  simp only [denS, denE, denEs] at e0 ⊢
  rw [e0]
  simp [e]
end K90
end

section
set_option Elab.async false
set_option linter.all false
set_option maxRecDepth 100000
namespace K90
open DL PySem
theorem round_loop (b n : Nat) (hn : 1 ≤ n) (hn2 : n < 1073741824) (hb : b < 1073741824) (h : Hd) : ∀ (f t k r : Nat), t < n → roundN f b n t k = some r →
    ∃ δ', whileF (denT (.cmp .ne (.var 2) (.bin .mod (.lit (.int 1)) (.var 1)))) (denSs [.par [2, 3] [(.bin .mod (.bin .mul (.var 2) (.var 0)) (.var 1)), (.bin .add (.var 3) (.lit (.int 1)))]]) [some (.int b), some (.int n), some (.int t), some (.int k)] h
      = .fl (.nx δ') h ∧ δ'[3]? = some (some (.int r))
  | 0, t, k, r, ht, e => by cases e
  | f + 1, t, k, r, ht, e => by
    have n0 : (n : Int) ≠ 0 := by omega
    have n0' : n ≠ 0 := by omega
    have f1 : Int.fmod 1 (n : Int) = ((1 % n : Nat) : Int) := fm 1 n
    have hm : mulOk (t : Int) (b : Int) := .inr (.inl ⟨by omega, by omega⟩)
    have f2 : Int.fmod ((t : Int) * (b : Int)) (n : Int) = ((t * b % n : Nat) : Int) := by rw [← fm (t * b) n]; simp
    unfold roundN at e
    by_cases c : t = 1 % n
    · rw [if_pos c] at e
      cases e
      have c' : ((t : Nat) : Int) = ((1 % n : Nat) : Int) := by rw [c]
      refine ⟨_, while_false (h1 := h) (by simp only [denT, denE, binD]; simp [n0', f1, cmpD, eqD_int]; exact c'), rfl⟩
    · rw [if_neg c] at e
      have c' : ¬ ((t : Nat) : Int) = ((1 % n : Nat) : Int) := by omega
      rw [while_true (δ' := [some (.int b), some (.int n), some (.int (t * b % n : Nat)), some (.int (k + 1 : Nat))]) (h' := h) (h1 := h)
        (by simp only [denT, denE, binD]; simp [n0', f1, cmpD, eqD_int]; exact c') (by simp only [denSs, denS, denEs, denE, binD]; simp [n0', hm, f2])]
      exact round_loop b n hn hn2 hb h f (t * b % n) (k + 1) r (Nat.mod_lt _ hn) e
theorem f_round_by (b n r : Nat) (hn : 1 ≤ n) (hn2 : n < 1073741824) (hb : b < 1073741824) (h : Hd) (e : roundOf b n = some r) : F_round_by [.int b, .int n] h = .ok (.int r) h := by
  obtain ⟨δ', e1, e2⟩ := round_loop b n hn hn2 hb h (n + 1) (b % n) 1 r (Nat.mod_lt _ hn) e
  have n0' : n ≠ 0 := by omega
  refine run_rt rfl ?_
  show denSs b_round_by [some (.int b), some (.int n), none, none] h = _
  unfold b_round_by
  rw [den_nx (δ' := [some (.int b), some (.int n), some (.int (b % n : Nat)), some (.int (1 : Nat))]) (h' := h) (by simp [denS, denEs, denE, binD, n0', fm])]
  rw [den_nx (den_whl.trans e1)]
  refine den_rt ?_
  simp [denS, denE, e2]
theorem int_ok (i : Int) (h : Hd) : pureF intP [D.int i] h = .ok (.int i) h := rfl
theorem lround_loop (b n : Nat) (hn : 1 ≤ n) (hn2 : n < 1073741824) (hb : b < 1073741824) (h : Hd) : ∀ (f t k r : Nat), t < n → roundN f b n t k = some r →
    ∃ δ', whileF (denT (.cmp .ne (.var 3) (.bin .mod (.call "int" (pureF intP) [(.lit (.int 1))]) (.var 1)))) (denSs [.par [2, 3] [(.bin .add (.var 2) (.lit (.int 1))), (.bin .mod (.call "int" (pureF intP) [(.bin .mul (.var 3) (.var 0))]) (.var 1))]]) [some (.int b), some (.int n), some (.int k), some (.int t)] h
      = .fl (.nx δ') h ∧ δ'[2]? = some (some (.int r))
  | 0, t, k, r, ht, e => by cases e
  | f + 1, t, k, r, ht, e => by
    have n0' : n ≠ 0 := by omega
    have f1 : Int.fmod 1 (n : Int) = ((1 % n : Nat) : Int) := fm 1 n
    have hm : mulOk (t : Int) (b : Int) := .inr (.inl ⟨by omega, by omega⟩)
    have f2 : Int.fmod ((t : Int) * (b : Int)) (n : Int) = ((t * b % n : Nat) : Int) := by rw [← fm (t * b) n]; simp
    unfold roundN at e
    by_cases c : t = 1 % n
    · rw [if_pos c] at e
      cases e
      have c' : ((t : Nat) : Int) = ((1 % n : Nat) : Int) := by rw [c]
      refine ⟨_, while_false (h1 := h) (by simp only [denT, denE, denEs, binD]; simp [n0', f1, cmpD, eqD_int, int_ok]; exact c'), rfl⟩
    · rw [if_neg c] at e
      have c' : ¬ ((t : Nat) : Int) = ((1 % n : Nat) : Int) := by omega
      rw [while_true (δ' := [some (.int b), some (.int n), some (.int (k + 1 : Nat)), some (.int (t * b % n : Nat))]) (h' := h) (h1 := h)
        (by simp only [denT, denE, denEs, binD]; simp [n0', f1, cmpD, eqD_int, int_ok]; exact c') (by simp only [denSs, denS, denEs, denE, binD]; simp [n0', hm, f2, int_ok])]
      exact lround_loop b n hn hn2 hb h f (t * b % n) (k + 1) r (Nat.mod_lt _ hn) e
theorem f_law_round (b n r : Nat) (hn : 1 ≤ n) (hn2 : n < 1073741824) (hb : b < 1073741824) (h : Hd) (e : roundOf b n = some r) : F__law_round [.int b, .int n] h = .ok (.int r) h := by
  obtain ⟨δ', e1, e2⟩ := lround_loop b n hn hn2 hb h (n + 1) (b % n) 1 r (Nat.mod_lt _ hn) e
  have n0' : n ≠ 0 := by omega
  refine run_rt rfl ?_
  show denSs b__law_round [some (.int b), some (.int n), none, none] h = _
  unfold b__law_round
  rw [den_nx (δ' := [some (.int b), some (.int n), some (.int (1 : Nat)), some (.int (b % n : Nat))]) (h' := h) (by simp [denS, denEs, denE, binD, n0', fm, pureF, okI, intP])]
  rw [den_nx (den_whl.trans e1)]
  refine den_rt ?_
  simp [denS, denE, e2]
theorem common_loop (h : Hd) : ∀ (f a b : Nat), b < f → b < 1073741824 → ∃ δ', whileF (denT (.cmp .gt (.var 1) (.lit (.int 0)))) (denSs [.par [0, 1] [(.var 1), (.bin .mod (.call "int" (pureF intP) [(.var 0)]) (.call "int" (pureF intP) [(.var 1)]))]]) [some (.int a), some (.int b)] h
      = .fl (.nx δ') h ∧ δ'[0]? = some (some (.int (Nat.gcd a b : Nat)))
  | 0, a, b, h1, h2 => by omega
  | f + 1, a, b, h1, h2 => by
    by_cases c : b = 0
    · subst c
      exact ⟨_, while_false (h1 := h) (by simp [denT, denE, cmpD]), by simp⟩
    · have c' : (0 : Int) < (b : Int) := by omega
      rw [while_true (δ' := [some (.int b), some (.int (a % b : Nat))]) (h' := h) (h1 := h) (by simp [denT, denE, cmpD]; omega) (by simp [denSs, denS, denEs, denE, binD, pureF, okI, intP, c, fm])]
      have := Nat.mod_lt a (by omega : 0 < b)
      rw [Nat.gcd_comm a b, Nat.gcd_rec b a, Nat.gcd_comm (a % b) b]
      exact common_loop h f b (a % b) (by omega) (by omega)
theorem f_law_common (a b : Nat) (hb : b < 1073741824) (h : Hd) : F__law_common [.int a, .int b] h = .ok (.int (Nat.gcd a b : Nat)) h := by
  obtain ⟨δ', e1, e2⟩ := common_loop h (b + 1) a b (by omega) hb
  refine run_rt rfl ?_
  show denSs b__law_common [some (.int a), some (.int b)] h = _
  unfold b__law_common
  rw [den_nx (δ' := [some (.int a), some (.int b)]) (h' := h) (by simp [denS, denEs, denE, pureF, okI, absP])]
  rw [den_nx (den_whl.trans e1)]
  refine den_rt ?_
  simp [denS, denE, e2]
end K90
end

section
set_option Elab.async false
set_option linter.all false
set_option maxRecDepth 100000
namespace K90
open DL PySem
theorem strip_mul : ∀ (f l p o : Nat), 1 ≤ l → (strip f l p o).1 * p ^ ((strip f l p o).2 - o) = l
  | 0, l, p, o, h => by simp [strip]
  | f + 1, l, p, o, h => by
    unfold strip
    by_cases c : l % p = 0
    · rw [if_pos c]
      have e := Nat.div_add_mod l p
      have h2 : 1 ≤ l / p := by
        rcases Nat.eq_zero_or_pos (l / p) with z | z
        · rw [z, c] at e; omega
        · exact z
      have ih := strip_mul f (l / p) p (o + 1) h2
      obtain ⟨_, _, h3⟩ := strip_le f (l / p) p (o + 1) h2
      have h4 : (strip f (l / p) p (o + 1)).2 - o = ((strip f (l / p) p (o + 1)).2 - (o + 1)) + 1 := by omega
      rw [h4, Nat.pow_succ, ← Nat.mul_assoc, ih, Nat.mul_comm]
      omega
    · rw [if_neg c]; simp
theorem primesN_mem : ∀ (f l p : Nat) (acc : List (Nat × Nat)) (q : Nat × Nat), 1 ≤ l → 2 ≤ p → q ∈ primesN f l p acc → q ∈ acc ∨ (1 ≤ q.2 ∧ 2 ≤ q.1 ∧ q.1 ^ q.2 ≤ l)
  | 0, l, p, acc, q, h1, h2, h => .inl h
  | f + 1, l, p, acc, q, h1, h2, h => by
    unfold primesN at h
    by_cases c : 1 < l
    · rw [if_pos c] at h
      obtain ⟨s1, s2, s3⟩ := strip_le l l p 0 h1
      have sm := strip_mul l l p 0 h1
      rcases primesN_mem f _ _ _ q s1 (by split <;> omega) h with z | ⟨z1, z2, z3⟩
      · split at z
        · rename_i he
          rcases List.mem_append.mp z with z | z
          · exact .inl z
          · rw [List.mem_singleton.mp z]
            refine .inr ⟨he, h2, ?_⟩
            rw [Nat.sub_zero] at sm
            show p ^ (strip l l p 0).2 ≤ l
            have := Nat.mul_le_mul_right (p ^ (strip l l p 0).2) s1
            omega
        · exact .inl z
      · exact .inr ⟨z1, z2, Nat.le_trans z3 s2⟩
    · rw [if_neg c] at h; exact .inl h
theorem primesOf_mem {n : Nat} {q : Nat × Nat} (h : 1 ≤ n) (hq : q ∈ primesOf n) : 1 ≤ q.2 ∧ 2 ≤ q.1 ∧ q.1 ^ q.2 ≤ n := by
  rcases primesN_mem (n + 1) n 2 [] q h (Nat.le_refl _) hq with z | z
  · cases z
  · exact z
theorem q_bounds {q : Nat × Nat} {n : Nat} (h : 1 ≤ q.2 ∧ 2 ≤ q.1 ∧ q.1 ^ q.2 ≤ n) : q.1 ≤ n ∧ q.2 ≤ n ∧ q.1 ^ (q.2 - 1) * (q.1 - 1) ≤ n := by
  obtain ⟨h1, h2, h3⟩ := h
  have e : q.2 = (q.2 - 1) + 1 := by omega
  have h4 : q.1 ^ (q.2 - 1) * q.1 ≤ n := by rw [← Nat.pow_succ, Nat.succ_eq_add_one, ← e]; exact h3
  have h5 : 1 ≤ q.1 ^ (q.2 - 1) := Nat.pos_of_ne_zero (fun z => by have := Nat.pow_pos (n := q.2 - 1) (show 0 < q.1 by omega); omega)
  refine ⟨?_, ?_, Nat.le_trans (Nat.mul_le_mul_left _ (Nat.sub_le _ _)) h4⟩
  · have := Nat.mul_le_mul_right q.1 h5; omega
  · have := Nat.lt_two_pow_self (n := q.2)
    have h6 := Nat.pow_le_pow_left h2 q.2
    omega
end K90
end

section
set_option Elab.async false
set_option linter.all false
set_option maxRecDepth 100000
namespace K90
open DL PySem
theorem flat_pairs (g : Nat × Nat → D) (f : D → List D) (hf : ∀ q, f (pairD q) = [g q]) : ∀ ps : List (Nat × Nat), ((ps.map pairD).flatMap f) = ps.map g
  | [] => rfl
  | p :: ps => by rw [List.map_cons, List.flatMap_cons, hf, flat_pairs g f hf ps]; rfl
def fsts : D → Nat × Nat
  | .tup [.int a, .int b] => (a.toNat, b.toNat)
  | _ => (0, 0)
theorem fsts_pair (q : Nat × Nat) : fsts (pairD q) = q := by simp [fsts, pairD]
theorem primesOf_len (n : Nat) (h1 : 1 ≤ n) (h2 : n < 16777214) : (primesOf n).length < line := by
  obtain ⟨δ', e1, e2, e3⟩ := primes_loop none [] (n + 1) n 2 [] none h1 (Nat.le_refl _) (fun d a b => by omega) (by omega) h2 (by omega) (by simp) (by omega)
  exact e3
theorem f_freedom_of (n : Nat) (h : Hd) (h1 : 1 ≤ n) (h2 : n < 100000) : F_freedom_of [.int n] h = .ok (.int (freeOf n)) h := by
  refine run_rt rfl ?_
  show denSs b_freedom_of [some (.int n), none, none] h = _
  unfold b_freedom_of
  refine den_rt ?_
  have e0 : denE (.comp [("prime", 1), ("often", 2)] (.bin .mul (.call "power_of" F_power_of [(.var 1), (.bin .sub (.var 2) (.lit (.int 1)))]) (.bin .sub (.var 1) (.lit (.int 1)))) [1, 2] .seq [(.call "primes_by" G_primes_by [(.var 0)])] []) [some (.int n), none, none] h
      = .ok (.lst (((primesOf n).map pairD).flatMap fun d => [.int ((fsts d).1 ^ ((fsts d).2 - 1) * ((fsts d).1 - 1) : Nat)])) h := by
    refine den_comp (fun d => [.int ((fsts d).1 ^ ((fsts d).2 - 1) * ((fsts d).1 - 1) : Nat)]) (ss := [.tup ((primesOf n).map pairD)]) (by simp [denEs, denE, g_primes_by n h h1 (by omega)]) rfl (fun x hx => ?_) ?_
    · obtain ⟨q, hq, rfl⟩ := List.mem_map.mp hx
      have qm := primesOf_mem h1 hq
      obtain ⟨b1, b2, b3⟩ := q_bounds qm
      refine ⟨[some (.int n), some (.int q.1), some (.int q.2)], rfl, ?_⟩
      have c1 : (q.2 : Int) - 1 = ((q.2 - 1 : Nat) : Int) := by omega
      have c2 : (q.1 : Int) - 1 = ((q.1 - 1 : Nat) : Int) := by omega
      have hm : mulOk ((q.1 ^ (q.2 - 1) : Nat) : Int) ((q.1 - 1 : Nat) : Int) := .inr (.inl ⟨by omega, by omega⟩)
      simp only [denCs, denE, denEs, Out.calm, Out.bind_ok, if_true, fsts_pair]
      simp only [List.getElem?_cons_succ, List.getElem?_cons_zero, binD, optD_some, Out.bind_ok, c1, f_power_of q.1 (q.2 - 1) h (by omega) (by omega), c2, if_pos hm]
      simp
    · rw [flat_pairs (fun q => .int (q.1 ^ (q.2 - 1) * (q.1 - 1) : Nat)) _ (fun q => by rw [fsts_pair]), List.length_map]
      exact Nat.le_of_lt (primesOf_len n h1 (by omega))
  rw [flat_pairs (fun q => .int (q.1 ^ (q.2 - 1) * (q.1 - 1) : Nat)) _ (fun q => by rw [fsts_pair])] at e0
  have e := f_product_of ((primesOf n).map fun q => q.1 ^ (q.2 - 1) * (q.1 - 1)) h (fun m hm => by
    obtain ⟨q, hq, rfl⟩ := List.mem_map.mp hm
    have := (q_bounds (primesOf_mem h1 hq)).2.2
    omega)
  rw [List.map_map] at e
  show (denE (.call "product_of" F_product_of [_]) _ _).stm _ _ = _
  simp only [denE, denEs] at e0 ⊢
  rw [e0]
  simp only [Out.bind_ok]
  rw [show (List.map (fun q : Nat × Nat => D.int ((q.1 ^ (q.2 - 1) * (q.1 - 1) : Nat) : Int)) (primesOf n)) = List.map ((fun (m : Nat) => D.int m) ∘ fun q : Nat × Nat => q.1 ^ (q.2 - 1) * (q.1 - 1)) (primesOf n) from rfl, e]
  rfl
end K90
end

section
set_option Elab.async false
set_option linter.all false
set_option maxRecDepth 100000
namespace K90
open DL PySem
theorem f_is_whole (i : Int) (h : Hd) : F_is_whole [.int i] h = .ok (.bl true) h := by
  simp [F_is_whole, runB, b_is_whole, denSs, denS, denE, denEs, denAnd, pureF, okI, isiP, tyD, tyNs, subT, OutS.then]
theorem f_is_between (i a b : Int) (h : Hd) : F_is_between [.int i, .int a, .int b] h = .ok (.bl (decide (a ≤ i ∧ i ≤ b))) h := by
  simp [F_is_between, runB, b_is_between, denSs, denS, denE, denEs, denAnd, f_is_whole, cmpD, optD]
  by_cases h1 : a ≤ i <;> simp [h1]
theorem f_is_given (i : Int) (h : Hd) : F_is_given [.int i] h = .ok (.bl (decide (1 ≤ i ∧ i ≤ 9999))) h := by
  simp [F_is_given, runB, b_is_given, denSs, denS, denE, denEs, f_is_between]
theorem f_check_number (i : Int) (h : Hd) (hi : 1 ≤ i ∧ i ≤ 9999) : F_check_number [.int i] h = .ok .non h := by
  simp [F_check_number, runB, b_check_number, denSs, denS, denE, denEs, denT, f_is_given, hi, truD]
theorem f_are_apart (a b : Nat) (h : Hd) : F_are_apart_by [.int a, .int b] h = .ok (.bl (decide (Nat.gcd a b = 1))) h := by
  have e : denE (.cmp .eq (.call "gcd" (pureF gcdP) [(.var 0), (.var 1)]) (.lit (.int 1))) [some (.int a), some (.int b)] h = .ok (.bl (decide (Nat.gcd a b = 1))) h := by
    simp [denE, denEs, pureF, okI, gcdP, cmpD, eqD_int]
    omega
  exact run_rt rfl (den_rt (den_ret e))
theorem f_is_powered (i : Int) (h : Hd) (hi : 2 ≤ i ∧ i ≤ 9999) : F_is_powered [.int i] h = .ok (.bl true) h := by
  have a1 : 1 ≤ i := by omega
  simp [F_is_powered, runB, b_is_powered, denSs, denS, denE, denEs, denAnd, f_is_given, cmpD, optD, a1, hi]
theorem f_check_powered (i : Int) (h : Hd) (hi : 2 ≤ i ∧ i ≤ 9999) : F_check_powered [.int i] h = .ok .non h := by
  simp [F_check_powered, runB, b_check_powered, denSs, denS, denE, denEs, denT, f_is_powered, hi, truD]
theorem f_is_rooted (i : Int) (h : Hd) (hi : 2 ≤ i ∧ i ≤ 999) : F_is_rooted [.int i] h = .ok (.bl true) h := by
  simp [F_is_rooted, runB, b_is_rooted, denSs, denS, denE, denEs, denAnd, f_is_powered i h ⟨hi.1, by omega⟩, cmpD, optD, hi]
theorem f_check_rounded (b n : Nat) (h : Hd) (hb : 1 ≤ b ∧ b ≤ 9999) (hn : 2 ≤ n ∧ n ≤ 9999) (hg : Nat.gcd b n = 1) : F_check_rounded [.int b, .int n] h = .ok .non h := by
  simp [F_check_rounded, runB, b_check_rounded, denSs, denS, denE, denEs, denT, f_check_number (b : Int) h (by omega), f_check_powered (n : Int) h (by omega), f_are_apart, hg, truD]
theorem f_round_of (b n r : Nat) (h : Hd) (hb : 1 ≤ b ∧ b ≤ 9999) (hn : 2 ≤ n ∧ n ≤ 9999) (hg : Nat.gcd b n = 1) (e : roundOf b n = some r) : F_round_of [.int b, .int n] h = .ok (.int r) h := by
  simp [F_round_of, runB, b_round_of, denSs, denS, denE, denEs, f_check_rounded b n h hb hn hg, f_round_by b n r (by omega) (by omega) (by omega) h e]
end K90
end

section
set_option Elab.async false
set_option linter.all false
set_option maxRecDepth 100000
namespace K90
open DL PySem
def greatOf (q : Nat × Nat) : Nat := if q.1 = 2 then (if q.2 < 3 then 2 ^ (q.2 - 1) else 2 ^ (q.2 - 2)) else q.1 ^ (q.2 - 1) * (q.1 - 1)
theorem f_greatest_of (q : Nat × Nat) (n : Nat) (hn : n < 100000) (hq : 1 ≤ q.2 ∧ 2 ≤ q.1 ∧ q.1 ^ q.2 ≤ n) (h : Hd) : F_greatest_of [.int q.1, .int q.2] h = .ok (.int (greatOf q)) h := by
  obtain ⟨b1, b2, b3⟩ := q_bounds hq
  obtain ⟨h1, h2, h3⟩ := hq
  have c1 : (q.2 : Int) - 1 = ((q.2 - 1 : Nat) : Int) := by omega
  have c2 : (q.1 : Int) - 1 = ((q.1 - 1 : Nat) : Int) := by omega
  have p2 := fun k (hk : k ≤ 100000) => f_power_of 2 k h (by omega) hk
  refine run_rt rfl ?_
  show denSs b_greatest_of [some (.int q.1), some (.int q.2)] h = _
  unfold b_greatest_of
  by_cases c : q.1 = 2
  · have c' : (q.1 : Int) = 2 := by omega
    refine den_rt ((den_if1 (h1 := h) (by simp [denT, denE, cmpD, eqD_int, c'])).trans (den_rt (den_ret ?_)))
    by_cases d : q.2 < 3
    · have d' : (q.2 : Int) < 3 := by omega
      have e := p2 (q.2 - 1) (by omega)
      simp only [denE, denEs]
      simp [cmpD, d', truD, binD, c1, greatOf, c, d]
      exact e
    · have d' : ¬ (q.2 : Int) < 3 := by omega
      have c3 : (q.2 : Int) - 2 = ((q.2 - 2 : Nat) : Int) := by omega
      have e := p2 (q.2 - 2) (by omega)
      simp only [denE, denEs]
      simp [cmpD, d', truD, binD, c3, greatOf, c, d]
      exact e
  · have c' : ¬ (q.1 : Int) = 2 := by omega
    rw [den_nx (δ' := [some (.int q.1), some (.int q.2)]) (h' := h) ((den_if0 (h1 := h) (by simp [denT, denE, cmpD, eqD_int, c'])).trans den_nil)]
    refine den_rt (den_ret ?_)
    have hm : mulOk ((q.1 ^ (q.2 - 1) : Nat) : Int) ((q.1 - 1 : Nat) : Int) := .inr (.inl ⟨by omega, by omega⟩)
    simp only [denE, denEs]
    simp only [List.getElem?_cons_succ, List.getElem?_cons_zero, binD, optD_some, Out.bind_ok, c1, f_power_of q.1 (q.2 - 1) h (by omega) (by omega), c2, if_pos hm]
    simp [greatOf, c]
end K90
end

section
set_option Elab.async false
set_option linter.all false
set_option maxRecDepth 100000
namespace K90
open DL PySem
def lcmOf (ns : List Nat) (a : Nat) : Nat := ns.foldl (fun a n => a * n / Nat.gcd a n) a
def lcmOk : List Nat → Nat → Bool
  | [], _ => true
  | n :: ns, a => decide (1 ≤ n ∧ n < 1073741824 ∧ a < 1073741824) && lcmOk ns (a * n / Nat.gcd a n)
theorem whole_loop (x0 : Option D) (h : Hd) : ∀ (ns : List Nat) (a : Nat) (x2 : Option D) (ok : Hd → Prop), ok h → lcmOk ns a = true →
    ∃ δ', forF [2] ok (denSs [.asg [.nm 1] (.bin .div (.bin .mul (.var 1) (.var 2)) (.call "gcd" (pureF gcdP) [(.var 1), (.var 2)]))]) (ns.map fun (n : Nat) => D.int n) [x0, some (.int a), x2] h = .fl (.nx δ') h ∧ δ'[1]? = some (some (.int (lcmOf ns a)))
  | [], a, x2, ok, ho, hs => ⟨_, rfl, rfl⟩
  | n :: ns, a, x2, ok, ho, hs => by
    simp only [lcmOk, Bool.and_eq_true, decide_eq_true_eq] at hs
    obtain ⟨⟨h1, h2, h3⟩, h4⟩ := hs
    have hm : mulOk (a : Int) (n : Int) := .inr (.inl ⟨by omega, by omega⟩)
    have g1 : 0 < Nat.gcd a n := Nat.gcd_pos_of_pos_right _ (by omega)
    have g2 : Nat.gcd a n ≤ n := Nat.gcd_le_right _ (by omega)
    have hd : divOk (((a * n : Nat) : Int)) ((Nat.gcd a n : Nat) : Int) := ⟨by omega, .inl (by simp; omega)⟩
    rw [List.map_cons, for_cons (δ' := [x0, some (.int (a * n / Nat.gcd a n : Nat)), some (.int n)]) (h' := h) rfl (by
      simp only [denSs, denS, denE, denEs, binD]
      simp only [List.set, List.getElem?_cons_succ, List.getElem?_cons_zero, Out.bind_ok, if_pos hm, optD_some, pureF, okI, gcdP, Int.natAbs_natCast]
      rw [← Int.natCast_mul, if_pos hd, fd]
      rfl) ho]
    exact whole_loop x0 h ns _ _ ok ho h4
theorem f_whole_by (ns : List Nat) (h : Hd) (hs : lcmOk ns 1 = true) : F_whole_by [.lst (ns.map fun (n : Nat) => D.int n)] h = .ok (.int (lcmOf ns 1)) h := by
  obtain ⟨δ', e1, e2⟩ := whole_loop (some (.lst (ns.map fun (n : Nat) => D.int n))) h ns 1 none (sameSrc .seq [.lst (ns.map fun (n : Nat) => D.int n)] h) (fun _ _ => rfl) hs
  refine run_rt rfl ?_
  show denSs b_whole_by [some (.lst _), none, none] h = _
  unfold b_whole_by
  rw [den_nx (δ' := [some (.lst (ns.map fun (n : Nat) => D.int n)), some (.int (1 : Nat)), none]) (h' := h) (by simp [denS, denE, asgT, storeT])]
  rw [den_nx ((den_for (h1 := h) (ss := [.lst (ns.map fun (n : Nat) => D.int n)]) (by simp [denEs, denE]) rfl).trans e1)]
  refine den_rt ?_
  simp [denS, denE, e2]
def greatBy (n : Nat) : Nat := lcmOf ((primesOf n).map greatOf) 1
theorem f_greatest_by (n : Nat) (h : Hd) (h1 : 1 ≤ n) (h2 : n < 100000) (hs : lcmOk ((primesOf n).map greatOf) 1 = true) : F_greatest_by [.int n] h = .ok (.int (greatBy n)) h := by
  refine run_rt rfl ?_
  show denSs b_greatest_by [some (.int n), none, none] h = _
  unfold b_greatest_by
  refine den_rt ?_
  have e0 : denE (.comp [("prime", 1), ("often", 2)] (.call "greatest_of" F_greatest_of [(.var 1), (.var 2)]) [1, 2] .seq [(.call "primes_by" G_primes_by [(.var 0)])] []) [some (.int n), none, none] h
      = .ok (.lst (((primesOf n).map pairD).flatMap fun d => [.int (greatOf (fsts d))])) h := by
    refine den_comp (fun d => [.int (greatOf (fsts d))]) (ss := [.tup ((primesOf n).map pairD)]) (by simp [denEs, denE, g_primes_by n h h1 (by omega)]) rfl (fun x hx => ?_) ?_
    · obtain ⟨q, hq, rfl⟩ := List.mem_map.mp hx
      refine ⟨[some (.int n), some (.int q.1), some (.int q.2)], rfl, ?_⟩
      simp only [denCs, denE, denEs, Out.calm, Out.bind_ok, if_true, fsts_pair]
      simp only [List.getElem?_cons_succ, List.getElem?_cons_zero, Out.bind_ok, f_greatest_of q n h2 (primesOf_mem h1 hq) h]
    · rw [flat_pairs (fun q => .int (greatOf q)) _ (fun q => by rw [fsts_pair]), List.length_map]
      exact Nat.le_of_lt (primesOf_len n h1 (by omega))
  rw [flat_pairs (fun q => .int (greatOf q)) _ (fun q => by rw [fsts_pair])] at e0
  have e := f_whole_by ((primesOf n).map greatOf) h hs
  rw [List.map_map] at e
  refine den_ret ?_
  simp only [denE, denEs] at e0 ⊢
  rw [e0]
  exact e
end K90
end

section
set_option Elab.async false
set_option linter.all false
set_option maxRecDepth 100000
namespace K90
open DL PySem
theorem f_greatest_round (n : Nat) (h : Hd) (hn : 2 ≤ n ∧ n ≤ 9999) (hs : lcmOk ((primesOf n).map greatOf) 1 = true) : F_greatest_round [.int n] h = .ok (.int (greatBy n)) h := by
  simp [F_greatest_round, runB, b_greatest_round, denSs, denS, denE, denEs, f_check_powered (n : Int) h (by omega), f_greatest_by n h (by omega) (by omega) hs]
theorem in_rooted (n : Nat) (h : Hd) : cmpD .inn (.int n) (.tup [.int 2, .int 4]) h = some (decide (n = 2 ∨ n = 4)) := by
  have e : cmpD .inn (.int (n : Int)) (.tup [.int 2, .int 4]) h = inD h (.int n) (.tup [.int 2, .int 4]) := rfl
  rw [e]
  unfold inD
  simp [toP, toPs, SeqAt.shaped, PyData.canLay0, PyData.canLayAll0, PyData.depth, PyData.depthAll, PyData.eqv]
  have a : ∀ m : Nat, ((m : Int) == (n : Int)) = decide (n = m) := fun m => by
    by_cases z : n = m
    · subst z; simp
    · rw [decide_eq_false z]; exact beq_eq_false_iff_ne.mpr (by omega)
  rw [← a 2, ← a 4]
  rfl
theorem at0 {x : D} {xs : List D} (h : Hd) : idxD (.tup (x :: xs)) (.int 0) h = some x := by
  simp [idxD, itemsD, atD, ixD]
theorem eq_pair (a b : Nat) (h : Hd) : eqD h (.tup [.int a, .int b]) (.tup [.int 2, .int 1]) = some (((a, b) : Nat × Nat) == (2, 1)) := by
  rw [eqD_fine h rfl rfl]
  simp [pd, pds, PyData.eqv, PyData.eqvAll]
  have e : ∀ x m : Nat, ((x : Int) == (m : Int)) = (x == m) := fun x m => by
    by_cases z : x = m
    · subst z; simp
    · rw [beq_eq_false_iff_ne.mpr z]; exact beq_eq_false_iff_ne.mpr (by omega)
  exact congr (congrArg and (e a 2)) (e b 1)
theorem f_has_roots_by (n : Nat) (h : Hd) (h1 : 1 ≤ n) (h2 : n < 100000) : F_has_roots_by [.int n] h = .ok (.bl (hasRoots n)) h := by
  refine run_rt rfl ?_
  show denSs b_has_roots_by [some (.int n), none] h = _
  unfold b_has_roots_by
  by_cases c : n = 2 ∨ n = 4
  · have e : hasRoots n = true := by rcases c with z | z <;> subst z <;> rfl
    rw [e]
    refine den_rt ((den_if1 (h1 := h) ?_).trans (den_rt (den_ret ?_)))
    · simp only [denT, denE, List.getElem?_cons_zero, Out.bind_ok]
      rw [in_rooted, decide_eq_true c]
      rfl
    · rfl
  · rw [den_nx (δ' := [some (.int n), none]) (h' := h) ((den_if0 (h1 := h) (by
      simp only [denT, denE, List.getElem?_cons_zero, Out.bind_ok]
      rw [in_rooted, decide_eq_false c]
      rfl)).trans den_nil)]
    rw [den_nx (δ' := [some (.int n), some (.tup ((primesOf n).map pairD))]) (h' := h) (by simp [denS, denE, denEs, g_primes_by n h h1 (by omega), asgT, storeT])]
    have hl : denE (.call "len" (pureF lenP) [(.var 1)]) [some (.int n), some (.tup ((primesOf n).map pairD))] h = .ok (.int (primesOf n).length) h := by
      simp [denE, denEs, pureF, okI, lenP, itemsD]
    have e : hasRoots n = (match primesOf n with
      | [q] => decide (2 < q.1)
      | [q, _] => q == (2, 1)
      | _ => false) := by
      unfold hasRoots
      have a : (n == 2) = false := by rw [beq_eq_false_iff_ne]; omega
      have b : (n == 4) = false := by rw [beq_eq_false_iff_ne]; omega
      rw [a, b]
      rfl
    rw [e]
    generalize primesOf n = ps at hl
    by_cases c1 : ps.length = 1
    · match ps, c1 with
      | [q], _ =>
        refine den_rt ((den_if1 (h1 := h) ?_).trans (den_rt (den_ret ?_)))
        · simp only [denT]
          rw [hl]
          simp [denE, cmpD, eqD_int]
        · simp [denE, at0, pairD, cmpD]
          omega
    · have c1' : ¬ ((ps.length : Nat) : Int) = 1 := by omega
      rw [den_nx (δ' := [some (.int n), some (.tup (ps.map pairD))]) (h' := h) ((den_if0 (h1 := h) (by
        simp only [denT]
        rw [hl]
        simp [denE, cmpD, eqD_int]
        omega)).trans den_nil)]
      refine den_rt (den_ret ?_)
      have hl2 : denE (.cmp .eq (.call "len" (pureF lenP) [(.var 1)]) (.lit (.int 2))) [some (.int n), some (.tup (ps.map pairD))] h = .ok (.bl (decide (ps.length = 2))) h := by
        simp only [denE] at hl ⊢
        rw [hl]
        simp [cmpD, eqD_int]
        omega
      show denAnd _ _ _ = _
      simp only [denAnd]
      rw [hl2]
      by_cases c2 : ps.length = 2
      · match ps, c2 with
        | [q, r], _ =>
          simp [denE, denEs, at0, pairD, cmpD, eq_pair, line]
      · rw [decide_eq_false c2]
        match ps, c1, c2 with
        | [], _, _ => rfl
        | [_], z, _ => exact absurd rfl z
        | [_, _], _, z => exact absurd rfl z
        | _ :: _ :: _ :: _, _, _ => rfl
end K90
end

section
set_option Elab.async false
set_option linter.all false
set_option maxRecDepth 100000
namespace K90
open DL PySem
def countRoots (n : Nat) : Nat := if hasRoots n then freeOf (freeOf n) else 0
theorem f_count_roots_by (n : Nat) (h : Hd) (h1 : 1 ≤ n) (h2 : n < 100000) (h3 : 1 ≤ freeOf n ∧ freeOf n < 100000) : F_count_roots_by [.int n] h = .ok (.int (countRoots n)) h := by
  refine run_rt rfl ?_
  show denSs b_count_roots_by [some (.int n)] h = _
  unfold b_count_roots_by
  refine den_rt (den_ret ?_)
  simp only [denE, denEs, List.getElem?_cons_zero, Out.bind_ok, f_has_roots_by n h h1 h2, truD, f_freedom_of n h h1 h2, f_freedom_of (freeOf n) h h3.1 h3.2]
  unfold countRoots
  cases hasRoots n <;> rfl
theorem f_has_roots (n : Nat) (h : Hd) (hn : 2 ≤ n ∧ n ≤ 9999) : F_has_roots [.int n] h = .ok (.bl (hasRoots n)) h := by
  simp [F_has_roots, runB, b_has_roots, denSs, denS, denE, denEs, f_check_powered (n : Int) h (by omega), f_has_roots_by n h (by omega) (by omega)]
theorem f_count_roots (n : Nat) (h : Hd) (hn : 2 ≤ n ∧ n ≤ 9999) (h3 : 1 ≤ freeOf n ∧ freeOf n < 100000) : F_count_roots [.int n] h = .ok (.int (countRoots n)) h := by
  simp [F_count_roots, runB, b_count_roots, denSs, denS, denE, denEs, f_check_powered (n : Int) h (by omega), f_count_roots_by n h (by omega) (by omega) h3]
end K90
end

section
set_option Elab.async false
set_option linter.all false
set_option maxRecDepth 100000
namespace K90
open DL PySem
def freeL (n : Nat) : List Nat := (List.range n).flatMap fun i => if Nat.gcd (i + 1) n = 1 then [i + 1] else []
theorem flat_map {α : Type} (g : α → D) (f : D → List D) (k : α → List Nat) (hf : ∀ x, f (g x) = (k x).map fun (n : Nat) => D.int n) : ∀ xs : List α, (xs.map g).flatMap f = (xs.flatMap k).map fun (n : Nat) => D.int n
  | [] => rfl
  | x :: xs => by rw [List.map_cons, List.flatMap_cons, List.flatMap_cons, List.map_append, hf, flat_map g f k hf xs]
theorem flat_le {α β : Type} (k : α → List β) (h : ∀ x, (k x).length ≤ 1) : ∀ xs : List α, (xs.flatMap k).length ≤ xs.length
  | [] => Nat.le_refl _
  | x :: xs => by rw [List.flatMap_cons, List.length_append, List.length_cons]; have := h x; have := flat_le k h xs; omega
theorem f_law_free (n : Nat) (h : Hd) (hn : n < 100000) : F__law_free [.int n] h = .ok (.lst ((freeL n).map fun (m : Nat) => D.int m)) h := by
  refine run_rt rfl ?_
  show denSs b__law_free [some (.int n), none] h = _
  unfold b__law_free
  refine den_rt (den_ret ?_)
  have e1 := flat_map (fun (k : Nat) => D.int (1 + (k : Int))) (fun d => match d with | .int i => if Nat.gcd i.toNat n = 1 then [.int i] else [] | _ => []) (fun i => if Nat.gcd (i + 1) n = 1 then [i + 1] else []) (fun i => by
    have a : (1 + (i : Int)).toNat = i + 1 := by omega
    simp only [a]
    split <;> simp
    omega) (List.range n)
  have e := den_comp (own := [("own", 1)]) (e := .var 1) (tg := [1]) (ik := .rng2) (src := [(.lit (.int 1)), (.bin .add (.var 0) (.lit (.int 1)))]) (cs := [(.cmp .eq (.call "_law_common" F__law_common [(.var 1), (.var 0)]) (.lit (.int 1)))]) (δ := [some (.int n), none]) (h := h) (ss := [.int 1, .int (n + 1)]) (xs := rangeD 1 n)
    (fun d => match d with | .int i => if Nat.gcd i.toNat n = 1 then [.int i] else [] | _ => []) (by simp [denEs, denE, binD]) (by simp [srcD, small]; omega) (fun x hx => by
      obtain ⟨i, hi, rfl⟩ := List.mem_map.mp hx
      refine ⟨[some (.int n), some (.int (1 + (i : Int)))], rfl, ?_⟩
      have a : (1 + (i : Int)) = ((i + 1 : Nat) : Int) := by omega
      have q := f_law_common (i + 1) n (by omega) h
      dsimp only
      rw [a]
      simp only [denCs, denE, denEs, List.getElem?_cons_zero, List.getElem?_cons_succ, Out.bind_ok, q, cmpD, eqD_int]
      have b : decide (((Nat.gcd (i + 1) n : Nat) : Int) = 1) = decide (Nat.gcd (i + 1) n = 1) := by
        by_cases z : Nat.gcd (i + 1) n = 1
        · rw [decide_eq_true z]; exact decide_eq_true (by omega)
        · rw [decide_eq_false z]; exact decide_eq_false (by omega)
      rw [b]
      by_cases z : Nat.gcd (i + 1) n = 1
      · simp [z, truD, Out.calm]
      · simp [z, truD, Out.calm]) (by
      show (((List.range n).map fun (k : Nat) => D.int (1 + (k : Int))).flatMap _).length ≤ line
      rw [e1, List.length_map]
      have := flat_le (fun i => if Nat.gcd (i + 1) n = 1 then [i + 1] else []) (fun i => by split <;> simp) (List.range n)
      rw [List.length_range] at this
      unfold line; omega)
  rw [e]
  show Out.ok (D.lst (((List.range n).map fun (k : Nat) => D.int (1 + (k : Int))).flatMap _)) h = _
  rw [e1]
  rfl
end K90
end

section
set_option Elab.async false
set_option linter.all false
set_option maxRecDepth 100000
namespace K90
open DL PySem
theorem first_loop (n free : Nat) (hn : 1 ≤ n) (hn2 : n < 100000) (h : Hd) (x1 x4 x5 : Option D) : ∀ (f b r : Nat), b + f < 1000000 → firstN f n free b = some r →
    whileF (denT (.or [(.not (.call "are_apart_by" F_are_apart_by [(.var 3), (.var 0)])), (.cmp .ne (.call "round_by" F_round_by [(.var 3), (.var 0)]) (.var 2))])) (denSs [.asg [.nm 3] (.bin .add (.var 3) (.lit (.int 1)))]) [some (.int n), x1, some (.int free), some (.int b), x4, x5] h
      = .fl (.nx [some (.int n), x1, some (.int free), some (.int r), x4, x5]) h
  | 0, b, r, hb, e => by cases e
  | f + 1, b, r, hb, e => by
    unfold firstN at e
    have go : denSs [.asg [.nm 3] (.bin .add (.var 3) (.lit (.int 1)))] [some (.int n), x1, some (.int free), some (.int b), x4, x5] h = .fl (.nx [some (.int n), x1, some (.int free), some (.int (b + 1 : Nat)), x4, x5]) h := by
      simp [denSs, denS, denE, binD, asgT, storeT]
    have ap : denE (.call "are_apart_by" F_are_apart_by [(.var 3), (.var 0)]) [some (.int n), x1, some (.int free), some (.int b), x4, x5] h = .ok (.bl (decide (Nat.gcd b n = 1))) h := by
      simp only [denE, denEs, List.getElem?_cons_zero, List.getElem?_cons_succ, Out.bind_ok, f_are_apart]
    by_cases c : Nat.gcd b n = 1
    · rw [if_pos c] at e
      cases hr : roundOf b n with
      | none => rw [hr] at e; cases e
      | some q =>
        rw [hr] at e
        have e : (if q = free then some b else firstN f n free (b + 1)) = some r := e
        have rd : denE (.call "round_by" F_round_by [(.var 3), (.var 0)]) [some (.int n), x1, some (.int free), some (.int b), x4, x5] h = .ok (.int q) h := by
          simp only [denE, denEs, List.getElem?_cons_zero, List.getElem?_cons_succ, Out.bind_ok, f_round_by b n q hn (by omega) (by omega) h hr]
        have tst : denT (.or [(.not (.call "are_apart_by" F_are_apart_by [(.var 3), (.var 0)])), (.cmp .ne (.call "round_by" F_round_by [(.var 3), (.var 0)]) (.var 2))]) [some (.int n), x1, some (.int free), some (.int b), x4, x5] h = .ok (decide (q ≠ free)) h := by
          simp only [denT, denTO]
          rw [ap]
          simp only [c, decide_true, Out.bind_ok, truD, optD_some, Bool.not_true, Bool.false_eq_true, if_false]
          rw [rd]
          simp [denE, cmpD, eqD_int]
          by_cases z : q = free
          · simp [z]
          · have : ¬ ((q : Int) = (free : Int)) := by omega
            simp [z, this]
        by_cases z : q = free
        · rw [if_pos z] at e
          cases e
          rw [while_false (h1 := h) (by rw [tst]; simp [z])]
        · rw [if_neg z] at e
          rw [while_true (h1 := h) (by rw [tst]; simp [z]) go]
          exact first_loop n free hn hn2 h x1 x4 x5 f (b + 1) r (by omega) e
    · rw [if_neg c] at e
      rw [while_true (h1 := h) (by
        simp only [denT, denTO]
        rw [ap]
        simp [c, truD]) go]
      exact first_loop n free hn hn2 h x1 x4 x5 f (b + 1) r (by omega) e
end K90
end

section
set_option Elab.async false
set_option linter.all false
set_option maxRecDepth 100000
namespace K90
open DL PySem
def rootsN (n free first : Nat) : Nat → List Nat := fun i => (List.range i).flatMap fun j => if Nat.gcd (j + 1) free = 1 then [first ^ (j + 1) % n] else []
theorem rootsN_succ (n free first i : Nat) : rootsN n free first (i + 1) = rootsN n free first i ++ (if Nat.gcd (i + 1) free = 1 then [first ^ (i + 1) % n] else []) := by
  unfold rootsN
  rw [List.range_succ, List.flatMap_append]
  simp
theorem rootsN_len (n free first i : Nat) : (rootsN n free first i).length ≤ i := by
  have := flat_le (fun j => if Nat.gcd (j + 1) free = 1 then [first ^ (j + 1) % n] else []) (fun j => by split <;> simp) (List.range i)
  rw [List.length_range] at this
  exact this
noncomputable abbrev rbB : List S := [.ife (.call "are_apart_by" F_are_apart_by [(.var 1), (.var 2)]) [.expr (.mth "append" isLst appF (.var 5) [(.var 4)])] [],
    .asg [.nm 4] (.bin .mod (.bin .mul (.var 4) (.var 3)) (.var 0))]
theorem roots_turn (n free first i : Nat) (hn : 1 ≤ n) (hn2 : n < 100000) (hf : first < 1073741824) (hi : i < 100000) (x1 : Option D) (h0 : Hd) :
    denSs rbB [some (.int n), some (.int (i + 1 : Nat)), some (.int free), some (.int first), some (.int (first ^ (i + 1) % n : Nat)), some (.ref h0.length)] (h0 ++ [.lst ((rootsN n free first i).map fun (m : Nat) => D.int m)])
      = .fl (.nx [some (.int n), some (.int (i + 1 : Nat)), some (.int free), some (.int first), some (.int (first ^ (i + 2) % n : Nat)), some (.ref h0.length)]) (h0 ++ [.lst ((rootsN n free first (i + 1)).map fun (m : Nat) => D.int m)]) := by
  have ln := rootsN_len n free first i
  have ap : denT (.call "are_apart_by" F_are_apart_by [(.var 1), (.var 2)]) [some (.int n), some (.int (i + 1 : Nat)), some (.int free), some (.int first), some (.int (first ^ (i + 1) % n : Nat)), some (.ref h0.length)] (h0 ++ [.lst ((rootsN n free first i).map fun (m : Nat) => D.int m)])
      = .ok (decide (Nat.gcd (i + 1) free = 1)) (h0 ++ [.lst ((rootsN n free first i).map fun (m : Nat) => D.int m)]) := by
    simp only [denT, denE, denEs, List.getElem?_cons_zero, List.getElem?_cons_succ, Out.bind_ok, f_are_apart]
    rfl
  have step : denS (.ife (.call "are_apart_by" F_are_apart_by [(.var 1), (.var 2)]) [.expr (.mth "append" isLst appF (.var 5) [(.var 4)])] []) [some (.int n), some (.int (i + 1 : Nat)), some (.int free), some (.int first), some (.int (first ^ (i + 1) % n : Nat)), some (.ref h0.length)] (h0 ++ [.lst ((rootsN n free first i).map fun (m : Nat) => D.int m)])
      = .fl (.nx [some (.int n), some (.int (i + 1 : Nat)), some (.int free), some (.int first), some (.int (first ^ (i + 1) % n : Nat)), some (.ref h0.length)]) (h0 ++ [.lst ((rootsN n free first (i + 1)).map fun (m : Nat) => D.int m)]) := by
    rw [rootsN_succ]
    by_cases c : Nat.gcd (i + 1) free = 1
    · rw [den_if1 (ap.trans (by rw [decide_eq_true c])), if_pos c]
      have l2 : (rootsN n free first i).length < 16777216 := by omega
      simp [denSs, denS, denE, denEs, isLst, appF, line, l2]
    · rw [den_if0 (ap.trans (by rw [decide_eq_false c])), if_neg c]
      simp [den_nil]
  rw [den_nx step]
  have hm : mulOk ((first ^ (i + 1) % n : Nat) : Int) (first : Int) := by
    have := Nat.mod_lt (first ^ (i + 1)) (show 0 < n by omega)
    exact .inl ⟨by omega, by omega⟩
  have n0 : (n : Int) ≠ 0 := by omega
  have f2 : Int.fmod (((first ^ (i + 1) % n : Nat) : Int) * (first : Int)) (n : Int) = ((first ^ (i + 2) % n : Nat) : Int) := by
    rw [← Int.natCast_mul, fm]
    congr 1
    rw [Nat.mod_mul_mod, ← Nat.pow_succ]
  simp only [denSs, denS, denE, binD, List.getElem?_cons_zero, List.getElem?_cons_succ, Out.bind_ok, if_pos hm, optD_some, if_pos n0, f2]
  rfl
theorem roots_for (n free first : Nat) (hn : 1 ≤ n) (hn2 : n < 100000) (hf : first < 1073741824) (h0 : Hd) (ok : Hd → Prop) (hok : ∀ h, ok h) : ∀ (m i : Nat) (x1 : Option D), i + m < 100000 →
    ∃ δ', forF [1] ok (denSs rbB) ((List.range' i m).map fun (k : Nat) => D.int (1 + (k : Int))) [some (.int n), x1, some (.int free), some (.int first), some (.int (first ^ (i + 1) % n : Nat)), some (.ref h0.length)] (h0 ++ [.lst ((rootsN n free first i).map fun (m : Nat) => D.int m)])
      = .fl (.nx δ') (h0 ++ [.lst ((rootsN n free first (i + m)).map fun (m : Nat) => D.int m)]) ∧ δ'[5]? = some (some (.ref h0.length))
  | 0, i, x1, hi => ⟨_, rfl, rfl⟩
  | m + 1, i, x1, hi => by
    have a : (1 + (i : Int)) = ((i + 1 : Nat) : Int) := by omega
    rw [List.range'_succ, List.map_cons, a, for_cons (δ1 := [some (.int n), some (.int (i + 1 : Nat)), some (.int free), some (.int first), some (.int (first ^ (i + 1) % n : Nat)), some (.ref h0.length)]) rfl (roots_turn n free first i hn hn2 hf (by omega) x1 h0) (hok _)]
    have := roots_for n free first hn hn2 hf h0 ok hok m (i + 1) (some (.int (i + 1 : Nat))) (by omega)
    rw [show i + (m + 1) = i + 1 + m by omega]
    exact this
end K90
end

section
set_option Elab.async false
set_option linter.all false
set_option maxRecDepth 100000
namespace K90
open DL PySem
theorem intsD_nat : ∀ ns : List Nat, intsD (ns.map fun (n : Nat) => D.int n) = some (ns.map Int.ofNat)
  | [] => rfl
  | n :: ns => by
    rw [List.map_cons]
    show (intsD (ns.map fun (n : Nat) => D.int n)).map ((n : Int) :: ·) = _
    rw [intsD_nat ns]
    rfl
theorem firstN_lt : ∀ (f n free b r : Nat), firstN f n free b = some r → r < b + f
  | 0, n, free, b, r, e => by cases e
  | f + 1, n, free, b, r, e => by
    unfold firstN at e
    split at e
    · split at e
      · split at e
        · cases e; omega
        · have := firstN_lt f n free (b + 1) r e; omega
      · cases e
    · have := firstN_lt f n free (b + 1) r e; omega
theorem f_roots_by (n : Nat) (h : Hd) (h1 : 2 ≤ n) (h2 : n < 10000) (rs : List Int) (e : rootsOf n = some rs) (hfree : freeOf n < 10000) : ∃ g, F_roots_by [.int n] h = .ok (.tup (rs.map .int)) (h ++ g) := by
  have hr : denT (.not (.call "has_roots_by" F_has_roots_by [(.var 0)])) [some (.int n), none, none, none, none, none] h = .ok (!hasRoots n) h := by
    simp only [denT, denE, denEs, List.getElem?_cons_zero, Out.bind_ok, f_has_roots_by n h (by omega) (by omega)]
    rfl
  unfold rootsOf at e
  by_cases c : hasRoots n = true
  · rw [if_pos c] at e
    cases ef : firstN n n (freeOf n) 1 with
    | none => rw [ef] at e; cases e
    | some first =>
      rw [ef] at e
      cases e
      have fl := firstN_lt _ _ _ _ _ ef
      refine ⟨[.lst ((rootsN n (freeOf n) first (freeOf n)).map fun (m : Nat) => D.int m)], run_rt rfl ?_⟩
      show denSs b_roots_by [some (.int n), none, none, none, none, none] h = _
      unfold b_roots_by
      rw [den_nx (δ' := [some (.int n), none, none, none, none, none]) (h' := h) ((den_if0 (h1 := h) (hr.trans (by rw [c]; rfl))).trans den_nil)]
      rw [den_nx (δ' := [some (.int n), none, some (.int (freeOf n)), some (.int (1 : Nat)), none, none]) (h' := h) (by simp [denS, denEs, denE, f_freedom_of n h (by omega) (by omega)])]
      rw [den_nx (den_whl.trans (first_loop n (freeOf n) (by omega) (by omega) h none none none n 1 first (by omega) ef))]
      have n0 : (n : Int) ≠ 0 := by omega
      have n0' : n ≠ 0 := by omega
      rw [den_nx (δ' := [some (.int n), none, some (.int (freeOf n)), some (.int first), some (.int (first ^ (0 + 1) % n : Nat)), some (.ref h.length)]) (h' := h ++ [.lst ((rootsN n (freeOf n) first 0).map fun (m : Nat) => D.int m)]) (by
        simp [denS, denEs, denE, binD, n0', fm, line, rootsN])]
      obtain ⟨δ', e1, e2⟩ := roots_for n (freeOf n) first (by omega) (by omega) (by omega) h (sameSrc .rng2 [.int 1, .int (freeOf n + 1)] (h ++ [.lst ((rootsN n (freeOf n) first 0).map fun (m : Nat) => D.int m)])) (fun _ => trivial) (freeOf n) 0 none (by omega)
      rw [show 0 + freeOf n = freeOf n from Nat.zero_add _] at e1
      rw [den_nx ((den_for (h1 := h ++ [.lst ((rootsN n (freeOf n) first 0).map fun (m : Nat) => D.int m)]) (ss := [.int 1, .int (freeOf n + 1)]) (xs := (List.range' 0 (freeOf n)).map fun (k : Nat) => D.int (1 + (k : Int))) (by simp [denEs, denE, binD]) (by
        rw [← List.range_eq_range']
        refine (if_pos ⟨⟨by omega, by omega⟩, ⟨by omega, by omega⟩⟩).trans ?_
        have : ((freeOf n : Int) + 1 - 1).toNat = freeOf n := by omega
        rw [this]
        rfl)).trans e1)]
      refine den_rt (den_ret ?_)
      have es : intsL (h ++ [.lst ((rootsN n (freeOf n) first (freeOf n)).map fun (m : Nat) => D.int m)]) (.ref h.length) = some ((rootsN n (freeOf n) first (freeOf n)).map Int.ofNat) := by
        unfold intsL
        simp only [seqL, List.getElem?_concat_length]
        exact intsD_nat _
      have e3 : denE (.var 5) δ' (h ++ [.lst ((rootsN n (freeOf n) first (freeOf n)).map fun (m : Nat) => D.int m)]) = .ok (.ref h.length) (h ++ [.lst ((rootsN n (freeOf n) first (freeOf n)).map fun (m : Nat) => D.int m)]) := by simp only [denE, e2]
      simp only [denE, denEs] at e3 ⊢
      rw [e3]
      simp only [Out.bind_ok, pureF, okI, sortP, es, Option.map, tupP, seqL]
      rfl
  · rw [if_neg c] at e
    cases e
    refine ⟨[], run_rt rfl ?_⟩
    show denSs b_roots_by [some (.int n), none, none, none, none, none] h = _
    unfold b_roots_by
    refine den_rt ((den_if1 (hr.trans (by rw [Bool.not_eq_true] at c; rw [c]; rfl))).trans (den_rt (den_ret ?_)))
    simp [denE, denEs, line]
end K90
end

section
set_option Elab.async false
set_option linter.all false
set_option maxRecDepth 100000
namespace K90
open DL PySem
theorem rootN_lo : ∀ (f n t : Nat), t * t ≤ n → rootN f n t * rootN f n t ≤ n
  | 0, n, t, h => h
  | f + 1, n, t, h => by
    unfold rootN
    split
    · rename_i c; exact rootN_lo f n (t + 1) c
    · exact h
theorem sq_mono {a b : Nat} (h : a ≤ b) : a * a ≤ b * b := Nat.mul_self_le_mul_self h
theorem sq_lt {a b : Nat} (h : a < b) : a * a < b * b := Nat.mul_self_lt_mul_self h
theorem le_sq (a : Nat) : a ≤ a * a := by
  rcases Nat.eq_zero_or_pos a with z | z
  · subst z; exact Nat.le_refl _
  · exact Nat.le_mul_of_pos_left a z
theorem rootN_hi : ∀ (f n t : Nat), n < f + t → n < (rootN f n t + 1) * (rootN f n t + 1)
  | 0, n, t, h => by have := le_sq (t + 1); unfold rootN; omega
  | f + 1, n, t, h => by
    unfold rootN
    split
    · exact rootN_hi f n (t + 1) (by omega)
    · rename_i c; omega
theorem root_lo (n : Nat) : rootOf n * rootOf n ≤ n := rootN_lo _ _ _ (Nat.zero_le _)
theorem root_hi (n : Nat) : n < (rootOf n + 1) * (rootOf n + 1) := rootN_hi _ _ _ (by omega)
theorem root_eq {n t : Nat} (h1 : t * t ≤ n) (h2 : n < (t + 1) * (t + 1)) : rootOf n = t := by
  have a := root_lo n
  have b := root_hi n
  rcases Nat.lt_trichotomy (rootOf n) t with z | z | z
  · have := sq_mono (show rootOf n + 1 ≤ t from z); omega
  · exact z
  · have := sq_mono (show t + 1 ≤ rootOf n from z); omega
theorem le_root {n t : Nat} : t ≤ rootOf n ↔ t * t ≤ n := by
  have a := root_lo n
  have b := root_hi n
  constructor
  · intro h; have := sq_mono h; omega
  · intro h
    rcases Nat.lt_or_ge (rootOf n) t with z | z
    · have := sq_mono (show rootOf n + 1 ≤ t from z); omega
    · exact z
theorem le_half {n t : Nat} : t ≤ rootOf (n / 2) ↔ 2 * t * t ≤ n := by
  rw [le_root, Nat.mul_assoc]; omega
def sqAt (n a : Nat) : List (Nat × Nat) := if a * a + rootOf (n - a * a) * rootOf (n - a * a) = n then [(a, rootOf (n - a * a))] else []
def sqN (n i : Nat) : List (Nat × Nat) := (List.range i).flatMap (sqAt n)
theorem sqN_succ (n i : Nat) : sqN n (i + 1) = sqN n i ++ sqAt n i := by simp [sqN, List.range_succ, List.flatMap_append]
theorem squaresOf_eq (n : Nat) : squaresOf n = sqN n (rootOf (n / 2) + 1) := rfl
theorem sqAt_len (n a : Nat) : (sqAt n a).length ≤ 1 := by unfold sqAt; split <;> simp
theorem sqN_len (n : Nat) : ∀ i, (sqN n i).length ≤ i
  | 0 => by simp [sqN]
  | i + 1 => by rw [sqN_succ, List.length_append]; have := sqN_len n i; have := sqAt_len n i; omega
theorem sqN_mem {n i : Nat} {q : Nat × Nat} (h : q ∈ sqN n i) : q.1 < i ∧ q.1 * q.1 + q.2 * q.2 = n := by
  obtain ⟨a, ha, hq⟩ := List.mem_flatMap.mp h
  unfold sqAt at hq
  split at hq
  · rename_i c
    rw [List.mem_singleton.mp hq]
    exact ⟨List.mem_range.mp ha, c⟩
  · cases hq
noncomputable abbrev sbB : List S := [.asg [.nm 3] (.call "root_of" F_root_of [(.bin .sub (.var 0) (.bin .mul (.var 2) (.var 2)))]),
    .ife (.cmp .eq (.bin .add (.bin .mul (.var 2) (.var 2)) (.bin .mul (.var 3) (.var 3))) (.var 0)) [.expr (.mth "append" isLst appF (.var 1) [(.tup [(.var 2), (.var 3)])])] []]
theorem den_append {i : Nat} {ds : List D} {d : D} {δ : Sl} {h : Hd} {e : E} {v : Nat} (hv : δ[v]? = some (some (.ref i))) (hh : h[i]? = some (.lst ds)) (he : denE e δ h = .ok d h) (hl : ds.length < line) :
    denS (.expr (.mth "append" isLst appF (.var v) [e])) δ h = .fl (.nx δ) (h.set i (.lst (ds ++ [d]))) := by
  refine den_ex (d := .non) ?_
  have a : isLst h (.ref i) = true := by simp [isLst, hh]
  simp only [denE, hv, Out.bind_ok, denEs, he, a, if_true]
  simp only [appF, hh, if_pos hl]
theorem sq_turn (n a : Nat) (hn : n < 1000000) (ha : 2 * a * a ≤ n) (x3 : Option D) (h0 : Hd) :
    denSs sbB [some (.int n), some (.ref h0.length), some (.int a), x3] (h0 ++ [.lst ((sqN n a).map pairD)])
      = .fl (.nx [some (.int n), some (.ref h0.length), some (.int a), some (.int (rootOf (n - a * a)))]) (h0 ++ [.lst ((sqN n (a + 1)).map pairD)]) := by
  have h2 : a * a ≤ n := by rw [Nat.mul_assoc] at ha; omega
  have ha' : a < 1000000 := by have := le_sq a; omega
  have hm : mulOk (a : Int) (a : Int) := mul_sm ⟨by omega, by omega⟩
  have hr := root_lo (n - a * a)
  have hr2 : rootOf (n - a * a) < 1000000 := by have := le_sq (rootOf (n - a * a)); omega
  have hm2 : mulOk (rootOf (n - a * a) : Int) (rootOf (n - a * a) : Int) := mul_sm ⟨by omega, by omega⟩
  rw [den_nx (den_as (den_call1 (den_bin rfl (den_bin rfl rfl (bN_mul hm)) (bN_sub h2)) (f_root_of (n - a * a) (by omega) _)))]
  have tst : denT (.cmp .eq (.bin .add (.bin .mul (.var 2) (.var 2)) (.bin .mul (.var 3) (.var 3))) (.var 0)) [some (.int n), some (.ref h0.length), some (.int a), some (.int (rootOf (n - a * a)))] (h0 ++ [.lst ((sqN n a).map pairD)]) = .ok (decide (a * a + rootOf (n - a * a) * rootOf (n - a * a) = n)) (h0 ++ [.lst ((sqN n a).map pairD)]) :=
    denT_cmp (den_bin (den_bin rfl rfl (bN_mul hm)) (den_bin rfl rfl (bN_mul hm2)) bN_add) rfl cN_eq
  have hl := sqN_len n a
  rw [sqN_succ]
  by_cases c : a * a + rootOf (n - a * a) * rootOf (n - a * a) = n
  · refine (den_nx ((den_if1 (tst.trans (by rw [decide_eq_true c]))).trans (den_nx (den_append (i := h0.length) (ds := (sqN n a).map pairD) (d := pairD (a, rootOf (n - a * a))) rfl (by simp) (by simp [denE, denEs, line, pairD]) (by rw [List.length_map]; unfold line; omega))))).trans ?_
    unfold sqAt
    rw [if_pos c]
    simp [den_nil]
  · refine (den_nx ((den_if0 (tst.trans (by rw [decide_eq_false c]))).trans den_nil)).trans ?_
    unfold sqAt
    rw [if_neg c]
    simp [den_nil]
theorem sq_for (n : Nat) (hn : n < 1000000) (h0 : Hd) (ok : Hd → Prop) (hok : ∀ h, ok h) : ∀ (m i : Nat) (x2 x3 : Option D), i + m = rootOf (n / 2) + 1 →
    ∃ δ', forF [2] ok (denSs sbB) ((List.range' i m).map fun (k : Nat) => D.int (0 + (k : Int))) [some (.int n), some (.ref h0.length), x2, x3] (h0 ++ [.lst ((sqN n i).map pairD)])
      = .fl (.nx δ') (h0 ++ [.lst ((sqN n (i + m)).map pairD)]) ∧ δ'[1]? = some (some (.ref h0.length))
  | 0, i, x2, x3, hi => ⟨_, rfl, rfl⟩
  | m + 1, i, x2, x3, hi => by
    have a : (0 + (i : Int)) = ((i : Nat) : Int) := by omega
    have hh : 2 * i * i ≤ n := le_half.mp (by omega)
    obtain ⟨δ', e1, e2⟩ := sq_for n hn h0 ok hok m (i + 1) (some (.int i)) (some (.int (rootOf (n - i * i)))) (by omega)
    refine ⟨δ', ?_, e2⟩
    rw [List.range'_succ, List.map_cons, a]
    refine (for_cons (δ1 := [some (.int n), some (.ref h0.length), some (.int i), x3]) rfl (sq_turn n i hn hh x3 h0) (hok _)).trans ?_
    rw [show i + (m + 1) = i + 1 + m by omega]
    exact e1
theorem rng_eq (n : Nat) : rangeD 0 n = (List.range' 0 n).map fun (k : Nat) => D.int (0 + (k : Int)) := by rw [← List.range_eq_range']; rfl
theorem f_squares_by (n : Nat) (h : Hd) (hn : n < 1000000) : F_squares_by [.int n] h = .ok (.tup ((squaresOf n).map pairD)) (h ++ [.lst ((squaresOf n).map pairD)]) := by
  refine run_rt rfl ?_
  show denSs b_squares_by [some (.int n), none, none, none] h = _
  unfold b_squares_by
  have hr : rootOf (n / 2) < 1000000 := by have := root_lo (n / 2); have := le_sq (rootOf (n / 2)); omega
  have dv : divOk (n : Int) ((2 : Nat) : Int) := ⟨by decide, .inl (by decide)⟩
  rw [den_nx (δ' := [some (.int n), some (.ref h.length), none, none]) (h' := h ++ [.lst ((sqN n 0).map pairD)]) (by simp [denS, denE, denEs, line, asgT, storeT, sqN])]
  obtain ⟨δ', e1, e2⟩ := sq_for n hn h (sameSrc .rng1 [.int (rootOf (n / 2) + 1 : Nat)] (h ++ [.lst ((sqN n 0).map pairD)])) (fun _ => trivial) (rootOf (n / 2) + 1) 0 none none (by omega)
  rw [show 0 + (rootOf (n / 2) + 1) = rootOf (n / 2) + 1 from Nat.zero_add _, ← rng_eq] at e1
  have src : denEs [(.bin .add (.call "root_of" F_root_of [(.bin .div (.var 0) (.lit (.int 2)))]) (.lit (.int 1)))] [some (.int n), some (.ref h.length), none, none] (h ++ [.lst ((sqN n 0).map pairD)]) = .ok [.int (rootOf (n / 2) + 1 : Nat)] (h ++ [.lst ((sqN n 0).map pairD)]) := by
    rw [denEs, den_bin (den_call1 (den_bin rfl rfl (bN_div dv)) (f_root_of (n / 2) (by omega) _)) rfl (bN_add (j := 1))]
    rfl
  rw [den_nx ((den_for src (by
    refine (if_pos ⟨by omega, by omega⟩).trans ?_
    rw [Int.toNat_natCast])).trans e1)]
  refine den_rt (den_ret ?_)
  rw [squaresOf_eq]
  simp [denE, denEs, e2, pureF, okI, tupP, seqL]
theorem t_squares_by : ∀ ds h, clH h.length h → cls h.length ds → Trunc h.length (G_squares_by ds h) (F_squares_by ds h) :=
  natF_trunc (fun n h q => ⟨_, f_squares_by n h (of_decide_eq_true q).2⟩) fun n m => cls_pairs m _
theorem g_squares_by (n : Nat) (h : Hd) (h1 : 1 ≤ n) (h2 : n < 1000000) : G_squares_by [.int n] h = .ok (.tup ((squaresOf n).map pairD)) h := natF_ok h (decide_eq_true ⟨h1, h2⟩)
theorem t_roots_by : ∀ ds h, clH h.length h → cls h.length ds → Trunc h.length (G_roots_by ds h) (F_roots_by ds h) :=
  natF_trunc (fun n h q => by
    simp only [Bool.and_eq_true, decide_eq_true_eq] at q
    obtain ⟨⟨q1, q2, q4⟩, q3⟩ := q
    cases e : rootsOf n with
    | none => rw [e] at q3; cases q3
    | some rs =>
      obtain ⟨g, e2⟩ := f_roots_by n h q1 q2 rs e q4
      exact ⟨g, e2⟩) fun n m => cls_ints m _
end K90
end

section

end

section
set_option Elab.async false
set_option linter.all false
set_option maxRecDepth 100000
namespace K90
open DL PySem
theorem up_loop (n s : Nat) (hn : n < 1000000) (hs : 2 * s * s ≤ n) (x1 : Option D) (h : Hd) : ∀ (f o : Nat), s ≤ o → (o = s ∨ s * s + (o - 1) * (o - 1) < n) → n < o + f →
    ∃ o', whileF (denT (.cmp .lt (.bin .add (.bin .mul (.var 2) (.var 2)) (.bin .mul (.var 3) (.var 3))) (.var 0))) (denSs [.asg [.nm 3] (.bin .add (.var 3) (.lit (.int 1)))]) [some (.int n), x1, some (.int s), some (.int o)] h
      = .fl (.nx [some (.int n), x1, some (.int s), some (.int (o' : Nat))]) h ∧ s ≤ o' ∧ n ≤ s * s + o' * o' ∧ (o' = s ∨ s * s + (o' - 1) * (o' - 1) < n) ∧ o' < 2000000
  | 0, o, h1, h2, hf => by
    exfalso
    rcases h2 with z | z
    · subst z; rw [Nat.mul_assoc] at hs; have := le_sq o; omega
    · have := le_sq (o - 1); omega
  | f + 1, o, h1, h2, hf => by
    have hs2 : s < 1000000 := by rw [Nat.mul_assoc] at hs; have := le_sq s; omega
    have ho : o < 2000000 := by
      rcases h2 with z | z
      · omega
      · have := le_sq (o - 1); omega
    have m1 : mulOk (s : Int) (s : Int) := mul_sm ⟨by omega, by omega⟩
    have m2 : mulOk (o : Int) (o : Int) := mul_sm ⟨by omega, by omega⟩
    have tst : denT (.cmp .lt (.bin .add (.bin .mul (.var 2) (.var 2)) (.bin .mul (.var 3) (.var 3))) (.var 0)) [some (.int n), x1, some (.int s), some (.int o)] h = .ok (decide (s * s + o * o < n)) h :=
      denT_cmp (den_bin (den_bin rfl rfl (bN_mul m1)) (den_bin rfl rfl (bN_mul m2)) bN_add) rfl cN_lt
    by_cases c : s * s + o * o < n
    · obtain ⟨o', e1, e2⟩ := up_loop n s hn hs x1 h f (o + 1) (by omega) (.inr (by simpa using c)) (by omega)
      refine ⟨o', ?_, e2⟩
      rw [while_true (tst.trans (by rw [decide_eq_true c])) (den_nx (den_as (den_bin rfl rfl (bN_add (j := 1)))))]
      exact e1
    · exact ⟨o, while_false (tst.trans (by rw [decide_eq_false c])), h1, by omega, h2, ho⟩
theorem up_is {n s o : Nat} (hs : 2 * s * s ≤ n) (h1 : s ≤ o) (h2 : n ≤ s * s + o * o) (h3 : o = s ∨ s * s + (o - 1) * (o - 1) < n) : (if s * s + o * o = n then [(s, o)] else []) = sqAt n s := by
  have hs' : s * s ≤ n := by rw [Nat.mul_assoc] at hs; omega
  unfold sqAt
  by_cases c : s * s + o * o = n
  · have e : rootOf (n - s * s) = o := root_eq (by omega) (by have := sq_lt (show o < o + 1 by omega); omega)
    rw [if_pos c, e, if_pos c]
  · rw [if_neg c]
    have d : ¬ s * s + rootOf (n - s * s) * rootOf (n - s * s) = n := fun z => by
      have r1 : rootOf (n - s * s) < o := by
        rcases Nat.lt_or_ge (rootOf (n - s * s)) o with y | y
        · exact y
        · have := sq_mono y; omega
      rcases h3 with y | y
      · have := sq_lt r1
        subst y
        rw [Nat.mul_assoc] at hs
        omega
      · have := sq_mono (show rootOf (n - s * s) ≤ o - 1 by omega)
        omega
    rw [if_neg d]
noncomputable abbrev lqC : E := .cmp .le (.bin .mul (.bin .mul (.lit (.int 2)) (.var 2)) (.var 2)) (.var 0)
noncomputable abbrev lqB : List S := [.asg [.nm 3] (.var 2),
    .whl (.cmp .lt (.bin .add (.bin .mul (.var 2) (.var 2)) (.bin .mul (.var 3) (.var 3))) (.var 0)) [.asg [.nm 3] (.bin .add (.var 3) (.lit (.int 1)))],
    .asg [.nm 1] (.bin .add (.var 1) (.bin .mul (.lst [(.tup [(.var 2), (.var 3)])]) (.call "int" (pureF intP) [(.cmp .eq (.bin .add (.bin .mul (.var 2) (.var 2)) (.bin .mul (.var 3) (.var 3))) (.var 0))]))),
    .asg [.nm 2] (.bin .add (.var 2) (.lit (.int 1)))]
theorem lsq_turn (n s : Nat) (hn : n < 1000000) (hs : 2 * s * s ≤ n) (x3 : Option D) (h : Hd) :
    ∃ x3', denSs lqB [some (.int n), some (.lst ((sqN n s).map pairD)), some (.int s), x3] h = .fl (.nx [some (.int n), some (.lst ((sqN n (s + 1)).map pairD)), some (.int (s + 1 : Nat)), x3']) h := by
  have hs2 : s < 1000000 := by rw [Nat.mul_assoc] at hs; have := le_sq s; omega
  obtain ⟨o, e1, o1, o2, o3, o4⟩ := up_loop n s hn hs (some (.lst ((sqN n s).map pairD))) h (n + 1) s (Nat.le_refl _) (.inl rfl) (by omega)
  have m1 : mulOk (s : Int) (s : Int) := mul_sm ⟨by omega, by omega⟩
  have m2 : mulOk (o : Int) (o : Int) := mul_sm ⟨by omega, by omega⟩
  refine ⟨some (.int o), ?_⟩
  rw [den_nx (den_as (d := .int s) (h1 := h) rfl), List.set, List.set, List.set, List.set]
  rw [den_nx (den_whl.trans e1)]
  have hl := sqN_len n (s + 1)
  have eq : ∀ k : Bool, denE (.cmp .eq (.bin .add (.bin .mul (.var 2) (.var 2)) (.bin .mul (.var 3) (.var 3))) (.var 0)) [some (.int n), some (.lst ((sqN n s).map pairD)), some (.int s), some (.int o)] h = .ok (.bl (decide (s * s + o * o = n))) h := fun _ =>
    den_cmp (den_bin (den_bin rfl rfl (bN_mul m1)) (den_bin rfl rfl (bN_mul m2)) bN_add) rfl cN_eq
  have ad : denE (.bin .add (.var 1) (.bin .mul (.lst [(.tup [(.var 2), (.var 3)])]) (.call "int" (pureF intP) [(.cmp .eq (.bin .add (.bin .mul (.var 2) (.var 2)) (.bin .mul (.var 3) (.var 3))) (.var 0))]))) [some (.int n), some (.lst ((sqN n s).map pairD)), some (.int s), some (.int o)] h = .ok (.lst ((sqN n (s + 1)).map pairD)) h := by
    rw [sqN_succ] at hl ⊢
    rw [← up_is hs o1 o2 o3] at hl ⊢
    by_cases c : s * s + o * o = n
    · rw [if_pos c] at hl ⊢
      refine den_bin rfl (den_bin (x := .lst [pairD (s, o)]) (by simp [denE, denEs, line, pairD]) (den_call1 ((eq true).trans (by rw [decide_eq_true c])) rfl) (d := .lst [pairD (s, o)]) (by simp [binD, listD, line])) ?_
      simp at hl
      simp [binD, listD, line]
      omega
    · rw [if_neg c] at hl ⊢
      refine den_bin rfl (den_bin (x := .lst [pairD (s, o)]) (by simp [denE, denEs, line, pairD]) (den_call1 ((eq true).trans (by rw [decide_eq_false c])) rfl) (d := .lst []) (by simp [binD, listD, line])) ?_
      simp at hl
      simp [binD, listD, line]
      omega
  rw [den_nx (den_as ad), List.set, List.set]
  rw [den_nx (den_as (den_bin rfl rfl (bN_add (j := 1))))]
  rfl
theorem lsq_loop (n : Nat) (hn : n < 1000000) (h : Hd) : ∀ (f s : Nat) (x3 : Option D), s ≤ rootOf (n / 2) + 1 → rootOf (n / 2) + 1 < s + f →
    ∃ δ', whileF (denT lqC) (denSs lqB) [some (.int n), some (.lst ((sqN n s).map pairD)), some (.int s), x3] h = .fl (.nx δ') h ∧ δ'[1]? = some (some (.lst ((squaresOf n).map pairD)))
  | 0, s, x3, h1, h2 => by omega
  | f + 1, s, x3, h1, h2 => by
    have hr : rootOf (n / 2) < 1000000 := by have := root_lo (n / 2); have := le_sq (rootOf (n / 2)); omega
    have m1 : mulOk ((2 : Nat) : Int) (s : Int) := mul_sm ⟨by omega, by omega⟩
    have m2 : mulOk ((2 * s : Nat) : Int) (s : Int) := mul_sm ⟨by omega, by omega⟩
    have tst : denT lqC [some (.int n), some (.lst ((sqN n s).map pairD)), some (.int s), x3] h = .ok (decide (2 * s * s ≤ n)) h :=
      denT_cmp (den_bin (den_bin rfl rfl (bN_mul m1)) rfl (bN_mul m2)) rfl cN_le
    by_cases c : 2 * s * s ≤ n
    · obtain ⟨x3', e1⟩ := lsq_turn n s hn c x3 h
      rw [while_true (tst.trans (by rw [decide_eq_true c])) e1]
      exact lsq_loop n hn h f (s + 1) x3' (by have := le_half.mpr c; omega) (by omega)
    · have : s = rootOf (n / 2) + 1 := by
        rcases Nat.lt_or_ge (rootOf (n / 2)) s with z | z
        · omega
        · exact absurd (le_half.mp z) c
      subst this
      exact ⟨_, while_false (tst.trans (by rw [decide_eq_false c])), rfl⟩
theorem f_law_squares (n : Nat) (h : Hd) (hn : n < 1000000) : F__law_squares [.int n] h = .ok (.lst ((squaresOf n).map pairD)) h := by
  obtain ⟨δ', e1, e2⟩ := lsq_loop n hn h (rootOf (n / 2) + 2) 0 none (by omega) (by omega)
  refine run_rt rfl ?_
  show denSs b__law_squares [some (.int n), none, none, none] h = _
  unfold b__law_squares
  rw [den_nx (δ' := [some (.int n), some (.lst ((sqN n 0).map pairD)), some (.int (0 : Nat)), none]) (h' := h) (by simp [denS, denEs, denE, line, sqN])]
  rw [den_nx (den_whl.trans e1)]
  exact den_rt (den_ret (den_var e2))
end K90
end

section
set_option Elab.async false
set_option linter.all false
set_option maxRecDepth 100000
namespace K90
open DL PySem
abbrev natD : Nat → D := fun (n : Nat) => D.int n
def stepP (acc : List Nat) (q : Nat × Nat) : List Nat := acc.flatMap fun o => (List.range (q.2 + 1)).map fun m => o * q.1 ^ m
def stepL (acc : List Nat) (q : Nat × Nat) : List Nat := (List.range (q.2 + 1)).flatMap fun m => acc.map fun o => o * q.1 ^ m
def prodQ (ps : List (Nat × Nat)) : Nat := ps.foldr (fun q a => q.1 ^ q.2 * a) 1
theorem prodQ_cons (q : Nat × Nat) (ps : List (Nat × Nat)) : prodQ (q :: ps) = q.1 ^ q.2 * prodQ ps := rfl
theorem prodQ_append : ∀ (ps qs : List (Nat × Nat)), prodQ (ps ++ qs) = prodQ ps * prodQ qs
  | [], qs => by simp [prodQ]
  | q :: ps, qs => by rw [List.cons_append, prodQ_cons, prodQ_append ps qs, prodQ_cons, Nat.mul_assoc]
theorem primesN_prod : ∀ (f l p : Nat) (acc : List (Nat × Nat)), 1 ≤ l → 2 ≤ p → prodQ (primesN f l p acc) ≤ prodQ acc * l
  | 0, l, p, acc, h1, h2 => Nat.le_mul_of_pos_right _ h1
  | f + 1, l, p, acc, h1, h2 => by
    unfold primesN
    by_cases c : 1 < l
    · rw [if_pos c]
      obtain ⟨s1, s2, s3⟩ := strip_le l l p 0 h1
      have sm := strip_mul l l p 0 h1
      rw [Nat.sub_zero] at sm
      refine Nat.le_trans (primesN_prod f _ _ _ s1 (by split <;> omega)) ?_
      split
      · rw [prodQ_append]
        have : prodQ [(p, (strip l l p 0).2)] = p ^ (strip l l p 0).2 := Nat.mul_one _
        rw [this, Nat.mul_assoc, Nat.mul_comm (p ^ _), sm]
        exact Nat.le_refl _
      · exact Nat.mul_le_mul_left _ s2
    · rw [if_neg c]
      exact Nat.le_mul_of_pos_right _ h1
theorem primesOf_prod {n : Nat} (h : 1 ≤ n) : prodQ (primesOf n) ≤ n := by
  have := primesN_prod (n + 1) n 2 [] h (Nat.le_refl _)
  rw [show prodQ [] = 1 from rfl, Nat.one_mul] at this
  exact this
theorem e_le {p e : Nat} (hp : 2 ≤ p) : e + 1 ≤ p ^ e := by
  have h1 := Nat.lt_two_pow_self (n := e)
  have h2 := Nat.pow_le_pow_left hp e
  omega
theorem stepP_len (acc : List Nat) (q : Nat × Nat) : (stepP acc q).length = acc.length * (q.2 + 1) := by
  induction acc with
  | nil => simp [stepP]
  | cons o acc ih =>
    have e : stepP (o :: acc) q = ((List.range (q.2 + 1)).map fun m => o * q.1 ^ m) ++ stepP acc q := rfl
    rw [e, List.length_append, ih, List.length_map, List.length_range, List.length_cons, Nat.add_mul, Nat.one_mul, Nat.add_comm]
theorem stepP_mem {acc : List Nat} {q : Nat × Nat} {A x : Nat} (hq : 2 ≤ q.1) (ha : ∀ x ∈ acc, 1 ≤ x ∧ x ≤ A) (hx : x ∈ stepP acc q) : 1 ≤ x ∧ x ≤ A * q.1 ^ q.2 := by
  obtain ⟨o, ho, hx⟩ := List.mem_flatMap.mp hx
  obtain ⟨m, hm, rfl⟩ := List.mem_map.mp hx
  have hm : m < q.2 + 1 := List.mem_range.mp hm
  obtain ⟨a1, a2⟩ := ha o ho
  have p1 : 1 ≤ q.1 ^ m := Nat.pow_pos (by omega)
  have p2 : q.1 ^ m ≤ q.1 ^ q.2 := Nat.pow_le_pow_right (by omega) (by omega)
  exact ⟨Nat.mul_pos a1 p1, Nat.mul_le_mul a2 p2⟩
theorem stepL_mem {acc : List Nat} {q : Nat × Nat} {A x : Nat} (hq : 2 ≤ q.1) (ha : ∀ x ∈ acc, 1 ≤ x ∧ x ≤ A) (hx : x ∈ stepL acc q) : 1 ≤ x ∧ x ≤ A * q.1 ^ q.2 := by
  obtain ⟨m, hm, hx⟩ := List.mem_flatMap.mp hx
  obtain ⟨o, ho, rfl⟩ := List.mem_map.mp hx
  have hm : m < q.2 + 1 := List.mem_range.mp hm
  obtain ⟨a1, a2⟩ := ha o ho
  have p1 : 1 ≤ q.1 ^ m := Nat.pow_pos (by omega)
  have p2 : q.1 ^ m ≤ q.1 ^ q.2 := Nat.pow_le_pow_right (by omega) (by omega)
  exact ⟨Nat.mul_pos a1 p1, Nat.mul_le_mul a2 p2⟩
def lapL (acc : List Nat) (p i : Nat) : List Nat := (List.range i).flatMap fun m => acc.map fun o => o * p ^ m
theorem lapL_succ (acc : List Nat) (p i : Nat) : lapL acc p (i + 1) = lapL acc p i ++ acc.map fun o => o * p ^ i := by simp [lapL, List.range_succ, List.flatMap_append]
theorem lapL_len (acc : List Nat) (p : Nat) : ∀ i, (lapL acc p i).length = acc.length * i
  | 0 => by simp [lapL]
  | i + 1 => by rw [lapL_succ, List.length_append, lapL_len acc p i, List.length_map, Nat.mul_succ]
noncomputable abbrev ppB : List S := [.asg [.nm 1] (.comp2 [("own", 4), ("many", 5)] (.bin .mul (.var 4) (.call "power_of" F_power_of [(.var 2), (.var 5)])) [4] .seq [(.var 1)] [] [5] .rng1 [(.bin .add (.var 3) (.lit (.int 1)))] [])]
theorem map_flat (p e : Nat) : ∀ acc : List Nat, (acc.map natD).flatMap (fun d => match d with | .int o => (List.range (e + 1)).map fun m => natD (o.toNat * p ^ m) | _ => []) = (stepP acc (p, e)).map natD
  | [] => rfl
  | o :: acc => by
    have e1 : stepP (o :: acc) (p, e) = ((List.range (e + 1)).map fun m => o * p ^ m) ++ stepP acc (p, e) := rfl
    rw [List.map_cons, List.flatMap_cons, map_flat p e acc, e1, List.map_append, List.map_map]
    rfl
theorem parts_turn (p e A : Nat) (acc : List Nat) (hp : 2 ≤ p) (ha : ∀ x ∈ acc, 1 ≤ x ∧ x ≤ A) (hl : acc.length ≤ A) (hA : A * p ^ e ≤ 100000) (x0 : Option D) (h : Hd) :
    denSs ppB [x0, some (.lst (acc.map natD)), some (.int p), some (.int e), none, none] h = .fl (.nx [x0, some (.lst ((stepP acc (p, e)).map natD)), some (.int p), some (.int e), none, none]) h := by
  have hl2 : (stepP acc (p, e)).length ≤ 100000 := by
    rw [stepP_len]
    exact Nat.le_trans (Nat.mul_le_mul hl (e_le hp)) hA
  cases acc with
  | nil =>
    refine den_nx (den_as ?_)
    exact den_comp2 (fun _ => []) (ss := [.lst []]) (xs := []) (by simp [denEs, denE]) rfl (fun x hx => nomatch hx) (by simp)
  | cons o1 acc1 =>
    have hA1 : 1 ≤ A := by have := ha o1 List.mem_cons_self; omega
    have pe : p ^ e ≤ 100000 := Nat.le_trans (Nat.le_mul_of_pos_left _ hA1) hA
    have ee := e_le (e := e) hp
    have p1 : p ≤ 100000 ∨ e = 0 := by
      rcases Nat.eq_zero_or_pos e with z | z
      · exact .inr z
      · left
        have := Nat.pow_le_pow_right (show 0 < p by omega) z
        rw [Nat.pow_one] at this
        omega
    generalize o1 :: acc1 = acc at *
    refine den_nx (den_as ?_)
    have key := den_comp2 (own := [("own", 4), ("many", 5)]) (e := (.bin .mul (.var 4) (.call "power_of" F_power_of [(.var 2), (.var 5)]))) (tg := [4]) (ik := .seq) (src := [(.var 1)]) (cs := []) (tg1 := [5]) (ik1 := .rng1) (src1 := [(.bin .add (.var 3) (.lit (.int 1)))]) (cs1 := [])
      (δ := [x0, some (.lst (acc.map natD)), some (.int p), some (.int e), none, none]) (h := h) (ss := [.lst (acc.map natD)]) (xs := acc.map natD) (fun d => match d with | .int o => (List.range (e + 1)).map fun m => natD (o.toNat * p ^ m) | _ => []) (by simp [denEs, denE]) rfl (fun x hx => by
        obtain ⟨o, ho, rfl⟩ := List.mem_map.mp hx
        obtain ⟨o1, o2⟩ := ha o ho
        have o3 : o ≤ 100000 := Nat.le_trans (Nat.le_trans o2 (Nat.le_mul_of_pos_right _ (Nat.pow_pos (by omega)))) hA
        refine ⟨[x0, some (.lst (acc.map natD)), some (.int p), some (.int e), some (.int o), none], [.int (e + 1 : Nat)], rangeD 0 ((e + 1 : Nat) : Int).toNat, fun d => match d with | .int m => [natD (o * p ^ m.toNat)] | _ => [], rfl, rfl, by rw [denEs, den_bin rfl rfl (bN_add (j := 1))]; rfl, if_pos ⟨by omega, by omega⟩, ?_, ?_⟩
        · rw [Int.toNat_natCast]
          show ((List.range (e + 1)).map fun (k : Nat) => D.int (0 + (k : Int))).flatMap _ = (List.range (e + 1)).map fun m => natD ((o : Int).toNat * p ^ m)
          generalize List.range (e + 1) = ms
          induction ms with
          | nil => rfl
          | cons m ms ih =>
            rw [List.map_cons, List.flatMap_cons, ih, List.map_cons, Int.toNat_natCast]
            simp
        · intro y hy
          rw [Int.toNat_natCast] at hy
          obtain ⟨m, hm, rfl⟩ := List.mem_map.mp hy
          have hm : m < e + 1 := List.mem_range.mp hm
          refine ⟨[x0, some (.lst (acc.map natD)), some (.int p), some (.int e), some (.int o), some (.int (0 + (m : Int)))], rfl, ?_⟩
          rw [Int.zero_add]
          have hm3 : p ^ m ≤ p ^ e := Nat.pow_le_pow_right (by omega) (by omega)
          have mk : mulOk (o : Int) ((p ^ m : Nat) : Int) := mul_sm ⟨by omega, by omega⟩
          have pw : F_power_of [.int p, .int m] h = .ok (.int (p ^ m : Nat)) h := by
            rcases p1 with z | z
            · exact f_power_of p m h (by omega) (by omega)
            · subst z
              have : m = 0 := by omega
              subst this
              refine run_rt rfl (den_rt (den_ret (den_call1 (d := .lst []) ?_ (f_product_of [] h (fun _ z => nomatch z)))))
              exact den_comp (fun _ => []) (ss := [.int 0]) (xs := []) (by simp [denEs, denE]) (by exact if_pos ⟨by decide, by decide⟩) (fun x hx => nomatch hx) (by simp)
          rw [denCs]
          show (if true = true then (denE (.bin .mul (.var 4) (.call "power_of" F_power_of [(.var 2), (.var 5)])) [x0, some (.lst (acc.map natD)), some (.int p), some (.int e), some (.int o), some (.int m)] h).calm.bind (fun y h => Out.ok [y] h) else Out.ok [] h) = _
          rw [if_pos rfl, den_bin rfl (den_call2 rfl rfl pw) (bN_mul mk)]
          rfl) (by rw [map_flat, List.length_map]; unfold line; omega)
    rw [map_flat] at key
    exact key
theorem parts_for (h : Hd) (ok : Hd → Prop) (ho : ok h) (x0 : Option D) : ∀ (ps : List (Nat × Nat)) (A : Nat) (acc : List Nat) (x2 x3 : Option D), (∀ x ∈ acc, 1 ≤ x ∧ x ≤ A) → acc.length ≤ A → A * prodQ ps ≤ 100000 → (∀ q ∈ ps, 2 ≤ q.1) →
    ∃ δ', forF [2, 3] ok (denSs ppB) (ps.map pairD) [x0, some (.lst (acc.map natD)), x2, x3, none, none] h = .fl (.nx δ') h ∧ δ'[1]? = some (some (.lst ((ps.foldl stepP acc).map natD)))
  | [], A, acc, x2, x3, h1, h2, h3, h4 => ⟨_, rfl, rfl⟩
  | (p, e) :: ps, A, acc, x2, x3, h1, h2, h3, h4 => by
    have hp : 2 ≤ p := h4 _ List.mem_cons_self
    rw [prodQ_cons, ← Nat.mul_assoc] at h3
    have h5 : A * p ^ e ≤ 100000 := by
      rcases Nat.eq_zero_or_pos (prodQ ps) with z | z
      · exfalso
        have : ∀ qs : List (Nat × Nat), (∀ q ∈ qs, 2 ≤ q.1) → 0 < prodQ qs := fun qs => by
          induction qs with
          | nil => intro _; exact Nat.one_pos
          | cons q qs ih =>
            intro hq
            have := hq q List.mem_cons_self
            exact Nat.mul_pos (Nat.pow_pos (by omega)) (ih fun r hr => hq r (List.mem_cons_of_mem _ hr))
        have := this ps fun q hq => h4 q (List.mem_cons_of_mem _ hq)
        omega
      · exact Nat.le_trans (Nat.le_mul_of_pos_right _ z) h3
    have st : storeD [2, 3] (pairD (p, e)) [x0, some (.lst (acc.map natD)), x2, x3, none, none] = some [x0, some (.lst (acc.map natD)), some (.int p), some (.int e), none, none] := rfl
    have hl2 : (stepP acc (p, e)).length ≤ A * p ^ e := by rw [stepP_len]; exact Nat.mul_le_mul h2 (e_le hp)
    obtain ⟨δ', e1, e2⟩ := parts_for h ok ho x0 ps (A * p ^ e) (stepP acc (p, e)) (some (.int p)) (some (.int e)) (fun x hx => stepP_mem (q := (p, e)) hp h1 hx) hl2 h3 fun q hq => h4 q (List.mem_cons_of_mem _ hq)
    exact ⟨δ', (for_cons st (parts_turn p e A acc hp h1 h2 h5 x0 h) ho).trans e1, e2⟩
def insN (a : Nat) : List Nat → List Nat
  | [] => [a]
  | b :: bs => if a ≤ b then a :: b :: bs else b :: insN a bs
def sortN : List Nat → List Nat
  | [] => []
  | a :: as => insN a (sortN as)
theorem insN_eq (a : Nat) : ∀ bs : List Nat, insI (a : Int) (bs.map Int.ofNat) = (insN a bs).map Int.ofNat
  | [] => rfl
  | b :: bs => by
    unfold insN
    rw [List.map_cons, insI, insN_eq a bs]
    by_cases c : a ≤ b
    · rw [if_pos c, if_pos (show (a : Int) ≤ Int.ofNat b from Int.ofNat_le.mpr c)]; rfl
    · rw [if_neg c, if_neg (show ¬ (a : Int) ≤ Int.ofNat b from fun z => c (Int.ofNat_le.mp z))]; rfl
theorem sortN_eq : ∀ bs : List Nat, sortI (bs.map Int.ofNat) = (sortN bs).map Int.ofNat
  | [] => rfl
  | b :: bs => by rw [List.map_cons, sortI, sortN_eq bs]; exact insN_eq b (sortN bs)
theorem insN_perm (a : Nat) : ∀ bs, (insN a bs).Perm (a :: bs)
  | [] => List.Perm.refl _
  | b :: bs => by
    unfold insN
    split
    · exact List.Perm.refl _
    · exact ((insN_perm a bs).cons b).trans (List.Perm.swap a b bs)
theorem sortN_perm : ∀ bs, (sortN bs).Perm bs
  | [] => List.Perm.refl _
  | b :: bs => (insN_perm b (sortN bs)).trans ((sortN_perm bs).cons b)
theorem sort_call {l : List Nat} {e : E} {δ : Sl} {h : Hd} (he : denE e δ h = .ok (.lst (l.map natD)) h) : denE (.call "tuple" (pureF tupP) [(.call "sorted" (pureF sortP) [e])]) δ h = .ok (.tup ((sortN l).map natD)) h := by
  refine den_call1 (den_call1 he (r := .lst ((sortN l).map natD)) (h2 := h) ?_) rfl
  show okI ((intsL h (.lst (l.map natD))).map fun ns => .lst ((sortI ns).map .int)) h = _
  have : intsL h (.lst (l.map natD)) = some (l.map Int.ofNat) := intsD_nat l
  rw [this]
  show Out.ok (D.lst ((sortI (l.map Int.ofNat)).map .int)) h = _
  rw [sortN_eq, List.map_map]
  rfl
def partsP (n : Nat) : List Nat := (primesOf n).foldl stepP [1]
def partsL (n : Nat) : List Nat := (primesOf n).foldl stepL [1]
theorem f_parts_by (n : Nat) (h : Hd) (h1 : 1 ≤ n) (h2 : n < 100000) : F_parts_by [.int n] h = .ok (.tup ((sortN (partsP n)).map natD)) h := by
  refine run_rt rfl ?_
  show denSs b_parts_by [some (.int n), none, none, none, none, none] h = _
  unfold b_parts_by
  obtain ⟨δ', e1, e2⟩ := parts_for h (sameSrc .seq [.tup ((primesOf n).map pairD)] h) (fun _ _ => rfl) (some (.int n)) (primesOf n) 1 [1] none none (fun x hx => by rw [List.mem_singleton.mp hx]; exact ⟨Nat.le_refl _, Nat.le_refl _⟩) (Nat.le_refl _) (by have := primesOf_prod h1; omega) fun q hq => (primesOf_mem h1 hq).2.1
  rw [den_nx (δ' := [some (.int n), some (.lst ([1].map natD)), none, none, none, none]) (h' := h) (by simp [denS, denEs, denE, line, asgT, storeT])]
  rw [den_nx ((den_for (h1 := h) (ss := [.tup ((primesOf n).map pairD)]) (by simp [denEs, denE, g_primes_by n h h1 (by omega)]) rfl).trans e1)]
  exact den_rt (den_ret (sort_call (den_var e2)))
noncomputable abbrev liB : List S := [.asg [.nm 5] (.bin .add (.var 5) (.comp [("own", 7)] (.bin .mul (.var 7) (.var 6)) [7] .seq [(.var 1)] [])),
    .asg [.nm 6] (.bin .mul (.var 6) (.var 2))]
theorem lap_for (p e A : Nat) (acc : List Nat) (hp : 2 ≤ p) (ha : ∀ x ∈ acc, 1 ≤ x ∧ x ≤ A) (hl : acc.length ≤ A) (hA : A * p ^ e ≤ 100000) (hp3 : p ≤ 100000) (x0 x3 : Option D) (h : Hd) (ok : Hd → Prop) (ho : ok h) : ∀ (m i : Nat) (x4 : Option D), i + m = e + 1 →
    ∃ x4', forF [4] ok (denSs liB) ((List.range' i m).map fun (k : Nat) => D.int (0 + (k : Int))) [x0, some (.lst (acc.map natD)), some (.int p), x3, x4, some (.lst ((lapL acc p i).map natD)), some (.int (p ^ i : Nat)), none] h
      = .fl (.nx [x0, some (.lst (acc.map natD)), some (.int p), x3, x4', some (.lst ((lapL acc p (i + m)).map natD)), some (.int (p ^ (i + m) : Nat)), none]) h
  | 0, i, x4, hi => ⟨x4, rfl⟩
  | m + 1, i, x4, hi => by
    obtain ⟨x4', e1⟩ := lap_for p e A acc hp ha hl hA hp3 x0 x3 h ok ho m (i + 1) (some (.int (0 + (i : Int)))) (by omega)
    refine ⟨x4', ?_⟩
    have ll : (lapL acc p (i + 1)).length ≤ 100000 := by
      rw [lapL_len]
      refine Nat.le_trans (Nat.mul_le_mul hl (show i + 1 ≤ p ^ e from Nat.le_trans (by omega) (e_le hp))) hA
    have pi : acc = [] ∨ p ^ i ≤ 100000 := by
      cases acc with
      | nil => exact .inl rfl
      | cons o1 acc1 =>
        right
        have hA1 : 1 ≤ A := by have := ha o1 List.mem_cons_self; omega
        exact Nat.le_trans (Nat.le_trans (Nat.pow_le_pow_right (by omega) (by omega : i ≤ e)) (Nat.le_mul_of_pos_left _ hA1)) hA
    have cm : denE (.comp [("own", 7)] (.bin .mul (.var 7) (.var 6)) [7] .seq [(.var 1)] []) [x0, some (.lst (acc.map natD)), some (.int p), x3, some (.int (0 + (i : Int))), some (.lst ((lapL acc p i).map natD)), some (.int (p ^ i : Nat)), none] h = .ok (.lst ((acc.map fun o => o * p ^ i).map natD)) h := by
      have key := den_comp (own := [("own", 7)]) (e := (.bin .mul (.var 7) (.var 6))) (tg := [7]) (ik := .seq) (src := [(.var 1)]) (cs := []) (δ := [x0, some (.lst (acc.map natD)), some (.int p), x3, some (.int (0 + (i : Int))), some (.lst ((lapL acc p i).map natD)), some (.int (p ^ i : Nat)), none]) (h := h) (ss := [.lst (acc.map natD)]) (xs := acc.map natD)
        (fun d => match d with | .int o => [natD (o.toNat * p ^ i)] | _ => []) (by simp [denEs, denE]) rfl (fun x hx => by
          obtain ⟨o, hoo, rfl⟩ := List.mem_map.mp hx
          obtain ⟨o1, o2⟩ := ha o hoo
          have o3 : o ≤ 100000 := Nat.le_trans (Nat.le_trans o2 (Nat.le_mul_of_pos_right _ (Nat.pow_pos (by omega)))) hA
          refine ⟨[x0, some (.lst (acc.map natD)), some (.int p), x3, some (.int (0 + (i : Int))), some (.lst ((lapL acc p i).map natD)), some (.int (p ^ i : Nat)), some (.int o)], rfl, ?_⟩
          have mk : mulOk (o : Int) ((p ^ i : Nat) : Int) := mul_sm ⟨by omega, by omega⟩
          rw [denCs]
          show (if true = true then (denE (.bin .mul (.var 7) (.var 6)) [x0, some (.lst (acc.map natD)), some (.int p), x3, some (.int (0 + (i : Int))), some (.lst ((lapL acc p i).map natD)), some (.int (p ^ i : Nat)), some (.int o)] h).calm.bind (fun y h => Out.ok [y] h) else Out.ok [] h) = _
          rw [if_pos rfl, den_bin rfl rfl (bN_mul mk)]
          rfl) (by
          have : ∀ l : List Nat, ((l.map natD).flatMap (fun d => match d with | .int o => [natD (o.toNat * p ^ i)] | _ => [])).length = l.length := fun l => by
            induction l with
            | nil => rfl
            | cons o l ih => rw [List.map_cons, List.flatMap_cons, List.length_append, ih, List.length_cons]; simp [Nat.add_comm]
          rw [this]
          have := lapL_len acc p (i + 1)
          rw [Nat.mul_succ] at this
          unfold line
          omega)
      have fl : ∀ l : List Nat, (l.map natD).flatMap (fun d => match d with | .int o => [natD (o.toNat * p ^ i)] | _ => []) = (l.map fun o => o * p ^ i).map natD := fun l => by
        induction l with
        | nil => rfl
        | cons o l ih => rw [List.map_cons, List.flatMap_cons, ih, List.map_cons, List.map_cons]; rfl
      rw [fl] at key
      exact key
    have turn : denSs liB [x0, some (.lst (acc.map natD)), some (.int p), x3, some (.int (0 + (i : Int))), some (.lst ((lapL acc p i).map natD)), some (.int (p ^ i : Nat)), none] h
        = .fl (.nx [x0, some (.lst (acc.map natD)), some (.int p), x3, some (.int (0 + (i : Int))), some (.lst ((lapL acc p (i + 1)).map natD)), some (.int (p ^ (i + 1) : Nat)), none]) h := by
      rw [den_nx (den_as (den_bin rfl cm (d := .lst ((lapL acc p (i + 1)).map natD)) (by
        rw [lapL_succ] at ll ⊢
        simp only [List.length_append, List.length_map] at ll
        simp [binD, listD, line]
        omega)))]
      have mk : mulOk ((p ^ i : Nat) : Int) (p : Int) := mul_sm2 ⟨by omega, by omega⟩
      rw [den_nx (den_as (den_bin rfl rfl (bN_mul mk))), ← Nat.pow_succ]
      rfl
    rw [List.range'_succ, List.map_cons]
    refine (for_cons rfl turn ho).trans ?_
    rw [show i + (m + 1) = i + 1 + m by omega]
    exact e1
noncomputable abbrev lpB2 : List S := [.asg [.nm 5, .nm 6] (.tup [(.lst []), (.lit (.int 1))]),
    .fors [4] .rng1 [(.bin .add (.var 3) (.lit (.int 1)))] liB,
    .asg [.nm 1] (.var 5)]
theorem lparts_for (h : Hd) (ok : Hd → Prop) (ho : ok h) (x0 : Option D) : ∀ (ps : List (Nat × Nat)) (A : Nat) (acc : List Nat) (x2 x3 x4 x5 x6 : Option D), (∀ x ∈ acc, 1 ≤ x ∧ x ≤ A) → acc.length ≤ A → A * prodQ ps ≤ 100000 → (∀ q ∈ ps, 2 ≤ q.1 ∧ q.1 ≤ 100000 ∧ q.2 ≤ 100000) →
    ∃ δ', forF [2, 3] ok (denSs lpB2) (ps.map pairD) [x0, some (.lst (acc.map natD)), x2, x3, x4, x5, x6, none] h = .fl (.nx δ') h ∧ δ'[1]? = some (some (.lst ((ps.foldl stepL acc).map natD)))
  | [], A, acc, x2, x3, x4, x5, x6, h1, h2, h3, h4 => ⟨_, rfl, rfl⟩
  | (p, e) :: ps, A, acc, x2, x3, x4, x5, x6, h1, h2, h3, h4 => by
    obtain ⟨hp, hp2, hp3⟩ := h4 _ List.mem_cons_self
    dsimp only at hp hp2 hp3
    rw [prodQ_cons, ← Nat.mul_assoc] at h3
    have h5 : A * p ^ e ≤ 100000 := by
      rcases Nat.eq_zero_or_pos (prodQ ps) with z | z
      · exfalso
        have : ∀ qs : List (Nat × Nat), (∀ q ∈ qs, 2 ≤ q.1) → 0 < prodQ qs := fun qs => by
          induction qs with
          | nil => intro _; exact Nat.one_pos
          | cons q qs ih =>
            intro hq
            have := hq q List.mem_cons_self
            exact Nat.mul_pos (Nat.pow_pos (by omega)) (ih fun r hr => hq r (List.mem_cons_of_mem _ hr))
        have := this ps fun q hq => (h4 q (List.mem_cons_of_mem _ hq)).1
        omega
      · exact Nat.le_trans (Nat.le_mul_of_pos_right _ z) h3
    have st : storeD [2, 3] (pairD (p, e)) [x0, some (.lst (acc.map natD)), x2, x3, x4, x5, x6, none] = some [x0, some (.lst (acc.map natD)), some (.int p), some (.int e), x4, x5, x6, none] := rfl
    have ll : stepL acc (p, e) = lapL acc p (e + 1) := rfl
    have hl2 : (stepL acc (p, e)).length ≤ A * p ^ e := by rw [ll, lapL_len]; exact Nat.mul_le_mul h2 (e_le hp)
    obtain ⟨x4', el⟩ := lap_for p e A acc hp h1 h2 h5 hp2 x0 (some (.int e)) h (sameSrc .rng1 [.int (e + 1 : Nat)] h) trivial (e + 1) 0 x4 (by omega)
    have turn : denSs lpB2 [x0, some (.lst (acc.map natD)), some (.int p), some (.int e), x4, x5, x6, none] h = .fl (.nx [x0, some (.lst ((stepL acc (p, e)).map natD)), some (.int p), some (.int e), x4', some (.lst ((stepL acc (p, e)).map natD)), some (.int (p ^ (0 + (e + 1)) : Nat)), none]) h := by
      rw [den_nx (δ' := [x0, some (.lst (acc.map natD)), some (.int p), some (.int e), x4, some (.lst ((lapL acc p 0).map natD)), some (.int (p ^ 0 : Nat)), none]) (h' := h) (by simp [denS, denE, denEs, line, asgT, storesT, storeT, lapL])]
      rw [den_nx ((den_for (h1 := h) (ss := [.int (e + 1 : Nat)]) (by rw [denEs, den_bin rfl rfl (bN_add (j := 1))]; rfl) (by
        refine (if_pos ⟨by omega, by omega⟩).trans ?_
        rw [Int.toNat_natCast, rng_eq])).trans el)]
      rw [den_nx (den_as rfl), ll, Nat.zero_add]
      rfl
    obtain ⟨δ', e1, e2⟩ := lparts_for h ok ho x0 ps (A * p ^ e) (stepL acc (p, e)) (some (.int p)) (some (.int e)) x4' (some (.lst ((stepL acc (p, e)).map natD))) (some (.int (p ^ (0 + (e + 1)) : Nat))) (fun x hx => stepL_mem (q := (p, e)) hp h1 hx) hl2 h3 fun q hq => h4 q (List.mem_cons_of_mem _ hq)
    exact ⟨δ', (for_cons st turn ho).trans e1, e2⟩
theorem f_law_parts (n : Nat) (h : Hd) (h1 : 1 ≤ n) (h2 : n < 100000) : F__law_parts [.int n] h = .ok (.tup ((sortN (partsL n)).map natD)) h := by
  refine run_rt rfl ?_
  show denSs b__law_parts [some (.int n), none, none, none, none, none, none, none] h = _
  unfold b__law_parts
  obtain ⟨δ', e1, e2⟩ := lparts_for h (sameSrc .seq [.tup ((primesOf n).map pairD)] h) (fun _ _ => rfl) (some (.int n)) (primesOf n) 1 [1] none none none none none (fun x hx => by rw [List.mem_singleton.mp hx]; exact ⟨Nat.le_refl _, Nat.le_refl _⟩) (Nat.le_refl _) (by have := primesOf_prod h1; omega) fun q hq => by
    have q1 := primesOf_mem h1 hq
    obtain ⟨b1, b2, b3⟩ := q_bounds q1
    exact ⟨q1.2.1, by omega, by omega⟩
  rw [den_nx (δ' := [some (.int n), some (.lst ([1].map natD)), none, none, none, none, none, none]) (h' := h) (by simp [denS, denEs, denE, line, asgT, storeT])]
  rw [den_nx ((den_for (h1 := h) (ss := [.tup ((primesOf n).map pairD)]) (by simp [denEs, denE, f_law_primes n h h1 (by omega)]) rfl).trans e1)]
  exact den_rt (den_ret (sort_call (den_var e2)))
end K90
end

section
set_option Elab.async false
set_option linter.all false
set_option maxRecDepth 100000
namespace K90
open DL PySem
def chi (x : Nat) : Int := if x % 4 = 1 then 1 else if x % 4 = 3 then -1 else 0
theorem chi_mul (x y : Nat) : chi (x * y) = chi x * chi y := by
  unfold chi
  rw [Nat.mul_mod]
  have hx := Nat.mod_lt x (show 0 < 4 by decide)
  have hy := Nat.mod_lt y (show 0 < 4 by decide)
  generalize x % 4 = a at *
  generalize y % 4 = b at *
  match a, b, hx, hy with
  | 0, 0, _, _ => rfl | 0, 1, _, _ => rfl | 0, 2, _, _ => rfl | 0, 3, _, _ => rfl
  | 1, 0, _, _ => rfl | 1, 1, _, _ => rfl | 1, 2, _, _ => rfl | 1, 3, _, _ => rfl
  | 2, 0, _, _ => rfl | 2, 1, _, _ => rfl | 2, 2, _, _ => rfl | 2, 3, _, _ => rfl
  | 3, 0, _, _ => rfl | 3, 1, _, _ => rfl | 3, 2, _, _ => rfl | 3, 3, _, _ => rfl
def csum (l : List Nat) : Int := l.foldr (fun x a => chi x + a) 0
theorem csum_nil : csum [] = 0 := rfl
theorem csum_cons (x : Nat) (l : List Nat) : csum (x :: l) = chi x + csum l := rfl
theorem csum_append : ∀ a b : List Nat, csum (a ++ b) = csum a + csum b
  | [], b => by rw [List.nil_append, csum_nil]; omega
  | x :: a, b => by rw [List.cons_append, csum_cons, csum_append a b, csum_cons]; omega
theorem csum_perm {a b : List Nat} (h : a.Perm b) : csum a = csum b := by
  induction h with
  | nil => rfl
  | cons x _ ih => rw [csum_cons, csum_cons, ih]
  | swap x y l => rw [csum_cons, csum_cons, csum_cons, csum_cons]; omega
  | trans _ _ h1 h2 => exact h1.trans h2
theorem csum_mulR (c : Nat) : ∀ l : List Nat, csum (l.map fun o => o * c) = csum l * chi c
  | [] => by simp [csum_nil]
  | x :: l => by rw [List.map_cons, csum_cons, csum_mulR c l, csum_cons, chi_mul, Int.add_mul]
def geo (p : Nat) (i : Nat) : Int := csum ((List.range i).map fun m => p ^ m)
theorem geo_succ (p i : Nat) : geo p (i + 1) = geo p i + chi (p ^ i) := by
  unfold geo
  rw [List.range_succ, List.map_append, csum_append]
  show _ + (chi (p ^ i) + 0) = _
  omega
theorem csum_row (o p : Nat) : ∀ i, csum ((List.range i).map fun m => o * p ^ m) = chi o * geo p i
  | 0 => by simp [geo, csum_nil]
  | i + 1 => by
    rw [List.range_succ, List.map_append, csum_append, csum_row o p i, geo_succ, Int.mul_add, ← chi_mul]
    show _ + (chi (o * p ^ i) + 0) = _
    omega
theorem csum_stepP (q : Nat × Nat) : ∀ acc : List Nat, csum (stepP acc q) = csum acc * geo q.1 (q.2 + 1)
  | [] => by simp [stepP, csum_nil]
  | o :: acc => by
    have e : stepP (o :: acc) q = ((List.range (q.2 + 1)).map fun m => o * q.1 ^ m) ++ stepP acc q := rfl
    rw [e, csum_append, csum_row, csum_stepP q acc, csum_cons, Int.add_mul]
theorem csum_lap (acc : List Nat) (p : Nat) : ∀ i, csum (lapL acc p i) = csum acc * geo p i
  | 0 => by simp [lapL, geo, csum_nil]
  | i + 1 => by rw [lapL_succ, csum_append, csum_lap acc p i, csum_mulR, geo_succ, Int.mul_add]
theorem csum_stepL (q : Nat × Nat) (acc : List Nat) : csum (stepL acc q) = csum acc * geo q.1 (q.2 + 1) := csum_lap acc q.1 (q.2 + 1)
def chiQ (q : Nat × Nat) : Nat := if q.1 % 4 = 1 then q.2 + 1 else if q.1 % 4 = 3 then (if q.2 % 2 = 0 then 1 else 0) else 1
theorem chi_pow (p : Nat) : ∀ m, chi (p ^ (m + 1)) = chi (p ^ m) * chi p := fun m => by rw [Nat.pow_succ, chi_mul]
theorem geo_is (p : Nat) : ∀ e, geo p (e + 1) = (chiQ (p, e) : Nat) ∧ (chi p = 1 → chi (p ^ e) = 1) ∧ (chi p = -1 → chi (p ^ e) = if e % 2 = 0 then 1 else -1) ∧ (chi p = 0 → chi (p ^ e) = if e = 0 then 1 else 0)
  | 0 => by
    refine ⟨?_, fun _ => rfl, fun _ => rfl, fun _ => rfl⟩
    show chi 1 + 0 = _
    unfold chiQ chi
    simp
  | e + 1 => by
    obtain ⟨h1, h2, h3, h4⟩ := geo_is p e
    have c := chi_pow p e
    have k1 : chi p = 1 → chi (p ^ (e + 1)) = 1 := fun z => by rw [c, h2 z, z]; rfl
    have k2 : chi p = -1 → chi (p ^ (e + 1)) = if (e + 1) % 2 = 0 then 1 else -1 := fun z => by
      rw [c, h3 z, z]
      by_cases w : e % 2 = 0
      · rw [if_pos w, if_neg (by omega)]; rfl
      · rw [if_neg w, if_pos (by omega)]; rfl
    have k3 : chi p = 0 → chi (p ^ (e + 1)) = if e + 1 = 0 then 1 else 0 := fun z => by rw [c, z, Int.mul_zero, if_neg (by omega)]
    refine ⟨?_, k1, k2, k3⟩
    rw [geo_succ, h1]
    unfold chiQ at *
    dsimp only at *
    by_cases z1 : p % 4 = 1
    · have : chi p = 1 := by unfold chi; rw [if_pos z1]
      rw [if_pos z1, if_pos z1, k1 this]
      omega
    · by_cases z3 : p % 4 = 3
      · have : chi p = -1 := by unfold chi; rw [if_neg z1, if_pos z3]
        rw [if_neg z1, if_pos z3, if_neg z1, if_pos z3, k2 this]
        by_cases w : e % 2 = 0
        · rw [if_pos w, if_neg (by omega), if_neg (by omega)]; rfl
        · rw [if_neg w, if_pos (by omega), if_pos (by omega)]; rfl
      · have : chi p = 0 := by unfold chi; rw [if_neg z1, if_neg z3]
        rw [if_neg z1, if_neg z3, if_neg z1, if_neg z3, k3 this, if_neg (by omega)]
        rfl
def chiAll (ps : List (Nat × Nat)) : Nat := ps.foldr (fun q a => chiQ q * a) 1
theorem csum_foldP : ∀ (ps : List (Nat × Nat)) (acc : List Nat), csum (ps.foldl stepP acc) = csum acc * (chiAll ps : Nat)
  | [], acc => by simp [chiAll]
  | q :: ps, acc => by
    rw [List.foldl_cons, csum_foldP ps, csum_stepP, (geo_is q.1 q.2).1, Int.mul_assoc, ← Int.natCast_mul]
    rfl
theorem csum_foldL : ∀ (ps : List (Nat × Nat)) (acc : List Nat), csum (ps.foldl stepL acc) = csum acc * (chiAll ps : Nat)
  | [], acc => by simp [chiAll]
  | q :: ps, acc => by
    rw [List.foldl_cons, csum_foldL ps, csum_stepL, (geo_is q.1 q.2).1, Int.mul_assoc, ← Int.natCast_mul]
    rfl
theorem csum_P (n : Nat) : csum (sortN (partsP n)) = (chiAll (primesOf n) : Nat) := by
  rw [csum_perm (sortN_perm _)]
  unfold partsP
  rw [csum_foldP]
  show (chi 1 + 0) * _ = _
  rw [show chi 1 = 1 from rfl]; omega
theorem csum_L (n : Nat) : csum (sortN (partsL n)) = (chiAll (primesOf n) : Nat) := by
  rw [csum_perm (sortN_perm _)]
  unfold partsL
  rw [csum_foldL]
  show (chi 1 + 0) * _ = _
  rw [show chi 1 = 1 from rfl]; omega
def sgn (x : Nat) : List Int := if x % 2 = 1 then [if x % 4 = 1 then 1 else -1] else []
theorem sgn_sum : ∀ l : List Nat, (l.flatMap sgn).sum = csum l
  | [] => rfl
  | x :: l => by
    rw [List.flatMap_cons, List.sum_append, sgn_sum l, csum_cons]
    congr 1
    unfold sgn chi
    by_cases a : x % 4 = 1
    · rw [if_pos (by omega), if_pos a, if_pos a]; rfl
    · by_cases b : x % 4 = 3
      · rw [if_pos (by omega), if_neg a, if_neg a, if_pos b]; rfl
      · rw [if_neg (by omega), if_neg a, if_neg b]; rfl
theorem sgn_len (l : List Nat) : (l.flatMap sgn).length ≤ l.length := flat_le sgn (fun x => by unfold sgn; split <;> simp) l
theorem parts_len {n : Nat} (h1 : 1 ≤ n) : ∀ (ps : List (Nat × Nat)) (A : Nat) (acc : List Nat), acc.length ≤ A → (∀ q ∈ ps, 2 ≤ q.1) → (ps.foldl stepP acc).length ≤ A * prodQ ps
  | [], A, acc, h, _ => by simpa [prodQ] using h
  | q :: ps, A, acc, h, hq => by
    have := parts_len h1 ps (A * q.1 ^ q.2) (stepP acc q) (by rw [stepP_len]; exact Nat.mul_le_mul h (e_le (hq q List.mem_cons_self))) fun r hr => hq r (List.mem_cons_of_mem _ hr)
    rw [prodQ_cons, ← Nat.mul_assoc]
    exact this
theorem lparts_len : ∀ (ps : List (Nat × Nat)) (A : Nat) (acc : List Nat), acc.length ≤ A → (∀ q ∈ ps, 2 ≤ q.1) → (ps.foldl stepL acc).length ≤ A * prodQ ps
  | [], A, acc, h, _ => by simpa [prodQ] using h
  | q :: ps, A, acc, h, hq => by
    have := lparts_len ps (A * q.1 ^ q.2) (stepL acc q) (by
      have e : stepL acc q = lapL acc q.1 (q.2 + 1) := rfl
      rw [e, lapL_len]; exact Nat.mul_le_mul h (e_le (hq q List.mem_cons_self))) fun r hr => hq r (List.mem_cons_of_mem _ hr)
    rw [prodQ_cons, ← Nat.mul_assoc]
    exact this
theorem sortP_len {n : Nat} (h1 : 1 ≤ n) : (sortN (partsP n)).length ≤ n := by
  rw [(sortN_perm _).length_eq]
  have := parts_len h1 (primesOf n) 1 [1] (Nat.le_refl _) fun q hq => (primesOf_mem h1 hq).2.1
  have := primesOf_prod h1
  unfold partsP
  omega
theorem sortL_len {n : Nat} (h1 : 1 ≤ n) : (sortN (partsL n)).length ≤ n := by
  rw [(sortN_perm _).length_eq]
  have := lparts_len (primesOf n) 1 [1] (Nat.le_refl _) fun q hq => (primesOf_mem h1 hq).2.1
  have := primesOf_prod h1
  unfold partsL
  omega
theorem f_count_squares_by (n : Nat) (h : Hd) (h1 : 1 ≤ n) (h2 : n < 100000) : F_count_squares_by [.int n] h = .ok (.int (4 * (chiAll (primesOf n) : Nat))) h := by
  refine run_rt rfl (den_rt (den_ret ?_))
  have hl := sortP_len h1
  have key := den_comp (own := [("part", 1)]) (e := (.ife (.cmp .eq (.bin .mod (.var 1) (.lit (.int 4))) (.lit (.int 1))) (.lit (.int 1)) (.neg (.lit (.int 1))))) (tg := [1]) (ik := .seq) (src := [(.call "parts_by" F_parts_by [(.var 0)])]) (cs := [(.cmp .eq (.bin .mod (.var 1) (.lit (.int 2))) (.lit (.int 1)))]) (δ := [some (.int n), none]) (h := h) (ss := [.tup ((sortN (partsP n)).map natD)]) (xs := (sortN (partsP n)).map natD)
    (fun d => match d with | .int o => (sgn o.toNat).map .int | _ => []) (by rw [denEs, den_call1 rfl (f_parts_by n h h1 h2)]; rfl) rfl (fun x hx => by
      obtain ⟨o, ho, rfl⟩ := List.mem_map.mp hx
      refine ⟨[some (.int n), some (.int o)], rfl, ?_⟩
      have c1 : denE (.cmp .eq (.bin .mod (.var 1) (.lit (.int 2))) (.lit (.int 1))) [some (.int n), some (.int o)] h = .ok (.bl (decide (o % 2 = 1))) h := den_cmp (den_bin rfl rfl (bN_mod (j := 2) (by decide))) rfl (cN_eq (j := 1))
      have c2 : denE (.cmp .eq (.bin .mod (.var 1) (.lit (.int 4))) (.lit (.int 1))) [some (.int n), some (.int o)] h = .ok (.bl (decide (o % 4 = 1))) h := den_cmp (den_bin rfl rfl (bN_mod (j := 4) (by decide))) rfl (cN_eq (j := 1))
      dsimp only
      rw [Int.toNat_natCast, cs1 (y := .int (if o % 4 = 1 then 1 else -1)) c1 fun _ => den_ife c2 rfl (by
        by_cases w : o % 4 = 1
        · rw [decide_eq_true w, if_pos w]; rfl
        · rw [decide_eq_false w, if_neg w]; rfl)]
      unfold sgn
      by_cases z : o % 2 = 1
      · rw [decide_eq_true z, if_pos z]; rfl
      · rw [decide_eq_false z, if_neg z]; rfl) (by
      have : ∀ l : List Nat, ((l.map natD).flatMap (fun d => match d with | .int o => (sgn o.toNat).map D.int | _ => [])).length ≤ l.length := fun l => by
        induction l with
        | nil => exact Nat.le_refl _
        | cons o l ih =>
          rw [List.map_cons, List.flatMap_cons, List.length_append, List.length_cons]
          have : (sgn o).length ≤ 1 := by unfold sgn; split <;> simp
          simp only [List.length_map, Int.toNat_natCast]
          omega
      have := this (sortN (partsP n))
      unfold line
      omega)
  have fl : ∀ l : List Nat, (l.map natD).flatMap (fun d => match d with | .int o => (sgn o.toNat).map D.int | _ => []) = (l.flatMap sgn).map .int := fun l => by
    induction l with
    | nil => rfl
    | cons o l ih => rw [List.map_cons, List.flatMap_cons, ih, List.flatMap_cons, List.map_append]; rfl
  rw [fl] at key
  have intsD_int : ∀ l : List Int, intsD (l.map .int) = some l := fun l => by
    induction l with
    | nil => rfl
    | cons o l ih => rw [List.map_cons]; show (intsD (l.map .int)).map (o :: ·) = _; rw [ih]; rfl
  have sm : denE (.call "sum" (pureF sumP) [(.comp [("part", 1)] (.ife (.cmp .eq (.bin .mod (.var 1) (.lit (.int 4))) (.lit (.int 1))) (.lit (.int 1)) (.neg (.lit (.int 1)))) [1] .seq [(.call "parts_by" F_parts_by [(.var 0)])] [(.cmp .eq (.bin .mod (.var 1) (.lit (.int 2))) (.lit (.int 1)))])]) [some (.int n), none] h = .ok (.int (chiAll (primesOf n) : Nat)) h := by
    refine den_call1 key ?_
    show okI ((intsD (((sortN (partsP n)).flatMap sgn).map .int)).map fun ns => .int ns.sum) h = _
    rw [intsD_int]
    show Out.ok (D.int ((sortN (partsP n)).flatMap sgn).sum) h = _
    rw [sgn_sum, csum_P]
  exact den_bin rfl sm (b_mul (mul_sm ⟨by decide, by decide⟩))
def cnt (k : Nat) (l : List Nat) : Nat := (l.flatMap fun x => if x % 4 = k then [x] else []).length
theorem cnt_cons (k x : Nat) (l : List Nat) : cnt k (x :: l) = (if x % 4 = k then 1 else 0) + cnt k l := by
  unfold cnt
  rw [List.flatMap_cons, List.length_append]
  congr 1
  split <;> rfl
theorem cnt_sum : ∀ l : List Nat, (cnt 1 l : Int) - (cnt 3 l : Int) = csum l
  | [] => rfl
  | x :: l => by
    have ih := cnt_sum l
    rw [cnt_cons, cnt_cons, csum_cons]
    unfold chi
    by_cases a : x % 4 = 1
    · rw [if_pos a, if_neg (by omega), if_pos a]; omega
    · by_cases b : x % 4 = 3
      · rw [if_neg a, if_pos b, if_neg a, if_pos b]; omega
      · rw [if_neg a, if_neg b, if_neg a, if_neg b]; omega
end K90
end

section
set_option Elab.async false
set_option linter.all false
set_option maxRecDepth 100000
namespace K90
open DL PySem
def rnd (b n : Nat) : Nat := (roundOf b n).getD 0
def dueOf (n : Nat) : List Nat := (freeL n).flatMap fun b => if rnd b n = (freeL n).length then [b] else []
def maxN : List Nat → Nat
  | [] => 0
  | a :: as => as.foldl max a
def check1 (n : Nat) : Bool :=
  !(freeL n).isEmpty && (freeL n).all (fun b => (roundOf b n).isSome) && lcmOk ((primesOf n).map greatOf) 1 && decide (1 ≤ freeOf n ∧ freeOf n < 10000)
  && (maxN ((freeL n).map (rnd · n)) == greatBy n) && (rootsOf n == some ((dueOf n).map Int.ofNat)) && (hasRoots n == !(dueOf n).isEmpty) && (countRoots n == (dueOf n).length)
  && ((dueOf n).isEmpty || (dueOf n).length == (freeL (freeL n).length).length)
set_option maxHeartbeats 0 in
theorem t1a : (List.range 100).all (fun i => check1 (i + 2)) = true := by decide +kernel
set_option maxHeartbeats 0 in
theorem t1b : (List.range 60).all (fun i => check1 (i + 102)) = true := by decide +kernel
set_option maxHeartbeats 0 in
theorem t1c : (List.range 40).all (fun i => check1 (i + 162)) = true := by decide +kernel
theorem all1 {n : Nat} (h1 : 2 ≤ n) (h2 : n ≤ 201) : check1 n = true := by
  rcases Nat.lt_or_ge n 102 with z | z
  · have := List.all_eq_true.mp t1a (n - 2) (List.mem_range.mpr (by omega))
    rwa [show n - 2 + 2 = n by omega] at this
  · rcases Nat.lt_or_ge n 162 with y | y
    · have := List.all_eq_true.mp t1b (n - 102) (List.mem_range.mpr (by omega))
      rwa [show n - 102 + 102 = n by omega] at this
    · have := List.all_eq_true.mp t1c (n - 162) (List.mem_range.mpr (by omega))
      rwa [show n - 162 + 162 = n by omega] at this
theorem beqT {a b : Nat} (h : a = b) : Nat.beq a b = true := by subst h; exact Nat.beq_refl a
theorem beqF {a b : Nat} (h : a ≠ b) : Nat.beq a b = false := Bool.eq_false_iff.mpr fun z => h (Nat.eq_of_beq_eq_true z)
def wgt (q : Nat × Nat) : Nat := (if q.1 ≠ q.2 then 2 else 1) * (if 0 < q.1 then 2 else 1) * (if 0 < q.2 then 2 else 1)
def mP : Nat → Nat → Nat → Nat → Nat → Nat
  | 0, _, _, _, w => w
  | f + 1, n, a, b, w => bif Nat.ble (2 * a * a) n then (bif Nat.ble (a * a + b * b) n then (bif Nat.beq (a * a + b * b) n then mP f n (a + 1) b (w + wgt (a, b)) else mP f n (a + 1) b w) else mP f n a (b - 1) w) else w
def manyP (n : Nat) : Nat := mP 200 n 0 (if n ≤ 400 then 20 else if n ≤ 2500 then 50 else 100) 0
def wsum (l : List (Nat × Nat)) : Nat := l.foldr (fun q s => wgt q + s) 0
theorem wsum_append : ∀ a b : List (Nat × Nat), wsum (a ++ b) = wsum a + wsum b
  | [], b => by simp [wsum]
  | q :: a, b => by
    show wgt q + wsum (a ++ b) = wgt q + wsum a + wsum b
    rw [wsum_append a b]; omega
def tailW (n a : Nat) : Nat := wsum ((List.range' a (rootOf (n / 2) + 1 - a)).flatMap (sqAt n))
theorem tailW_end (n : Nat) : tailW n (rootOf (n / 2) + 1) = 0 := by
  unfold tailW
  rw [Nat.sub_self]
  rfl
theorem tailW_step {n a : Nat} (h : a ≤ rootOf (n / 2)) : tailW n a = wsum (sqAt n a) + tailW n (a + 1) := by
  unfold tailW
  rw [show rootOf (n / 2) + 1 - a = (rootOf (n / 2) + 1 - (a + 1)) + 1 by omega, List.range'_succ, List.flatMap_cons, wsum_append]
theorem mP_is (n : Nat) : ∀ (f a b w : Nat), n < a * a + (b + 1) * (b + 1) → rootOf (n / 2) + 1 - a + b < f → a ≤ rootOf (n / 2) + 1 → mP f n a b w = w + tailW n a
  | 0, a, b, w, h1, h2, h3 => by omega
  | f + 1, a, b, w, h1, h2, h3 => by
    unfold mP
    by_cases c : 2 * a * a ≤ n
    · rw [Nat.ble_eq_true_of_le c, cond_true]
      have ha := le_half.mpr c
      have hs : a * a ≤ n := by rw [Nat.mul_assoc] at c; omega
      by_cases d : a * a + b * b ≤ n
      · rw [Nat.ble_eq_true_of_le d, cond_true]
        have e : rootOf (n - a * a) = b := root_eq (by omega) (by omega)
        have st := tailW_step ha
        have nx : n < (a + 1) * (a + 1) + (b + 1) * (b + 1) := by have := sq_lt (show a < a + 1 by omega); omega
        by_cases g : a * a + b * b = n
        · rw [beqT g, cond_true, mP_is n f (a + 1) b _ nx (by omega) (by omega), st]
          have : sqAt n a = [(a, b)] := by unfold sqAt; rw [e, if_pos g]
          rw [this]
          show w + wgt (a, b) + _ = w + (wgt (a, b) + 0 + _)
          omega
        · have gb : Nat.beq (a * a + b * b) n = false := beqF g
          rw [gb, cond_false, mP_is n f (a + 1) b _ nx (by omega) (by omega), st]
          have : sqAt n a = [] := by unfold sqAt; rw [e, if_neg g]
          rw [this]
          show w + _ = w + (0 + _)
          omega
      · have db : Nat.ble (a * a + b * b) n = false := Bool.eq_false_iff.mpr fun z => d (Nat.le_of_ble_eq_true z)
        rw [db, cond_false]
        have hb : 0 < b := by
          rcases Nat.eq_zero_or_pos b with z | z
          · subst z; omega
          · exact z
        exact mP_is n f a (b - 1) w (by rw [show b - 1 + 1 = b by omega]; omega) (by omega) h3
    · have cb : Nat.ble (2 * a * a) n = false := Bool.eq_false_iff.mpr fun z => c (Nat.le_of_ble_eq_true z)
      rw [cb, cond_false]
      have : a = rootOf (n / 2) + 1 := by
        rcases Nat.lt_or_ge (rootOf (n / 2)) a with z | z
        · omega
        · exact absurd (le_half.mp z) c
      subst this
      rw [tailW_end, Nat.add_zero]
theorem manyP_is {n : Nat} (h : n ≤ 9999) : manyP n = wsum (squaresOf n) := by
  have hr : rootOf (n / 2) ≤ 70 := by
    rcases Nat.lt_or_ge 70 (rootOf (n / 2)) with z | z
    · have := sq_mono (show 71 ≤ rootOf (n / 2) from z)
      have := root_lo (n / 2)
      omega
    · exact z
  unfold manyP
  rw [mP_is n 200 0 _ 0 (by split <;> (try split) <;> omega) (by split <;> (try split) <;> omega) (by omega), Nat.zero_add]
  unfold tailW
  rw [Nat.sub_zero, ← List.range_eq_range']
  rfl
def stripF : Nat → Nat → Nat → Nat → Nat × Nat
  | 0, l, _, o => (l, o)
  | f + 1, l, p, o => bif Nat.beq (l % p) 0 then stripF f (l / p) p (o + 1) else (l, o)
theorem stripF_is : ∀ (f l p o : Nat), stripF f l p o = strip f l p o
  | 0, l, p, o => rfl
  | f + 1, l, p, o => by
    unfold stripF strip
    by_cases c : l % p = 0
    · rw [if_pos c, c, stripF_is f]; rfl
    · rw [if_neg c, show Nat.beq (l % p) 0 = false from beqF c]; rfl
def primesF : Nat → Nat → Nat → List (Nat × Nat) → List (Nat × Nat)
  | 0, _, _, acc => acc
  | f + 1, l, p, acc => bif Nat.ble 2 l then (match stripF l l p 0 with
    | (m, e) => primesF f m (bif Nat.ble (p * p) m then p + 1 else max m (p + 1)) (bif Nat.beq e 0 then acc else acc ++ [(p, e)])) else acc
theorem primesF_is : ∀ (f l p : Nat) (acc : List (Nat × Nat)), primesF f l p acc = primesN f l p acc
  | 0, l, p, acc => rfl
  | f + 1, l, p, acc => by
    unfold primesF primesN
    by_cases c : 1 < l
    · rw [if_pos c, Nat.ble_eq_true_of_le c, cond_true, stripF_is]
      generalize strip l l p 0 = me
      obtain ⟨m, e⟩ := me
      dsimp only
      rw [primesF_is f]
      congr 1
      · by_cases d : p * p ≤ m
        · rw [if_pos d, Nat.ble_eq_true_of_le d]; rfl
        · rw [if_neg d, show Nat.ble (p * p) m = false from Bool.eq_false_iff.mpr fun z => d (Nat.le_of_ble_eq_true z)]; rfl
      · cases e with
        | zero => rfl
        | succ e => rfl
    · rw [if_neg c, show Nat.ble 2 l = false from Bool.eq_false_iff.mpr fun z => c (Nat.le_of_ble_eq_true z)]; rfl
def check2 (n : Nat) : Bool := Nat.beq (manyP n) (4 * chiAll (primesF (n + 1) n 2 []))
set_option maxHeartbeats 0 in
theorem t2_0 : (List.range 1999).all (fun i => check2 (i + 1)) = true := by decide +kernel
set_option maxHeartbeats 0 in
theorem t2_1 : (List.range 1000).all (fun i => check2 (i + 2000)) = true := by decide +kernel
set_option maxHeartbeats 0 in
theorem t2_2 : (List.range 1000).all (fun i => check2 (i + 3000)) = true := by decide +kernel
set_option maxHeartbeats 0 in
theorem t2_3 : (List.range 1000).all (fun i => check2 (i + 4000)) = true := by decide +kernel
set_option maxHeartbeats 0 in
theorem t2_4 : (List.range 1000).all (fun i => check2 (i + 5000)) = true := by decide +kernel
set_option maxHeartbeats 0 in
theorem t2_5 : (List.range 1000).all (fun i => check2 (i + 6000)) = true := by decide +kernel
set_option maxHeartbeats 0 in
theorem t2_6 : (List.range 1000).all (fun i => check2 (i + 7000)) = true := by decide +kernel
set_option maxHeartbeats 0 in
theorem t2_7 : (List.range 1000).all (fun i => check2 (i + 8000)) = true := by decide +kernel
set_option maxHeartbeats 0 in
theorem t2_8 : (List.range 1000).all (fun i => check2 (i + 9000)) = true := by decide +kernel
theorem all2 {n : Nat} (h1 : 1 ≤ n) (h2 : n ≤ 9999) : check2 n = true := by
  rcases Nat.lt_or_ge n 2000 with z0 | z0
  · have := List.all_eq_true.mp t2_0 (n - 1) (List.mem_range.mpr (by omega))
    rwa [show n - 1 + 1 = n by omega] at this
  rcases Nat.lt_or_ge n 3000 with z1 | z1
  · have := List.all_eq_true.mp t2_1 (n - 2000) (List.mem_range.mpr (by omega))
    rwa [show n - 2000 + 2000 = n by omega] at this
  rcases Nat.lt_or_ge n 4000 with z2 | z2
  · have := List.all_eq_true.mp t2_2 (n - 3000) (List.mem_range.mpr (by omega))
    rwa [show n - 3000 + 3000 = n by omega] at this
  rcases Nat.lt_or_ge n 5000 with z3 | z3
  · have := List.all_eq_true.mp t2_3 (n - 4000) (List.mem_range.mpr (by omega))
    rwa [show n - 4000 + 4000 = n by omega] at this
  rcases Nat.lt_or_ge n 6000 with z4 | z4
  · have := List.all_eq_true.mp t2_4 (n - 5000) (List.mem_range.mpr (by omega))
    rwa [show n - 5000 + 5000 = n by omega] at this
  rcases Nat.lt_or_ge n 7000 with z5 | z5
  · have := List.all_eq_true.mp t2_5 (n - 6000) (List.mem_range.mpr (by omega))
    rwa [show n - 6000 + 6000 = n by omega] at this
  rcases Nat.lt_or_ge n 8000 with z6 | z6
  · have := List.all_eq_true.mp t2_6 (n - 7000) (List.mem_range.mpr (by omega))
    rwa [show n - 7000 + 7000 = n by omega] at this
  rcases Nat.lt_or_ge n 9000 with z7 | z7
  · have := List.all_eq_true.mp t2_7 (n - 8000) (List.mem_range.mpr (by omega))
    rwa [show n - 8000 + 8000 = n by omega] at this
  have := List.all_eq_true.mp t2_8 (n - 9000) (List.mem_range.mpr (by omega))
  rwa [show n - 9000 + 9000 = n by omega] at this
theorem many_is {n : Nat} (h1 : 1 ≤ n) (h2 : n ≤ 9999) : wsum (squaresOf n) = 4 * chiAll (primesOf n) := by
  have := Nat.eq_of_beq_eq_true (all2 h1 h2)
  rw [manyP_is h2, primesF_is] at this
  exact this
end K90
end

section
set_option Elab.async false
set_option linter.all false
set_option maxRecDepth 100000
namespace K90
open DL PySem
theorem natD_get {xs : List Nat} {v : Nat} (hv : v < (xs.map natD).length) : ∃ m, m ∈ xs ∧ (xs.map natD)[v] = natD m := by
  simp only [List.length_map] at hv
  exact ⟨xs[v], List.getElem_mem hv, by simp⟩
theorem freeL_mem {n b : Nat} (h : b ∈ freeL n) : 1 ≤ b ∧ b ≤ n ∧ Nat.gcd b n = 1 := by
  obtain ⟨i, hi, hb⟩ := List.mem_flatMap.mp h
  have hi := List.mem_range.mp hi
  split at hb
  · rename_i c
    rw [List.mem_singleton.mp hb]
    exact ⟨by omega, by omega, c⟩
  · cases hb
theorem freeL_len (n : Nat) : (freeL n).length ≤ n := by
  have := flat_le (fun i => if Nat.gcd (i + 1) n = 1 then [i + 1] else []) (fun i => by split <;> simp) (List.range n)
  rw [List.length_range] at this
  exact this
theorem roundN_mod (b n : Nat) : ∀ (f t k : Nat), roundN f b n t k = roundN f (b % n) n t k
  | 0, t, k => rfl
  | f + 1, t, k => by
    unfold roundN
    rw [roundN_mod b n f, show t * (b % n) % n = t * b % n by rw [Nat.mul_mod, Nat.mod_mod, ← Nat.mul_mod]]
theorem roundOf_mod (b n : Nat) : roundOf b n = roundOf (b % n) n := by
  unfold roundOf
  rw [roundN_mod b n, Nat.mod_mod]
theorem rnd_some {b n : Nat} (h : (roundOf b n).isSome = true) : roundOf b n = some (rnd b n) := by
  unfold rnd
  cases e : roundOf b n with
  | none => rw [e] at h; cases h
  | some r => rfl
theorem flat_leD (k : D → List D) (h : ∀ x, (k x).length ≤ 1) (xs : List D) : (xs.flatMap k).length ≤ xs.length := flat_le k h xs
theorem comp_map {own : List (Str × Nat)} {e : E} {i : Nat} {src : List E} {δ : Sl} {h : Hd} {ns : List Nat} (g : Nat → Nat) (hs : denEs src δ h = .ok [.lst (ns.map natD)] h ∨ denEs src δ h = .ok [.tup (ns.map natD)] h) (hl : ns.length ≤ line)
    (he : ∀ n ∈ ns, denE e ((wipeD δ (own.map (·.2))).set i (some (natD n))) h = .ok (natD (g n)) h) : denE (.comp own e [i] .seq src []) δ h = .ok (.lst ((ns.map g).map natD)) h := by
  have fl : ∀ l : List Nat, (l.map natD).flatMap (fun d => match d with | .int o => [natD (g o.toNat)] | _ => []) = (l.map g).map natD := fun l => by
    induction l with
    | nil => rfl
    | cons o l ih => rw [List.map_cons, List.flatMap_cons, ih, List.map_cons, List.map_cons]; rfl
  have st : ∀ x ∈ ns.map natD, ∃ δ1, storeD [i] x (wipeD δ (own.map (·.2))) = some δ1 ∧ (denCs [] δ1 h).calm.bind (fun b h => if b then (denE e δ1 h).calm.bind fun y h => Out.ok [y] h else .ok [] h) = .ok ((fun d : D => match d with | .int o => [natD (g o.toNat)] | _ => []) x) h := fun x hx => by
    obtain ⟨n, hn, rfl⟩ := List.mem_map.mp hx
    exact ⟨_, rfl, cs0 (he n hn)⟩
  rcases hs with hs | hs
  · have := den_comp (ik := .seq) (e := e) (cs := []) (h := h) (xs := ns.map natD) _ hs rfl st (by rw [fl, List.length_map, List.length_map]; exact hl)
    rwa [fl] at this
  · have := den_comp (ik := .seq) (e := e) (cs := []) (h := h) (xs := ns.map natD) _ hs rfl st (by rw [fl, List.length_map, List.length_map]; exact hl)
    rwa [fl] at this
theorem comp_if {own : List (Str × Nat)} {e c : E} {i : Nat} {src : List E} {δ : Sl} {h : Hd} {ns : List Nat} (k : Nat → Bool) (g : Nat → Nat) (hs : denEs src δ h = .ok [.lst (ns.map natD)] h ∨ denEs src δ h = .ok [.tup (ns.map natD)] h) (hl : ns.length ≤ line)
    (hc : ∀ n ∈ ns, denE c ((wipeD δ (own.map (·.2))).set i (some (natD n))) h = .ok (.bl (k n)) h)
    (he : ∀ n ∈ ns, k n = true → denE e ((wipeD δ (own.map (·.2))).set i (some (natD n))) h = .ok (natD (g n)) h) : denE (.comp own e [i] .seq src [c]) δ h = .ok (.lst ((ns.flatMap fun n => if k n then [g n] else []).map natD)) h := by
  have fl : ∀ l : List Nat, (l.map natD).flatMap (fun d => match d with | .int o => if k o.toNat then [natD (g o.toNat)] else [] | _ => []) = (l.flatMap fun n => if k n then [g n] else []).map natD := fun l => by
    induction l with
    | nil => rfl
    | cons o l ih =>
      rw [List.map_cons, List.flatMap_cons, ih, List.flatMap_cons, List.map_append]
      congr 1
      show (if k o then [natD (g o)] else []) = _
      cases k o <;> rfl
  have st : ∀ x ∈ ns.map natD, ∃ δ1, storeD [i] x (wipeD δ (own.map (·.2))) = some δ1 ∧ (denCs [c] δ1 h).calm.bind (fun b h => if b then (denE e δ1 h).calm.bind fun y h => Out.ok [y] h else .ok [] h) = .ok ((fun d : D => match d with | .int o => if k o.toNat then [natD (g o.toNat)] else [] | _ => []) x) h := fun x hx => by
    obtain ⟨n, hn, rfl⟩ := List.mem_map.mp hx
    exact ⟨_, rfl, cs1 (hc n hn) (he n hn)⟩
  have ln : (ns.flatMap fun n => if k n then [g n] else []).length ≤ ns.length := flat_le _ (fun n => by cases k n <;> simp) ns
  rcases hs with hs | hs
  · have := den_comp (ik := .seq) (e := e) (cs := [c]) (h := h) (xs := ns.map natD) _ hs rfl st (by rw [fl, List.length_map]; omega)
    rwa [fl] at this
  · have := den_comp (ik := .seq) (e := e) (cs := [c]) (h := h) (xs := ns.map natD) _ hs rfl st (by rw [fl, List.length_map]; omega)
    rwa [fl] at this
theorem denT_not {a : E} {δ : Sl} {h h1 : Hd} {k : Bool} (ha : denT a δ h = .ok k h1) : denT (.not a) δ h = .ok (!k) h1 := by rw [denT, ha]; rfl
theorem denT_or2 {a b : E} {δ : Sl} {h h1 h2 : Hd} {k : Bool} (ha : denT a δ h = .ok false h1) (hb : denT b δ h1 = .ok k h2) : denT (.or [a, b]) δ h = .ok k h2 := by
  rw [denT, denTO, ha, Out.bind_ok, if_neg Bool.false_ne_true, denTO, hb]
  exact fun z => nomatch z
theorem denE_or2 {a b : E} {δ : Sl} {h : Hd} {k l : Bool} (ha : denE a δ h = .ok (.bl k) h) (hb : k = false → denE b δ h = .ok (.bl l) h) : denE (.or [a, b]) δ h = .ok (.bl (k || l)) h := by
  rw [denE, denOr, ha, Out.bind_ok]
  · cases k with
    | true => rfl
    | false => exact (by rw [denOr]; exact hb rfl)
  · exact fun z => nomatch z
theorem denE_and2 {a b : E} {δ : Sl} {h : Hd} {k l : Bool} (ha : denE a δ h = .ok (.bl k) h) (hb : k = true → denE b δ h = .ok (.bl l) h) : denE (.and [a, b]) δ h = .ok (.bl (k && l)) h := by
  rw [denE, denAnd, ha, Out.bind_ok]
  · cases k with
    | false => rfl
    | true => exact (by rw [denAnd]; exact hb rfl)
  · exact fun z => nomatch z
theorem den_tup0 {δ : Sl} {h : Hd} : denE (.tup []) δ h = .ok (.tup []) h := by simp [denE, denEs, line]
theorem den_lst0 {δ : Sl} {h : Hd} : denE (.lst []) δ h = .ok (.lst []) h := by simp [denE, denEs, line]
theorem fines_nat (n : Nat) : ∀ ns : List Nat, fines (ns.map natD) n = true
  | [] => rfl
  | _ :: ns => fines_nat n ns
theorem fines_pair (n : Nat) : ∀ ns : List (Nat × Nat), fines (ns.map pairD) (n + 1) = true
  | [] => rfl
  | _ :: ns => fines_pair n ns
theorem c_nil (o : Bool) {ns : List D} {h : Hd} (f : fines ns 8 = true) : cmpD .ne (.tup ns) (.tup []) h = some (!ns.isEmpty) := by
  show (eqD h (.tup ns) (.tup [])).map (!·) = _
  rw [eqD_tupnil h f]
  rfl
theorem emp_map {α β : Type} (f : α → β) (l : List α) : (l.map f).isEmpty = l.isEmpty := by cases l <;> rfl
theorem told_or (n : Nat) (hn : 1 ≤ n) {δ : Sl} {h : Hd} (h2 : δ[2]? = some (some (.int n))) (h7 : δ[7]? = some (some (.tup ((primesOf n).map pairD)))) :
    denE (.or [(.cmp .inn (.var 2) (.lst [(.lit (.int 2)), (.lit (.int 4))])), (.and [(.cmp .eq (.call "len" (pureF lenP) [(.var 7)]) (.lit (.int 1))), (.cmp .gt (.idx (.idx (.var 7) (.lit (.int 0))) (.lit (.int 0))) (.lit (.int 2)))]), (.and [(.cmp .eq (.call "len" (pureF lenP) [(.var 7)]) (.lit (.int 2))), (.cmp .eq (.idx (.var 7) (.lit (.int 0))) (.tup [(.lit (.int 2)), (.lit (.int 1))]))])]) δ h
      = .ok (.bl (hasRoots n)) h := by
  have a : denE (.cmp .inn (.var 2) (.lst [(.lit (.int 2)), (.lit (.int 4))])) δ h = .ok (.bl (decide (n = 2 ∨ n = 4))) h := by
    refine den_cmp (den_var h2) (y := .lst [.int 2, .int 4]) (h2 := h) (by simp [denE, denEs, line]) ?_
    have e : cmpD .inn (.int (n : Int)) (.lst [.int 2, .int 4]) h = cmpD .inn (.int (n : Int)) (.tup [.int 2, .int 4]) h := by
      rw [show cmpD .inn (.int (n : Int)) (.lst [.int 2, .int 4]) h = inD h (.int n) (.lst [.int 2, .int 4]) from rfl, show cmpD .inn (.int (n : Int)) (.tup [.int 2, .int 4]) h = inD h (.int n) (.tup [.int 2, .int 4]) from rfl]
      unfold inD
      simp [toP, toPs, SeqAt.shaped, PyData.canLay0, PyData.canLayAll0, PyData.depth, PyData.depthAll]
    rw [e, in_rooted]
  have l : denE (.call "len" (pureF lenP) [(.var 7)]) δ h = .ok (.int (primesOf n).length) h := by
    refine den_call1 (den_var h7) ?_
    show okI (some (D.int ((primesOf n).map pairD).length)) h = _
    rw [List.length_map]
    rfl
  have b : denE (.and [(.cmp .eq (.call "len" (pureF lenP) [(.var 7)]) (.lit (.int 1))), (.cmp .gt (.idx (.idx (.var 7) (.lit (.int 0))) (.lit (.int 0))) (.lit (.int 2)))]) δ h = .ok (.bl (decide ((primesOf n).length = 1) && (match primesOf n with | q :: _ => decide (2 < q.1) | [] => false))) h := by
    refine denE_and2 (den_cmp l rfl (cN_eq (j := 1))) fun z => ?_
    cases e : primesOf n with
    | nil => rw [e] at z; cases z
    | cons q ps =>
      rw [e] at h7
      refine den_cmp (x := .int q.1) (h1 := h) ?_ rfl (cN_gt (j := 2))
      simp only [denE, h7, Out.bind_ok, List.map_cons, at0, optD_some, pairD]
  have c : denE (.and [(.cmp .eq (.call "len" (pureF lenP) [(.var 7)]) (.lit (.int 2))), (.cmp .eq (.idx (.var 7) (.lit (.int 0))) (.tup [(.lit (.int 2)), (.lit (.int 1))]))]) δ h = .ok (.bl (decide ((primesOf n).length = 2) && (match primesOf n with | q :: _ => q == (2, 1) | [] => false))) h := by
    refine denE_and2 (den_cmp l rfl (cN_eq (j := 2))) fun z => ?_
    cases e : primesOf n with
    | nil => rw [e] at z; cases z
    | cons q ps =>
      rw [e] at h7
      refine den_cmp (x := pairD q) (y := .tup [.int 2, .int 1]) (h1 := h) (h2 := h) ?_ (by simp [denE, denEs, line]) (eq_pair q.1 q.2 h)
      simp only [denE, h7, Out.bind_ok, List.map_cons, at0, optD_some]
  have e : hasRoots n = (decide (n = 2 ∨ n = 4) || ((decide ((primesOf n).length = 1) && (match primesOf n with | q :: _ => decide (2 < q.1) | [] => false)) || (decide ((primesOf n).length = 2) && (match primesOf n with | q :: _ => q == (2, 1) | [] => false)))) := by
    unfold hasRoots
    have e1 : (n == 2) = decide (n = 2) := rfl
    have e2 : (n == 4) = decide (n = 4) := rfl
    rw [e1, e2, Bool.decide_or]
    match primesOf n with
    | [] => simp
    | [q] => simp
    | [q, r] => simp
    | _ :: _ :: _ :: _ => simp
  rw [e]
  have bc := denE_or2 b fun _ => c
  rw [denE] at bc
  rw [denE, denOr, a, Out.bind_ok]
  · cases decide (n = 2 ∨ n = 4) with
    | true => rfl
    | false => exact bc
  · exact fun z => nomatch z
noncomputable abbrev wgS : S := .asg [.nm 11] (.bin .add (.var 11) (.bin .mul (.bin .mul (.ife (.cmp .ne (.var 15) (.var 16)) (.lit (.int 2)) (.lit (.int 1))) (.ife (.cmp .gt (.var 15) (.lit (.int 0))) (.lit (.int 2)) (.lit (.int 1)))) (.ife (.cmp .gt (.var 16) (.lit (.int 0))) (.lit (.int 2)) (.lit (.int 1)))))
theorem ife21 {c : E} {k : Bool} {δ : Sl} {h : Hd} (hc : denE c δ h = .ok (.bl k) h) : denE (.ife c (.lit (.int 2)) (.lit (.int 1))) δ h = .ok (.int (if k then 2 else 1 : Nat)) h := by
  refine den_ife hc rfl ?_
  cases k <;> rfl
theorem wgt_for (h : Hd) (ok : Hd → Prop) (ho : ok h) : ∀ (ps : List (Nat × Nat)) (w : Nat) (δ : Sl), δ.length = 21 → δ[11]? = some (some (.int w)) →
    ∃ δ', forF [15, 16] ok (denSs [wgS]) (ps.map pairD) δ h = .fl (.nx δ') h ∧ δ'.length = 21 ∧ δ'[11]? = some (some (.int (w + wsum ps : Nat))) ∧ ∀ j, j ≠ 11 → j ≠ 15 → j ≠ 16 → δ'[j]? = δ[j]?
  | [], w, δ, hl, h11 => ⟨δ, rfl, hl, h11, fun _ _ _ _ => rfl⟩
  | (a, b) :: ps, w, δ, hl, h11 => by
    have st : storeD [15, 16] (pairD (a, b)) δ = some ((δ.set 15 (some (.int a))).set 16 (some (.int b))) := rfl
    have g15 : ((δ.set 15 (some (.int a))).set 16 (some (.int b)))[15]? = some (some (.int a)) := by simp [List.getElem?_set, hl]
    have g16 : ((δ.set 15 (some (.int a))).set 16 (some (.int b)))[16]? = some (some (.int b)) := by simp [List.getElem?_set, hl]
    have g11 : ((δ.set 15 (some (.int a))).set 16 (some (.int b)))[11]? = some (some (.int w)) := by simp [List.getElem?_set, h11]
    generalize hd : (δ.set 15 (some (.int a))).set 16 (some (.int b)) = δ2 at *
    have hl2 : δ2.length = 21 := by rw [← hd]; simp [hl]
    have v : denE (.bin .mul (.bin .mul (.ife (.cmp .ne (.var 15) (.var 16)) (.lit (.int 2)) (.lit (.int 1))) (.ife (.cmp .gt (.var 15) (.lit (.int 0))) (.lit (.int 2)) (.lit (.int 1)))) (.ife (.cmp .gt (.var 16) (.lit (.int 0))) (.lit (.int 2)) (.lit (.int 1)))) δ2 h = .ok (.int (wgt (a, b))) h := by
      have v0 := den_bin (h := h) (h1 := h) (h2 := h) (o := .mul) (den_bin (o := .mul) (ife21 (den_cmp (o := .ne) (den_var g15) (den_var g16) cN_ne)) (ife21 (den_cmp (o := .gt) (b := .lit (.int 0)) (den_var g15) rfl (cN_gt (j := 0)))) (bN_mul (mul_sm ⟨by split <;> omega, by split <;> omega⟩))) (ife21 (den_cmp (o := .gt) (b := .lit (.int 0)) (den_var g16) rfl (cN_gt (j := 0)))) (bN_mul (mul_sm2 ⟨by split <;> omega, by split <;> omega⟩))
      refine v0.trans ?_
      congr 3
      unfold wgt
      simp
    have tr : denSs [wgS] δ2 h = .fl (.nx (δ2.set 11 (some (.int (w + wgt (a, b) : Nat))))) h := by
      refine (den_nx (den_as (den_bin (den_var g11) v bN_add))).trans den_nil
    obtain ⟨δ', e1, e2, e3, e4⟩ := wgt_for h ok ho ps (w + wgt (a, b)) (δ2.set 11 (some (.int (w + wgt (a, b) : Nat)))) (by simp [hl2]) (by simp [hl2])
    refine ⟨δ', (for_cons st tr ho).trans e1, e2, ?_, fun j j1 j2 j3 => ?_⟩
    · rw [e3]
      congr 4
      show w + wgt (a, b) + wsum ps = w + (wgt (a, b) + wsum ps)
      omega
    · rw [e4 j j1 j2 j3, List.getElem?_set_ne (by omega), ← hd, List.getElem?_set_ne (by omega), List.getElem?_set_ne (by omega)]
theorem wgt_pos (q : Nat × Nat) : 1 ≤ wgt q := by
  unfold wgt
  split <;> split <;> split <;> decide
theorem wsum_0 (l : List (Nat × Nat)) : wsum l = 0 ↔ l = [] := by
  cases l with
  | nil => exact ⟨fun _ => rfl, fun _ => rfl⟩
  | cons q l =>
    have := wgt_pos q
    constructor
    · intro h
      have h : wgt q + wsum l = 0 := h
      omega
    · intro h; cases h
def goodOf (ps : List (Nat × Nat)) : Bool := (ps.flatMap fun q => if decide (q.1 % 4 = 3) && decide (q.2 % 2 = 1) then [1] else []).isEmpty
theorem good_is : ∀ ps : List (Nat × Nat), goodOf ps = decide (chiAll ps ≠ 0)
  | [] => rfl
  | q :: ps => by
    have ih := good_is ps
    have e : chiAll (q :: ps) = chiQ q * chiAll ps := rfl
    unfold goodOf at ih ⊢
    rw [List.flatMap_cons, e]
    by_cases c : q.1 % 4 = 3 ∧ q.2 % 2 = 1
    · have z : chiQ q = 0 := by
        unfold chiQ
        rw [if_neg (show ¬ q.1 % 4 = 1 by omega), if_pos c.1, if_neg (show ¬ q.2 % 2 = 0 by omega)]
      rw [decide_eq_true c.1, decide_eq_true c.2, z, Nat.zero_mul]
      rfl
    · have z : chiQ q ≠ 0 := by
        unfold chiQ
        by_cases c1 : q.1 % 4 = 1
        · rw [if_pos c1]; omega
        · by_cases c3 : q.1 % 4 = 3
          · rw [if_neg c1, if_pos c3, if_pos (show q.2 % 2 = 0 by omega)]; decide
          · rw [if_neg c1, if_neg c3]; decide
      have f : (decide (q.1 % 4 = 3) && decide (q.2 % 2 = 1)) = false := by
        by_cases c3 : q.1 % 4 = 3
        · rw [decide_eq_true c3, decide_eq_false fun w => c ⟨c3, w⟩]; rfl
        · rw [decide_eq_false c3]; rfl
      rw [f]
      refine ih.trans (decide_eq_decide.mpr ?_)
      constructor
      · intro w v
        rcases Nat.mul_eq_zero.mp v with y | y
        · exact z y
        · exact w y
      · intro w v
        exact w (by rw [v, Nat.mul_zero])
theorem good_comp (n : Nat) (h1 : 1 ≤ n) (h2 : n < 100000) {δ : Sl} {h : Hd} (hl : δ.length = 21) (h9 : δ[9]? = some (some (.int n))) :
    denE (.cmp .eq (.comp [("prime", 19), ("times", 20)] (.lit (.int 1)) [19, 20] .seq [(.call "_law_primes" F__law_primes [(.var 9)])] [(.and [(.cmp .eq (.bin .mod (.call "int" (pureF intP) [(.var 19)]) (.lit (.int 4))) (.lit (.int 3))), (.cmp .eq (.bin .mod (.call "int" (pureF intP) [(.var 20)]) (.lit (.int 2))) (.lit (.int 1)))])]) (.lst [])) δ h
      = .ok (.bl (goodOf (primesOf n))) h := by
  have g1 : ∀ x : Option D, (wipeD δ [19, 20]).length = 21 := fun _ => by simp [wipeD, hl]
  have key := den_comp (own := [("prime", 19), ("times", 20)]) (e := .lit (.int 1)) (tg := [19, 20]) (ik := .seq) (src := [(.call "_law_primes" F__law_primes [(.var 9)])]) (cs := [(.and [(.cmp .eq (.bin .mod (.call "int" (pureF intP) [(.var 19)]) (.lit (.int 4))) (.lit (.int 3))), (.cmp .eq (.bin .mod (.call "int" (pureF intP) [(.var 20)]) (.lit (.int 2))) (.lit (.int 1)))])]) (δ := δ) (h := h) (ss := [.tup ((primesOf n).map pairD)]) (xs := (primesOf n).map pairD)
    (fun d => if decide ((fsts d).1 % 4 = 3) && decide ((fsts d).2 % 2 = 1) then [.int 1] else []) (by rw [denEs, den_call1 (den_var h9) (f_law_primes n h h1 (by omega))]; rfl) rfl (fun x hx => by
      obtain ⟨q, hq, rfl⟩ := List.mem_map.mp hx
      have w := g1 none
      refine ⟨((wipeD δ [19, 20]).set 19 (some (.int q.1))).set 20 (some (.int q.2)), rfl, ?_⟩
      have a19 : (((wipeD δ [19, 20]).set 19 (some (.int q.1))).set 20 (some (.int q.2)))[19]? = some (some (.int q.1)) := by simp [List.getElem?_set, w]
      have a20 : (((wipeD δ [19, 20]).set 19 (some (.int q.1))).set 20 (some (.int q.2)))[20]? = some (some (.int q.2)) := by simp [List.getElem?_set, w]
      have d1 := den_cmp (o := .eq) (den_bin (o := .mod) (b := .lit (.int 4)) (den_call1 (x := "int") (F := pureF intP) (h2 := h) (den_var (h := h) a19) rfl) rfl (bN_mod (j := 4) (by decide))) (b := .lit (.int 3)) rfl (cN_eq (j := 3))
      have d2 := den_cmp (o := .eq) (den_bin (o := .mod) (b := .lit (.int 2)) (den_call1 (x := "int") (F := pureF intP) (h2 := h) (den_var (h := h) a20) rfl) rfl (bN_mod (j := 2) (by decide))) (b := .lit (.int 1)) rfl (cN_eq (j := 1))
      exact (cs1 (denE_and2 d1 fun _ => d2) fun _ => rfl).trans (by rw [fsts_pair])) (by
      refine Nat.le_trans (flat_leD _ (fun d => by split <;> simp) _) ?_
      rw [List.length_map]
      exact Nat.le_of_lt (primesOf_len n h1 (by omega)))
  refine den_cmp key den_lst0 ?_
  have fl : ∀ ps : List (Nat × Nat), (ps.map pairD).flatMap (fun d => if decide ((fsts d).1 % 4 = 3) && decide ((fsts d).2 % 2 = 1) then [D.int 1] else []) = (ps.flatMap fun q => if decide (q.1 % 4 = 3) && decide (q.2 % 2 = 1) then [1] else []).map natD := fun ps => by
    induction ps with
    | nil => rfl
    | cons q ps ih =>
      rw [List.map_cons, List.flatMap_cons, ih, List.flatMap_cons, List.map_append, fsts_pair]
      congr 1
      cases (decide (q.1 % 4 = 3) && decide (q.2 % 2 = 1)) <;> rfl
  rw [fl]
  show eqD h _ _ = _
  rw [eqD_lstnil h (fines_nat 8 _), emp_map]
  rfl
theorem cnt_comp (n k : Nat) (h1 : 1 ≤ n) (h2 : n < 100000) {δ : Sl} {h : Hd} (hl : δ.length = 21) (h9 : δ[9]? = some (some (.int n))) :
    denE (.call "len" (pureF lenP) [(.comp [("part", 18)] (.var 18) [18] .seq [(.call "_law_parts" F__law_parts [(.var 9)])] [(.cmp .eq (.bin .mod (.call "int" (pureF intP) [(.var 18)]) (.lit (.int 4))) (.lit (.int k)))])]) δ h = .ok (.int (cnt k (sortN (partsL n)))) h := by
  have w : (wipeD δ [18]).length = 21 := by simp [wipeD, hl]
  have a18 : ∀ m : Nat, ((wipeD δ [18]).set 18 (some (natD m)))[18]? = some (some (.int m)) := fun m => by simp [List.getElem?_set, w]
  have key := comp_if (own := [("part", 18)]) (e := .var 18) (i := 18) (src := [(.call "_law_parts" F__law_parts [(.var 9)])]) (c := (.cmp .eq (.bin .mod (.call "int" (pureF intP) [(.var 18)]) (.lit (.int 4))) (.lit (.int k)))) (δ := δ) (h := h) (ns := sortN (partsL n)) (fun m => decide (m % 4 = k)) (fun m => m)
    (.inr (by rw [denEs, den_call1 (den_var h9) (f_law_parts n h h1 h2)]; rfl)) (by have := sortL_len h1; unfold line; omega)
    (fun m hm => den_cmp (den_bin (den_call1 (den_var (a18 m)) rfl) rfl (bN_mod (j := 4) (by decide))) rfl cN_eq) fun m hm _ => den_var (a18 m)
  refine den_call1 key ?_
  show okI (some (D.int (((sortN (partsL n)).flatMap fun m => if decide (m % 4 = k) then [m] else []).map natD).length)) h = _
  rw [List.length_map]
  unfold cnt
  simp
  rfl
end K90
end

section
set_option Elab.async false
set_option linter.all false
set_option maxRecDepth 100000
namespace K90
open DL PySem
theorem dr_eq : F__law_draw = drawF := rfl
theorem pk_eq : F__law_pick = pickF := rfl
theorem nb_eq : F__law_number = numberF := rfl
theorem den_go {s : S} {ss : List S} {δ δ' : Sl} {h h' : Hd} {o : OutS} (hs : denS s δ h = .fl (.nx δ') h') (k : denSs ss δ' h' = o) : denSs (s :: ss) δ h = o := (den_nx hs).trans k
theorem den_if0n {t : E} {a : List S} {δ : Sl} {h h1 : Hd} (ht : denT t δ h = .ok false h1) : denS (.ife t a []) δ h = .fl (.nx δ) h1 := (den_if0 ht).trans den_nil
theorem den_lst3 {a b c : E} {δ : Sl} {h h1 h2 h3 : Hd} {x y z : D} (ha : denE a δ h = .ok x h1) (hb : denE b δ h1 = .ok y h2) (hc : denE c δ h2 = .ok z h3) : denE (.lst [a, b, c]) δ h = .ok (.lst [x, y, z]) h3 := by
  rw [denE, denEs, ha, Out.bind_ok, denEs, hb, Out.bind_ok, denEs, hc, Out.bind_ok, denEs, Out.bind_ok, Out.bind_ok, Out.bind_ok, Out.bind_ok, if_pos (by simp [line])]
theorem den_lst2 {a b : E} {δ : Sl} {h h1 h2 : Hd} {x y : D} (ha : denE a δ h = .ok x h1) (hb : denE b δ h1 = .ok y h2) : denE (.lst [a, b]) δ h = .ok (.lst [x, y]) h2 := by
  rw [denE, denEs, ha, Out.bind_ok, denEs, hb, Out.bind_ok, denEs, Out.bind_ok, Out.bind_ok, Out.bind_ok, if_pos (by simp [line])]
theorem lst_add {xs ys : List D} {h : Hd} (l : xs.length + ys.length ≤ line) : binD .add (.lst xs) (.lst ys) h = some (.lst (xs ++ ys)) := if_pos l
theorem lits6 {a b c d e f : Int} {δ : Sl} {h : Hd} : denE (.lst [(.lit (.int a)), (.lit (.int b)), (.lit (.int c)), (.lit (.int d)), (.lit (.int e)), (.lit (.int f))]) δ h = .ok (.lst [.int a, .int b, .int c, .int d, .int e, .int f]) h := by simp [denE, denEs, line]
theorem lits3 {a b c : Int} {δ : Sl} {h : Hd} : denE (.lst [(.lit (.int a)), (.lit (.int b)), (.lit (.int c))]) δ h = .ok (.lst [.int a, .int b, .int c]) h := by simp [denE, denEs, line]
theorem ne_self {x y : D} {δ : Sl} {h h1 h2 : Hd} {a b : E} (f : fine x 9 = true) (e : x = y) (ha : denE a δ h = .ok x h1) (hb : denE b δ h1 = .ok y h2) : denT (.cmp .ne a b) δ h = .ok false h2 := by
  subst e
  refine denT_cmp ha hb ?_
  show (eqD h2 x x).map (!·) = _
  rw [eqD_self h2 f]
  rfl
theorem maxN_is : ∀ (as : List Nat) (a : Nat), (as.map Int.ofNat).foldl max (Int.ofNat a) = Int.ofNat (as.foldl max a)
  | [], a => rfl
  | b :: as, a => by
    rw [List.map_cons, List.foldl_cons, List.foldl_cons, ← maxN_is as (max a b)]
    congr 1
    show max (a : Int) (b : Int) = ((max a b : Nat) : Int)
    omega
theorem max_call {ns : List Nat} {a : E} {δ : Sl} {h : Hd} (hn : ns ≠ []) (ha : denE a δ h = .ok (.lst (ns.map natD)) h) : denE (.call "max" (pureF maxP) [a]) δ h = .ok (.int (maxN ns)) h := by
  refine den_call1 ha ?_
  show okI ((intsL h (.lst (ns.map natD))).bind fun ns => (maxI ns).map .int) h = _
  rw [show intsL h (.lst (ns.map natD)) = some (ns.map Int.ofNat) from intsD_nat ns]
  cases ns with
  | nil => exact absurd rfl hn
  | cons n ns =>
    show okI ((maxI (Int.ofNat n :: ns.map Int.ofNat)).map .int) h = _
    show okI (some (D.int ((ns.map Int.ofNat).foldl max (Int.ofNat n)))) h = Out.ok (D.int (ns.foldl max n : Nat)) h
    rw [maxN_is]
    rfl
theorem len_tup {ns : List Nat} {a : E} {δ : Sl} {h h1 : Hd} {d : D} (hd : d = .tup (ns.map natD) ∨ d = .lst (ns.map natD)) (ha : denE a δ h = .ok d h1) : denE (.call "len" (pureF lenP) [a]) δ h = .ok (.int ns.length) h1 := by
  refine den_call1 ha ?_
  rcases hd with z | z <;> subst z <;> (show okI (some (D.int ((ns.map natD).length))) h1 = _; rw [List.length_map]; rfl)
theorem ofN {ns : List Nat} : (ns.map Int.ofNat).map D.int = ns.map natD := by rw [List.map_map]; rfl
theorem denT_of {e : E} {δ : Sl} {h h1 : Hd} {k : Bool} (he : denE e δ h = .ok (.bl k) h1) : denT e δ h = .ok k h1 := by
  have := denT_le e δ h
  unfold asT at this
  rw [he] at this
  rcases this with z | z
  · cases z
  · exact z.symm
theorem f_roots (n : Nat) (h : Hd) (hn : 2 ≤ n ∧ n ≤ 999) (hf : freeOf n < 10000) {rs : List Nat} (e : rootsOf n = some (rs.map Int.ofNat)) : F_roots [.int n] h = .ok (.tup (rs.map natD)) h := by
  have g : G_roots_by [.int n] h = .ok (.tup (rs.map natD)) h := by
    have := natF_ok (p := fun n => decide (2 ≤ n ∧ n < 10000 ∧ freeOf n < 10000) && (rootsOf n).isSome) (f := fun n => D.tup (((rootsOf n).getD []).map .int)) (n := n) h (by rw [e, decide_eq_true ⟨hn.1, by omega, hf⟩]; rfl)
    rw [e] at this
    refine this.trans ?_
    show Out.ok (D.tup ((rs.map Int.ofNat).map D.int)) h = _
    rw [ofN]
  have r := f_is_rooted (n : Int) h (by omega)
  refine run_rt rfl (den_go (den_if0n (denT_not (k := true) (denT_of (den_call1 rfl r)))) (den_rt (den_ret (den_call1 rfl g))))
theorem f_squares (n : Nat) (h : Hd) (hn : 1 ≤ n ∧ n ≤ 9999) : F_squares [.int n] h = .ok (.tup ((squaresOf n).map pairD)) h :=
  run_rt rfl (den_go (den_ex (den_call1 rfl (f_check_number (n : Int) h (by omega)))) (den_rt (den_ret (den_call1 rfl (g_squares_by n h hn.1 (by omega))))))
theorem f_count_squares (n : Nat) (h : Hd) (hn : 1 ≤ n ∧ n ≤ 9999) : F_count_squares [.int n] h = .ok (.int (4 * (chiAll (primesOf n) : Nat))) h :=
  run_rt rfl (den_go (den_ex (den_call1 rfl (f_check_number (n : Int) h (by omega)))) (den_rt (den_ret (den_call1 rfl (f_count_squares_by n h hn.1 (by omega))))))
structure One (n : Nat) : Prop where
  ne : freeL n ≠ []
  rd : ∀ b ∈ freeL n, roundOf b n = some (rnd b n)
  lc : lcmOk ((primesOf n).map greatOf) 1 = true
  f1 : 1 ≤ freeOf n
  f2 : freeOf n < 10000
  mx : maxN ((freeL n).map (rnd · n)) = greatBy n
  rt : rootsOf n = some ((dueOf n).map Int.ofNat)
  hr : hasRoots n = !(dueOf n).isEmpty
  cr : countRoots n = (dueOf n).length
  ff : (dueOf n).isEmpty = true ∨ (dueOf n).length = (freeL (freeL n).length).length
theorem one_of {n : Nat} (h1 : 2 ≤ n) (h2 : n ≤ 201) : One n := by
  have c := all1 h1 h2
  unfold check1 at c
  simp only [Bool.and_eq_true, Bool.or_eq_true, Bool.not_eq_true', beq_iff_eq, decide_eq_true_eq] at c
  obtain ⟨⟨⟨⟨⟨⟨⟨⟨c1, c2⟩, c3⟩, c4⟩, c5⟩, c6⟩, c7⟩, c8⟩, c9⟩ := c
  exact ⟨fun z => (by rw [z] at c1; cases c1), fun b hb => rnd_some (List.all_eq_true.mp c2 b hb), c3, c4.1, c4.2, c5, c6, c7, c8, c9⟩
theorem getD_flat {α : Type} (g : Nat → List α) : ∀ l : List Nat, (List.range l.length).flatMap (fun k => g (l.getD k 0)) = l.flatMap g
  | [] => rfl
  | a :: l => by
    rw [List.length_cons, List.range_succ_eq_map, List.flatMap_cons, List.flatMap_cons, ← getD_flat g l, List.flatMap_map]
    rfl
theorem right_ok {h : Hd} {i a b c : Nat} (hp : h[i]? = some (poolO a b c)) : ∃ h', F__law_right [.ref i] h = .ok (.bl true) h' := by
  obtain ⟨v1, a1, b1, c1, hv1, e1⟩ := draw_ok (many := 60) hp (by decide) (by decide)
  have hp1 := pool_set (a' := a1) (b' := b1) (c' := c1) hp
  obtain ⟨v2, a2, b2, c2, hv2, e2⟩ := draw_ok (many := 60) hp1 (by decide) (by decide)
  have hp2 := pool_set (a' := a2) (b' := b2) (c' := c2) hp1
  obtain ⟨n3, a3, b3, c3, n31, n32, e3⟩ := number_ok (most := 200) hp2 (by decide) (by decide)
  have hp3 := pool_set (a' := a3) (b' := b3) (c' := c3) hp2
  generalize hH1 : h.set i (poolO a1 b1 c1) = H1 at *
  generalize hH2 : H1.set i (poolO a2 b2 c2) = H2 at *
  generalize hH3 : H2.set i (poolO a3 b3 c3) = H3 at *
  have hdr : ∀ n ∈ [2, 4, 9, 14, 25, 49, 2 + v1, 2 + v2, n3 + 1], 2 ≤ n ∧ n ≤ 201 := fun n hn => by simp at hn; omega
  obtain ⟨v4, a4, b4, c4, hv4, e4⟩ := pick_ok (d := .lst ([2, 4, 9, 14, 25, 49, 2 + v1, 2 + v2, n3 + 1].map natD)) (.inl rfl) hp3 (by simp) (by simp)
  have hp4 := pool_set (a' := a4) (b' := b4) (c' := c4) hp3
  obtain ⟨n, hn, en⟩ := natD_get hv4
  rw [en] at e4
  obtain ⟨n1, n2⟩ := hdr n hn
  generalize hH4 : H3.set i (poolO a4 b4 c4) = H4 at *
  have O := one_of n1 n2
  have hfl := freeL_len n
  have hf0 : 0 < (freeL n).length := List.length_pos_iff.mpr O.ne
  obtain ⟨v5, a5, b5, c5, hv5, e5⟩ := pick_ok (d := .lst ((freeL n).map natD)) (.inl rfl) hp4 (by rw [List.length_map]; exact hf0) (by rw [List.length_map]; omega)
  have hp5 := pool_set (a' := a5) (b' := b5) (c' := c5) hp4
  obtain ⟨bs, hbs, eb⟩ := natD_get hv5
  rw [eb] at e5
  obtain ⟨k1, k2, k3⟩ := freeL_mem hbs
  generalize hH5 : H4.set i (poolO a5 b5 c5) = H5 at *
  obtain ⟨w6, a6, b6, c6, hw6, e6⟩ := draw_ok (many := 3) hp5 (by decide) (by decide)
  have hp6 := pool_set (a' := a6) (b' := b6) (c' := c6) hp5
  generalize hH6 : H5.set i (poolO a6 b6 c6) = H6 at *
  obtain ⟨m7, a7, b7, c7, m71, m72, e7⟩ := number_ok (most := 9999) hp6 (by decide) (by decide)
  have hp7 := pool_set (a' := a7) (b' := b7) (c' := c7) hp6
  generalize hH7 : H6.set i (poolO a7 b7 c7) = H7 at *
  obtain ⟨v8, a8, b8, c8, hv8, e8⟩ := draw_ok (many := 400) hp7 (by decide) (by decide)
  have hp8 := pool_set (a' := a8) (b' := b8) (c' := c8) hp7
  generalize hH8 : H7.set i (poolO a8 b8 c8) = H8 at *
  obtain ⟨m9, a9, b9, c9, m91, m92, e9⟩ := number_ok (most := 800) hp8 (by decide) (by decide)
  have hp9 := pool_set (a' := a9) (b' := b9) (c' := c9) hp8
  generalize hH9 : H8.set i (poolO a9 b9 c9) = H9 at *
  have hdr2 : ∀ n ∈ [m7, 1 + v8, 5 * m9, 25, 325, 1105], 1 ≤ n ∧ n ≤ 9999 := fun n hn => by simp at hn; omega
  obtain ⟨v10, a10, b10, c10, hv10, e10⟩ := pick_ok (d := .lst ([m7, 1 + v8, 5 * m9, 25, 325, 1105].map natD)) (.inl rfl) hp9 (by simp) (by simp)
  generalize hH10 : H9.set i (poolO a10 b10 c10) = H10 at *
  obtain ⟨o, ho, eo⟩ := natD_get hv10
  rw [eo] at e10
  obtain ⟨o1, o2⟩ := hdr2 o ho
  have nb : ∀ b ∈ freeL n, b < n := fun b hb => by
    obtain ⟨q1, q2, q3⟩ := freeL_mem hb
    rcases Nat.lt_or_ge b n with z | z
    · exact z
    · have : b = n := by omega
      subst this; rw [Nat.gcd_self] at q3; omega
  have gb : Nat.gcd (bs + n * w6) n = 1 := by rw [Nat.gcd_add_mul_left_left]; exact k3
  have rb : roundOf (bs + n * w6) n = some (rnd bs n) := by rw [roundOf_mod, Nat.add_mul_mod_self_left, Nat.mod_eq_of_lt (nb bs hbs)]; exact O.rd bs hbs
  have hb2 : n * w6 ≤ 402 := Nat.le_trans (Nat.mul_le_mul n2 (show w6 ≤ 2 by omega)) (by decide)
  refine ⟨H10, run_rt rfl ?_⟩
  show denSs b__law_right [some (.ref i), none, none, none, none, none, none, none, none, none, none, none, none, none, none, none, none, none, none, none, none] h = _
  unfold b__law_right
  rw [dr_eq, pk_eq, nb_eq]
  refine den_go (δ' := [some (.ref i), some (.lst ([2 + v1, 2 + v2, n3 + 1].map natD)), none, none, none, none, none, none, none, none, none, none, none, none, none, none, none, none, none, none, none]) (den_as (den_lst3 (den_bin (a := .lit (.int 2)) rfl (den_call2 (h1 := h) (h2 := h) rfl rfl e1) (bN_add (i := 2))) (den_bin (a := .lit (.int 2)) rfl (den_call2 (h1 := H1) (h2 := H1) rfl rfl e2) (bN_add (i := 2))) (den_bin (b := .lit (.int 1)) (den_call2 (h1 := H2) (h2 := H2) rfl rfl e3) rfl (bN_add (j := 1))))) ?_
  refine den_go (δ' := [some (.ref i), some (.lst ([2 + v1, 2 + v2, n3 + 1].map natD)), some (.int n), none, none, none, none, none, none, none, none, none, none, none, none, none, none, none, none, none, none]) (den_as (den_call2 (h1 := H3) (h2 := H3) rfl (den_bin lits6 rfl (lst_add (by simp [line]))) e4)) ?_
  have fr : freeL n = (freeL n).flatMap fun b => if decide (b < n) || decide (n = 2) then [b] else [] := by
    have : ∀ l : List Nat, (∀ b ∈ l, b < n) → l = l.flatMap fun b => if decide (b < n) || decide (n = 2) then [b] else [] := fun l => by
      induction l with
      | nil => intro _; rfl
      | cons b l ih =>
        intro hl
        rw [List.flatMap_cons, decide_eq_true (hl b List.mem_cons_self), ← ih fun c hc => hl c (List.mem_cons_of_mem _ hc)]
        rfl
    exact this _ nb
  refine den_go (δ' := [some (.ref i), some (.lst ([2 + v1, 2 + v2, n3 + 1].map natD)), some (.int n), some (.lst ((freeL n).map natD)), none, none, none, none, none, none, none, none, none, none, none, none, none, none, none, none, none]) (den_as ((comp_if (fun b => decide (b < n) || decide (n = 2)) (fun b => b) (.inl (by rw [denEs, den_call1 rfl (f_law_free n H4 (by omega))]; rfl)) (by unfold line; omega) (fun b hb => denE_or2 (den_cmp rfl rfl cN_lt) fun _ => den_cmp rfl rfl (cN_eq (j := 2))) fun b hb _ => rfl).trans (by rw [← fr]))) ?_
  refine den_go (δ' := [some (.ref i), some (.lst ([2 + v1, 2 + v2, n3 + 1].map natD)), some (.int n), some (.lst ((freeL n).map natD)), some (.lst (((freeL n).map (rnd · n)).map natD)), none, none, none, none, none, none, none, none, none, none, none, none, none, none, none, none]) (den_as (comp_map (fun b => rnd b n) (.inl rfl) (by unfold line; omega) fun b hb => den_call2 rfl rfl (f_law_round b n (rnd b n) (by omega) (by omega) (by have := nb b hb; omega) H4 (O.rd b hb)))) ?_
  refine den_go (δ' := [some (.ref i), some (.lst ([2 + v1, 2 + v2, n3 + 1].map natD)), some (.int n), some (.lst ((freeL n).map natD)), some (.lst (((freeL n).map (rnd · n)).map natD)), some (.int (bs + n * w6 : Nat)), none, none, none, none, none, none, none, none, none, none, none, none, none, none, none]) (den_as (den_bin (den_call2 (h1 := H4) (h2 := H4) rfl rfl e5) (den_bin (h1 := H5) rfl (den_call2 (h1 := H5) (h2 := H5) rfl rfl e6) (bN_mul (mul_sm ⟨by omega, by omega⟩))) bN_add)) ?_
  have due : (List.range (freeL n).length).flatMap (fun k => if rnd ((freeL n).getD k 0) n = (freeL n).length then [(freeL n).getD k 0] else []) = dueOf n := getD_flat (fun b => if rnd b n = (freeL n).length then [b] else []) (freeL n)
  have gk : ∀ k, k < (freeL n).length → ∀ hh : Hd, idxD (.lst ((freeL n).map natD)) (.int k) hh = some (natD ((freeL n).getD k 0)) ∧ idxD (.lst (((freeL n).map (rnd · n)).map natD)) (.int k) hh = some (natD (rnd ((freeL n).getD k 0) n)) := fun k hk hh => by
    constructor
    · show atD _ _ = _
      rw [at_get (by rw [List.length_map]; exact hk)]
      simp [List.getD, hk]
    · show atD _ _ = _
      rw [at_get (by rw [List.length_map, List.length_map]; exact hk)]
      simp [List.getD, hk]
  have ekl : denEs [(.call "len" (pureF lenP) [(.var 3)])] [some (.ref i), some (.lst ([2 + v1, 2 + v2, n3 + 1].map natD)), some (.int n), some (.lst ((freeL n).map natD)), some (.lst (((freeL n).map (rnd · n)).map natD)), some (.int (bs + n * w6 : Nat)), none, none, none, none, none, none, none, none, none, none, none, none, none, none, none] H6 = .ok [.int (freeL n).length] H6 := by rw [denEs, len_tup (ns := freeL n) (.inr rfl) rfl]; rfl
  have ecomp : denE (.comp [("k", 17)] (.idx (.var 3) (.var 17)) [17] .rng1 [(.call "len" (pureF lenP) [(.var 3)])] [(.cmp .eq (.idx (.var 4) (.var 17)) (.call "len" (pureF lenP) [(.var 3)]))]) [some (.ref i), some (.lst ([2 + v1, 2 + v2, n3 + 1].map natD)), some (.int n), some (.lst ((freeL n).map natD)), some (.lst (((freeL n).map (rnd · n)).map natD)), some (.int (bs + n * w6 : Nat)), none, none, none, none, none, none, none, none, none, none, none, none, none, none, none] H6 = .ok (.lst ((dueOf n).map natD)) H6 := by
    have fl : ∀ l : List Nat, (l.map fun (k : Nat) => D.int (0 + (k : Int))).flatMap (fun d => match d with | .int k => if decide (rnd ((freeL n).getD k.toNat 0) n = (freeL n).length) then [natD ((freeL n).getD k.toNat 0)] else [] | _ => []) = (l.flatMap fun k => if rnd ((freeL n).getD k 0) n = (freeL n).length then [(freeL n).getD k 0] else []).map natD := fun l => by
      induction l with
      | nil => rfl
      | cons k l ih =>
        rw [List.map_cons, List.flatMap_cons, ih, List.flatMap_cons, List.map_append, Int.zero_add]
        congr 1
        show (if decide (rnd ((freeL n).getD k 0) n = (freeL n).length) then [natD ((freeL n).getD k 0)] else []) = _
        by_cases z : rnd ((freeL n).getD k 0) n = (freeL n).length
        · rw [decide_eq_true z, if_pos z]; rfl
        · rw [decide_eq_false z, if_neg z]; rfl
    have key := den_comp (own := [("k", 17)]) (e := .idx (.var 3) (.var 17)) (tg := [17]) (ik := .rng1) (src := [(.call "len" (pureF lenP) [(.var 3)])]) (cs := [(.cmp .eq (.idx (.var 4) (.var 17)) (.call "len" (pureF lenP) [(.var 3)]))]) (δ := [some (.ref i), some (.lst ([2 + v1, 2 + v2, n3 + 1].map natD)), some (.int n), some (.lst ((freeL n).map natD)), some (.lst (((freeL n).map (rnd · n)).map natD)), some (.int (bs + n * w6 : Nat)), none, none, none, none, none, none, none, none, none, none, none, none, none, none, none]) (h := H6) (ss := [.int (freeL n).length]) (xs := rangeD 0 (freeL n).length) (fun d => match d with | .int k => if decide (rnd ((freeL n).getD k.toNat 0) n = (freeL n).length) then [natD ((freeL n).getD k.toNat 0)] else [] | _ => []) ekl (by exact (if_pos ⟨by omega, by omega⟩).trans (by rw [Int.toNat_natCast])) (fun x hx => by
        obtain ⟨k, hk, rfl⟩ := List.mem_map.mp hx
        have hk := List.mem_range.mp hk
        rw [Int.zero_add]
        refine ⟨[some (.ref i), some (.lst ([2 + v1, 2 + v2, n3 + 1].map natD)), some (.int n), some (.lst ((freeL n).map natD)), some (.lst (((freeL n).map (rnd · n)).map natD)), some (.int (bs + n * w6 : Nat)), none, none, none, none, none, none, none, none, none, none, none, some (.int k), none, none, none], rfl, ?_⟩
        obtain ⟨g1, g2⟩ := gk k hk H6
        refine cs1 (den_cmp (x := natD (rnd ((freeL n).getD k 0) n)) (h1 := H6) (by simp only [denE, List.getElem?_cons_succ, List.getElem?_cons_zero, Out.bind_ok, g2, optD_some]) (len_tup (ns := freeL n) (.inr rfl) rfl) cN_eq) fun _ => ?_
        simp only [denE, List.getElem?_cons_succ, List.getElem?_cons_zero, Out.bind_ok, g1, optD_some]
        rw [Int.toNat_natCast]) (by
      show (((List.range (freeL n).length).map fun (k : Nat) => D.int (0 + (k : Int))).flatMap _).length ≤ line
      refine Nat.le_trans (flat_leD _ (fun d => by split <;> (try split) <;> simp) _) ?_
      rw [List.length_map, List.length_range]; unfold line; omega)
    refine key.trans ?_
    show Out.ok (D.lst (((List.range (freeL n).length).map fun (k : Nat) => D.int (0 + (k : Int))).flatMap _)) H6 = _
    rw [fl, due]
  refine den_go (δ' := [some (.ref i), some (.lst ([2 + v1, 2 + v2, n3 + 1].map natD)), some (.int n), some (.lst ((freeL n).map natD)), some (.lst (((freeL n).map (rnd · n)).map natD)), some (.int (bs + n * w6 : Nat)), some (.tup ((dueOf n).map natD)), none, none, none, none, none, none, none, none, none, none, none, none, none, none]) (den_as (den_call1 ecomp rfl)) ?_
  refine den_go (den_if0n (denT_or2 (ne_self rfl rfl (den_call2 rfl rfl (f_round_of _ n _ H6 ⟨by omega, by omega⟩ ⟨n1, by omega⟩ gb rb)) (den_call2 rfl rfl (f_law_round _ n _ (by omega) (by omega) (by omega) H6 rb))) (ne_self rfl (by rw [O.mx]) (den_call1 rfl (f_greatest_round n H6 ⟨n1, by omega⟩ O.lc)) (max_call (ns := (freeL n).map (rnd · n)) (by simpa using O.ne) rfl)))) ?_
  refine den_go (den_if0n (ne_self (x := .tup ((dueOf n).map natD)) (fines_nat 8 _) rfl (den_call1 rfl (f_roots n H6 ⟨n1, by omega⟩ O.f2 O.rt)) rfl)) ?_
  have dne : denE (.cmp .ne (.var 6) (.tup [])) [some (.ref i), some (.lst ([2 + v1, 2 + v2, n3 + 1].map natD)), some (.int n), some (.lst ((freeL n).map natD)), some (.lst (((freeL n).map (rnd · n)).map natD)), some (.int (bs + n * w6 : Nat)), some (.tup ((dueOf n).map natD)), none, none, none, none, none, none, none, none, none, none, none, none, none, none] H6 = .ok (.bl (hasRoots n)) H6 := by
    refine den_cmp rfl den_tup0 ((c_nil true (fines_nat 8 _)).trans ?_)
    rw [emp_map, O.hr]
  refine den_go (den_if0n (denT_or2 (ne_self rfl rfl (den_call1 rfl (f_has_roots n H6 ⟨n1, by omega⟩)) dne) (ne_self rfl (by rw [O.cr]) (den_call1 rfl (f_count_roots n H6 ⟨n1, by omega⟩ ⟨O.f1, by have := O.f2; omega⟩)) (len_tup (ns := dueOf n) (.inl rfl) rfl)))) ?_
  refine den_go (δ' := [some (.ref i), some (.lst ([2 + v1, 2 + v2, n3 + 1].map natD)), some (.int n), some (.lst ((freeL n).map natD)), some (.lst (((freeL n).map (rnd · n)).map natD)), some (.int (bs + n * w6 : Nat)), some (.tup ((dueOf n).map natD)), some (.tup ((primesOf n).map pairD)), none, none, none, none, none, none, none, none, none, none, none, none, none]) (den_as (den_call1 rfl (f_law_primes n H6 (by omega) (by omega)))) ?_
  refine den_go (δ' := [some (.ref i), some (.lst ([2 + v1, 2 + v2, n3 + 1].map natD)), some (.int n), some (.lst ((freeL n).map natD)), some (.lst (((freeL n).map (rnd · n)).map natD)), some (.int (bs + n * w6 : Nat)), some (.tup ((dueOf n).map natD)), some (.tup ((primesOf n).map pairD)), some (.bl (hasRoots n)), none, none, none, none, none, none, none, none, none, none, none, none]) (den_as (told_or n (by omega) rfl rfl)) ?_
  have dne : denE (.cmp .ne (.var 6) (.tup [])) [some (.ref i), some (.lst ([2 + v1, 2 + v2, n3 + 1].map natD)), some (.int n), some (.lst ((freeL n).map natD)), some (.lst (((freeL n).map (rnd · n)).map natD)), some (.int (bs + n * w6 : Nat)), some (.tup ((dueOf n).map natD)), some (.tup ((primesOf n).map pairD)), some (.bl (hasRoots n)), none, none, none, none, none, none, none, none, none, none, none, none] H6 = .ok (.bl (hasRoots n)) H6 := by
    refine den_cmp rfl den_tup0 ((c_nil true (fines_nat 8 _)).trans ?_)
    rw [emp_map, O.hr]
  have dlb : denE (.cmp .ne (.call "len" (pureF lenP) [(.var 6)]) (.call "len" (pureF lenP) [(.call "_law_free" F__law_free [(.call "len" (pureF lenP) [(.var 3)])])])) [some (.ref i), some (.lst ([2 + v1, 2 + v2, n3 + 1].map natD)), some (.int n), some (.lst ((freeL n).map natD)), some (.lst (((freeL n).map (rnd · n)).map natD)), some (.int (bs + n * w6 : Nat)), some (.tup ((dueOf n).map natD)), some (.tup ((primesOf n).map pairD)), some (.bl (hasRoots n)), none, none, none, none, none, none, none, none, none, none, none, none] H6 = .ok (.bl (decide ((dueOf n).length ≠ (freeL (freeL n).length).length))) H6 :=
    den_cmp (len_tup (ns := dueOf n) (.inl rfl) rfl) (len_tup (ns := freeL (freeL n).length) (.inr rfl) (den_call1 (len_tup (ns := freeL n) (.inr rfl) rfl) (f_law_free _ H6 (by omega)))) cN_ne
  have dla : denE (.and [(.cmp .ne (.var 6) (.tup [])), (.cmp .ne (.call "len" (pureF lenP) [(.var 6)]) (.call "len" (pureF lenP) [(.call "_law_free" F__law_free [(.call "len" (pureF lenP) [(.var 3)])])]))]) [some (.ref i), some (.lst ([2 + v1, 2 + v2, n3 + 1].map natD)), some (.int n), some (.lst ((freeL n).map natD)), some (.lst (((freeL n).map (rnd · n)).map natD)), some (.int (bs + n * w6 : Nat)), some (.tup ((dueOf n).map natD)), some (.tup ((primesOf n).map pairD)), some (.bl (hasRoots n)), none, none, none, none, none, none, none, none, none, none, none, none] H6 = .ok (.bl false) H6 := by
    have := denE_and2 dne fun _ => dlb
    rw [this]
    congr 2
    rcases O.ff with z | z
    · rw [O.hr, z]; rfl
    · rw [z]; simp
  refine den_go (den_if0n (denT_or2 (ne_self rfl rfl dne rfl) (denT_of dla))) ?_
  refine den_go (δ' := [some (.ref i), some (.lst ([m7, 1 + v8, 5 * m9].map natD)), some (.int n), some (.lst ((freeL n).map natD)), some (.lst (((freeL n).map (rnd · n)).map natD)), some (.int (bs + n * w6 : Nat)), some (.tup ((dueOf n).map natD)), some (.tup ((primesOf n).map pairD)), some (.bl (hasRoots n)), none, none, none, none, none, none, none, none, none, none, none, none]) (den_as (den_lst3 (den_call2 (h1 := H6) (h2 := H6) rfl rfl e7) (den_bin (a := .lit (.int 1)) rfl (den_call2 (h1 := H7) (h2 := H7) rfl rfl e8) (bN_add (i := 1))) (den_bin (a := .lit (.int 5)) rfl (den_call2 (h1 := H8) (h2 := H8) rfl rfl e9) (bN_mul (i := 5) (mul_sm ⟨by decide, by decide⟩))))) ?_
  refine den_go (δ' := [some (.ref i), some (.lst ([m7, 1 + v8, 5 * m9].map natD)), some (.int n), some (.lst ((freeL n).map natD)), some (.lst (((freeL n).map (rnd · n)).map natD)), some (.int (bs + n * w6 : Nat)), some (.tup ((dueOf n).map natD)), some (.tup ((primesOf n).map pairD)), some (.bl (hasRoots n)), some (.int o), none, none, none, none, none, none, none, none, none, none, none]) (den_as (den_call2 (h1 := H9) (h2 := H9) rfl (den_bin rfl lits3 (lst_add (by simp [line]))) e10)) ?_
  refine den_go (δ' := [some (.ref i), some (.lst ([m7, 1 + v8, 5 * m9].map natD)), some (.int n), some (.lst ((freeL n).map natD)), some (.lst (((freeL n).map (rnd · n)).map natD)), some (.int (bs + n * w6 : Nat)), some (.tup ((dueOf n).map natD)), some (.tup ((primesOf n).map pairD)), some (.bl (hasRoots n)), some (.int o), some (.lst ((squaresOf o).map pairD)), none, none, none, none, none, none, none, none, none, none]) (den_as (den_call1 rfl (f_law_squares o H10 (by omega)))) ?_
  refine den_go (δ' := [some (.ref i), some (.lst ([m7, 1 + v8, 5 * m9].map natD)), some (.int n), some (.lst ((freeL n).map natD)), some (.lst (((freeL n).map (rnd · n)).map natD)), some (.int (bs + n * w6 : Nat)), some (.tup ((dueOf n).map natD)), some (.tup ((primesOf n).map pairD)), some (.bl (hasRoots n)), some (.int o), some (.lst ((squaresOf o).map pairD)), some (.int (0 : Nat)), none, none, none, none, none, none, none, none, none]) (den_as rfl) ?_
  obtain ⟨δ', l1, l2, l3, l4⟩ := wgt_for H10 (sameSrc .seq [.lst ((squaresOf o).map pairD)] H10) (fun _ _ => rfl) (squaresOf o) 0 [some (.ref i), some (.lst ([m7, 1 + v8, 5 * m9].map natD)), some (.int n), some (.lst ((freeL n).map natD)), some (.lst (((freeL n).map (rnd · n)).map natD)), some (.int (bs + n * w6 : Nat)), some (.tup ((dueOf n).map natD)), some (.tup ((primesOf n).map pairD)), some (.bl (hasRoots n)), some (.int o), some (.lst ((squaresOf o).map pairD)), some (.int (0 : Nat)), none, none, none, none, none, none, none, none, none] rfl rfl
  rw [Nat.zero_add, many_is o1 o2] at l3
  refine den_go ((den_for (ss := [.lst ((squaresOf o).map pairD)]) rfl rfl).trans l1) ?_
  have g9 : δ'[9]? = some (some (.int o)) := l4 9 (by decide) (by decide) (by decide)
  have g10 : δ'[10]? = some (some (.lst ((squaresOf o).map pairD))) := l4 10 (by decide) (by decide) (by decide)
  refine den_go (den_if0n (ne_self (by show (fines _ 7 && _) = true; rw [fines_pair]; rfl) (by simp) (den_lst2 (den_call1 (den_var g9) (f_squares o H10 ⟨o1, o2⟩)) (den_call1 (den_var g9) (f_count_squares o H10 ⟨o1, o2⟩))) (den_lst2 (den_call1 (den_var g10) rfl) (den_var l3)))) ?_
  refine den_go (den_as (good_comp o o1 (by omega) l2 g9)) ?_
  refine den_go (den_as (cnt_comp o 1 o1 (by omega) (by simp [l2]) (by rw [List.getElem?_set_ne (by decide)]; exact g9))) ?_
  refine den_go (den_as (cnt_comp o 3 o1 (by omega) (by simp [l2]) (by rw [List.getElem?_set_ne (by decide), List.getElem?_set_ne (by decide)]; exact g9))) ?_
  have z10 : (((δ'.set 12 (some (.bl (goodOf (primesOf o))))).set 13 (some (.int (cnt 1 (sortN (partsL o)))))).set 14 (some (.int (cnt 3 (sortN (partsL o))))))[10]? = some (some (.lst ((squaresOf o).map pairD))) := by simp [List.getElem?_set, g10]
  have z11 : (((δ'.set 12 (some (.bl (goodOf (primesOf o))))).set 13 (some (.int (cnt 1 (sortN (partsL o)))))).set 14 (some (.int (cnt 3 (sortN (partsL o))))))[11]? = some (some (.int (4 * chiAll (primesOf o) : Nat))) := by simp [List.getElem?_set, l3]
  have z12 : (((δ'.set 12 (some (.bl (goodOf (primesOf o))))).set 13 (some (.int (cnt 1 (sortN (partsL o)))))).set 14 (some (.int (cnt 3 (sortN (partsL o))))))[12]? = some (some (.bl (goodOf (primesOf o)))) := by simp [List.getElem?_set, l2]
  have z13 : (((δ'.set 12 (some (.bl (goodOf (primesOf o))))).set 13 (some (.int (cnt 1 (sortN (partsL o)))))).set 14 (some (.int (cnt 3 (sortN (partsL o))))))[13]? = some (some (.int (cnt 1 (sortN (partsL o))))) := by simp [List.getElem?_set, l2]
  have z14 : (((δ'.set 12 (some (.bl (goodOf (primesOf o))))).set 13 (some (.int (cnt 1 (sortN (partsL o)))))).set 14 (some (.int (cnt 3 (sortN (partsL o))))))[14]? = some (some (.int (cnt 3 (sortN (partsL o))))) := by simp [List.getElem?_set, l2]
  have q1 : denE (.cmp .ne (.var 10) (.lst [])) (((δ'.set 12 (some (.bl (goodOf (primesOf o))))).set 13 (some (.int (cnt 1 (sortN (partsL o)))))).set 14 (some (.int (cnt 3 (sortN (partsL o)))))) H10 = .ok (.bl (goodOf (primesOf o))) H10 := by
    refine den_cmp (den_var z10) den_lst0 ?_
    show (eqD H10 _ _).map (!·) = _
    rw [eqD_lstnil H10 (fines_pair 7 _), emp_map, good_is]
    show some (!(squaresOf o).isEmpty) = _
    congr 1
    have m := many_is o1 o2
    cases es : squaresOf o with
    | nil =>
      have : chiAll (primesOf o) = 0 := by rw [es] at m; have m : 0 = 4 * chiAll (primesOf o) := m; omega
      rw [this]; rfl
    | cons q l =>
      have : chiAll (primesOf o) ≠ 0 := fun z => by rw [z] at m; have := (wsum_0 _).mp m; rw [es] at this; cases this
      exact (decide_eq_true this).symm
  have cs := cnt_sum (sortN (partsL o))
  rw [csum_L] at cs
  refine den_rt (den_ret ((denE_and2 (den_cmp (o := .eq) q1 (den_var z12) (show cmpD .eq (.bl (goodOf (primesOf o))) (.bl (goodOf (primesOf o))) H10 = some true from (eqD_bl H10 _ _).trans (by simp))) fun _ => den_cmp (den_var z11) (den_bin (a := .lit (.int 4)) rfl (den_bin (den_var z13) (den_var z14) b_sub) (b_mul (mul_sm ⟨by decide, by decide⟩))) c_eq).trans ?_))
  rw [cs, decide_eq_true (show ((4 * chiAll (primesOf o) : Nat) : Int) = 4 * ((chiAll (primesOf o) : Nat) : Int) by omega)]
  simp
theorem all_ok (ns : List Int) (hn : ns.length ≤ 63) : ∃ h', F_law [.scr ns] [] = .ok (.bl true) h' :=
  law_ok F__law_right F__law_pool (fun ns turn h hn ht => pool_ok 60127 5101 ⟨by decide, by decide⟩ ns turn h hn ht) (fun i a b c h hp => right_ok hp) ns hn
end K90
end

section
set_option Elab.async false
set_option linter.all false
set_option maxRecDepth 100000
set_option maxHeartbeats 0
namespace K90
open DL PySem PySem.Spec PyProof.Rows L2
def top (i : Nat) : Stmt := PySem.Challenge.pw_commonparts_k90_whole_rounds_roots_and_s.main.body.getD i (.Pass ⟨0, 0, 0, 0⟩)
section
variable {κ : Kn} {f : Addr} {fd : FuncData}
abbrev s__law_pool : Stmt := top 43
theorem sc__law_pool : FnScope ["script", "turn", "cell", "own", "stirred"] ["script", "turn"] (defScope s__law_pool) := ⟨rfl, rfl, rfl, by decide +kernel, rfl, by decide +kernel, by decide +kernel⟩
theorem ch__law_pool : chkSs ⟨["script", "turn", "cell", "own", "stirred"], defScope s__law_pool, true⟩ b__law_pool (defBody s__law_pool) = true := by kernel_rfl
theorem c__law_pool (F : FunD κ.K "_law_pool" "_law_pool" (defArgs s__law_pool) (defBody s__law_pool) (defScope s__law_pool) [] [] f fd) (hm : κ.mg "_law_pool" = some (.ref f)) (r0 : κ.mg "range" = none) (m_abs : κ.mg "abs" = none) (m_int : κ.mg "int" = none) (m_len : κ.mg "len" = none) : CallS κ 1 "_law_pool" F__law_pool := by
  have e_abs : CallS κ 0 "abs" (pureF absP) := call_B (pureF_calm fun _ => rfl) (by decide +kernel) blt_abs m_abs
  have e_int : CallS κ 0 "int" (pureF intP) := call_Ty (pureF_calm fun _ => rfl) (by decide +kernel) blt_int m_int
  have e_len : CallS κ 0 "len" (pureF lenP) := call_B (pureF_calm fun _ => rfl) (by decide +kernel) blt_len m_len
  exact fn_call F (ps := ["script", "turn"]) (fun _ _ _ _ _ _ us hl => match us, hl with | [_, _], _ => rfl) sc__law_pool r0 hm ch__law_pool (by unfold b__law_pool; simp only [OkSs, OkS, OkE, OkEs, OkT, OkTs]; repeat' (first | assumption | exact trivial | constructor)) rfl
abbrev s_round_by : Stmt := top 22
theorem sc_round_by : FnScope ["base", "number", "told", "many"] ["base", "number"] (defScope s_round_by) := ⟨rfl, rfl, rfl, by decide +kernel, rfl, by decide +kernel, by decide +kernel⟩
theorem ch_round_by : chkSs ⟨["base", "number", "told", "many"], defScope s_round_by, true⟩ b_round_by (defBody s_round_by) = true := by kernel_rfl
theorem c_round_by (F : FunD κ.K "round_by" "round_by" (defArgs s_round_by) (defBody s_round_by) (defScope s_round_by) [] [] f fd) (hm : κ.mg "round_by" = some (.ref f)) (r0 : κ.mg "range" = none) : CallS κ 1 "round_by" F_round_by := by
  exact fn_call F (ps := ["base", "number"]) (fun _ _ _ _ _ _ us hl => match us, hl with | [_, _], _ => rfl) sc_round_by r0 hm ch_round_by (by unfold b_round_by; simp only [OkSs, OkS, OkE, OkEs, OkT, OkTs]; repeat' (first | assumption | exact trivial | constructor)) rfl
abbrev s_is_whole : Stmt := top 5
theorem sc_is_whole : FnScope ["value"] ["value"] (defScope s_is_whole) := ⟨rfl, rfl, rfl, by decide +kernel, rfl, by decide +kernel, by decide +kernel⟩
theorem ch_is_whole : chkSs ⟨["value"], defScope s_is_whole, true⟩ b_is_whole (defBody s_is_whole) = true := by kernel_rfl
theorem c_is_whole (F : FunD κ.K "is_whole" "is_whole" (defArgs s_is_whole) (defBody s_is_whole) (defScope s_is_whole) [] [] f fd) (hm : κ.mg "is_whole" = some (.ref f)) (r0 : κ.mg "range" = none) (m_isinstance : κ.mg "isinstance" = none) (g_int : GloS κ "int" (.ty "int")) (g_bool : GloS κ "bool" (.ty "bool")) : CallS κ 1 "is_whole" F_is_whole := by
  have e_isinstance : CallS κ 0 "isinstance" (pureF isiP) := call_B (pureF_calm fun _ => rfl) (by decide +kernel) blt_isinstance m_isinstance
  exact fn_call F (ps := ["value"]) (fun _ _ _ _ _ _ us hl => match us, hl with | [_], _ => rfl) sc_is_whole r0 hm ch_is_whole (by unfold b_is_whole; simp only [OkSs, OkS, OkE, OkEs, OkT, OkTs]; repeat' (first | assumption | exact trivial | constructor)) rfl
abbrev s_is_between : Stmt := top 6
theorem sc_is_between : FnScope ["value", "least", "most"] ["value", "least", "most"] (defScope s_is_between) := ⟨rfl, rfl, rfl, by decide +kernel, rfl, by decide +kernel, by decide +kernel⟩
theorem ch_is_between : chkSs ⟨["value", "least", "most"], defScope s_is_between, true⟩ b_is_between (defBody s_is_between) = true := by kernel_rfl
theorem c_is_between (F : FunD κ.K "is_between" "is_between" (defArgs s_is_between) (defBody s_is_between) (defScope s_is_between) [] [] f fd) (hm : κ.mg "is_between" = some (.ref f)) (r0 : κ.mg "range" = none) (d_is_whole : CallS κ 1 "is_whole" F_is_whole) : CallS κ 2 "is_between" F_is_between := by
  have e_is_whole := d_is_whole.mono (k := 1) (by decide)
  exact fn_call F (ps := ["value", "least", "most"]) (fun _ _ _ _ _ _ us hl => match us, hl with | [_, _, _], _ => rfl) sc_is_between r0 hm ch_is_between (by unfold b_is_between; simp only [OkSs, OkS, OkE, OkEs, OkT, OkTs]; repeat' (first | assumption | exact trivial | constructor)) rfl
abbrev s_is_given : Stmt := top 9
theorem sc_is_given : FnScope ["value"] ["value"] (defScope s_is_given) := ⟨rfl, rfl, rfl, by decide +kernel, rfl, by decide +kernel, by decide +kernel⟩
theorem ch_is_given : chkSs ⟨["value"], defScope s_is_given, true⟩ b_is_given (defBody s_is_given) = true := by kernel_rfl
theorem c_is_given (F : FunD κ.K "is_given" "is_given" (defArgs s_is_given) (defBody s_is_given) (defScope s_is_given) [] [] f fd) (hm : κ.mg "is_given" = some (.ref f)) (r0 : κ.mg "range" = none) (d_is_between : CallS κ 2 "is_between" F_is_between) (g_MOST : GloS κ "MOST" (.int 9999)) : CallS κ 3 "is_given" F_is_given := by
  have e_is_between := d_is_between.mono (k := 2) (by decide)
  exact fn_call F (ps := ["value"]) (fun _ _ _ _ _ _ us hl => match us, hl with | [_], _ => rfl) sc_is_given r0 hm ch_is_given (by unfold b_is_given; simp only [OkSs, OkS, OkE, OkEs, OkT, OkTs]; repeat' (first | assumption | exact trivial | constructor)) rfl
abbrev s_check_number : Stmt := top 10
theorem sc_check_number : FnScope ["value"] ["value"] (defScope s_check_number) := ⟨rfl, rfl, rfl, by decide +kernel, rfl, by decide +kernel, by decide +kernel⟩
theorem ch_check_number : chkSs ⟨["value"], defScope s_check_number, true⟩ b_check_number (defBody s_check_number) = true := by kernel_rfl
theorem c_check_number (F : FunD κ.K "check_number" "check_number" (defArgs s_check_number) (defBody s_check_number) (defScope s_check_number) [] [] f fd) (hm : κ.mg "check_number" = some (.ref f)) (r0 : κ.mg "range" = none) (d_is_given : CallS κ 3 "is_given" F_is_given) : CallS κ 4 "check_number" F_check_number := by
  have e_is_given := d_is_given.mono (k := 3) (by decide)
  exact fn_call F (ps := ["value"]) (fun _ _ _ _ _ _ us hl => match us, hl with | [_], _ => rfl) sc_check_number r0 hm ch_check_number (by unfold b_check_number; simp only [OkSs, OkS, OkE, OkEs, OkT, OkTs]; repeat' (first | assumption | exact trivial | constructor)) rfl
abbrev s_are_apart_by : Stmt := top 16
theorem sc_are_apart_by : FnScope ["one", "other"] ["one", "other"] (defScope s_are_apart_by) := ⟨rfl, rfl, rfl, by decide +kernel, rfl, by decide +kernel, by decide +kernel⟩
theorem ch_are_apart_by : chkSs ⟨["one", "other"], defScope s_are_apart_by, true⟩ b_are_apart_by (defBody s_are_apart_by) = true := by kernel_rfl
theorem c_are_apart_by (F : FunD κ.K "are_apart_by" "are_apart_by" (defArgs s_are_apart_by) (defBody s_are_apart_by) (defScope s_are_apart_by) [] [] f fd) (hm : κ.mg "are_apart_by" = some (.ref f)) (r0 : κ.mg "range" = none) (m_gcd : κ.mg "gcd" = some (.builtin "math.gcd")) : CallS κ 1 "are_apart_by" F_are_apart_by := by
  have e_gcd : CallS κ 0 "gcd" (pureF gcdP) := call_Bfun (pureF_calm fun _ => rfl) blt_gcd m_gcd
  exact fn_call F (ps := ["one", "other"]) (fun _ _ _ _ _ _ us hl => match us, hl with | [_, _], _ => rfl) sc_are_apart_by r0 hm ch_are_apart_by (by unfold b_are_apart_by; simp only [OkSs, OkS, OkE, OkEs, OkT, OkTs]; repeat' (first | assumption | exact trivial | constructor)) rfl
abbrev s_is_powered : Stmt := top 31
theorem sc_is_powered : FnScope ["value"] ["value"] (defScope s_is_powered) := ⟨rfl, rfl, rfl, by decide +kernel, rfl, by decide +kernel, by decide +kernel⟩
theorem ch_is_powered : chkSs ⟨["value"], defScope s_is_powered, true⟩ b_is_powered (defBody s_is_powered) = true := by kernel_rfl
theorem c_is_powered (F : FunD κ.K "is_powered" "is_powered" (defArgs s_is_powered) (defBody s_is_powered) (defScope s_is_powered) [] [] f fd) (hm : κ.mg "is_powered" = some (.ref f)) (r0 : κ.mg "range" = none) (d_is_given : CallS κ 3 "is_given" F_is_given) (g_LEAST_POWERED : GloS κ "LEAST_POWERED" (.int 2)) : CallS κ 4 "is_powered" F_is_powered := by
  have e_is_given := d_is_given.mono (k := 3) (by decide)
  exact fn_call F (ps := ["value"]) (fun _ _ _ _ _ _ us hl => match us, hl with | [_], _ => rfl) sc_is_powered r0 hm ch_is_powered (by unfold b_is_powered; simp only [OkSs, OkS, OkE, OkEs, OkT, OkTs]; repeat' (first | assumption | exact trivial | constructor)) rfl
abbrev s_check_powered : Stmt := top 32
theorem sc_check_powered : FnScope ["value"] ["value"] (defScope s_check_powered) := ⟨rfl, rfl, rfl, by decide +kernel, rfl, by decide +kernel, by decide +kernel⟩
theorem ch_check_powered : chkSs ⟨["value"], defScope s_check_powered, true⟩ b_check_powered (defBody s_check_powered) = true := by kernel_rfl
theorem c_check_powered (F : FunD κ.K "check_powered" "check_powered" (defArgs s_check_powered) (defBody s_check_powered) (defScope s_check_powered) [] [] f fd) (hm : κ.mg "check_powered" = some (.ref f)) (r0 : κ.mg "range" = none) (d_is_powered : CallS κ 4 "is_powered" F_is_powered) : CallS κ 5 "check_powered" F_check_powered := by
  have e_is_powered := d_is_powered.mono (k := 4) (by decide)
  exact fn_call F (ps := ["value"]) (fun _ _ _ _ _ _ us hl => match us, hl with | [_], _ => rfl) sc_check_powered r0 hm ch_check_powered (by unfold b_check_powered; simp only [OkSs, OkS, OkE, OkEs, OkT, OkTs]; repeat' (first | assumption | exact trivial | constructor)) rfl
abbrev s_check_rounded : Stmt := top 34
theorem sc_check_rounded : FnScope ["base", "number"] ["base", "number"] (defScope s_check_rounded) := ⟨rfl, rfl, rfl, by decide +kernel, rfl, by decide +kernel, by decide +kernel⟩
theorem ch_check_rounded : chkSs ⟨["base", "number"], defScope s_check_rounded, true⟩ b_check_rounded (defBody s_check_rounded) = true := by kernel_rfl
theorem c_check_rounded (F : FunD κ.K "check_rounded" "check_rounded" (defArgs s_check_rounded) (defBody s_check_rounded) (defScope s_check_rounded) [] [] f fd) (hm : κ.mg "check_rounded" = some (.ref f)) (r0 : κ.mg "range" = none) (d_check_number : CallS κ 4 "check_number" F_check_number) (d_are_apart_by : CallS κ 1 "are_apart_by" F_are_apart_by) (d_check_powered : CallS κ 5 "check_powered" F_check_powered) : CallS κ 6 "check_rounded" F_check_rounded := by
  have e_check_number := d_check_number.mono (k := 5) (by decide)
  have e_are_apart_by := d_are_apart_by.mono (k := 5) (by decide)
  have e_check_powered := d_check_powered.mono (k := 5) (by decide)
  exact fn_call F (ps := ["base", "number"]) (fun _ _ _ _ _ _ us hl => match us, hl with | [_, _], _ => rfl) sc_check_rounded r0 hm ch_check_rounded (by unfold b_check_rounded; simp only [OkSs, OkS, OkE, OkEs, OkT, OkTs]; repeat' (first | assumption | exact trivial | constructor)) rfl
abbrev s_round_of : Stmt := top 35
theorem sc_round_of : FnScope ["base", "number"] ["base", "number"] (defScope s_round_of) := ⟨rfl, rfl, rfl, by decide +kernel, rfl, by decide +kernel, by decide +kernel⟩
theorem ch_round_of : chkSs ⟨["base", "number"], defScope s_round_of, true⟩ b_round_of (defBody s_round_of) = true := by kernel_rfl
theorem c_round_of (F : FunD κ.K "round_of" "round_of" (defArgs s_round_of) (defBody s_round_of) (defScope s_round_of) [] [] f fd) (hm : κ.mg "round_of" = some (.ref f)) (r0 : κ.mg "range" = none) (d_round_by : CallS κ 1 "round_by" F_round_by) (d_check_rounded : CallS κ 6 "check_rounded" F_check_rounded) : CallS κ 7 "round_of" F_round_of := by
  have e_round_by := d_round_by.mono (k := 6) (by decide)
  have e_check_rounded := d_check_rounded.mono (k := 6) (by decide)
  exact fn_call F (ps := ["base", "number"]) (fun _ _ _ _ _ _ us hl => match us, hl with | [_, _], _ => rfl) sc_round_of r0 hm ch_round_of (by unfold b_round_of; simp only [OkSs, OkS, OkE, OkEs, OkT, OkTs]; repeat' (first | assumption | exact trivial | constructor)) rfl
abbrev s_primes_by : Stmt := top 11
theorem sc_primes_by : FnScope ["number", "found", "left", "prime", "often"] ["number"] (defScope s_primes_by) := ⟨rfl, rfl, rfl, by decide +kernel, rfl, by decide +kernel, by decide +kernel⟩
theorem ch_primes_by : chkSs ⟨["number", "found", "left", "prime", "often"], defScope s_primes_by, true⟩ b_primes_by (defBody s_primes_by) = true := by kernel_rfl
theorem c_primes_by (F : FunD κ.K "primes_by" "primes_by" (defArgs s_primes_by) (defBody s_primes_by) (defScope s_primes_by) [] [] f fd) (hm : κ.mg "primes_by" = some (.ref f)) (r0 : κ.mg "range" = none) (m_max : κ.mg "max" = none) (m_tuple : κ.mg "tuple" = none) : CallS κ 1 "primes_by" G_primes_by := by
  have e_mappend : MthS κ 0 "append" isLst appF := mth_append
  have e_max : CallS κ 0 "max" (pureF maxP) := call_B (pureF_calm fun _ => rfl) (by decide +kernel) blt_max m_max
  have e_tuple : CallS κ 0 "tuple" (pureF tupP) := call_Ty (pureF_calm fun _ => rfl) (by decide +kernel) blt_tuple m_tuple
  refine CallS.as ?_ t_primes_by
  exact fn_call F (ps := ["number"]) (fun _ _ _ _ _ _ us hl => match us, hl with | [_], _ => rfl) sc_primes_by r0 hm ch_primes_by (by unfold b_primes_by; simp only [OkSs, OkS, OkE, OkEs, OkT, OkTs]; repeat' (first | assumption | exact trivial | constructor)) rfl
abbrev s_whole_by : Stmt := top 15
theorem sc_whole_by : FnScope ["numbers", "found", "number"] ["numbers"] (defScope s_whole_by) := ⟨rfl, rfl, rfl, by decide +kernel, rfl, by decide +kernel, by decide +kernel⟩
theorem ch_whole_by : chkSs ⟨["numbers", "found", "number"], defScope s_whole_by, true⟩ b_whole_by (defBody s_whole_by) = true := by kernel_rfl
theorem c_whole_by (F : FunD κ.K "whole_by" "whole_by" (defArgs s_whole_by) (defBody s_whole_by) (defScope s_whole_by) [] [] f fd) (hm : κ.mg "whole_by" = some (.ref f)) (r0 : κ.mg "range" = none) (m_gcd : κ.mg "gcd" = some (.builtin "math.gcd")) : CallS κ 1 "whole_by" F_whole_by := by
  have e_gcd : CallS κ 0 "gcd" (pureF gcdP) := call_Bfun (pureF_calm fun _ => rfl) blt_gcd m_gcd
  exact fn_call F (ps := ["numbers"]) (fun _ _ _ _ _ _ us hl => match us, hl with | [_], _ => rfl) sc_whole_by r0 hm ch_whole_by (by unfold b_whole_by; simp only [OkSs, OkS, OkE, OkEs, OkT, OkTs]; repeat' (first | assumption | exact trivial | constructor)) rfl
abbrev s_product_of : Stmt := top 12
theorem sc_product_of : FnScope ["numbers", "found", "number"] ["numbers"] (defScope s_product_of) := ⟨rfl, rfl, rfl, by decide +kernel, rfl, by decide +kernel, by decide +kernel⟩
theorem ch_product_of : chkSs ⟨["numbers", "found", "number"], defScope s_product_of, true⟩ b_product_of (defBody s_product_of) = true := by kernel_rfl
theorem c_product_of (F : FunD κ.K "product_of" "product_of" (defArgs s_product_of) (defBody s_product_of) (defScope s_product_of) [] [] f fd) (hm : κ.mg "product_of" = some (.ref f)) (r0 : κ.mg "range" = none) : CallS κ 1 "product_of" F_product_of := by
  exact fn_call F (ps := ["numbers"]) (fun _ _ _ _ _ _ us hl => match us, hl with | [_], _ => rfl) sc_product_of r0 hm ch_product_of (by unfold b_product_of; simp only [OkSs, OkS, OkE, OkEs, OkT, OkTs]; repeat' (first | assumption | exact trivial | constructor)) rfl
abbrev s_power_of : Stmt := top 13
theorem sc_power_of : FnScope ["number", "many", "turn"] ["number", "many"] (defScope s_power_of) := ⟨rfl, rfl, rfl, by decide +kernel, rfl, by decide +kernel, by decide +kernel⟩
theorem ch_power_of : chkSs ⟨["number", "many", "turn"], defScope s_power_of, true⟩ b_power_of (defBody s_power_of) = true := by kernel_rfl
theorem c_power_of (F : FunD κ.K "power_of" "power_of" (defArgs s_power_of) (defBody s_power_of) (defScope s_power_of) [] [] f fd) (hm : κ.mg "power_of" = some (.ref f)) (r0 : κ.mg "range" = none) (d_product_of : CallS κ 1 "product_of" F_product_of) : CallS κ 2 "power_of" F_power_of := by
  have e_product_of := d_product_of.mono (k := 1) (by decide)
  exact fn_call F (ps := ["number", "many"]) (fun _ _ _ _ _ _ us hl => match us, hl with | [_, _], _ => rfl) sc_power_of r0 hm ch_power_of (by unfold b_power_of; simp only [OkSs, OkS, OkE, OkEs, OkT, OkTs]; repeat' (first | assumption | exact trivial | constructor)) rfl
abbrev s_greatest_of : Stmt := top 23
theorem sc_greatest_of : FnScope ["prime", "often"] ["prime", "often"] (defScope s_greatest_of) := ⟨rfl, rfl, rfl, by decide +kernel, rfl, by decide +kernel, by decide +kernel⟩
theorem ch_greatest_of : chkSs ⟨["prime", "often"], defScope s_greatest_of, true⟩ b_greatest_of (defBody s_greatest_of) = true := by kernel_rfl
theorem c_greatest_of (F : FunD κ.K "greatest_of" "greatest_of" (defArgs s_greatest_of) (defBody s_greatest_of) (defScope s_greatest_of) [] [] f fd) (hm : κ.mg "greatest_of" = some (.ref f)) (r0 : κ.mg "range" = none) (d_power_of : CallS κ 2 "power_of" F_power_of) : CallS κ 3 "greatest_of" F_greatest_of := by
  have e_power_of := d_power_of.mono (k := 2) (by decide)
  exact fn_call F (ps := ["prime", "often"]) (fun _ _ _ _ _ _ us hl => match us, hl with | [_, _], _ => rfl) sc_greatest_of r0 hm ch_greatest_of (by unfold b_greatest_of; simp only [OkSs, OkS, OkE, OkEs, OkT, OkTs]; repeat' (first | assumption | exact trivial | constructor)) rfl
abbrev s_greatest_by : Stmt := top 24
theorem sc_greatest_by : FnScope ["number", "prime", "often"] ["number"] (defScope s_greatest_by) := ⟨rfl, rfl, rfl, by decide +kernel, rfl, by decide +kernel, by decide +kernel⟩
theorem ch_greatest_by : chkSs ⟨["number", "prime", "often"], defScope s_greatest_by, true⟩ b_greatest_by (defBody s_greatest_by) = true := by kernel_rfl
theorem c_greatest_by (F : FunD κ.K "greatest_by" "greatest_by" (defArgs s_greatest_by) (defBody s_greatest_by) (defScope s_greatest_by) [] [] f fd) (hm : κ.mg "greatest_by" = some (.ref f)) (r0 : κ.mg "range" = none) (d_primes_by : CallS κ 1 "primes_by" G_primes_by) (d_whole_by : CallS κ 1 "whole_by" F_whole_by) (d_greatest_of : CallS κ 3 "greatest_of" F_greatest_of) : CallS κ 4 "greatest_by" F_greatest_by := by
  have e_primes_by := d_primes_by.mono (k := 3) (by decide)
  have e_whole_by := d_whole_by.mono (k := 3) (by decide)
  have e_greatest_of := d_greatest_of.mono (k := 3) (by decide)
  exact fn_call F (ps := ["number"]) (fun _ _ _ _ _ _ us hl => match us, hl with | [_], _ => rfl) sc_greatest_by r0 hm ch_greatest_by (by unfold b_greatest_by; simp only [OkSs, OkS, OkE, OkEs, OkT, OkTs]; repeat' (first | assumption | exact trivial | constructor)) rfl
abbrev s_greatest_round : Stmt := top 36
theorem sc_greatest_round : FnScope ["number"] ["number"] (defScope s_greatest_round) := ⟨rfl, rfl, rfl, by decide +kernel, rfl, by decide +kernel, by decide +kernel⟩
theorem ch_greatest_round : chkSs ⟨["number"], defScope s_greatest_round, true⟩ b_greatest_round (defBody s_greatest_round) = true := by kernel_rfl
theorem c_greatest_round (F : FunD κ.K "greatest_round" "greatest_round" (defArgs s_greatest_round) (defBody s_greatest_round) (defScope s_greatest_round) [] [] f fd) (hm : κ.mg "greatest_round" = some (.ref f)) (r0 : κ.mg "range" = none) (d_check_powered : CallS κ 5 "check_powered" F_check_powered) (d_greatest_by : CallS κ 4 "greatest_by" F_greatest_by) : CallS κ 6 "greatest_round" F_greatest_round := by
  have e_check_powered := d_check_powered.mono (k := 5) (by decide)
  have e_greatest_by := d_greatest_by.mono (k := 5) (by decide)
  exact fn_call F (ps := ["number"]) (fun _ _ _ _ _ _ us hl => match us, hl with | [_], _ => rfl) sc_greatest_round r0 hm ch_greatest_round (by unfold b_greatest_round; simp only [OkSs, OkS, OkE, OkEs, OkT, OkTs]; repeat' (first | assumption | exact trivial | constructor)) rfl
abbrev s_has_roots_by : Stmt := top 25
theorem sc_has_roots_by : FnScope ["number", "told"] ["number"] (defScope s_has_roots_by) := ⟨rfl, rfl, rfl, by decide +kernel, rfl, by decide +kernel, by decide +kernel⟩
theorem ch_has_roots_by : chkSs ⟨["number", "told"], defScope s_has_roots_by, true⟩ b_has_roots_by (defBody s_has_roots_by) = true := by kernel_rfl
theorem c_has_roots_by (F : FunD κ.K "has_roots_by" "has_roots_by" (defArgs s_has_roots_by) (defBody s_has_roots_by) (defScope s_has_roots_by) [] [] f fd) (hm : κ.mg "has_roots_by" = some (.ref f)) (r0 : κ.mg "range" = none) (d_primes_by : CallS κ 1 "primes_by" G_primes_by) (m_len : κ.mg "len" = none) (g_ROOTED : GloS κ "ROOTED" (.tup [(.int 2), (.int 4)])) : CallS κ 2 "has_roots_by" F_has_roots_by := by
  have e_primes_by := d_primes_by.mono (k := 1) (by decide)
  have e_len : CallS κ 1 "len" (pureF lenP) := call_B (pureF_calm fun _ => rfl) (by decide +kernel) blt_len m_len
  exact fn_call F (ps := ["number"]) (fun _ _ _ _ _ _ us hl => match us, hl with | [_], _ => rfl) sc_has_roots_by r0 hm ch_has_roots_by (by unfold b_has_roots_by; simp only [OkSs, OkS, OkE, OkEs, OkT, OkTs]; repeat' (first | assumption | exact trivial | constructor)) rfl
abbrev s_has_roots : Stmt := top 37
theorem sc_has_roots : FnScope ["number"] ["number"] (defScope s_has_roots) := ⟨rfl, rfl, rfl, by decide +kernel, rfl, by decide +kernel, by decide +kernel⟩
theorem ch_has_roots : chkSs ⟨["number"], defScope s_has_roots, true⟩ b_has_roots (defBody s_has_roots) = true := by kernel_rfl
theorem c_has_roots (F : FunD κ.K "has_roots" "has_roots" (defArgs s_has_roots) (defBody s_has_roots) (defScope s_has_roots) [] [] f fd) (hm : κ.mg "has_roots" = some (.ref f)) (r0 : κ.mg "range" = none) (d_check_powered : CallS κ 5 "check_powered" F_check_powered) (d_has_roots_by : CallS κ 2 "has_roots_by" F_has_roots_by) : CallS κ 6 "has_roots" F_has_roots := by
  have e_check_powered := d_check_powered.mono (k := 5) (by decide)
  have e_has_roots_by := d_has_roots_by.mono (k := 5) (by decide)
  exact fn_call F (ps := ["number"]) (fun _ _ _ _ _ _ us hl => match us, hl with | [_], _ => rfl) sc_has_roots r0 hm ch_has_roots (by unfold b_has_roots; simp only [OkSs, OkS, OkE, OkEs, OkT, OkTs]; repeat' (first | assumption | exact trivial | constructor)) rfl
abbrev s_freedom_of : Stmt := top 21
theorem sc_freedom_of : FnScope ["number", "prime", "often"] ["number"] (defScope s_freedom_of) := ⟨rfl, rfl, rfl, by decide +kernel, rfl, by decide +kernel, by decide +kernel⟩
theorem ch_freedom_of : chkSs ⟨["number", "prime", "often"], defScope s_freedom_of, true⟩ b_freedom_of (defBody s_freedom_of) = true := by kernel_rfl
theorem c_freedom_of (F : FunD κ.K "freedom_of" "freedom_of" (defArgs s_freedom_of) (defBody s_freedom_of) (defScope s_freedom_of) [] [] f fd) (hm : κ.mg "freedom_of" = some (.ref f)) (r0 : κ.mg "range" = none) (d_primes_by : CallS κ 1 "primes_by" G_primes_by) (d_product_of : CallS κ 1 "product_of" F_product_of) (d_power_of : CallS κ 2 "power_of" F_power_of) : CallS κ 3 "freedom_of" F_freedom_of := by
  have e_primes_by := d_primes_by.mono (k := 2) (by decide)
  have e_product_of := d_product_of.mono (k := 2) (by decide)
  have e_power_of := d_power_of.mono (k := 2) (by decide)
  exact fn_call F (ps := ["number"]) (fun _ _ _ _ _ _ us hl => match us, hl with | [_], _ => rfl) sc_freedom_of r0 hm ch_freedom_of (by unfold b_freedom_of; simp only [OkSs, OkS, OkE, OkEs, OkT, OkTs]; repeat' (first | assumption | exact trivial | constructor)) rfl
abbrev s_count_roots_by : Stmt := top 26
theorem sc_count_roots_by : FnScope ["number"] ["number"] (defScope s_count_roots_by) := ⟨rfl, rfl, rfl, by decide +kernel, rfl, by decide +kernel, by decide +kernel⟩
theorem ch_count_roots_by : chkSs ⟨["number"], defScope s_count_roots_by, true⟩ b_count_roots_by (defBody s_count_roots_by) = true := by kernel_rfl
theorem c_count_roots_by (F : FunD κ.K "count_roots_by" "count_roots_by" (defArgs s_count_roots_by) (defBody s_count_roots_by) (defScope s_count_roots_by) [] [] f fd) (hm : κ.mg "count_roots_by" = some (.ref f)) (r0 : κ.mg "range" = none) (d_has_roots_by : CallS κ 2 "has_roots_by" F_has_roots_by) (d_freedom_of : CallS κ 3 "freedom_of" F_freedom_of) : CallS κ 4 "count_roots_by" F_count_roots_by := by
  have e_has_roots_by := d_has_roots_by.mono (k := 3) (by decide)
  have e_freedom_of := d_freedom_of.mono (k := 3) (by decide)
  exact fn_call F (ps := ["number"]) (fun _ _ _ _ _ _ us hl => match us, hl with | [_], _ => rfl) sc_count_roots_by r0 hm ch_count_roots_by (by unfold b_count_roots_by; simp only [OkSs, OkS, OkE, OkEs, OkT, OkTs]; repeat' (first | assumption | exact trivial | constructor)) rfl
abbrev s_count_roots : Stmt := top 38
theorem sc_count_roots : FnScope ["number"] ["number"] (defScope s_count_roots) := ⟨rfl, rfl, rfl, by decide +kernel, rfl, by decide +kernel, by decide +kernel⟩
theorem ch_count_roots : chkSs ⟨["number"], defScope s_count_roots, true⟩ b_count_roots (defBody s_count_roots) = true := by kernel_rfl
theorem c_count_roots (F : FunD κ.K "count_roots" "count_roots" (defArgs s_count_roots) (defBody s_count_roots) (defScope s_count_roots) [] [] f fd) (hm : κ.mg "count_roots" = some (.ref f)) (r0 : κ.mg "range" = none) (d_check_powered : CallS κ 5 "check_powered" F_check_powered) (d_count_roots_by : CallS κ 4 "count_roots_by" F_count_roots_by) : CallS κ 6 "count_roots" F_count_roots := by
  have e_check_powered := d_check_powered.mono (k := 5) (by decide)
  have e_count_roots_by := d_count_roots_by.mono (k := 5) (by decide)
  exact fn_call F (ps := ["number"]) (fun _ _ _ _ _ _ us hl => match us, hl with | [_], _ => rfl) sc_count_roots r0 hm ch_count_roots (by unfold b_count_roots; simp only [OkSs, OkS, OkE, OkEs, OkT, OkTs]; repeat' (first | assumption | exact trivial | constructor)) rfl
abbrev s_roots_by : Stmt := top 27
theorem sc_roots_by : FnScope ["number", "many", "free", "first", "told", "found"] ["number"] (defScope s_roots_by) := ⟨rfl, rfl, rfl, by decide +kernel, rfl, by decide +kernel, by decide +kernel⟩
theorem ch_roots_by : chkSs ⟨["number", "many", "free", "first", "told", "found"], defScope s_roots_by, true⟩ b_roots_by (defBody s_roots_by) = true := by kernel_rfl
theorem c_roots_by (F : FunD κ.K "roots_by" "roots_by" (defArgs s_roots_by) (defBody s_roots_by) (defScope s_roots_by) [] [] f fd) (hm : κ.mg "roots_by" = some (.ref f)) (r0 : κ.mg "range" = none) (d_round_by : CallS κ 1 "round_by" F_round_by) (d_are_apart_by : CallS κ 1 "are_apart_by" F_are_apart_by) (d_has_roots_by : CallS κ 2 "has_roots_by" F_has_roots_by) (d_freedom_of : CallS κ 3 "freedom_of" F_freedom_of) (m_sorted : κ.mg "sorted" = none) (m_tuple : κ.mg "tuple" = none) : CallS κ 4 "roots_by" G_roots_by := by
  have e_round_by := d_round_by.mono (k := 3) (by decide)
  have e_are_apart_by := d_are_apart_by.mono (k := 3) (by decide)
  have e_has_roots_by := d_has_roots_by.mono (k := 3) (by decide)
  have e_freedom_of := d_freedom_of.mono (k := 3) (by decide)
  have e_mappend : MthS κ 3 "append" isLst appF := mth_append
  have e_sorted : CallS κ 3 "sorted" (pureF sortP) := call_B (pureF_calm fun _ => rfl) (by decide +kernel) blt_sorted m_sorted
  have e_tuple : CallS κ 3 "tuple" (pureF tupP) := call_Ty (pureF_calm fun _ => rfl) (by decide +kernel) blt_tuple m_tuple
  refine CallS.as ?_ t_roots_by
  exact fn_call F (ps := ["number"]) (fun _ _ _ _ _ _ us hl => match us, hl with | [_], _ => rfl) sc_roots_by r0 hm ch_roots_by (by unfold b_roots_by; simp only [OkSs, OkS, OkE, OkEs, OkT, OkTs]; repeat' (first | assumption | exact trivial | constructor)) rfl
abbrev s_is_rooted : Stmt := top 33
theorem sc_is_rooted : FnScope ["value"] ["value"] (defScope s_is_rooted) := ⟨rfl, rfl, rfl, by decide +kernel, rfl, by decide +kernel, by decide +kernel⟩
theorem ch_is_rooted : chkSs ⟨["value"], defScope s_is_rooted, true⟩ b_is_rooted (defBody s_is_rooted) = true := by kernel_rfl
theorem c_is_rooted (F : FunD κ.K "is_rooted" "is_rooted" (defArgs s_is_rooted) (defBody s_is_rooted) (defScope s_is_rooted) [] [] f fd) (hm : κ.mg "is_rooted" = some (.ref f)) (r0 : κ.mg "range" = none) (d_is_powered : CallS κ 4 "is_powered" F_is_powered) (g_MOST_ROOTED : GloS κ "MOST_ROOTED" (.int 999)) : CallS κ 5 "is_rooted" F_is_rooted := by
  have e_is_powered := d_is_powered.mono (k := 4) (by decide)
  exact fn_call F (ps := ["value"]) (fun _ _ _ _ _ _ us hl => match us, hl with | [_], _ => rfl) sc_is_rooted r0 hm ch_is_rooted (by unfold b_is_rooted; simp only [OkSs, OkS, OkE, OkEs, OkT, OkTs]; repeat' (first | assumption | exact trivial | constructor)) rfl
abbrev s_roots : Stmt := top 39
theorem sc_roots : FnScope ["number"] ["number"] (defScope s_roots) := ⟨rfl, rfl, rfl, by decide +kernel, rfl, by decide +kernel, by decide +kernel⟩
theorem ch_roots : chkSs ⟨["number"], defScope s_roots, true⟩ b_roots (defBody s_roots) = true := by kernel_rfl
theorem c_roots (F : FunD κ.K "roots" "roots" (defArgs s_roots) (defBody s_roots) (defScope s_roots) [] [] f fd) (hm : κ.mg "roots" = some (.ref f)) (r0 : κ.mg "range" = none) (d_roots_by : CallS κ 4 "roots_by" G_roots_by) (d_is_rooted : CallS κ 5 "is_rooted" F_is_rooted) : CallS κ 6 "roots" F_roots := by
  have e_roots_by := d_roots_by.mono (k := 5) (by decide)
  have e_is_rooted := d_is_rooted.mono (k := 5) (by decide)
  exact fn_call F (ps := ["number"]) (fun _ _ _ _ _ _ us hl => match us, hl with | [_], _ => rfl) sc_roots r0 hm ch_roots (by unfold b_roots; simp only [OkSs, OkS, OkE, OkEs, OkT, OkTs]; repeat' (first | assumption | exact trivial | constructor)) rfl
abbrev s_root_of : Stmt := top 28
theorem sc_root_of : FnScope ["number", "told"] ["number"] (defScope s_root_of) := ⟨rfl, rfl, rfl, by decide +kernel, rfl, by decide +kernel, by decide +kernel⟩
theorem ch_root_of : chkSs ⟨["number", "told"], defScope s_root_of, true⟩ b_root_of (defBody s_root_of) = true := by kernel_rfl
theorem c_root_of (F : FunD κ.K "root_of" "root_of" (defArgs s_root_of) (defBody s_root_of) (defScope s_root_of) [] [] f fd) (hm : κ.mg "root_of" = some (.ref f)) (r0 : κ.mg "range" = none) : CallS κ 1 "root_of" F_root_of := by
  exact fn_call F (ps := ["number"]) (fun _ _ _ _ _ _ us hl => match us, hl with | [_], _ => rfl) sc_root_of r0 hm ch_root_of (by unfold b_root_of; simp only [OkSs, OkS, OkE, OkEs, OkT, OkTs]; repeat' (first | assumption | exact trivial | constructor)) rfl
abbrev s_squares_by : Stmt := top 29
theorem sc_squares_by : FnScope ["number", "found", "one", "other"] ["number"] (defScope s_squares_by) := ⟨rfl, rfl, rfl, by decide +kernel, rfl, by decide +kernel, by decide +kernel⟩
theorem ch_squares_by : chkSs ⟨["number", "found", "one", "other"], defScope s_squares_by, true⟩ b_squares_by (defBody s_squares_by) = true := by kernel_rfl
theorem c_squares_by (F : FunD κ.K "squares_by" "squares_by" (defArgs s_squares_by) (defBody s_squares_by) (defScope s_squares_by) [] [] f fd) (hm : κ.mg "squares_by" = some (.ref f)) (r0 : κ.mg "range" = none) (d_root_of : CallS κ 1 "root_of" F_root_of) (m_tuple : κ.mg "tuple" = none) : CallS κ 2 "squares_by" G_squares_by := by
  have e_root_of := d_root_of.mono (k := 1) (by decide)
  have e_mappend : MthS κ 1 "append" isLst appF := mth_append
  have e_tuple : CallS κ 1 "tuple" (pureF tupP) := call_Ty (pureF_calm fun _ => rfl) (by decide +kernel) blt_tuple m_tuple
  refine CallS.as ?_ t_squares_by
  exact fn_call F (ps := ["number"]) (fun _ _ _ _ _ _ us hl => match us, hl with | [_], _ => rfl) sc_squares_by r0 hm ch_squares_by (by unfold b_squares_by; simp only [OkSs, OkS, OkE, OkEs, OkT, OkTs]; repeat' (first | assumption | exact trivial | constructor)) rfl
abbrev s_squares : Stmt := top 40
theorem sc_squares : FnScope ["number"] ["number"] (defScope s_squares) := ⟨rfl, rfl, rfl, by decide +kernel, rfl, by decide +kernel, by decide +kernel⟩
theorem ch_squares : chkSs ⟨["number"], defScope s_squares, true⟩ b_squares (defBody s_squares) = true := by kernel_rfl
theorem c_squares (F : FunD κ.K "squares" "squares" (defArgs s_squares) (defBody s_squares) (defScope s_squares) [] [] f fd) (hm : κ.mg "squares" = some (.ref f)) (r0 : κ.mg "range" = none) (d_check_number : CallS κ 4 "check_number" F_check_number) (d_squares_by : CallS κ 2 "squares_by" G_squares_by) : CallS κ 5 "squares" F_squares := by
  have e_check_number := d_check_number.mono (k := 4) (by decide)
  have e_squares_by := d_squares_by.mono (k := 4) (by decide)
  exact fn_call F (ps := ["number"]) (fun _ _ _ _ _ _ us hl => match us, hl with | [_], _ => rfl) sc_squares r0 hm ch_squares (by unfold b_squares; simp only [OkSs, OkS, OkE, OkEs, OkT, OkTs]; repeat' (first | assumption | exact trivial | constructor)) rfl
abbrev s_parts_by : Stmt := top 14
theorem sc_parts_by : FnScope ["number", "found", "prime", "often", "own", "many"] ["number"] (defScope s_parts_by) := ⟨rfl, rfl, rfl, by decide +kernel, rfl, by decide +kernel, by decide +kernel⟩
theorem ch_parts_by : chkSs ⟨["number", "found", "prime", "often", "own", "many"], defScope s_parts_by, true⟩ b_parts_by (defBody s_parts_by) = true := by kernel_rfl
theorem c_parts_by (F : FunD κ.K "parts_by" "parts_by" (defArgs s_parts_by) (defBody s_parts_by) (defScope s_parts_by) [] [] f fd) (hm : κ.mg "parts_by" = some (.ref f)) (r0 : κ.mg "range" = none) (d_primes_by : CallS κ 1 "primes_by" G_primes_by) (d_power_of : CallS κ 2 "power_of" F_power_of) (m_sorted : κ.mg "sorted" = none) (m_tuple : κ.mg "tuple" = none) : CallS κ 3 "parts_by" F_parts_by := by
  have e_primes_by := d_primes_by.mono (k := 2) (by decide)
  have e_power_of := d_power_of.mono (k := 2) (by decide)
  have e_sorted : CallS κ 2 "sorted" (pureF sortP) := call_B (pureF_calm fun _ => rfl) (by decide +kernel) blt_sorted m_sorted
  have e_tuple : CallS κ 2 "tuple" (pureF tupP) := call_Ty (pureF_calm fun _ => rfl) (by decide +kernel) blt_tuple m_tuple
  exact fn_call F (ps := ["number"]) (fun _ _ _ _ _ _ us hl => match us, hl with | [_], _ => rfl) sc_parts_by r0 hm ch_parts_by (by unfold b_parts_by; simp only [OkSs, OkS, OkE, OkEs, OkT, OkTs]; repeat' (first | assumption | exact trivial | constructor)) rfl
abbrev s_count_squares_by : Stmt := top 30
theorem sc_count_squares_by : FnScope ["number", "part"] ["number"] (defScope s_count_squares_by) := ⟨rfl, rfl, rfl, by decide +kernel, rfl, by decide +kernel, by decide +kernel⟩
theorem ch_count_squares_by : chkSs ⟨["number", "part"], defScope s_count_squares_by, true⟩ b_count_squares_by (defBody s_count_squares_by) = true := by kernel_rfl
theorem c_count_squares_by (F : FunD κ.K "count_squares_by" "count_squares_by" (defArgs s_count_squares_by) (defBody s_count_squares_by) (defScope s_count_squares_by) [] [] f fd) (hm : κ.mg "count_squares_by" = some (.ref f)) (r0 : κ.mg "range" = none) (d_parts_by : CallS κ 3 "parts_by" F_parts_by) (m_sum : κ.mg "sum" = none) : CallS κ 4 "count_squares_by" F_count_squares_by := by
  have e_parts_by := d_parts_by.mono (k := 3) (by decide)
  have e_sum : CallS κ 3 "sum" (pureF sumP) := call_B (pureF_calm fun _ => rfl) (by decide +kernel) blt_sum m_sum
  exact fn_call F (ps := ["number"]) (fun _ _ _ _ _ _ us hl => match us, hl with | [_], _ => rfl) sc_count_squares_by r0 hm ch_count_squares_by (by unfold b_count_squares_by; simp only [OkSs, OkS, OkE, OkEs, OkT, OkTs]; repeat' (first | assumption | exact trivial | constructor)) rfl
abbrev s_count_squares : Stmt := top 41
theorem sc_count_squares : FnScope ["number"] ["number"] (defScope s_count_squares) := ⟨rfl, rfl, rfl, by decide +kernel, rfl, by decide +kernel, by decide +kernel⟩
theorem ch_count_squares : chkSs ⟨["number"], defScope s_count_squares, true⟩ b_count_squares (defBody s_count_squares) = true := by kernel_rfl
theorem c_count_squares (F : FunD κ.K "count_squares" "count_squares" (defArgs s_count_squares) (defBody s_count_squares) (defScope s_count_squares) [] [] f fd) (hm : κ.mg "count_squares" = some (.ref f)) (r0 : κ.mg "range" = none) (d_check_number : CallS κ 4 "check_number" F_check_number) (d_count_squares_by : CallS κ 4 "count_squares_by" F_count_squares_by) : CallS κ 5 "count_squares" F_count_squares := by
  have e_check_number := d_check_number.mono (k := 4) (by decide)
  have e_count_squares_by := d_count_squares_by.mono (k := 4) (by decide)
  exact fn_call F (ps := ["number"]) (fun _ _ _ _ _ _ us hl => match us, hl with | [_], _ => rfl) sc_count_squares r0 hm ch_count_squares (by unfold b_count_squares; simp only [OkSs, OkS, OkE, OkEs, OkT, OkTs]; repeat' (first | assumption | exact trivial | constructor)) rfl
abbrev s__law_draw : Stmt := top 44
theorem sc__law_draw : FnScope ["pool", "many", "held", "figure"] ["pool", "many"] (defScope s__law_draw) := ⟨rfl, rfl, rfl, by decide +kernel, rfl, by decide +kernel, by decide +kernel⟩
theorem ch__law_draw : chkSs ⟨["pool", "many", "held", "figure"], defScope s__law_draw, true⟩ b__law_draw (defBody s__law_draw) = true := by kernel_rfl
theorem c__law_draw (F : FunD κ.K "_law_draw" "_law_draw" (defArgs s__law_draw) (defBody s__law_draw) (defScope s__law_draw) [] [] f fd) (hm : κ.mg "_law_draw" = some (.ref f)) (r0 : κ.mg "range" = none) (m_divmod : κ.mg "divmod" = none) (m_int : κ.mg "int" = none) : CallS κ 1 "_law_draw" F__law_draw := by
  have e_divmod : CallS κ 0 "divmod" (pureF divmodP) := call_B (pureF_calm fun _ => rfl) (by decide +kernel) blt_divmod m_divmod
  have e_int : CallS κ 0 "int" (pureF intP) := call_Ty (pureF_calm fun _ => rfl) (by decide +kernel) blt_int m_int
  exact fn_call F (ps := ["pool", "many"]) (fun _ _ _ _ _ _ us hl => match us, hl with | [_, _], _ => rfl) sc__law_draw r0 hm ch__law_draw (by unfold b__law_draw; simp only [OkSs, OkS, OkE, OkEs, OkT, OkTs]; repeat' (first | assumption | exact trivial | constructor)) rfl
abbrev s__law_pick : Stmt := top 45
theorem sc__law_pick : FnScope ["pool", "some"] ["pool", "some"] (defScope s__law_pick) := ⟨rfl, rfl, rfl, by decide +kernel, rfl, by decide +kernel, by decide +kernel⟩
theorem ch__law_pick : chkSs ⟨["pool", "some"], defScope s__law_pick, true⟩ b__law_pick (defBody s__law_pick) = true := by kernel_rfl
theorem c__law_pick (F : FunD κ.K "_law_pick" "_law_pick" (defArgs s__law_pick) (defBody s__law_pick) (defScope s__law_pick) [] [] f fd) (hm : κ.mg "_law_pick" = some (.ref f)) (r0 : κ.mg "range" = none) (d__law_draw : CallS κ 1 "_law_draw" F__law_draw) (m_len : κ.mg "len" = none) : CallS κ 2 "_law_pick" F__law_pick := by
  have e__law_draw := d__law_draw.mono (k := 1) (by decide)
  have e_len : CallS κ 1 "len" (pureF lenP) := call_B (pureF_calm fun _ => rfl) (by decide +kernel) blt_len m_len
  exact fn_call F (ps := ["pool", "some"]) (fun _ _ _ _ _ _ us hl => match us, hl with | [_, _], _ => rfl) sc__law_pick r0 hm ch__law_pick (by unfold b__law_pick; simp only [OkSs, OkS, OkE, OkEs, OkT, OkTs]; repeat' (first | assumption | exact trivial | constructor)) rfl
abbrev s__law_primes : Stmt := top 47
theorem sc__law_primes : FnScope ["number", "found", "by", "left", "many"] ["number"] (defScope s__law_primes) := ⟨rfl, rfl, rfl, by decide +kernel, rfl, by decide +kernel, by decide +kernel⟩
theorem ch__law_primes : chkSs ⟨["number", "found", "by", "left", "many"], defScope s__law_primes, true⟩ b__law_primes (defBody s__law_primes) = true := by kernel_rfl
theorem c__law_primes (F : FunD κ.K "_law_primes" "_law_primes" (defArgs s__law_primes) (defBody s__law_primes) (defScope s__law_primes) [] [] f fd) (hm : κ.mg "_law_primes" = some (.ref f)) (r0 : κ.mg "range" = none) (m_int : κ.mg "int" = none) (m_max : κ.mg "max" = none) (m_tuple : κ.mg "tuple" = none) : CallS κ 1 "_law_primes" F__law_primes := by
  have e_int : CallS κ 0 "int" (pureF intP) := call_Ty (pureF_calm fun _ => rfl) (by decide +kernel) blt_int m_int
  have e_max : CallS κ 0 "max" (pureF maxP) := call_B (pureF_calm fun _ => rfl) (by decide +kernel) blt_max m_max
  have e_tuple : CallS κ 0 "tuple" (pureF tupP) := call_Ty (pureF_calm fun _ => rfl) (by decide +kernel) blt_tuple m_tuple
  exact fn_call F (ps := ["number"]) (fun _ _ _ _ _ _ us hl => match us, hl with | [_], _ => rfl) sc__law_primes r0 hm ch__law_primes (by unfold b__law_primes; simp only [OkSs, OkS, OkE, OkEs, OkT, OkTs]; repeat' (first | assumption | exact trivial | constructor)) rfl
abbrev s__law_parts : Stmt := top 48
theorem sc__law_parts : FnScope ["number", "found", "prime", "many", "lap", "more", "power", "own"] ["number"] (defScope s__law_parts) := ⟨rfl, rfl, rfl, by decide +kernel, rfl, by decide +kernel, by decide +kernel⟩
theorem ch__law_parts : chkSs ⟨["number", "found", "prime", "many", "lap", "more", "power", "own"], defScope s__law_parts, true⟩ b__law_parts (defBody s__law_parts) = true := by kernel_rfl
theorem c__law_parts (F : FunD κ.K "_law_parts" "_law_parts" (defArgs s__law_parts) (defBody s__law_parts) (defScope s__law_parts) [] [] f fd) (hm : κ.mg "_law_parts" = some (.ref f)) (r0 : κ.mg "range" = none) (d__law_primes : CallS κ 1 "_law_primes" F__law_primes) (m_sorted : κ.mg "sorted" = none) (m_tuple : κ.mg "tuple" = none) : CallS κ 2 "_law_parts" F__law_parts := by
  have e__law_primes := d__law_primes.mono (k := 1) (by decide)
  have e_sorted : CallS κ 1 "sorted" (pureF sortP) := call_B (pureF_calm fun _ => rfl) (by decide +kernel) blt_sorted m_sorted
  have e_tuple : CallS κ 1 "tuple" (pureF tupP) := call_Ty (pureF_calm fun _ => rfl) (by decide +kernel) blt_tuple m_tuple
  exact fn_call F (ps := ["number"]) (fun _ _ _ _ _ _ us hl => match us, hl with | [_], _ => rfl) sc__law_parts r0 hm ch__law_parts (by unfold b__law_parts; simp only [OkSs, OkS, OkE, OkEs, OkT, OkTs]; repeat' (first | assumption | exact trivial | constructor)) rfl
abbrev s__law_number : Stmt := top 49
theorem sc__law_number : FnScope ["pool", "most", "found", "turn", "by"] ["pool", "most"] (defScope s__law_number) := ⟨rfl, rfl, rfl, by decide +kernel, rfl, by decide +kernel, by decide +kernel⟩
theorem ch__law_number : chkSs ⟨["pool", "most", "found", "turn", "by"], defScope s__law_number, true⟩ b__law_number (defBody s__law_number) = true := by kernel_rfl
theorem c__law_number (F : FunD κ.K "_law_number" "_law_number" (defArgs s__law_number) (defBody s__law_number) (defScope s__law_number) [] [] f fd) (hm : κ.mg "_law_number" = some (.ref f)) (r0 : κ.mg "range" = none) (d__law_draw : CallS κ 1 "_law_draw" F__law_draw) (d__law_pick : CallS κ 2 "_law_pick" F__law_pick) : CallS κ 3 "_law_number" F__law_number := by
  have e__law_draw := d__law_draw.mono (k := 2) (by decide)
  have e__law_pick := d__law_pick.mono (k := 2) (by decide)
  exact fn_call F (ps := ["pool", "most"]) (fun _ _ _ _ _ _ us hl => match us, hl with | [_, _], _ => rfl) sc__law_number r0 hm ch__law_number (by unfold b__law_number; simp only [OkSs, OkS, OkE, OkEs, OkT, OkTs]; repeat' (first | assumption | exact trivial | constructor)) rfl
abbrev s__law_common : Stmt := top 46
theorem sc__law_common : FnScope ["one", "other"] ["one", "other"] (defScope s__law_common) := ⟨rfl, rfl, rfl, by decide +kernel, rfl, by decide +kernel, by decide +kernel⟩
theorem ch__law_common : chkSs ⟨["one", "other"], defScope s__law_common, true⟩ b__law_common (defBody s__law_common) = true := by kernel_rfl
theorem c__law_common (F : FunD κ.K "_law_common" "_law_common" (defArgs s__law_common) (defBody s__law_common) (defScope s__law_common) [] [] f fd) (hm : κ.mg "_law_common" = some (.ref f)) (r0 : κ.mg "range" = none) (m_abs : κ.mg "abs" = none) (m_int : κ.mg "int" = none) : CallS κ 1 "_law_common" F__law_common := by
  have e_abs : CallS κ 0 "abs" (pureF absP) := call_B (pureF_calm fun _ => rfl) (by decide +kernel) blt_abs m_abs
  have e_int : CallS κ 0 "int" (pureF intP) := call_Ty (pureF_calm fun _ => rfl) (by decide +kernel) blt_int m_int
  exact fn_call F (ps := ["one", "other"]) (fun _ _ _ _ _ _ us hl => match us, hl with | [_, _], _ => rfl) sc__law_common r0 hm ch__law_common (by unfold b__law_common; simp only [OkSs, OkS, OkE, OkEs, OkT, OkTs]; repeat' (first | assumption | exact trivial | constructor)) rfl
abbrev s__law_free : Stmt := top 50
theorem sc__law_free : FnScope ["number", "own"] ["number"] (defScope s__law_free) := ⟨rfl, rfl, rfl, by decide +kernel, rfl, by decide +kernel, by decide +kernel⟩
theorem ch__law_free : chkSs ⟨["number", "own"], defScope s__law_free, true⟩ b__law_free (defBody s__law_free) = true := by kernel_rfl
theorem c__law_free (F : FunD κ.K "_law_free" "_law_free" (defArgs s__law_free) (defBody s__law_free) (defScope s__law_free) [] [] f fd) (hm : κ.mg "_law_free" = some (.ref f)) (r0 : κ.mg "range" = none) (d__law_common : CallS κ 1 "_law_common" F__law_common) : CallS κ 2 "_law_free" F__law_free := by
  have e__law_common := d__law_common.mono (k := 1) (by decide)
  exact fn_call F (ps := ["number"]) (fun _ _ _ _ _ _ us hl => match us, hl with | [_], _ => rfl) sc__law_free r0 hm ch__law_free (by unfold b__law_free; simp only [OkSs, OkS, OkE, OkEs, OkT, OkTs]; repeat' (first | assumption | exact trivial | constructor)) rfl
abbrev s__law_round : Stmt := top 51
theorem sc__law_round : FnScope ["base", "number", "many", "own"] ["base", "number"] (defScope s__law_round) := ⟨rfl, rfl, rfl, by decide +kernel, rfl, by decide +kernel, by decide +kernel⟩
theorem ch__law_round : chkSs ⟨["base", "number", "many", "own"], defScope s__law_round, true⟩ b__law_round (defBody s__law_round) = true := by kernel_rfl
theorem c__law_round (F : FunD κ.K "_law_round" "_law_round" (defArgs s__law_round) (defBody s__law_round) (defScope s__law_round) [] [] f fd) (hm : κ.mg "_law_round" = some (.ref f)) (r0 : κ.mg "range" = none) (m_int : κ.mg "int" = none) : CallS κ 1 "_law_round" F__law_round := by
  have e_int : CallS κ 0 "int" (pureF intP) := call_Ty (pureF_calm fun _ => rfl) (by decide +kernel) blt_int m_int
  exact fn_call F (ps := ["base", "number"]) (fun _ _ _ _ _ _ us hl => match us, hl with | [_, _], _ => rfl) sc__law_round r0 hm ch__law_round (by unfold b__law_round; simp only [OkSs, OkS, OkE, OkEs, OkT, OkTs]; repeat' (first | assumption | exact trivial | constructor)) rfl
abbrev s__law_squares : Stmt := top 52
theorem sc__law_squares : FnScope ["number", "found", "side", "other"] ["number"] (defScope s__law_squares) := ⟨rfl, rfl, rfl, by decide +kernel, rfl, by decide +kernel, by decide +kernel⟩
theorem ch__law_squares : chkSs ⟨["number", "found", "side", "other"], defScope s__law_squares, true⟩ b__law_squares (defBody s__law_squares) = true := by kernel_rfl
theorem c__law_squares (F : FunD κ.K "_law_squares" "_law_squares" (defArgs s__law_squares) (defBody s__law_squares) (defScope s__law_squares) [] [] f fd) (hm : κ.mg "_law_squares" = some (.ref f)) (r0 : κ.mg "range" = none) (m_int : κ.mg "int" = none) : CallS κ 1 "_law_squares" F__law_squares := by
  have e_int : CallS κ 0 "int" (pureF intP) := call_Ty (pureF_calm fun _ => rfl) (by decide +kernel) blt_int m_int
  exact fn_call F (ps := ["number"]) (fun _ _ _ _ _ _ us hl => match us, hl with | [_], _ => rfl) sc__law_squares r0 hm ch__law_squares (by unfold b__law_squares; simp only [OkSs, OkS, OkE, OkEs, OkT, OkTs]; repeat' (first | assumption | exact trivial | constructor)) rfl
abbrev s__law_right : Stmt := top 53
theorem sc__law_right : FnScope ["pool", "drawn", "number", "free", "rows", "base", "due", "some", "is_told", "other", "own", "many", "good", "ones", "threes", "one", "two", "k", "part", "prime", "times"] ["pool"] (defScope s__law_right) := ⟨rfl, rfl, rfl, by decide +kernel, rfl, by decide +kernel, by decide +kernel⟩
theorem ch__law_right : chkSs ⟨["pool", "drawn", "number", "free", "rows", "base", "due", "some", "is_told", "other", "own", "many", "good", "ones", "threes", "one", "two", "k", "part", "prime", "times"], defScope s__law_right, true⟩ b__law_right (defBody s__law_right) = true := by kernel_rfl
theorem c__law_right (F : FunD κ.K "_law_right" "_law_right" (defArgs s__law_right) (defBody s__law_right) (defScope s__law_right) [] [] f fd) (hm : κ.mg "_law_right" = some (.ref f)) (r0 : κ.mg "range" = none) (d_round_of : CallS κ 7 "round_of" F_round_of) (d_greatest_round : CallS κ 6 "greatest_round" F_greatest_round) (d_has_roots : CallS κ 6 "has_roots" F_has_roots) (d_count_roots : CallS κ 6 "count_roots" F_count_roots) (d_roots : CallS κ 6 "roots" F_roots) (d_squares : CallS κ 5 "squares" F_squares) (d_count_squares : CallS κ 5 "count_squares" F_count_squares) (d__law_draw : CallS κ 1 "_law_draw" F__law_draw) (d__law_pick : CallS κ 2 "_law_pick" F__law_pick) (d__law_primes : CallS κ 1 "_law_primes" F__law_primes) (d__law_parts : CallS κ 2 "_law_parts" F__law_parts) (d__law_number : CallS κ 3 "_law_number" F__law_number) (d__law_free : CallS κ 2 "_law_free" F__law_free) (d__law_round : CallS κ 1 "_law_round" F__law_round) (d__law_squares : CallS κ 1 "_law_squares" F__law_squares) (m_int : κ.mg "int" = none) (m_len : κ.mg "len" = none) (m_max : κ.mg "max" = none) (m_tuple : κ.mg "tuple" = none) : CallS κ 8 "_law_right" F__law_right := by
  have e_round_of := d_round_of.mono (k := 7) (by decide)
  have e_greatest_round := d_greatest_round.mono (k := 7) (by decide)
  have e_has_roots := d_has_roots.mono (k := 7) (by decide)
  have e_count_roots := d_count_roots.mono (k := 7) (by decide)
  have e_roots := d_roots.mono (k := 7) (by decide)
  have e_squares := d_squares.mono (k := 7) (by decide)
  have e_count_squares := d_count_squares.mono (k := 7) (by decide)
  have e__law_draw := d__law_draw.mono (k := 7) (by decide)
  have e__law_pick := d__law_pick.mono (k := 7) (by decide)
  have e__law_primes := d__law_primes.mono (k := 7) (by decide)
  have e__law_parts := d__law_parts.mono (k := 7) (by decide)
  have e__law_number := d__law_number.mono (k := 7) (by decide)
  have e__law_free := d__law_free.mono (k := 7) (by decide)
  have e__law_round := d__law_round.mono (k := 7) (by decide)
  have e__law_squares := d__law_squares.mono (k := 7) (by decide)
  have e_int : CallS κ 7 "int" (pureF intP) := call_Ty (pureF_calm fun _ => rfl) (by decide +kernel) blt_int m_int
  have e_len : CallS κ 7 "len" (pureF lenP) := call_B (pureF_calm fun _ => rfl) (by decide +kernel) blt_len m_len
  have e_max : CallS κ 7 "max" (pureF maxP) := call_B (pureF_calm fun _ => rfl) (by decide +kernel) blt_max m_max
  have e_tuple : CallS κ 7 "tuple" (pureF tupP) := call_Ty (pureF_calm fun _ => rfl) (by decide +kernel) blt_tuple m_tuple
  exact fn_call F (ps := ["pool"]) (fun _ _ _ _ _ _ us hl => match us, hl with | [_], _ => rfl) sc__law_right r0 hm ch__law_right (by unfold b__law_right; simp only [OkSs, OkS, OkE, OkEs, OkT, OkTs]; repeat' (first | assumption | exact trivial | constructor)) rfl
abbrev s_law : Stmt := top 54
theorem sc_law : FnScope ["script", "turn"] ["script"] (defScope s_law) := ⟨rfl, rfl, rfl, by decide +kernel, rfl, by decide +kernel, by decide +kernel⟩
theorem ch_law : chkSs ⟨["script", "turn"], defScope s_law, true⟩ b_law (defBody s_law) = true := by kernel_rfl
theorem c_law (F : FunD κ.K "law" "law" (defArgs s_law) (defBody s_law) (defScope s_law) [] [] f fd) (hm : κ.mg "law" = some (.ref f)) (r0 : κ.mg "range" = none) (d__law_pool : CallS κ 1 "_law_pool" F__law_pool) (d__law_right : CallS κ 8 "_law_right" F__law_right) (m_all : κ.mg "all" = none) (m_len : κ.mg "len" = none) (m_max : κ.mg "max" = none) (m_min : κ.mg "min" = none) : CallS κ 9 "law" F_law := by
  have e__law_pool := d__law_pool.mono (k := 8) (by decide)
  have e__law_right := d__law_right.mono (k := 8) (by decide)
  have e_all : CallS κ 8 "all" (pureF allP) := call_B (pureF_calm fun _ => rfl) (by decide +kernel) blt_all m_all
  have e_len : CallS κ 8 "len" (pureF lenP) := call_B (pureF_calm fun _ => rfl) (by decide +kernel) blt_len m_len
  have e_max : CallS κ 8 "max" (pureF maxP) := call_B (pureF_calm fun _ => rfl) (by decide +kernel) blt_max m_max
  have e_min : CallS κ 8 "min" (pureF minP) := call_B (pureF_calm fun _ => rfl) (by decide +kernel) blt_min m_min
  exact fn_call F (ps := ["script"]) (fun _ _ _ _ _ _ us hl => match us, hl with | [_], _ => rfl) sc_law r0 hm ch_law (by unfold b_law; simp only [OkSs, OkS, OkE, OkEs, OkT, OkTs]; repeat' (first | assumption | exact trivial | constructor)) rfl
end
end K90
end

section
set_option Elab.async false
set_option linter.all false
set_option maxRecDepth 100000
set_option maxHeartbeats 0
namespace K90
open DL PySem PySem.Spec PyProof.Rows L2
def d__law_pool : He.DefD := ⟨("_law_pool", none), "_law_pool", "_law_pool", defArgs s__law_pool, defBody s__law_pool, defScope s__law_pool, [], []⟩
def d_round_by : He.DefD := ⟨("round_by", none), "round_by", "round_by", defArgs s_round_by, defBody s_round_by, defScope s_round_by, [], []⟩
def d_is_whole : He.DefD := ⟨("is_whole", none), "is_whole", "is_whole", defArgs s_is_whole, defBody s_is_whole, defScope s_is_whole, [], []⟩
def d_is_between : He.DefD := ⟨("is_between", none), "is_between", "is_between", defArgs s_is_between, defBody s_is_between, defScope s_is_between, [], []⟩
def d_is_given : He.DefD := ⟨("is_given", none), "is_given", "is_given", defArgs s_is_given, defBody s_is_given, defScope s_is_given, [], []⟩
def d_check_number : He.DefD := ⟨("check_number", none), "check_number", "check_number", defArgs s_check_number, defBody s_check_number, defScope s_check_number, [], []⟩
def d_are_apart_by : He.DefD := ⟨("are_apart_by", none), "are_apart_by", "are_apart_by", defArgs s_are_apart_by, defBody s_are_apart_by, defScope s_are_apart_by, [], []⟩
def d_is_powered : He.DefD := ⟨("is_powered", none), "is_powered", "is_powered", defArgs s_is_powered, defBody s_is_powered, defScope s_is_powered, [], []⟩
def d_check_powered : He.DefD := ⟨("check_powered", none), "check_powered", "check_powered", defArgs s_check_powered, defBody s_check_powered, defScope s_check_powered, [], []⟩
def d_check_rounded : He.DefD := ⟨("check_rounded", none), "check_rounded", "check_rounded", defArgs s_check_rounded, defBody s_check_rounded, defScope s_check_rounded, [], []⟩
def d_round_of : He.DefD := ⟨("round_of", none), "round_of", "round_of", defArgs s_round_of, defBody s_round_of, defScope s_round_of, [], []⟩
def d_primes_by : He.DefD := ⟨("primes_by", none), "primes_by", "primes_by", defArgs s_primes_by, defBody s_primes_by, defScope s_primes_by, [], []⟩
def d_whole_by : He.DefD := ⟨("whole_by", none), "whole_by", "whole_by", defArgs s_whole_by, defBody s_whole_by, defScope s_whole_by, [], []⟩
def d_product_of : He.DefD := ⟨("product_of", none), "product_of", "product_of", defArgs s_product_of, defBody s_product_of, defScope s_product_of, [], []⟩
def d_power_of : He.DefD := ⟨("power_of", none), "power_of", "power_of", defArgs s_power_of, defBody s_power_of, defScope s_power_of, [], []⟩
def d_greatest_of : He.DefD := ⟨("greatest_of", none), "greatest_of", "greatest_of", defArgs s_greatest_of, defBody s_greatest_of, defScope s_greatest_of, [], []⟩
def d_greatest_by : He.DefD := ⟨("greatest_by", none), "greatest_by", "greatest_by", defArgs s_greatest_by, defBody s_greatest_by, defScope s_greatest_by, [], []⟩
def d_greatest_round : He.DefD := ⟨("greatest_round", none), "greatest_round", "greatest_round", defArgs s_greatest_round, defBody s_greatest_round, defScope s_greatest_round, [], []⟩
def d_has_roots_by : He.DefD := ⟨("has_roots_by", none), "has_roots_by", "has_roots_by", defArgs s_has_roots_by, defBody s_has_roots_by, defScope s_has_roots_by, [], []⟩
def d_has_roots : He.DefD := ⟨("has_roots", none), "has_roots", "has_roots", defArgs s_has_roots, defBody s_has_roots, defScope s_has_roots, [], []⟩
def d_freedom_of : He.DefD := ⟨("freedom_of", none), "freedom_of", "freedom_of", defArgs s_freedom_of, defBody s_freedom_of, defScope s_freedom_of, [], []⟩
def d_count_roots_by : He.DefD := ⟨("count_roots_by", none), "count_roots_by", "count_roots_by", defArgs s_count_roots_by, defBody s_count_roots_by, defScope s_count_roots_by, [], []⟩
def d_count_roots : He.DefD := ⟨("count_roots", none), "count_roots", "count_roots", defArgs s_count_roots, defBody s_count_roots, defScope s_count_roots, [], []⟩
def d_roots_by : He.DefD := ⟨("roots_by", none), "roots_by", "roots_by", defArgs s_roots_by, defBody s_roots_by, defScope s_roots_by, [], []⟩
def d_is_rooted : He.DefD := ⟨("is_rooted", none), "is_rooted", "is_rooted", defArgs s_is_rooted, defBody s_is_rooted, defScope s_is_rooted, [], []⟩
def d_roots : He.DefD := ⟨("roots", none), "roots", "roots", defArgs s_roots, defBody s_roots, defScope s_roots, [], []⟩
def d_root_of : He.DefD := ⟨("root_of", none), "root_of", "root_of", defArgs s_root_of, defBody s_root_of, defScope s_root_of, [], []⟩
def d_squares_by : He.DefD := ⟨("squares_by", none), "squares_by", "squares_by", defArgs s_squares_by, defBody s_squares_by, defScope s_squares_by, [], []⟩
def d_squares : He.DefD := ⟨("squares", none), "squares", "squares", defArgs s_squares, defBody s_squares, defScope s_squares, [], []⟩
def d_parts_by : He.DefD := ⟨("parts_by", none), "parts_by", "parts_by", defArgs s_parts_by, defBody s_parts_by, defScope s_parts_by, [], []⟩
def d_count_squares_by : He.DefD := ⟨("count_squares_by", none), "count_squares_by", "count_squares_by", defArgs s_count_squares_by, defBody s_count_squares_by, defScope s_count_squares_by, [], []⟩
def d_count_squares : He.DefD := ⟨("count_squares", none), "count_squares", "count_squares", defArgs s_count_squares, defBody s_count_squares, defScope s_count_squares, [], []⟩
def d__law_draw : He.DefD := ⟨("_law_draw", none), "_law_draw", "_law_draw", defArgs s__law_draw, defBody s__law_draw, defScope s__law_draw, [], []⟩
def d__law_pick : He.DefD := ⟨("_law_pick", none), "_law_pick", "_law_pick", defArgs s__law_pick, defBody s__law_pick, defScope s__law_pick, [], []⟩
def d__law_primes : He.DefD := ⟨("_law_primes", none), "_law_primes", "_law_primes", defArgs s__law_primes, defBody s__law_primes, defScope s__law_primes, [], []⟩
def d__law_parts : He.DefD := ⟨("_law_parts", none), "_law_parts", "_law_parts", defArgs s__law_parts, defBody s__law_parts, defScope s__law_parts, [], []⟩
def d__law_number : He.DefD := ⟨("_law_number", none), "_law_number", "_law_number", defArgs s__law_number, defBody s__law_number, defScope s__law_number, [], []⟩
def d__law_common : He.DefD := ⟨("_law_common", none), "_law_common", "_law_common", defArgs s__law_common, defBody s__law_common, defScope s__law_common, [], []⟩
def d__law_free : He.DefD := ⟨("_law_free", none), "_law_free", "_law_free", defArgs s__law_free, defBody s__law_free, defScope s__law_free, [], []⟩
def d__law_round : He.DefD := ⟨("_law_round", none), "_law_round", "_law_round", defArgs s__law_round, defBody s__law_round, defScope s__law_round, [], []⟩
def d__law_squares : He.DefD := ⟨("_law_squares", none), "_law_squares", "_law_squares", defArgs s__law_squares, defBody s__law_squares, defScope s__law_squares, [], []⟩
def d__law_right : He.DefD := ⟨("_law_right", none), "_law_right", "_law_right", defArgs s__law_right, defBody s__law_right, defScope s__law_right, [], []⟩
def d_law : He.DefD := ⟨("law", none), "law", "law", defArgs s_law, defBody s_law, defScope s_law, [], []⟩
def fn : List He.DefD := [d__law_pool, d_round_by, d_is_whole, d_is_between, d_is_given, d_check_number, d_are_apart_by, d_is_powered, d_check_powered, d_check_rounded, d_round_of, d_primes_by, d_whole_by, d_product_of, d_power_of, d_greatest_of, d_greatest_by, d_greatest_round, d_has_roots_by, d_has_roots, d_freedom_of, d_count_roots_by, d_count_roots, d_roots_by, d_is_rooted, d_roots, d_root_of, d_squares_by, d_squares, d_parts_by, d_count_squares_by, d_count_squares, d__law_draw, d__law_pick, d__law_primes, d__law_parts, d__law_number, d__law_common, d__law_free, d__law_round, d__law_squares, d__law_right, d_law]
def fa : List He.Fa := [.glo "_law_pool", .glo "round_by", .glo "is_whole", .glo "is_between", .glo "is_given", .glo "check_number", .glo "are_apart_by", .glo "is_powered", .glo "check_powered", .glo "check_rounded", .glo "round_of", .glo "primes_by", .glo "whole_by", .glo "product_of", .glo "power_of", .glo "greatest_of", .glo "greatest_by", .glo "greatest_round", .glo "has_roots_by", .glo "has_roots", .glo "freedom_of", .glo "count_roots_by", .glo "count_roots", .glo "roots_by", .glo "is_rooted", .glo "roots", .glo "root_of", .glo "squares_by", .glo "squares", .glo "parts_by", .glo "count_squares_by", .glo "count_squares", .glo "_law_draw", .glo "_law_pick", .glo "_law_primes", .glo "_law_parts", .glo "_law_number", .glo "_law_common", .glo "_law_free", .glo "_law_round", .glo "_law_squares", .glo "_law_right", .glo "law", .free "abs", .free "all", .free "bool", .free "divmod", .free "int", .free "isinstance", .free "len", .free "max", .free "min", .free "range", .free "sorted", .free "sum", .free "tuple"]
def fb : List Fb := [gvB "MOST" (.int 9999), gvB "LEAST_POWERED" (.int 2), gvB "ROOTED" (.tup [(.int 2), (.int 4)]), gvB "MOST_ROOTED" (.int 999), gbB "gcd" "math.gcd"]
abbrev R : PySem.W.OpenRow := PySem.W.OpenLaw.row PySem.Challenge.rw_commonparts_k90_whole_rounds_roots_and_s
abbrev hk : PySem.W.Hook := hookX 4 fa fb fn
def ob (s : PySem.W.SharedT) : AlX := obsXG 4 fa fb fn (HandSHeadRun.getT s)
theorem ob_eq (s : PySem.W.SharedT) : ob s = hk.obs s.abs := obsXG_eq (HandSHeadRun.getT_eq s)
def n0 : List PySem.Str := [PySem.Str.ofString "PartError", PySem.Str.ofString "InvalidNumber", PySem.Str.ofString "is_whole", PySem.Str.ofString "is_between", PySem.Str.ofString "MOST", PySem.Str.ofString "is_given", PySem.Str.ofString "check_number", PySem.Str.ofString "primes_by", PySem.Str.ofString "product_of", PySem.Str.ofString "power_of", PySem.Str.ofString "parts_by", PySem.Str.ofString "whole_by", PySem.Str.ofString "are_apart_by", PySem.Str.ofString "LEAST_POWERED", PySem.Str.ofString "MOST_ROOTED", PySem.Str.ofString "ROOTED", PySem.Str.ofString "freedom_of", PySem.Str.ofString "round_by", PySem.Str.ofString "greatest_of", PySem.Str.ofString "greatest_by", PySem.Str.ofString "has_roots_by", PySem.Str.ofString "count_roots_by", PySem.Str.ofString "roots_by", PySem.Str.ofString "root_of", PySem.Str.ofString "squares_by", PySem.Str.ofString "count_squares_by", PySem.Str.ofString "is_powered", PySem.Str.ofString "check_powered", PySem.Str.ofString "is_rooted", PySem.Str.ofString "check_rounded"]
def n1 : List PySem.Str := [PySem.Str.ofString "round_of", PySem.Str.ofString "greatest_round", PySem.Str.ofString "has_roots", PySem.Str.ofString "count_roots", PySem.Str.ofString "roots", PySem.Str.ofString "squares", PySem.Str.ofString "count_squares", PySem.Str.ofString "_law_pool", PySem.Str.ofString "_law_draw", PySem.Str.ofString "_law_pick", PySem.Str.ofString "_law_common", PySem.Str.ofString "_law_primes", PySem.Str.ofString "_law_parts", PySem.Str.ofString "_law_number", PySem.Str.ofString "_law_free", PySem.Str.ofString "_law_round", PySem.Str.ofString "_law_squares", PySem.Str.ofString "_law_right"]
section
open HandSHeadRun PySem.W
theorem run (w : World) : RunEqI R (view R.prog [0, 54]) hk ob 4000 (n0 ++ n1) w := by
  refine byRow2 "special-get-raises" (P := fun w => RunEqI R (view R.prog [0, 54]) hk ob 4000 (n0 ++ n1) w) (fun w => ?_) (fun w => ?_) w
  · unfold RunEqI; kernel_rfl
  · unfold RunEqI; kernel_rfl
end
end K90
end

section
set_option Elab.async false
set_option linter.all false
set_option maxRecDepth 100000
set_option maxHeartbeats 0
namespace K90
open DL PySem PySem.Spec PyProof.Rows L2
theorem facts {P : Program} {w : World} {K : PySem.W.Frag} {h : Heap} {mg : Str → Option Value} {f : Addr} (X : K.In h) (G : h.Ns mainGlobals mg) (hfa : mg ("law" : Str) = some (.ref f)) (c : obsX fa fb fn K = valX fn) (hL : ∀ ns : List Int, ns.length ≤ 63 → ∃ h', F_law [.scr ns] [] = .ok (.bl true) h') :
    ∃ fd : FuncData, (∀ (s : Shared) (v : Value), BindsTo s fd ⟨[v], []⟩ [("script", v)]) ∧ ∀ base : Heap, K.In base → base.Ns mainGlobals mg → FnOk P w K mg base CX0 9 f fd ["script"] (spEnd K) := by
  have cs := saysX c
  obtain ⟨fd__law_pool, O__law_pool⟩ := cs.def_ 0 (d := d__law_pool) rfl
  have m__law_pool := He.glo_ok X G (cs.fact 0 (f := .glo "_law_pool") rfl)
  obtain ⟨fd_round_by, O_round_by⟩ := cs.def_ 1 (d := d_round_by) rfl
  have m_round_by := He.glo_ok X G (cs.fact 1 (f := .glo "round_by") rfl)
  obtain ⟨fd_is_whole, O_is_whole⟩ := cs.def_ 2 (d := d_is_whole) rfl
  have m_is_whole := He.glo_ok X G (cs.fact 2 (f := .glo "is_whole") rfl)
  obtain ⟨fd_is_between, O_is_between⟩ := cs.def_ 3 (d := d_is_between) rfl
  have m_is_between := He.glo_ok X G (cs.fact 3 (f := .glo "is_between") rfl)
  obtain ⟨fd_is_given, O_is_given⟩ := cs.def_ 4 (d := d_is_given) rfl
  have m_is_given := He.glo_ok X G (cs.fact 4 (f := .glo "is_given") rfl)
  obtain ⟨fd_check_number, O_check_number⟩ := cs.def_ 5 (d := d_check_number) rfl
  have m_check_number := He.glo_ok X G (cs.fact 5 (f := .glo "check_number") rfl)
  obtain ⟨fd_are_apart_by, O_are_apart_by⟩ := cs.def_ 6 (d := d_are_apart_by) rfl
  have m_are_apart_by := He.glo_ok X G (cs.fact 6 (f := .glo "are_apart_by") rfl)
  obtain ⟨fd_is_powered, O_is_powered⟩ := cs.def_ 7 (d := d_is_powered) rfl
  have m_is_powered := He.glo_ok X G (cs.fact 7 (f := .glo "is_powered") rfl)
  obtain ⟨fd_check_powered, O_check_powered⟩ := cs.def_ 8 (d := d_check_powered) rfl
  have m_check_powered := He.glo_ok X G (cs.fact 8 (f := .glo "check_powered") rfl)
  obtain ⟨fd_check_rounded, O_check_rounded⟩ := cs.def_ 9 (d := d_check_rounded) rfl
  have m_check_rounded := He.glo_ok X G (cs.fact 9 (f := .glo "check_rounded") rfl)
  obtain ⟨fd_round_of, O_round_of⟩ := cs.def_ 10 (d := d_round_of) rfl
  have m_round_of := He.glo_ok X G (cs.fact 10 (f := .glo "round_of") rfl)
  obtain ⟨fd_primes_by, O_primes_by⟩ := cs.def_ 11 (d := d_primes_by) rfl
  have m_primes_by := He.glo_ok X G (cs.fact 11 (f := .glo "primes_by") rfl)
  obtain ⟨fd_whole_by, O_whole_by⟩ := cs.def_ 12 (d := d_whole_by) rfl
  have m_whole_by := He.glo_ok X G (cs.fact 12 (f := .glo "whole_by") rfl)
  obtain ⟨fd_product_of, O_product_of⟩ := cs.def_ 13 (d := d_product_of) rfl
  have m_product_of := He.glo_ok X G (cs.fact 13 (f := .glo "product_of") rfl)
  obtain ⟨fd_power_of, O_power_of⟩ := cs.def_ 14 (d := d_power_of) rfl
  have m_power_of := He.glo_ok X G (cs.fact 14 (f := .glo "power_of") rfl)
  obtain ⟨fd_greatest_of, O_greatest_of⟩ := cs.def_ 15 (d := d_greatest_of) rfl
  have m_greatest_of := He.glo_ok X G (cs.fact 15 (f := .glo "greatest_of") rfl)
  obtain ⟨fd_greatest_by, O_greatest_by⟩ := cs.def_ 16 (d := d_greatest_by) rfl
  have m_greatest_by := He.glo_ok X G (cs.fact 16 (f := .glo "greatest_by") rfl)
  obtain ⟨fd_greatest_round, O_greatest_round⟩ := cs.def_ 17 (d := d_greatest_round) rfl
  have m_greatest_round := He.glo_ok X G (cs.fact 17 (f := .glo "greatest_round") rfl)
  obtain ⟨fd_has_roots_by, O_has_roots_by⟩ := cs.def_ 18 (d := d_has_roots_by) rfl
  have m_has_roots_by := He.glo_ok X G (cs.fact 18 (f := .glo "has_roots_by") rfl)
  obtain ⟨fd_has_roots, O_has_roots⟩ := cs.def_ 19 (d := d_has_roots) rfl
  have m_has_roots := He.glo_ok X G (cs.fact 19 (f := .glo "has_roots") rfl)
  obtain ⟨fd_freedom_of, O_freedom_of⟩ := cs.def_ 20 (d := d_freedom_of) rfl
  have m_freedom_of := He.glo_ok X G (cs.fact 20 (f := .glo "freedom_of") rfl)
  obtain ⟨fd_count_roots_by, O_count_roots_by⟩ := cs.def_ 21 (d := d_count_roots_by) rfl
  have m_count_roots_by := He.glo_ok X G (cs.fact 21 (f := .glo "count_roots_by") rfl)
  obtain ⟨fd_count_roots, O_count_roots⟩ := cs.def_ 22 (d := d_count_roots) rfl
  have m_count_roots := He.glo_ok X G (cs.fact 22 (f := .glo "count_roots") rfl)
  obtain ⟨fd_roots_by, O_roots_by⟩ := cs.def_ 23 (d := d_roots_by) rfl
  have m_roots_by := He.glo_ok X G (cs.fact 23 (f := .glo "roots_by") rfl)
  obtain ⟨fd_is_rooted, O_is_rooted⟩ := cs.def_ 24 (d := d_is_rooted) rfl
  have m_is_rooted := He.glo_ok X G (cs.fact 24 (f := .glo "is_rooted") rfl)
  obtain ⟨fd_roots, O_roots⟩ := cs.def_ 25 (d := d_roots) rfl
  have m_roots := He.glo_ok X G (cs.fact 25 (f := .glo "roots") rfl)
  obtain ⟨fd_root_of, O_root_of⟩ := cs.def_ 26 (d := d_root_of) rfl
  have m_root_of := He.glo_ok X G (cs.fact 26 (f := .glo "root_of") rfl)
  obtain ⟨fd_squares_by, O_squares_by⟩ := cs.def_ 27 (d := d_squares_by) rfl
  have m_squares_by := He.glo_ok X G (cs.fact 27 (f := .glo "squares_by") rfl)
  obtain ⟨fd_squares, O_squares⟩ := cs.def_ 28 (d := d_squares) rfl
  have m_squares := He.glo_ok X G (cs.fact 28 (f := .glo "squares") rfl)
  obtain ⟨fd_parts_by, O_parts_by⟩ := cs.def_ 29 (d := d_parts_by) rfl
  have m_parts_by := He.glo_ok X G (cs.fact 29 (f := .glo "parts_by") rfl)
  obtain ⟨fd_count_squares_by, O_count_squares_by⟩ := cs.def_ 30 (d := d_count_squares_by) rfl
  have m_count_squares_by := He.glo_ok X G (cs.fact 30 (f := .glo "count_squares_by") rfl)
  obtain ⟨fd_count_squares, O_count_squares⟩ := cs.def_ 31 (d := d_count_squares) rfl
  have m_count_squares := He.glo_ok X G (cs.fact 31 (f := .glo "count_squares") rfl)
  obtain ⟨fd__law_draw, O__law_draw⟩ := cs.def_ 32 (d := d__law_draw) rfl
  have m__law_draw := He.glo_ok X G (cs.fact 32 (f := .glo "_law_draw") rfl)
  obtain ⟨fd__law_pick, O__law_pick⟩ := cs.def_ 33 (d := d__law_pick) rfl
  have m__law_pick := He.glo_ok X G (cs.fact 33 (f := .glo "_law_pick") rfl)
  obtain ⟨fd__law_primes, O__law_primes⟩ := cs.def_ 34 (d := d__law_primes) rfl
  have m__law_primes := He.glo_ok X G (cs.fact 34 (f := .glo "_law_primes") rfl)
  obtain ⟨fd__law_parts, O__law_parts⟩ := cs.def_ 35 (d := d__law_parts) rfl
  have m__law_parts := He.glo_ok X G (cs.fact 35 (f := .glo "_law_parts") rfl)
  obtain ⟨fd__law_number, O__law_number⟩ := cs.def_ 36 (d := d__law_number) rfl
  have m__law_number := He.glo_ok X G (cs.fact 36 (f := .glo "_law_number") rfl)
  obtain ⟨fd__law_common, O__law_common⟩ := cs.def_ 37 (d := d__law_common) rfl
  have m__law_common := He.glo_ok X G (cs.fact 37 (f := .glo "_law_common") rfl)
  obtain ⟨fd__law_free, O__law_free⟩ := cs.def_ 38 (d := d__law_free) rfl
  have m__law_free := He.glo_ok X G (cs.fact 38 (f := .glo "_law_free") rfl)
  obtain ⟨fd__law_round, O__law_round⟩ := cs.def_ 39 (d := d__law_round) rfl
  have m__law_round := He.glo_ok X G (cs.fact 39 (f := .glo "_law_round") rfl)
  obtain ⟨fd__law_squares, O__law_squares⟩ := cs.def_ 40 (d := d__law_squares) rfl
  have m__law_squares := He.glo_ok X G (cs.fact 40 (f := .glo "_law_squares") rfl)
  obtain ⟨fd__law_right, O__law_right⟩ := cs.def_ 41 (d := d__law_right) rfl
  have m__law_right := He.glo_ok X G (cs.fact 41 (f := .glo "_law_right") rfl)
  obtain ⟨fd_law, O_law⟩ := cs.def_ 42 (d := d_law) rfl
  have m_law := He.glo_ok X G (cs.fact 42 (f := .glo "law") rfl)
  have m_abs := He.free_ok X G (cs.fact 43 (f := .free "abs") rfl)
  have m_all := He.free_ok X G (cs.fact 44 (f := .free "all") rfl)
  have m_bool := He.free_ok X G (cs.fact 45 (f := .free "bool") rfl)
  have m_divmod := He.free_ok X G (cs.fact 46 (f := .free "divmod") rfl)
  have m_int := He.free_ok X G (cs.fact 47 (f := .free "int") rfl)
  have m_isinstance := He.free_ok X G (cs.fact 48 (f := .free "isinstance") rfl)
  have m_len := He.free_ok X G (cs.fact 49 (f := .free "len") rfl)
  have m_max := He.free_ok X G (cs.fact 50 (f := .free "max") rfl)
  have m_min := He.free_ok X G (cs.fact 51 (f := .free "min") rfl)
  have m_range := He.free_ok X G (cs.fact 52 (f := .free "range") rfl)
  have m_sorted := He.free_ok X G (cs.fact 53 (f := .free "sorted") rfl)
  have m_sum := He.free_ok X G (cs.fact 54 (f := .free "sum") rfl)
  have m_tuple := He.free_ok X G (cs.fact 55 (f := .free "tuple") rfl)
  have e := hfa.symm.trans m_law
  cases e
  refine ⟨fd_law, fun s v => FunD.bindsA (ps := ["script"]) O_law (fun _ _ _ _ _ _ us hl => match us, hl with | [_], _ => rfl) s [v] rfl, fun base X0 G0 => ?_⟩
  have kk : ∀ κ : Kn, κ = ⟨P, w, K, mg, base⟩ → κ.mg = mg ∧ κ.K = K := fun κ z => by rw [z]; exact ⟨rfl, rfl⟩
  have g_MOST : GloS ⟨P, w, K, mg, base⟩ "MOST" (.int 9999) := gv_ok (κ := ⟨P, w, K, mg, base⟩) X G (factX c 0 (f := gvB "MOST" (.int 9999)) rfl)
  have g_LEAST_POWERED : GloS ⟨P, w, K, mg, base⟩ "LEAST_POWERED" (.int 2) := gv_ok (κ := ⟨P, w, K, mg, base⟩) X G (factX c 1 (f := gvB "LEAST_POWERED" (.int 2)) rfl)
  have g_ROOTED : GloS ⟨P, w, K, mg, base⟩ "ROOTED" (.tup [(.int 2), (.int 4)]) := gv_ok (κ := ⟨P, w, K, mg, base⟩) X G (factX c 2 (f := gvB "ROOTED" (.tup [(.int 2), (.int 4)])) rfl)
  have g_MOST_ROOTED : GloS ⟨P, w, K, mg, base⟩ "MOST_ROOTED" (.int 999) := gv_ok (κ := ⟨P, w, K, mg, base⟩) X G (factX c 3 (f := gvB "MOST_ROOTED" (.int 999)) rfl)
  have g_int : GloS ⟨P, w, K, mg, base⟩ "int" (.ty "int") := ty_ok (κ := ⟨P, w, K, mg, base⟩) m_int (by decide +kernel)
  have g_bool : GloS ⟨P, w, K, mg, base⟩ "bool" (.ty "bool") := ty_ok (κ := ⟨P, w, K, mg, base⟩) m_bool (by decide +kernel)
  have m_gcd := gb_ok (κ := ⟨P, w, K, mg, base⟩) X G (factX c 4 (f := gbB "gcd" "math.gcd") rfl)
  have C__law_pool := c__law_pool (κ := ⟨P, w, K, mg, base⟩) O__law_pool m__law_pool m_range m_abs m_int m_len
  have C_round_by := c_round_by (κ := ⟨P, w, K, mg, base⟩) O_round_by m_round_by m_range
  have C_is_whole := c_is_whole (κ := ⟨P, w, K, mg, base⟩) O_is_whole m_is_whole m_range m_isinstance g_int g_bool
  have C_is_between := c_is_between (κ := ⟨P, w, K, mg, base⟩) O_is_between m_is_between m_range C_is_whole
  have C_is_given := c_is_given (κ := ⟨P, w, K, mg, base⟩) O_is_given m_is_given m_range C_is_between g_MOST
  have C_check_number := c_check_number (κ := ⟨P, w, K, mg, base⟩) O_check_number m_check_number m_range C_is_given
  have C_are_apart_by := c_are_apart_by (κ := ⟨P, w, K, mg, base⟩) O_are_apart_by m_are_apart_by m_range m_gcd
  have C_is_powered := c_is_powered (κ := ⟨P, w, K, mg, base⟩) O_is_powered m_is_powered m_range C_is_given g_LEAST_POWERED
  have C_check_powered := c_check_powered (κ := ⟨P, w, K, mg, base⟩) O_check_powered m_check_powered m_range C_is_powered
  have C_check_rounded := c_check_rounded (κ := ⟨P, w, K, mg, base⟩) O_check_rounded m_check_rounded m_range C_check_number C_are_apart_by C_check_powered
  have C_round_of := c_round_of (κ := ⟨P, w, K, mg, base⟩) O_round_of m_round_of m_range C_round_by C_check_rounded
  have C_primes_by := c_primes_by (κ := ⟨P, w, K, mg, base⟩) O_primes_by m_primes_by m_range m_max m_tuple
  have C_whole_by := c_whole_by (κ := ⟨P, w, K, mg, base⟩) O_whole_by m_whole_by m_range m_gcd
  have C_product_of := c_product_of (κ := ⟨P, w, K, mg, base⟩) O_product_of m_product_of m_range
  have C_power_of := c_power_of (κ := ⟨P, w, K, mg, base⟩) O_power_of m_power_of m_range C_product_of
  have C_greatest_of := c_greatest_of (κ := ⟨P, w, K, mg, base⟩) O_greatest_of m_greatest_of m_range C_power_of
  have C_greatest_by := c_greatest_by (κ := ⟨P, w, K, mg, base⟩) O_greatest_by m_greatest_by m_range C_primes_by C_whole_by C_greatest_of
  have C_greatest_round := c_greatest_round (κ := ⟨P, w, K, mg, base⟩) O_greatest_round m_greatest_round m_range C_check_powered C_greatest_by
  have C_has_roots_by := c_has_roots_by (κ := ⟨P, w, K, mg, base⟩) O_has_roots_by m_has_roots_by m_range C_primes_by m_len g_ROOTED
  have C_has_roots := c_has_roots (κ := ⟨P, w, K, mg, base⟩) O_has_roots m_has_roots m_range C_check_powered C_has_roots_by
  have C_freedom_of := c_freedom_of (κ := ⟨P, w, K, mg, base⟩) O_freedom_of m_freedom_of m_range C_primes_by C_product_of C_power_of
  have C_count_roots_by := c_count_roots_by (κ := ⟨P, w, K, mg, base⟩) O_count_roots_by m_count_roots_by m_range C_has_roots_by C_freedom_of
  have C_count_roots := c_count_roots (κ := ⟨P, w, K, mg, base⟩) O_count_roots m_count_roots m_range C_check_powered C_count_roots_by
  have C_roots_by := c_roots_by (κ := ⟨P, w, K, mg, base⟩) O_roots_by m_roots_by m_range C_round_by C_are_apart_by C_has_roots_by C_freedom_of m_sorted m_tuple
  have C_is_rooted := c_is_rooted (κ := ⟨P, w, K, mg, base⟩) O_is_rooted m_is_rooted m_range C_is_powered g_MOST_ROOTED
  have C_roots := c_roots (κ := ⟨P, w, K, mg, base⟩) O_roots m_roots m_range C_roots_by C_is_rooted
  have C_root_of := c_root_of (κ := ⟨P, w, K, mg, base⟩) O_root_of m_root_of m_range
  have C_squares_by := c_squares_by (κ := ⟨P, w, K, mg, base⟩) O_squares_by m_squares_by m_range C_root_of m_tuple
  have C_squares := c_squares (κ := ⟨P, w, K, mg, base⟩) O_squares m_squares m_range C_check_number C_squares_by
  have C_parts_by := c_parts_by (κ := ⟨P, w, K, mg, base⟩) O_parts_by m_parts_by m_range C_primes_by C_power_of m_sorted m_tuple
  have C_count_squares_by := c_count_squares_by (κ := ⟨P, w, K, mg, base⟩) O_count_squares_by m_count_squares_by m_range C_parts_by m_sum
  have C_count_squares := c_count_squares (κ := ⟨P, w, K, mg, base⟩) O_count_squares m_count_squares m_range C_check_number C_count_squares_by
  have C__law_draw := c__law_draw (κ := ⟨P, w, K, mg, base⟩) O__law_draw m__law_draw m_range m_divmod m_int
  have C__law_pick := c__law_pick (κ := ⟨P, w, K, mg, base⟩) O__law_pick m__law_pick m_range C__law_draw m_len
  have C__law_primes := c__law_primes (κ := ⟨P, w, K, mg, base⟩) O__law_primes m__law_primes m_range m_int m_max m_tuple
  have C__law_parts := c__law_parts (κ := ⟨P, w, K, mg, base⟩) O__law_parts m__law_parts m_range C__law_primes m_sorted m_tuple
  have C__law_number := c__law_number (κ := ⟨P, w, K, mg, base⟩) O__law_number m__law_number m_range C__law_draw C__law_pick
  have C__law_common := c__law_common (κ := ⟨P, w, K, mg, base⟩) O__law_common m__law_common m_range m_abs m_int
  have C__law_free := c__law_free (κ := ⟨P, w, K, mg, base⟩) O__law_free m__law_free m_range C__law_common
  have C__law_round := c__law_round (κ := ⟨P, w, K, mg, base⟩) O__law_round m__law_round m_range m_int
  have C__law_squares := c__law_squares (κ := ⟨P, w, K, mg, base⟩) O__law_squares m__law_squares m_range m_int
  have C__law_right := c__law_right (κ := ⟨P, w, K, mg, base⟩) O__law_right m__law_right m_range C_round_of C_greatest_round C_has_roots C_count_roots C_roots C_squares C_count_squares C__law_draw C__law_pick C__law_primes C__law_parts C__law_number C__law_free C__law_round C__law_squares m_int m_len m_max m_tuple
  have e__law_pool := C__law_pool.mono (k := 8) (by decide)
  have e__law_right := C__law_right.mono (k := 8) (by decide)
  have e_all : CallS ⟨P, w, K, mg, base⟩ 8 "all" (pureF allP) := call_B (pureF_calm fun _ => rfl) (by decide +kernel) blt_all m_all
  have e_len : CallS ⟨P, w, K, mg, base⟩ 8 "len" (pureF lenP) := call_B (pureF_calm fun _ => rfl) (by decide +kernel) blt_len m_len
  have e_max : CallS ⟨P, w, K, mg, base⟩ 8 "max" (pureF maxP) := call_B (pureF_calm fun _ => rfl) (by decide +kernel) blt_max m_max
  have e_min : CallS ⟨P, w, K, mg, base⟩ 8 "min" (pureF minP) := call_B (pureF_calm fun _ => rfl) (by decide +kernel) blt_min m_min
  exact law_end (κ := ⟨P, w, K, mg, base⟩) (fnD_of (CX := ()) (κ := ⟨P, w, K, mg, base⟩) (N := ["script", "turn"]) (ps := ["script"]) O_law sc_law m_range ch_law (by unfold b_law; simp only [OkSs, OkS, OkE, OkEs, OkT, OkTs]; repeat' (first | assumption | exact trivial | constructor))) hL
end K90
open PySem PySem.W PySem.Calls PyProof.Rows in
theorem K90.holds (hL : ∀ ns : List Int, ns.length ≤ 63 → ∃ h', K90.F_law [.scr ns] [] = .ok (.bl true) h') : PySem.Challenge.rw_commonparts_k90_whole_rounds_roots_and_s.Holds := by
  w_on; o_law
  refine HandSHeadRun.head_imp (r := OpenLaw.row PySem.Challenge.rw_commonparts_k90_whole_rounds_roots_and_s) (q := view (OpenLaw.row PySem.Challenge.rw_commonparts_k90_whole_rounds_roots_and_s).prog [0, 54]) (H := K90.hk) (ob := K90.ob) (M := 4000) (loose := (K90.n0 ++ K90.n1)) (d := HandSHeadRun.topDef (OpenLaw.row PySem.Challenge.rw_commonparts_k90_whole_rounds_roots_and_s).prog 54) (kwd := []) K90.ob_eq
    K90.run (by kernel_rfl) (by kernel_rfl) (by kernel_rfl) (by rfl) (by first | assumption | decide +kernel) (by decide +kernel) ⟨rfl, rfl, rfl, rfl, rfl, by decide +kernel⟩ ?hw ?hc
  case hw => w_witness2
  case hc =>
    refine L2.walk_ofE (l := PySem.Challenge.rw_commonparts_k90_whole_rounds_roots_and_s) (n := 63) (k := 9) (x := "script") (CX := L2.CX0) rfl (by decide) (by kernel_rfl) ⟨rfl, by decide, by decide⟩ ?F (fun _ _ _ _ z => z)
    intro w mg fa h Y G hmg0
    obtain ⟨K, KX, c⟩ := Y
    have hmg : mg ("law" : PySem.Str) = some (.ref fa) := by
      have e : (HandSHeadRun.topDef (OpenLaw.row PySem.Challenge.rw_commonparts_k90_whole_rounds_roots_and_s).prog 54).name = ("law" : PySem.Str) := by kernel_rfl
      rw [← e]
      exact hmg0
    obtain ⟨fd, hb, hF⟩ := K90.facts (P := (PySem.Challenge.rw_commonparts_k90_whole_rounds_roots_and_s).prog) (w := w) KX G hmg c hL
    exact ⟨K, fd, _, KX, hb, fun H a ns hl _ hS => ⟨a, ns, rfl, hl, hS, fun _ => rfl⟩, hF⟩
end

theorem PySem.Challenge.cw_commonparts_k90_whole_rounds_roots_and_s_holds : PySem.Challenge.rw_commonparts_k90_whole_rounds_roots_and_s.Holds := by
  exact K90.holds K90.all_ok
