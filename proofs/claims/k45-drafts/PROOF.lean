import PyProof.Rows.All
import HandS.Comp
import PyProof.StrCalls6
import HandS.ForMost
import HandS.Flow
import HandS.IsInst
import HandS.TupAny
import HandS.Wide
import HandS.Conv
import HandS.More
import PyProof.CollectStr
import PyProof.TupleOfSeq
import KE.KDictPairs
import KE.KDictZip
import PyProof.SeqRoads2
import HandS.Zip
import KE.GoesMore
import HandS.DictComp
import HandS.Small
import HandS.Style
import HandS.Defaults
import HandS.Head0
import HandS.Head1
import HandS.Head2
import HandS.HeadEnd
import HandS.HeadHook1
import HandS.HeadHook2
import HandS.HeadHook3
import HandS.HeadHook4
import PySem.Challenge.RW_cellmoments_k45_drafts_do_what_they_say
set_option Elab.async false
set_option linter.all false
set_option maxRecDepth 100000
set_option maxHeartbeats 0
section
/-! PM0: a small language M with a meaning by functions: values, a store of mutable objects, expressions, statements. No Python here. -/
namespace PM

abbrev Tx := List Nat

/-- a value: what never changes stands in it; ref n is the n-th mutable object of the store; ktp a tuple of the written part; fls a list that is only read -/
inductive D where
  | non | bl (b : Bool) | int (i : Int) | str (s : Tx) | tup (ds : List D) | ktp (ds : List D) | fls (ds : List D) | ref (n : Nat)
  deriving Repr, Inhabited

mutual
def D.beq : D → D → Bool
  | .non, .non => true
  | .bl a, .bl b => a == b
  | .int a, .int b => decide (a = b)
  | .str a, .str b => decide (a = b)
  | .tup a, .tup b => D.beqs a b
  | .ktp a, .ktp b => D.beqs a b
  | .fls a, .fls b => D.beqs a b
  | .ref a, .ref b => decide (a = b)
  | _, _ => false
def D.beqs : List D → List D → Bool
  | [], [] => true
  | x :: xs, y :: ys => D.beq x y && D.beqs xs ys
  | _, _ => false
end
mutual
theorem D.beq_iff : ∀ (x y : D), D.beq x y = true ↔ x = y
  | .non, y => by cases y <;> simp [D.beq]
  | .bl a, y => by cases y <;> simp [D.beq]
  | .int a, y => by cases y <;> simp [D.beq]
  | .str a, y => by cases y <;> simp [D.beq]
  | .tup a, y => by cases y <;> simp [D.beq, D.beqs_iff]
  | .ktp a, y => by cases y <;> simp [D.beq, D.beqs_iff]
  | .fls a, y => by cases y <;> simp [D.beq, D.beqs_iff]
  | .ref a, y => by cases y <;> simp [D.beq]
theorem D.beqs_iff : ∀ (x y : List D), D.beqs x y = true ↔ x = y
  | [], y => by cases y <;> simp [D.beqs]
  | x :: xs, y => by
    cases y with
    | nil => simp [D.beqs]
    | cons y ys => simp [D.beqs, D.beq_iff x y, D.beqs_iff xs ys]
end
instance : DecidableEq D := fun x y => decidable_of_iff (D.beq x y = true) (D.beq_iff x y)

/-- what an expression yields: a value, or a list or dict that nobody else holds -/
inductive A where
  | v (d : D) | tl (ds : List D) | td (kvs : List (D × D))
  deriving Repr, Inhabited, DecidableEq
inductive MO where
  | lst (ds : List D) | dct (kvs : List (D × D)) | ins (c : Nat) (fs : List (Tx × D))
  deriving Repr, Inhabited, DecidableEq
abbrev St := List MO
inductive R (α : Type) where
  | ok (a : α) (st : St) | ex (c : Nat) (ds : List D) (st : St) | no
def R.bind {α β : Type} : R α → (α → St → R β) → R β
  | .ok a st, f => f a st
  | .ex c ds st, _ => .ex c ds st
  | .no, _ => .no

mutual
/-- its references lie below n -/
def D.bel (n : Nat) : D → Bool
  | .ref m => decide (m < n)
  | .tup ds => D.bels n ds
  | .ktp ds => D.bels n ds
  | .fls ds => D.bels n ds
  | _ => true
def D.bels (n : Nat) : List D → Bool
  | [] => true
  | d :: ds => D.bel n d && D.bels n ds
end
def kvBelow (n : Nat) (kvs : List (D × D)) : Bool := kvs.all fun p => p.1.bel n && p.2.bel n
def MO.bel (n : Nat) : MO → Bool
  | .lst ds => D.bels n ds
  | .dct kvs => kvBelow n kvs
  | .ins _ fs => fs.all fun p => p.2.bel n

/-- a key of a dict: a whole number or a text (a tuple of such) -/
def keyK : D → Bool
  | .int _ => true
  | .str _ => true
  | _ => false
def keyOk : D → Bool
  | .tup ds => ds.all keyK
  | d => keyK d
def lookD (kvs : List (D × D)) (k : D) : Option D := match kvs with
  | [] => none
  | p :: r => if p.1 = k then some p.2 else lookD r k
def putD (kvs : List (D × D)) (k v : D) : List (D × D) :=
  if kvs.any fun p => decide (p.1 = k) then kvs.map fun p => if p.1 = k then (p.1, v) else p else kvs ++ [(k, v)]
def dropD (kvs : List (D × D)) (k : D) : List (D × D) := kvs.filter fun p => decide (p.1 ≠ k)
/-- all keys of one kind: whole numbers and texts, or tuples of them -/
def flatKeys (kvs : List (D × D)) : Bool := kvs.all fun p => keyK p.1
def isT : D → Bool
  | .tup ds => ds.all keyK
  | _ => false
def tupKeys (kvs : List (D × D)) : Bool := kvs.all fun p => isT p.1
/-- a key that such a dict can be asked -/
def askOk (kvs : List (D × D)) (k : D) : Bool := (keyK k && flatKeys kvs) || (isT k && tupKeys kvs)

/-- behind a call: what only the callee made, and nobody holds, is forgotten -/
def gc (st : St) (x : A) (st' : St) : A × St :=
  if st'.length ≤ st.length then (x, st') else
  if decide (st'.take st.length = st) || (st'.take st.length).all (MO.bel st.length) then
    match x with
    | .tl ds => if D.bels st.length ds then (x, st'.take st.length) else (x, st')
    | .td kvs => if kvBelow st.length kvs then (x, st'.take st.length) else (x, st')
    | .v d => if d.bel st.length then (x, st'.take st.length) else
      match d with
      | .ref m => match st'[m]? with
        | some (.lst ds) => if D.bels st.length ds then (.tl ds, st'.take st.length) else (x, st')
        | some (.dct kvs) => if kvBelow st.length kvs && flatKeys kvs && !kvs.isEmpty then (.td kvs, st'.take st.length) else (x, st')
        | _ => (x, st')
      | _ => (x, st')
  else (x, st')
def gcR (st : St) : R A → R A
  | .ok x st' => .ok (gc st x st').1 (gc st x st').2
  | .ex c ds st' => .ex c ds st'
  | .no => .no

/-- a list or dict of nobody's goes into the store -/
def mat : A → St → D × St
  | .v d, st => (d, st)
  | .tl ds, st => (.ref st.length, st ++ [.lst ds])
  | .td kvs, st => (.ref st.length, st ++ [.dct kvs])
def mats : List A → St → List D × St
  | [], st => ([], st)
  | a :: as, st => let (d, st1) := mat a st; let (ds, st2) := mats as st1; (d :: ds, st2)

def szMax : Nat := 16777216
def big62 : Int := 4611686018427387904
def big64 : Int := 18446744073709551616

def getL (st : St) (n : Nat) : Option (List D) := match st[n]? with
  | some (.lst ds) => some ds
  | _ => none
def getK (st : St) (n : Nat) : Option (List (D × D)) := match st[n]? with
  | some (.dct kvs) => some kvs
  | _ => none
/-- a list of the store's or nobody's -/
def trkOf (st : St) : A → Option (List D)
  | .tl ds => some ds
  | .v (.ref n) => getL st n
  | _ => none
def lstOf (st : St) : A → Option (List D)
  | .v (.fls ds) => some ds
  | a => trkOf st a
def tupOf : A → Option (List D)
  | .v (.tup ds) => some ds
  | .v (.ktp ds) => some ds
  | _ => none
def seqOf (st : St) (a : A) : Option (List D) := match tupOf a with
  | some ds => some ds
  | none => lstOf st a
def dctOf (st : St) : A → Option (List (D × D))
  | .td kvs => some kvs
  | .v (.ref n) => getK st n
  | _ => none
/-- what a loop walks -/
def itemsOf (st : St) (a : A) : Option (List D) := match a with
  | .v (.str s) => some (s.map fun c => .str [c])
  | a => seqOf st a
def truth (st : St) (a : A) : Option Bool := match a with
  | .v .non => some false
  | .v (.bl b) => some b
  | .v (.int i) => some (i != 0)
  | .v (.str s) => if s.length ≤ szMax then some (!s.isEmpty) else none
  | a => match seqOf st a with
    | some ds => some (!ds.isEmpty)
    | none => none

/-- plain data, for == -/
inductive P where
  | non | bl (b : Bool) | int (i : Int) | str (s : Tx) | lst (ps : List P) | tup (ps : List P)
  deriving Repr, Inhabited
def okTx (s : Tx) : Bool := s.all fun c => decide (c < 1114112)
def toPs (f : D → Option P) : List D → Option (List P)
  | [] => some []
  | d :: ds => match f d, toPs f ds with
    | some p, some ps => some (p :: ps)
    | _, _ => none
def toP (st : St) : Nat → D → Option P
  | _, .non => some .non
  | _, .bl b => some (.bl b)
  | _, .int i => some (.int i)
  | _, .str s => if okTx s then some (.str s) else none
  | n + 1, .tup ds => (toPs (toP st n) ds).map .tup
  | n + 1, .ktp ds => (toPs (toP st n) ds).map .tup
  | n + 1, .fls ds => (toPs (toP st n) ds).map .lst
  | n + 1, .ref m => match st[m]? with
    | some (.lst ds) => (toPs (toP st n) ds).map .lst
    | _ => none
  | 0, _ => none
def eqN : Nat := 40
def toPA (st : St) : A → Option P
  | .v d => toP st eqN d
  | .tl ds => (toPs (toP st eqN) ds).map .lst
  | .td _ => none
mutual
def P.eqv : P → P → Bool
  | .non, .non => true
  | .bl a, .bl b => a == b
  | .bl a, .int j => decide ((if a then 1 else 0) = j)
  | .int i, .bl b => decide (i = (if b then 1 else 0))
  | .int i, .int j => decide (i = j)
  | .str x, .str y => decide (x = y)
  | .lst xs, .lst ys => P.eqvs xs ys
  | .tup xs, .tup ys => P.eqvs xs ys
  | _, _ => false
def P.eqvs : List P → List P → Bool
  | [], [] => true
  | x :: xs, y :: ys => P.eqv x y && P.eqvs xs ys
  | _, _ => false
end
def eqA (st : St) (a b : A) : Option Bool := match toPA st a, toPA st b with
  | some x, some y => some (P.eqv x y)
  | _, _ => none

/-- flat values and == of them (for in) -/
def flatD : D → Bool
  | .non | .bl _ | .int _ | .str _ => true
  | _ => false
def eqF : D → D → Bool
  | .non, .non => true
  | .bl a, .bl b => a == b
  | .bl a, .int b => decide ((if a then 1 else 0) = b)
  | .int a, .bl b => decide (a = (if b then 1 else 0))
  | .int a, .int b => decide (a = b)
  | .str a, .str b => decide (a = b)
  | _, _ => false
def txLt : Tx → Tx → Bool
  | [], [] => false
  | [], _ :: _ => true
  | _ :: _, [] => false
  | x :: xs, y :: ys => if x = y then txLt xs ys else decide (x < y)
def intsOf : List D → Option (List Int)
  | [] => some []
  | .int i :: r => (intsOf r).map (i :: ·)
  | _ => none
def blsOf : List D → Option (List Bool)
  | [] => some []
  | .bl b :: r => (blsOf r).map (b :: ·)
  | _ => none
def txsOf : List D → Option (List Tx)
  | [] => some []
  | .str b :: r => (txsOf r).map (b :: ·)
  | _ => none
def lexLt : List Int → List Int → Bool
  | [], [] => false
  | [], _ :: _ => true
  | _ :: _, [] => false
  | x :: xs, y :: ys => if x = y then lexLt xs ys else decide (x < y)
/-- a < b; none where it isn't known here -/
def ltD : D → D → Option Bool
  | .int a, .int b => some (decide (a < b))
  | .str a, .str b => some (txLt a b)
  | .tup a, .tup b => match intsOf a, intsOf b with
    | some x, some y => some (lexLt x y)
    | _, _ => none
  | _, _ => none
/-- texts, from the least on -/
def insTx (x : Tx) : List Tx → List Tx
  | [] => [x]
  | y :: r => if txLt x y then x :: y :: r else y :: insTx x r
def sortTx : List Tx → List Tx
  | [] => []
  | x :: r => insTx x (sortTx r)
def ixN (n : Nat) (i : Int) : Option Nat :=
  if 0 ≤ i then (if i < (n : Int) then some i.toNat else none) else if -(n : Int) ≤ i then some (i + (n : Int)).toNat else none
def atI (xs : List D) (i : Int) : Option D := match ixN xs.length i with
  | some j => xs[j]?
  | none => none
def sIx (n : Nat) (d : Nat) : Option Int → Nat
  | none => d
  | some i => if i < 0 then (i + (n : Int)).toNat else min i.toNat n
def cut {α : Type} (xs : List α) (lo hi : Option Int) : List α := (xs.drop (sIx xs.length 0 lo)).take (sIx xs.length xs.length hi - sIx xs.length 0 lo)
def ranI (lo : Int) (n : Nat) : List D := (List.range n).map fun (i : Nat) => .int (lo + (i : Int))
def zipD : List D → List D → List D
  | x :: xs, y :: ys => .tup [x, y] :: zipD xs ys
  | _, _ => []
def enuD : Nat → List D → List D
  | _, [] => []
  | n, x :: xs => .tup [.int n, x] :: enuD (n + 1) xs
/-- pairs of a dict's -/
def pairsOf : List D → Option (List (D × D))
  | [] => some []
  | .tup [k, v] :: r => (pairsOf r).map ((k, v) :: ·)
  | _ => none
def mergeD (kvs : List (D × D)) : List (D × D) → List (D × D)
  | [] => kvs
  | p :: r => mergeD (putD kvs p.1 p.2) r
inductive Ty where
  | tInt | tBool | tStr | tTup | tLst
  deriving Repr, DecidableEq
def isTy (st : St) : D → Ty → Option Bool
  | .bl _, .tInt => some true
  | .bl _, .tBool => some true
  | .int _, .tInt => some true
  | .str _, .tStr => some true
  | .tup _, .tTup => some true
  | .ktp _, .tTup => some true
  | .non, _ => some false
  | .bl _, _ => some false
  | .int _, _ => some false
  | .str _, _ => some false
  | .tup _, _ => some false
  | .ktp _, _ => some false
  | .ref n, t => match st[n]? with
    | some (.lst _) => some (decide (t = .tLst))
    | some (.dct _) => some false
    | _ => none
  | _, _ => none

inductive Fn where
  | add | sub | mul | mod | fdv | pow | neg
  | eq | ne | lt | le | gt | ge | inn | nin | isN | ntN
  | ix | slF | slT | rev
  | len | all | any | sum | tup | lst | int | min2 | max2 | srt | dct
  | get | app | ext | rem | pop0 | popI | idx
  | isi (t : Ty)
  deriving Repr, DecidableEq

def bl (o : Option Bool) (st : St) : R A := match o with
  | some b => .ok (.v (.bl b)) st
  | none => .no
def val (o : Option D) (st : St) : R A := match o with
  | some b => .ok (.v b) st
  | none => .no
def cutA (a : A) (lo hi : Option Int) (st : St) : R A := match a with
  | .v (.str s) => if s.length ≤ szMax then .ok (.v (.str (cut s lo hi))) st else .no
  | a => match tupOf a with
    | some ds => if sIx ds.length 0 lo = 0 ∧ sIx ds.length ds.length hi = ds.length then .ok a st else .ok (.v (.tup (cut ds lo hi))) st
    | none => match lstOf st a with
      | some ds => .ok (.tl (cut ds lo hi)) st
      | none => .no
def notO : Option Bool → Option Bool
  | some b => some (!b)
  | none => none
def addA (a b : A) (st : St) : R A := match a, b with
  | .v (.int i), .v (.int j) => .ok (.v (.int (i + j))) st
  | .v (.str x), .v (.str y) => if x.length + y.length ≤ szMax then .ok (.v (.str (x ++ y))) st else .no
  | a, b => match tupOf a, tupOf b with
    | some xs, some ys => if xs.length + ys.length ≤ szMax then (if xs.isEmpty then .ok b st else if ys.isEmpty then .ok a st else .ok (.v (.tup (xs ++ ys))) st) else .no
    | _, _ => match trkOf st a, trkOf st b with
      | some xs, some ys => if xs.length + ys.length ≤ szMax then .ok (.tl (xs ++ ys)) st else .no
      | _, _ => .no
/-- a key that may be asked -/
def askX (a : A) (kvs : List (D × D)) (k : D) : Bool := match a with
  | .td _ => keyK k && flatKeys kvs
  | _ => askOk kvs k
def inA (a b : A) (st : St) : Option Bool := match a with
  | .v k => match dctOf st b with
    | some kvs => if askX b kvs k then some (lookD kvs k).isSome else none
    | none => match seqOf st b with
      | some ds => if flatD k && ds.all flatD then some (ds.any fun d => eqF d k) else none
      | none => none
  | _ => none
def ixA (a : A) (k : D) (st : St) : Option D := match a, k with
  | .v (.str s), .int i => if s.length ≤ szMax then (match ixN s.length i with
    | some j => match s[j]? with
      | some c => some (.str [c])
      | none => none
    | none => none) else none
  | a, k => match dctOf st a with
    | some kvs => if askX a kvs k then lookD kvs k else none
    | none => match seqOf st a, k with
      | some ds, .int i => atI ds i
      | _, _ => none
def setO (st : St) (n : Nat) (o : MO) : St := st.set n o
def p_add : List A → St → R A
  | [a, b], st => addA a b st
  | _, _ => .no
def p_sub : List A → St → R A
  | [.v (.int i), .v (.int j)], st => .ok (.v (.int (i - j))) st
  | _, _ => .no
def p_mul : List A → St → R A
  | [.v (.int i), .v (.int j)], st => if (decide (-big64 < i) && decide (i < big64)) || (decide (-big64 < j) && decide (j < big64)) then .ok (.v (.int (i * j))) st else .no
  | _, _ => .no
def p_mod : List A → St → R A
  | [.v (.int i), .v (.int j)], st => if 0 < j then .ok (.v (.int (i % j))) st else .no
  | _, _ => .no
def p_fdv : List A → St → R A
  | [.v (.int i), .v (.int j)], st => if 0 < j ∧ j < 1073741824 then .ok (.v (.int (i / j))) st else .no
  | _, _ => .no
def p_pow : List A → St → R A
  | [.v (.int i), .v (.int j)], st => if 0 ≤ j ∧ j ≤ 1000000 ∧ -big64 < i ∧ i < big64 then .ok (.v (.int (i ^ j.toNat))) st else .no
  | _, _ => .no
def p_neg : List A → St → R A
  | [.v (.int i)], st => .ok (.v (.int (-i))) st
  | _, _ => .no
def p_eq : List A → St → R A
  | [a, b], st => bl (eqA st a b) st
  | _, _ => .no
def p_ne : List A → St → R A
  | [a, b], st => bl (notO (eqA st a b)) st
  | _, _ => .no
def p_lt : List A → St → R A
  | [.v a, .v b], st => bl (ltD a b) st
  | _, _ => .no
def p_gt : List A → St → R A
  | [.v (.int a), .v (.int b)], st => .ok (.v (.bl (decide (b < a)))) st
  | _, _ => .no
def p_le : List A → St → R A
  | [.v (.int a), .v (.int b)], st => .ok (.v (.bl (decide (a ≤ b)))) st
  | [.v (.str a), .v (.str b)], st => .ok (.v (.bl (!txLt b a))) st
  | _, _ => .no
def p_ge : List A → St → R A
  | [.v (.int a), .v (.int b)], st => .ok (.v (.bl (decide (b ≤ a)))) st
  | _, _ => .no
def p_inn : List A → St → R A
  | [a, b], st => bl (inA a b st) st
  | _, _ => .no
def p_nin : List A → St → R A
  | [a, b], st => bl (notO (inA a b st)) st
  | _, _ => .no
def p_isN : List A → St → R A
  | [.v d], st => .ok (.v (.bl (decide (d = .non)))) st
  | _, _ => .no
def p_ntN : List A → St → R A
  | [.v d], st => .ok (.v (.bl (!decide (d = .non)))) st
  | _, _ => .no
def p_ix : List A → St → R A
  | [a, .v k], st => val (ixA a k st) st
  | _, _ => .no
def p_slF : List A → St → R A
  | [a, .v (.int i)], st => cutA a (some i) none st
  | _, _ => .no
def p_slT : List A → St → R A
  | [a, .v (.int i)], st => cutA a none (some i) st
  | _, _ => .no
def p_len : List A → St → R A
  | [.v (.str s)], st => if s.length ≤ szMax then .ok (.v (.int s.length)) st else .no
  | [a], st => match seqOf st a with
    | some ds => .ok (.v (.int ds.length)) st
    | none => match dctOf st a with
      | some kvs => if flatKeys kvs then .ok (.v (.int kvs.length)) st else .no
      | none => .no
  | _, _ => .no
def p_all : List A → St → R A
  | [a], st => match lstOf st a with
    | some ds => bl ((blsOf ds).map fun bs => bs.all id) st
    | none => .no
  | _, _ => .no
def p_any : List A → St → R A
  | [a], st => match lstOf st a with
    | some ds => bl ((blsOf ds).map fun bs => bs.any id) st
    | none => .no
  | _, _ => .no
def p_sum : List A → St → R A
  | [a], st => match lstOf st a with
    | some ds => val ((intsOf ds).map fun is => .int is.sum) st
    | none => .no
  | _, _ => .no
def p_tup : List A → St → R A
  | [a], st => match tupOf a with
    | some ds => .ok a st
    | none => match lstOf st a with
      | some ds => .ok (.v (.ktp ds)) st
      | none => .no
  | _, _ => .no
def p_lst : List A → St → R A
  | [a], st => match seqOf st a with
    | some ds => .ok (.tl ds) st
    | none => match dctOf st a with
      | some kvs => if flatKeys kvs then .ok (.tl (kvs.map (·.1))) st else .no
      | none => .no
  | _, _ => .no
def p_int : List A → St → R A
  | [.v (.int i)], st => .ok (.v (.int i)) st
  | [.v (.bl b)], st => .ok (.v (.int (if b then 1 else 0))) st
  | _, _ => .no
def p_min2 : List A → St → R A
  | [.v (.int i), .v (.int j)], st => .ok (.v (.int (if j < i then j else i))) st
  | _, _ => .no
def p_max2 : List A → St → R A
  | [.v (.int i), .v (.int j)], st => .ok (.v (.int (if i < j then j else i))) st
  | _, _ => .no
def p_srt : List A → St → R A
  | [.v (.str s)], st => if s.length < 64 then .ok (.tl ((sortTx (s.map fun c => [c])).map .str)) st else .no
  | [a], st => match seqOf st a with
    | some ds => match txsOf ds with
      | some xs => if xs.length < 64 then .ok (.tl ((sortTx xs).map .str)) st else .no
      | none => .no
    | none => match dctOf st a with
      | some kvs => match txsOf (kvs.map (·.1)) with
        | some xs => if xs.length < 64 then .ok (.tl ((sortTx xs).map .str)) st else .no
        | none => .no
      | none => .no
  | _, _ => .no
/-- what dict(..) takes its pairs from -/
def dctSrc (st : St) : A → Option (List D)
  | .v (.ktp ds) => some ds
  | a => lstOf st a
def p_dct : List A → St → R A
  | [a], st => match dctSrc st a with
    | some ds => match pairsOf ds with
      | some ps => if flatKeys ps then .ok (.td (mergeD [] ps)) st else .no
      | none => .no
    | none => match dctOf st a with
      | some kvs => if flatKeys kvs then .ok (.td kvs) st else .no
      | none => .no
  | _, _ => .no
def p_get : List A → St → R A
  | [a, .v k, .v d], st => match dctOf st a with
    | some kvs => if askX a kvs k then .ok (.v ((lookD kvs k).getD d)) st else .no
    | none => .no
  | _, _ => .no
def p_app : List A → St → R A
  | [.v (.ref n), a], st => match getL (mat a st).2 n with
    | some ds => if ds.length < szMax then .ok (.v .non) (setO (mat a st).2 n (.lst (ds ++ [(mat a st).1]))) else .no
    | none => .no
  | _, _ => .no
def p_ext : List A → St → R A
  | [.v (.ref n), a], st => match getL st n, trkOf st a with
    | some ds, some es => if ds.length + es.length ≤ szMax then .ok (.v .non) (setO st n (.lst (ds ++ es))) else .no
    | _, _ => .no
  | _, _ => .no
def p_rem : List A → St → R A
  | [.v (.ref n), .v (.str x)], st => match getL st n with
    | some ds => match txsOf ds with
      | some xs => if x ∈ xs then .ok (.v .non) (setO st n (.lst ((xs.erase x).map .str))) else .no
      | none => .no
    | none => .no
  | _, _ => .no
def p_popI : List A → St → R A
  | [.v (.ref n), .v (.int i)], st => match getL st n with
    | some ds => match ixN ds.length i with
      | some j => match ds[j]? with
        | some d => .ok (.v d) (setO st n (.lst (ds.eraseIdx j)))
        | none => .no
      | none => .no
    | none => .no
  | _, _ => .no
def p_pop0 : List A → St → R A
  | [.v (.ref n)], st => match getL st n with
    | some ds => match ds[ds.length - 1]? with
      | some d => .ok (.v d) (setO st n (.lst ds.dropLast))
      | none => .no
    | none => .no
  | _, _ => .no
def p_idx : List A → St → R A
  | [a, .v d], st => match lstOf st a with
    | some ds => if flatD d && ds.all flatD then val ((ds.findIdx? fun e => eqF e d).map fun (j : Nat) => .int j) st else .no
    | none => .no
  | _, _ => .no
def p_isi (t : Ty) : List A → St → R A
  | [.v d], st => bl (isTy st d t) st
  | _, _ => .no
/-- what a primitive gives -/
def prim : Fn → List A → St → R A
  | .add => p_add
  | .sub => p_sub
  | .mul => p_mul
  | .mod => p_mod
  | .fdv => p_fdv
  | .pow => p_pow
  | .neg => p_neg
  | .eq => p_eq
  | .ne => p_ne
  | .lt => p_lt
  | .gt => p_gt
  | .le => p_le
  | .ge => p_ge
  | .inn => p_inn
  | .nin => p_nin
  | .isN => p_isN
  | .ntN => p_ntN
  | .ix => p_ix
  | .slF => p_slF
  | .slT => p_slT
  | .len => p_len
  | .all => p_all
  | .any => p_any
  | .sum => p_sum
  | .tup => p_tup
  | .lst => p_lst
  | .int => p_int
  | .min2 => p_min2
  | .max2 => p_max2
  | .srt => p_srt
  | .dct => p_dct
  | .get => p_get
  | .app => p_app
  | .ext => p_ext
  | .rem => p_rem
  | .popI => p_popI
  | .pop0 => p_pop0
  | .idx => p_idx
  | .isi t => p_isi t
  | .rev => fun _ _ => .no

/-! ### expressions, statements -/
mutual
inductive E where
  | cst (d : D) | var (i : Nat)
  | tup (es : Es) | lst (es : Es) | dsp (es : Es)
  | p (f : Fn) (es : Es) | m (f : Fn) (o : E) (es : Es)
  | not (a : E) | and (a b : E) | or (a b : E) | ite (c a b : E)
  | chain (f g : Fn) (a b c : E) | slB (a b c : E)
  | lc (i : It) (t : Tg) (own : List Nat) (cs : Es) (e : E)
  | dc (i : It) (t : Tg) (own : List Nat) (cs : Es) (k v : E)
  | call (f : Nat) (es : Es)
inductive Es where
  | nil | cons (e : E) (es : Es)
inductive It where
  | seq (e : E) | ran1 (a : E) | ran2 (a b : E) | zip (a b : E) | enu (a : E)
inductive Tg where
  | nm (i : Nat) | tp (is : List Nat) | sub (o i : E)
end
mutual
inductive S where
  | ex (e : E) | asg (t : Tg) (e : E) | par (is : List Nat) (es : Es) | aug (i : Nat) (f : Fn) (e : E)
  | iff (c : E) (a b : Ss) | forr (i : It) (t : Tg) (b : Ss) | whl (c : E) (b : Ss)
  | ret (e : E) | brk | cnt | pas
inductive Ss where
  | nil | cons (s : S) (r : Ss)
end

abbrev Env := List (Option D)
abbrev FT := Nat → List D → St → R A
/-- lists in the store that must stand while they are walked -/
abbrev Chk := List (Nat × MO)
def alive (c : Chk) (st : St) : Bool := c.all fun p => decide (st[p.1]? = some p.2)
def chkOf (st : St) : A → Chk
  | .v (.ref n) => match st[n]? with
    | some o => [(n, o)]
    | none => []
  | _ => []
inductive Fl where
  | nx | rt (x : A) | bk | ct
inductive RS where
  | ok (f : Fl) (ρ : Env) (st : St) | ex (c : Nat) (ds : List D) (ρ : Env) (st : St) | no
def RS.bind : RS → (Env → St → RS) → RS
  | .ok .nx ρ st, f => f ρ st
  | .ok fl ρ st, _ => .ok fl ρ st
  | .ex c ds ρ st, _ => .ex c ds ρ st
  | .no, _ => .no
def R.toS {α : Type} (ρ : Env) : R α → (α → St → RS) → RS
  | .ok a st, f => f a st
  | .ex c ds st, _ => .ex c ds ρ st
  | .no, _ => .no
def setAll (ρ : Env) : List Nat → List D → Env
  | i :: is, d :: ds => setAll (ρ.set i (some d)) is ds
  | _, _ => ρ
def wipeE (ρ : Env) : List Nat → Env
  | [] => ρ
  | i :: is => (wipeE ρ is).set i none
/-- name op= e, of whole numbers -/
def augO (f : Fn) (d : D) (x : A) : Option D := match f, d, x with
  | .add, .int i, .v (.int j) => some (.int (i + j))
  | .sub, .int i, .v (.int j) => some (.int (i - j))
  | _, _, _ => none
/-- a name's or names' target -/
def assignP (t : Tg) (d : D) (ρ : Env) : Option Env := match t with
  | .nm i => some (ρ.set i (some d))
  | .tp is => match d with
    | .tup ds => if ds.length = is.length then some (setAll ρ is ds) else none
    | .ktp ds => if ds.length = is.length then some (setAll ρ is ds) else none
    | _ => none
  | .sub _ _ => none
/-- inside a comprehension nothing is raised -/
def R.cut {α : Type} : R α → R α
  | .ex _ _ _ => .no
  | r => r
def lcLoop (chk : Chk) (body : D → St → R (Option D)) : List D → List D → St → R A
  | [], acc, st => if alive chk st then .ok (.tl acc) st else .no
  | d :: r, acc, st => if alive chk st then (body d st).cut.bind fun o st1 => match o with
      | some x => if acc.length < szMax then lcLoop chk body r (acc ++ [x]) st1 else .no
      | none => lcLoop chk body r acc st1
    else .no
def dcLoop (chk : Chk) (body : D → St → R (Option (D × D))) : List D → List (D × D) → St → R A
  | [], acc, st => if alive chk st then .ok (.td acc) st else .no
  | d :: r, acc, st => if alive chk st then (body d st).cut.bind fun o st1 => match o with
      | some x => if acc.length < szMax && keyK x.1 then dcLoop chk body r (putD acc x.1 x.2) st1 else .no
      | none => dcLoop chk body r acc st1
    else .no
def forLoop (chk : Chk) (body : D → Env → St → RS) : List D → Env → St → RS
  | [], ρ, st => if alive chk st then .ok .nx ρ st else .no
  | d :: r, ρ, st => if alive chk st then (match body d ρ st with
      | .ok .nx ρ1 st1 => forLoop chk body r ρ1 st1
      | .ok .ct ρ1 st1 => forLoop chk body r ρ1 st1
      | .ok .bk ρ1 st1 => .ok .nx ρ1 st1
      | .ok (.rt x) ρ1 st1 => .ok (.rt x) ρ1 st1
      | .ex c ds ρ1 st1 => .ex c ds ρ1 st1
      | .no => .no)
    else .no
def whileLoop (test : Env → St → R Bool) (body : Env → St → RS) : Nat → Env → St → RS
  | 0, _, _ => .no
  | n + 1, ρ, st => (test ρ st).toS ρ fun b st1 => if b then (match body ρ st1 with
      | .ok .nx ρ1 st2 => whileLoop test body n ρ1 st2
      | .ok .ct ρ1 st2 => whileLoop test body n ρ1 st2
      | .ok .bk ρ1 st2 => .ok .nx ρ1 st2
      | .ok (.rt x) ρ1 st2 => .ok (.rt x) ρ1 st2
      | .ex c ds ρ1 st2 => .ex c ds ρ1 st2
      | .no => .no)
    else .ok .nx ρ st1
def wN : Nat := 1000000
def truR (a : A) (st : St) : R Bool := match truth st a with
  | some b => .ok b st
  | none => .no
def valsR (x y : A) (st : St) : R (D × D) := match x, y with
  | .v a, .v b => .ok (a, b) st
  | _, _ => .no
def intR (x : A) (st : St) : R Int := match x with
  | .v (.int b) => .ok b st
  | _ => .no
def boolR (x : A) (st : St) : R Bool := match x with
  | .v (.bl b) => .ok b st
  | _ => .no
/-- what a method's receiver is -/
def recvOk (f : Fn) (x : A) (st : St) : Bool := match f with
  | .get => (dctOf st x).isSome
  | _ => (lstOf st x).isSome
def keyR (x : A) (st : St) : R D := match x with
  | .v d => if keyK d then .ok d st else .no
  | _ => .no
mutual
def evE (F : FT) : E → Env → St → R A
  | .cst d, _, st => .ok (.v d) st
  | .var i, ρ, st => match ρ[i]? with
    | some (some d) => .ok (.v d) st
    | _ => .no
  | .tup es, ρ, st => (evEs F es ρ st).bind fun as st1 => if as.length ≤ szMax then .ok (.v (.tup (mats as st1).1)) (mats as st1).2 else .no
  | .lst es, ρ, st => (evEs F es ρ st).bind fun as st1 => if as.length ≤ szMax then .ok (.tl (mats as st1).1) (mats as st1).2 else .no
  | .dsp es, ρ, st => (evDs F es ρ st).bind fun ps st1 => if ps.length ≤ 16 then .ok (.td (mergeD [] ((ps.map (·.1)).zip (mats (ps.map (·.2)) st1).1))) (mats (ps.map (·.2)) st1).2 else .no
  | .p f es, ρ, st => (evEs F es ρ st).bind fun as st1 => prim f as st1
  | .m f o es, ρ, st => (evE F o ρ st).bind fun x st1 => if recvOk f x st1 then (evEs F es ρ st1).bind fun as st2 => prim f (x :: as) st2 else .no
  | .not a, ρ, st => (evE F a ρ st).bind fun x st1 => (truR x st1).bind fun b st2 => .ok (.v (.bl (!b))) st2
  | .and a b, ρ, st => (evE F a ρ st).bind fun x st1 => (truR x st1).bind fun c st2 => if c then evE F b ρ st2 else .ok x st2
  | .or a b, ρ, st => (evE F a ρ st).bind fun x st1 => (truR x st1).bind fun c st2 => if c then .ok x st2 else evE F b ρ st2
  | .ite c a b, ρ, st => (evE F c ρ st).bind fun x st1 => (truR x st1).bind fun c st2 => if c then evE F a ρ st2 else evE F b ρ st2
  | .chain f g a b c, ρ, st => (evE F a ρ st).bind fun x st1 => (evE F b ρ st1).bind fun y st2 => (valsR x y st2).bind fun q st2 => (prim f [.v q.1, .v q.2] st2).bind fun z st3 => (boolR z st3).bind fun k st3 =>
    if k then (evE F c ρ st3).bind fun w st4 => (valsR y w st4).bind fun q st4 => prim g [.v q.1, .v q.2] st4 else .ok (.v (.bl false)) st3
  | .slB a b c, ρ, st => (evE F a ρ st).bind fun x st1 => (evE F b ρ st1).bind fun y st2 => (intR y st2).bind fun i st2 => (evE F c ρ st2).bind fun z st3 => (intR z st3).bind fun j st3 => cutA x (some i) (some j) st3
  | .lc i t own cs e, ρ, st => (evIt F i ρ st).bind fun q st1 => lcLoop q.2 (fun d st2 => match assignP t d (wipeE ρ own) with
      | some ρ1 => (evTs F cs ρ1 st2).bind fun b st3 => if b then (evE F e ρ1 st3).bind fun x st4 => .ok (some (mat x st4).1) (mat x st4).2 else .ok none st3
      | none => .no) q.1 [] st1
  | .dc i t own cs k v, ρ, st => (evIt F i ρ st).bind fun q st1 => dcLoop q.2 (fun d st2 => match assignP t d (wipeE ρ own) with
      | some ρ1 => (evTs F cs ρ1 st2).bind fun b st3 => if b then (evE F k ρ1 st3).bind fun x st4 => (evE F v ρ1 st4).bind fun y st5 => match x with
          | .v x => .ok (some (x, (mat y st5).1)) (mat y st5).2
          | _ => .no
        else .ok none st3
      | none => .no) q.1 [] st1
  | .call f es, ρ, st => (evEs F es ρ st).bind fun as st1 => (gcR st1 (F f (mats as st1).1 (mats as st1).2)).cut
def evEs (F : FT) : Es → Env → St → R (List A)
  | .nil, _, st => .ok [] st
  | .cons e es, ρ, st => (evE F e ρ st).bind fun x st1 => (evEs F es ρ st1).bind fun xs st2 => .ok (x :: xs) st2
/-- a display's pairs -/
def evDs (F : FT) : Es → Env → St → R (List (D × A))
  | .nil, _, st => .ok [] st
  | .cons _ .nil, _, _ => .no
  | .cons k (.cons v es), ρ, st => (evE F k ρ st).bind fun x st1 => (keyR x st1).bind fun d st1 => (evE F v ρ st1).bind fun y st2 => (evDs F es ρ st2).bind fun ps st3 => .ok ((d, y) :: ps) st3
/-- a clause's tests: none or one -/
def evTs (F : FT) : Es → Env → St → R Bool
  | .nil, _, st => .ok true st
  | .cons e _, ρ, st => (evE F e ρ st).bind fun x st1 => truR x st1
def evIt (F : FT) : It → Env → St → R (List D × Chk)
  | .seq e, ρ, st => (evE F e ρ st).bind fun x st1 => match itemsOf st1 x with
    | some ds => .ok (ds, chkOf st1 x) st1
    | none => .no
  | .ran1 a, ρ, st => (evE F a ρ st).bind fun x st1 => match x with
    | .v (.int n) => if -big62 ≤ n ∧ n < big62 then .ok (ranI 0 n.toNat, []) st1 else .no
    | _ => .no
  | .ran2 a b, ρ, st => (evE F a ρ st).bind fun x st1 => (evE F b ρ st1).bind fun y st2 => match x, y with
    | .v (.int m), .v (.int n) => if -big62 ≤ n ∧ n < big62 ∧ -big62 ≤ m ∧ m < big62 then .ok (ranI m (n - m).toNat, []) st2 else .no
    | _, _ => .no
  | .zip a b, ρ, st => (evE F a ρ st).bind fun x st1 => (evE F b ρ st1).bind fun y st2 => match (if (tupOf x).isSome = (tupOf y).isSome then seqOf st2 x else none), seqOf st2 y with
    | some xs, some ys => .ok (zipD xs ys, chkOf st2 x ++ chkOf st2 y) st2
    | _, _ => .no
  | .enu a, ρ, st => (evE F a ρ st).bind fun x st1 => match seqOf st1 x with
    | some ds => .ok (enuD 0 ds, chkOf st1 x) st1
    | none => .no
end
def assign (F : FT) (t : Tg) (x : A) (ρ : Env) (st : St) : RS := match t with
  | .nm i => .ok .nx (ρ.set i (some (mat x st).1)) (mat x st).2
  | .tp is => match x with
    | .v d => match assignP (.tp is) d ρ with
      | some ρ1 => .ok .nx ρ1 st
      | none => .no
    | _ => .no
  | .sub o i => (evE F o ρ st).toS ρ fun y st1 => (evE F i ρ st1).toS ρ fun k st2 => match y, k with
    | .v (.ref n), .v k => match getK (mat x st2).2 n with
      | some kvs => if askOk kvs k && decide (kvs.length < szMax) then .ok .nx ρ (setO (mat x st2).2 n (.dct (putD kvs k (mat x st2).1))) else .no
      | none => match getL (mat x st2).2 n, k with
        | some ds, .int i => match ixN ds.length i with
          | some j => .ok .nx ρ (setO (mat x st2).2 n (.lst (ds.set j (mat x st2).1)))
          | none => .no
        | _, _ => .no
    | _, _ => .no
mutual
def evS (F : FT) : S → Env → St → RS
  | .ex e, ρ, st => (evE F e ρ st).toS ρ fun _ st1 => .ok .nx ρ st1
  | .asg t e, ρ, st => (evE F e ρ st).toS ρ fun x st1 => assign F t x ρ st1
  | .par is es, ρ, st => (evEs F es ρ st).toS ρ fun as st1 => if as.length = is.length then .ok .nx (setAll ρ is (mats as st1).1) (mats as st1).2 else .no
  | .aug i f e, ρ, st => match ρ[i]? with
    | some (some d) => (evE F e ρ st).toS ρ fun x st1 => match augO f d x with
      | some y => .ok .nx (ρ.set i (some y)) st1
      | none => .no
    | _ => .no
  | .iff c a b, ρ, st => (evE F c ρ st).toS ρ fun x st1 => (truR x st1).toS ρ fun k st2 => if k then evSs F a ρ st2 else evSs F b ρ st2
  | .forr i t b, ρ, st => (evIt F i ρ st).toS ρ fun q st1 => forLoop q.2 (fun d ρ1 st2 => match assignP t d ρ1 with
      | some ρ2 => evSs F b ρ2 st2
      | none => .no) q.1 ρ st1
  | .whl c b, ρ, st => whileLoop (fun ρ1 st1 => (evE F c ρ1 st1).bind fun x st2 => truR x st2) (fun ρ1 st1 => evSs F b ρ1 st1) wN ρ st
  | .ret e, ρ, st => (evE F e ρ st).toS ρ fun x st1 => .ok (.rt x) ρ st1
  | .brk, ρ, st => .ok .bk ρ st
  | .cnt, ρ, st => .ok .ct ρ st
  | .pas, ρ, st => .ok .nx ρ st
def evSs (F : FT) : Ss → Env → St → RS
  | .nil, ρ, st => .ok .nx ρ st
  | .cons s r, ρ, st => (evS F s ρ st).bind fun ρ1 st1 => evSs F r ρ1 st1
end
/-- a def: its slots' number, its parameters' number, its body -/
structure Df where
  slots : Nat
  pars : Nat
  body : Ss
def startE (slots : Nat) (ds : List D) : Env := ds.map some ++ List.replicate (slots - ds.length) none
def runDf (F : FT) (d : Df) (ds : List D) (st : St) : R A :=
  if ds.length = d.pars then match evSs F d.body (startE d.slots ds) st with
    | .ok .nx _ st1 => .ok (.v .non) st1
    | .ok (.rt x) _ st1 => .ok x st1
    | .ok _ _ _ => .no
    | .ex c es _ st1 => .ex c es st1
    | .no => .no
  else .no
/-- the defs of a program, k calls deep -/
def fun_ (defs : List Df) : Nat → FT
  | 0, _, _, _ => .no
  | k + 1, i, ds, st => match defs[i]? with
    | some d => gcR st (runDf (fun_ defs k) d ds st)
    | none => .no
end PM
end
section
/-! PMC: from the row's syntax to M, checked. -/
namespace PM
open PySem

structure CC where
  N : List Str
  fns : List Str
  cons : List (Str × D)
  sc : Scope
  own : Scope

def tx (s : String) : Str := Str.ofString s
def ofStr (x : Str) : Tx := x.cps.toList
def idxS (x : Str) : List Str → Option Nat
  | [] => none
  | y :: r => if x = y then some 0 else (idxS x r).map (· + 1)
def visB (sc : Scope) (x : Str) : Bool := match sc.names.lookup x with
  | some .local => true
  | some .cell => true
  | some .free => true
  | _ => false
def locB (sc : Scope) (x : Str) : Bool := match sc.names.lookup x with
  | some .local => true
  | some .cell => true
  | _ => false
def plainB (sc : Scope) (x : Str) : Bool := match sc.names.lookup x with
  | some .local => true
  | _ => false
def globB (sc : Scope) (x : Str) : Bool := match sc.names.lookup x with
  | some .globalImplicit => true
  | _ => false
def okNm (x : Str) : Bool := !(x == tx "__debug__") && !(x == tx "__classdict__")
/-- the slot of a name that the code sees -/
def slotOf (c : CC) (x : Str) : Option Nat := if visB c.sc x && okNm x then idxS x c.N else none
/-- a name that the code may set: local, or a cell of its own -/
def locW (c : CC) (x : Str) : Bool := match c.sc.names.lookup x with
  | some .local => true
  | some .cell => decide (c.own.names.lookup x = some .cell)
  | _ => false
def slotW (c : CC) (x : Str) : Option Nat := if locW c x then idxS x c.N else none
def isStarred : Expr → Bool
  | .Starred .. => true
  | _ => false
def isSlice : Expr → Bool
  | .Slice .. => true
  | _ => false
def opFn : Operator → Option Fn
  | .Add => some .add
  | .Sub => some .sub
  | .Mult => some .mul
  | .Mod => some .mod
  | .FloorDiv => some .fdv
  | .Pow => some .pow
  | _ => none
def cmpFn : CmpOp → Option Fn
  | .Eq => some .eq
  | .NotEq => some .ne
  | .Lt => some .lt
  | .LtE => some .le
  | .Gt => some .gt
  | .GtE => some .ge
  | .In => some .inn
  | .NotIn => some .nin
  | _ => none
def isComp : Expr → Bool
  | .ListComp .. => true
  | .DictComp .. => true
  | .SetComp .. => true
  | _ => false
def esOf : List E → Es
  | [] => .nil
  | e :: r => .cons e (esOf r)
def bFn1 (x : Str) : Option Fn :=
  if x = tx "len" then some .len else if x = tx "all" then some .all else if x = tx "any" then some .any else if x = tx "sum" then some .sum
  else if x = tx "tuple" then some .tup else if x = tx "list" then some .lst else if x = tx "int" then some .int else if x = tx "sorted" then some .srt
  else if x = tx "dict" then some .dct else none
def bFn2 (x : Str) : Option Fn :=
  if x = tx "min" then some .min2 else if x = tx "max" then some .max2 else none
def tyFn (x : Str) : Option Ty :=
  if x = tx "int" then some .tInt else if x = tx "bool" then some .tBool else if x = tx "str" then some .tStr else if x = tx "tuple" then some .tTup else if x = tx "list" then some .tLst else none
def mFn0 (x : Str) : Option Fn := if x = tx "pop" then some .pop0 else none
def mFn1 (x : Str) : Option Fn :=
  if x = tx "append" then some .app else if x = tx "extend" then some .ext else if x = tx "remove" then some .rem else if x = tx "pop" then some .popI
  else if x = tx "index" then some .idx else none
def mFn2 (x : Str) : Option Fn := if x = tx "get" then some .get else none
def tgNames : Expr → List Str
  | .Name x _ => [x]
  | .Tuple es _ _ => es.filterMap fun | .Name x _ => some x | _ => none
  | _ => []
def slotsW (c : CC) : List Expr → Option (List Nat)
  | [] => some []
  | .Name x _ :: r => match slotW c x, slotsW c r with
    | some i, some is => some (i :: is)
    | _, _ => none
  | _ => none
def blkIn (c : CC) (scope : Scope) : CC := { c with sc := L2.relS scope c.sc, own := scope }
def ownOf (c : CC) (t : Expr) : List (Str × Nat) := (tgNames t).filterMap fun x => (idxS x c.N).map fun i => (x, i)
def notMark : Expr → Bool
  | .Set .. => false
  | _ => true
/-- which stores two plain names get at once -/
def swNames (c : CC) (ts : List Expr) : List Str := ts.filterMap fun
  | .Name id pos => (if plainB c.sc id && pos.line == (ts.head?.map (·.pos.line)).getD 0 then some id else none)
  | _ => none
/-- none: not known here; some false: by the tuple; some true: at once -/
def swapsB (c : CC) (ts vs : List Expr) : Option Bool :=
  if !(ts.length == 2 || ts.length == 3) || vs.length != ts.length then some false else
  if vs.any isStarred then none else
  if (swNames c ts).length != ts.length || (swNames c ts).eraseDups.length != (swNames c ts).length then some false else
  if vs.all (foldedForSure 8) then some false else
  if vs.all (constantsAlone 8) then none else some true
def nodupS : List Str → Bool
  | [] => true
  | x :: r => !(r.contains x) && nodupS r

def notSuper : Expr → Bool
  | .Call (.Name id _) [] [] _ => !(id == tx "super")
  | _ => true
/-- pairs go to a tuple's target -/
def itTup : It → Expr → Bool
  | .zip _ _, .Tuple .. => true
  | .enu _, .Tuple .. => true
  | .zip _ _, _ => false
  | .enu _, _ => false
  | _, _ => true
mutual
def cE : Nat → CC → Expr → Option E
  | 0, _, _ => none
  | n + 1, c, e => match e with
    | .Constant (.int i) _ _ => some (.cst (.int i))
    | .Constant (.bool b) _ _ => some (.cst (.bl b))
    | .Constant .none _ _ => some (.cst .non)
    | .Constant (.str x) _ _ => some (.cst (.str (ofStr x)))
    | .Name x _ => match slotOf c x with
      | some i => some (.var i)
      | none => if globB c.sc x && okNm x then (c.cons.lookup x).map .cst else none
    | .BinOp a o b _ => match opFn o, cE n c a, cE n c b with
      | some f, some x, some y => some (.p f (.cons x (.cons y .nil)))
      | _, _, _ => none
    | .UnaryOp .Not a _ => (cE n c a).map .not
    | .UnaryOp .USub a _ => (cE n c a).map fun x => .p .neg (.cons x .nil)
    | .BoolOp .And vs _ => cAnd n c vs
    | .BoolOp .Or vs _ => cOr n c vs
    | .IfExp t a b _ => match cE n c t, cE n c a, cE n c b with
      | some x, some y, some z => some (.ite x y z)
      | _, _, _ => none
    | .Compare a [.Is] [.Constant .none _ _] _ => (cE n c a).map fun x => .p .isN (.cons x .nil)
    | .Compare a [.IsNot] [.Constant .none _ _] _ => (cE n c a).map fun x => .p .ntN (.cons x .nil)
    | .Compare a [o] [b] _ => match cmpFn o, cE n c a, cE n c b with
      | some f, some x, some y => if notMark b then some (.p f (.cons x (.cons y .nil))) else none
      | _, _, _ => none
    | .Compare a [o, o'] [b, d] _ => match cmpFn o, cmpFn o', cE n c a, cE n c b, cE n c d with
      | some f, some g, some x, some y, some z => if notMark b && notMark d then some (.chain f g x y z) else none
      | _, _, _, _, _ => none
    | .Tuple es _ _ => (cEs n c es).map fun xs => .tup xs
    | .List es _ => (cEs n c es).map fun xs => .lst xs
    | .Dict ks vs _ => if ks.length ≤ 16 then (cKvs n c ks vs).map fun xs => .dsp xs else none
    | .Subscript a (.Slice (some lo) none none _) _ => match cE n c a, cE n c lo with
      | some x, some y => some (.p .slF (.cons x (.cons y .nil)))
      | _, _ => none
    | .Subscript a (.Slice none (some hi) none _) _ => match cE n c a, cE n c hi with
      | some x, some y => some (.p .slT (.cons x (.cons y .nil)))
      | _, _ => none
    | .Subscript a (.Slice (some lo) (some hi) none _) _ => match cE n c a, cE n c lo, cE n c hi with
      | some x, some y, some z => some (.slB x y z)
      | _, _, _ => none
    | .Subscript a i _ => if isSlice i then none else match cE n c a, cE n c i with
      | some x, some y => some (.p .ix (.cons x (.cons y .nil)))
      | _, _ => none
    | .Call (.Name f _) args [] _ =>
      if !(globB c.sc f) || !(okNm f) then none else
      match idxS f c.fns with
      | some i => (cEs n c args).map fun xs => .call i xs
      | none => match args with
        | [a] => match bFn1 f, cE n c a with
          | some g, some x => if isStarred a then none else some (.p g (.cons x .nil))
          | _, _ => none
        | [a, b] => if f = tx "isinstance" then (match b with
            | .Name t _ => match tyFn t, cE n c a with
              | some ty, some x => if globB c.sc t && !(isStarred a) then some (.p (.isi ty) (.cons x .nil)) else none
              | _, _ => none
            | _ => none)
          else match bFn2 f, cE n c a, cE n c b with
            | some g, some x, some y => if isStarred a || isStarred b then none else some (.p g (.cons x (.cons y .nil)))
            | _, _, _ => none
        | _ => none
    | .Call (.Attribute o m ap) args [] cp =>
      if !(ap.endLine == cp.line) || !(notSuper o) then none else
      match args with
      | [] => match mFn0 m, cE n c o with
        | some g, some x => some (.m g x .nil)
        | _, _ => none
      | [a] => match mFn1 m, cE n c o, cE n c a with
        | some g, some x, some y => if isStarred a then none else some (.m g x (.cons y .nil))
        | _, _, _ => none
      | [a, b] => if m = tx "replace" then (match o, a, b with
          | .Constant (.str r) _ _, .Constant (.str z) _ _, .Constant (.str w) _ _ => if (z == w) = false ∧ r.length + (r.length + 1) * w.length ≤ 16777216 then some (.cst (.str (ofStr (Txt.replace r z w)))) else none
          | _, _, _ => none)
        else match mFn2 m, cE n c o, cE n c a, cE n c b with
          | some g, some x, some y, some z => if isStarred a || isStarred b then none else some (.m g x (.cons y (.cons z .nil)))
          | _, _, _, _ => none
      | _ => none
    | .ListComp elt [⟨tg, iter, ifs, 0⟩] scope _ =>
      let own := ownOf c tg
      let ci := blkIn c scope
      if L2.blkC c.N c.sc scope own && decide (ifs.length ≤ 1) then match cI n c iter, cT ci tg, cEs n ci ifs, cE n ci elt with
        | some i, some t, some cs, some x => if itTup i tg then some (.lc i t (own.map (·.2)) cs x) else none
        | _, _, _, _ => none
      else none
    | .DictComp k v [⟨tg, iter, ifs, 0⟩] scope _ =>
      let own := ownOf c tg
      let ci := blkIn c scope
      if L2.blkC c.N c.sc scope own && decide (ifs.length ≤ 1) then match cI n c iter, cT ci tg, cEs n ci ifs, cE n ci k, cE n ci v with
        | some i, some t, some cs, some x, some y => if itTup i tg then some (.dc i t (own.map (·.2)) cs x y) else none
        | _, _, _, _, _ => none
      else none
    | _ => none
def cAnd : Nat → CC → List Expr → Option E
  | 0, _, _ => none
  | n + 1, c, es => match es with
    | [a] => cE n c a
    | a :: b :: r => match cE n c a, cAnd n c (b :: r) with
      | some x, some y => some (.and x y)
      | _, _ => none
    | [] => none
def cOr : Nat → CC → List Expr → Option E
  | 0, _, _ => none
  | n + 1, c, es => match es with
    | [a] => cE n c a
    | a :: b :: r => match cE n c a, cOr n c (b :: r) with
      | some x, some y => some (.or x y)
      | _, _ => none
    | [] => none
def cEs : Nat → CC → List Expr → Option Es
  | 0, _, _ => none
  | n + 1, c, es => match es with
    | [] => some .nil
    | a :: r => if isStarred a then none else match cE n c a, cEs n c r with
      | some x, some xs => some (.cons x xs)
      | _, _ => none
def cKvs : Nat → CC → List (Option Expr) → List Expr → Option Es
  | 0, _, _, _ => none
  | n + 1, c, ks, vs => match ks, vs with
    | [], [] => some .nil
    | some k :: ks, v :: vs => match cE n c k, cE n c v, cKvs n c ks vs with
      | some x, some y, some xs => some (.cons x (.cons y xs))
      | _, _, _ => none
    | _, _ => none
/-- what a loop walks -/
def cI : Nat → CC → Expr → Option It
  | 0, _, _ => none
  | n + 1, c, e => match e with
    | .Call (.Name f _) [a] [] _ =>
      if globB c.sc f && f = tx "range" && (idxS f c.fns).isNone then (if isStarred a then none else (cE n c a).map .ran1)
      else if globB c.sc f && f = tx "enumerate" && (idxS f c.fns).isNone then (if isStarred a then none else (cE n c a).map .enu)
      else (cE n c e).map .seq
    | .Call (.Name f _) [a, b] [] _ =>
      if globB c.sc f && f = tx "range" && (idxS f c.fns).isNone then (if isStarred a || isStarred b then none else match cE n c a, cE n c b with
        | some x, some y => some (.ran2 x y)
        | _, _ => none)
      else if globB c.sc f && f = tx "zip" && (idxS f c.fns).isNone then (if isStarred a || isStarred b then none else match cE n c a, cE n c b with
        | some x, some y => some (.zip x y)
        | _, _ => none)
      else (cE n c e).map .seq
    | .Set .. => none
    | e => (cE n c e).map .seq
def cT : CC → Expr → Option Tg
  | c, .Name x _ => (slotW c x).map .nm
  | c, .Tuple es _ _ => (slotsW c es).map .tp
  | _, _ => none
end
/-- a statement's target -/
def cTg (n : Nat) (c : CC) : Expr → Option Tg
  | .Subscript o i _ => if isSlice i || isStarred i then none else match cE n c o, cE n c i with
    | some x, some y => some (.sub x y)
    | _, _ => none
  | e => cT c e
/-- name = [..]: on one line, the name plain and no name of the comprehension's -/
def compOk (c : CC) (t : Expr) (e : Expr) (line : Nat) : Bool := match t, e with
  | .Name x p, .ListComp _ _ s _ => plainB c.sc x && p.line == e.pos.line && !(s.names.any fun (n, k) => n == x && (k == .local || k == .cell))
  | .Name x p, .DictComp _ _ _ s _ => plainB c.sc x && p.line == e.pos.line && !(s.names.any fun (n, k) => n == x && (k == .local || k == .cell))
  | _, _ => false
mutual
def cS : Nat → CC → Stmt → Option S
  | 0, _, _ => none
  | n + 1, c, s => match s with
    | .Expr e _ => if isComp e then none else (cE n c e).map .ex
    | .Assign [t] e p =>
      match t, e with
      | .Tuple ts _ _, .Tuple vs _ _ => match swapsB c ts vs with
        | some true => if nodupS (tgNames t) then match slotsW c ts, cEs n c vs with
            | some is, some xs => some (.par is xs)
            | _, _ => none
          else none
        | some false => match slotsW c ts, cE n c e with
          | some is, some x => some (.asg (.tp is) x)
          | _, _ => none
        | none => none
      | t, e => match cTg n c t, cE n c e with
        | some u, some x => some (.asg u x)
        | _, _ => none
    | .AugAssign (.Name x _) o e _ => match slotW c x, opFn o, cE n c e with
      | some i, some f, some y => some (.aug i f y)
      | _, _, _ => none
    | .If t a b _ => match cE n c t, cSs n c a, cSs n c b with
      | some x, some y, some z => some (.iff x y z)
      | _, _, _ => none
    | .For t i b [] _ => match cI n c i, cT c t, cSs n c b with
      | some x, some y, some z => if itTup x t then some (.forr x y z) else none
      | _, _, _ => none
    | .While t b [] _ => match cE n c t, cSs n c b with
      | some x, some y => some (.whl x y)
      | _, _ => none
    | .Return none _ => some (.ret (.cst .non))
    | .Return (some e) _ => (cE n c e).map .ret
    | .Pass _ => some .pas
    | .Break _ => some .brk
    | .Continue _ => some .cnt
    | _ => none
def cSs : Nat → CC → List Stmt → Option Ss
  | 0, _, _ => none
  | n + 1, c, ss => match ss with
    | [] => some .nil
    | s :: r => match cS n c s, cSs n c r with
      | some x, some xs => some (.cons x xs)
      | _, _ => none
end
end PM
end
section
/-! PMN: a def's slots: its own names, then those of its comprehensions. -/
namespace PM
open PySem
def kidsE : Expr → List Expr
  | .BoolOp _ vs _ => vs
  | .BinOp a _ b _ => [a, b]
  | .UnaryOp _ a _ => [a]
  | .IfExp a b c _ => [a, b, c]
  | .Dict ks vs _ => ks.filterMap id ++ vs
  | .Compare a _ bs _ => a :: bs
  | .Call f as kws _ => f :: as
  | .Attribute a _ _ => [a]
  | .Subscript a b _ => [a, b]
  | .Starred a _ => [a]
  | .List es _ => es
  | .Tuple es _ _ => es
  | .Slice a b c _ => a.toList ++ b.toList ++ c.toList
  | .ListComp e gs _ _ => e :: gs.flatMap fun g => g.target :: g.iter :: g.ifs
  | .DictComp k v gs _ _ => k :: v :: gs.flatMap fun g => g.target :: g.iter :: g.ifs
  | _ => []
def scOwn (s : Scope) : List Str := (s.names.filter fun p => (p.2 == .local || p.2 == .cell) && !(p.1 == tx ".0")).map (·.1)
def ownE : Expr → List Str
  | .ListComp _ _ s _ => scOwn s
  | .DictComp _ _ _ s _ => scOwn s
  | _ => []
def namesE : Nat → Expr → List Str
  | 0, _ => []
  | n + 1, e => ownE e ++ (kidsE e).flatMap (namesE n)
def partsS : Stmt → List Expr × List Stmt
  | .Return (some e) _ => ([e], [])
  | .Assign ts e _ => (e :: ts, [])
  | .AugAssign t _ e _ => ([t, e], [])
  | .For t i b o _ => ([t, i], b ++ o)
  | .While t b o _ => ([t], b ++ o)
  | .If t a b _ => ([t], a ++ b)
  | .Expr e _ => ([e], [])
  | .Raise e _ _ => (e.toList, [])
  | .Try b hs o f _ => ([], b ++ hs.flatMap (fun | .ExceptHandler _ _ b _ => b) ++ o ++ f)
  | .Delete ts _ => (ts, [])
  | _ => ([], [])
def namesS : Nat → Stmt → List Str
  | 0, _ => []
  | n + 1, s => (partsS s).1.flatMap (namesE n) ++ (partsS s).2.flatMap (namesS n)
def dedupS : List Str → List Str → List Str
  | [], acc => acc
  | x :: r, acc => if acc.contains x then dedupS r acc else dedupS r (acc ++ [x])
def dName : Stmt → Str
  | .FunctionDef n .. => n
  | _ => Str.empty
def dArgs : Stmt → Arguments
  | .FunctionDef _ a _ _ _ _ _ _ _ _ => a
  | _ => { posonlyargs := [], args := [], vararg := none, kwonlyargs := [], kw_defaults := [], kwarg := none, defaults := [] }
def dBody : Stmt → List Stmt
  | .FunctionDef _ _ b _ _ _ _ _ _ _ => b
  | _ => []
def dScope : Stmt → Scope
  | .FunctionDef _ _ _ _ _ _ sc _ _ _ => sc
  | _ => { kind := .function, names := [], isGenerator := false, isCoroutine := false }
def dPars (s : Stmt) : List Str := (dArgs s).args.map (·.arg)
def dSlots (s : Stmt) : List Str := dedupS (dPars s ++ scOwn (dScope s) ++ (dBody s).flatMap (namesS 60)) []
/-- a def's own conditions: FnScope, plain parameters -/
def dOk (s : Stmt) : Bool := match s with
  | .FunctionDef _ a _ dl _ tp sc ts _ _ => a.posonlyargs.isEmpty && a.vararg.isNone && a.kwonlyargs.isEmpty && a.kwarg.isNone && a.defaults.isEmpty && dl.isEmpty && tp.isEmpty
      && ts.isNone && sc.kind == .function && !sc.isCoroutine && !sc.isGenerator && nodupS (dSlots s) && (dSlots s).take (dPars s).length == dPars s
      && (dPars s).all (fun x => locB sc x) && sc.names.all (fun y => y.2 != .free)
  | _ => false
def cDf (fns : List Str) (cons : List (Str × D)) (s : Stmt) : Option Df :=
  if dOk s then (cSs 200 ⟨dSlots s, fns, cons, dScope s, dScope s⟩ (dBody s)).map fun b => ⟨(dSlots s).length, (dPars s).length, b⟩ else none
end PM
end
section
/-! PM1: what stands for what: M's values and store, the hand layer's values and heap. -/
namespace PM
open PySem PySem.Spec PyProof.Rows L2

abbrev LSt := L2.St
abbrev Adrs := List Addr
def toStr (s : Tx) : Str := ⟨s.toArray⟩
theorem ofStr_toStr (s : Tx) : ofStr (toStr s) = s := by simp [ofStr, toStr]
theorem toStr_ofStr (x : Str) : toStr (ofStr x) = x := by simp [ofStr, toStr]
theorem toStr_inj {a b : Tx} (h : toStr a = toStr b) : a = b := by rw [← ofStr_toStr a, ← ofStr_toStr b, h]
theorem toStr_len (s : Tx) : (toStr s).length = s.length := by simp [toStr, Str.length]

/-- a tuple that is known whole: made by tuple(..), or of the written part -/
def KT (K : PySem.W.Frag) (μ : Adrs) (H : Hp) (a : Addr) (xs : List V) : Prop := (∃ q, H a = some (.frz q (.tup xs)) ∧ q.dict = none ∧ a ∉ μ) ∨
  ∃ (o : Obj) (its : Array Value) (n : Nat), K.lookup a = some o ∧ o.cls = .type "tuple" ∧ o.dict = none ∧ o.data = .seq its n ∧ its.size ≤ sizeLine ∧ Vals xs its.toList

/-- a list that is only read -/
def FL (K : PySem.W.Frag) (μ : Adrs) (H : Hp) (a : Addr) (xs : List V) : Prop := (∃ q, H a = some (.frz q (.lst xs)) ∧ a ∉ μ) ∨
    ∃ (o : Obj) (its : Array Value) (n : Nat), K.lookup a = some o ∧ o.cls = .type "list" ∧ o.dict = none ∧ o.data = .seq its n ∧ its.size ≤ sizeLine ∧ Vals xs its.toList
theorem FL.sq {K : PySem.W.Frag} {μ : Adrs} {H : Hp} {a : Addr} {xs : List V} (h : FL K μ H a xs) : SqL K H a xs := by
  rcases h with ⟨q, h, _⟩ | h
  · exact .inl (.inr ⟨q, h⟩)
  · exact .inr h
theorem KT.sq {K : PySem.W.Frag} {μ : Adrs} {H : Hp} {a : Addr} {xs : List V} (h : KT K μ H a xs) : SqT K H a xs := by
  rcases h with ⟨q, h, _, _⟩ | ⟨o, its, n, h1, h2, _, h3, h4, h5⟩
  · exact .inl (.inr ⟨q, h⟩)
  · exact .inr ⟨o, its, n, h1, h2, h3, h4, h5⟩
section
variable (K : PySem.W.Frag) (μ : Adrs) (H : Hp)
mutual
/-- v stands for d -/
inductive Rep : V → D → Prop
  | non : Rep .non .non
  | bl (b : Bool) : Rep (.bl b) (.bl b)
  | int (i : Int) : Rep (.int i) (.int i)
  | str (s : Tx) : Rep (.str (toStr s)) (.str s)
  | tup {a : Addr} {vs : List V} {ds : List D} : H a = some (.tup vs) → a ∉ μ → Reps vs ds → Rep (.ref a) (.tup ds)
  | ktp {a : Addr} {vs : List V} {ds : List D} : KT K μ H a vs → Reps vs ds → Rep (.ref a) (.ktp ds)
  | fls {a : Addr} {vs : List V} {ds : List D} : FL K μ H a vs → Reps vs ds → Rep (.ref a) (.fls ds)
  | ref {a : Addr} {n : Nat} : μ[n]? = some a → Rep (.ref a) (.ref n)
inductive Reps : List V → List D → Prop
  | nil : Reps [] []
  | cons {v : V} {vs : List V} {d : D} {ds : List D} : Rep v d → Reps vs ds → Reps (v :: vs) (d :: ds)
end
end

/-- what was tracked and is no object of the store stands; the store's objects stay where they are -/
structure Fr (μ : Adrs) (H : Hp) (μ' : Adrs) (H' : Hp) : Prop where
  pre : ∀ (n : Nat) a, μ[n]? = some a → μ'[n]? = some a
  keep : ∀ b o, H b = some o → b ∉ μ → H' b = some o ∧ b ∉ μ'
  some : ∀ b, H' b = none → H b = none
theorem Fr.refl (μ : Adrs) (H : Hp) : Fr μ H μ H := ⟨fun _ _ h => h, fun _ _ h n => ⟨h, n⟩, fun _ h => h⟩
theorem Fr.trans {μ μ1 μ2 : Adrs} {H H1 H2 : Hp} (f : Fr μ H μ1 H1) (g : Fr μ1 H1 μ2 H2) : Fr μ H μ2 H2 :=
  ⟨fun n a h => g.pre n a (f.pre n a h), fun b o h hn => let ⟨h1, n1⟩ := f.keep b o h hn; g.keep b o h1 n1, fun b h => f.some b (g.some b h)⟩
/-- what a value leans on stands: tuples, lists that are only read -/
def Still (o : HO) : Prop := (∃ xs, o = .tup xs) ∨ ∃ q u, o = .frz q u
structure Fq (μ : Adrs) (H : Hp) (μ' : Adrs) (H' : Hp) : Prop where
  pre : ∀ (n : Nat) a, μ[n]? = some a → μ'[n]? = some a
  keep : ∀ b o, H b = some o → Still o → b ∉ μ → H' b = some o ∧ b ∉ μ'
theorem Fr.q {μ μ' : Adrs} {H H' : Hp} (f : Fr μ H μ' H') : Fq μ H μ' H' := ⟨f.pre, fun b o h _ n => f.keep b o h n⟩
section
variable {K : PySem.W.Frag} {μ μ' : Adrs} {H H' : Hp}
theorem FL.fr (f : Fq μ H μ' H') {a : Addr} {vs : List V} (h : FL K μ H a vs) : FL K μ' H' a vs := by
  rcases h with ⟨q, h, n⟩ | h
  · obtain ⟨h1, h2⟩ := f.keep a _ h (.inr ⟨_, _, rfl⟩) n
    exact .inl ⟨q, h1, h2⟩
  · exact .inr h
theorem KT.fr (f : Fq μ H μ' H') {a : Addr} {vs : List V} (h : KT K μ H a vs) : KT K μ' H' a vs := by
  rcases h with ⟨q, h, d, n⟩ | h
  · obtain ⟨h1, h2⟩ := f.keep a _ h (.inr ⟨_, _, rfl⟩) n
    exact .inl ⟨q, h1, d, h2⟩
  · exact .inr h
mutual
theorem Rep.frq (f : Fq μ H μ' H') : ∀ {v : V} {d : D}, Rep K μ H v d → Rep K μ' H' v d
  | _, _, .non => .non
  | _, _, .bl b => .bl b
  | _, _, .int i => .int i
  | _, _, .str s => .str s
  | _, _, .tup h n r => let ⟨h1, n1⟩ := f.keep _ _ h (.inl ⟨_, rfl⟩) n; .tup h1 n1 (Reps.frq f r)
  | _, _, .ktp h r => .ktp (h.fr f) (Reps.frq f r)
  | _, _, .fls h r => .fls (h.fr f) (Reps.frq f r)
  | _, _, .ref h => .ref (f.pre _ _ h)
theorem Reps.frq (f : Fq μ H μ' H') : ∀ {vs : List V} {ds : List D}, Reps K μ H vs ds → Reps K μ' H' vs ds
  | _, _, .nil => .nil
  | _, _, .cons r rs => .cons (Rep.frq f r) (Reps.frq f rs)
end
theorem Rep.fr (f : Fr μ H μ' H') {v : V} {d : D} (r : Rep K μ H v d) : Rep K μ' H' v d := r.frq f.q
theorem Reps.fr (f : Fr μ H μ' H') {vs : List V} {ds : List D} (r : Reps K μ H vs ds) : Reps K μ' H' vs ds := r.frq f.q
theorem Reps.length : ∀ {vs : List V} {ds : List D}, Reps K μ H vs ds → vs.length = ds.length
  | _, _, .nil => rfl
  | _, _, .cons _ r => by simp [Reps.length r]
theorem Reps.get : ∀ {vs : List V} {ds : List D} {i : Nat} {d : D}, Reps K μ H vs ds → ds[i]? = some d → ∃ v, vs[i]? = some v ∧ Rep K μ H v d
  | _, _, _, _, .nil, e => by simp at e
  | _, _, 0, _, .cons r _, e => by simp at e; subst e; exact ⟨_, rfl, r⟩
  | _, _, i + 1, d, .cons _ t, e => by
    obtain ⟨v, h1, h2⟩ := Reps.get (i := i) (d := d) t (by simpa using e)
    exact ⟨v, by simpa using h1, h2⟩
theorem Reps.append : ∀ {vs ws : List V} {ds es : List D}, Reps K μ H vs ds → Reps K μ H ws es → Reps K μ H (vs ++ ws) (ds ++ es)
  | _, _, _, _, .nil, s => s
  | _, _, _, _, .cons r t, s => .cons r (Reps.append t s)
theorem Reps.take : ∀ {vs : List V} {ds : List D} (n : Nat), Reps K μ H vs ds → Reps K μ H (vs.take n) (ds.take n)
  | _, _, 0, _ => .nil
  | _, _, _ + 1, .nil => .nil
  | _, _, n + 1, .cons r t => .cons r (Reps.take n t)
theorem Reps.drop : ∀ {vs : List V} {ds : List D} (n : Nat), Reps K μ H vs ds → Reps K μ H (vs.drop n) (ds.drop n)
  | _, _, 0, r => r
  | _, _, _ + 1, .nil => .nil
  | _, _, n + 1, .cons _ t => Reps.drop n t
theorem Reps.set {x : V} {u : D} (r : Rep K μ H x u) : ∀ {vs : List V} {ds : List D} (i : Nat), Reps K μ H vs ds → Reps K μ H (vs.set i x) (ds.set i u)
  | _, _, _, .nil => .nil
  | _, _, 0, .cons _ t => .cons r t
  | _, _, i + 1, .cons q t => .cons q (Reps.set r i t)
theorem Reps.eraseIdx : ∀ {vs : List V} {ds : List D} (i : Nat), Reps K μ H vs ds → Reps K μ H (vs.eraseIdx i) (ds.eraseIdx i)
  | _, _, _, .nil => .nil
  | _, _, 0, .cons _ t => t
  | _, _, i + 1, .cons r t => .cons r (Reps.eraseIdx i t)
theorem Reps.dropLast : ∀ {vs : List V} {ds : List D}, Reps K μ H vs ds → Reps K μ H vs.dropLast ds.dropLast
  | _, _, .nil => .nil
  | _, _, .cons _ .nil => .nil
  | _, _, .cons r (.cons q t) => .cons r (Reps.dropLast (.cons q t))
theorem Reps.split : ∀ {vs : List V} {ds es : List D}, Reps K μ H vs (ds ++ es) → ∃ us ws, vs = us ++ ws ∧ Reps K μ H us ds ∧ Reps K μ H ws es
  | vs, [], es, h => ⟨[], vs, rfl, .nil, h⟩
  | _, d :: ds, es, .cons r t => by
    obtain ⟨us, ws, e, h1, h2⟩ := Reps.split (ds := ds) (es := es) t
    exact ⟨_ :: us, ws, by rw [e]; rfl, .cons r h1, h2⟩
theorem Reps.isEmpty {vs : List V} {ds : List D} (h : Reps K μ H vs ds) : vs.isEmpty = ds.isEmpty := by cases h <;> rfl

/-- a key -/
def kD : Key → D
  | .inl i => .int i
  | .inr x => .str (ofStr x)
theorem kD_inj {a b : Key} (h : kD a = kD b) : a = b := by
  cases a <;> cases b <;> simp [kD] at h
  · rw [h]
  · rename_i x y
    have : toStr (ofStr x) = toStr (ofStr y) := by rw [h]
    rw [toStr_ofStr, toStr_ofStr] at this
    rw [this]
theorem Rep.key {v : V} {d : D} (h : Rep K μ H v d) (hk : keyK d = true) : ∃ k, d = kD k ∧ v = kV k := by
  cases h with
  | int i => exact ⟨.inl i, rfl, rfl⟩
  | str s => exact ⟨.inr (toStr s), by simp [kD, ofStr_toStr], rfl⟩
  | _ => simp [keyK] at hk
theorem Rep.ofKey (k : Key) : Rep K μ H (kV k) (kD k) := by
  cases k with
  | inl i => exact .int i
  | inr x =>
    have := Rep.str (K := K) (μ := μ) (H := H) (ofStr x)
    rw [toStr_ofStr] at this
    exact this
theorem Reps.keys : ∀ {vs : List V} {ds : List D}, Reps K μ H vs ds → ds.all keyK = true → ∃ ks : List Key, ds = ks.map kD ∧ vs = ks.map kV
  | _, _, .nil, _ => ⟨[], rfl, rfl⟩
  | _, _, .cons r t, h => by
    rw [List.all_cons, Bool.and_eq_true] at h
    obtain ⟨k, e1, e2⟩ := r.key h.1
    obtain ⟨ks, e3, e4⟩ := Reps.keys t h.2
    exact ⟨k :: ks, by rw [e1, e3]; rfl, by rw [e2, e4]; rfl⟩
theorem kDs_inj : ∀ {a b : List Key}, a.map kD = b.map kD → a = b
  | [], [], _ => rfl
  | [], _ :: _, h => by simp at h
  | _ :: _, [], h => by simp at h
  | x :: a, y :: b, h => by
    simp only [List.map_cons, List.cons.injEq] at h
    rw [kD_inj h.1, kDs_inj h.2]
end

section
variable (K : PySem.W.Frag) (μ : Adrs) (H : Hp)
/-- a dict's entries -/
def DRep (a : Addr) (kvs : List (D × D)) : Prop :=
  (∃ es : List (Key × V), H a = some (.dK es) ∧ Paired (fun (e : Key × V) (p : D × D) => p.1 = kD e.1 ∧ Rep K μ H e.2 p.2) es kvs) ∨
  (∃ es : List (List Key × V), H a = some (.dT es) ∧ Paired (fun (e : List Key × V) (p : D × D) => p.1 = .tup (e.1.map kD) ∧ Rep K μ H e.2 p.2) es kvs)
def ORep (a : Addr) : MO → Prop
  | .lst ds => ∃ vs, H a = some (.lst vs) ∧ Reps K μ H vs ds
  | .dct kvs => DRep K μ H a kvs
  | .ins _ _ => False
structure SRep (st : PM.St) : Prop where
  len : μ.length = st.length
  nd : μ.Nodup
  obj : ∀ (n : Nat) o a, st[n]? = some o → μ[n]? = some a → ORep K μ H a o
/-- what an expression yields -/
def ARep (v : V) : A → Prop
  | .v d => Rep K μ H v d
  | .tl ds => ∃ a vs, v = .ref a ∧ H a = some (.lst vs) ∧ a ∉ μ ∧ Reps K μ H vs ds
  | .td kvs => ∃ a es, v = .ref a ∧ a ∉ μ ∧ H a = some (.dK es) ∧ Paired (fun (e : Key × V) (p : D × D) => p.1 = kD e.1 ∧ Rep K μ H e.2 p.2) es kvs
end
/-- a temporary's address -/
def tmp (v : V) (x : A) : Option Addr := match x, v with
  | .v _, _ => none
  | _, .ref a => some a
  | _, _ => none
/-- made behind H -/
def New (H : Hp) (v : V) (x : A) : Prop := ∀ p, tmp v x = some p → H p = none

section
variable {K : PySem.W.Frag} {μ μ' : Adrs} {H H' : Hp}
theorem Paired.imp {α β : Type} {F G : α → β → Prop} (k : ∀ a b, F a b → G a b) : ∀ {l₁ : List α} {l₂ : List β}, Paired F l₁ l₂ → Paired G l₁ l₂
  | _, _, .nil => .nil
  | _, _, .cons r t => .cons (k _ _ r) (Paired.imp k t)
theorem DRep.frq (f : Fq μ H μ' H') {a : Addr} {kvs : List (D × D)} (e : H' a = H a) (r : DRep K μ H a kvs) : DRep K μ' H' a kvs := by
  rcases r with ⟨es, h, p⟩ | ⟨es, h, p⟩
  · exact .inl ⟨es, e.trans h, Paired.imp (fun _ _ q => ⟨q.1, q.2.frq f⟩) p⟩
  · exact .inr ⟨es, e.trans h, Paired.imp (fun _ _ q => ⟨q.1, q.2.frq f⟩) p⟩
theorem ORep.frq (f : Fq μ H μ' H') {a : Addr} {o : MO} (e : H' a = H a) (r : ORep K μ H a o) : ORep K μ' H' a o := by
  cases o with
  | lst ds => obtain ⟨vs, h, p⟩ := r; exact ⟨vs, e.trans h, p.frq f⟩
  | dct kvs => exact DRep.frq f e r
  | ins _ _ => exact r.elim
/-- an object of the store is a list, a dict -/
def Moves (o : HO) : Prop := (∃ xs, o = .lst xs) ∨ (∃ es, o = .dK es) ∨ ∃ es, o = .dT es
theorem DRep.moves {a : Addr} {kvs : List (D × D)} (r : DRep K μ H a kvs) : ∃ o, H a = some o ∧ Moves o := by
  rcases r with ⟨es, h, p⟩ | ⟨es, h, p⟩
  · exact ⟨_, h, .inr (.inl ⟨_, rfl⟩)⟩
  · exact ⟨_, h, .inr (.inr ⟨_, rfl⟩)⟩
theorem ORep.moves {a : Addr} {o : MO} (r : ORep K μ H a o) : ∃ o, H a = some o ∧ Moves o := by
  cases o with
  | lst ds => obtain ⟨vs, h, p⟩ := r; exact ⟨_, h, .inl ⟨_, rfl⟩⟩
  | dct kvs => exact DRep.moves r
  | ins _ _ => exact r.elim
theorem Moves.notStill {o : HO} (m : Moves o) : ¬ Still o := by
  rintro (⟨xs, rfl⟩ | ⟨q, xs, rfl⟩) <;> rcases m with ⟨_, h⟩ | ⟨_, h⟩ | ⟨_, h⟩ <;> cases h
/-- a new object of the store, which stands already -/
theorem Fq.push {p : Addr} (h : ∃ o, H p = some o ∧ Moves o) : Fq μ H (μ ++ [p]) H := by
  obtain ⟨o, e, m⟩ := h
  refine ⟨fun n a h => ?_, fun b q h s n => ⟨h, fun hm => ?_⟩⟩
  · have hl : n < μ.length := (List.getElem?_eq_some_iff.mp h).1
    rw [List.getElem?_append_left hl]; exact h
  · rcases List.mem_append.mp hm with z | z
    · exact n z
    · rw [List.mem_singleton.mp z, e] at h
      cases h
      exact m.notStill s
theorem get_push {α : Type} {l : List α} {n : Nat} {x y : α} (h : (l ++ [x])[n]? = some y) : (l[n]? = some y) ∨ (n = l.length ∧ y = x) := by
  by_cases hn : n < l.length
  · rw [List.getElem?_append_left hn] at h; exact .inl h
  · rw [List.getElem?_append_right (by omega)] at h
    have e : n - l.length = 0 := by
      cases q : n - l.length with
      | zero => rfl
      | succ k => rw [q] at h; simp at h
    rw [e] at h
    simp at h
    exact .inr ⟨by omega, h.symm⟩
theorem SRep.push {st : PM.St} {p : Addr} {o : MO} (S : SRep K μ H st) (hp : p ∉ μ) (r : ORep K μ H p o) : SRep K (μ ++ [p]) H (st ++ [o]) := by
  have f := Fq.push (μ := μ) r.moves
  refine ⟨by simp [S.len], ?_, fun n x a h1 h2 => ?_⟩
  · refine List.nodup_append.mpr ⟨S.nd, by simp, fun a ha b hb => ?_⟩
    intro e
    have hb' : b = p := List.mem_singleton.mp hb
    exact hp (by rw [← hb', ← e]; exact ha)
  · rcases get_push h1 with h1 | ⟨e1, e2⟩
    · rcases get_push h2 with h2 | ⟨e3, e4⟩
      · exact (S.obj n x a h1 h2).frq f rfl
      · have : n < st.length := (List.getElem?_eq_some_iff.mp h1).1
        have := S.len; omega
    · rcases get_push h2 with h2 | ⟨e3, e4⟩
      · have : n < μ.length := (List.getElem?_eq_some_iff.mp h2).1
        have := S.len; omega
      · subst e2; subst e4; exact r.frq f rfl
/-- an object of the store is changed -/
theorem Fr.put {a : Addr} {o : HO} (ha : a ∈ μ) : Fr μ H μ (upd H a o) :=
  ⟨fun _ _ h => h, fun b q h n => ⟨by rw [upd_ne (fun e => n (by rw [e]; exact ha))]; exact h, n⟩, fun b h => by
    by_cases e : b = a
    · rw [e, upd_same] at h; cases h
    · rw [upd_ne e] at h; exact h⟩
theorem nodup_get {α : Type} : ∀ {l : List α} {i j : Nat} {a : α}, l.Nodup → l[i]? = some a → l[j]? = some a → i = j
  | [], _, _, _, _, h, _ => by simp at h
  | x :: l, 0, 0, _, _, _, _ => rfl
  | x :: l, 0, j + 1, a, nd, h1, h2 => by
    simp at h1 h2; subst h1
    exact absurd (List.mem_of_getElem? h2) (List.nodup_cons.mp nd).1
  | x :: l, i + 1, 0, a, nd, h1, h2 => by
    simp at h1 h2; subst h2
    exact absurd (List.mem_of_getElem? h1) (List.nodup_cons.mp nd).1
  | x :: l, i + 1, j + 1, a, nd, h1, h2 => by
    exact congrArg (· + 1) (nodup_get (List.nodup_cons.mp nd).2 (show l[i]? = some a by simpa using h1) (show l[j]? = some a by simpa using h2))
theorem SRep.set {st : PM.St} {n : Nat} {a : Addr} {o : HO} {x : MO} (S : SRep K μ H st) (ha : μ[n]? = some a) (r : ORep K μ (upd H a o) a x) : SRep K μ (upd H a o) (st.set n x) := by
  have hm := List.mem_of_getElem? ha
  have f : Fr μ H μ (upd H a o) := Fr.put hm
  refine ⟨by simp [S.len], S.nd, fun m y b h1 h2 => ?_⟩
  by_cases e : m = n
  · subst e
    rw [ha] at h2; cases h2
    rw [List.getElem?_set] at h1
    simp at h1
    obtain ⟨_, rfl⟩ := h1
    exact r
  · rw [List.getElem?_set_ne (Ne.symm e)] at h1
    refine (S.obj m y b h1 h2).frq f.q (upd_ne fun z => e ?_)
    subst z
    exact nodup_get S.nd h2 ha
/-- a new address -/
theorem Fr.new {p : Addr} {o : HO} (hp : H p = none) (hn : p ∉ μ) : Fr μ H μ (upd H p o) :=
  ⟨fun _ _ h => h, fun b q h n => ⟨by rw [upd_ne (ne_of_none h hp)]; exact h, n⟩, fun b h => by
    by_cases e : b = p
    · rw [e]; exact hp
    · rw [upd_ne e] at h; exact h⟩
theorem SRep.mem {st : PM.St} (S : SRep K μ H st) {a : Addr} (h : a ∈ μ) : ∃ o, H a = some o ∧ Moves o := by
  obtain ⟨n, hn⟩ := List.getElem?_of_mem h
  have hl : n < st.length := by have := (List.getElem?_eq_some_iff.mp hn).1; have := S.len; omega
  exact (S.obj n st[n] a (List.getElem?_eq_getElem hl) hn).moves
theorem SRep.notin {st : PM.St} (S : SRep K μ H st) {p : Addr} (h : H p = none) : p ∉ μ := fun hm => by
  obtain ⟨o, e, _⟩ := S.mem hm
  rw [h] at e; cases e
theorem SRep.other {st : PM.St} (S : SRep K μ H st) (f : Fr μ H μ H') (k : ∀ a ∈ μ, H' a = H a) : SRep K μ H' st :=
  ⟨S.len, S.nd, fun n x a h1 h2 => (S.obj n x a h1 h2).frq f.q (k a (List.mem_of_getElem? h2))⟩
theorem SRep.laid {st : PM.St} (S : SRep K μ H st) {p : Addr} {o : HO} (hp : H p = none) : SRep K μ (upd H p o) st :=
  S.other (Fr.new hp (S.notin hp)) fun a ha => upd_ne fun e => S.notin hp (e ▸ ha)
theorem ARep.fr {v : V} {x : A} (f : Fr μ H μ' H') (r : ARep K μ H v x) : ARep K μ' H' v x := by
  cases x with
  | v d => exact Rep.fr f r
  | tl ds =>
    obtain ⟨a, vs, e, h, n, p⟩ := r
    obtain ⟨h1, n1⟩ := f.keep a _ h n
    exact ⟨a, vs, e, h1, n1, p.fr f⟩
  | td kvs =>
    obtain ⟨a, es, e, n, h, p⟩ := r
    obtain ⟨h1, n1⟩ := f.keep a _ h n
    exact ⟨a, es, e, n1, h1, Paired.imp (fun _ _ q => ⟨q.1, q.2.fr f⟩) p⟩
theorem New.mono {v : V} {x : A} (f : Fr μ H μ' H') (n : New H' v x) : New H v x := fun p hp => f.some p (n p hp)
theorem New.val {v : V} {d : D} : New H v (.v d) := fun p h => by cases h
end

/-! ### what is wanted behind a piece of M -/
abbrev WM := Nat → List D → PM.St → Adrs → Hp → Prop
section
variable (K : PySem.W.Frag) (W : WM) (μ : Adrs) (H : Hp)
def Post (Q : VK) : R A → Prop
  | .ok x st => ∀ v μ' H', Fr μ H μ' H' → SRep K μ' H' st → ARep K μ' H' v x → New H v x → Q v H'
  | .ex c ds st => ∀ μ' H', Fr μ H μ' H' → SRep K μ' H' st → W c ds st μ' H'
  | .no => False
end
section
variable {K : PySem.W.Frag} {W : WM} {μ μ1 : Adrs} {H H1 : Hp} {Q Q' : VK} {r : R A}
theorem Post.trans (f : Fr μ H μ1 H1) (h : Post K W μ H Q r) : Post K W μ1 H1 Q r := by
  cases r with
  | ok x st => exact fun v μ' H' g s a n => h v μ' H' (f.trans g) s a (n.mono f)
  | ex c ds st => exact fun μ' H' g s => h μ' H' (f.trans g) s
  | no => exact h
theorem Post.mono (k : ∀ v H', Q v H' → Q' v H') (h : Post K W μ H Q r) : Post K W μ H Q' r := by
  cases r with
  | ok x st => exact fun v μ' H' g s a n => k _ _ (h v μ' H' g s a n)
  | ex c ds st => exact h
  | no => exact h
end
/-- the slots -/
structure ERep (K : PySem.W.Frag) (μ : Adrs) (H : Hp) (ρ : Env) (σ : LSt) : Prop where
  len : ρ.length = σ.length
  at_ : ∀ (i : Nat) d, ρ[i]? = some (some d) → ∃ v, σ[i]? = some (some v) ∧ Rep K μ H v d
section
variable {K : PySem.W.Frag} {μ μ' : Adrs} {H H' : Hp} {ρ : Env} {σ : LSt}
theorem ERep.fr (f : Fr μ H μ' H') (e : ERep K μ H ρ σ) : ERep K μ' H' ρ σ := ⟨e.len, fun i d h => let ⟨v, h1, r⟩ := e.at_ i d h; ⟨v, h1, r.fr f⟩⟩
theorem ERep.set (e : ERep K μ H ρ σ) {v : V} {d : D} (r : Rep K μ H v d) (i : Nat) : ERep K μ H (ρ.set i (some d)) (σ.set i (some v)) := by
  refine ⟨by simp [e.len], fun j x h => ?_⟩
  by_cases hj : j = i
  · subst hj
    rw [List.getElem?_set] at h
    simp at h
    obtain ⟨h1, rfl⟩ := h
    exact ⟨v, by rw [List.getElem?_set]; simp [← e.len, h1], r⟩
  · rw [List.getElem?_set_ne (Ne.symm hj)] at h ⊢
    exact e.at_ j x h
theorem ERep.unset (e : ERep K μ H ρ σ) (i : Nat) : ERep K μ H (ρ.set i none) (σ.set i none) := by
  refine ⟨by simp [e.len], fun j x h => ?_⟩
  by_cases hj : j = i
  · subst hj
    rw [List.getElem?_set] at h
    simp at h
  · rw [List.getElem?_set_ne (Ne.symm hj)] at h ⊢
    exact e.at_ j x h
theorem ERep.wipe (e : ERep K μ H ρ σ) : ∀ is : List Nat, ERep K μ H (wipeE ρ is) (L2.wipe σ is)
  | [] => e
  | i :: is => (ERep.wipe e is).unset i
end
end PM
end
section
/-! PM2: expressions: M's meaning as a reading of the hand layer; names, constants, argument lists. -/
namespace PM
open PySem PySem.Spec PyProof.Rows L2

theorem PE.of {X : Cx} {e : Expr} {t' : TE} (h : ∀ σ H Q, t' σ H Q → ∃ t, PE X e t ∧ t σ H Q) : PE X e t' :=
  ⟨fun pins s σ H Q I hq => let ⟨_, ht, q⟩ := h σ H Q hq; ht.run pins s σ H Q I q⟩
theorem PE.imp {X : Cx} {e : Expr} {t t' : TE} (p : PE X e t) (h : ∀ σ H Q, t' σ H Q → t σ H Q) : PE X e t' :=
  ⟨fun pins s σ H Q I hq => p.run pins s σ H Q I (h σ H Q hq)⟩
theorem PA.imp {X : Cx} {es : List Expr} {t t' : TA} (p : PA X es t) (h : ∀ σ H Q, t' σ H Q → t σ H Q) : PA X es t' :=
  ⟨fun pos pins s σ H Q I hq => p.run pos pins s σ H Q I (h σ H Q hq)⟩
theorem PT.imp {X : Cx} {e : Expr} {t t' : TT} (p : PT X e t) (h : ∀ σ H Q, t' σ H Q → t σ H Q) : PT X e t' :=
  ⟨fun pins s σ H Q I hq => p.run pins s σ H Q I (h σ H Q hq)⟩

/-! ### M's meaning as a reading -/
abbrev WS := Env → LSt → WM
section
variable (F : FT) (K : PySem.W.Frag) (W : WS)
def tM (m : E) : TE := fun σ H Q => ∃ ρ st μ, ERep K μ H ρ σ ∧ SRep K μ H st ∧ Post K (W ρ σ) μ H Q (evE F m ρ st)
inductive ARs (μ : Adrs) (H : Hp) : List V → List A → Prop
  | nil : ARs μ H [] []
  | cons {v : V} {vs : List V} {x : A} {xs : List A} : ARep K μ H v x → ARs μ H vs xs → ARs μ H (v :: vs) (x :: xs)
def tmps : List V → List A → List Addr
  | v :: vs, x :: xs => match tmp v x with
    | some p => p :: tmps vs xs
    | none => tmps vs xs
  | _, _ => []
def NewL (H : Hp) (vs : List V) (xs : List A) : Prop := (tmps vs xs).Nodup ∧ ∀ p ∈ tmps vs xs, H p = none
def PostL (W : WM) (μ : Adrs) (H : Hp) (Q : List V → Hp → Prop) : R (List A) → Prop
  | .ok xs st => ∀ vs μ' H', Fr μ H μ' H' → SRep K μ' H' st → ARs K μ' H' vs xs → NewL H vs xs → Q vs H'
  | .ex c ds st => ∀ μ' H', Fr μ H μ' H' → SRep K μ' H' st → W c ds st μ' H'
  | .no => False
def tMs (m : Es) : TA := fun σ H Q => ∃ ρ st μ, ERep K μ H ρ σ ∧ SRep K μ H st ∧ PostL K (W ρ σ) μ H Q (evEs F m ρ st)
end

section
variable {F : FT} {K : PySem.W.Frag} {W : WS} {ρ : Env} {σ : LSt} {st : PM.St} {μ μ' : Adrs} {H H' : Hp}
theorem tM.elim {m : E} {Q : VK} (er : ERep K μ H ρ σ) (sr : SRep K μ H st)
    (hok : ∀ x st1, evE F m ρ st = .ok x st1 → ∀ v μ1 H1, Fr μ H μ1 H1 → SRep K μ1 H1 st1 → ARep K μ1 H1 v x → New H v x → Q v H1)
    (hex : ∀ c ds st1, evE F m ρ st = .ex c ds st1 → ∀ μ1 H1, Fr μ H μ1 H1 → SRep K μ1 H1 st1 → W ρ σ c ds st1 μ1 H1) (hno : evE F m ρ st ≠ .no) : tM F K W m σ H Q := by
  refine ⟨ρ, st, μ, er, sr, ?_⟩
  cases e : evE F m ρ st with
  | ok x st1 => exact fun v μ1 H1 f s r n => hok x st1 e v μ1 H1 f s r n
  | ex c ds st1 => exact fun μ1 H1 f s => hex c ds st1 e μ1 H1 f s
  | no => exact hno e
theorem tMs.elim {m : Es} {Q : List V → Hp → Prop} (er : ERep K μ H ρ σ) (sr : SRep K μ H st)
    (hok : ∀ x st1, evEs F m ρ st = .ok x st1 → ∀ v μ1 H1, Fr μ H μ1 H1 → SRep K μ1 H1 st1 → ARs K μ1 H1 v x → NewL H v x → Q v H1)
    (hex : ∀ c ds st1, evEs F m ρ st = .ex c ds st1 → ∀ μ1 H1, Fr μ H μ1 H1 → SRep K μ1 H1 st1 → W ρ σ c ds st1 μ1 H1) (hno : evEs F m ρ st ≠ .no) : tMs F K W m σ H Q := by
  refine ⟨ρ, st, μ, er, sr, ?_⟩
  cases e : evEs F m ρ st with
  | ok x st1 => exact fun v μ1 H1 f s r n => hok x st1 e v μ1 H1 f s r n
  | ex c ds st1 => exact fun μ1 H1 f s => hex c ds st1 e μ1 H1 f s
  | no => exact hno e
/-- the first step of several -/
theorem tM.step {β : Type} {m : E} {k : A → PM.St → R β} {P : R β → Prop} (er : ERep K μ H ρ σ) (sr : SRep K μ H st)
    (hex : ∀ c ds st1, P (.ex c ds st1) → ∀ μ1 H1, Fr μ H μ1 H1 → SRep K μ1 H1 st1 → W ρ σ c ds st1 μ1 H1) (hno : ¬ P .no) (h : P ((evE F m ρ st).bind k)) :
    tM F K W m σ H (fun v H1 => ∃ x st1 μ1, Fr μ H μ1 H1 ∧ SRep K μ1 H1 st1 ∧ ARep K μ1 H1 v x ∧ New H v x ∧ P (k x st1)) := by
  refine tM.elim er sr (fun x st1 e v μ1 H1 f s r n => ⟨x, st1, μ1, f, s, r, n, ?_⟩) (fun c ds st1 e => ?_) (fun e => ?_)
  · rw [e] at h; exact h
  · rw [e] at h; exact hex c ds st1 h
  · rw [e] at h; exact hno h
theorem tMs.step {β : Type} {m : Es} {k : List A → PM.St → R β} {P : R β → Prop} (er : ERep K μ H ρ σ) (sr : SRep K μ H st)
    (hex : ∀ c ds st1, P (.ex c ds st1) → ∀ μ1 H1, Fr μ H μ1 H1 → SRep K μ1 H1 st1 → W ρ σ c ds st1 μ1 H1) (hno : ¬ P .no) (h : P ((evEs F m ρ st).bind k)) :
    tMs F K W m σ H (fun v H1 => ∃ x st1 μ1, Fr μ H μ1 H1 ∧ SRep K μ1 H1 st1 ∧ ARs K μ1 H1 v x ∧ NewL H v x ∧ P (k x st1)) := by
  refine tMs.elim er sr (fun x st1 e v μ1 H1 f s r n => ⟨x, st1, μ1, f, s, r, n, ?_⟩) (fun c ds st1 e => ?_) (fun e => ?_)
  · rw [e] at h; exact h
  · rw [e] at h; exact hex c ds st1 h
  · rw [e] at h; exact hno h
theorem Post.exW {W : WM} {μ0 : Adrs} {H0 : Hp} {Q : VK} (f : Fr μ0 H0 μ H) : ∀ c ds st1, Post K W μ0 H0 Q (.ex c ds st1) → ∀ μ1 H1, Fr μ H μ1 H1 → SRep K μ1 H1 st1 → W c ds st1 μ1 H1 :=
  fun c ds st1 h μ1 H1 g s => h μ1 H1 (f.trans g) s
theorem PostL.exW {W : WM} {μ0 : Adrs} {H0 : Hp} {Q : List V → Hp → Prop} (f : Fr μ0 H0 μ H) : ∀ c ds st1, PostL K W μ0 H0 Q (.ex c ds st1) → ∀ μ1 H1, Fr μ H μ1 H1 → SRep K μ1 H1 st1 → W c ds st1 μ1 H1 :=
  fun c ds st1 h μ1 H1 g s => h μ1 H1 (f.trans g) s
theorem Post.noW {W : WM} {μ0 : Adrs} {H0 : Hp} {Q : VK} : ¬ Post K W μ0 H0 Q .no := fun h => h
theorem PostL.noW {W : WM} {μ0 : Adrs} {H0 : Hp} {Q : List V → Hp → Prop} : ¬ PostL K W μ0 H0 Q .no := fun h => h
/-- a value is handed on -/
theorem Post.ret {W : WM} {μ0 : Adrs} {H0 : Hp} {Q : VK} {x : A} {v : V} (h : Post K W μ0 H0 Q (.ok x st)) (f : Fr μ0 H0 μ H) (s : SRep K μ H st) (r : ARep K μ H v x) (n : New H0 v x) : Q v H := h v μ H f s r n
theorem ARs.fr {vs : List V} {xs : List A} (f : Fr μ H μ' H') (r : ARs K μ H vs xs) : ARs K μ' H' vs xs := by
  induction r with
  | nil => exact .nil
  | cons r _ ih => exact .cons (r.fr f) ih
theorem NewL.cons {H1 : Hp} {v : V} {x : A} {vs : List V} {xs : List A} (f : Fr μ H μ' H1) (s : SRep K μ' H1 st) (r : ARep K μ' H1 v x) (n : New H v x) (ns : NewL H1 vs xs) : NewL H (v :: vs) (x :: xs) := by
  unfold NewL tmps
  cases e : tmp v x with
  | none => exact ⟨ns.1, fun p hp => f.some p (ns.2 p hp)⟩
  | some p =>
    have hp : H1 p ≠ none := by
      cases x with
      | v d => cases e
      | tl ds =>
        obtain ⟨a, us, rfl, h, _, _⟩ := r
        cases e
        rw [h]; intro z; cases z
      | td kvs =>
        obtain ⟨a, us, rfl, _, h, _⟩ := r
        cases e
        rw [h]; intro z; cases z
    refine ⟨List.nodup_cons.mpr ⟨fun hm => hp (ns.2 p hm), ns.1⟩, fun q hq => ?_⟩
    rcases List.mem_cons.mp hq with z | z
    · rw [z]; exact n p e
    · exact f.some q (ns.2 q z)
end

/-! ### argument lists -/
section
variable {F : FT} {W : WS} {X : Cx}
theorem star_ok {e : Expr} (h : isStarred e = false) (es : List Expr) (env : PySem.Env) : starEach (e :: es) env = (false, eval e env) :: starEach es env := by
  cases e <;> first | rfl | (simp [isStarred] at h)
theorem pas_nil : PA X [] (tMs F X.K W .nil) := PA.imp pa_nil fun σ H Q ⟨ρ, st, μ, er, sr, h⟩ => h [] μ H (Fr.refl _ _) sr .nil ⟨List.nodup_nil, fun p hp => by cases hp⟩
theorem pas_cons {e : Expr} {es : List Expr} {m : E} {ms : Es} (hs : isStarred e = false) (he : PE X e (tM F X.K W m)) (hes : PA X es (tMs F X.K W ms)) : PA X (e :: es) (tMs F X.K W (.cons m ms)) := by
  refine PA.imp (pa_cons he hes (star_ok hs es X.env)) fun σ H Q ⟨ρ, st, μ, er, sr, h⟩ => ?_
  have h' : PostL X.K (W ρ σ) μ H Q ((evE F m ρ st).bind fun x st1 => (evEs F ms ρ st1).bind fun xs st2 => .ok (x :: xs) st2) := h
  obtain ⟨ρ1, st1, μ1, e1, s1, p1⟩ := tM.step er sr (PostL.exW (Fr.refl _ _)) PostL.noW h'
  refine ⟨ρ1, st1, μ1, e1, s1, p1.mono fun v H1 ⟨x, st2, μ2, f2, s2, r2, n2, h2⟩ => ?_⟩
  obtain ⟨ρ3, st3, μ3, e3, s3, p3⟩ := tMs.step (er.fr f2) s2 (PostL.exW f2) PostL.noW h2
  refine ⟨ρ3, st3, μ3, e3, s3, ?_⟩
  cases q : evEs F ms ρ3 st3 with
  | ok xs st4 =>
    rw [q] at p3
    intro vs μ4 H4 f4 s4 r4 n4
    obtain ⟨ys, st5, μ5, f5, s5, r5, n5, h5⟩ := p3 vs μ4 H4 f4 s4 r4 n4
    exact h5 (v :: vs) μ5 H4 (f2.trans f5) s5 (.cons (r2.fr f5) r5) (NewL.cons f2 s2 r2 n2 n5)
  | ex c ds st4 => rw [q] at p3; exact p3
  | no => rw [q] at p3; exact p3
end

/-! ### constants, names -/
section
variable {F : FT} {W : WS} {X : Cx}
theorem me_cst {e : Expr} {v : V} {d : D} (h : PE X e (tC v)) (r : ∀ μ H, Rep X.K μ H v d) : PE X e (tM F X.K W (.cst d)) :=
  PE.imp h fun σ H Q ⟨ρ, st, μ, er, sr, p⟩ => p v μ H (Fr.refl _ _) sr (r μ H) New.val
theorem me_var {i : Nat} {x : Str} {pos : Pos} (hN : X.N[i]? = some x) (hv : Vis X.env.scope x) (hd : (x == ("__debug__" : Str)) = false) (hcd : (x == ("__classdict__" : Str)) = false) : PE X (.Name x pos) (tM F X.K W (.var i)) := by
  refine PE.imp (pe_var hN hv hd hcd) fun σ H Q ⟨ρ, st, μ, er, sr, p⟩ => ?_
  unfold evE at p
  split at p
  · rename_i d e
    obtain ⟨v, h1, r⟩ := er.at_ i d e
    exact ⟨v, h1, p v μ H (Fr.refl _ _) sr r New.val⟩
  · exact p.elim
end
end PM
end
section
/-! PM3: the primitives, by values. -/
namespace PM
open PySem PySem.Spec PyProof.Rows L2

theorem szL : sizeLine = szMax := sizeLine_eq
theorem szN : sizeLine = 16777216 := sizeLine_eq
/-- a primitive by values: as it stands behind its arguments; W, (μ0, H0): where the whole began -/
def rP (K : PySem.W.Frag) (f : Fn) : List V → Hp → VK → Prop := fun vs H Q => ∃ (W : WM) (μ0 : Adrs) (H0 : Hp) (μ : Adrs) (st : PM.St) (xs : List A),
  Fr μ0 H0 μ H ∧ SRep K μ H st ∧ ARs K μ H vs xs ∧ NewL H0 vs xs ∧ Post K W μ0 H0 Q (prim f xs st)
section
variable {K : PySem.W.Frag} {W : WM} {μ0 μ : Adrs} {H0 H : Hp} {st : PM.St} {Q : VK} {vs : List V} {ds : List D} {v : V} {d : D} {x : A}
theorem Post.val (p : Post K W μ0 H0 Q (.ok (.v d) st)) (f : Fr μ0 H0 μ H) (s : SRep K μ H st) (r : Rep K μ H v d) : Q v H := p v μ H f s r New.val
theorem Post.tup (p : Post K W μ0 H0 Q (.ok (.v (.tup ds)) st)) (f : Fr μ0 H0 μ H) (s : SRep K μ H st) (r : Reps K μ H vs ds) : ∀ q, H q = none → Q (.ref q) (upd H q (.tup vs)) := fun q hq =>
  have g := Fr.new (o := .tup vs) hq (s.notin hq)
  p (.ref q) μ _ (f.trans g) (s.laid hq) (Rep.tup upd_same (s.notin hq) (r.fr g)) New.val
theorem New.at {q : Addr} (h : H0 q = none) : New H0 (.ref q) x := fun p e => by
  cases x with
  | v d => cases e
  | tl ds => cases e; exact h
  | td ds => cases e; exact h
theorem Post.lst (p : Post K W μ0 H0 Q (.ok (.tl ds) st)) (f : Fr μ0 H0 μ H) (s : SRep K μ H st) (r : Reps K μ H vs ds) : ∀ q, H q = none → Q (.ref q) (upd H q (.lst vs)) := fun q hq =>
  have g := Fr.new (o := .lst vs) hq (s.notin hq)
  p (.ref q) μ _ (f.trans g) (s.laid hq) ⟨q, vs, rfl, upd_same, s.notin hq, r.fr g⟩ (New.at (f.some q hq))
theorem ARs.one {xs : List A} (h : ARs K μ H [v] xs) : ∃ x, xs = [x] ∧ ARep K μ H v x := by
  cases h with
  | cons r t => cases t; exact ⟨_, rfl, r⟩
theorem ARs.two {w : V} {xs : List A} (h : ARs K μ H [v, w] xs) : ∃ x y, xs = [x, y] ∧ ARep K μ H v x ∧ ARep K μ H w y := by
  cases h with
  | cons r t => obtain ⟨y, rfl, q⟩ := t.one; exact ⟨_, _, rfl, r, q⟩
theorem ARs.three {w z : V} {xs : List A} (h : ARs K μ H [v, w, z] xs) : ∃ a b c, xs = [a, b, c] ∧ ARep K μ H v a ∧ ARep K μ H w b ∧ ARep K μ H z c := by
  cases h with
  | cons r t => obtain ⟨y, z, rfl, q, q2⟩ := t.two; exact ⟨_, _, _, rfl, r, q, q2⟩
theorem ARs.nil' {xs : List A} (h : ARs K μ H [] xs) : xs = [] := by cases h; rfl
theorem Rep.int' {i : Int} (h : Rep K μ H v (.int i)) : v = .int i := by cases h; rfl
theorem Rep.bl' {i : Bool} (h : Rep K μ H v (.bl i)) : v = .bl i := by cases h; rfl
theorem Rep.non' (h : Rep K μ H v .non) : v = .non := by cases h; rfl
theorem Rep.str' {i : Tx} (h : Rep K μ H v (.str i)) : v = .str (toStr i) := by cases h; rfl
theorem Rep.ref' {n : Nat} (h : Rep K μ H v (.ref n)) : ∃ a, v = .ref a ∧ μ[n]? = some a := by cases h with | ref h => exact ⟨_, rfl, h⟩
theorem toStr_app (a b : Tx) : toStr a ++ toStr b = toStr (a ++ b) := by
  show Str.append _ _ = _
  simp [Str.append, toStr]
theorem tup_of (r : ARep K μ H v x) (e : tupOf x = some ds) : ∃ p vs, v = .ref p ∧ SqT K H p vs ∧ Reps K μ H vs ds := by
  unfold tupOf at e
  split at e
  · cases e
    cases (show Rep K μ H v (.tup _) from r) with
    | tup h n q => exact ⟨_, _, rfl, SqT.of h, q⟩
  · cases e
    cases (show Rep K μ H v (.ktp _) from r) with
    | ktp h q => exact ⟨_, _, rfl, h.sq, q⟩
  · cases e
theorem getL_some {n : Nat} (e : getL st n = some ds) : st[n]? = some (.lst ds) := by
  unfold getL at e
  split at e
  · rename_i e'; cases e; exact e'
  · cases e
theorem getK_some {n : Nat} {kvs : List (D × D)} (e : getK st n = some kvs) : st[n]? = some (.dct kvs) := by
  unfold getK at e
  split at e
  · rename_i e'; cases e; exact e'
  · cases e
/-- .. that is tracked as a list -/
theorem trk_of (s : SRep K μ H st) (r : ARep K μ H v x) (e : trkOf st x = some ds) : ∃ p vs, v = .ref p ∧ H p = some (.lst vs) ∧ Reps K μ H vs ds := by
  cases x with
  | tl es =>
    cases e
    obtain ⟨p, vs, rfl, h, _, q⟩ := r
    exact ⟨p, vs, rfl, h, q⟩
  | td kvs => cases e
  | v d =>
    cases d with
    | ref n =>
      obtain ⟨a, rfl, hm⟩ := (show Rep K μ H v (.ref n) from r).ref'
      obtain ⟨vs, h, q⟩ := s.obj n _ a (getL_some e) hm
      exact ⟨a, vs, rfl, h, q⟩
    | _ => cases e
theorem lst_of (s : SRep K μ H st) (r : ARep K μ H v x) (e : lstOf st x = some ds) : ∃ p vs, v = .ref p ∧ SqL K H p vs ∧ Reps K μ H vs ds := by
  unfold lstOf at e
  split at e
  · cases e
    cases (show Rep K μ H v (.fls _) from r) with
    | fls h q => exact ⟨_, _, rfl, h.sq, q⟩
  · obtain ⟨p, vs, h1, h2, h3⟩ := trk_of s r e
    exact ⟨p, vs, h1, SqL.of h2, h3⟩
theorem seq_of (s : SRep K μ H st) (r : ARep K μ H v x) (e : seqOf st x = some ds) : ∃ p vs, v = .ref p ∧ (SqL K H p vs ∨ SqT K H p vs) ∧ Reps K μ H vs ds := by
  unfold seqOf at e
  split at e
  · rename_i e'
    cases e
    obtain ⟨p, vs, h1, h2, h3⟩ := tup_of r e'
    exact ⟨p, vs, h1, .inr h2, h3⟩
  · obtain ⟨p, vs, h1, h2, h3⟩ := lst_of s r e
    exact ⟨p, vs, h1, .inl h2, h3⟩
theorem dct_of {kvs : List (D × D)} (s : SRep K μ H st) (r : ARep K μ H v x) (e : dctOf st x = some kvs) : ∃ p, v = .ref p ∧ DRep K μ H p kvs := by
  cases x with
  | tl es => cases e
  | td kvs =>
    cases e
    obtain ⟨p, es, rfl, _, h, q⟩ := r
    exact ⟨p, rfl, .inl ⟨es, h, q⟩⟩
  | v d =>
    cases d with
    | ref n =>
      obtain ⟨a, rfl, hm⟩ := (show Rep K μ H v (.ref n) from r).ref'
      exact ⟨a, rfl, s.obj n _ a (getK_some e) hm⟩
    | _ => cases e
theorem Rep.tup' (h : Rep K μ H v (.tup ds)) : ∃ a vs, v = .ref a ∧ H a = some (.tup vs) ∧ Reps K μ H vs ds := by cases h with | tup h n q => exact ⟨_, _, rfl, h, q⟩
end

/-! ### operators -/
section
variable {X : Cx}
theorem or_add : OpR X (binaryOp .Add) (fun x y H Q => rP X.K .add [x, y] H Q) := by
  intro pins s σ H x y v u Q I rx ry ⟨W, μ0, H0, μ, st, xs, f, sr, r, n, p⟩
  obtain ⟨a, b, rfl, ra, rb⟩ := r.two
  replace p : Post X.K W μ0 H0 Q (addA a b st) := p
  unfold addA at p
  split at p
  · cases Rep.int' ra; cases Rep.int' rb
    exact op_add pins s σ H _ _ v u Q I rx ry ⟨_, _, rfl, rfl, p.val f sr (.int _)⟩
  · cases Rep.str' ra; cases Rep.str' rb
    split at p
    · rename_i hl
      refine op_add_str pins s σ H _ _ v u Q I rx ry ⟨_, _, rfl, rfl, by rw [toStr_len, toStr_len, szL]; exact hl, ?_⟩
      rw [toStr_app]
      exact p.val f sr (.str _)
    · exact p.elim
  · split at p
    · rename_i xs ys e1 e2
      split at p
      · rename_i hl
        obtain ⟨pa, vs, rfl, h1, q1⟩ := tup_of ra e1
        obtain ⟨pb, ws, rfl, h2, q2⟩ := tup_of rb e2
        have hl' : vs.length + ws.length ≤ sizeLine := by rw [q1.length, q2.length, szL]; exact hl
        have n0 : ∀ {v : V} {a : A} {ds : List D}, tupOf a = some ds → New H0 v a := fun {v a ds} e => by
          unfold tupOf at e
          split at e <;> first | exact New.val | cases e
        refine op_catA pins s σ H _ _ v u Q I rx ry ⟨pa, pb, vs, ws, rfl, rfl, h1, h2, hl', fun e => ?_, fun hx e => ?_, fun hx hy => ?_⟩
        · subst e
          cases q1
          exact p _ μ H f sr rb (n0 e2)
        · subst e
          cases q2
          rw [← q1.isEmpty, if_neg (by simpa using hx), List.isEmpty_nil, if_pos rfl] at p
          exact p _ μ H f sr ra (n0 e1)
        · rw [← q1.isEmpty, if_neg (by simpa using hx), ← q2.isEmpty, if_neg (by simpa using hy)] at p
          exact p.tup f sr (q1.append q2)
      · exact p.elim
    · split at p
      · rename_i xs ys e1 e2
        split at p
        · rename_i hl
          obtain ⟨pa, vs, rfl, h1, q1⟩ := trk_of sr ra e1
          obtain ⟨pb, ws, rfl, h2, q2⟩ := trk_of sr rb e2
          exact op_cat pins s σ H _ _ v u Q I rx ry ⟨pa, pb, vs, ws, rfl, rfl, h1, h2, by rw [q1.length, q2.length, szL]; exact hl, p.lst f sr (q1.append q2)⟩
        · exact p.elim
      · exact p.elim
theorem big64E : big64 = 2 ^ 64 := by decide
theorem or_sub : OpR X (binaryOp .Sub) (fun x y H Q => rP X.K .sub [x, y] H Q) := by
  intro pins s σ H x y v u Q I rx ry ⟨W, μ0, H0, μ, st, xs, f, sr, r, n, p⟩
  obtain ⟨a, b, rfl, ra, rb⟩ := r.two
  replace p : Post X.K W μ0 H0 Q (p_sub [a, b] st) := p
  unfold p_sub at p
  split at p
  · rename_i e; cases e
    cases Rep.int' ra; cases Rep.int' rb
    exact op_sub pins s σ H _ _ v u Q I rx ry ⟨_, _, rfl, rfl, p.val f sr (.int _)⟩
  · exact p.elim
theorem or_mul : OpR X (binaryOp .Mult) (fun x y H Q => rP X.K .mul [x, y] H Q) := by
  intro pins s σ H x y v u Q I rx ry ⟨W, μ0, H0, μ, st, xs, f, sr, r, n, p⟩
  obtain ⟨a, b, rfl, ra, rb⟩ := r.two
  replace p : Post X.K W μ0 H0 Q (p_mul [a, b] st) := p
  unfold p_mul at p
  split at p
  · rename_i e; cases e
    split at p
    · rename_i c
      cases Rep.int' ra; cases Rep.int' rb
      refine op_mul pins s σ H _ _ v u Q I rx ry ⟨_, _, rfl, rfl, ?_, p.val f sr (.int _)⟩
      simp only [Bool.or_eq_true, Bool.and_eq_true, decide_eq_true_eq, big64E] at c
      exact c
    · exact p.elim
  · exact p.elim
theorem or_mod : OpR X (binaryOp .Mod) (fun x y H Q => rP X.K .mod [x, y] H Q) := by
  intro pins s σ H x y v u Q I rx ry ⟨W, μ0, H0, μ, st, xs, f, sr, r, n, p⟩
  obtain ⟨a, b, rfl, ra, rb⟩ := r.two
  replace p : Post X.K W μ0 H0 Q (p_mod [a, b] st) := p
  unfold p_mod at p
  split at p
  · rename_i e; cases e
    split at p
    · rename_i c
      cases Rep.int' ra; cases Rep.int' rb
      exact op_mod pins s σ H _ _ v u Q I rx ry ⟨_, _, rfl, rfl, c, p.val f sr (.int _)⟩
    · exact p.elim
  · exact p.elim
theorem or_fdv : OpR X (binaryOp .FloorDiv) (fun x y H Q => rP X.K .fdv [x, y] H Q) := by
  intro pins s σ H x y v u Q I rx ry ⟨W, μ0, H0, μ, st, xs, f, sr, r, n, p⟩
  obtain ⟨a, b, rfl, ra, rb⟩ := r.two
  replace p : Post X.K W μ0 H0 Q (p_fdv [a, b] st) := p
  unfold p_fdv at p
  split at p
  · rename_i e; cases e
    split at p
    · rename_i c
      cases Rep.int' ra; cases Rep.int' rb
      exact op_fdiv pins s σ H _ _ v u Q I rx ry ⟨_, _, rfl, rfl, c, p.val f sr (.int _)⟩
    · exact p.elim
  · exact p.elim
theorem or_pow : OpR X (binaryOp .Pow) (fun x y H Q => rP X.K .pow [x, y] H Q) := by
  intro pins s σ H x y v u Q I rx ry ⟨W, μ0, H0, μ, st, xs, f, sr, r, n, p⟩
  obtain ⟨a, b, rfl, ra, rb⟩ := r.two
  replace p : Post X.K W μ0 H0 Q (p_pow [a, b] st) := p
  unfold p_pow at p
  split at p
  · rename_i e; cases e
    split at p
    · rename_i c
      cases Rep.int' ra; cases Rep.int' rb
      refine op_pow pins s σ H _ _ v u Q I rx ry ⟨_, _, rfl, rfl, ⟨c.1, c.2.1, ?_⟩, p.val f sr (.int _)⟩
      have := c.2.2
      rw [big64E] at this
      omega
    · exact p.elim
  · exact p.elim
theorem or_gt : OpR X (compareOp .Gt) (fun x y H Q => rP X.K .gt [x, y] H Q) := by
  intro pins s σ H x y v u Q I rx ry ⟨W, μ0, H0, μ, st, xs, f, sr, r, n, p⟩
  obtain ⟨a, b, rfl, ra, rb⟩ := r.two
  replace p : Post X.K W μ0 H0 Q (p_gt [a, b] st) := p
  unfold p_gt at p
  split at p
  · rename_i e; cases e
    cases Rep.int' ra; cases Rep.int' rb
    exact op_gt pins s σ H _ _ v u Q I rx ry ⟨_, _, rfl, rfl, p.val f sr (.bl _)⟩
  · exact p.elim
theorem or_ge : OpR X (compareOp .GtE) (fun x y H Q => rP X.K .ge [x, y] H Q) := by
  intro pins s σ H x y v u Q I rx ry ⟨W, μ0, H0, μ, st, xs, f, sr, r, n, p⟩
  obtain ⟨a, b, rfl, ra, rb⟩ := r.two
  replace p : Post X.K W μ0 H0 Q (p_ge [a, b] st) := p
  unfold p_ge at p
  split at p
  · rename_i e; cases e
    cases Rep.int' ra; cases Rep.int' rb
    exact op_ge pins s σ H _ _ v u Q I rx ry ⟨_, _, rfl, rfl, p.val f sr (.bl _)⟩
  · exact p.elim
theorem txLt_iff : ∀ a b : Tx, txLt a b = decide (a < b)
  | [], [] => by simp [txLt]
  | [], _ :: _ => by simp [txLt]
  | _ :: _, [] => by simp [txLt]
  | x :: xs, y :: ys => by
    unfold txLt
    rw [txLt_iff xs ys]
    by_cases e : x = y
    · subst e
      rw [if_pos rfl]
      simp [List.cons_lt_cons_iff]
    · rw [if_neg e]
      simp [List.cons_lt_cons_iff, e]
theorem or_le : OpR X (compareOp .LtE) (fun x y H Q => rP X.K .le [x, y] H Q) := by
  intro pins s σ H x y v u Q I rx ry ⟨W, μ0, H0, μ, st, xs, f, sr, r, n, p⟩
  obtain ⟨a, b, rfl, ra, rb⟩ := r.two
  replace p : Post X.K W μ0 H0 Q (p_le [a, b] st) := p
  unfold p_le at p
  split at p
  · rename_i e; cases e
    cases Rep.int' ra; cases Rep.int' rb
    exact op_le pins s σ H _ _ v u Q I rx ry ⟨_, _, rfl, rfl, p.val f sr (.bl _)⟩
  · rename_i e; cases e
    cases Rep.str' ra; cases Rep.str' rb
    refine op_le_str pins s σ H _ _ v u Q I rx ry ⟨_, _, rfl, rfl, ?_⟩
    rw [txLt_iff] at p
    have e1 : ∀ t : Tx, (toStr t).cps.toList = t := fun t => by simp [toStr]
    rw [e1, e1]
    exact p.val f sr (.bl _)
  · exact p.elim
end
end PM
end
section
/-! PM4: order, ==, in, subscripts, slices. -/
namespace PM
open PySem PySem.Spec PyProof.Rows L2
section
variable {K : PySem.W.Frag} {μ : Adrs} {H : Hp} {st : PM.St} {vs : List V} {ds : List D} {v : V} {d : D} {x : A}
theorem toStr_list (t : Tx) : (toStr t).cps.toList = t := by simp [toStr]
theorem ints_of {is : List Int} : ∀ {vs : List V} {ds : List D} {is : List Int}, Reps K μ H vs ds → intsOf ds = some is → vs = is.map V.int ∧ ds = is.map D.int
  | _, _, _, .nil, e => by cases e; exact ⟨rfl, rfl⟩
  | _, _, _, .cons (d := d) r t, e => by
    cases d with
    | int i =>
      unfold intsOf at e
      cases e' : intsOf _ with
      | none => rw [e'] at e; cases e
      | some js =>
        rw [e'] at e; cases e
        obtain ⟨h1, h2⟩ := ints_of (is := js) t e'
        rw [Rep.int' r, h1, h2]
        exact ⟨rfl, rfl⟩
    | _ => cases e
theorem bls_of : ∀ {vs : List V} {ds : List D} {is : List Bool}, Reps K μ H vs ds → blsOf ds = some is → vs = is.map V.bl
  | _, _, _, .nil, e => by cases e; rfl
  | _, _, _, .cons (d := d) r t, e => by
    cases d with
    | bl i =>
      unfold blsOf at e
      cases e' : blsOf _ with
      | none => rw [e'] at e; cases e
      | some js => rw [e'] at e; cases e; rw [Rep.bl' r, bls_of t e']; rfl
    | _ => cases e
theorem txs_of : ∀ {vs : List V} {ds : List D} {is : List Tx}, Reps K μ H vs ds → txsOf ds = some is → vs = (is.map toStr).map V.str ∧ ds = is.map D.str
  | _, _, _, .nil, e => by cases e; exact ⟨rfl, rfl⟩
  | _, _, _, .cons (d := d) r t, e => by
    cases d with
    | str i =>
      unfold txsOf at e
      cases e' : txsOf _ with
      | none => rw [e'] at e; cases e
      | some js =>
        rw [e'] at e; cases e
        obtain ⟨h1, h2⟩ := txs_of t e'
        rw [Rep.str' r, h1, h2]
        exact ⟨rfl, rfl⟩
    | _ => cases e
theorem lexLt_eq : ∀ a b, lexLt a b = HT.lexLt a b
  | [], [] => rfl
  | [], _ :: _ => rfl
  | _ :: _, [] => rfl
  | x :: xs, y :: ys => by unfold lexLt HT.lexLt; rw [lexLt_eq xs ys]
end
section
variable {X : Cx}
theorem or_lt (hu : X.A.units < cLine) : OpR X (compareOp .Lt) (fun x y H Q => rP X.K .lt [x, y] H Q) := by
  intro pins s σ H x y v u Q I rx ry ⟨W, μ0, H0, μ, st, xs, f, sr, r, n, p⟩
  obtain ⟨a, b, rfl, ra, rb⟩ := r.two
  replace p : Post X.K W μ0 H0 Q (p_lt [a, b] st) := p
  unfold p_lt at p
  split at p
  · rename_i e; cases e
    unfold ltD at p
    split at p
    · cases Rep.int' ra; cases Rep.int' rb
      exact op_lt pins s σ H _ _ v u Q I rx ry ⟨_, _, rfl, rfl, p.val f sr (.bl _)⟩
    · cases Rep.str' ra; cases Rep.str' rb
      refine op_lt_str pins s σ H _ _ v u Q I rx ry ⟨_, _, rfl, rfl, ?_⟩
      rw [toStr_list, toStr_list]
      simp only [bl] at p
      rw [txLt_iff] at p
      exact p.val f sr (.bl _)
    · rename_i da db
      cases e1 : intsOf da with
      | none => rw [e1] at p; exact p.elim
      | some is =>
        cases e2 : intsOf db with
        | none => rw [e1, e2] at p; exact p.elim
        | some js =>
          rw [e1, e2] at p
          obtain ⟨pa, vs, rfl, h1, q1⟩ := Rep.tup' ra
          obtain ⟨pb, ws, rfl, h2, q2⟩ := Rep.tup' rb
          obtain ⟨rfl, _⟩ := ints_of (is := is) q1 e1
          obtain ⟨rfl, _⟩ := ints_of (is := js) q2 e2
          refine op_ltT hu pins s σ H _ _ v u Q I rx ry ⟨pa, pb, is, js, rfl, rfl, SqT.of h1, SqT.of h2, ?_⟩
          rw [← lexLt_eq]
          exact p.val f sr (.bl _)
    · exact p.elim
  · exact p.elim
end

/-! ### == -/
mutual
def py : P → PyData
  | .non => .none
  | .bl b => .bool b
  | .int i => .int i
  | .str s => .str (toStr s)
  | .lst ps => .list (pys ps)
  | .tup ps => .tuple (pys ps)
def pys : List P → List PyData
  | [] => []
  | p :: ps => py p :: pys ps
end
mutual
theorem py_eqv : ∀ a b : P, PyData.eqv (py a) (py b) = P.eqv a b
  | .non, b => by cases b <;> simp [py, PyData.eqv, P.eqv]
  | .bl x, b => by
    cases b <;> simp [py, PyData.eqv, P.eqv]
    rename_i j
    by_cases h : (if x = true then 1 else 0) = j
    · simp [h]
    · simp [h]
  | .int i, b => by
    cases b <;> simp [py, PyData.eqv, P.eqv]
    · rename_i x
      by_cases h : i = (if x = true then 1 else 0)
      · simp [h]
      · simp [h]
    · rename_i j
      by_cases h : i = j
      · simp [h]
      · simp [h]
  | .str s, b => by
    cases b <;> simp [py, PyData.eqv, P.eqv]
    rename_i t
    by_cases h : s = t
    · simp [h]
    · have : ¬ toStr s = toStr t := fun q => h (toStr_inj q)
      simp [h, this]
  | .lst ps, b => by
    cases b <;> simp [py, PyData.eqv, P.eqv]
    exact pys_eqv ps _
  | .tup ps, b => by
    cases b <;> simp [py, PyData.eqv, P.eqv]
    exact pys_eqv ps _
theorem pys_eqv : ∀ a b : List P, PyData.eqvAll (pys a) (pys b) = P.eqvs a b
  | [], b => by cases b <;> simp [pys, PyData.eqvAll, P.eqvs]
  | x :: xs, b => by
    cases b with
    | nil => simp [pys, PyData.eqvAll, P.eqvs]
    | cons y ys => simp only [pys, PyData.eqvAll, P.eqvs]; rw [py_eqv x y, pys_eqv xs ys]
end
section
variable {K : PySem.W.Frag} {μ : Adrs} {H : Hp} {st : PM.St} {v : V} {x : A}
def pyOk (n : Nat) (p : P) : Prop := (py p).canLay0 = true ∧ (py p).depth ≤ n
theorem toPs_ok {n : Nat} {f : D → Option P} (hf : ∀ v d p, Rep K μ H v d → f d = some p → Dp K H v (py p) ∧ pyOk n p) : ∀ {vs : List V} {ds : List D} {ps : List P}, Reps K μ H vs ds → toPs f ds = some ps →
    DpAll K H vs (pys ps) ∧ PyData.canLayAll0 (pys ps) = true ∧ PyData.depthAll (pys ps) ≤ n
  | _, _, _, .nil, e => by cases e; exact ⟨.nil, rfl, Nat.zero_le _⟩
  | _, _, _, .cons (d := d) (ds := ds) r t, e => by
    unfold toPs at e
    cases e1 : f d with
    | none => rw [e1] at e; cases e
    | some p =>
      cases e2 : toPs f ds with
      | none => rw [e1, e2] at e; cases e
      | some ps =>
        rw [e1, e2] at e; cases e
        obtain ⟨h1, h2, h3⟩ := hf _ _ _ r e1
        obtain ⟨k1, k2, k3⟩ := toPs_ok hf t e2
        refine ⟨.cons h1 k1, ?_, ?_⟩
        · simp only [pys, PyData.canLayAll0, h2, k2, Bool.and_self]
        · simp only [pys, PyData.depthAll]
          exact Nat.max_le.mpr ⟨h3, k3⟩
theorem toP_ok (s : SRep K μ H st) : ∀ (n : Nat) (v : V) (d : D) (p : P), Rep K μ H v d → toP st n d = some p → Dp K H v (py p) ∧ pyOk n p := by
  intro n
  induction n with
  | zero =>
    intro v d p r e
    cases d with
    | non => cases e; cases r; exact ⟨.non, rfl, Nat.zero_le _⟩
    | bl b => cases e; cases r; exact ⟨.bl b, rfl, Nat.zero_le _⟩
    | int b => cases e; cases r; exact ⟨.int b, rfl, Nat.zero_le _⟩
    | str t =>
      unfold toP at e
      split at e
      · rename_i h
        cases e; cases r
        refine ⟨.str _, ?_, Nat.zero_le _⟩
        show PyData.strOk (toStr t) = true
        simpa [PyData.strOk, toStr, okTx] using h
      · cases e
    | _ => simp [toP] at e
  | succ n ih =>
    intro v d p r e
    have hs : ∀ {vs : List V} {ds : List D} {ps : List P}, Reps K μ H vs ds → toPs (toP st n) ds = some ps → DpAll K H vs (pys ps) ∧ PyData.canLayAll0 (pys ps) = true ∧ PyData.depthAll (pys ps) ≤ n := fun r e => toPs_ok ih r e
    cases d with
    | non => cases e; cases r; exact ⟨.non, rfl, Nat.zero_le _⟩
    | bl b => cases e; cases r; exact ⟨.bl b, rfl, Nat.zero_le _⟩
    | int b => cases e; cases r; exact ⟨.int b, rfl, Nat.zero_le _⟩
    | str t =>
      unfold toP at e
      split at e
      · rename_i h
        cases e; cases r
        refine ⟨.str _, ?_, Nat.zero_le _⟩
        show PyData.strOk (toStr t) = true
        simpa [PyData.strOk, toStr, okTx] using h
      · cases e
    | tup ds =>
      simp only [toP, Option.map_eq_some_iff] at e
      obtain ⟨ps, e1, rfl⟩ := e
      obtain ⟨pa, vs, rfl, h1, q1⟩ := Rep.tup' r
      obtain ⟨k1, k2, k3⟩ := hs q1 e1
      exact ⟨.tup (SqT.of h1) k1, k2, Nat.succ_le_succ k3⟩
    | ktp ds =>
      simp only [toP, Option.map_eq_some_iff] at e
      obtain ⟨ps, e1, rfl⟩ := e
      cases r with
      | ktp h q =>
        obtain ⟨k1, k2, k3⟩ := hs q e1
        exact ⟨.tup h.sq k1, k2, Nat.succ_le_succ k3⟩
    | fls ds =>
      simp only [toP, Option.map_eq_some_iff] at e
      obtain ⟨ps, e1, rfl⟩ := e
      cases r with
      | fls h q =>
        obtain ⟨k1, k2, k3⟩ := hs q e1
        exact ⟨.lst h.sq k1, k2, Nat.succ_le_succ k3⟩
    | ref m =>
      unfold toP at e
      obtain ⟨a, rfl, hm⟩ := Rep.ref' r
      split at e
      · rename_i ds e'
        simp only [Option.map_eq_some_iff] at e
        obtain ⟨ps, e1, rfl⟩ := e
        obtain ⟨vs, h, q⟩ := s.obj m _ a e' hm
        obtain ⟨k1, k2, k3⟩ := hs q e1
        exact ⟨.lst (SqL.of h) k1, k2, Nat.succ_le_succ k3⟩
      · cases e
theorem toPA_ok (s : SRep K μ H st) {p : P} (r : ARep K μ H v x) (e : toPA st x = some p) : Dp K H v (py p) ∧ SeqAt.shaped (py p) = true := by
  have fin : ∀ {p : P}, pyOk 41 p → SeqAt.shaped (py p) = true := fun {p} h => by
    unfold SeqAt.shaped
    rw [h.1, Bool.true_and, decide_eq_true_eq]
    have := h.2; omega
  cases x with
  | v d =>
    obtain ⟨h1, h2, h3⟩ := toP_ok s _ _ _ _ r e
    exact ⟨h1, fin ⟨h2, Nat.le_trans h3 (by decide)⟩⟩
  | tl ds =>
    simp only [toPA, Option.map_eq_some_iff] at e
    obtain ⟨ps, e1, rfl⟩ := e
    obtain ⟨a, vs, rfl, h, _, q⟩ := r
    obtain ⟨k1, k2, k3⟩ := toPs_ok (n := eqN) (f := toP st eqN) (fun v d p => toP_ok s eqN v d p) q e1
    exact ⟨.lst (SqL.of h) k1, fin ⟨k2, Nat.succ_le_succ k3⟩⟩
  | td _ => cases e
end
section
variable {X : Cx}
theorem or_eq (hu : X.A.units + 64 < cLine) : OpR X (compareOp .Eq) (fun x y H Q => rP X.K .eq [x, y] H Q) := by
  intro pins s σ H x y v u Q I rx ry ⟨W, μ0, H0, μ, st, xs, f, sr, r, n, p⟩
  obtain ⟨a, b, rfl, ra, rb⟩ := r.two
  replace p : Post X.K W μ0 H0 Q (bl (eqA st a b) st) := p
  unfold eqA at p
  split at p
  · rename_i q1 q2 e1 e2
    obtain ⟨d1, s1⟩ := toPA_ok sr ra e1
    obtain ⟨d2, s2⟩ := toPA_ok sr rb e2
    refine op_eqD hu pins s σ H _ _ v u Q I rx ry ⟨_, _, d1, d2, s1, s2, ?_⟩
    rw [py_eqv]
    exact p.val f sr (.bl _)
  · exact p.elim
theorem or_ne (hu : X.A.units + 64 < cLine) : OpR X (compareOp .NotEq) (fun x y H Q => rP X.K .ne [x, y] H Q) := by
  intro pins s σ H x y v u Q I rx ry ⟨W, μ0, H0, μ, st, xs, f, sr, r, n, p⟩
  obtain ⟨a, b, rfl, ra, rb⟩ := r.two
  replace p : Post X.K W μ0 H0 Q (bl (notO (eqA st a b)) st) := p
  unfold eqA at p
  split at p
  · rename_i q1 q2 e1 e2
    obtain ⟨d1, s1⟩ := toPA_ok sr ra e1
    obtain ⟨d2, s2⟩ := toPA_ok sr rb e2
    refine op_neD hu pins s σ H _ _ v u Q I rx ry ⟨_, _, d1, d2, s1, s2, ?_⟩
    rw [py_eqv]
    exact p.val f sr (.bl _)
  · exact p.elim
end
end PM
end
section
/-! PM5: dicts that are asked; in; subscripts; slices. -/
namespace PM
open PySem PySem.Spec PyProof.Rows L2
section
variable {X : Cx} {pins : List (Addr × Obj)} {σ : LSt} {H : Hp} {s : Shared} {a : Addr}
/-- an empty dict is both -/
theorem conv_T (I : L2.Inv X pins σ H s) (h : H a = some (.dK [])) : L2.Inv X pins σ (upd H a (.dT [])) s := by
  obtain ⟨z, hd, vs, rel, o, es, ep, ho, ex, hda, hk, hp, nd⟩ := I.hok a _ h
  cases rel
  have e0 : es.toList = [] := by
    generalize es.toList = l at hp
    cases hp; rfl
  have new : ObjOk X.prog X.w (upd H a (.dT [])) s.heap a (.dT []) := ⟨Nat.zero_le _, hd, [], .nil, o, es, ep, ho, ex, hda, by rw [e0]; rfl, List.nodup_nil⟩
  exact I.write (x := a) (e := a) (h' := s.heap) (t' := s.toks) (by rw [h]; trivial) (.inl rfl) (fun b q hb z => z) ⟨o, ho⟩ new
theorem conv_K (I : L2.Inv X pins σ H s) (h : H a = some (.dT [])) : L2.Inv X pins σ (upd H a (.dK [])) s := by
  obtain ⟨z, hd, xs, rel, o, es, ep, ho, ex, hda, he, nd⟩ := I.hok a _ h
  cases rel
  have e0 : es = #[] := by
    have : es.toList = [] := he
    simpa using this
  subst e0
  have new : ObjOk X.prog X.w (upd H a (.dK [])) s.heap a (.dK []) := ⟨Nat.zero_le _, hd, [], .nil, o, #[], ep, ho, ex, hda, (fun e h => by simp at h), .nil, List.nodup_nil⟩
  exact I.write (x := a) (e := a) (h' := s.heap) (t' := s.toks) (by rw [h]; trivial) (.inl rfl) (fun b q hb z => z) ⟨o, ho⟩ new
end
/-- what is found -/
def RO (K : PySem.W.Frag) (μ : Adrs) (H : Hp) : Option D → Option V → Prop
  | none, none => True
  | some d, some v => Rep K μ H v d
  | _, _ => False
section
variable {K : PySem.W.Frag} {μ : Adrs} {H : Hp} {st : PM.St} {v : V} {d : D} {x : A}
theorem RO.some_eq {o : Option D} {u : Option V} (r : RO K μ H o u) : u.isSome = o.isSome := by
  cases o <;> cases u <;> first | rfl | exact r.elim
theorem RO.getD {o : Option D} {u : Option V} (r : RO K μ H o u) (q : Rep K μ H v d) : Rep K μ H (u.getD v) (o.getD d) := by
  cases o <;> cases u <;> first | exact q | exact r | exact r.elim
theorem look_flat (k : Key) : ∀ {es : List (Key × V)} {kvs : List (D × D)}, Paired (fun (e : Key × V) (p : D × D) => p.1 = kD e.1 ∧ Rep K μ H e.2 p.2) es kvs → RO K μ H (lookD kvs (kD k)) (valV es k)
  | _, _, .nil => trivial
  | e :: es, p :: kvs, .cons r t => by
    unfold lookD
    by_cases h : e.1 = k
    · rw [if_pos (by rw [r.1, h]), valV_pos h]; exact r.2
    · rw [if_neg (fun z => h (kD_inj (r.1.symm.trans z))), valV_neg h]
      exact look_flat k t
theorem look_tup (k : List Key) : ∀ {es : List (List Key × V)} {kvs : List (D × D)}, Paired (fun (e : List Key × V) (p : D × D) => p.1 = .tup (e.1.map kD) ∧ Rep K μ H e.2 p.2) es kvs → RO K μ H (lookD kvs (.tup (k.map kD))) (valV es k)
  | _, _, .nil => trivial
  | e :: es, p :: kvs, .cons r t => by
    unfold lookD
    by_cases h : e.1 = k
    · rw [if_pos (by rw [r.1, h]), valV_pos h]; exact r.2
    · rw [if_neg (fun z => h (kDs_inj (D.tup.inj (r.1.symm.trans z)))), valV_neg h]
      exact look_tup k t
theorem keyK_kD (k : Key) : keyK (kD k) = true := by cases k <;> rfl
theorem Rep.tupKey (r : Rep K μ H v d) (h : isT d = true) : ∃ (b : Addr) (ks : List Key), v = .ref b ∧ d = .tup (ks.map kD) ∧ H b = some (.tup (ks.map kV)) := by
  cases d with
  | tup ds =>
    obtain ⟨b, vs, rfl, hb, q⟩ := Rep.tup' r
    obtain ⟨ks, e1, e2⟩ := q.keys h
    exact ⟨b, ks, rfl, by rw [e1], by rw [hb, e2]⟩
  | _ => simp [isT] at h
theorem flat_tup {es : List (List Key × V)} {kvs : List (D × D)} (p : Paired (fun (e : List Key × V) (p : D × D) => p.1 = .tup (e.1.map kD) ∧ Rep K μ H e.2 p.2) es kvs) (h : flatKeys kvs = true) : es = [] ∧ kvs = [] := by
  cases p with
  | nil => exact ⟨rfl, rfl⟩
  | cons r t =>
    simp [flatKeys, r.1, keyK] at h
theorem tup_flat {es : List (Key × V)} {kvs : List (D × D)} (p : Paired (fun (e : Key × V) (p : D × D) => p.1 = kD e.1 ∧ Rep K μ H e.2 p.2) es kvs) (h : tupKeys kvs = true) : es = [] ∧ kvs = [] := by
  cases p with
  | nil => exact ⟨rfl, rfl⟩
  | @cons e q _ _ r t =>
    exfalso
    simp only [tupKeys, List.all_cons, Bool.and_eq_true] at h
    have := h.1
    obtain ⟨ek, ev⟩ := e
    rw [r.1] at this
    cases ek <;> simp [kD, isT] at this
theorem dget_td {a : Addr} {k : D} {kvs : List (D × D)} {es : List (Key × V)} {vk : V} (h : H a = some (.dK es)) (p : Paired (fun (e : Key × V) (p : D × D) => p.1 = kD e.1 ∧ Rep K μ H e.2 p.2) es kvs) (hk : keyK k = true) (rk : Rep K μ H vk k) :
    ∃ ov, DGet H a vk ov ∧ RO K μ H (lookD kvs k) ov := by
  obtain ⟨kk, rfl, rfl⟩ := rk.key hk
  exact ⟨_, DGet.k h, look_flat kk p⟩
theorem set_same {α : Type} {l : List α} {n : Nat} {x : α} (h : l[n]? = some x) : l.set n x = l := by
  apply List.ext_getElem?
  intro i
  by_cases e : i = n
  · subst e
    have hl := (List.getElem?_eq_some_iff.mp h).1
    rw [List.getElem?_set_self hl, h]
  · rw [List.getElem?_set_ne (Ne.symm e)]
theorem nil_rep {a : Addr} {o : MO} {ho : HO} (sr : SRep K μ H st) {n : Nat} (hm : μ[n]? = some a) (e : st[n]? = some o) (r : ORep K μ (upd H a ho) a o) : Fr μ H μ (upd H a ho) ∧ SRep K μ (upd H a ho) st := by
  have hn : n < st.length := (List.getElem?_eq_some_iff.mp e).1
  have := sr.set (o := ho) (x := o) hm r
  rw [set_same e] at this
  exact ⟨Fr.put (List.mem_of_getElem? hm), this⟩
end
section
variable {X : Cx} {pins : List (Addr × Obj)} {σ : LSt} {s : Shared} {μ : Adrs} {H : Hp} {st : PM.St} {v vk : V} {d k : D} {x : A} {kvs : List (D × D)}
/-- a dict is asked: it stands as one of the key's kind, or is empty and is turned -/
theorem dget (I : L2.Inv X pins σ H s) (sr : SRep X.K μ H st) (r : ARep X.K μ H v x) (e : dctOf st x = some kvs) (hk : askX x kvs k = true) (rk : Rep X.K μ H vk k) :
    ∃ (H' : Hp) (a : Addr) (ov : Option V), v = .ref a ∧ L2.Inv X pins σ H' s ∧ Fr μ H μ H' ∧ SRep X.K μ H' st ∧ DGet H' a vk ov ∧ RO X.K μ H' (lookD kvs k) ov := by
  cases x with
  | tl es => cases e
  | td es =>
    cases e
    obtain ⟨p, es, rfl, _, h, q⟩ := r
    simp only [askX, Bool.and_eq_true] at hk
    obtain ⟨ov, g, ro⟩ := dget_td h q hk.1 rk
    exact ⟨H, p, ov, rfl, I, Fr.refl _ _, sr, g, ro⟩
  | v d =>
    cases d with
    | ref n =>
      obtain ⟨a, rfl, hm⟩ := (show Rep X.K μ H v (.ref n) from r).ref'
      have en := getK_some e
      have dr : DRep X.K μ H a kvs := sr.obj n _ a en hm
      simp only [askX, askOk, Bool.or_eq_true, Bool.and_eq_true] at hk
      rcases hk with ⟨h1, h2⟩ | ⟨h1, h2⟩
      · rcases dr with ⟨es, h, p⟩ | ⟨es, h, p⟩
        · obtain ⟨ov, g, ro⟩ := dget_td h p h1 rk
          exact ⟨H, a, ov, rfl, I, Fr.refl _ _, sr, g, ro⟩
        · obtain ⟨rfl, rfl⟩ := flat_tup p h2
          obtain ⟨f, sr'⟩ := nil_rep (ho := .dK []) sr hm en (.inl ⟨[], upd_same, .nil⟩)
          obtain ⟨kk, rfl, rfl⟩ := rk.key h1
          exact ⟨_, a, _, rfl, conv_K I h, f, sr', DGet.k upd_same, trivial⟩
      · obtain ⟨b, ks, rfl, rfl, hb⟩ := rk.tupKey h1
        rcases dr with ⟨es, h, p⟩ | ⟨es, h, p⟩
        · obtain ⟨rfl, rfl⟩ := tup_flat p h2
          obtain ⟨f, sr'⟩ := nil_rep (ho := .dT []) sr hm en (.inr ⟨[], upd_same, .nil⟩)
          exact ⟨_, a, _, rfl, conv_T I h, f, sr', DGet.t upd_same (by rw [upd_ne (ne_of hb h (by intro z; cases z))]; exact hb), trivial⟩
        · exact ⟨H, a, _, rfl, I, Fr.refl _ _, sr, DGet.t h hb, look_tup ks p⟩
    | _ => cases e
end

/-! ### in, not in -/
section
variable {K : PySem.W.Frag} {μ : Adrs} {H : Hp} {v w : V} {d e : D}
theorem flat_rep (r : Rep K μ H v d) (h : flatD d = true) : flatV v = true := by
  cases r <;> first | rfl | (simp [flatD] at h)
theorem eqF_eq (r : Rep K μ H v d) (q : Rep K μ H w e) (h : flatD d = true) (h2 : flatD e = true) : eqV v w = eqF d e := by
  have dz : ∀ i j : Int, (i == j) = decide (i = j) := fun i j => by by_cases z : i = j <;> simp [z]
  cases r with
  | non => cases q <;> first | rfl | (simp [flatD] at h2)
  | bl b => cases q <;> first | rfl | (simp [flatD] at h2; done) | exact dz _ _
  | int i => cases q <;> first | rfl | (simp [flatD] at h2; done) | exact dz _ _
  | str s =>
    cases q <;> first | rfl | (simp [flatD] at h2; done) | skip
    rename_i t
    show (toStr s == toStr t) = decide (s = t)
    by_cases z : s = t
    · simp [z]
    · have : ¬ toStr s = toStr t := fun q => z (toStr_inj q)
      simp [z, this]
  | _ => simp [flatD] at h
theorem flats_rep : ∀ {vs : List V} {ds : List D}, Reps K μ H vs ds → ds.all flatD = true → vs.all flatV = true
  | _, _, .nil, _ => rfl
  | _, _, .cons r t, h => by
    rw [List.all_cons, Bool.and_eq_true] at h
    rw [List.all_cons, flat_rep r h.1, flats_rep t h.2]; rfl
theorem inV_eq (q : Rep K μ H w e) (h2 : flatD e = true) : ∀ {vs : List V} {ds : List D}, Reps K μ H vs ds → ds.all flatD = true → inV w vs = ds.any fun d => eqF d e
  | _, _, .nil, _ => rfl
  | _, _, .cons r t, h => by
    rw [List.all_cons, Bool.and_eq_true] at h
    have := inV_eq q h2 t h.2
    unfold inV at this ⊢
    rw [List.any_cons, List.any_cons, eqF_eq r q h.1 h2, this]
end
section
variable {X : Cx}
theorem or_in (hu : X.A.units + 1 < cLine) : OpR X (compareOp .In) (fun x y H Q => rP X.K .inn [x, y] H Q) := by
  intro pins s σ H x y v u Q I rx ry ⟨W, μ0, H0, μ, st, xs, f, sr, r, n, p⟩
  obtain ⟨a, b, rfl, ra, rb⟩ := r.two
  replace p : Post X.K W μ0 H0 Q (bl (inA a b st) st) := p
  unfold inA at p
  split at p
  · rename_i k
    split at p
    · rename_i kvs e
      split at p
      · rename_i hk
        obtain ⟨H', ad, ov, rfl, I', f', sr', g, ro⟩ := dget I sr rb e hk ra
        cases (show u = Value.ref ad from ry)
        refine d_in hu I' g rx fun s' I2 => ⟨.bl ov.isSome, H', I2, rfl, ?_⟩
        rw [ro.some_eq]
        exact p.val (f.trans f') sr' (.bl _)
      · exact p.elim
    · split at p
      · rename_i ds e
        split at p
        · rename_i hk
          rw [Bool.and_eq_true] at hk
          obtain ⟨pa, vs, rfl, h1, q1⟩ := seq_of sr rb e
          refine op_in_seq pins s σ H _ _ v u Q I rx ry ⟨pa, vs, rfl, h1, flat_rep ra hk.1, flats_rep q1 hk.2, ?_⟩
          rw [if_neg (by decide), inV_eq ra hk.1 q1 hk.2]
          exact p.val f sr (.bl _)
        · exact p.elim
      · exact p.elim
  · exact p.elim
theorem or_nin (hu : X.A.units + 1 < cLine) : OpR X (compareOp .NotIn) (fun x y H Q => rP X.K .nin [x, y] H Q) := by
  intro pins s σ H x y v u Q I rx ry ⟨W, μ0, H0, μ, st, xs, f, sr, r, n, p⟩
  obtain ⟨a, b, rfl, ra, rb⟩ := r.two
  replace p : Post X.K W μ0 H0 Q (bl (notO (inA a b st)) st) := p
  unfold inA at p
  split at p
  · rename_i k
    split at p
    · rename_i kvs e
      split at p
      · rename_i hk
        obtain ⟨H', ad, ov, rfl, I', f', sr', g, ro⟩ := dget I sr rb e hk ra
        cases (show u = Value.ref ad from ry)
        refine d_notIn hu I' g rx fun s' I2 => ⟨.bl (!ov.isSome), H', I2, rfl, ?_⟩
        rw [ro.some_eq]
        exact p.val (f.trans f') sr' (.bl _)
      · exact p.elim
    · split at p
      · rename_i ds e
        split at p
        · rename_i hk
          rw [Bool.and_eq_true] at hk
          obtain ⟨pa, vs, rfl, h1, q1⟩ := seq_of sr rb e
          refine op_notIn_seq pins s σ H _ _ v u Q I rx ry ⟨pa, vs, rfl, h1, flat_rep ra hk.1, flats_rep q1 hk.2, ?_⟩
          rw [if_pos rfl, inV_eq ra hk.1 q1 hk.2]
          exact p.val f sr (.bl _)
        · exact p.elim
      · exact p.elim
  · exact p.elim
end
end PM
end
section
/-! PM6: expressions by their parts. -/
namespace PM
open PySem PySem.Spec PyProof.Rows L2

theorem R.bind_assoc {α β γ : Type} (r : R α) (f : α → PM.St → R β) (g : β → PM.St → R γ) : (r.bind f).bind g = r.bind fun a st => (f a st).bind g := by cases r <;> rfl
theorem R.bind_ok {α β : Type} (a : α) (st : PM.St) (f : α → PM.St → R β) : (R.ok a st).bind f = f a st := rfl
section
variable {F : FT} {K : PySem.W.Frag} {W : WS} {ρ : Env} {st : PM.St}
theorem ev_p1 (f : Fn) (a : E) : evE F (.p f (.cons a .nil)) ρ st = (evE F a ρ st).bind fun x st1 => prim f [x] st1 := by
  simp only [evE, evEs, R.bind_assoc, R.bind_ok]
theorem ev_p2 (f : Fn) (a b : E) : evE F (.p f (.cons a (.cons b .nil))) ρ st = (evE F a ρ st).bind fun x st1 => (evE F b ρ st1).bind fun y st2 => prim f [x, y] st2 := by
  simp only [evE, evEs, R.bind_assoc, R.bind_ok]
theorem ev_p3 (f : Fn) (a b c : E) : evE F (.p f (.cons a (.cons b (.cons c .nil)))) ρ st = (evE F a ρ st).bind fun x st1 => (evE F b ρ st1).bind fun y st2 => (evE F c ρ st2).bind fun z st3 => prim f [x, y, z] st3 := by
  simp only [evE, evEs, R.bind_assoc, R.bind_ok]
end
section
variable {F : FT} {K : PySem.W.Frag} {W : WS} {σ : LSt} {H : Hp} {Q : VK}
theorem ARs.mk1 {μ : Adrs} {v : V} {x : A} (r : ARep K μ H v x) : ARs K μ H [v] [x] := .cons r .nil
theorem ARs.mk2 {μ : Adrs} {v w : V} {x y : A} (r : ARep K μ H v x) (q : ARep K μ H w y) : ARs K μ H [v, w] [x, y] := .cons r (.cons q .nil)
theorem NewL.nil' : NewL H [] [] := ⟨List.nodup_nil, fun p hp => by cases hp⟩
theorem tM.un {f : Fn} {a : E} (h : tM F K W (.p f (.cons a .nil)) σ H Q) : tUn (fun x H Q => rP K f [x] H Q) (tM F K W a) σ H Q := by
  obtain ⟨ρ, st, μ, er, sr, h⟩ := h
  rw [ev_p1] at h
  obtain ⟨ρ1, st1, μ1, e1, s1, p1⟩ := tM.step er sr (Post.exW (Fr.refl _ _)) Post.noW h
  refine ⟨ρ1, st1, μ1, e1, s1, p1.mono fun v H1 ⟨x, st2, μ2, f2, s2, r2, n2, h2⟩ => ?_⟩
  exact ⟨_, _, _, μ2, st2, [x], f2, s2, ARs.mk1 r2, NewL.cons f2 s2 r2 n2 NewL.nil', h2⟩
theorem tM.bin {f : Fn} {a b : E} (h : tM F K W (.p f (.cons a (.cons b .nil))) σ H Q) : tOp (fun x y H Q => rP K f [x, y] H Q) (tM F K W a) (tM F K W b) σ H Q := by
  obtain ⟨ρ, st, μ, er, sr, h⟩ := h
  rw [ev_p2] at h
  obtain ⟨ρ1, st1, μ1, e1, s1, p1⟩ := tM.step er sr (Post.exW (Fr.refl _ _)) Post.noW h
  refine ⟨ρ1, st1, μ1, e1, s1, p1.mono fun v H1 ⟨x, st2, μ2, f2, s2, r2, n2, h2⟩ => ?_⟩
  obtain ⟨ρ3, st3, μ3, e3, s3, p3⟩ := tM.step (er.fr f2) s2 (Post.exW f2) Post.noW h2
  refine ⟨ρ3, st3, μ3, e3, s3, p3.mono fun w H2 ⟨y, st4, μ4, f4, s4, r4, n4, h4⟩ => ?_⟩
  exact ⟨_, _, _, μ4, st4, [x, y], f2.trans f4, s4, ARs.mk2 (r2.fr f4) r4, NewL.cons f2 s2 r2 n2 (NewL.cons f4 s4 r4 n4 NewL.nil'), h4⟩
theorem tM.args {f : Fn} {es : Es} (h : tM F K W (.p f es) σ H Q) : tCB (fun xs H Q => rP K f xs H Q) (tMs F K W es) σ H Q := by
  obtain ⟨ρ, st, μ, er, sr, h⟩ := h
  have h' : Post K (W ρ σ) μ H Q ((evEs F es ρ st).bind fun as st1 => prim f as st1) := h
  obtain ⟨ρ3, st3, μ3, e3, s3, p3⟩ := tMs.step er sr (Post.exW (Fr.refl _ _)) Post.noW h'
  refine ⟨ρ3, st3, μ3, e3, s3, ?_⟩
  cases q : evEs F es ρ3 st3 with
  | ok xs st4 =>
    rw [q] at p3
    intro vs μ4 H4 f4 s4 r4 n4
    obtain ⟨ys, st5, μ5, f5, s5, r5, n5, h5⟩ := p3 vs μ4 H4 f4 s4 r4 n4
    exact ⟨_, _, _, μ5, st5, ys, f5, s5, r5, n5, h5⟩
  | ex c ds st4 => rw [q] at p3; exact p3
  | no => rw [q] at p3; exact p3
end

/-! ### tests -/
def PostB (K : PySem.W.Frag) (W : WM) (μ : Adrs) (H : Hp) (Q : Bool → Hp → Prop) : R Bool → Prop
  | .ok b st => ∀ μ' H', Fr μ H μ' H' → SRep K μ' H' st → Q b H'
  | .ex c ds st => ∀ μ' H', Fr μ H μ' H' → SRep K μ' H' st → W c ds st μ' H'
  | .no => False
def evT (F : FT) (m : E) (ρ : Env) (st : PM.St) : R Bool := (evE F m ρ st).bind fun x st1 => truR x st1
def tT (F : FT) (K : PySem.W.Frag) (W : WS) (m : E) : TT := fun σ H Q => ∃ ρ st μ, ERep K μ H ρ σ ∧ SRep K μ H st ∧ PostB K (W ρ σ) μ H Q (evT F m ρ st)
section
variable {F : FT} {K : PySem.W.Frag} {W : WS} {ρ : Env} {σ : LSt} {st : PM.St} {μ μ1 : Adrs} {H H1 : Hp}
theorem PostB.exW {W : WM} {μ0 : Adrs} {H0 : Hp} {Q : Bool → Hp → Prop} (f : Fr μ0 H0 μ H) : ∀ c ds st1, PostB K W μ0 H0 Q (.ex c ds st1) → ∀ μ1 H1, Fr μ H μ1 H1 → SRep K μ1 H1 st1 → W c ds st1 μ1 H1 :=
  fun c ds st1 h μ1 H1 g s => h μ1 H1 (f.trans g) s
theorem PostB.noW {W : WM} {μ0 : Adrs} {H0 : Hp} {Q : Bool → Hp → Prop} : ¬ PostB K W μ0 H0 Q .no := fun h => h
theorem PostB.trans {W : WM} {Q : Bool → Hp → Prop} {r : R Bool} (f : Fr μ H μ1 H1) (h : PostB K W μ H Q r) : PostB K W μ1 H1 Q r := by
  cases r with
  | ok x st => exact fun μ' H' g s => h μ' H' (f.trans g) s
  | ex c ds st => exact fun μ' H' g s => h μ' H' (f.trans g) s
  | no => exact h
theorem PostB.mono {W : WM} {Q Q' : Bool → Hp → Prop} {r : R Bool} (k : ∀ b H', Q b H' → Q' b H') (h : PostB K W μ H Q r) : PostB K W μ H Q' r := by
  cases r with
  | ok x st => exact fun μ' H' g s => k _ _ (h μ' H' g s)
  | ex c ds st => exact h
  | no => exact h
/-- a test ahead of what follows -/
theorem tT.step {β : Type} {m : E} {k : Bool → PM.St → R β} {P : R β → Prop} (er : ERep K μ H ρ σ) (sr : SRep K μ H st)
    (hex : ∀ c ds st1, P (.ex c ds st1) → ∀ μ1 H1, Fr μ H μ1 H1 → SRep K μ1 H1 st1 → W ρ σ c ds st1 μ1 H1) (hno : ¬ P .no) (h : P ((evT F m ρ st).bind k)) :
    tT F K W m σ H (fun b H1 => ∃ st1 μ1, Fr μ H μ1 H1 ∧ SRep K μ1 H1 st1 ∧ P (k b st1)) := by
  refine ⟨ρ, st, μ, er, sr, ?_⟩
  cases e : evT F m ρ st with
  | ok b st1 => rw [e] at h; exact fun μ1 H1 f s => ⟨st1, μ1, f, s, h⟩
  | ex c ds st1 => rw [e] at h; exact hex c ds st1 h
  | no => rw [e] at h; exact hno h
theorem truR_st {a : A} {st st1 : PM.St} {b : Bool} (h : truR a st = .ok b st1) : st1 = st ∧ truth st a = some b := by
  unfold truR at h
  split at h
  · rename_i e; cases h; exact ⟨rfl, e⟩
  · cases h
theorem tru_of {v : V} {a : A} {b : Bool} (sr : SRep K μ H st) (r : ARep K μ H v a) (e : truth st a = some b) : TruV K v H b := by
  unfold truth at e
  split at e
  · cases e; cases Rep.non' r; rfl
  · cases e; cases Rep.bl' r; rfl
  · cases e; cases Rep.int' r; rfl
  · rename_i t
    split at e
    · rename_i hl
      cases e; cases Rep.str' r
      refine ⟨by rw [toStr_len, szL]; exact hl, ?_⟩
      rw [toStr_len]
      cases t <;> simp
      omega
    · cases e
  · split at e
    · rename_i ds e'
      cases e
      obtain ⟨p, vs, rfl, h1, q1⟩ := seq_of sr r e'
      rcases h1 with h1 | h1
      · exact .inl ⟨vs, h1, by rw [q1.isEmpty]⟩
      · exact .inr (.inl ⟨vs, h1, by rw [q1.isEmpty]⟩)
    · cases e
end
section
variable {F : FT} {W : WS} {X : Cx} {e : Expr} {m : E}
/-- the test of a value -/
theorem mt_val (h : PE X e (tM F X.K W m)) (he : ∀ whole, isTrue e X.env whole = (do let v ← whole; standAt e.pos; holding [v] (truthy v))) : PT X e (tT F X.K W m) := by
  refine PT.imp (pt_truth h he) fun σ H Q ⟨ρ, st, μ, er, sr, p⟩ => ?_
  obtain ⟨ρ1, st1, μ1, e1, s1, p1⟩ := tM.step er sr (PostB.exW (Fr.refl _ _)) PostB.noW p
  refine ⟨ρ1, st1, μ1, e1, s1, p1.mono fun v H1 ⟨x, st2, μ2, f2, s2, r2, n2, h2⟩ => ?_⟩
  cases q : truR x st2 with
  | ok b st3 =>
    obtain ⟨rfl, e3⟩ := truR_st q
    rw [q] at h2
    exact ⟨b, tru_of s2 r2 e3, h2 μ2 H1 f2 s2⟩
  | ex c ds st3 =>
    unfold truR at q
    split at q <;> cases q
  | no => rw [q] at h2; exact h2.elim
end
end PM
end
section
/-! PM7: operators, comparisons, tests. -/
namespace PM
open PySem PySem.Spec PyProof.Rows L2

/-- an expression is told by M: as a value, as a test -/
structure Snd (F : FT) (W : WS) (X : Cx) (e : Expr) (m : E) : Prop where
  pe : PE X e (tM F X.K W m)
  pt : PT X e (tT F X.K W m)
section
variable {F : FT} {W : WS} {X : Cx} {a b c : Expr} {ma mb mc : E} {pos : Pos}
theorem opFn_ok {o : Operator} {f : Fn} (h : opFn o = some f) : OpR X (binaryOp o) (fun x y H Q => rP X.K f [x, y] H Q) := by
  cases o <;> first | (cases h; done) | skip
  · cases h; exact or_add
  · cases h; exact or_sub
  · cases h; exact or_mul
  · cases h; exact or_mod
  · cases h; exact or_pow
  · cases h; exact or_fdv
theorem me_bin {o : Operator} {f : Fn} (h : opFn o = some f) (ha : Snd F W X a ma) (hb : Snd F W X b mb) : Snd F W X (.BinOp a o b pos) (.p f (.cons ma (.cons mb .nil))) := by
  have p : PE X (.BinOp a o b pos) (tM F X.K W (.p f (.cons ma (.cons mb .nil)))) := PE.imp (pe_op (opFn_ok h) ha.pe hb.pe) fun σ H Q h => tM.bin h
  exact ⟨p, mt_val p fun _ => rfl⟩
theorem cmpFn_ok (hu : X.A.units + 64 < cLine) {o : CmpOp} {f : Fn} (h : cmpFn o = some f) : OpR X (compareOp o) (fun x y H Q => rP X.K f [x, y] H Q) := by
  cases o <;> first | (cases h; done) | skip
  · cases h; exact or_eq hu
  · cases h; exact or_ne hu
  · cases h; exact or_lt (by omega)
  · cases h; exact or_le
  · cases h; exact or_gt
  · cases h; exact or_ge
  · cases h; exact or_in (by omega)
  · cases h; exact or_nin (by omega)
theorem bl_ok {o : Option Bool} {st st' : PM.St} {x : A} (h : bl o st = .ok x st') : ∃ k, x = .v (.bl k) := by
  unfold bl at h
  split at h
  · cases h; exact ⟨_, rfl⟩
  · cases h
theorem cmp_bool {o : CmpOp} {f : Fn} (h : cmpFn o = some f) {xs : List A} {st st' : PM.St} {x : A} (e : prim f xs st = .ok x st') : ∃ k, x = .v (.bl k) := by
  cases o <;> first | (cases h; done) | skip
  · cases h
    replace e : p_eq xs st = _ := e
    unfold p_eq at e; split at e
    · exact bl_ok e
    · cases e
  · cases h
    replace e : p_ne xs st = _ := e
    unfold p_ne at e; split at e
    · exact bl_ok e
    · cases e
  · cases h
    replace e : p_lt xs st = _ := e
    unfold p_lt at e; split at e
    · exact bl_ok e
    · cases e
  · cases h
    replace e : p_le xs st = _ := e
    unfold p_le at e; split at e
    · cases e; exact ⟨_, rfl⟩
    · cases e; exact ⟨_, rfl⟩
    · cases e
  · cases h
    replace e : p_gt xs st = _ := e
    unfold p_gt at e; split at e
    · cases e; exact ⟨_, rfl⟩
    · cases e
  · cases h
    replace e : p_ge xs st = _ := e
    unfold p_ge at e; split at e
    · cases e; exact ⟨_, rfl⟩
    · cases e
  · cases h
    replace e : p_inn xs st = _ := e
    unfold p_inn at e; split at e
    · exact bl_ok e
    · cases e
  · cases h
    replace e : p_nin xs st = _ := e
    unfold p_nin at e; split at e
    · exact bl_ok e
    · cases e
/-- a value that is True or False, as a test -/
theorem tT.ofBool {m : E} {σ : LSt} {H : Hp} {Q : Bool → Hp → Prop} (hb : ∀ ρ st x st', evE F m ρ st = .ok x st' → ∃ k, x = .v (.bl k)) (h : tT F X.K W m σ H Q) : tTest (tM F X.K W m) σ H Q := by
  obtain ⟨ρ, st, μ, er, sr, p⟩ := h
  unfold evT at p
  refine tM.elim er sr (fun x st1 e v μ1 H1 f s r n => ?_) (fun c ds st1 e => ?_) (fun e => ?_)
  · obtain ⟨k, rfl⟩ := hb _ _ _ _ e
    rw [e] at p
    exact ⟨k, Rep.bl' r, p μ1 H1 f s⟩
  · rw [e] at p; exact p
  · rw [e] at p; exact p
theorem notMark_ok {o : CmpOp} {e : Expr} (h : notMark e = true) : behindInMarks o e = false := by
  cases e <;> first | rfl | (simp [notMark] at h)
theorem me_cmp (hu : X.A.units + 64 < cLine) {o : CmpOp} {f : Fn} (h : cmpFn o = some f) (hm : notMark b = true) (ha : Snd F W X a ma) (hb : Snd F W X b mb) :
    Snd F W X (.Compare a [o] [b] pos) (.p f (.cons ma (.cons mb .nil))) := by
  refine ⟨PE.imp (pe_cmpR (cmpFn_ok hu h) ha.pe hb.pe (notMark_ok hm)) fun σ H Q h => tM.bin h, PT.imp (pt_cmpR (cmpFn_ok hu h) ha.pe hb.pe (notMark_ok hm)) fun σ H Q q => ?_⟩
  have q2 := tT.ofBool (fun ρ st x st' e => ?_) q
  · exact tM.bin q2
  · rw [ev_p2] at e
    revert e
    cases evE F ma ρ st with
    | no => intro e; cases e
    | ex _ _ _ => intro e; cases e
    | ok y st1 =>
      rw [R.bind_ok]
      cases evE F mb ρ st1 with
      | no => intro e; cases e
      | ex _ _ _ => intro e; cases e
      | ok z st2 =>
        rw [R.bind_ok]
        intro e
        exact cmp_bool h e
/-! is None -/
theorem un_bool {f : Fn} (hf : ∀ xs st x st', prim f xs st = .ok x st' → ∃ k, x = .v (.bl k)) : ∀ ρ st x st', evE F (.p f (.cons ma .nil)) ρ st = .ok x st' → ∃ k, x = .v (.bl k) := by
  intro ρ st x st' e
  rw [ev_p1] at e
  revert e
  cases evE F ma ρ st with
  | no => intro e; cases e
  | ex _ _ _ => intro e; cases e
  | ok y st1 =>
    rw [R.bind_ok]
    intro e
    exact hf _ _ _ _ e
theorem p_isN_bool : ∀ xs st x st', prim .isN xs st = .ok x st' → ∃ k, x = .v (.bl k) := by
  intro xs st x st' e
  replace e : p_isN xs st = _ := e
  unfold p_isN at e; split at e
  · cases e; exact ⟨_, rfl⟩
  · cases e
theorem p_ntN_bool : ∀ xs st x st', prim .ntN xs st = .ok x st' → ∃ k, x = .v (.bl k) := by
  intro xs st x st' e
  replace e : p_ntN xs st = _ := e
  unfold p_ntN at e; split at e
  · cases e; exact ⟨_, rfl⟩
  · cases e
theorem rep_non {K : PySem.W.Frag} {μ : Adrs} {H : Hp} {v : V} {d : D} (r : Rep K μ H v d) : decide (v = .non) = decide (d = .non) := by
  cases r <;> simp
theorem me_isN {j : Nat} {p2 : Pos} (ha : Snd F W X a ma) : Snd F W X (.Compare a [.Is] [.Constant .none j p2] pos) (.p .isN (.cons ma .nil)) := by
  have k : ∀ σ H Q, tM F X.K W (.p .isN (.cons ma .nil)) σ H Q → tIsN (tM F X.K W ma) σ H Q := fun σ H Q h => by
    obtain ⟨ρ, st, μ, er, sr, p⟩ := tM.un h
    refine ⟨ρ, st, μ, er, sr, p.mono fun v H1 ⟨W', μ0, H0, μ1, st1, xs, f, s, r, n, q⟩ => ?_⟩
    obtain ⟨x, rfl, r1⟩ := r.one
    replace q : Post X.K W' μ0 H0 Q (p_isN [x] st1) := q
    unfold p_isN at q
    split at q
    · rename_i e; cases e
      rw [rep_non r1]
      exact q.val f s (.bl _)
    · exact q.elim
  exact ⟨PE.imp (pe_cmp (pc_isN ha.pe)) k, PT.imp (pt_cmp (pc_isN ha.pe)) fun σ H Q q => k σ H _ (tT.ofBool (un_bool p_isN_bool) q)⟩
theorem me_ntN {j : Nat} {p2 : Pos} (ha : Snd F W X a ma) : Snd F W X (.Compare a [.IsNot] [.Constant .none j p2] pos) (.p .ntN (.cons ma .nil)) := by
  have k : ∀ σ H Q, tM F X.K W (.p .ntN (.cons ma .nil)) σ H Q → tNotN (tM F X.K W ma) σ H Q := fun σ H Q h => by
    obtain ⟨ρ, st, μ, er, sr, p⟩ := tM.un h
    refine ⟨ρ, st, μ, er, sr, p.mono fun v H1 ⟨W', μ0, H0, μ1, st1, xs, f, s, r, n, q⟩ => ?_⟩
    obtain ⟨x, rfl, r1⟩ := r.one
    replace q : Post X.K W' μ0 H0 Q (p_ntN [x] st1) := q
    unfold p_ntN at q
    split at q
    · rename_i e; cases e
      rw [rep_non r1]
      exact q.val f s (.bl _)
    · exact q.elim
  exact ⟨PE.imp (pe_cmp (pc_notN ha.pe)) k, PT.imp (pt_cmp (pc_notN ha.pe)) fun σ H Q q => k σ H _ (tT.ofBool (un_bool p_ntN_bool) q)⟩
theorem me_neg (ha : Snd F W X a ma) : Snd F W X (.UnaryOp .USub a pos) (.p .neg (.cons ma .nil)) := by
  have p : PE X (.UnaryOp .USub a pos) (tM F X.K W (.p .neg (.cons ma .nil))) := PE.imp (pe_un un_neg ha.pe) fun σ H Q h => by
    obtain ⟨ρ, st, μ, er, sr, p⟩ := tM.un h
    refine ⟨ρ, st, μ, er, sr, p.mono fun v H1 ⟨W', μ0, H0, μ1, st1, xs, f, s, r, n, q⟩ => ?_⟩
    obtain ⟨x, rfl, r1⟩ := r.one
    replace q : Post X.K W' μ0 H0 Q (p_neg [x] st1) := q
    unfold p_neg at q
    split at q
    · rename_i e; cases e
      cases Rep.int' r1
      exact ⟨_, rfl, q.val f s (.int _)⟩
    · exact q.elim
  exact ⟨p, mt_val p fun _ => rfl⟩

/-! ### not, and, or, if -/
theorem evE_not (ρ : Env) (st : PM.St) : evE F (.not ma) ρ st = (evT F ma ρ st).bind fun b st1 => .ok (.v (.bl (!b))) st1 := by
  simp only [evE, evT, R.bind_assoc]
theorem evE_ite (ρ : Env) (st : PM.St) : evE F (.ite mc ma mb) ρ st = (evT F mc ρ st).bind fun k st1 => if k then evE F ma ρ st1 else evE F mb ρ st1 := by
  simp only [evE, evT, R.bind_assoc]
theorem evT_ite (ρ : Env) (st : PM.St) : evT F (.ite mc ma mb) ρ st = (evT F mc ρ st).bind fun k st1 => if k then evT F ma ρ st1 else evT F mb ρ st1 := by
  unfold evT
  rw [evE_ite]
  unfold evT
  simp only [R.bind_assoc]
  congr 1
  funext x st1
  congr 1
  funext k st2
  cases k <;> rfl
theorem evT_not (ρ : Env) (st : PM.St) : evT F (.not ma) ρ st = (evT F ma ρ st).bind fun b st1 => .ok (!b) st1 := by
  unfold evT
  rw [evE_not]
  unfold evT
  simp only [R.bind_assoc, R.bind_ok]
  rfl
theorem truR_twice (x : A) (st : PM.St) : (truR x st).bind (fun k st1 => if k then (.ok k st1 : R Bool) else truR x st1) = truR x st := by
  cases h : truR x st with
  | ok b st1 =>
    obtain ⟨rfl, _⟩ := truR_st h
    rw [R.bind_ok, h]
    cases b <;> rfl
  | ex _ _ _ => rfl
  | no => rfl
theorem evT_and (ρ : Env) (st : PM.St) : evT F (.and ma mb) ρ st = (evT F ma ρ st).bind fun k st1 => if k then evT F mb ρ st1 else .ok false st1 := by
  unfold evT
  simp only [evE, R.bind_assoc]
  congr 1
  funext x st1
  cases h : truR x st1 with
  | ok b st2 =>
    obtain ⟨rfl, _⟩ := truR_st h
    rw [R.bind_ok, R.bind_ok]
    cases b
    · exact h
    · rfl
  | ex _ _ _ => rfl
  | no => rfl
theorem evT_or (ρ : Env) (st : PM.St) : evT F (.or ma mb) ρ st = (evT F ma ρ st).bind fun k st1 => if k then .ok true st1 else evT F mb ρ st1 := by
  unfold evT
  simp only [evE, R.bind_assoc]
  congr 1
  funext x st1
  cases h : truR x st1 with
  | ok b st2 =>
    obtain ⟨rfl, _⟩ := truR_st h
    rw [R.bind_ok, R.bind_ok]
    cases b
    · rfl
    · exact h
  | ex _ _ _ => rfl
  | no => rfl
theorem me_not (ha : Snd F W X a ma) : Snd F W X (.UnaryOp .Not a pos) (.not ma) := by
  refine ⟨PE.imp (pe_notT ha.pe) fun σ H Q ⟨ρ, st, μ, er, sr, p⟩ => ?_, PT.imp (pt_not ha.pt) fun σ H Q ⟨ρ, st, μ, er, sr, p⟩ => ?_⟩
  · rw [evE_not] at p
    unfold evT at p
    rw [R.bind_assoc] at p
    obtain ⟨ρ1, st1, μ1, e1, s1, p1⟩ := tM.step er sr (Post.exW (Fr.refl _ _)) Post.noW p
    refine ⟨ρ1, st1, μ1, e1, s1, p1.mono fun v H1 ⟨x, st2, μ2, f2, s2, r2, n2, h2⟩ => ?_⟩
    cases q : truR x st2 with
    | ok k st3 =>
      obtain ⟨rfl, e3⟩ := truR_st q
      rw [q] at h2
      exact ⟨k, tru_of s2 r2 e3, h2.val f2 s2 (.bl _)⟩
    | ex c ds st3 =>
      unfold truR at q
      split at q <;> cases q
    | no => rw [q] at h2; exact h2.elim
  · rw [evT_not] at p
    obtain ⟨ρ1, st1, μ1, e1, s1, p1⟩ := tT.step er sr (PostB.exW (Fr.refl _ _)) PostB.noW p
    exact ⟨ρ1, st1, μ1, e1, s1, p1.mono fun k H1 ⟨st2, μ2, f2, s2, h2⟩ => h2 μ2 H1 f2 s2⟩
theorem me_ite (hc : Snd F W X c mc) (ha : Snd F W X a ma) (hb : Snd F W X b mb) : Snd F W X (.IfExp c a b pos) (.ite mc ma mb) := by
  refine ⟨PE.imp (pe_ifExp hc.pt ha.pe hb.pe) fun σ H Q ⟨ρ, st, μ, er, sr, p⟩ => ?_, ⟨fun pins s σ H Q I ⟨ρ, st, μ, er, sr, p⟩ => ?_⟩⟩
  · rw [evE_ite] at p
    obtain ⟨ρ1, st1, μ1, e1, s1, p1⟩ := tT.step er sr (Post.exW (Fr.refl _ _)) Post.noW p
    refine ⟨ρ1, st1, μ1, e1, s1, p1.mono fun k H1 ⟨st2, μ2, f2, s2, h2⟩ => ?_⟩
    cases k
    · exact ⟨ρ, st2, μ2, er.fr f2, s2, h2.trans f2⟩
    · exact ⟨ρ, st2, μ2, er.fr f2, s2, h2.trans f2⟩
  · rw [evT_ite] at p
    obtain ⟨ρ1, st1, μ1, e1, s1, p1⟩ := tT.step er sr (PostB.exW (Fr.refl _ _)) PostB.noW p
    refine isTrue_IfExp (thn (hc.pt.run pins s σ H _ I ⟨ρ1, st1, μ1, e1, s1, p1⟩) fun k s1 ⟨H1, I1, st2, μ2, f2, s2, h2⟩ => ?_)
    cases k
    · exact hb.pt.run pins s1 σ H1 Q I1 ⟨ρ, st2, μ2, er.fr f2, s2, h2.trans f2⟩
    · exact ha.pt.run pins s1 σ H1 Q I1 ⟨ρ, st2, μ2, er.fr f2, s2, h2.trans f2⟩
/-- and, or of several -/
structure SndB (F : FT) (W : WS) (X : Cx) (e : Expr) (m : E) : Prop where
  pe : PE X e (tM F X.K W m)
  pw : PW X e (tT F X.K W m)
theorem PW.imp {e : Expr} {t t' : TT} (p : PW X e t) (h : ∀ σ H Q, t' σ H Q → t σ H Q) : PW X e t' :=
  ⟨fun wh pins s σ H Q I hq => p.run wh pins s σ H Q I (h σ H Q hq)⟩
theorem me_one (op : BoolOp) (ha : Snd F W X a ma) : SndB F W X (.BoolOp op [a] pos) ma := ⟨pe_one ha.pe, by cases op; exact pw_and1 ha.pt; exact pw_or1 ha.pt⟩
theorem me_and {rest : List Expr} (ha : Snd F W X a ma) (hb : SndB F W X (.BoolOp .And (b :: rest) pos) mb) : SndB F W X (.BoolOp .And (a :: b :: rest) pos) (.and ma mb) := by
  refine ⟨PE.imp (pe_andT ha.pe hb.pe) fun σ H Q ⟨ρ, st, μ, er, sr, p⟩ => ?_, PW.imp (pw_and ha.pt hb.pw) fun σ H Q ⟨ρ, st, μ, er, sr, p⟩ => ?_⟩
  · unfold evE at p
    obtain ⟨ρ1, st1, μ1, e1, s1, p1⟩ := tM.step er sr (Post.exW (Fr.refl _ _)) Post.noW p
    refine ⟨ρ1, st1, μ1, e1, s1, p1.mono fun v H1 ⟨x, st2, μ2, f2, s2, r2, n2, h2⟩ => ?_⟩
    cases q : truR x st2 with
    | ok k st3 =>
      obtain ⟨rfl, e3⟩ := truR_st q
      rw [q, R.bind_ok] at h2
      refine ⟨k, tru_of s2 r2 e3, ?_⟩
      cases k
      · exact h2 v μ2 H1 f2 s2 r2 n2
      · exact ⟨ρ, st3, μ2, er.fr f2, s2, h2.trans f2⟩
    | ex c ds st3 =>
      unfold truR at q
      split at q <;> cases q
    | no => rw [q] at h2; exact h2.elim
  · rw [evT_and] at p
    obtain ⟨ρ1, st1, μ1, e1, s1, p1⟩ := tT.step er sr (PostB.exW (Fr.refl _ _)) PostB.noW p
    refine ⟨ρ1, st1, μ1, e1, s1, p1.mono fun k H1 ⟨st2, μ2, f2, s2, h2⟩ => ?_⟩
    cases k
    · exact h2 μ2 H1 f2 s2
    · exact ⟨ρ, st2, μ2, er.fr f2, s2, h2.trans f2⟩
theorem me_or {rest : List Expr} (ha : Snd F W X a ma) (hb : SndB F W X (.BoolOp .Or (b :: rest) pos) mb) : SndB F W X (.BoolOp .Or (a :: b :: rest) pos) (.or ma mb) := by
  refine ⟨PE.imp (pe_orT ha.pe hb.pe) fun σ H Q ⟨ρ, st, μ, er, sr, p⟩ => ?_, PW.imp (pw_or ha.pt hb.pw) fun σ H Q ⟨ρ, st, μ, er, sr, p⟩ => ?_⟩
  · unfold evE at p
    obtain ⟨ρ1, st1, μ1, e1, s1, p1⟩ := tM.step er sr (Post.exW (Fr.refl _ _)) Post.noW p
    refine ⟨ρ1, st1, μ1, e1, s1, p1.mono fun v H1 ⟨x, st2, μ2, f2, s2, r2, n2, h2⟩ => ?_⟩
    cases q : truR x st2 with
    | ok k st3 =>
      obtain ⟨rfl, e3⟩ := truR_st q
      rw [q, R.bind_ok] at h2
      refine ⟨k, tru_of s2 r2 e3, ?_⟩
      cases k
      · exact ⟨ρ, st3, μ2, er.fr f2, s2, h2.trans f2⟩
      · exact h2 v μ2 H1 f2 s2 r2 n2
    | ex c ds st3 =>
      unfold truR at q
      split at q <;> cases q
    | no => rw [q] at h2; exact h2.elim
  · rw [evT_or] at p
    obtain ⟨ρ1, st1, μ1, e1, s1, p1⟩ := tT.step er sr (PostB.exW (Fr.refl _ _)) PostB.noW p
    refine ⟨ρ1, st1, μ1, e1, s1, p1.mono fun k H1 ⟨st2, μ2, f2, s2, h2⟩ => ?_⟩
    cases k
    · exact ⟨ρ, st2, μ2, er.fr f2, s2, h2.trans f2⟩
    · exact h2 μ2 H1 f2 s2
/-- a op b op' c -/
theorem valsR_ok {x y : A} {st st' : PM.St} {q : D × D} (h : valsR x y st = .ok q st') : st' = st ∧ x = .v q.1 ∧ y = .v q.2 := by
  unfold valsR at h
  split at h
  · cases h; exact ⟨rfl, rfl, rfl⟩
  · cases h
theorem boolR_ok {x : A} {st st' : PM.St} {k : Bool} (h : boolR x st = .ok k st') : st' = st ∧ x = .v (.bl k) := by
  unfold boolR at h
  split at h
  · cases h; exact ⟨rfl, rfl⟩
  · cases h
theorem valsR_ex {x y : A} {st st' : PM.St} {n : Nat} {ds : List D} : valsR x y st ≠ .ex n ds st' := by
  unfold valsR; split <;> intro h <;> cases h
theorem boolR_ex {x : A} {st st' : PM.St} {n : Nat} {ds : List D} : boolR x st ≠ .ex n ds st' := by
  unfold boolR; split <;> intro h <;> cases h
end
end PM
end
section
/-! PM8: what is laid into the store; displays, subscripts, slices, chains. -/
namespace PM
open PySem PySem.Spec PyProof.Rows L2
section
variable {K : PySem.W.Frag} {W : WM} {μ0 μ : Adrs} {H0 H : Hp} {st : PM.St} {v : V} {x : A}
theorem Fr.lay {p : Addr} (f : Fr μ0 H0 μ H) (hp : H0 p = none) : Fr μ0 H0 (μ ++ [p]) H := by
  refine ⟨fun n a h => ?_, fun b o h hn => ?_, f.some⟩
  · have := f.pre n a h
    rw [List.getElem?_append_left (List.getElem?_eq_some_iff.mp this).1]; exact this
  · obtain ⟨h1, n1⟩ := f.keep b o h hn
    refine ⟨h1, fun hm => ?_⟩
    rcases List.mem_append.mp hm with z | z
    · exact n1 z
    · rw [List.mem_singleton.mp z, hp] at h; cases h
/-- one value into the store -/
theorem mat_ok (f : Fr μ0 H0 μ H) (sr : SRep K μ H st) (r : ARep K μ H v x) (n : New H0 v x) :
    ∃ μ', Fr μ0 H0 μ' H ∧ SRep K μ' H (mat x st).2 ∧ Rep K μ' H v (mat x st).1 ∧ Fq μ H μ' H ∧ ∀ b ∈ μ', b ∈ μ ∨ tmp v x = some b := by
  cases x with
  | v d => exact ⟨μ, f, sr, r, ⟨fun _ _ h => h, fun _ _ h _ n => ⟨h, n⟩⟩, fun b h => .inl h⟩
  | tl ds =>
    obtain ⟨a, vs, rfl, h, na, q⟩ := r
    have ho : ORep K μ H a (.lst ds) := ⟨vs, h, q⟩
    refine ⟨μ ++ [a], f.lay (n a rfl), sr.push na ho, ?_, Fq.push ho.moves, fun b hb => ?_⟩
    · refine Rep.ref ?_
      rw [← sr.len, List.getElem?_append_right (Nat.le_refl _), Nat.sub_self]; rfl
    · rcases List.mem_append.mp hb with z | z
      · exact .inl z
      · rw [List.mem_singleton.mp z]; exact .inr rfl
  | td kvs =>
    obtain ⟨a, es, rfl, na, h, q⟩ := r
    have ho : ORep K μ H a (.dct kvs) := .inl ⟨es, h, q⟩
    refine ⟨μ ++ [a], f.lay (n a rfl), sr.push na ho, ?_, Fq.push ho.moves, fun b hb => ?_⟩
    · refine Rep.ref ?_
      rw [← sr.len, List.getElem?_append_right (Nat.le_refl _), Nat.sub_self]; rfl
    · rcases List.mem_append.mp hb with z | z
      · exact .inl z
      · rw [List.mem_singleton.mp z]; exact .inr rfl
theorem ARep.lift {μ' : Adrs} (f : Fq μ H μ' H) (r : ARep K μ H v x) (hn : ∀ b, tmp v x = some b → b ∉ μ') : ARep K μ' H v x := by
  cases x with
  | v d => exact Rep.frq f r
  | tl ds =>
    obtain ⟨a, vs, rfl, h, na, q⟩ := r
    exact ⟨a, vs, rfl, h, hn a rfl, q.frq f⟩
  | td kvs =>
    obtain ⟨a, es, rfl, na, h, q⟩ := r
    exact ⟨a, es, rfl, hn a rfl, h, Paired.imp (fun _ _ z => ⟨z.1, z.2.frq f⟩) q⟩
theorem ARep.tmpNot (r : ARep K μ H v x) : ∀ b, tmp v x = some b → b ∉ μ := by
  intro b e
  cases x with
  | v d => cases e
  | tl ds => obtain ⟨a, vs, rfl, h, na, q⟩ := r; cases e; exact na
  | td kvs => obtain ⟨a, es, rfl, na, h, q⟩ := r; cases e; exact na
theorem ARs.tmpNot {vs : List V} {xs : List A} (r : ARs K μ H vs xs) : ∀ b ∈ tmps vs xs, b ∉ μ := by
  induction r with
  | nil => intro b hb; cases hb
  | @cons v vs x xs r t ih =>
    intro b hb
    unfold tmps at hb
    cases e : tmp v x with
    | none => rw [e] at hb; exact ih b hb
    | some p =>
      rw [e] at hb
      rcases List.mem_cons.mp hb with z | z
      · rw [z]; exact r.tmpNot p e
      · exact ih b z
theorem tmps_head {vs : List V} {xs : List A} {b : Addr} (e : tmp v x = some b) : b ∈ tmps (v :: vs) (x :: xs) := by
  unfold tmps; rw [e]; exact List.mem_cons_self
theorem tmps_tail {vs : List V} {xs : List A} {b : Addr} (h : b ∈ tmps vs xs) : b ∈ tmps (v :: vs) (x :: xs) := by
  unfold tmps
  cases e : tmp v x with
  | none => exact h
  | some p => exact List.mem_cons_of_mem _ h
theorem ARs.lift {μ' : Adrs} (f : Fq μ H μ' H) {vs : List V} {xs : List A} (r : ARs K μ H vs xs) (hn : ∀ b ∈ tmps vs xs, b ∉ μ') : ARs K μ' H vs xs := by
  induction r with
  | nil => exact .nil
  | cons r t ih => exact .cons (r.lift f fun b e => hn b (tmps_head e)) (ih fun b hb => hn b (tmps_tail hb))
/-- several -/
theorem mats_ok {vs : List V} : ∀ {xs : List A} {st : PM.St} {μ : Adrs}, Fr μ0 H0 μ H → SRep K μ H st → ARs K μ H vs xs → NewL H0 vs xs →
    ∃ μ', Fr μ0 H0 μ' H ∧ SRep K μ' H (mats xs st).2 ∧ Reps K μ' H vs (mats xs st).1 ∧ Fq μ H μ' H ∧ ∀ b ∈ μ', b ∈ μ ∨ b ∈ tmps vs xs := by
  induction vs with
  | nil =>
    intro xs st μ f sr r n
    cases r
    exact ⟨μ, f, sr, .nil, ⟨fun _ _ h => h, fun _ _ h _ n => ⟨h, n⟩⟩, fun b h => .inl h⟩
  | cons v vs ih =>
    intro xs st μ f sr r n
    cases r with
    | @cons _ _ x xs r t =>
      have n1 : New H0 v x := fun p e => n.2 p (tmps_head e)
      obtain ⟨μ1, f1, s1, r1, q1, m1⟩ := mat_ok f sr r n1
      have nn : NewL H0 vs xs := by
        refine ⟨?_, fun p hp => n.2 p (tmps_tail hp)⟩
        have := n.1
        unfold tmps at this
        cases e : tmp v x with
        | none => rw [e] at this; exact this
        | some p => rw [e] at this; exact (List.nodup_cons.mp this).2
      have t1 : ARs K μ1 H vs xs := t.lift q1 fun b hb hm => by
        rcases m1 b hm with z | z
        · exact t.tmpNot b hb z
        · have := n.1
          unfold tmps at this
          rw [z] at this
          exact (List.nodup_cons.mp this).1 hb
      obtain ⟨μ2, f2, s2, r2, q2, m2⟩ := ih f1 s1 t1 nn
      refine ⟨μ2, f2, s2, .cons (r1.frq q2) r2, ⟨fun n a h => q2.pre n a (q1.pre n a h), fun b o h s hn => ?_⟩, fun b hb => ?_⟩
      · obtain ⟨h1, n1⟩ := q1.keep b o h s hn
        exact q2.keep b o h1 s n1
      · rcases m2 b hb with z | z
        · rcases m1 b z with z | z
          · exact .inl z
          · exact .inr (tmps_head z)
        · exact .inr (tmps_tail z)
end
section
variable {F : FT} {W : WS} {X : Cx} {a b c : Expr} {es : List Expr} {ma mb mc : E} {ms : Es} {pos : Pos}
theorem me_tup {k : Nat} (h : PA X es (tMs F X.K W ms)) : Snd F W X (.Tuple es k pos) (.tup ms) := by
  have p : PE X (.Tuple es k pos) (tM F X.K W (.tup ms)) := PE.imp (pe_tup h) fun σ H Q ⟨ρ, st, μ, er, sr, p⟩ => by
    unfold evE at p
    obtain ⟨ρ3, st3, μ3, e3, s3, p3⟩ := tMs.step er sr (Post.exW (Fr.refl _ _)) Post.noW p
    refine ⟨ρ3, st3, μ3, e3, s3, ?_⟩
    cases q : evEs F ms ρ3 st3 with
    | ok xs st4 =>
      rw [q] at p3
      intro vs μ4 H4 f4 s4 r4 n4
      obtain ⟨ys, st5, μ5, f5, s5, r5, n5, h5⟩ := p3 vs μ4 H4 f4 s4 r4 n4
      split at h5
      · rename_i hl
        obtain ⟨μ6, f6, s6, r6, q6, _⟩ := mats_ok f5 s5 r5 n5
        have hv : vs.length ≤ sizeLine := by
          rw [r6.length, szL]
          have : ∀ (xs : List A) (st : PM.St), (mats xs st).1.length = xs.length := by
            intro xs
            induction xs with
            | nil => intro st; rfl
            | cons x xs ih => intro st; simp [mats, ih]
          rw [this]; exact hl
        exact ⟨hv, h5.tup f6 s6 r6⟩
      · exact h5.elim
    | ex c ds st4 => rw [q] at p3; exact p3
    | no => rw [q] at p3; exact p3
  exact ⟨p, mt_val p fun _ => rfl⟩
theorem me_lst (h : PA X es (tMs F X.K W ms)) : Snd F W X (.List es pos) (.lst ms) := by
  have p : PE X (.List es pos) (tM F X.K W (.lst ms)) := PE.imp (pe_lst h) fun σ H Q ⟨ρ, st, μ, er, sr, p⟩ => by
    unfold evE at p
    obtain ⟨ρ3, st3, μ3, e3, s3, p3⟩ := tMs.step er sr (Post.exW (Fr.refl _ _)) Post.noW p
    refine ⟨ρ3, st3, μ3, e3, s3, ?_⟩
    cases q : evEs F ms ρ3 st3 with
    | ok xs st4 =>
      rw [q] at p3
      intro vs μ4 H4 f4 s4 r4 n4
      obtain ⟨ys, st5, μ5, f5, s5, r5, n5, h5⟩ := p3 vs μ4 H4 f4 s4 r4 n4
      split at h5
      · rename_i hl
        obtain ⟨μ6, f6, s6, r6, q6, _⟩ := mats_ok f5 s5 r5 n5
        have hv : vs.length ≤ sizeLine := by
          rw [r6.length, szL]
          have : ∀ (xs : List A) (st : PM.St), (mats xs st).1.length = xs.length := by
            intro xs
            induction xs with
            | nil => intro st; rfl
            | cons x xs ih => intro st; simp [mats, ih]
          rw [this]; exact hl
        exact ⟨hv, h5.lst f6 s6 r6⟩
      · exact h5.elim
    | ex c ds st4 => rw [q] at p3; exact p3
    | no => rw [q] at p3; exact p3
  exact ⟨p, mt_val p fun _ => rfl⟩
theorem me_dnil : Snd F W X (.Dict [] [] pos) (.dsp .nil) := by
  have p : PE X (.Dict [] [] pos) (tM F X.K W (.dsp .nil)) := PE.imp pe_dnewK fun σ H Q ⟨ρ, st, μ, er, sr, p⟩ => by
    have p' : Post X.K (W ρ σ) μ H Q (.ok (.td []) st) := p
    intro q hq
    have g := Fr.new (o := .dK []) hq (sr.notin hq)
    exact p' (.ref q) μ _ g (sr.laid hq) ⟨q, [], rfl, sr.notin hq, upd_same, .nil⟩ (New.at hq)
  exact ⟨p, mt_val p fun _ => rfl⟩

/-! ### subscripts -/
theorem ixN_eq (n : Nat) (i : Int) : PM.ixN n i = L2.ixN n i := rfl
theorem atI_rep {K : PySem.W.Frag} {μ : Adrs} {H : Hp} {vs : List V} {ds : List D} {i : Int} {d : D} (r : Reps K μ H vs ds) (h : PM.atI ds i = some d) : ∃ v, L2.atI vs i = some v ∧ Rep K μ H v d := by
  unfold PM.atI at h
  unfold L2.atI
  rw [ixN_eq] at h
  rw [r.length]
  cases e : L2.ixN ds.length i with
  | none => rw [e] at h; cases h
  | some j => rw [e] at h; exact r.get h
theorem or_ix (hu : X.A.units + 1 < cLine) : IxR X (fun x y H Q => rP X.K .ix [x, y] H Q) := by
  intro value slice pins s σ H x y v u Q I rx ry ⟨W, μ0, H0, μ, st, xs, f, sr, r, n, p⟩ hs
  obtain ⟨a, b, rfl, ra, rb⟩ := r.two
  replace p : Post X.K W μ0 H0 Q (p_ix [a, b] st) := p
  unfold p_ix at p
  split at p
  · rename_i e; cases e
    rename_i k
    unfold ixA at p
    split at p
    · rename_i t i
      split at p
      · rename_i hl
        split at p
        · rename_i j ej
          split at p
          · rename_i c ec
            cases Rep.str' ra; cases Rep.int' rb
            refine ix_str value slice pins s σ H _ _ v u Q I rx ry ⟨toStr t, i, c, rfl, rfl, by rw [toStr_len, szL]; exact hl, ?_, ?_⟩ hs
            · unfold L2.atI
              rw [toStr_list, ← ixN_eq, ej]; exact ec
            · exact p.val f sr (.str [c])
          · exact p.elim
        · exact p.elim
      · exact p.elim
    · split at p
      · rename_i kvs e
        split at p
        · rename_i hk
          obtain ⟨H', ad, ov, rfl, I', f', sr', g, ro⟩ := dget I sr ra e hk rb
          cases el : lookD kvs k with
          | none => rw [el] at p; exact p.elim
          | some d =>
            rw [el] at p ro
            cases ov with
            | none => exact ro.elim
            | some w =>
              cases (show v = Value.ref ad from rx)
              exact tail_any (dict_typeIs I' g) PySem.F.slot_dict_getitem.lookup (d_getItem hu I' g ry fun w' s3 I3 rw' => ⟨w, H', I3, rw', p.val (f.trans f') sr' ro⟩) hs
        · exact p.elim
      · split at p
        · rename_i ds i e _
          cases Rep.int' rb
          obtain ⟨pa, vs, rfl, h1, q1⟩ := seq_of sr ra e
          cases ea : PM.atI ds i with
          | none => rw [ea] at p; exact p.elim
          | some d =>
            rw [ea] at p
            obtain ⟨w, ew, rw'⟩ := atI_rep q1 ea
            refine ix_seq value slice pins s σ H _ _ v u Q I rx ry ?_ hs
            rcases h1 with h1 | h1
            · exact .inl ⟨pa, vs, i, w, rfl, rfl, h1, ew, p.val f sr rw'⟩
            · exact .inr (.inl ⟨pa, vs, i, w, rfl, rfl, h1, ew, p.val f sr rw'⟩)
        · exact p.elim
  · exact p.elim
theorem plainIx {i : Expr} (h : isSlice i = false) : PlainIx i := by
  intro o k
  cases i <;> first | rfl | (simp [isSlice] at h)
theorem me_ix (hu : X.A.units + 1 < cLine) (hi : isSlice b = false) (ha : Snd F W X a ma) (hb : Snd F W X b mb) : Snd F W X (.Subscript a b pos) (.p .ix (.cons ma (.cons mb .nil))) := by
  have p : PE X (.Subscript a b pos) (tM F X.K W (.p .ix (.cons ma (.cons mb .nil)))) := PE.imp (pe_ix (or_ix hu) ha.pe hb.pe (plainIx hi)) fun σ H Q h => tM.bin h
  exact ⟨p, mt_val p fun _ => rfl⟩

/-! ### slices -/
def rCut (K : PySem.W.Frag) : V → Option Int → Option Int → Hp → VK → Prop := fun x lo hi H Q => ∃ (W : WM) (μ0 : Adrs) (H0 : Hp) (μ : Adrs) (st : PM.St) (xa : A),
  Fr μ0 H0 μ H ∧ SRep K μ H st ∧ ARep K μ H x xa ∧ Post K W μ0 H0 Q (cutA xa lo hi st)
theorem cut_rep {K : PySem.W.Frag} {μ : Adrs} {H : Hp} {vs : List V} {ds : List D} (r : Reps K μ H vs ds) (lo hi : Option Int) : Reps K μ H (cutV vs lo hi) (cut ds lo hi) := by
  unfold cutV cut
  rw [r.length]
  exact (r.drop _).take _
theorem cut_str (t : Tx) (lo hi : Option Int) : cutS (toStr t) lo hi = toStr (cut t lo hi) := by
  unfold cutS cut
  rw [toStr_list, toStr_len]
  rfl
theorem or_sl : SlR X (rCut X.K) := by
  intro pins s σ H x v vl vu lo hi sl Q I rx hs pl pu ⟨W, μ0, H0, μ, st, xa, f, sr, r, p⟩
  unfold cutA at p
  split at p
  · rename_i t
    split at p
    · rename_i hl
      cases Rep.str' r
      refine sl_str pins s σ H _ v vl vu lo hi sl Q I rx hs pl pu ⟨_, rfl, by rw [toStr_len, szL]; exact hl, ?_⟩
      rw [cut_str]
      exact p.val f sr (.str _)
    · exact p.elim
  · split at p
    · rename_i ds e
      obtain ⟨pa, vs, rfl, h1, q1⟩ := tup_of r e
      refine sl_tupA pins s σ H _ v vl vu lo hi sl Q I rx hs pl pu ⟨pa, vs, rfl, h1, fun hw => ?_, fun hw => ?_⟩
      · rw [q1.length] at hw
        rw [if_pos (show PM.sIx ds.length 0 lo = 0 ∧ PM.sIx ds.length ds.length hi = ds.length from hw)] at p
        exact p _ μ H f sr r (by
          unfold tupOf at e
          split at e <;> first | exact New.val | cases e)
      · rw [q1.length] at hw
        rw [if_neg (show ¬ (PM.sIx ds.length 0 lo = 0 ∧ PM.sIx ds.length ds.length hi = ds.length) from hw)] at p
        exact p.tup f sr (cut_rep q1 lo hi)
    · split at p
      · rename_i ds e
        obtain ⟨pa, vs, rfl, h1, q1⟩ := lst_of sr r e
        exact sl_list pins s σ H _ v vl vu lo hi sl Q I rx hs pl pu ⟨pa, vs, rfl, h1, p.lst f sr (cut_rep q1 lo hi)⟩
      · exact p.elim
end
end PM
end
section
/-! PM9: slices, chains, dict displays. -/
namespace PM
open PySem PySem.Spec PyProof.Rows L2
section
variable {F : FT} {W : WS} {X : Cx} {a b c : Expr} {es : List Expr} {ma mb mc : E} {ms : Es} {pos p2 : Pos}
theorem me_slF (ha : Snd F W X a ma) (hb : Snd F W X b mb) : Snd F W X (.Subscript a (.Slice (some b) none none p2) pos) (.p .slF (.cons ma (.cons mb .nil))) := by
  have p : PE X (.Subscript a (.Slice (some b) none none p2) pos) (tM F X.K W (.p .slF (.cons ma (.cons mb .nil)))) := PE.imp (pe_slice or_sl ha.pe (po_some hb.pe) po_none) fun σ H Q h => by
    obtain ⟨ρ, st, μ, er, sr, p⟩ := tM.bin h
    refine ⟨ρ, st, μ, er, sr, p.mono fun v H1 ⟨ρ1, st1, μ1, er1, sr1, q⟩ => ⟨ρ1, st1, μ1, er1, sr1, q.mono fun w H2 ⟨W', μ0, H0, μ2, st2, xs, f, s, r, n, z⟩ => ?_⟩⟩
    obtain ⟨x, y, rfl, rx, ry⟩ := r.two
    replace z : Post X.K W' μ0 H0 Q (p_slF [x, y] st2) := z
    unfold p_slF at z
    split at z
    · rename_i e; cases e
      cases Rep.int' ry
      exact ⟨_, rfl, W', μ0, H0, μ2, _, _, f, s, rx, z⟩
    · exact z.elim
  exact ⟨p, mt_val p fun _ => rfl⟩
theorem me_slT (ha : Snd F W X a ma) (hb : Snd F W X b mb) : Snd F W X (.Subscript a (.Slice none (some b) none p2) pos) (.p .slT (.cons ma (.cons mb .nil))) := by
  have p : PE X (.Subscript a (.Slice none (some b) none p2) pos) (tM F X.K W (.p .slT (.cons ma (.cons mb .nil)))) := PE.imp (pe_slice or_sl ha.pe po_none (po_some hb.pe)) fun σ H Q h => by
    obtain ⟨ρ, st, μ, er, sr, p⟩ := tM.bin h
    refine ⟨ρ, st, μ, er, sr, p.mono fun v H1 ⟨ρ1, st1, μ1, er1, sr1, q⟩ => ⟨ρ1, st1, μ1, er1, sr1, q.mono fun w H2 ⟨W', μ0, H0, μ2, st2, xs, f, s, r, n, z⟩ => ?_⟩⟩
    obtain ⟨x, y, rfl, rx, ry⟩ := r.two
    replace z : Post X.K W' μ0 H0 Q (p_slT [x, y] st2) := z
    unfold p_slT at z
    split at z
    · rename_i e; cases e
      cases Rep.int' ry
      exact ⟨_, rfl, W', μ0, H0, μ2, _, _, f, s, rx, z⟩
    · exact z.elim
  exact ⟨p, mt_val p fun _ => rfl⟩
theorem tM.tri {K : PySem.W.Frag} {σ : LSt} {H : Hp} {Q : VK} {f : Fn} (h : tM F K W (.p f (.cons ma (.cons mb (.cons mc .nil)))) σ H Q) :
    tM F K W ma σ H (fun x H1 => tM F K W mb σ H1 fun y H2 => tM F K W mc σ H2 fun z H3 => rP K f [x, y, z] H3 Q) := by
  obtain ⟨ρ, st, μ, er, sr, h⟩ := h
  rw [ev_p3] at h
  obtain ⟨ρ1, st1, μ1, e1, s1, p1⟩ := tM.step er sr (Post.exW (Fr.refl _ _)) Post.noW h
  refine ⟨ρ1, st1, μ1, e1, s1, p1.mono fun v H1 ⟨x, st2, μ2, f2, s2, r2, n2, h2⟩ => ?_⟩
  obtain ⟨ρ3, st3, μ3, e3, s3, p3⟩ := tM.step (er.fr f2) s2 (Post.exW f2) Post.noW h2
  refine ⟨ρ3, st3, μ3, e3, s3, p3.mono fun w H2 ⟨y, st4, μ4, f4, s4, r4, n4, h4⟩ => ?_⟩
  obtain ⟨ρ5, st5, μ5, e5, s5, p5⟩ := tM.step (er.fr (f2.trans f4)) s4 (Post.exW (f2.trans f4)) Post.noW h4
  refine ⟨ρ5, st5, μ5, e5, s5, p5.mono fun z H3 ⟨u, st6, μ6, f6, s6, r6, n6, h6⟩ => ?_⟩
  exact ⟨_, _, _, μ6, st6, [x, y, u], (f2.trans f4).trans f6, s6, .cons (r2.fr (f4.trans f6)) (ARs.mk2 (r4.fr f6) r6), NewL.cons f2 s2 r2 n2 (NewL.cons f4 s4 r4 n4 (NewL.cons f6 s6 r6 n6 NewL.nil')), h6⟩
theorem intR_ok {x : A} {st st' : PM.St} {k : Int} (h : intR x st = .ok k st') : st' = st ∧ x = .v (.int k) := by
  unfold intR at h
  split at h
  · cases h; exact ⟨rfl, rfl⟩
  · cases h
theorem intR_ex {x : A} {st st' : PM.St} {n : Nat} {ds : List D} : intR x st ≠ .ex n ds st' := by
  unfold intR; split <;> intro h <;> cases h
/-- a check that lets a value through, or ends -/
theorem chk_ok {α β : Type} {r : R α} {st : PM.St} {P : R β → Prop} {k : α → PM.St → R β} (h1 : ∀ a st', r = .ok a st' → st' = st) (h2 : ∀ n ds st', r ≠ .ex n ds st') (hno : ¬ P .no) (h : P (r.bind k)) : ∃ a, r = .ok a st ∧ P (k a st) := by
  cases e : r with
  | ok a st' =>
    have := h1 a st' e
    subst this
    rw [e] at h
    exact ⟨a, rfl, h⟩
  | ex n ds st' => exact absurd e (h2 n ds st')
  | no => rw [e] at h; exact absurd h hno
theorem me_slB (ha : Snd F W X a ma) (hb : Snd F W X b mb) (hc : Snd F W X c mc) : Snd F W X (.Subscript a (.Slice (some b) (some c) none p2) pos) (.slB ma mb mc) := by
  have p : PE X (.Subscript a (.Slice (some b) (some c) none p2) pos) (tM F X.K W (.slB ma mb mc)) := PE.imp (pe_slice or_sl ha.pe (po_some hb.pe) (po_some hc.pe)) fun σ H Q h => by
    obtain ⟨ρ, st, μ, er, sr, p⟩ := h
    unfold evE at p
    obtain ⟨ρ1, st1, μ1, e1, s1, p1⟩ := tM.step er sr (Post.exW (Fr.refl _ _)) Post.noW p
    refine ⟨ρ1, st1, μ1, e1, s1, p1.mono fun v H1 ⟨x, st2, μ2, f2, s2, r2, n2, h2⟩ => ?_⟩
    obtain ⟨ρ3, st3, μ3, e3, s3, p3⟩ := tM.step (er.fr f2) s2 (Post.exW f2) Post.noW h2
    refine ⟨ρ3, st3, μ3, e3, s3, p3.mono fun w H2 ⟨y, st4, μ4, f4, s4, r4, n4, h4⟩ => ?_⟩
    obtain ⟨i, ei, h4⟩ := chk_ok (fun a st' e => (intR_ok e).1) (fun _ _ _ => intR_ex) Post.noW h4
    obtain ⟨_, rfl⟩ := intR_ok ei
    cases Rep.int' r4
    refine ⟨i, rfl, ?_⟩
    obtain ⟨ρ5, st5, μ5, e5, s5, p5⟩ := tM.step (er.fr (f2.trans f4)) s4 (Post.exW (f2.trans f4)) Post.noW h4
    refine ⟨ρ5, st5, μ5, e5, s5, p5.mono fun z H3 ⟨u, st6, μ6, f6, s6, r6, n6, h6⟩ => ?_⟩
    obtain ⟨j, ej, h6⟩ := chk_ok (fun a st' e => (intR_ok e).1) (fun _ _ _ => intR_ex) Post.noW h6
    obtain ⟨_, rfl⟩ := intR_ok ej
    cases Rep.int' r6
    exact ⟨j, rfl, W ρ σ, μ, H, μ6, st6, x, (f2.trans f4).trans f6, s6, r2.fr (f4.trans f6), h6⟩
  exact ⟨p, mt_val p fun _ => rfl⟩
/-! ### a op b op' c -/
theorem NewL.vals {H : Hp} {v w : V} {x y : D} : NewL H [v, w] [.v x, .v y] := ⟨List.nodup_nil, fun p hp => by cases hp⟩
theorem chain_bool {f g : Fn} (hg : ∀ xs st x st', prim g xs st = .ok x st' → ∃ k, x = .v (.bl k)) : ∀ ρ st x st', evE F (.chain f g ma mb mc) ρ st = .ok x st' → ∃ k, x = .v (.bl k) := by
  intro ρ st x st' e
  unfold evE at e
  cases e1 : evE F ma ρ st with
  | no => rw [e1] at e; cases e
  | ex _ _ _ => rw [e1] at e; cases e
  | ok u st1 =>
    rw [e1, R.bind_ok] at e
    cases e2 : evE F mb ρ st1 with
    | no => rw [e2] at e; cases e
    | ex _ _ _ => rw [e2] at e; cases e
    | ok w st2 =>
      rw [e2, R.bind_ok] at e
      cases e3 : valsR u w st2 with
      | no => rw [e3] at e; cases e
      | ex _ _ _ => rw [e3] at e; cases e
      | ok q st3 =>
        rw [e3, R.bind_ok] at e
        cases e4 : prim f [.v q.1, .v q.2] st3 with
        | no => rw [e4] at e; cases e
        | ex _ _ _ => rw [e4] at e; cases e
        | ok z st4 =>
          rw [e4, R.bind_ok] at e
          cases e5 : boolR z st4 with
          | no => rw [e5] at e; cases e
          | ex _ _ _ => rw [e5] at e; cases e
          | ok k st5 =>
            rw [e5, R.bind_ok] at e
            cases k with
            | false => cases e; exact ⟨_, rfl⟩
            | true =>
              rw [if_pos rfl] at e
              cases e6 : evE F mc ρ st5 with
              | no => rw [e6] at e; cases e
              | ex _ _ _ => rw [e6] at e; cases e
              | ok t st6 =>
                rw [e6, R.bind_ok] at e
                cases e7 : valsR w t st6 with
                | no => rw [e7] at e; cases e
                | ex _ _ _ => rw [e7] at e; cases e
                | ok q2 st7 => rw [e7, R.bind_ok] at e; exact hg _ _ _ _ e
theorem me_chain (hu : X.A.units + 64 < cLine) {o o' : CmpOp} {f g : Fn} (h : cmpFn o = some f) (h' : cmpFn o' = some g) (hm : notMark c = true) (ha : Snd F W X a ma) (hb : Snd F W X b mb) (hc : Snd F W X c mc) :
    Snd F W X (.Compare a [o, o'] [b, c] pos) (.chain f g ma mb mc) := by
  have hl : lastMarks [o, o'] [b, c] = false := notMark_ok hm
  have key : ∀ σ H Q, tM F X.K W (.chain f g ma mb mc) σ H Q → tChain (fun x y H Q => rP X.K f [x, y] H Q) (fun x y H Q => rP X.K g [x, y] H Q) (tM F X.K W ma) (tM F X.K W mb) (tM F X.K W mc) σ H Q := fun σ H Q hh => by
    obtain ⟨ρ, st, μ, er, sr, p⟩ := hh
    unfold evE at p
    obtain ⟨ρ1, st1, μ1, e1, s1, p1⟩ := tM.step er sr (Post.exW (Fr.refl _ _)) Post.noW p
    refine ⟨ρ1, st1, μ1, e1, s1, p1.mono fun v H1 ⟨x, st2, μ2, f2, s2, r2, n2, h2⟩ => ?_⟩
    obtain ⟨ρ3, st3, μ3, e3, s3, p3⟩ := tM.step (er.fr f2) s2 (Post.exW f2) Post.noW h2
    refine ⟨ρ3, st3, μ3, e3, s3, p3.mono fun w H2 ⟨y, st4, μ4, f4, s4, r4, n4, h4⟩ => ?_⟩
    obtain ⟨q, eq, k4⟩ := chk_ok (fun a st' e => (valsR_ok e).1) (fun _ _ _ => valsR_ex) Post.noW h4
    clear h4
    obtain ⟨_, rfl, rfl⟩ := valsR_ok eq
    have r2' : Rep X.K μ4 H2 v q.1 := r2.fr f4
    refine ⟨W ρ σ, μ4, H2, μ4, st4, [.v q.1, .v q.2], Fr.refl _ _, s4, ARs.mk2 r2' r4, NewL.vals, ?_⟩
    cases e5 : prim f [.v q.1, .v q.2] st4 with
    | no => rw [e5] at k4; exact k4.elim
    | ex n ds st5 => rw [e5] at k4; exact fun μ' H' g s => k4 μ' H' ((f2.trans f4).trans g) s
    | ok z st5 =>
      rw [e5, R.bind_ok] at k4
      intro zv μ5 H5 f5 s5 r5 n5
      obtain ⟨k, ek, h4⟩ := chk_ok (fun a st' e => (boolR_ok e).1) (fun _ _ _ => boolR_ex) Post.noW k4
      clear k4
      obtain ⟨_, rfl⟩ := boolR_ok ek
      refine ⟨k, Rep.bl' r5, ?_⟩
      have F5 := (f2.trans f4).trans f5
      cases k with
      | false => rw [if_neg (by decide)] at h4 ⊢; exact h4.val F5 s5 (.bl _)
      | true =>
        rw [if_pos rfl] at h4 ⊢
        obtain ⟨ρ7, st7, μ7, e7, s7, p7⟩ := tM.step (er.fr F5) s5 (Post.exW F5) Post.noW h4
        refine ⟨ρ7, st7, μ7, e7, s7, p7.mono fun t H6 ⟨u, st8, μ8, f8, s8, r8, n8, h8⟩ => ?_⟩
        obtain ⟨q2, eq2, k8⟩ := chk_ok (fun a st' e => (valsR_ok e).1) (fun _ _ _ => valsR_ex) Post.noW h8
        clear h8
        obtain ⟨_, e9, rfl⟩ := valsR_ok eq2
        have r4' : Rep X.K μ8 H6 w q2.1 := by
          have : q.2 = q2.1 := A.v.inj e9
          rw [← this]
          exact r4.fr (f5.trans f8)
        exact ⟨W ρ σ, μ, H, μ8, st8, [.v q2.1, .v q2.2], F5.trans f8, s8, ARs.mk2 r4' r8, NewL.vals, k8⟩
  exact ⟨PE.imp (pe_chain (cmpFn_ok hu h) (cmpFn_ok hu h') ha.pe hb.pe hc.pe hl) key,
    PT.imp (pt_chain (cmpFn_ok hu h) (cmpFn_ok hu h') ha.pe hb.pe hc.pe hl) fun σ H Q q => key σ H _ (tT.ofBool (chain_bool fun xs st x st' e => cmp_bool h' e) q)⟩
end
end PM
end
section
/-! PM10: built-in functions, by values. -/
namespace PM
open PySem PySem.Spec PyProof.Rows L2
section
variable {X : Cx}
theorem keys_rep {K : PySem.W.Frag} {μ : Adrs} {H : Hp} {es : List (Key × V)} {kvs : List (D × D)} (p : Paired (fun (e : Key × V) (p : D × D) => p.1 = kD e.1 ∧ Rep K μ H e.2 p.2) es kvs) :
    Reps K μ H (es.map fun e => kV e.1) (kvs.map (·.1)) := by
  induction p with
  | nil => exact .nil
  | @cons e q _ _ r t ih =>
    refine .cons ?_ ih
    show Rep K μ H (kV e.1) q.1
    rw [r.1]; exact Rep.ofKey e.1
theorem cr_len : CallR X (.builtin "len") (fun vs H Q => rP X.K .len vs H Q) := by
  intro pins s σ H vs us Q I rv ⟨W, μ0, H0, μ, st, xs, f, sr, r, n, p⟩
  replace p : Post X.K W μ0 H0 Q (p_len xs st) := p
  unfold p_len at p
  split at p
  · rename_i t
    split at p
    · rename_i hl
      cases r with
      | cons r1 r2 =>
        cases r2
        cases Rep.str' r1
        refine call_len_str pins s σ H _ us Q I rv ⟨_, rfl, by rw [toStr_len, szL]; exact hl, ?_⟩
        rw [toStr_len]
        exact p.val f sr (.int _)
    · exact p.elim
  · rename_i a _
    cases r with
    | @cons v _ _ _ r1 r2 =>
      cases r2
      split at p
      · rename_i ds e
        obtain ⟨pa, ws, rfl, h1, q1⟩ := seq_of sr r1 e
        refine call_len_seq pins s σ H _ us Q I rv ⟨pa, ws, rfl, h1, ?_⟩
        rw [q1.length]
        exact p.val f sr (.int _)
      · split at p
        · rename_i kvs e
          split at p
          · rename_i hk
            obtain ⟨pa, rfl, dr⟩ := dct_of sr r1 e
            rcases dr with ⟨es, h, q⟩ | ⟨es, h, q⟩
            · obtain ⟨u, rfl, ru⟩ := L2.vals1 rv
              cases ru
              have hl : es.length = kvs.length := Paired.length q
              refine d_len I (.inl h) fun t s' I' => ⟨.int es.length, H, I', ⟨t, rfl⟩, ?_⟩
              rw [hl]
              exact p.val f sr (.int _)
            · obtain ⟨rfl, rfl⟩ := flat_tup q hk
              cases a with
              | v d =>
                cases d with
                | ref m =>
                  obtain ⟨ad, e1, hm⟩ := (show Rep X.K μ H (.ref pa) (.ref m) from r1).ref'
                  cases e1
                  obtain ⟨f', sr'⟩ := nil_rep (ho := .dK []) sr hm (getK_some e) (.inl ⟨[], upd_same, .nil⟩)
                  obtain ⟨u, rfl, ru⟩ := L2.vals1 rv
                  cases ru
                  exact d_len (conv_K I h) (.inl upd_same) fun t s' I' => ⟨.int _, _, I', ⟨t, rfl⟩, p.val (f.trans f') sr' (.int _)⟩
                | _ => cases e
              | tl _ => cases e
              | td es' =>
                obtain ⟨pa', es2, e1, _, h2, _⟩ := r1
                cases e1
                rw [h] at h2; cases h2
          · exact p.elim
        · exact p.elim
  · exact p.elim
theorem cr_all' (hc : X.calm = true) : CallR X (.builtin "all") (fun vs H Q => rP X.K .all vs H Q) := by
  intro pins s σ H vs us Q I rv ⟨W, μ0, H0, μ, st, xs, f, sr, r, n, p⟩
  replace p : Post X.K W μ0 H0 Q (p_all xs st) := p
  unfold p_all at p
  split at p
  · cases r with
    | cons r1 r2 =>
      cases r2
      split at p
      · rename_i ds e
        obtain ⟨pa, ws, rfl, h1, q1⟩ := lst_of sr r1 e
        cases eb : blsOf ds with
        | none => rw [eb] at p; exact p.elim
        | some bs =>
          rw [eb] at p
          have := bls_of q1 eb
          subst this
          exact cr_all hc pins s σ H _ us Q I rv ⟨pa, bs, rfl, h1, p.val f sr (.bl _)⟩
      · exact p.elim
  · exact p.elim
theorem cr_any' (hc : X.calm = true) : CallR X (.builtin "any") (fun vs H Q => rP X.K .any vs H Q) := by
  intro pins s σ H vs us Q I rv ⟨W, μ0, H0, μ, st, xs, f, sr, r, n, p⟩
  replace p : Post X.K W μ0 H0 Q (p_any xs st) := p
  unfold p_any at p
  split at p
  · cases r with
    | cons r1 r2 =>
      cases r2
      split at p
      · rename_i ds e
        obtain ⟨pa, ws, rfl, h1, q1⟩ := lst_of sr r1 e
        cases eb : blsOf ds with
        | none => rw [eb] at p; exact p.elim
        | some bs =>
          rw [eb] at p
          have := bls_of q1 eb
          subst this
          exact cr_any hc pins s σ H _ us Q I rv ⟨pa, bs, rfl, h1, p.val f sr (.bl _)⟩
      · exact p.elim
  · exact p.elim
theorem cr_sum' (hc : X.calm = true) : CallR X (.builtin "sum") (fun vs H Q => rP X.K .sum vs H Q) := by
  intro pins s σ H vs us Q I rv ⟨W, μ0, H0, μ, st, xs, f, sr, r, n, p⟩
  replace p : Post X.K W μ0 H0 Q (p_sum xs st) := p
  unfold p_sum at p
  split at p
  · cases r with
    | cons r1 r2 =>
      cases r2
      split at p
      · rename_i ds e
        obtain ⟨pa, ws, rfl, h1, q1⟩ := lst_of sr r1 e
        cases eb : intsOf ds with
        | none => rw [eb] at p; exact p.elim
        | some bs =>
          rw [eb] at p
          obtain ⟨rfl, _⟩ := ints_of (is := bs) q1 eb
          exact cr_sum hc pins s σ H _ us Q I rv ⟨pa, bs, rfl, h1, p.val f sr (.int _)⟩
      · exact p.elim
  · exact p.elim
theorem call_tup_known {a : Addr} {xs : List V} {pins : List (Addr × Obj)} {s : Shared} {σ : LSt} {H : Hp} {Q : VK} (I : L2.Inv X pins σ H s) (hq : SqL X.K H a xs)
    (q : ∀ l o, H l = none → o.dict = none → Q (.ref l) (upd H l (.frz o (.tup xs)))) : wpAny (model X.prog X.w) X.A (PySem.call (.type "tuple") [.ref a]) (EP X pins σ Q) X.xe s := by
  obtain ⟨its, r', pl, hz⟩ := I.list hq
  have hlen := r'.length
  refine call_tuple_list pl.isList (fun h' kp => ?_) (by simp only [List.size_toArray] <;> omega)
  have I1 : L2.Inv X pins σ H { s with heap := h' } := I.kept (t' := s.toks) kp
  have I2 : L2.Inv X pins σ (upd H h'.objs.size (.frz { cls := .type "tuple", data := .seq its.toArray } (.tup xs))) { s with heap := h'.push { cls := .type "tuple", data := .seq its.toArray } } :=
    I1.laid (t' := s.toks) (fun b o e => Heap.get?_push_of_some _ e) (Nat.le_refl _) ⟨Heap.get?_push_size _ rfl, hz, its, r', IsTup.new _ _⟩
  exact ⟨.ref h'.objs.size, _, I2, rfl, q _ _ (I1.hok.fresh (Nat.le_refl _)) rfl⟩
theorem cr_tuple : CallR X (.type "tuple") (fun vs H Q => rP X.K .tup vs H Q) := by
  intro pins s σ H vs us Q I rv ⟨W, μ0, H0, μ, st, xs, f, sr, r, n, p⟩
  replace p : Post X.K W μ0 H0 Q (p_tup xs st) := p
  unfold p_tup at p
  split at p
  · cases r with
    | cons r1 r2 =>
      cases r2
      split at p
      · rename_i ds e
        obtain ⟨pa, ws, rfl, h1, q1⟩ := tup_of r1 e
        refine call_tuple_of pins s σ H _ us Q I rv ⟨pa, ws, rfl, .inr ⟨h1, ?_⟩⟩
        refine p _ μ H f sr r1 ?_
        unfold tupOf at e
        split at e <;> first | exact New.val | cases e
      · split at p
        · rename_i ds e
          obtain ⟨pa, ws, rfl, h1, q1⟩ := lst_of sr r1 e
          obtain ⟨u, rfl, ru⟩ := L2.vals1 rv
          cases ru
          refine call_tup_known I h1 fun l o hl hd => ?_
          have g := Fr.new (o := .frz o (.tup ws)) hl (sr.notin hl)
          exact p (.ref l) μ _ (f.trans g) (sr.laid hl) (Rep.ktp (.inl ⟨o, upd_same, hd, sr.notin hl⟩) (q1.fr g)) New.val
        · exact p.elim
  · exact p.elim
theorem cr_list (hc : X.calm = true) : CallR X (.type "list") (fun vs H Q => rP X.K .lst vs H Q) := by
  intro pins s σ H vs us Q I rv ⟨W, μ0, H0, μ, st, xs, f, sr, r, n, p⟩
  replace p : Post X.K W μ0 H0 Q (p_lst xs st) := p
  unfold p_lst at p
  split at p
  · rename_i a
    cases r with
    | cons r1 r2 =>
      cases r2
      split at p
      · rename_i ds e
        obtain ⟨pa, ws, rfl, h1, q1⟩ := seq_of sr r1 e
        exact call_list_of pins s σ H _ us Q I rv ⟨pa, ws, rfl, h1, p.lst f sr q1⟩
      · split at p
        · rename_i kvs e
          split at p
          · rename_i hk
            obtain ⟨pa, rfl, dr⟩ := dct_of sr r1 e
            rcases dr with ⟨es, h, q⟩ | ⟨es, h, q⟩
            · exact call_list_dK hc pins s σ H _ us Q I rv ⟨pa, es, rfl, h, p.lst f sr (keys_rep q)⟩
            · obtain ⟨rfl, rfl⟩ := flat_tup q hk
              cases a with
              | v d =>
                cases d with
                | ref m =>
                  obtain ⟨ad, e1, hm⟩ := (show Rep X.K μ H (.ref pa) (.ref m) from r1).ref'
                  cases e1
                  obtain ⟨f', sr'⟩ := nil_rep (ho := .dK []) sr hm (getK_some e) (.inl ⟨[], upd_same, .nil⟩)
                  exact call_list_dK hc pins s σ _ _ us Q (conv_K I h) rv ⟨pa, [], rfl, upd_same, p.lst (f.trans f') sr' .nil⟩
                | _ => cases e
              | tl _ => cases e
              | td es' =>
                obtain ⟨pa', es2, e1, _, h2, _⟩ := r1
                cases e1
                rw [h] at h2; cases h2
          · exact p.elim
        · exact p.elim
  · exact p.elim
theorem cr_int : CallR X (.type "int") (fun vs H Q => rP X.K .int vs H Q) := by
  intro pins s σ H vs us Q I rv ⟨W, μ0, H0, μ, st, xs, f, sr, r, n, p⟩
  replace p : Post X.K W μ0 H0 Q (p_int xs st) := p
  unfold p_int at p
  split at p
  · cases r with
    | cons r1 r2 =>
      cases r2
      cases Rep.int' r1
      exact call_int1 pins s σ H _ us Q I rv (.inl ⟨_, rfl, p.val f sr (.int _)⟩)
  · cases r with
    | cons r1 r2 =>
      cases r2
      cases Rep.bl' r1
      exact call_int1 pins s σ H _ us Q I rv (.inr ⟨_, rfl, p.val f sr (.int _)⟩)
  · exact p.elim
theorem cr_min (hc : X.calm = true) : CallR X (.builtin "min") (fun vs H Q => rP X.K .min2 vs H Q) := by
  intro pins s σ H vs us Q I rv ⟨W, μ0, H0, μ, st, xs, f, sr, r, n, p⟩
  replace p : Post X.K W μ0 H0 Q (p_min2 xs st) := p
  unfold p_min2 at p
  split at p
  · cases r with
    | cons r1 r2 =>
      cases r2 with
      | cons r2 r3 =>
        cases r3
        cases Rep.int' r1; cases Rep.int' r2
        exact call_min2 hc pins s σ H _ us Q I rv ⟨_, _, rfl, p.val f sr (.int _)⟩
  · exact p.elim
theorem cr_max (hc : X.calm = true) : CallR X (.builtin "max") (fun vs H Q => rP X.K .max2 vs H Q) := by
  intro pins s σ H vs us Q I rv ⟨W, μ0, H0, μ, st, xs, f, sr, r, n, p⟩
  replace p : Post X.K W μ0 H0 Q (p_max2 xs st) := p
  unfold p_max2 at p
  split at p
  · cases r with
    | cons r1 r2 =>
      cases r2 with
      | cons r2 r3 =>
        cases r3
        cases Rep.int' r1; cases Rep.int' r2
        exact call_max2 hc pins s σ H _ us Q I rv ⟨_, _, rfl, p.val f sr (.int _)⟩
  · exact p.elim
/-! isinstance -/
def tyS : Ty → String
  | .tInt => "int"
  | .tBool => "bool"
  | .tStr => "str"
  | .tTup => "tuple"
  | .tLst => "list"
theorem cr_isi (t : Ty) : CallR X (.builtin "isinstance") (fun vs H Q => ∃ v, vs = [v, .ty (tyS t)] ∧ rP X.K (.isi t) [v] H Q) := by
  intro pins s σ H vs us Q I rv ⟨v, e, W, μ0, H0, μ, st, xs, f, sr, r, n, p⟩
  subst e
  obtain ⟨x, rfl, r1⟩ := r.one
  replace p : Post X.K W μ0 H0 Q (p_isi t [x] st) := p
  unfold p_isi at p
  split at p
  · rename_i d ex
    cases ex
    have go : ∀ {T : String} {b : Bool}, TyX X.K H v (.type T) → kitB T (tyS t) = some b → Q (.bl b) H → wpAny (model X.prog X.w) X.A (PySem.call (.builtin "isinstance") us) (EP X pins σ Q) X.xe s := fun {T b} h1 h2 h3 =>
      call_isi pins s σ H _ us Q I rv ⟨v, .ty (tyS t), .type T, .type (tyS t), b, rfl, .ty _, h1, kit_ty h2, h3⟩
    unfold isTy at p
    split at p
    · cases Rep.bl' r1; exact go (.base (.bl _)) (by decide +kernel) (p.val f sr (.bl _))
    · cases Rep.bl' r1; exact go (.base (.bl _)) (by decide +kernel) (p.val f sr (.bl _))
    · cases Rep.int' r1; exact go (.base (.int _)) (by decide +kernel) (p.val f sr (.bl _))
    · cases Rep.str' r1; exact go (.base (.str _)) (by decide +kernel) (p.val f sr (.bl _))
    · obtain ⟨a, ws, rfl, h, q⟩ := Rep.tup' r1; exact go (.base (.tup h)) (by decide +kernel) (p.val f sr (.bl _))
    · cases (show Rep X.K μ H v (.ktp _) from r1) with
      | ktp h q =>
        rcases h with ⟨o, h, _, _⟩ | ⟨o, its, k, h1, h2, _⟩
        · exact go (.fTuple h) (by decide +kernel) (p.val f sr (.bl _))
        · exact go (.kTuple h1 h2) (by decide +kernel) (p.val f sr (.bl _))
    · cases Rep.non' r1; cases t <;> exact go (.base .non) (by decide +kernel) (p.val f sr (.bl _))
    · rename_i h1 h2; cases Rep.bl' r1; cases t <;> first | exact go (.base (.bl _)) (by decide +kernel) (p.val f sr (.bl _)) | (exfalso; first | exact h1 rfl | exact h2 rfl | exact h1 _ rfl rfl | exact h2 _ rfl rfl)
    · rename_i h1; cases Rep.int' r1; cases t <;> first | exact go (.base (.int _)) (by decide +kernel) (p.val f sr (.bl _)) | (exfalso; first | exact h1 rfl | exact h1 _ rfl rfl)
    · rename_i h1; cases Rep.str' r1; cases t <;> first | exact go (.base (.str _)) (by decide +kernel) (p.val f sr (.bl _)) | (exfalso; first | exact h1 rfl | exact h1 _ rfl rfl)
    · rename_i h1; obtain ⟨a, ws, rfl, h, q⟩ := Rep.tup' r1; cases t <;> first | exact go (.base (.tup h)) (by decide +kernel) (p.val f sr (.bl _)) | (exfalso; first | exact h1 rfl | exact h1 _ rfl rfl)
    · rename_i h1
      cases (show Rep X.K μ H v (.ktp _) from r1) with
      | ktp h q =>
        rcases h with ⟨o, h, _, _⟩ | ⟨o, its, k, h3, h2, _⟩
        · cases t <;> first | exact go (.fTuple h) (by decide +kernel) (p.val f sr (.bl _)) | (exfalso; first | exact h1 rfl | exact h1 _ rfl rfl)
        · cases t <;> first | exact go (.kTuple h3 h2) (by decide +kernel) (p.val f sr (.bl _)) | (exfalso; first | exact h1 rfl | exact h1 _ rfl rfl)
    · rename_i m
      obtain ⟨a, rfl, hm⟩ := Rep.ref' r1
      split at p
      · rename_i ds e
        obtain ⟨vs, h, q⟩ := sr.obj m _ a e hm
        cases t <;> exact go (.base (.lst h)) (by decide +kernel) (p.val f sr (.bl _))
      · rename_i kvs e
        have dr : DRep X.K μ H a kvs := sr.obj m _ a e hm
        rcases dr with ⟨es, h, q⟩ | ⟨es, h, q⟩
        · cases t <;> exact go (.base (.dK h)) (by decide +kernel) (p.val f sr (.bl _))
        · cases t <;> exact go (.base (.dT h)) (by decide +kernel) (p.val f sr (.bl _))
      · exact p.elim
    · exact p.elim
  · exact p.elim
end
end PM
end
section
/-! PM11: sorted of texts, dict of pairs. -/
namespace PM
open PySem PySem.Spec PyProof.Rows L2

/-! ### what sorted gives -/
theorem txle_antisymm {a b : Tx} (h1 : txLt b a = false) (h2 : txLt a b = false) : a = b := by
  rw [txLt_iff, decide_eq_false_iff_not] at h1 h2
  exact List.le_antisymm (List.not_lt.mp h1) (List.not_lt.mp h2)
theorem txle_trans {a b c : Tx} (h1 : txLt b a = false) (h2 : txLt c b = false) : txLt c a = false := by
  rw [txLt_iff, decide_eq_false_iff_not] at h1 h2 ⊢
  exact List.not_lt.mpr (List.le_trans (List.not_lt.mp h1) (List.not_lt.mp h2))
theorem txle_asymm {a b : Tx} (h1 : txLt a b = true) : txLt b a = false := by
  rw [txLt_iff, decide_eq_true_eq] at h1
  rw [txLt_iff, decide_eq_false_iff_not]
  exact List.not_lt.mpr (List.le_of_lt h1)
theorem insTx_perm (x : Tx) : ∀ l : List Tx, (insTx x l).Perm (x :: l)
  | [] => .refl _
  | y :: r => by
    unfold insTx
    split
    · exact .refl _
    · exact (List.Perm.cons y (insTx_perm x r)).trans (.swap x y r)
theorem sortTx_perm : ∀ l : List Tx, (sortTx l).Perm l
  | [] => .refl _
  | x :: r => (insTx_perm x (sortTx r)).trans (List.Perm.cons x (sortTx_perm r))
abbrev TxLe (a b : Tx) : Prop := txLt b a = false
theorem insTx_sorted (x : Tx) : ∀ l : List Tx, l.Pairwise TxLe → (insTx x l).Pairwise TxLe
  | [], _ => List.pairwise_cons.mpr ⟨fun _ h => (by cases h), .nil⟩
  | y :: r, h => by
    obtain ⟨h1, h2⟩ := List.pairwise_cons.mp h
    unfold insTx
    split
    · rename_i e
      refine List.pairwise_cons.mpr ⟨fun z hz => ?_, h⟩
      rcases List.mem_cons.mp hz with rfl | hz
      · exact txle_asymm e
      · exact txle_trans (txle_asymm e) (h1 z hz)
    · rename_i e
      refine List.pairwise_cons.mpr ⟨fun z hz => ?_, insTx_sorted x r h2⟩
      rcases List.mem_cons.mp ((insTx_perm x r).mem_iff.mp hz) with rfl | hz
      · exact Bool.eq_false_iff.mpr e
      · exact h1 z hz
theorem sortTx_sorted : ∀ l : List Tx, (sortTx l).Pairwise TxLe
  | [] => .nil
  | x :: r => insTx_sorted x _ (sortTx_sorted r)
theorem ltCps_tx : ∀ a b : Tx, ltCps a b = txLt a b
  | [], [] => rfl
  | [], _ :: _ => rfl
  | _ :: _, [] => rfl
  | x :: a, y :: b => by
    unfold ltCps txLt
    rw [ltCps_tx a b]
    by_cases e : x = y
    · subst e; simp
    · have : (x == y) = false := beq_eq_false_iff_ne.mpr e
      simp [e, this]
theorem risingS_pair : ∀ (p : Str) (l : List Str), risingS p l = true → ((p :: l).map ofStr).Pairwise TxLe
  | p, [], _ => List.pairwise_cons.mpr ⟨fun _ h => (by cases h), .nil⟩
  | p, x :: r, h => by
    unfold risingS at h
    rw [Bool.and_eq_true] at h
    have ih := risingS_pair x r h.2
    have h0 : TxLe (ofStr p) (ofStr x) := by
      have h1 := h.1
      rw [Bool.not_eq_true'] at h1
      show txLt _ _ = false
      rw [← ltCps_tx]; exact h1
    refine List.pairwise_cons.mpr ⟨fun z hz => ?_, ih⟩
    rcases List.mem_cons.mp hz with rfl | hz
    · exact h0
    · exact txle_trans h0 ((List.pairwise_cons.mp ih).1 z hz)
theorem sortedS_eq {ys ks : List Str} (hp : ys.Perm ks) (hs : sortedS ys = true) : ys = (sortTx (ks.map ofStr)).map toStr := by
  have h1 : (ys.map ofStr).Pairwise TxLe := by
    cases ys with
    | nil => exact .nil
    | cons x r => exact risingS_pair x r hs
  have e : ys.map ofStr = sortTx (ks.map ofStr) := List.Perm.eq_of_pairwise (fun a b _ _ q1 q2 => txle_antisymm q1 q2) h1 (sortTx_sorted _) ((hp.map _).trans (sortTx_perm _).symm)
  rw [← e, List.map_map]
  have : ∀ l : List Str, l.map (toStr ∘ ofStr) = l := fun l => by
    induction l with
    | nil => rfl
    | cons x r ih => rw [List.map_cons, ih]; simp [toStr_ofStr]
  rw [this]
section
variable {X : Cx} {pins : List (Addr × Obj)} {σ : LSt} {H : Hp} {s : Shared}
/-- sorted of what gives texts -/
theorem sorted_txts {v : Value} {ks : List Str} {Q : VK} (h64 : ks.length < 64)
    (hcol : ∀ (R : List Value → Shared → Prop) (E' : Value → Shared → Prop), (∀ s' acc, L2.Inv X pins σ H s' → StrsAre acc ks → R acc s') → wpAny (model X.prog X.w) X.A.in1 (collect v) R E' s)
    (q : ∀ ys p, ys.Perm ks → sortedS ys = true → H p = none → Q (.ref p) (upd H p (.lst (ys.map V.str)))) :
    wpAny (model X.prog X.w) X.A (PySem.call (.builtin "sorted") [v]) (EP X pins σ Q) X.xe s := by
  refine Calls.call_function_entry PyProof.Rows.kind_sorted PyProof.Rows.plain_sorted PyProof.Rows.entry_sorted (PyProof.Rows.args_sorted1 _) ?_
  unfold Builtin.«sorted»
  refine wpAny_bind (m := checkCount "sorted" 1 1 _) (wpAny_pure ?_)
  refine wpAny_bind (hcol _ _ fun s1 acc I1 hS => ?_)
  have hal : acc.length = ks.length := by
    have := (vals_of_strs hS).length
    rw [List.length_map] at this
    exact this.symm
  refine wpAny_bind (wpAny_newList ?_ (by rw [hal, sizeLine_eq]; omega))
  have hoL : (s1.heap.push (seqObj "list" acc.toArray 0)).get? s1.heap.objs.size = some (seqObj "list" acc.toArray 0) := Heap.get?_push_size _ rfl
  show wpAny _ _ _ _ _ { s1 with heap := s1.heap.push (seqObj "list" acc.toArray 0) }
  refine wpAny_bind (wpAny_holding (wpAny_call_entry PyProof.Rows.slot_list_sort ⟨_, hoL, rfl⟩ PyProof.Rows.entry_list_sort
    (list_sort_treeK strKind_oneLt (s := { s1 with heap := s1.heap.push (seqObj "list" acc.toArray 0) }) hoL hS.keysOf (fun v₁ v₂ rest e => keyKind_strs (by rw [← e]; exact hS)) (by rw [hal]; exact h64) fun st' hp hs => ⟨_, rfl, ?_⟩)
    (PyProof.Rows.args_list_sort _)))
  obtain ⟨ys, g1, g2, g3⟩ := sorted_out_str hS hp hs
  obtain ⟨e', he'⟩ := PyProof.Rows.sortedHeap_at (vs := acc) (out := (arrOf st').map (·.2)) hoL
  have hlen : (ys.map V.str).length ≤ sizeLine := by
    rw [List.length_map, g2.length_eq]
    exact Nat.le_trans (Nat.le_of_lt h64) (by decide)
  refine wpAny_pure ⟨_, rfl, .ref s1.heap.objs.size, upd H s1.heap.objs.size (.lst (ys.map V.str)), I1.laid (t' := s1.toks) (fun b u e => ?_) (Nat.le_refl _)
    (show ObjOk X.prog X.w _ _ _ (.lst (ys.map V.str)) from ⟨hlen, ((arrOf st').map (·.2)).toList, e', vals_of_strs g1, by rw [Array.toArray_toList]; exact he'⟩), rfl, q ys _ g2 g3 (I1.hok.fresh (Nat.le_refl _))⟩
  have hb : b < s1.heap.objs.size := Heap.lt_size e
  rw [PyProof.Rows.sortedHeap_old (Nat.ne_of_lt hb) (by rw [size_push']; exact Nat.lt_succ_of_lt hb)]
  exact Heap.get?_push_of_some _ e
theorem strs_map_rep {K : PySem.W.Frag} {μ : Adrs} {H : Hp} : ∀ l : List Tx, Reps K μ H ((l.map toStr).map V.str) (l.map D.str)
  | [] => .nil
  | x :: r => .cons (.str x) (strs_map_rep r)
theorem ofTo_map (l : List Tx) : (l.map toStr).map ofStr = l := by
  induction l with
  | nil => rfl
  | cons x r ih => rw [List.map_cons, List.map_cons, ih, ofStr_toStr]
theorem chars_strs {x : Str} {acc : List Value} (h : acc.length = x.cps.size) (g : ∀ j v, acc[j]? = some v → SignAt x j v) : StrsAre acc ((ofStr x).map fun c => toStr [c]) := by
  refine L2.strs_at (by simp [h, ofStr]) fun j v e => ?_
  obtain ⟨c, u, e1, e2⟩ := g j v e
  refine ⟨toStr [c], u, ?_, e2⟩
  rw [List.getElem?_map]
  have : (ofStr x)[j]? = some c := by rw [← e1]; simp [ofStr]
  rw [this]; rfl
theorem keys_kD {K : PySem.W.Frag} {μ : Adrs} {H : Hp} {es : List (Key × V)} {kvs : List (D × D)} (p : Paired (fun (e : Key × V) (p : D × D) => p.1 = kD e.1 ∧ Rep K μ H e.2 p.2) es kvs) : (es.map (·.1)).map kD = kvs.map (·.1) := by
  induction p with
  | nil => rfl
  | cons r t ih => simp only [List.map_cons, r.1]; rw [ih]
theorem cr_srt (hc : X.calm = true) : CallR X (.builtin "sorted") (fun vs H Q => rP X.K .srt vs H Q) := by
  intro pins s σ H vs us Q I rv ⟨W, μ0, H0, μ, st, xs, f, sr, r, n, p⟩
  replace p : Post X.K W μ0 H0 Q (p_srt xs st) := p
  have fin : ∀ {l : List Tx}, Post X.K W μ0 H0 Q (.ok (.tl ((sortTx l).map .str)) st) → ∀ (ys : List Str) (pp : Addr), ys.Perm (l.map toStr) → sortedS ys = true → H pp = none → Q (.ref pp) (upd H pp (.lst (ys.map V.str))) := fun {l} p ys pp h1 h2 hp => by
    have e := sortedS_eq h1 h2
    rw [ofTo_map] at e
    rw [e]
    exact p.lst f sr (strs_map_rep _) pp hp
  unfold p_srt at p
  split at p
  · rename_i t
    split at p
    · rename_i hl
      cases r with
      | cons r1 r2 =>
        cases r2
        cases Rep.str' r1
        obtain ⟨u, rfl, ru⟩ := L2.vals1 rv
        obtain ⟨tk, rfl⟩ := (show ∃ t', u = Value.str (toStr t) t' from ru)
        refine sorted_txts (H := H) (ks := (t.map fun c => [c]).map toStr) (by simpa using hl) (fun R E' k => ?_) (fin p)
        refine wpAny_collect_str (A := X.A.in1) (I.ok.hd hc) (toStr t) tk (fun s' acc hk hg hd ho ⟨ha, hb⟩ => ?_) (by simp [toStr, sizeLine_eq]; omega)
        have I1 : L2.Inv X pins σ H s' := by
          obtain ⟨h', g', d', tk', os'⟩ := s'
          cases hg; cases hd; cases ho
          exact I.kept hk
        refine k s' acc.toList I1 ?_
        have := chars_strs (x := toStr t) (acc := acc.toList) (by simpa using ha) (fun j v e => hb j v (by rw [← Array.getElem?_toList]; exact e))
        rw [ofStr_toStr] at this
        rw [List.map_map]
        exact this
    · exact p.elim
  · rename_i a _
    cases r with
    | @cons v _ _ _ r1 r2 =>
      cases r2
      split at p
      · rename_i ds e
        cases et : txsOf ds with
        | none => rw [et] at p; exact p.elim
        | some ts =>
          rw [et] at p
          dsimp only at p
          split at p
          · rename_i hl
            obtain ⟨pa, ws, rfl, h1, q1⟩ := seq_of sr r1 e
            obtain ⟨rfl, _⟩ := txs_of q1 et
            rcases h1 with h1 | h1
            · exact cr_sortedS pins s σ H _ us Q I rv ⟨pa, ts.map toStr, rfl, h1, by simpa using hl, fin p⟩
            · obtain ⟨u, rfl, ru⟩ := L2.vals1 rv
              cases ru
              obtain ⟨its, rv', pl, hz⟩ := I.tuple h1
              have hlen := rv'.length
              obtain ⟨o, ho, hcl, k, hd⟩ := pl
              refine sorted_txts (H := H) (ks := ts.map toStr) (by simpa using hl) (fun R E' kk => ?_) (fin p)
              refine wpAny_collect_seq pa (.inr rfl) ho hcl hd (fun h' hk => ?_) (by simp only [List.size_toArray] <;> omega)
              exact kk _ _ (I.kept hk) (Vals.strs rv')
          · exact p.elim
      · split at p
        · rename_i kvs e
          cases et : txsOf (kvs.map (·.1)) with
          | none => rw [et] at p; exact p.elim
          | some ts =>
            rw [et] at p
            dsimp only at p
            split at p
            · rename_i hl
              obtain ⟨pa, rfl, dr⟩ := dct_of sr r1 e
              have key : ∀ {es : List (Key × V)}, Paired (fun (e : Key × V) (p : D × D) => p.1 = kD e.1 ∧ Rep X.K μ H e.2 p.2) es kvs → es.map (·.1) = (ts.map toStr).map Sum.inr := fun {es} q => by
                obtain ⟨_, e2⟩ := txs_of (keys_rep q) et
                have e3 : (es.map (·.1)).map kD = ((ts.map toStr).map Sum.inr).map kD := by
                  have : (es.map (·.1)).map kD = kvs.map (·.1) := by
                    exact keys_kD q
                  rw [this, e2, List.map_map, List.map_map]
                  refine List.map_congr_left fun x _ => ?_
                  show D.str x = D.str (ofStr (toStr x))
                  rw [ofStr_toStr]
                exact kDs_inj e3
              rcases dr with ⟨es, h, q⟩ | ⟨es, h, q⟩
              · exact call_sortedD hc pins s σ H _ us Q I rv ⟨pa, es, ts.map toStr, rfl, .inl h, key q, by simpa using hl, fin p⟩
              · have hk : flatKeys kvs = true := by
                  have : ∀ (l : List (D × D)) (ts : List Tx), txsOf (l.map (·.1)) = some ts → flatKeys l = true := fun l => by
                    induction l with
                    | nil => intro _ _; rfl
                    | cons y l ih =>
                      intro ts h
                      obtain ⟨k, x⟩ := y
                      cases k with
                      | str z =>
                        simp only [List.map_cons, txsOf, Option.map_eq_some_iff] at h
                        obtain ⟨_, h, _⟩ := h
                        simp only [flatKeys, List.all_cons, Bool.and_eq_true]
                        exact ⟨rfl, ih _ h⟩
                      | _ => simp [txsOf] at h
                  exact this _ _ et
                obtain ⟨rfl, rfl⟩ := flat_tup q hk
                cases et
                cases a with
                | v d =>
                  cases d with
                  | ref m =>
                    obtain ⟨ad, e1, hm⟩ := (show Rep X.K μ H (.ref pa) (.ref m) from r1).ref'
                    cases e1
                    obtain ⟨f', sr'⟩ := nil_rep (ho := .dK []) sr hm (getK_some e) (.inl ⟨[], upd_same, .nil⟩)
                    refine call_sortedD hc pins s σ _ _ us Q (conv_K I h) rv ⟨pa, [], [], rfl, .inl upd_same, rfl, by decide, fun ys pp h1 h2 hp => ?_⟩
                    cases h1.eq_nil
                    exact p.lst (f.trans f') sr' .nil pp hp
                  | _ => cases e
                | tl _ => cases e
                | td es' =>
                  obtain ⟨pa', es2, e1, _, h2, _⟩ := r1
                  cases e1
                  rw [h] at h2; cases h2
            · exact p.elim
        · exact p.elim
  · exact p.elim
end
end PM
end
section
/-! PM12: dict of pairs. -/
namespace PM
open PySem PySem.Spec PyProof.Rows L2
/-- entries of a dict by values -/
abbrev KRep (K : PySem.W.Frag) (μ : Adrs) (H : Hp) (es : List (Key × V)) (kvs : List (D × D)) : Prop := Paired (fun (e : Key × V) (p : D × D) => p.1 = kD e.1 ∧ Rep K μ H e.2 p.2) es kvs
abbrev TRep (K : PySem.W.Frag) (μ : Adrs) (H : Hp) (es : List (List Key × V)) (kvs : List (D × D)) : Prop := Paired (fun (e : List Key × V) (p : D × D) => p.1 = .tup (e.1.map kD) ∧ Rep K μ H e.2 p.2) es kvs
section
variable {K : PySem.W.Frag} {μ : Adrs} {H : Hp}
theorem pair_app {α β : Type} {F : α → β → Prop} : ∀ {l : List α} {m : List β} {l' : List α} {m' : List β}, Paired F l m → Paired F l' m' → Paired F (l ++ l') (m ++ m')
  | _, _, _, _, .nil, q => q
  | _, _, _, _, .cons r t, q => .cons r (pair_app t q)
theorem put_gen {κ : Type} [DecidableEq κ] {g : κ → D} (inj : ∀ a b, g a = g b → a = b) {es : List (κ × V)} {kvs : List (D × D)} (p : Paired (fun (e : κ × V) (q : D × D) => q.1 = g e.1 ∧ Rep K μ H e.2 q.2) es kvs) {k : κ} {v : V} {d : D} (r : Rep K μ H v d) :
    Paired (fun (e : κ × V) (q : D × D) => q.1 = g e.1 ∧ Rep K μ H e.2 q.2) (putK es k v) (putD kvs (g k) d) := by
  have e1 : (kvs.any fun q => decide (q.1 = g k)) = es.any fun e => decide (e.1 = k) := by
    induction p with
    | nil => rfl
    | @cons e q _ _ h t ih =>
      rw [List.any_cons, List.any_cons, ih, h.1]
      congr 1
      by_cases z : e.1 = k
      · simp [z]
      · have : ¬ g e.1 = g k := fun y => z (inj _ _ y)
        simp [z, this]
  unfold putK putD
  rw [e1]
  split
  · clear e1
    rename_i h
    clear h
    induction p with
    | nil => exact .nil
    | @cons e q _ _ h t ih =>
      rw [List.map_cons, List.map_cons]
      refine .cons ?_ ih
      by_cases z : e.1 = k
      · rw [if_pos z, if_pos (by rw [h.1, z])]
        exact ⟨h.1, r⟩
      · rw [if_neg z, if_neg (fun y => z (inj _ _ (h.1.symm.trans y)))]
        exact h
  · exact pair_app p (.cons ⟨rfl, r⟩ .nil)
theorem KRep.put {es : List (Key × V)} {kvs : List (D × D)} (p : KRep K μ H es kvs) {k : Key} {v : V} {d : D} (r : Rep K μ H v d) : KRep K μ H (putK es k v) (putD kvs (kD k) d) :=
  put_gen (fun _ _ => kD_inj) p r
theorem TRep.put {es : List (List Key × V)} {kvs : List (D × D)} (p : TRep K μ H es kvs) {k : List Key} {v : V} {d : D} (r : Rep K μ H v d) : TRep K μ H (putK es k v) (putD kvs (.tup (k.map kD)) d) :=
  put_gen (g := fun k => D.tup (k.map kD)) (fun _ _ h => kDs_inj (D.tup.inj h)) p r
theorem KRep.merge {more : List (Key × V)} {mvs : List (D × D)} (q : KRep K μ H more mvs) : ∀ {es : List (Key × V)} {kvs : List (D × D)}, KRep K μ H es kvs → KRep K μ H (mergeK es more) (mergeD kvs mvs) := by
  induction q with
  | nil => intro es kvs p; exact p
  | @cons e x _ _ h t ih =>
    intro es kvs p
    unfold mergeD
    rw [h.1]
    exact ih (p.put h.2)
/-- a sequence of pairs -/
theorem pairs_rep : ∀ {vs : List V} {ds : List D} {ps : List (D × D)}, Reps K μ H vs ds → pairsOf ds = some ps → flatKeys ps = true →
    ∃ (as : List Addr) (kvs : List (Key × V)), vs = as.map V.ref ∧ Paired (fun p (kv : Key × V) => SqT K H p [kV kv.1, kv.2]) as kvs ∧ KRep K μ H kvs ps
  | _, _, ps, .nil, e, _ => by cases e; exact ⟨[], [], rfl, .nil, .nil⟩
  | _, _, ps, .cons (d := d) (ds := ds) r t, e, hf => by
    unfold pairsOf at e
    split at e
    · rename_i h; cases h
    · rename_i k v r' h
      cases h
      simp only [Option.map_eq_some_iff] at e
      obtain ⟨ps', e, rfl⟩ := e
      simp only [flatKeys, List.all_cons, Bool.and_eq_true] at hf
      obtain ⟨as, kvs, rfl, p1, p2⟩ := pairs_rep t e hf.2
      obtain ⟨a, ws, rfl, ha, q⟩ := Rep.tup' r
      cases q with
      | cons rk q =>
        cases q with
        | cons rv q =>
          cases q
          obtain ⟨kk, rfl, rfl⟩ := rk.key hf.1
          exact ⟨a :: as, (kk, _) :: kvs, rfl, .cons (SqT.of ha) p1, .cons ⟨rfl, rv⟩ p2⟩
    · cases e
end
section
variable {X : Cx}
theorem pairItems_of {pins : List (Addr × Obj)} {σ : LSt} {H : Hp} {s : Shared} (I : L2.Inv X pins σ H s) : ∀ {as : List Addr} {kvs : List (Key × V)}, Paired (fun p (kv : Key × V) => SqT X.K H p [kV kv.1, kv.2]) as kvs →
    ∃ (ps : List (Value × Value)) (prs : List (Key × Value)), KV kvs prs ∧ ps.length = as.length ∧ prs.length = as.length ∧ ∀ (j : Nat) k v, ps[j]? = some (k, v) → (∃ (b : Addr), as[j]? = some b ∧ PairAt s.heap b k v) ∧ ∃ kk, prs[j]? = some (kk, v) ∧ (mixKind X.prog X.w).is kk k = true
  | _, _, .nil => ⟨[], [], .nil, rfl, rfl, fun j k v e => by simp at e⟩
  | _, _, .cons (a := p) (b := kv) h t => by
    obtain ⟨ps, prs, r, hl, hl2, hp⟩ := pairItems_of I t
    obtain ⟨its, rv, ht, _⟩ := I.tuple h
    obtain ⟨u, y, ei, ru, ry⟩ := L2.vals2 rv
    subst ei
    refine ⟨(u, y) :: ps, (kv.1, y) :: prs, .cons ⟨rfl, ry⟩ r, by simp [hl], by simp [hl2], fun j k v e => ?_⟩
    cases j with
    | zero =>
      have e' : (u, y) = (k, v) := Option.some.inj e
      cases e'
      exact ⟨⟨p, rfl, .inl ht⟩, kv.1, rfl, kV_is (P := X.prog) (w := X.w) ru⟩
    | succ j =>
      obtain ⟨⟨b, e1, e2⟩, kk, e3, e4⟩ := hp j k v (by simpa using e)
      exact ⟨⟨b, by simpa using e1, e2⟩, kk, by simpa using e3, e4⟩
theorem call_dict_tup (hc : X.calm = true) {a : Addr} {as : List Addr} {kvs : List (Key × V)} {pins : List (Addr × Obj)} {s : Shared} {σ : LSt} {H : Hp} {Q : VK} (I : L2.Inv X pins σ H s) (hz : as.length ≤ sizeLine)
    (ha : PlainSeq "tuple" s.heap a (as.map Value.ref).toArray) (hp : Paired (fun p (kv : Key × V) => SqT X.K H p [kV kv.1, kv.2]) as kvs)
    (q : ∀ p, H p = none → Q (.ref p) (upd H p (.dK (mergeK [] kvs)))) : wpAny (model X.prog X.w) X.A (PySem.call (.type "dict") [.ref a]) (EP X pins σ Q) X.xe s := by
  obtain ⟨ps, prs, rel, hl, hl2, hpr⟩ := pairItems_of I hp
  have hit : PairItems s.heap (as.map Value.ref).toArray (fun j => as.getD j 0) ps := by
    refine ⟨by simp [hl], fun j k v e => ?_⟩
    obtain ⟨⟨b, e1, e2⟩, _⟩ := hpr j k v e
    have eb : as.getD j 0 = b := by rw [List.getD_eq_getElem?_getD, e1]; rfl
    show _ = some (Value.ref (as.getD j 0)) ∧ PairAt s.heap (as.getD j 0) k v
    rw [eb]
    exact ⟨by simp [e1], e2⟩
  refine PySem.call_dict_pairs (knd := mixKind X.prog X.w) (kvs := prs) (PairArg.tuple a (as.map Value.ref).toArray (fun j => as.getD j 0) ps) (I.ok.hd hc) ⟨ha, hit⟩ ⟨by rw [hl, hl2], fun i key v e => (hpr i key v e).2⟩ (by rw [hl]; exact hz) fun h' tk hd' k => ?_
  have hm : (s.heap.objs.size == sysModules) = false := beq_eq_false_iff_ne.mpr (Nat.ne_of_gt I.big)
  have hlen : (mergeK [] kvs).length ≤ sizeLine := by
    refine Nat.le_trans (length_mergeK kvs []) ?_
    rw [List.length_nil, Nat.zero_add, rel.length, hl2]
    exact hz
  exact ⟨.ref s.heap.objs.size, upd H s.heap.objs.size (.dK (mergeK [] kvs)), I.laid (t' := tk) (fun b o e => k b o (by simp) e) (Nat.le_refl _) (show ObjOk X.prog X.w _ _ _ (.dK (mergeK [] kvs)) from ⟨hlen, hm, merged [] prs, KV.merge rel .nil, hd'⟩), rfl, q _ (I.hok.fresh (Nat.le_refl _))⟩
theorem KT.plain {μ : Adrs} {as : List Addr} {a : Addr} {pins : List (Addr × Obj)} {s : Shared} {σ : LSt} {H : Hp} (I : L2.Inv X pins σ H s) (h : KT X.K μ H a (as.map V.ref)) : as.length ≤ sizeLine ∧ PlainSeq "tuple" s.heap a (as.map Value.ref).toArray := by
  rcases h with ⟨o, h, hd, _⟩ | ⟨o, its, n, h1, h2, h3, h4, h5, h6⟩
  · obtain ⟨e1, z, its, rv, ⟨o', e2, hc, n, hdat⟩⟩ := I.hok a _ h
    rw [e1] at e2; cases e2
    have := refs_at rv
    subst this
    exact ⟨by simpa using z, o, n, e1, hc, hd, hdat⟩
  · have := refs_at h6
    have e : its = (as.map Value.ref).toArray := by rw [← this]
    subst e
    exact ⟨by simpa using h5, o, n, I.kIn a o h1, h2, h3, h4⟩
theorem Post.td {K : PySem.W.Frag} {W : WM} {μ0 μ : Adrs} {H0 H : Hp} {st : PM.St} {Q : VK} {es : List (Key × V)} {kvs : List (D × D)} (p : Post K W μ0 H0 Q (.ok (.td kvs) st)) (f : Fr μ0 H0 μ H) (s : SRep K μ H st) (r : KRep K μ H es kvs) : ∀ q, H q = none → Q (.ref q) (upd H q (.dK es)) := fun q hq =>
  have g := Fr.new (o := .dK es) hq (s.notin hq)
  p (.ref q) μ _ (f.trans g) (s.laid hq) ⟨q, es, rfl, s.notin hq, upd_same, Paired.imp (fun _ _ z => ⟨z.1, z.2.fr g⟩) r⟩ (New.at (f.some q hq))
theorem cr_dct (hc : X.calm = true) : CallR X (.type "dict") (fun vs H Q => rP X.K .dct vs H Q) := by
  intro pins s σ H vs us Q I rv ⟨W, μ0, H0, μ, st, xs, f, sr, r, n, p⟩
  replace p : Post X.K W μ0 H0 Q (p_dct xs st) := p
  unfold p_dct at p
  split at p
  · rename_i a
    cases r with
    | @cons v _ _ _ r1 r2 =>
      cases r2
      split at p
      · rename_i ds e
        cases ep : pairsOf ds with
        | none => rw [ep] at p; exact p.elim
        | some ps =>
          rw [ep] at p
          dsimp only at p
          split at p
          · rename_i hf
            unfold dctSrc at e
            split at e
            · cases e
              cases (show Rep X.K μ H v (.ktp _) from r1) with
              | ktp h q =>
                obtain ⟨as, kvs, rfl, p1, p2⟩ := pairs_rep q ep hf
                obtain ⟨u, rfl, ru⟩ := L2.vals1 rv
                cases ru
                obtain ⟨hz, pl⟩ := KT.plain I h
                exact call_dict_tup hc I hz pl p1 (p.td f sr (KRep.merge p2 .nil))
            · obtain ⟨pa, ws, rfl, h1, q1⟩ := lst_of sr r1 e
              obtain ⟨as, kvs, rfl, p1, p2⟩ := pairs_rep q1 ep hf
              exact call_dictP hc pins s σ H _ us Q I rv ⟨pa, as, kvs, rfl, h1, p1, p.td f sr (KRep.merge p2 .nil)⟩
          · exact p.elim
      · split at p
        · rename_i kvs e
          split at p
          · rename_i hk
            obtain ⟨pa, rfl, dr⟩ := dct_of sr r1 e
            rcases dr with ⟨es, h, q⟩ | ⟨es, h, q⟩
            · exact call_dictD pins s σ H _ us Q I rv ⟨pa, es, rfl, .inl h, p.td f sr q⟩
            · obtain ⟨rfl, rfl⟩ := flat_tup q hk
              cases a with
              | v d =>
                cases d with
                | ref m =>
                  obtain ⟨ad, e1, hm⟩ := (show Rep X.K μ H (.ref pa) (.ref m) from r1).ref'
                  cases e1
                  obtain ⟨f', sr'⟩ := nil_rep (ho := .dK []) sr hm (getK_some e) (.inl ⟨[], upd_same, .nil⟩)
                  exact call_dictD pins s σ _ _ us Q (conv_K I h) rv ⟨pa, [], rfl, .inl upd_same, p.td (f.trans f') sr' .nil⟩
                | _ => cases e
              | tl _ => cases e
              | td es' =>
                obtain ⟨pa', es2, e1, _, h2, _⟩ := r1
                cases e1
                rw [h] at h2; cases h2
          · exact p.elim
        · exact p.elim
  · exact p.elim
end
end PM
end
section
/-! PM13: displays of dicts. -/
namespace PM
open PySem PySem.Spec PyProof.Rows L2

def keyOf : D → Key
  | .int i => .inl i
  | .str s => .inr (toStr s)
  | _ => .inl 0
theorem kD_keyOf {d : D} (h : keyK d = true) : kD (keyOf d) = d := by
  cases d <;> first | rfl | (simp [keyK] at h; done)
theorem Rep.keyOf {K : PySem.W.Frag} {μ : Adrs} {H : Hp} {v : V} {d : D} (r : Rep K μ H v d) (h : keyK d = true) : v = kV (keyOf d) := by
  obtain ⟨k, rfl, rfl⟩ := r.key h
  cases k with
  | inl i => rfl
  | inr x => simp [PM.keyOf, kD, kV, toStr_ofStr]
theorem keyR_ok {x : A} {st st' : PM.St} {d : D} (h : keyR x st = .ok d st') : st' = st ∧ x = .v d ∧ keyK d = true := by
  unfold keyR at h
  split at h
  · split at h
    · rename_i hk; cases h; exact ⟨rfl, rfl, hk⟩
    · cases h
  · cases h
theorem keyR_ex {x : A} {st st' : PM.St} {n : Nat} {ds : List D} : keyR x st ≠ .ex n ds st' := by
  unfold keyR; split
  · split <;> intro h <;> cases h
  · intro h; cases h
/-- the pairs -/
def ents (ps : List (D × A)) (vs : List V) : List (Key × V) := (ps.map fun q => keyOf q.1).zip vs
inductive SndKV (F : FT) (W : WS) (X : Cx) : List (Option Expr) → List Expr → Es → Prop
  | nil : SndKV F W X [] [] .nil
  | cons {k v : Expr} {mk mv : E} {ks : List (Option Expr)} {vs : List Expr} {m : Es} : Snd F W X k mk → Snd F W X v mv → SndKV F W X ks vs m → SndKV F W X (some k :: ks) (v :: vs) (.cons mk (.cons mv m))
theorem SndKV.shape {F : FT} {W : WS} {X : Cx} {ks : List (Option Expr)} {vs : List Expr} {m : Es} (h : SndKV F W X ks vs m) : ks.all (·.isSome) = true ∧ ks.length = vs.length := by
  induction h with
  | nil => exact ⟨rfl, rfl⟩
  | cons _ _ _ ih => exact ⟨by rw [List.all_cons, ih.1]; rfl, by simp [ih.2]⟩
theorem evDs_len {F : FT} {ρ : Env} {X : Cx} {W : WS} {ks : List (Option Expr)} {vs : List Expr} {m : Es} (h : SndKV F W X ks vs m) : ∀ {st st1 : PM.St} {ps : List (D × A)}, evDs F m ρ st = .ok ps st1 → ps.length = ks.length ∧ ∀ p ∈ ps, keyK p.1 = true := by
  induction h with
  | nil => intro st st1 ps e; cases e; exact ⟨rfl, fun p hp => by cases hp⟩
  | @cons k v mk mv ks vs m _ _ _ ih =>
    intro st st1 ps e
    unfold evDs at e
    cases e1 : evE F mk ρ st with
    | no => rw [e1] at e; cases e
    | ex _ _ _ => rw [e1] at e; cases e
    | ok x st2 =>
      rw [e1, R.bind_ok] at e
      cases e2 : keyR x st2 with
      | no => rw [e2] at e; cases e
      | ex _ _ _ => rw [e2] at e; cases e
      | ok d st3 =>
        rw [e2, R.bind_ok] at e
        obtain ⟨_, _, hk⟩ := keyR_ok e2
        cases e3 : evE F mv ρ st3 with
        | no => rw [e3] at e; cases e
        | ex _ _ _ => rw [e3] at e; cases e
        | ok y st4 =>
          rw [e3, R.bind_ok] at e
          cases e4 : evDs F m ρ st4 with
          | no => rw [e4] at e; cases e
          | ex _ _ _ => rw [e4] at e; cases e
          | ok qs st5 =>
            rw [e4, R.bind_ok] at e
            cases e
            obtain ⟨h1, h2⟩ := ih e4
            refine ⟨by simp [h1], fun p hp => ?_⟩
            rcases List.mem_cons.mp hp with rfl | hp
            · exact hk
            · exact h2 p hp
/-! ### up to 15: all are made, then stored -/
def PostD (K : PySem.W.Frag) (W : WM) (μ : Adrs) (H : Hp) (Q : List (Key × V) → Hp → Prop) : R (List (D × A)) → Prop
  | .ok ps st => ∀ vs μ' H', Fr μ H μ' H' → SRep K μ' H' st → ARs K μ' H' vs (ps.map (·.2)) → NewL H vs (ps.map (·.2)) → Q (ents ps vs) H'
  | .ex c ds st => ∀ μ' H', Fr μ H μ' H' → SRep K μ' H' st → W c ds st μ' H'
  | .no => False
section
variable {F : FT} {W : WS} {X : Cx} {pos : Pos}
theorem PostD.exW {K : PySem.W.Frag} {W : WM} {μ μ0 : Adrs} {H H0 : Hp} {Q : List (Key × V) → Hp → Prop} (f : Fr μ0 H0 μ H) : ∀ c ds st1, PostD K W μ0 H0 Q (.ex c ds st1) → ∀ μ1 H1, Fr μ H μ1 H1 → SRep K μ1 H1 st1 → W c ds st1 μ1 H1 :=
  fun c ds st1 h μ1 H1 g s => h μ1 H1 (f.trans g) s
theorem PostD.noW {K : PySem.W.Frag} {W : WM} {μ0 : Adrs} {H0 : Hp} {Q : List (Key × V) → Hp → Prop} : ¬ PostD K W μ0 H0 Q .no := fun h => h
theorem NewL.drop {μ μ' : Adrs} {H H' : Hp} {vs : List V} {xs : List A} (f : Fr μ H μ' H') (n : NewL H' vs xs) : NewL H vs xs := ⟨n.1, fun p hp => f.some p (n.2 p hp)⟩
theorem pps_of {ks : List (Option Expr)} {vs : List Expr} {m : Es} (h : SndKV F W X ks vs m) : ∃ trs, PPs X pos ks vs trs ∧ ∀ ρ σ st μ H (Q : List (Key × V) → Hp → Prop) (Qc : List (V × V) → Hp → Prop), ERep X.K μ H ρ σ → SRep X.K μ H st → PostD X.K (W ρ σ) μ H Q (evDs F m ρ st) →
    (∀ (es : List (Key × V)) H', Q es H' → Qc (es.map fun kv => (kV kv.1, kv.2)) H') → tPairs trs σ H Qc := by
  induction h with
  | nil => exact ⟨[], pps_nil, fun ρ σ st μ H Q Qc er sr p k => k [] H (p [] μ H (Fr.refl _ _) sr .nil NewL.nil')⟩
  | @cons k v mk mv ks vs m hk hv _ ih =>
    obtain ⟨trs, hp, ih⟩ := ih
    refine ⟨(tM F X.K W mk, tM F X.K W mv) :: trs, pps_cons hk.pe hv.pe hp, fun ρ σ st μ H Q Qc er sr p kc => ?_⟩
    unfold evDs at p
    obtain ⟨ρ1, st1, μ1, e1, s1, p1⟩ := tM.step (W := W) er sr (PostD.exW (Fr.refl _ _)) PostD.noW p
    refine ⟨ρ1, st1, μ1, e1, s1, p1.mono fun vk H1 ⟨x, st2, μ2, f2, s2, r2, n2, h2⟩ => ?_⟩
    obtain ⟨d, ed, h3⟩ := chk_ok (fun a st' e => (keyR_ok e).1) (fun _ _ _ => keyR_ex) PostD.noW h2
    clear h2
    obtain ⟨_, rfl, hkey⟩ := keyR_ok ed
    obtain ⟨ρ3, st3, μ3, e3, s3, p3⟩ := tM.step (W := W) (er.fr f2) s2 (PostD.exW f2) PostD.noW h3
    refine ⟨ρ3, st3, μ3, e3, s3, p3.mono fun vv H2 ⟨y, st4, μ4, f4, s4, r4, n4, h4⟩ => ?_⟩
    have F4 := f2.trans f4
    refine ih ρ σ st4 μ4 H2 (fun es H' => Q ((keyOf d, vv) :: es) H') _ (er.fr F4) s4 ?_ (fun es H' q => ?_)
    · cases q : evDs F m ρ st4 with
      | no => rw [q] at h4; exact h4.elim
      | ex c ds st5 => rw [q] at h4; exact fun μ' H' g s => h4 μ' H' (F4.trans g) s
      | ok qs st5 =>
        rw [q, R.bind_ok] at h4
        intro us μ5 H5 f5 s5 r5 n5
        exact h4 (vv :: us) μ5 H5 (F4.trans f5) s5 (.cons (r4.fr f5) r5) (NewL.drop f2 (NewL.cons f4 s4 r4 n4 n5))
    · have := kc _ H' q
      rw [List.map_cons, ← Rep.keyOf (show Rep X.K μ2 H1 vk d from r2) hkey] at this
      exact this
/-- the dict under way is filled -/
theorem Fr.refill {μ μ' : Adrs} {H H' : Hp} {p : Addr} {o : HO} (f : Fr μ H μ' H') (hp : H p = none) : Fr μ H μ' (upd H' p o) :=
  ⟨f.pre, fun b q h n => by rw [upd_ne (ne_of_none h hp)]; exact f.keep b q h n, fun b h => by
    by_cases e : b = p
    · rw [e]; exact hp
    · rw [upd_ne e] at h; exact f.some b h⟩
theorem Fq.refillM {μ : Adrs} {H : Hp} {p : Addr} {o u : HO} (h : H p = some u) (m : Moves u) : Fq μ H μ (upd H p o) :=
  ⟨fun _ _ h => h, fun b q hb st n => by
    have : b ≠ p := fun e => by
      subst e; rw [h] at hb; cases hb
      exact m.notStill st
    rw [upd_ne this]; exact ⟨hb, n⟩⟩
theorem Fq.refill {μ : Adrs} {H : Hp} {p : Addr} {o : HO} {es : List (Key × V)} (h : H p = some (.dK es)) : Fq μ H μ (upd H p o) := Fq.refillM h (.inr (.inl ⟨_, rfl⟩))
theorem SRep.refillM {K : PySem.W.Frag} {μ : Adrs} {H : Hp} {p : Addr} {o u : HO} {st : PM.St} (S : SRep K μ H st) (h : H p = some u) (m : Moves u) (np : p ∉ μ) : SRep K μ (upd H p o) st :=
  ⟨S.len, S.nd, fun n x a h1 h2 => (S.obj n x a h1 h2).frq (Fq.refillM h m) (upd_ne fun e => np (e ▸ List.mem_of_getElem? h2))⟩
theorem SRep.refill {K : PySem.W.Frag} {μ : Adrs} {H : Hp} {p : Addr} {o : HO} {es : List (Key × V)} {st : PM.St} (S : SRep K μ H st) (h : H p = some (.dK es)) (np : p ∉ μ) : SRep K μ (upd H p o) st :=
  ⟨S.len, S.nd, fun n x a h1 h2 => (S.obj n x a h1 h2).frq (Fq.refill h) (upd_ne fun e => np (e ▸ List.mem_of_getElem? h2))⟩
theorem ents_rep {K : PySem.W.Frag} {μ : Adrs} {H : Hp} : ∀ {ps : List (D × A)} {vs : List V} {ds : List D}, (∀ p ∈ ps, keyK p.1 = true) → Reps K μ H vs ds → ps.length = ds.length → KRep K μ H (ents ps vs) ((ps.map (·.1)).zip ds)
  | [], _, _, _, .nil, _ => .nil
  | [], _, _, _, .cons _ _, h => by simp at h
  | _ :: _, _, _, _, .nil, h => by simp at h
  | p :: ps, _, _, hk, .cons r t, h => .cons ⟨(kD_keyOf (hk p List.mem_cons_self)).symm, r⟩ (ents_rep (fun q hq => hk q (List.mem_cons_of_mem _ hq)) t (by simpa using h))
theorem ents_len {ps : List (D × A)} {vs : List V} : (ents ps vs).length ≤ ps.length := by
  unfold ents; rw [List.length_zip, List.length_map]; exact Nat.min_le_left _ _
theorem mats_len : ∀ (xs : List A) (st : PM.St), (mats xs st).1.length = xs.length := by
  intro xs
  induction xs with
  | nil => intro st; rfl
  | cons x xs ih => intro st; simp [mats, ih]
/-- the last step of a display -/
theorem dsp_end {K : PySem.W.Frag} {W : WM} {μ μ' : Adrs} {H H' : Hp} {p : Addr} {Q : VK} {ps : List (D × A)} {st : PM.St} {vs : List V} {es0 : List (Key × V)} (hp : H p = none) (hk : ∀ p ∈ ps, keyK p.1 = true) (f : Fr μ H μ' H') (s : SRep K μ' H' st) (np : p ∉ μ')
    (r : ARs K μ' H' vs (ps.map (·.2))) (n : NewL H vs (ps.map (·.2))) (nt : p ∉ tmps vs (ps.map (·.2))) (h0 : H' p = some (.dK es0))
    (post : Post K W μ H Q (.ok (.td (mergeD [] ((ps.map (·.1)).zip (mats (ps.map (·.2)) st).1))) (mats (ps.map (·.2)) st).2)) : Q (.ref p) (upd H' p (.dK (mergeK [] (ents ps vs)))) := by
  obtain ⟨μ2, f2, s2, r2, q2, m2⟩ := mats_ok f s r n
  have np2 : p ∉ μ2 := fun hm => (m2 p hm).elim np nt
  have kr := KRep.merge (ents_rep hk r2 (by rw [mats_len, List.length_map])) .nil
  exact post (.ref p) μ2 _ (f2.refill hp) (s2.refill h0 np2) ⟨p, _, rfl, np2, upd_same, Paired.imp (fun _ _ z => ⟨z.1, z.2.frq (Fq.refill h0)⟩) kr⟩ (New.at hp)
theorem me_dsp15 {ks : List (Option Expr)} {vs : List Expr} {m : Es} (h : SndKV F W X ks vs m) (h0 : ks ≠ []) (h15 : ks.length ≤ 15) : Snd F W X (.Dict ks vs pos) (.dsp m) := by
  obtain ⟨trs, hp, k⟩ := pps_of (pos := pos) h
  have p : PE X (.Dict ks vs pos) (tM F X.K W (.dsp m)) := PE.imp (pe_disp hp h.shape.1 h.shape.2 h0 h15) fun σ H Q ⟨ρ, st, μ, er, sr, post⟩ => by
    unfold evE at post
    intro p hn
    have g := Fr.new (o := .dK []) hn (sr.notin hn)
    refine k ρ σ st μ _ (fun es H' => H' p = some (.dK []) ∧ es.length ≤ 15 ∧ Q (.ref p) (upd H' p (.dK (mergeK [] es)))) _ (er.fr g) (sr.laid hn) ?_ (fun es H' ⟨q1, q2, q3⟩ => ⟨q1, es, rfl, q2, q3⟩)
    cases q : evDs F m ρ st with
    | no => rw [q] at post; exact post.elim
    | ex c ds st1 => rw [q] at post; exact fun μ' H' f s => post μ' H' (g.trans f) s
    | ok ps st1 =>
      rw [q, R.bind_ok] at post
      obtain ⟨hl, hk⟩ := evDs_len h q
      rw [if_pos (by omega)] at post
      intro us μ' H' f s r n
      obtain ⟨e1, np⟩ := f.keep p _ upd_same (sr.notin hn)
      refine ⟨e1, Nat.le_trans ents_len (by omega), dsp_end hn hk (g.trans f) s np r (n.drop g) (fun hm => ?_) e1 post⟩
      have := n.2 p hm
      rw [upd_same] at this; cases this
  exact ⟨p, mt_val p fun _ => rfl⟩

/-! ### more: each is stored as it is made -/
def rm (H : Hp) (p : Addr) : Hp := fun b => if b = p then none else H b
section
variable {μ μ' : Adrs} {H H' : Hp} {p : Addr}
theorem rm_ne {b : Addr} (h : b ≠ p) : rm H p b = H b := if_neg h
theorem rm_same : rm H p p = none := if_pos rfl
theorem rm_some {b : Addr} {o : HO} (h : rm H p b = some o) : b ≠ p ∧ H b = some o := by
  by_cases e : b = p
  · subst e; rw [rm_same] at h; cases h
  · exact ⟨e, (rm_ne (H := H) e).symm.trans h⟩
theorem Fr.rm : Fr μ (PM.rm H p) μ H := ⟨fun _ _ h => h, fun b o h n => ⟨(rm_some h).2, n⟩, fun b h => by
  by_cases e : b = p
  · subst e; exact rm_same
  · rw [rm_ne e]; exact h⟩
theorem Fr.rm2 (f : Fr μ H μ' H') : Fr μ (PM.rm H p) μ' (PM.rm H' p) := ⟨f.pre, fun b o h n => by
  obtain ⟨h1, h2⟩ := rm_some h
  rw [rm_ne h1]; exact f.keep b o h2 n, fun b h => by
  by_cases e : b = p
  · subst e; exact rm_same
  · rw [rm_ne e] at h ⊢; exact f.some b h⟩
theorem rm_upd {o : HO} : PM.rm (upd H p o) p = PM.rm H p := by
  funext b
  by_cases e : b = p
  · subst e; rw [rm_same, rm_same]
  · rw [rm_ne e, rm_ne e, upd_ne e]
theorem rm_none (h : H p = none) : PM.rm H p = H := by
  funext b
  by_cases e : b = p
  · subst e; rw [rm_same, h]
  · rw [rm_ne e]
theorem Fq.rm {es : List (Key × V)} (h : H p = some (.dK es)) : Fq μ H μ (PM.rm H p) := ⟨fun _ _ h => h, fun b o hb st n => by
  have : b ≠ p := fun e => by
    subst e; rw [h] at hb; cases hb
    rcases st with ⟨_, z⟩ | ⟨_, _, z⟩ <;> cases z
  exact ⟨by rw [rm_ne this]; exact hb, n⟩⟩
theorem SRep.rm {K : PySem.W.Frag} {st : PM.St} {es : List (Key × V)} (S : SRep K μ H st) (h : H p = some (.dK es)) (np : p ∉ μ) : SRep K μ (PM.rm H p) st :=
  ⟨S.len, S.nd, fun n x a h1 h2 => (S.obj n x a h1 h2).frq (Fq.rm h) (rm_ne fun e => np (e ▸ List.mem_of_getElem? h2))⟩
theorem ARep.rm {K : PySem.W.Frag} {es : List (Key × V)} {v : V} {x : A} (r : ARep K μ H v x) (h : H p = some (.dK es)) (nt : ∀ a, tmp v x = some a → a ≠ p) : ARep K μ (PM.rm H p) v x := by
  cases x with
  | v d => exact Rep.frq (Fq.rm h) r
  | tl ds =>
    obtain ⟨a, vs, rfl, ha, na, q⟩ := r
    exact ⟨a, vs, rfl, by rw [rm_ne (nt a rfl)]; exact ha, na, q.frq (Fq.rm h)⟩
  | td kvs =>
    obtain ⟨a, vs, rfl, na, ha, q⟩ := r
    exact ⟨a, vs, rfl, na, by rw [rm_ne (nt a rfl)]; exact ha, Paired.imp (fun _ _ z => ⟨z.1, z.2.frq (Fq.rm h)⟩) q⟩
end
def PostI (K : PySem.W.Frag) (W : WM) (p : Addr) (es : List (Key × V)) (μ : Adrs) (H : Hp) (Q : Hp → Prop) : R (List (D × A)) → Prop
  | .ok ps st => ∀ vs μ' H', Fr μ H μ' H' → SRep K μ' H' st → p ∉ μ' → ARs K μ' H' vs (ps.map (·.2)) → NewL H vs (ps.map (·.2)) → p ∉ tmps vs (ps.map (·.2)) → H' p = some (.dK (mergeK es (ents ps vs))) → Q H'
  | .ex c ds st => ∀ μ' H', Fr μ H μ' H' → SRep K μ' H' st → W c ds st μ' H'
  | .no => False
theorem PostI.exW {K : PySem.W.Frag} {W : WM} {p : Addr} {es : List (Key × V)} {μ μ0 : Adrs} {H H0 : Hp} {Q : Hp → Prop} (f : Fr μ0 H0 μ H) : ∀ c ds st1, PostI K W p es μ0 H0 Q (.ex c ds st1) → ∀ μ1 H1, Fr μ H μ1 H1 → SRep K μ1 H1 st1 → W c ds st1 μ1 H1 :=
  fun c ds st1 h μ1 H1 g s => h μ1 H1 (f.trans g) s
theorem PostI.noW {K : PySem.W.Frag} {W : WM} {p : Addr} {es : List (Key × V)} {μ0 : Adrs} {H0 : Hp} {Q : Hp → Prop} : ¬ PostI K W p es μ0 H0 Q .no := fun h => h
theorem il {ks : List (Option Expr)} {vs : List Expr} {m : Es} (h : SndKV F W X ks vs m) : ∀ {pins : List (Addr × Obj)} {p : Addr} {ρ : Env} {σ : LSt} {st : PM.St} {s : Shared} {μ : Adrs} {H : Hp} {es : List (Key × V)} (Q : Hp → Prop),
    L2.Inv X pins σ H s → ERep X.K μ (rm H p) ρ σ → H p = some (.dK es) → p ∉ μ → SRep X.K μ H st → es.length + ks.length ≤ 16 → PostI X.K (W ρ σ) p es μ (rm H p) Q (evDs F m ρ st) →
    wpAny (model X.prog X.w) X.A (forIn (pairTrees ks vs X.env pos) PUnit.unit fun (x : Sem Value × Sem Value) (_ : PUnit) => match x with | (k, v) => (do let kv ← k; let vv ← holding [kv] v; holding [kv, vv] (dictSet p kv vv); pure (ForInStep.yield PUnit.unit) : Sem (ForInStep PUnit)))
      (fun _ s' => ∃ H', L2.Inv X pins σ H' s' ∧ Q H') X.xe s := by
  induction h with
  | nil =>
    intro pins p ρ σ st s μ H es Q I er hp np sr hl post
    refine wpAny_pure ⟨H, I, ?_⟩
    exact post [] μ H Fr.rm sr np .nil NewL.nil' (by intro z; cases z) hp
  | @cons k v mk mv ks vs m hk hv _ ih =>
    intro pins p ρ σ st s μ H es Q I er hp np sr hl post
    unfold evDs at post
    show wpAny _ _ (forIn ((_, _) :: _) _ _) _ _ _
    rw [List.forIn_cons]
    refine wpAny_bind (wpAny_bind (thn (hk.pe.run pins s σ H _ I (tM.step (W := W) (er.fr Fr.rm) sr (PostI.exW Fr.rm) PostI.noW post)) fun kv s1 ⟨xk, H1, I1, rk, x, st2, μ2, f2, s2, r2, n2, h2⟩ => ?_))
    obtain ⟨d, ed, h3⟩ := chk_ok (fun a st' e => (keyR_ok e).1) (fun _ _ _ => keyR_ex) PostI.noW h2
    clear h2
    obtain ⟨_, rfl, hkey⟩ := keyR_ok ed
    refine wpAny_bind (wpAny_holding (wpAny_bind (thn (hv.pe.run pins s1 σ H1 _ I1 (tM.step (W := W) ((er.fr Fr.rm).fr f2) s2 (PostI.exW (Fr.rm.trans f2)) PostI.noW h3)) fun vv s3 ⟨xv, H2, I2, rv, y, st4, μ4, f4, s4, r4, n4, h4⟩ => wpAny_bind (wpAny_standAt (wpAny_pure ?_)))))
    have F4 := f2.trans f4
    obtain ⟨p4, np4⟩ := F4.keep p _ hp np
    obtain ⟨z, hd, ws, rel, dd⟩ := dk_of I2.hok p4
    have ek := Rep.keyOf (show Rep X.K μ2 H1 xk d from r2) hkey
    subst ek
    simp only [List.length_cons] at hl
    refine wpAny_bind (wpAny_holding (wpAny_dictSet_pairs (knd := mixKind X.prog X.w) (k := keyOf d) (hsz := by rw [← rel.length]; exact z) (kV_is rk) dd fun h' dd' hs => wpAny_pure ?_))
    have he : ∃ q, h'.get? p = some q := let ⟨q, _, _, hq, _⟩ := dd'; ⟨q, hq⟩
    have hl' := length_putK es (keyOf d) xv
    have I3 : L2.Inv X pins σ (upd H2 p (.dK (putK es (keyOf d) xv))) { s3 with heap := h', toks := s3.toks + 1 } :=
      d_write I2 (by rw [p4]; exact True.intro) hs he (dk_new (by rw [sizeLine_eq]; omega) hd (rel.put (keyOf d) rv) dd')
    have nt : ∀ a, tmp xv y = some a → a ≠ p := fun a ea e => by
      subst e
      have := n4 a ea
      have h1 := (f2.keep a _ hp np).1
      rw [this] at h1; cases h1
    refine ih (ρ := ρ) (st := st4) (μ := μ4) Q I3 ?_ upd_same np4 (s4.refill p4 np4) (by omega) ?_
    · rw [rm_upd]; exact er.fr (Fr.rm2 F4)
    · rw [rm_upd]
      cases q : evDs F m ρ st4 with
      | no => rw [q] at h4; exact h4.elim
      | ex c ds st5 => rw [q] at h4; exact fun μ' H' g s => h4 μ' H' ((Fr.rm2 F4).trans g) s
      | ok qs st5 =>
        rw [q, R.bind_ok] at h4
        intro us μ5 H5 f5 s5 np5 r5 n5 nt5 hp5
        have r4' : ARep X.K μ4 (rm H2 p) xv y := r4.rm p4 nt
        have F2 : Fr μ (rm H p) μ2 (rm H1 p) := Fr.rm2 f2
        have nl : NewL (rm H1 p) (xv :: us) (y :: qs.map (·.2)) := NewL.cons (Fr.rm2 f4) (s4.rm p4 np4) r4' (fun a ea => by rw [rm_ne (nt a ea)]; exact n4 a ea) n5
        refine h4 (xv :: us) μ5 H5 ((Fr.rm2 F4).trans f5) s5 np5 (.cons (r4'.fr f5) r5) (nl.drop F2) (fun hm => ?_) hp5
        have hm' : p ∈ tmps (xv :: us) (y :: qs.map (·.2)) := hm
        unfold tmps at hm'
        cases e : tmp xv y with
        | none => rw [e] at hm'; exact nt5 hm'
        | some a =>
          rw [e] at hm'
          rcases List.mem_cons.mp hm' with z | z
          · exact nt a e z.symm
          · exact nt5 z
end
end PM
end
section
/-! PM14: displays of 16. -/
namespace PM
open PySem PySem.Spec PyProof.Rows L2
section
variable {F : FT} {W : WS} {X : Cx} {pos : Pos}
theorem me_dsp16 {ks : List (Option Expr)} {vs : List Expr} {m : Es} (h : SndKV F W X ks vs m) (h16 : ks.length = 16) : Snd F W X (.Dict ks vs pos) (.dsp m) := by
  have sh := h.shape
  have hn := pairTrees_length ks vs X.env pos sh.1 sh.2
  have p : PE X (.Dict ks vs pos) (tM F X.K W (.dsp m)) := ⟨fun pins s σ H Q I ⟨ρ, st, μ, er, sr, post⟩ => by
    unfold evE at post
    rw [arm_eval_Dict, zip_pairTrees ks vs X.env pos sh.1 sh.2, dictDisplay_pairs _ (fun e => by rw [e] at hn; simp [h16] at hn) (by rw [hn]; omega)]
    have hf := I.hok.fresh (Nat.le_refl s.heap.objs.size)
    have I1 := I.laid (a := s.heap.objs.size) (o := .dK []) (h' := s.heap.push { cls := .type "dict", data := .dict #[] }) (t' := s.toks) (fun _ _ q => Heap.get?_push_of_some _ q) (Nat.le_refl _) (dk_empty s.heap I.big)
    refine wpAny_bind (wpAny_standAt (wpAny_bind ?_))
    unfold subDict
    refine wpAny_bind (wpAny_alloc ?_)
    refine wpAny_bind (wpAny_holding ?_)
    rw [if_neg (by rw [hn]; omega)]
    refine wpAny_bind (wpAny_rule ?_)
    have g := Fr.new (o := .dK []) hf (sr.notin hf)
    have hrm : rm (upd H s.heap.objs.size (.dK [])) s.heap.objs.size = H := by rw [rm_upd, rm_none hf]
    refine wpAny_bind (thn (il (p := s.heap.objs.size) (ρ := ρ) (st := st) (μ := μ) (es := []) h (fun H' => Q (.ref s.heap.objs.size) H') I1 (by rw [hrm]; exact er) upd_same (sr.notin hf) (sr.laid hf) (by simp [h16]) ?_) fun _ s1 ⟨H', I', q⟩ => ?_)
    · rw [hrm]
      cases q : evDs F m ρ st with
      | no => rw [q] at post; exact post.elim
      | ex c ds st1 => rw [q] at post; exact post
      | ok ps st1 =>
        rw [q, R.bind_ok] at post
        obtain ⟨hl, hk⟩ := evDs_len h q
        rw [if_pos (by omega)] at post
        intro us μ' H' f s' np r n nt e1
        have e2 := dsp_end hf hk f s' np r n nt e1 post
        have e3 : upd H' s.heap.objs.size (.dK (mergeK [] (ents ps us))) = H' := by
          funext b
          by_cases e : b = s.heap.objs.size
          · rw [e, upd_same, e1]
          · rw [upd_ne e]
        rw [e3] at e2
        exact e2
    · exact wpAny_pure (wpAny_pure (wpAny_pure ⟨.ref s.heap.objs.size, H', I', rfl, q⟩))⟩
  exact ⟨p, mt_val p fun _ => rfl⟩
end
end PM
end
section
/-! PM15: calls of built-in functions and types. -/
namespace PM
open PySem PySem.Spec PyProof.Rows L2
section
variable {F : FT} {W : WS} {X : Cx} {a b : Expr} {ma mb : E} {p pos : Pos} {f t : Str}
theorem me_bB {e : Expr} {es : List Expr} {ms : Es} {g : Fn} {id : String} (hc : CallR X (.builtin id) (fun vs H Q => rP X.K g vs H Q)) (hg : Gl X f) (hm : X.mg f = none) (hv : bootBuiltins f = some (.builtin id)) (ha : PA X (e :: es) (tMs F X.K W ms)) (hn : f ≠ "__name__") (hdb : (f == ("__debug__" : Str)) = false)
    (hs : isStarred e = false) (hpl : (backTo pos (starEach es X.env)).any (·.1) = false) : Snd F W X (.Call (.Name f p) (e :: es) [] pos) (.p g ms) := by
  have q : PE X (.Call (.Name f p) (e :: es) [] pos) (tM F X.K W (.p g ms)) := PE.imp (pe_callB hc hg hm hv ha hn hdb (star_ok hs es X.env) hpl) fun σ H Q h => tM.args h
  exact ⟨q, mt_val q fun _ => rfl⟩
theorem me_bT {e : Expr} {es : List Expr} {ms : Es} {g : Fn} {id : String} (hc : CallR X (.type id) (fun vs H Q => rP X.K g vs H Q)) (hg : Gl X f) (hm : X.mg f = none) (hv : bootBuiltins f = some (.type id)) (ha : PA X (e :: es) (tMs F X.K W ms)) (hn : f ≠ "__name__") (hdb : (f == ("__debug__" : Str)) = false)
    (hs : isStarred e = false) (hpl : (backTo pos (starEach es X.env)).any (·.1) = false) : Snd F W X (.Call (.Name f p) (e :: es) [] pos) (.p g ms) := by
  have q : PE X (.Call (.Name f p) (e :: es) [] pos) (tM F X.K W (.p g ms)) := PE.imp (pe_callTy hc hg hm hv ha hn hdb (star_ok hs es X.env) hpl) fun σ H Q h => tM.args h
  exact ⟨q, mt_val q fun _ => rfl⟩
theorem plain1 {e : Expr} (h : isStarred e = false) (env : PySem.Env) : (backTo pos (starEach [e] env)).any (·.1) = false := by
  rw [star_ok h]; rfl
theorem me_b1 (hc : X.calm = true) {g : Fn} (hb : bFn1 f = some g) (hg : Gl X f) (hm : X.mg f = none) (hs : isStarred a = false) (ha : Snd F W X a ma) : Snd F W X (.Call (.Name f p) [a] [] pos) (.p g (.cons ma .nil)) := by
  have hpa := pas_cons hs ha.pe (pas_nil (F := F) (W := W) (X := X))
  unfold bFn1 at hb
  split at hb
  · rename_i e; subst e; cases hb
    exact me_bB cr_len hg hm (by decide +kernel) hpa (by decide +kernel) (by decide +kernel) hs rfl
  split at hb
  · rename_i e; subst e; cases hb
    exact me_bB (cr_all' hc) hg hm (by decide +kernel) hpa (by decide +kernel) (by decide +kernel) hs rfl
  split at hb
  · rename_i e; subst e; cases hb
    exact me_bB (cr_any' hc) hg hm (by decide +kernel) hpa (by decide +kernel) (by decide +kernel) hs rfl
  split at hb
  · rename_i e; subst e; cases hb
    exact me_bB (cr_sum' hc) hg hm (by decide +kernel) hpa (by decide +kernel) (by decide +kernel) hs rfl
  split at hb
  · rename_i e; subst e; cases hb
    exact me_bT cr_tuple hg hm (by decide +kernel) hpa (by decide +kernel) (by decide +kernel) hs rfl
  split at hb
  · rename_i e; subst e; cases hb
    exact me_bT (cr_list hc) hg hm (by decide +kernel) hpa (by decide +kernel) (by decide +kernel) hs rfl
  split at hb
  · rename_i e; subst e; cases hb
    exact me_bT cr_int hg hm (by decide +kernel) hpa (by decide +kernel) (by decide +kernel) hs rfl
  split at hb
  · rename_i e; subst e; cases hb
    exact me_bB (cr_srt hc) hg hm (by decide +kernel) hpa (by decide +kernel) (by decide +kernel) hs rfl
  split at hb
  · rename_i e; subst e; cases hb
    exact me_bT (cr_dct hc) hg hm (by decide +kernel) hpa (by decide +kernel) (by decide +kernel) hs rfl
  · cases hb
theorem me_b2 (hc : X.calm = true) {g : Fn} (hb : bFn2 f = some g) (hg : Gl X f) (hm : X.mg f = none) (hs : isStarred a = false) (hs2 : isStarred b = false) (ha : Snd F W X a ma) (hb2 : Snd F W X b mb) : Snd F W X (.Call (.Name f p) [a, b] [] pos) (.p g (.cons ma (.cons mb .nil))) := by
  have hpa := pas_cons hs ha.pe (pas_cons hs2 hb2.pe (pas_nil (F := F) (W := W) (X := X)))
  unfold bFn2 at hb
  split at hb
  · rename_i e; subst e; cases hb
    exact me_bB (cr_min hc) hg hm (by decide +kernel) hpa (by decide +kernel) (by decide +kernel) hs (plain1 hs2 _)
  split at hb
  · rename_i e; subst e; cases hb
    exact me_bB (cr_max hc) hg hm (by decide +kernel) hpa (by decide +kernel) (by decide +kernel) hs (plain1 hs2 _)
  · cases hb
/-! isinstance -/
theorem tyFn_ok {ty : Ty} (h : tyFn t = some ty) : t = tx (tyS ty) := by
  unfold tyFn at h
  split at h
  · rename_i e; cases h; exact e
  split at h
  · rename_i e; cases h; exact e
  split at h
  · rename_i e; cases h; exact e
  split at h
  · rename_i e; cases h; exact e
  split at h
  · rename_i e; cases h; exact e
  · cases h
theorem me_isi {ty : Ty} {p2 : Pos} (hty : tyFn t = some ty) (hg : Gl X (tx "isinstance")) (hm : X.mg (tx "isinstance") = none) (hgt : Gl X t) (hmt : X.mg t = none) (hs : isStarred a = false) (ha : Snd F W X a ma) :
    Snd F W X (.Call (.Name (tx "isinstance") p) [a, .Name t p2] [] pos) (.p (.isi ty) (.cons ma .nil)) := by
  have e := tyFn_ok hty
  subst e
  have pt : PE X (.Name (tx (tyS ty)) p2) (tC (.ty (tyS ty))) := by
    cases ty <;> exact pe_bltn (u := .type _) hgt hmt (by decide +kernel) (show RelV (.ty _) (.type _) from rfl) (by decide +kernel) (by decide +kernel)
  have pa : PA X [a, .Name (tx (tyS ty)) p2] _ := pa_cons ha.pe (pa_cons pt pa_nil rfl) (star_ok hs _ X.env)
  have q : PE X (.Call (.Name (tx "isinstance") p) [a, .Name (tx (tyS ty)) p2] [] pos) (tM F X.K W (.p (.isi ty) (.cons ma .nil))) :=
    PE.imp (pe_callB (cr_isi ty) hg hm (by decide +kernel) pa (by decide +kernel) (by decide +kernel) (star_ok hs _ X.env) rfl) fun σ H Q h => by
      obtain ⟨ρ, st, μ, er, sr, p⟩ := tM.un h
      exact ⟨ρ, st, μ, er, sr, p.mono fun v H1 q => ⟨v, rfl, q⟩⟩
  exact ⟨q, mt_val q fun _ => rfl⟩
end
end PM
end
section
/-! PM16: methods of lists, dicts. -/
namespace PM
open PySem PySem.Spec PyProof.Rows L2
section
variable {X : Cx}
theorem NewL.snd {H : Hp} {v w : V} {x y : A} {vs : List V} {xs : List A} (n : NewL H (v :: w :: vs) (x :: y :: xs)) : New H w y := fun p e => n.2 p (tmps_tail (tmps_head e))
theorem mt_app : MtR X "list.append" (fun x xs H Q => rP X.K .app (x :: xs) H Q) := by
  intro pins s σ H x xs v us Q I rx rxs ⟨W, μ0, H0, μ, st, ys, f, sr, r, n, p⟩
  replace p : Post X.K W μ0 H0 Q (p_app ys st) := p
  unfold p_app at p
  split at p
  · rename_i m a
    cases r with
    | cons r1 r2 =>
      cases r2 with
      | @cons w _ _ _ r2 r3 =>
        cases r3
        obtain ⟨l, rfl, hm⟩ := (show Rep X.K μ H x (.ref m) from r1).ref'
        obtain ⟨μ', f', s', r', q', _⟩ := mat_ok f sr r2 n.snd
        split at p
        · rename_i ds e
          split at p
          · rename_i hl
            have hm' := q'.pre _ _ hm
            obtain ⟨vs, hv, rv⟩ := s'.obj m _ l (getL_some e) hm'
            refine mt_append pins s σ H _ _ v us Q I rx rxs ⟨l, vs, w, rfl, rfl, hv, by rw [rv.length, szL]; exact hl, ?_⟩
            have g := Fr.put (o := .lst (vs ++ [w])) (H := H) (List.mem_of_getElem? hm')
            exact p.val (f'.trans g) (s'.set hm' ⟨_, upd_same, (rv.append (.cons r' .nil)).fr g⟩) .non
          · exact p.elim
        · exact p.elim
  · exact p.elim
theorem mt_ext : MtR X "list.extend" (fun x xs H Q => rP X.K .ext (x :: xs) H Q) := by
  intro pins s σ H x xs v us Q I rx rxs ⟨W, μ0, H0, μ, st, ys, f, sr, r, n, p⟩
  replace p : Post X.K W μ0 H0 Q (p_ext ys st) := p
  unfold p_ext at p
  split at p
  · rename_i m a
    cases r with
    | cons r1 r2 =>
      cases r2 with
      | @cons w _ _ _ r2 r3 =>
        cases r3
        obtain ⟨l, rfl, hm⟩ := (show Rep X.K μ H x (.ref m) from r1).ref'
        split at p
        · rename_i ds es e e2
          split at p
          · rename_i hl
            obtain ⟨vs, hv, rv⟩ := sr.obj m _ l (getL_some e) hm
            obtain ⟨b, ws, rfl, hb, rw'⟩ := trk_of sr r2 e2
            refine mt_extend pins s σ H _ _ v us Q I rx rxs ⟨l, b, vs, ws, rfl, rfl, hv, hb, by rw [rv.length, rw'.length, szL]; exact hl, ?_⟩
            have g := Fr.put (o := .lst (vs ++ ws)) (H := H) (List.mem_of_getElem? hm)
            exact p.val (f.trans g) (sr.set hm ⟨_, upd_same, (rv.append rw').fr g⟩) .non
          · exact p.elim
        · exact p.elim
  · exact p.elim
theorem seqIx {n : Nat} {i : Int} {j : Nat} (h : PM.ixN n i = some j) : seqIndex? i n = some j ∧ j < n ∧ -(n : Int) ≤ i ∧ i < n := by
  unfold PM.ixN at h
  unfold seqIndex?
  split at h
  · rename_i h0
    split at h
    · rename_i h1
      cases h
      refine ⟨?_, by omega, by omega, h1⟩
      simp [show ¬ i < 0 by omega, h0, h1]
    · cases h
  · rename_i h0
    split at h
    · rename_i h1
      cases h
      refine ⟨?_, by omega, h1, by omega⟩
      simp [show i < 0 by omega, show 0 ≤ i + (n : Int) by omega, show i + (n : Int) < n by omega]
    · cases h
theorem mt_popI : MtR X "list.pop" (fun x xs H Q => rP X.K .popI (x :: xs) H Q) := by
  intro pins s σ H x xs v us Q I rx rxs ⟨W, μ0, H0, μ, st, ys, f, sr, r, n, p⟩
  replace p : Post X.K W μ0 H0 Q (p_popI ys st) := p
  unfold p_popI at p
  split at p
  · rename_i m i
    cases r with
    | cons r1 r2 =>
      cases r2 with
      | @cons w _ _ _ r2 r3 =>
        cases r3
        obtain ⟨l, rfl, hm⟩ := (show Rep X.K μ H x (.ref m) from r1).ref'
        cases Rep.int' r2
        split at p
        · rename_i ds e
          split at p
          · rename_i j ej
            split at p
            · rename_i d ed
              obtain ⟨vs, hv, rv⟩ := sr.obj m _ l (getL_some e) hm
              obtain ⟨z, _⟩ := I.lstM hv
              obtain ⟨h1, h2, h3, h4⟩ := seqIx ej
              obtain ⟨y, hy, ry⟩ := rv.get ed
              have hlen := rv.length
              rw [szN] at z
              refine mt_popAt pins s σ H _ _ v us Q I rx rxs ⟨l, vs, i, j, y, rfl, rfl, hv, by omega, by omega, by rw [hlen]; exact h1, hy, ?_⟩
              have g := Fr.put (o := .lst (vs.eraseIdx j)) (H := H) (List.mem_of_getElem? hm)
              exact p.val (f.trans g) (sr.set hm ⟨_, upd_same, (rv.eraseIdx j).fr g⟩) (ry.fr g)
            · exact p.elim
          · exact p.elim
        · exact p.elim
  · exact p.elim
theorem mt_pop0 : MtR X "list.pop" (fun x xs H Q => rP X.K .pop0 (x :: xs) H Q) := by
  intro pins s σ H x xs v us Q I rx rxs ⟨W, μ0, H0, μ, st, ys, f, sr, r, n, p⟩
  replace p : Post X.K W μ0 H0 Q (p_pop0 ys st) := p
  unfold p_pop0 at p
  split at p
  · rename_i m
    cases r with
    | cons r1 r2 =>
      cases r2
      obtain ⟨l, rfl, hm⟩ := (show Rep X.K μ H x (.ref m) from r1).ref'
      split at p
      · rename_i ds e
        split at p
        · rename_i d ed
          obtain ⟨vs, hv, rv⟩ := sr.obj m _ l (getL_some e) hm
          obtain ⟨y, hy, ry⟩ := rv.get ed
          refine mt_pop pins s σ H _ _ v us Q I rx rxs ⟨l, vs, y, rfl, rfl, hv, by rw [rv.length]; exact hy, ?_⟩
          have g := Fr.put (o := .lst vs.dropLast) (H := H) (List.mem_of_getElem? hm)
          exact p.val (f.trans g) (sr.set hm ⟨_, upd_same, rv.dropLast.fr g⟩) (ry.fr g)
        · exact p.elim
      · exact p.elim
  · exact p.elim
/-! index -/
theorem mt_idx : MtR X "list.index" (fun x xs H Q => rP X.K .idx (x :: xs) H Q) := by
  intro pins s σ H x xs v us Q I rx rxs ⟨W, μ0, H0, μ, st, ys, f, sr, r, n, p⟩
  replace p : Post X.K W μ0 H0 Q (p_idx ys st) := p
  unfold p_idx at p
  split at p
  · rename_i a d
    cases r with
    | cons r1 r2 =>
      cases r2 with
      | @cons w _ _ _ r2 r3 =>
        cases r3
        split at p
        · rename_i ds e
          split at p
          · rename_i hk
            rw [Bool.and_eq_true] at hk
            obtain ⟨l, vs, rfl, hl, rv⟩ := lst_of sr r1 e
            cases ej : ds.findIdx? fun e => eqF e d with
            | none => rw [ej] at p; exact p.elim
            | some j =>
              rw [ej] at p
              rw [List.findIdx?_eq_some_iff_getElem] at ej
              obtain ⟨hj, h1, h2⟩ := ej
              have hd := List.getElem?_eq_getElem hj
              obtain ⟨z, hz, rz⟩ := rv.get hd
              have fz : ∀ m (hm : m < ds.length), flatD ds[m] = true := fun m hm => List.all_eq_true.mp hk.2 _ (List.getElem_mem hm)
              refine mt_index pins s σ H _ _ v us Q I rx rxs ⟨l, vs, w, j, z, rfl, rfl, hl, flat_rep r2 hk.1, flats_rep rv hk.2, hz, ?_, fun m z' hm hz' => ?_, p.val f sr (.int _)⟩
              · rw [eqF_eq rz r2 (fz j hj) hk.1]; exact h1
              · have hml : m < ds.length := by omega
                obtain ⟨z2, hz2, rz2⟩ := rv.get (List.getElem?_eq_getElem hml)
                rw [hz'] at hz2; cases hz2
                rw [eqF_eq rz2 r2 (fz m hml) hk.1]
                exact Bool.eq_false_iff.mpr (h2 m hm)
          · exact p.elim
        · exact p.elim
  · exact p.elim
/-! remove, of a text -/
theorem strs_gives {y : Str} {t : Tok} : ∀ {us : List Value} {xs : List Str}, StrsAre us xs → ∀ u ∈ us, MeetsSeq.EqGives u (.str y t) (match u with
    | .str z _ => z.cps.toList == y.cps.toList
    | _ => false)
  | _, _, .nil => fun u hu => by cases hu
  | _, _, .cons x k h => fun u hu => by
    rcases List.mem_cons.mp hu with e | e
    · subst e; exact SeqRoads2.EqGives.str x y k t
    · exact strs_gives h u e
theorem erase_at : ∀ {xs : List Tx} {x : Tx}, x ∈ xs → ∃ j, xs[j]? = some x ∧ (∀ m, m < j → xs[m]? ≠ some x) ∧ xs.erase x = xs.eraseIdx j
  | [], _, h => by cases h
  | y :: xs, x, h => by
    by_cases e : y = x
    · subst e
      exact ⟨0, rfl, fun m hm => absurd hm (Nat.not_lt_zero _), by simp⟩
    · have hx : x ∈ xs := (List.mem_cons.mp h).resolve_left fun z => e z.symm
      obtain ⟨j, h1, h2, h3⟩ := erase_at hx
      refine ⟨j + 1, by simpa using h1, fun m hm => ?_, ?_⟩
      · cases m with
        | zero => simpa using e
        | succ m => simpa using h2 m (by omega)
      · rw [List.erase_cons_tail (by simpa using e), h3]; rfl
theorem map_eraseIdx {α β : Type} (f : α → β) : ∀ (l : List α) (j : Nat), (l.map f).eraseIdx j = (l.eraseIdx j).map f
  | [], j => by simp
  | a :: r, 0 => by simp
  | a :: r, j + 1 => by simp [map_eraseIdx f r j]
theorem strs_get {xs : List Tx} {us : List Value} (h : StrsAre us (xs.map toStr)) {j : Nat} {x : Tx} (e : xs[j]? = some x) : ∃ t, us[j]? = some (.str (toStr x) t) := by
  have hv : Vals ((xs.map toStr).map V.str) us := vals_of_strs h
  have e1 : ((xs.map toStr).map V.str)[j]? = some (.str (toStr x)) := by simp [e]
  obtain ⟨u, hu, t, rfl⟩ := hv.get e1
  exact ⟨t, hu⟩
theorem mt_rem : MtR X "list.remove" (fun x xs H Q => rP X.K .rem (x :: xs) H Q) := by
  intro pins s σ H x xs v us Q I rx rxs ⟨W, μ0, H0, μ, st, ys, f, sr, r, n, p⟩
  replace p : Post X.K W μ0 H0 Q (p_rem ys st) := p
  unfold p_rem at p
  split at p
  · rename_i m y
    cases r with
    | cons r1 r2 =>
      cases r2 with
      | @cons w _ _ _ r2 r3 =>
        cases r3
        obtain ⟨l, rfl, hm⟩ := (show Rep X.K μ H x (.ref m) from r1).ref'
        cases Rep.str' r2
        split at p
        · rename_i ds e
          split at p
          · rename_i ts et
            split at p
            · rename_i hx
              obtain ⟨vs, hv, rv⟩ := sr.obj m _ l (getL_some e) hm
              obtain ⟨rfl, rfl⟩ := txs_of rv et
              obtain ⟨j, h1, h2, h3⟩ := erase_at hx
              rw [h3] at p
              cases rx
              obtain ⟨u, rfl, t, rfl⟩ := rxs.one
              obtain ⟨z, its, k, r, hl, eo⟩ := I.lstM hv
              have hS := Vals.strs r
              have hjn : j < ts.length := (List.getElem?_eq_some_iff.mp h1).1
              simp only [List.length_map] at hl z
              have hjl : j < its.toArray.size := by rw [List.size_toArray]; omega
              refine call_meets PySem.F.slot_list_remove ⟨_, eo, rfl⟩ PySem.F.entry_list_remove (PySem.F.args_list_remove_2 _ _)
                (MeetsSeq.list_remove l its.toArray k (.str (toStr y) t) _ (fun y hy => strs_gives hS y (by simpa using hy)) j hjl ?_ ?_ (by rw [List.size_toArray]; omega)) ⟨eo, ?_⟩
              · obtain ⟨tj, hjt⟩ := strs_get hS h1
                obtain ⟨_, h5⟩ := List.getElem?_eq_some_iff.mp hjt
                have e1 : its.toArray[j] = .str (toStr y) tj := by simpa using h5
                rw [e1]
                simp
              · intro i hi hij
                have hin : i < ts.length := by omega
                obtain ⟨tm, hmt⟩ := strs_get hS (List.getElem?_eq_getElem hin)
                obtain ⟨_, h5⟩ := List.getElem?_eq_some_iff.mp hmt
                have e1 : its.toArray[i] = .str (toStr ts[i]) tm := by simpa using h5
                rw [e1]
                show ((toStr ts[i]).cps.toList == (toStr y).cps.toList) = false
                rw [toStr_list, toStr_list]
                refine beq_eq_false_iff_ne.mpr fun e2 => h2 i hij ?_
                rw [List.getElem?_eq_getElem hin, e2]
              · have rr := r.eraseIdx j
                rw [map_eraseIdx, map_eraseIdx] at rr
                have hl2 : (((ts.eraseIdx j).map toStr).map V.str).length ≤ sizeLine := by
                  rw [List.length_map, List.length_map, List.length_eraseIdx]
                  split <;> omega
                refine ⟨.non, _, I.lset (its' := its.eraseIdx j) (t' := s.toks) hv eo ?_ rr hl2, rfl, ?_⟩
                · show its.toArray.eraseIdxIfInBounds j = (its.eraseIdx j).toArray
                  rw [List.eraseIdxIfInBounds_toArray]
                · have g := Fr.put (o := .lst (((ts.eraseIdx j).map toStr).map V.str)) (H := H) (List.mem_of_getElem? hm)
                  exact p.val (f.trans g) (sr.set hm ⟨_, upd_same, strs_map_rep _⟩) .non
            · exact p.elim
          · exact p.elim
        · exact p.elim
  · exact p.elim
theorem mt_get (hu : X.A.units + 1 < cLine) : MtR X "dict.get" (fun x xs H Q => rP X.K .get (x :: xs) H Q) := by
  intro pins s σ H x xs v us Q I rx rxs ⟨W, μ0, H0, μ, st, ys, f, sr, r, n, p⟩
  replace p : Post X.K W μ0 H0 Q (p_get ys st) := p
  unfold p_get at p
  split at p
  · rename_i a k d
    cases r with
    | cons r1 r2 =>
      cases r2 with
      | @cons w _ _ _ r2 r3 =>
        cases r3 with
        | @cons w2 _ _ _ r3 r4 =>
          cases r4
          split at p
          · rename_i kvs e
            split at p
            · rename_i hk
              obtain ⟨H', ad, ov, rfl, I', f', sr', g, ro⟩ := dget I sr r1 e hk r2
              cases (show v = Value.ref ad from rx)
              obtain ⟨u1, u2, rfl, ru1, ru2⟩ := rxs.two
              refine d_get2 hu I' g ru1 ru2 fun w' s' I2 rw' => ⟨_, H', I2, rw', ?_⟩
              exact p.val (f.trans f') sr' (ro.getD (Rep.fr f' r3))
            · exact p.elim
          · exact p.elim
  · exact p.elim
end
end PM
end
section
/-! PM17: calls of methods. -/
namespace PM
open PySem PySem.Spec PyProof.Rows L2
theorem notSuper_ok {o : Expr} {name : Str} {env : PySem.Env} {w : Sem Value} (h : notSuper o = true) : attributeBase o name env w = w := by
  unfold attributeBase
  split
  · rename_i id p pos
    have h1 : (id != "super") = true := by
      simp only [notSuper, Bool.not_eq_true'] at h
      show (!(id == _)) = true
      rw [Bool.not_eq_true']; exact h
    simp only [h1, Bool.true_or, if_true, bind_pure]
  · rfl
section
variable {F : FT} {W : WS} {X : Cx} {o a b : Expr} {mo ma mb : E} {apos cpos : Pos} {name : Str}
theorem tM.recv {K : PySem.W.Frag} {f : Fn} {mo : E} {ms : Es} {σ : LSt} {H : Hp} {Q : VK} {T : String} (hty : ∀ μ H st v x, SRep K μ H st → ARep K μ H v x → recvOk f x st = true → tyV K T v H)
    (h : tM F K W (.m f mo ms) σ H Q) : tM F K W mo σ H fun x H1 => tyV K T x H1 ∧ tMs F K W ms σ H1 fun xs H2 => rP K f (x :: xs) H2 Q := by
  obtain ⟨ρ, st, μ, er, sr, p⟩ := h
  unfold evE at p
  obtain ⟨ρ1, st1, μ1, e1, s1, p1⟩ := tM.step er sr (Post.exW (Fr.refl _ _)) Post.noW p
  refine ⟨ρ1, st1, μ1, e1, s1, p1.mono fun v H1 ⟨x, st2, μ2, f2, s2, r2, n2, h2⟩ => ?_⟩
  split at h2
  · rename_i hr
    refine ⟨hty μ2 H1 st2 v x s2 r2 hr, ?_⟩
    obtain ⟨ρ3, st3, μ3, e3, s3, p3⟩ := tMs.step (er.fr f2) s2 (Post.exW f2) Post.noW h2
    refine ⟨ρ3, st3, μ3, e3, s3, ?_⟩
    cases q : evEs F ms ρ3 st3 with
    | ok xs st4 =>
      rw [q] at p3
      intro vs μ4 H4 f4 s4 r4 n4
      obtain ⟨ys, st5, μ5, f5, s5, r5, n5, h5⟩ := p3 vs μ4 H4 f4 s4 r4 n4
      exact ⟨_, _, _, μ5, st5, x :: ys, f2.trans f5, s5, .cons (r2.fr f5) r5, NewL.cons f2 s2 r2 n2 n5, h5⟩
    | ex c ds st4 => rw [q] at p3; exact p3
    | no => rw [q] at p3; exact p3
  · exact h2.elim
theorem few1 (hs : isStarred a = false) : ((backTo cpos (starEach [a] X.env)).all (fun x => !x.1) && (backToKw cpos (keywordEach [] X.env)).all (fun x => x.1.isSome)
    && decide (([a] : List Expr).length + ([] : List Keyword).length + (if ([] : List Keyword).isEmpty then 0 else 1) < 30)) = true := by
  rw [star_ok hs]; rfl
theorem few2 (hs : isStarred a = false) (hs2 : isStarred b = false) : ((backTo cpos (starEach [a, b] X.env)).all (fun x => !x.1) && (backToKw cpos (keywordEach [] X.env)).all (fun x => x.1.isSome)
    && decide (([a, b] : List Expr).length + ([] : List Keyword).length + (if ([] : List Keyword).isEmpty then 0 else 1) < 30)) = true := by
  rw [star_ok hs, star_ok hs2]; rfl
theorem lst_ty {K : PySem.W.Frag} {f : Fn} (hf : f ≠ .get) : ∀ μ H st v x, SRep K μ H st → ARep K μ H v x → recvOk f x st = true → tyV K "list" v H := by
  intro μ H st v x sr r h
  have h' : (lstOf st x).isSome = true := by
    unfold recvOk at h
    split at h
    · exact absurd rfl hf
    · exact h
  obtain ⟨ds, e⟩ := Option.isSome_iff_exists.mp h'
  obtain ⟨p, vs, rfl, hl, _⟩ := lst_of sr r e
  exact .inl ⟨rfl, vs, hl⟩
theorem dct_ty {K : PySem.W.Frag} : ∀ μ H st v x, SRep K μ H st → ARep K μ H v x → recvOk .get x st = true → tyV K "dict" v H := by
  intro μ H st v x sr r h
  have h' : (dctOf st x).isSome = true := h
  obtain ⟨ds, e⟩ := Option.isSome_iff_exists.mp h'
  obtain ⟨p, rfl, dr⟩ := dct_of sr r e
  refine .inr (.inr (.inl ⟨rfl, ?_⟩))
  rcases dr with ⟨es, h, _⟩ | ⟨es, h, _⟩
  · exact .inl ⟨es, h⟩
  · exact .inr ⟨es, h⟩
theorem me_m0 {T id : String} {f : Fn} (pa : PlainAttrs T) (slot : Slot T name id) (hty : typeOf (.builtin id) = pure (.type "method_descriptor")) (hm : MtR X id (fun x xs H Q => rP X.K f (x :: xs) H Q)) (ho : Snd F W X o mo)
    (ht : ∀ μ H st v x, SRep X.K μ H st → ARep X.K μ H v x → recvOk f x st = true → tyV X.K T v H) (hb : notSuper o = true) (hl : (apos.endLine == cpos.line) = true) : Snd F W X (.Call (.Attribute o name apos) [] [] cpos) (.m f mo .nil) := by
  have q : PE X (.Call (.Attribute o name apos) [] [] cpos) (tM F X.K W (.m f mo .nil)) := PE.imp (pe_bm0 pa slot hty hm ho.pe (notSuper_ok hb) hl) fun σ H Q h => by
    obtain ⟨ρ, st, μ, er, sr, p⟩ := h.recv ht
    refine ⟨ρ, st, μ, er, sr, p.mono fun v H1 ⟨h1, ρ1, st1, μ1, e1, s1, p1⟩ => ⟨h1, ?_⟩⟩
    exact p1 [] μ1 H1 (Fr.refl _ _) s1 .nil NewL.nil'
  exact ⟨q, mt_val q fun _ => rfl⟩
theorem me_m1 {T id : String} {f : Fn} (pa : PlainAttrs T) (slot : Slot T name id) (hty : typeOf (.builtin id) = pure (.type "method_descriptor")) (hm : MtR X id (fun x xs H Q => rP X.K f (x :: xs) H Q)) (ho : Snd F W X o mo) (ha : Snd F W X a ma)
    (ht : ∀ μ H st v x, SRep X.K μ H st → ARep X.K μ H v x → recvOk f x st = true → tyV X.K T v H) (hs : isStarred a = false) (hb : notSuper o = true) (hl : (apos.endLine == cpos.line) = true) : Snd F W X (.Call (.Attribute o name apos) [a] [] cpos) (.m f mo (.cons ma .nil)) := by
  have q : PE X (.Call (.Attribute o name apos) [a] [] cpos) (tM F X.K W (.m f mo (.cons ma .nil))) :=
    PE.imp (pe_bm pa slot hty hm ho.pe (pas_cons hs ha.pe (pas_nil (F := F) (W := W) (X := X))) (notSuper_ok hb) (few1 hs) hl (star_ok hs [] X.env) rfl) fun σ H Q h => h.recv ht
  exact ⟨q, mt_val q fun _ => rfl⟩
theorem me_m2 {T id : String} {f : Fn} (pa : PlainAttrs T) (slot : Slot T name id) (hty : typeOf (.builtin id) = pure (.type "method_descriptor")) (hm : MtR X id (fun x xs H Q => rP X.K f (x :: xs) H Q)) (ho : Snd F W X o mo) (ha : Snd F W X a ma) (hb2 : Snd F W X b mb)
    (ht : ∀ μ H st v x, SRep X.K μ H st → ARep X.K μ H v x → recvOk f x st = true → tyV X.K T v H) (hs : isStarred a = false) (hs2 : isStarred b = false) (hb : notSuper o = true) (hl : (apos.endLine == cpos.line) = true) :
    Snd F W X (.Call (.Attribute o name apos) [a, b] [] cpos) (.m f mo (.cons ma (.cons mb .nil))) := by
  have q : PE X (.Call (.Attribute o name apos) [a, b] [] cpos) (tM F X.K W (.m f mo (.cons ma (.cons mb .nil)))) :=
    PE.imp (pe_bm pa slot hty hm ho.pe (pas_cons hs ha.pe (pas_cons hs2 hb2.pe (pas_nil (F := F) (W := W) (X := X)))) (notSuper_ok hb) (few2 hs hs2) hl (star_ok hs [b] X.env) (plain1 hs2 _)) fun σ H Q h => h.recv ht
  exact ⟨q, mt_val q fun _ => rfl⟩
theorem me_mF0 {f : Fn} (h : mFn0 name = some f) (ho : Snd F W X o mo) (hb : notSuper o = true) (hl : (apos.endLine == cpos.line) = true) : Snd F W X (.Call (.Attribute o name apos) [] [] cpos) (.m f mo .nil) := by
  unfold mFn0 at h
  split at h
  · rename_i e; subst e; cases h
    exact me_m0 PySem.F.plainAttrs_list PySem.F.slot_list_pop PySem.F.type_list_pop mt_pop0 ho (lst_ty (by decide)) hb hl
  · cases h
theorem me_mF1 {f : Fn} (h : mFn1 name = some f) (ho : Snd F W X o mo) (ha : Snd F W X a ma) (hs : isStarred a = false) (hb : notSuper o = true) (hl : (apos.endLine == cpos.line) = true) :
    Snd F W X (.Call (.Attribute o name apos) [a] [] cpos) (.m f mo (.cons ma .nil)) := by
  unfold mFn1 at h
  split at h
  · rename_i e; subst e; cases h
    exact me_m1 PySem.F.plainAttrs_list PySem.F.slot_list_append PySem.F.type_list_append mt_app ho ha (lst_ty (by decide)) hs hb hl
  split at h
  · rename_i e; subst e; cases h
    exact me_m1 PySem.F.plainAttrs_list PySem.F.slot_list_extend PySem.F.type_list_extend mt_ext ho ha (lst_ty (by decide)) hs hb hl
  split at h
  · rename_i e; subst e; cases h
    exact me_m1 PySem.F.plainAttrs_list PySem.F.slot_list_remove PySem.F.type_list_remove mt_rem ho ha (lst_ty (by decide)) hs hb hl
  split at h
  · rename_i e; subst e; cases h
    exact me_m1 PySem.F.plainAttrs_list PySem.F.slot_list_pop PySem.F.type_list_pop mt_popI ho ha (lst_ty (by decide)) hs hb hl
  split at h
  · rename_i e; subst e; cases h
    exact me_m1 PySem.F.plainAttrs_list PySem.F.slot_list_index PySem.F.type_list_index mt_idx ho ha (lst_ty (by decide)) hs hb hl
  · cases h
theorem me_mF2 (hu : X.A.units + 1 < cLine) {f : Fn} (h : mFn2 name = some f) (ho : Snd F W X o mo) (ha : Snd F W X a ma) (hb2 : Snd F W X b mb) (hs : isStarred a = false) (hs2 : isStarred b = false) (hb : notSuper o = true) (hl : (apos.endLine == cpos.line) = true) :
    Snd F W X (.Call (.Attribute o name apos) [a, b] [] cpos) (.m f mo (.cons ma (.cons mb .nil))) := by
  unfold mFn2 at h
  split at h
  · rename_i e; subst e; cases h
    exact me_m2 PySem.F.plainAttrs_dict PySem.F.slot_dict_get PySem.F.type_dict_get (mt_get hu) ho ha hb2 dct_ty hs hs2 hb hl
  · cases h
/-- replace, of written texts -/
theorem me_repl {r y z : Str} {i j k : Nat} {p0 c0 c1 : Pos} (hyz : (y == z) = false) (hbd : r.length + (r.length + 1) * z.length ≤ 16777216) (hl : (apos.endLine == cpos.line) = true) :
    Snd F W X (.Call (.Attribute (.Constant (.str r) i p0) (tx "replace") apos) [.Constant (.str y) j c0, .Constant (.str z) k c1] [] cpos) (.cst (.str (ofStr (Txt.replace r y z)))) := by
  have q : PE X (.Call (.Attribute (.Constant (.str r) i p0) (tx "replace") apos) [.Constant (.str y) j c0, .Constant (.str z) k c1] [] cpos) (tC (.str (Txt.replace r y z))) := ⟨fun pins s σ H Q I h => by
    refine PySem.Call_method2 rfl rfl hl (Calls.Constant_str ?_)
    refine ⟨"str", _, PySem.F.plainAttrs_str, PySem.F.slot_str_replace, PySem.F.type_str_replace, typeIs_str _ _ _, (fun _ e => nomatch e), Calls.callWith_builtin rfl (Calls.evalArgs_plain (Calls.spliced_cons ?_))⟩
    refine Calls.Constant_str (Calls.spliced_cons (Calls.Constant_str (Calls.spliced_nil ?_)))
    exact PySem.SC.replace (by show s.toks + 1 ≠ 0; omega) (by show s.toks + 1 + 1 ≠ 0; omega) (by show s.toks + 1 ≠ s.toks + 1 + 1; omega) hyz hbd fun t' k => ⟨.str (Txt.replace r y z), H, I.tok k, ⟨t', rfl⟩, h⟩⟩
  have q2 := me_cst (F := F) (W := W) q (d := .str (ofStr (Txt.replace r y z))) fun μ H => by
    have := Rep.str (K := X.K) (μ := μ) (H := H) (ofStr (Txt.replace r y z))
    rw [toStr_ofStr] at this
    exact this
  exact ⟨q2, mt_val q2 fun _ => rfl⟩
end
end PM
end
section
/-! PM18: enumerate of a tuple; any sequence walked. -/
namespace PM
open PySem PySem.Spec PyProof.Rows L2

set_option maxHeartbeats 4000000 in
theorem meets_enum1 {v : Value} {o : Obj} {Hh : Heap → Prop} (B : Begins v o Hh) : Meets (Builtin.«enumerate.__new__» ⟨[.type "enumerate", v], []⟩) (fun _ R s => Hh s.heap ∧
    R (.ok (.ret (.ref (s.heap.push o).objs.size))) { s with heap := (s.heap.push o).push { cls := .type "enumerate", data := .fields #[.none, .bool false, .ref s.heap.objs.size, rawInt 0, .none, .none] } }) :=
  .of_wp fun prog w A R s h => by
    obtain ⟨hp, g, dd, tk, os⟩ := s
    obtain ⟨h1, h⟩ := h
    have hsub := sub_enumerate
    have q1 : ∀ {A' : Around} {E : Value → Shared → Prop} {Q : Value → Shared → Prop}, Q (.ref hp.objs.size) ⟨hp.push o, g, dd, tk, os⟩ → wpAny (model prog w) A' (pyIter v) Q E ⟨hp, g, dd, tk, os⟩ := fun q => B.iter prog w _ _ ⟨hp, g, dd, tk, os⟩ _ h1 q
    wp_walk using q1
    refine wpAny_stack_any fun st => wpAny_pure ?_
    split
    · rename_i c _ _ _ _ _
      cases (c == Value.type "enumerate") <;> (wp_walk using q1; exact ⟨_, rfl, h⟩)
    · (wp_walk using q1; exact ⟨_, rfl, h⟩)
section
variable {prog : Program} {w : World} {A : Around} {E : Value → Shared → Prop} {s : Shared}
theorem enum1_begins {v : Value} {o : Obj} {Hh : Heap → Prop} {Q : Value → Shared → Prop} (B : Begins v o Hh) (h1 : Hh s.heap)
    (h : ∀ h', IsEnum h' (s.heap.objs.size + 1) s.heap.objs.size 0 .none → h'.get? s.heap.objs.size = some o → (∀ b o, s.heap.get? b = some o → h'.get? b = some o) → Q (.ref (s.heap.objs.size + 1)) { s with heap := h' }) :
    wpAny (model prog w) A (PySem.call (.type "enumerate") [v]) Q E s := by
  refine callType_new F.called_enumerate (by decide) (F.typeCall_enumerate_1 _) (F.newCall_enumerate_1 _) (fun obj => F.args_object_init_2 obj _) F.entry_enumerate_new (meets_enum1 B) ⟨h1, ?_⟩
  have hz : (s.heap.push o).objs.size = s.heap.objs.size + 1 := Heap.size_push ..
  show _ ∧ _
  rw [hz]
  have he : IsEnum ((s.heap.push o).push { cls := .type "enumerate", data := .fields #[.none, .bool false, .ref s.heap.objs.size, rawInt 0, .none, .none] }) (s.heap.objs.size + 1) s.heap.objs.size 0 .none := by
    have q := Heap.get?_push_size (s.heap.push o) (o := { cls := .type "enumerate", data := .fields #[.none, .bool false, .ref s.heap.objs.size, rawInt 0, .none, .none] }) rfl
    rw [hz] at q
    exact q
  exact ⟨⟨_, he, rfl⟩, h _ he (Heap.get?_push_of_some _ (Heap.get?_push_size _ B.free)) fun b o x => Heap.get?_push_of_some _ (Heap.get?_push_of_some _ x)⟩
end
/-- the tuple at a, each item in a new pair -/
def IteT (K : PySem.W.Frag) (a : Addr) : L2.It :=
  ⟨fun i H => ∃ (xs : List V) (x : V), SqT K H a xs ∧ xs[i]? = some x, fun i H v H' => ∃ T x, v = .ref T ∧ H T = none ∧ H' = upd H T (.tup [.int (i : Nat), x]) ∧ ∀ xs, SqT K H a xs → xs[i]? = some x, fun i H => ∃ xs : List V, SqT K H a xs ∧ xs.length ≤ i⟩
theorem turn_enumT {P : Program} {w : World} {K : PySem.W.Frag} {elts : List Expr} {kk : Nat} {tpos : Pos} (a e it : Addr) (hea : a ≠ it) (hae : a ≠ e) :
    Turn P w K (.Tuple elts kk tpos) (IteT K a) [e, it] e (fun i h => (∃ old, IsEnum h e it ((i : Nat) : Int) old) ∧ h.IsTupleIter it a i ∧ e ≠ it) where
  mem := by simp
  obj := fun i h st b hb => by
    obtain ⟨⟨old, he⟩, ⟨o, ho, hc, hd⟩, _⟩ := st
    have e' : b = e ∨ b = it := by simpa using hb
    rcases e' with z | z
    · subst z; exact ⟨_, he, fun v q => nomatch q⟩
    · subst z; exact ⟨o, ho, fun v q => by rw [hd] at q; cases q⟩
  keep := fun i h h' st k => let ⟨⟨old, he⟩, hi, hne⟩ := st; ⟨⟨old, k e (by simp) _ he⟩, hi.at fun o q => k it (by simp) o q, hne⟩
  item := by
    intro X hP hw hK hc i pins s σ H E I hf st hg
    subst hP hw hK
    obtain ⟨⟨old, he⟩, hit, hne⟩ := st
    obtain ⟨xs, x, hq, hx⟩ := hg
    obtain ⟨its, rv, p, hz⟩ := I.tuple hq
    obtain ⟨u, hu, ru⟩ := rv.get hx
    have hel : e < s.heap.objs.size := Heap.lt_size he
    have hil : it < s.heap.objs.size := by obtain ⟨_, q, _⟩ := hit; exact Heap.lt_size q
    have hlen : i < its.toArray.size := by have := (List.getElem?_eq_some_iff.mp hu).1; simpa using this
    refine wpAny_pyNext_enum_itemD (Draws.tuple (A := X.A.in1) (I.ok.hd hc) it a hea its.toArray) he ⟨hit, p⟩ hlen hne (by simp; exact ⟨hne, fun z => hae z.symm⟩) fun y h' tk hy ho ⟨hit', _⟩ hT hsz hk => ?_
    have ey : y = u := by
      have : its.toArray[i]? = some u := by simpa using hu
      rw [this] at hy; exact (Option.some.inj hy).symm
    subst ey
    refine ⟨_, rfl, wpAny_letOwnedTupleGo_enum (s := { s with heap := h', toks := tk + 1 }) ho fun h'' he' sb => ?_⟩
    have hT2 : h''.get? s.heap.objs.size = some { cls := .type "tuple", data := .seq #[.int i tk, y] } := (sb.2 _ (Nat.ne_of_gt hel)).trans hT
    have new : ObjOk X.prog X.w (upd H s.heap.objs.size (.tup [.int (i : Nat), x])) h'' s.heap.objs.size (.tup [.int (i : Nat), x]) :=
      ⟨by show 2 ≤ sizeLine; decide, [.int i tk, y], .cons ⟨_, rfl⟩ (.cons ru .nil), ⟨_, hT2, rfl, _, rfl⟩⟩
    have I1 : L2.Inv X pins σ (upd H s.heap.objs.size (.tup [.int (i : Nat), x])) { s with heap := h'', toks := tk + 1 } :=
      I.turnedNew (ch := [e, it]) (fun b ob hb q => (sb.2 b (fun z => hb (by simp [z]))).trans (hk b ob (fun z => hb (by simp [z])) (fun z => hb (by simp [z])) q)) hf (Nat.le_refl _) new
    refine ⟨.ref s.heap.objs.size, _, I1, rfl, ⟨_, x, rfl, I.hok.fresh (Nat.le_refl _), rfl, fun ys hy => by rw [I.tuple_inj hy hq]; exact hx⟩, ⟨⟨y, ?_⟩, hit'.at fun o q => (sb.2 it (Ne.symm hne)).trans q, hne⟩, fun b hb => ?_⟩
    · have e1 : ((i + 1 : Nat) : Int) = (i : Int) + 1 := by omega
      rw [e1]; exact he'
    · have hb' : b < s.heap.objs.size := by
        have e' : b = e ∨ b = it := by simpa using hb
        rcases e' with z | z
        · subst z; exact hel
        · subst z; exact hil
      rw [upd_ne (Nat.ne_of_lt hb')]
      exact (hf b hb).1
  done := by
    intro X hP hw hK hc i pins s σ H E I hf st hg
    subst hP hw hK
    obtain ⟨⟨old, he⟩, hit, hne⟩ := st
    obtain ⟨xs, hq, hx⟩ := hg
    obtain ⟨its, rv, p, hz⟩ := I.tuple hq
    obtain ⟨f0, f1, f2, f3, f4, f5⟩ := hf it (by simp)
    have hl := rv.length
    have hT : s.TypeIs (.ref e) "enumerate" := ⟨_, he, rfl⟩
    unfold pyNext
    refine wpAny_bind (wpAny_attempt (wpAny_callSpecial?_slot (name := Str.ofString "__next__") hT F.slot_enumerate_next (wpAny_call_entry F.slot_enumerate_next hT F.entry_enumerate_next ?_ (F.args_enumerate_next_1 _))))
    show wpAny _ _ (field (.ref e) 2 >>= _) _ _ _
    refine wpAny_bind (wpAny_field he rfl (x := .ref it) rfl (wpAny_bind (wpAny_nextOf_tuple_end (I.ok.hd hc) hit p (by simp; omega) fun h' x he' ⟨o, ho, hc'⟩ => ?_)))
    refine wpAny_bind (wpAny_isInstance (T := "StopIteration") (b := true) ⟨o, ho, hc'⟩ isSubtype_stop ?_)
    exact wpAny_pure ⟨rfl, I.turned (t' := s.toks) (fun b o hb q => he' b o hb q) f0 f1 f3 f4 f5⟩
  self := fun A i s Q E st h => let ⟨⟨_, he⟩, _⟩ := st; wpAny_pyIter_enum he h
section
variable {X : Cx} {tg : Expr}
def iEnumA (K : PySem.W.Frag) (ta : TA) : TI := fun σ H R => ta σ H fun vs H1 => ∃ a xs, vs = [.ref a] ∧ ((SqL K H1 a xs ∧ R (Ite K a) H1) ∨ (SqT K H1 a xs ∧ R (IteT K a) H1))
theorem pi_enumA {e : Expr} {ta : TA} {p pos tpos : Pos} {elts : List Expr} {kk : Nat} (hg : Gl X "enumerate") (hm : X.mg "enumerate" = none) (ha : PA X [e] ta) (hs : starEach [e] X.env = [(false, eval e X.env)]) :
    PI X (.Tuple elts kk tpos) (.Call (.Name "enumerate" p) [e] [] pos) (iEnumA X.K ta) := by
  refine ⟨fun pins s σ H R I h => ?_⟩
  refine Call_ (ld_blt I hg hm boot_enumerate (PyProof.Rows.callWith_type1 (thn (ha.run pos pins s σ H _ I h) fun us s1 ⟨vs, H1, I1, r1, a, xs, ex, q1⟩ => ?_) hs rfl))
  subst ex
  cases r1 with
  | cons r rr =>
    cases rr
    cases r
    have fr : ∀ b ∈ [s1.heap.objs.size + 1, s1.heap.objs.size], FpOk X pins H1 b := fun b hb => by
      have e' : b = s1.heap.objs.size + 1 ∨ b = s1.heap.objs.size := by simpa using hb
      have hle : s1.heap.objs.size ≤ b := by rcases e' with z | z <;> omega
      exact I1.fpOk hle (I1.hok.fresh hle)
    rcases q1 with ⟨hq, q⟩ | ⟨hq, q⟩
    · obtain ⟨its, rv, p', hz⟩ := I1.list hq
      refine call_enumerate_list p'.isList fun h' he hit hsz hk => wpAny_pyIter_enum he ?_
      exact ⟨s1.heap.objs.size + 1, [s1.heap.objs.size + 1, s1.heap.objs.size], _, _, H1, rfl, I1.kept (t' := s1.toks) hk, turn_enum a (s1.heap.objs.size + 1) s1.heap.objs.size, ⟨⟨.none, he⟩, hit, Nat.succ_ne_self _⟩, fr, q⟩
    · obtain ⟨its, rv, p', hz⟩ := I1.tuple hq
      have hlt : a < s1.heap.objs.size := p'.lt
      refine enum1_begins (begins_tuple a its.toArray) p' fun h' he hit hk => wpAny_pyIter_enum he ?_
      exact ⟨s1.heap.objs.size + 1, [s1.heap.objs.size + 1, s1.heap.objs.size], _, _, H1, rfl, I1.kept (t' := s1.toks) hk, turn_enumT a (s1.heap.objs.size + 1) s1.heap.objs.size (Nat.ne_of_lt hlt) (Nat.ne_of_lt (Nat.lt_succ_of_lt hlt)), ⟨⟨.none, he⟩, ⟨_, hit, rfl, rfl⟩, Nat.succ_ne_self _⟩, fr, q⟩
/-- any sequence, or a text -/
def iAny (K : PySem.W.Frag) (te : TE) : TI := fun σ H R => te σ H fun x H1 => (∃ a xs, x = .ref a ∧ SqL K H1 a xs ∧ R (Itl K a) H1) ∨ (∃ a xs, x = .ref a ∧ SqT K H1 a xs ∧ R (Itt K a) H1) ∨ ∃ y, x = .str y ∧ R (Its y) H1
theorem pi_any {e : Expr} {te : TE} (he : PE X e te) : PI X tg e (iAny X.K te) := by
  refine ⟨fun pins s σ H R I h => ?_⟩
  refine thn (he.run pins s σ H _ I h) fun v s1 ⟨x, H1, I1, r1, q1⟩ => ?_
  rcases q1 with ⟨a, xs, rfl, hq, q⟩ | ⟨a, xs, rfl, hq, q⟩ | ⟨y, rfl, q⟩
  · cases r1
    obtain ⟨its, rv, p, hz⟩ := I1.list hq
    exact wpAny_pyIter_list p.isList (pi_one (tk := s1.toks) I1 _ (turn_list a _) ⟨_, Heap.get?_push_size _ rfl, rfl, rfl⟩ q)
  · cases r1
    obtain ⟨its, rv, p, hz⟩ := I1.tuple hq
    exact wpAny_pyIter_tuple (show s1.heap.IsTuple a its.toArray from p) (pi_one (tk := s1.toks) I1 _ (turn_tuple a _) ⟨_, Heap.get?_push_size _ rfl, rfl, rfl⟩ q)
  · obtain ⟨t, rfl⟩ := r1
    cases ha : y.cps.all (· < 128)
    · exact wpAny_pyIter_wide ha (pi_one (tk := s1.toks) I1 _ (turn_str _ y t "str_iterator" (.inr rfl)) ⟨_, Heap.get?_push_size _ rfl, rfl, rfl⟩ q)
    · exact wpAny_pyIter_ascii ha (pi_one (tk := s1.toks) I1 _ (turn_str _ y t "str_ascii_iterator" (.inl rfl)) ⟨_, Heap.get?_push_size _ rfl, rfl, rfl⟩ q)
end
end PM
end
section
/-! PM19: what loops walk. -/
namespace PM
open PySem PySem.Spec PyProof.Rows L2
/-- J gives what ds says, as long as what it leans on stands -/
structure ItS (K : PySem.W.Frag) (J : L2.It) (ds : List D) (chk : Chk) (μ0 : Adrs) (H0 : Hp) : Prop where
  go : ∀ i μ H st, Fr μ0 H0 μ H → SRep K μ H st → alive chk st = true → ∀ d, ds[i]? = some d → J.go i H ∧ ∀ x H', J.yld i H x H' → Fr μ H μ H' ∧ SRep K μ H' st ∧ Rep K μ H' x d
  stop : ∀ i μ H st, Fr μ0 H0 μ H → SRep K μ H st → alive chk st = true → ds.length ≤ i → J.stop i H
def Fut (K : PySem.W.Frag) (μ0 : Adrs) (H0 : Hp) (chk : Chk) (P : Adrs → Hp → Prop) : Prop := ∀ μ H st, Fr μ0 H0 μ H → SRep K μ H st → alive chk st = true → P μ H
section
variable {K : PySem.W.Frag} {μ0 : Adrs} {H0 : Hp} {chk : Chk} {a b : Addr} {ds es : List D}
theorem alive_app {c1 c2 : Chk} {st : PM.St} (h : alive (c1 ++ c2) st = true) : alive c1 st = true ∧ alive c2 st = true := by
  unfold alive at h ⊢
  rw [List.all_append, Bool.and_eq_true] at h
  exact h
theorem its_lst (h : Fut K μ0 H0 chk fun μ H => ∃ vs, SqL K H a vs ∧ Reps K μ H vs ds) : ItS K (Itl K a) ds chk μ0 H0 where
  go := fun i μ H st f s al d hd => by
    obtain ⟨vs, h1, r⟩ := h μ H st f s al
    obtain ⟨v, hv, rv⟩ := r.get hd
    refine ⟨⟨vs, v, h1, hv⟩, fun x H' ⟨e, k⟩ => ?_⟩
    subst e
    have := k vs h1
    rw [hv] at this; cases this
    exact ⟨Fr.refl _ _, s, rv⟩
  stop := fun i μ H st f s al hl => by
    obtain ⟨vs, h1, r⟩ := h μ H st f s al
    exact ⟨vs, h1, by rw [r.length]; exact hl⟩
theorem its_tup (h : Fut K μ0 H0 chk fun μ H => ∃ vs, SqT K H a vs ∧ Reps K μ H vs ds) : ItS K (Itt K a) ds chk μ0 H0 where
  go := fun i μ H st f s al d hd => by
    obtain ⟨vs, h1, r⟩ := h μ H st f s al
    obtain ⟨v, hv, rv⟩ := r.get hd
    refine ⟨⟨vs, v, h1, hv⟩, fun x H' ⟨e, k⟩ => ?_⟩
    subst e
    have := k vs h1
    rw [hv] at this; cases this
    exact ⟨Fr.refl _ _, s, rv⟩
  stop := fun i μ H st f s al hl => by
    obtain ⟨vs, h1, r⟩ := h μ H st f s al
    exact ⟨vs, h1, by rw [r.length]; exact hl⟩
theorem its_str (x : Tx) : ItS K (Its (toStr x)) (x.map fun c => .str [c]) [] μ0 H0 where
  go := fun i μ H st f s al d hd => by
    rw [List.getElem?_map] at hd
    cases hc : x[i]? with
    | none => rw [hc] at hd; cases hd
    | some c =>
      rw [hc] at hd; cases hd
      have hs : (toStr x).cps[i]? = some c := by simp [toStr, hc]
      refine ⟨(Array.getElem?_eq_some_iff.mp hs).1, fun y H' ⟨e, c', e2, e3⟩ => ?_⟩
      rw [hs] at e2; cases e2
      subst e e3
      exact ⟨Fr.refl _ _, s, Rep.str [c]⟩
  stop := fun i μ H st f s al hl => by
    show (toStr x).cps.size ≤ i
    simpa [toStr] using hl
theorem its_ran (lo : Int) (n : Nat) : ItS K (Itr lo n) (ranI lo n) [] μ0 H0 where
  go := fun i μ H st f s al d hd => by
    have hi : i < n := by
      have := (List.getElem?_eq_some_iff.mp hd).1
      simpa [ranI] using this
    have e : d = .int (lo + (i : Int)) := by
      have : (ranI lo n)[i]? = some (.int (lo + (i : Int))) := by
        simp [ranI, hi]
      rw [this] at hd; exact (Option.some.inj hd).symm
    subst e
    refine ⟨hi, fun y H' ⟨e, e2⟩ => ?_⟩
    subst e e2
    exact ⟨Fr.refl _ _, s, .int _⟩
  stop := fun i μ H st f s al hl => by
    show n ≤ i
    simpa [ranI] using hl
theorem enuD_get : ∀ (ds : List D) (n i : Nat) (d : D), (enuD n ds)[i]? = some d → ∃ x, ds[i]? = some x ∧ d = .tup [.int ((n + i : Nat) : Int), x]
  | [], n, i, d, h => by simp [enuD] at h
  | x :: ds, n, 0, d, h => by
    simp [enuD] at h
    exact ⟨x, rfl, h.symm⟩
  | x :: ds, n, i + 1, d, h => by
    have h' : (enuD (n + 1) ds)[i]? = some d := by simpa [enuD] using h
    obtain ⟨y, h1, h2⟩ := enuD_get ds (n + 1) i d h'
    refine ⟨y, by simpa using h1, ?_⟩
    rw [h2]
    have : n + 1 + i = n + (i + 1) := by omega
    rw [this]
theorem enuD_len : ∀ (ds : List D) (n : Nat), (enuD n ds).length = ds.length
  | [], _ => rfl
  | _ :: ds, n => by simp [enuD, enuD_len ds]
theorem pair_new {μ : Adrs} {H : Hp} {st : PM.St} {T : Addr} {x y : V} {d e : D} (s : SRep K μ H st) (hT : H T = none) (r : Rep K μ H x d) (q : Rep K μ H y e) :
    Fr μ H μ (upd H T (.tup [x, y])) ∧ SRep K μ (upd H T (.tup [x, y])) st ∧ Rep K μ (upd H T (.tup [x, y])) (.ref T) (.tup [d, e]) := by
  have g := Fr.new (o := .tup [x, y]) hT (s.notin hT)
  exact ⟨g, s.laid hT, .tup upd_same (s.notin hT) (.cons (r.fr g) (.cons (q.fr g) .nil))⟩
theorem its_enu (h : Fut K μ0 H0 chk fun μ H => ∃ vs, SqL K H a vs ∧ Reps K μ H vs ds) : ItS K (Ite K a) (enuD 0 ds) chk μ0 H0 where
  go := fun i μ H st f s al d hd => by
    obtain ⟨x, hx, rfl⟩ := enuD_get ds 0 i d hd
    obtain ⟨vs, h1, r⟩ := h μ H st f s al
    obtain ⟨v, hv, rv⟩ := r.get hx
    refine ⟨⟨vs, v, h1, hv⟩, fun y H' ⟨T, z, e1, hT, e2, k⟩ => ?_⟩
    have := k vs h1
    rw [hv] at this; cases this
    subst e1 e2
    have e0 : ((0 + i : Nat) : Int) = (i : Int) := by omega
    rw [e0]
    exact pair_new s hT (.int _) rv
  stop := fun i μ H st f s al hl => by
    obtain ⟨vs, h1, r⟩ := h μ H st f s al
    exact ⟨vs, h1, by rw [r.length]; rw [enuD_len] at hl; exact hl⟩
theorem its_enuT (h : Fut K μ0 H0 chk fun μ H => ∃ vs, SqT K H a vs ∧ Reps K μ H vs ds) : ItS K (IteT K a) (enuD 0 ds) chk μ0 H0 where
  go := fun i μ H st f s al d hd => by
    obtain ⟨x, hx, rfl⟩ := enuD_get ds 0 i d hd
    obtain ⟨vs, h1, r⟩ := h μ H st f s al
    obtain ⟨v, hv, rv⟩ := r.get hx
    refine ⟨⟨vs, v, h1, hv⟩, fun y H' ⟨T, z, e1, hT, e2, k⟩ => ?_⟩
    have := k vs h1
    rw [hv] at this; cases this
    subst e1 e2
    have e0 : ((0 + i : Nat) : Int) = (i : Int) := by omega
    rw [e0]
    exact pair_new s hT (.int _) rv
  stop := fun i μ H st f s al hl => by
    obtain ⟨vs, h1, r⟩ := h μ H st f s al
    exact ⟨vs, h1, by rw [r.length]; rw [enuD_len] at hl; exact hl⟩
theorem zipD_get : ∀ (xs ys : List D) (i : Nat) (d : D), (zipD xs ys)[i]? = some d → ∃ x y, xs[i]? = some x ∧ ys[i]? = some y ∧ d = .tup [x, y]
  | [], _, i, d, h => by simp [zipD] at h
  | _ :: _, [], i, d, h => by simp [zipD] at h
  | x :: xs, y :: ys, 0, d, h => by
    simp [zipD] at h
    exact ⟨x, y, rfl, rfl, h.symm⟩
  | x :: xs, y :: ys, i + 1, d, h => by
    have h' : (zipD xs ys)[i]? = some d := by simpa [zipD] using h
    obtain ⟨u, w, h1, h2, h3⟩ := zipD_get xs ys i d h'
    exact ⟨u, w, by simpa using h1, by simpa using h2, h3⟩
theorem zipD_len : ∀ (xs ys : List D) (i : Nat), (zipD xs ys).length ≤ i → xs.length ≤ i ∨ ys.length ≤ i
  | [], _, i, h => .inl (by simp)
  | _ :: _, [], i, h => .inr (by simp)
  | x :: xs, y :: ys, 0, h => by simp [zipD] at h
  | x :: xs, y :: ys, i + 1, h => by
    have h' : (zipD xs ys).length ≤ i := by simpa [zipD] using h
    rcases zipD_len xs ys i h' with z | z
    · exact .inl (by simpa using z)
    · exact .inr (by simpa using z)
theorem its_zip (h : Fut K μ0 H0 chk fun μ H => (∃ vs, SqL K H a vs ∧ Reps K μ H vs ds) ∧ ∃ ws, SqL K H b ws ∧ Reps K μ H ws es) : ItS K (Itz K a b) (zipD ds es) chk μ0 H0 where
  go := fun i μ H st f s al d hd => by
    obtain ⟨x, y, hx, hy, rfl⟩ := zipD_get ds es i d hd
    obtain ⟨⟨vs, h1, r⟩, ws, h2, r2⟩ := h μ H st f s al
    obtain ⟨v, hv, rv⟩ := r.get hx
    obtain ⟨w, hw, rw'⟩ := r2.get hy
    refine ⟨⟨vs, ws, v, w, h1, h2, hv, hw⟩, fun y H' ⟨T, z, z2, e1, hT, e2, k, k2⟩ => ?_⟩
    have q1 := k vs h1
    have q2 := k2 ws h2
    rw [hv] at q1; cases q1
    rw [hw] at q2; cases q2
    subst e1 e2
    exact pair_new s hT rv rw'
  stop := fun i μ H st f s al hl => by
    obtain ⟨⟨vs, h1, r⟩, ws, h2, r2⟩ := h μ H st f s al
    exact ⟨vs, ws, h1, h2, by rw [r.length, r2.length]; exact zipD_len ds es i hl⟩
theorem its_zipT (h : Fut K μ0 H0 chk fun μ H => (∃ vs, SqT K H a vs ∧ Reps K μ H vs ds) ∧ ∃ ws, SqT K H b ws ∧ Reps K μ H ws es) : ItS K (RZ.ItzT K a b) (zipD ds es) chk μ0 H0 where
  go := fun i μ H st f s al d hd => by
    obtain ⟨x, y, hx, hy, rfl⟩ := zipD_get ds es i d hd
    obtain ⟨⟨vs, h1, r⟩, ws, h2, r2⟩ := h μ H st f s al
    obtain ⟨v, hv, rv⟩ := r.get hx
    obtain ⟨w, hw, rw'⟩ := r2.get hy
    refine ⟨⟨vs, ws, v, w, h1, h2, hv, hw⟩, fun y H' ⟨T, z, z2, e1, hT, e2, k, k2⟩ => ?_⟩
    have q1 := k vs h1
    have q2 := k2 ws h2
    rw [hv] at q1; cases q1
    rw [hw] at q2; cases q2
    subst e1 e2
    exact pair_new s hT rv rw'
  stop := fun i μ H st f s al hl => by
    obtain ⟨⟨vs, h1, r⟩, ws, h2, r2⟩ := h μ H st f s al
    exact ⟨vs, ws, h1, h2, by rw [r.length, r2.length]; exact zipD_len ds es i hl⟩
/-- a sequence stays what it is -/
theorem tup_fut {st0 : PM.St} {v : V} {x : A} (r : ARep K μ0 H0 v x) (e : tupOf x = some ds) : ∃ a, v = .ref a ∧ ∀ chk, Fut K μ0 H0 chk fun μ H => ∃ vs, SqT K H a vs ∧ Reps K μ H vs ds := by
  unfold tupOf at e
  split at e
  · cases e
    have r' : Rep K μ0 H0 v (.tup ds) := r
    obtain ⟨a, vs, rfl, h, q⟩ := Rep.tup' r'
    refine ⟨a, rfl, fun chk μ H st f s al => ?_⟩
    obtain ⟨a', vs', e1, h', q'⟩ := Rep.tup' (r'.fr f)
    cases e1
    exact ⟨vs', SqT.of h', q'⟩
  · cases e
    have r' : Rep K μ0 H0 v (.ktp ds) := r
    cases r' with
    | ktp h q => exact ⟨_, rfl, fun chk μ H st f s al => ⟨_, (h.fr f.q).sq, q.fr f⟩⟩
  · cases e
theorem lst_fut {st0 : PM.St} {v : V} {x : A} (s0 : SRep K μ0 H0 st0) (r : ARep K μ0 H0 v x) (e : lstOf st0 x = some ds) : ∃ a, v = .ref a ∧ Fut K μ0 H0 (chkOf st0 x) fun μ H => ∃ vs, SqL K H a vs ∧ Reps K μ H vs ds := by
  unfold lstOf at e
  split at e
  · cases e
    cases (show Rep K μ0 H0 v (.fls _) from r) with
    | fls h q => exact ⟨_, rfl, fun μ H st f s al => ⟨_, (h.fr f.q).sq, q.fr f⟩⟩
  · cases x with
    | tl es =>
      cases e
      obtain ⟨p, vs, rfl, h, n, q⟩ := r
      exact ⟨p, rfl, fun μ H st f s al => ⟨vs, SqL.of (f.keep p _ h n).1, q.fr f⟩⟩
    | td kvs => cases e
    | v d =>
      cases d with
      | ref n =>
        obtain ⟨a, rfl, hm⟩ := (show Rep K μ0 H0 v (.ref n) from r).ref'
        have e1 := getL_some e
        refine ⟨a, rfl, fun μ H st f s al => ?_⟩
        have e2 : st[n]? = some (.lst ds) := by
          have e3 : chkOf st0 (.v (.ref n)) = [(n, .lst ds)] := by
            show (match st0[n]? with
              | some o => [(n, o)]
              | none => []) = _
            rw [e1]
          rw [e3] at al
          simpa [alive] using al
        obtain ⟨vs, h, q⟩ := s.obj n _ a e2 (f.pre n a hm)
        exact ⟨vs, SqL.of h, q⟩
      | _ => cases e
theorem seq_now {v : V} {a : Addr} {st0 : PM.St} {P : Adrs → Hp → Prop} {x : A} (s0 : SRep K μ0 H0 st0) (h : Fut K μ0 H0 (chkOf st0 x) P) : P μ0 H0 := by
  refine h μ0 H0 st0 (Fr.refl _ _) s0 ?_
  unfold alive chkOf
  split
  · split
    · rename_i e; simp [e]
    · rfl
  · rfl
end

/-! ### what loops walk, by M -/
def PostIt (K : PySem.W.Frag) (W : WM) (μ : Adrs) (H : Hp) (R' : L2.It → Hp → Prop) : R (List D × Chk) → Prop
  | .ok q st => ∀ μ' H' J, Fr μ H μ' H' → SRep K μ' H' st → ItS K J q.1 q.2 μ' H' → alive q.2 st = true → R' J H'
  | .ex c ds st => ∀ μ' H', Fr μ H μ' H' → SRep K μ' H' st → W c ds st μ' H'
  | .no => False
def tI (F : FT) (K : PySem.W.Frag) (W : WS) (m : It) : TI := fun σ H R' => ∃ ρ st μ, ERep K μ H ρ σ ∧ SRep K μ H st ∧ PostIt K (W ρ σ) μ H R' (evIt F m ρ st)
section
theorem PostIt.exW {K : PySem.W.Frag} {W : WM} {μ μ0 : Adrs} {H H0 : Hp} {R' : L2.It → Hp → Prop} (f : Fr μ0 H0 μ H) : ∀ c ds st1, PostIt K W μ0 H0 R' (.ex c ds st1) → ∀ μ1 H1, Fr μ H μ1 H1 → SRep K μ1 H1 st1 → W c ds st1 μ1 H1 :=
  fun c ds st1 h μ1 H1 g s => h μ1 H1 (f.trans g) s
theorem PostIt.noW {K : PySem.W.Frag} {W : WM} {μ0 : Adrs} {H0 : Hp} {R' : L2.It → Hp → Prop} : ¬ PostIt K W μ0 H0 R' .no := fun h => h
theorem PI.imp {X : Cx} {tg e : Expr} {t t' : TI} (p : PI X tg e t) (h : ∀ σ H Q, t' σ H Q → t σ H Q) : PI X tg e t' :=
  ⟨fun pins s σ H Q I hq => p.run pins s σ H Q I (h σ H Q hq)⟩
theorem chk_alive (st : PM.St) (x : A) : alive (chkOf st x) st = true := by
  unfold alive chkOf
  split
  · split
    · rename_i e; simp [e]
    · rfl
  · rfl
variable {F : FT} {W : WS} {X : Cx} {tg a b : Expr} {ma mb : E} {p pos : Pos}
theorem mi_seq (ha : Snd F W X a ma) : PI X tg a (tI F X.K W (.seq ma)) := by
  refine PI.imp (pi_any ha.pe) fun σ H R' ⟨ρ, st, μ, er, sr, p⟩ => ?_
  unfold evIt at p
  obtain ⟨ρ1, st1, μ1, e1, s1, p1⟩ := tM.step er sr (PostIt.exW (Fr.refl _ _)) PostIt.noW p
  refine ⟨ρ1, st1, μ1, e1, s1, p1.mono fun v H1 ⟨x, st2, μ2, f2, s2, r2, n2, h2⟩ => ?_⟩
  unfold itemsOf at h2
  split at h2
  · rename_i ds e
    split at e
    · rename_i z
      cases e
      cases Rep.str' r2
      exact .inr (.inr ⟨_, rfl, h2 μ2 H1 _ f2 s2 (its_str z) rfl⟩)
    · rename_i y _
      unfold seqOf at e
      split at e
      · rename_i es e'
        cases e
        obtain ⟨ad, rfl, h⟩ := tup_fut (st0 := st2) r2 e'
        obtain ⟨vs, h3, _⟩ := h [] μ2 H1 st2 (Fr.refl _ _) s2 rfl
        exact .inr (.inl ⟨ad, vs, rfl, h3, h2 μ2 H1 _ f2 s2 (its_tup (h _)) (chk_alive _ _)⟩)
      · obtain ⟨ad, rfl, h⟩ := lst_fut s2 r2 e
        obtain ⟨vs, h3, _⟩ := h μ2 H1 st2 (Fr.refl _ _) s2 (chk_alive _ _)
        exact .inl ⟨ad, vs, rfl, h3, h2 μ2 H1 _ f2 s2 (its_lst h) (chk_alive _ _)⟩
  · exact h2.elim
theorem big62E : big62 = 2 ^ 62 := by decide
/-- one argument's readings -/
theorem tMs1 {K : PySem.W.Frag} {σ : LSt} {H : Hp} {Q : List V → Hp → Prop} {ρ : Env} {st : PM.St} {μ : Adrs} (er : ERep K μ H ρ σ) (sr : SRep K μ H st) (hex : ∀ c ds st1, evE F ma ρ st = .ex c ds st1 → ∀ μ1 H1, Fr μ H μ1 H1 → SRep K μ1 H1 st1 → W ρ σ c ds st1 μ1 H1) (hno : evE F ma ρ st ≠ .no)
    (h : ∀ x st1, evE F ma ρ st = .ok x st1 → ∀ v μ1 H1, Fr μ H μ1 H1 → SRep K μ1 H1 st1 → ARep K μ1 H1 v x → Q [v] H1) : tMs F K W (.cons ma .nil) σ H Q := by
  refine tMs.elim er sr (fun xs st1 e => ?_) (fun c ds st1 e => ?_) (fun e => ?_)
  all_goals (unfold evEs at e; revert e; cases e1 : evE F ma ρ st)
  · intro e
    rw [R.bind_ok] at e
    unfold evEs at e
    rw [R.bind_ok] at e
    cases e
    intro vs μ1 H1 f s r n
    cases r with
    | cons r1 r2 => cases r2; exact h _ _ e1 _ μ1 H1 f s r1
  · intro e; cases e
  · intro e; cases e
  · intro e; rw [R.bind_ok] at e; unfold evEs at e; cases e
  · intro e; cases e; exact hex _ _ _ e1
  · intro e; cases e
  · intro e; rw [R.bind_ok] at e; unfold evEs at e; cases e
  · intro e; cases e
  · intro e; exact hno e1
theorem mi_ran1 (hg : Gl X (tx "range")) (hm : X.mg (tx "range") = none) (hs : isStarred a = false) (ha : Snd F W X a ma) : PI X tg (.Call (.Name (tx "range") p) [a] [] pos) (tI F X.K W (.ran1 ma)) := by
  refine PI.imp (pi_range1 hg hm (pas_cons hs ha.pe (pas_nil (F := F) (W := W) (X := X))) (star_ok hs [] X.env)) fun σ H R' ⟨ρ, st, μ, er, sr, p⟩ => ?_
  unfold evIt at p
  refine tMs1 er sr (fun c ds st1 e => ?_) (fun e => ?_) fun x st1 e v μ1 H1 f s r => ?_
  · rw [e] at p; exact p
  · rw [e] at p; exact p
  · rw [e, R.bind_ok] at p
    split at p
    · split at p
      · rename_i n hn
        cases Rep.int' r
        rw [big62E] at hn
        exact ⟨n, rfl, by omega, by omega, p μ1 H1 _ f s (its_ran 0 _) rfl⟩
      · exact p.elim
    · exact p.elim
theorem tMs2 {K : PySem.W.Frag} {σ : LSt} {H : Hp} {Q : List V → Hp → Prop} {R' : L2.It → Hp → Prop} {ρ : Env} {st : PM.St} {μ : Adrs} {k : A → A → PM.St → R (List D × Chk)} (er : ERep K μ H ρ σ) (sr : SRep K μ H st)
    (p : PostIt K (W ρ σ) μ H R' ((evE F ma ρ st).bind fun x st1 => (evE F mb ρ st1).bind fun y st2 => k x y st2))
    (h : ∀ x y st1 v w μ1 H1, Fr μ H μ1 H1 → SRep K μ1 H1 st1 → ARep K μ1 H1 v x → ARep K μ1 H1 w y → PostIt K (W ρ σ) μ H R' (k x y st1) → Q [v, w] H1) : tMs F K W (.cons ma (.cons mb .nil)) σ H Q := by
  have e0 : evEs F (.cons ma (.cons mb .nil)) ρ st = (evE F ma ρ st).bind fun x st1 => (evE F mb ρ st1).bind fun y st2 => .ok [x, y] st2 := by
    simp only [evEs, R.bind_assoc, R.bind_ok]
  refine tMs.elim er sr (fun xs st1 e => ?_) (fun c ds st1 e => ?_) (fun e => ?_)
  all_goals (rw [e0] at e; revert e p; cases e1 : evE F ma ρ st)
  · rename_i x st2
    intro p e
    rw [R.bind_ok] at e p
    revert e p
    cases e2 : evE F mb ρ st2
    · rename_i y st3
      intro p e
      rw [R.bind_ok] at e p
      cases e
      intro vs μ1 H1 f s r n
      obtain ⟨v, vs, rfl⟩ : ∃ v w, vs = [v, w] := by
        cases r with
        | cons r1 r2 => cases r2 with
          | cons r2 r3 => cases r3; exact ⟨_, _, rfl⟩
      obtain ⟨_, _, e3, r1, r2⟩ := r.two
      cases e3
      exact h x y _ v vs μ1 H1 f s r1 r2 p
    · intro p e; cases e
    · intro p e; cases e
  · intro p e; cases e
  · intro p e; cases e
  · rename_i x st2
    intro p e
    rw [R.bind_ok] at e p
    revert e p
    cases e2 : evE F mb ρ st2
    · intro p e; rw [R.bind_ok] at e; cases e
    · intro p e; cases e; exact p
    · intro p e; cases e
  · intro p e; cases e; exact p
  · intro p e; cases e
  · rename_i x st2
    intro p e
    rw [R.bind_ok] at e p
    revert e p
    cases e2 : evE F mb ρ st2
    · intro p e; rw [R.bind_ok] at e; cases e
    · intro p e; cases e
    · intro p e; exact p
  · intro p e; cases e
  · intro p e; exact p
theorem mi_ran2 (hg : Gl X (tx "range")) (hm : X.mg (tx "range") = none) (hs : isStarred a = false) (hs2 : isStarred b = false) (ha : Snd F W X a ma) (hb : Snd F W X b mb) : PI X tg (.Call (.Name (tx "range") p) [a, b] [] pos) (tI F X.K W (.ran2 ma mb)) := by
  refine PI.imp (pi_range2 hg hm (pas_cons hs ha.pe (pas_cons hs2 hb.pe (pas_nil (F := F) (W := W) (X := X)))) (by rw [star_ok hs, star_ok hs2]; rfl) (star_ok hs2 [] X.env)) fun σ H R' ⟨ρ, st, μ, er, sr, p⟩ => ?_
  unfold evIt at p
  refine tMs2 er sr p fun x y st1 v w μ1 H1 f s r r2 p => ?_
  split at p
  · split at p
    · rename_i m n hn
      cases Rep.int' r; cases Rep.int' r2
      rw [big62E] at hn
      exact ⟨m, n, rfl, by omega, p μ1 H1 _ f s (its_ran m _) rfl⟩
    · exact p.elim
  · exact p.elim
theorem mi_enu {es : List Expr} {k : Nat} {tp : Pos} (hg : Gl X (tx "enumerate")) (hm : X.mg (tx "enumerate") = none) (hs : isStarred a = false) (ha : Snd F W X a ma) : PI X (.Tuple es k tp) (.Call (.Name (tx "enumerate") p) [a] [] pos) (tI F X.K W (.enu ma)) := by
  refine PI.imp (pi_enumA hg hm (pas_cons hs ha.pe (pas_nil (F := F) (W := W) (X := X))) (star_ok hs [] X.env)) fun σ H R' ⟨ρ, st, μ, er, sr, p⟩ => ?_
  unfold evIt at p
  refine tMs1 er sr (fun c ds st1 e => ?_) (fun e => ?_) fun x st1 e v μ1 H1 f s r => ?_
  · rw [e] at p; exact p
  · rw [e] at p; exact p
  · rw [e, R.bind_ok] at p
    split at p
    · rename_i ds e
      unfold seqOf at e
      split at e
      · rename_i es e'
        cases e
        obtain ⟨ad, rfl, h⟩ := tup_fut (st0 := st1) r e'
        obtain ⟨vs, h3, _⟩ := h [] μ1 H1 st1 (Fr.refl _ _) s rfl
        exact ⟨ad, vs, rfl, .inr ⟨h3, p μ1 H1 _ f s (its_enuT (h _)) (chk_alive _ _)⟩⟩
      · obtain ⟨ad, rfl, h⟩ := lst_fut s r e
        obtain ⟨vs, h3, _⟩ := h μ1 H1 st1 (Fr.refl _ _) s (chk_alive _ _)
        exact ⟨ad, vs, rfl, .inl ⟨h3, p μ1 H1 _ f s (its_enu h) (chk_alive _ _)⟩⟩
    · exact p.elim
theorem mi_zip {es : List Expr} {k : Nat} {tp : Pos} (hg : Gl X (tx "zip")) (hm : X.mg (tx "zip") = none) (hs : isStarred a = false) (hs2 : isStarred b = false) (ha : Snd F W X a ma) (hb : Snd F W X b mb) :
    PI X (.Tuple es k tp) (.Call (.Name (tx "zip") p) [a, b] [] pos) (tI F X.K W (.zip ma mb)) := by
  refine PI.imp (RZ.pi_zipA hg hm (pas_cons hs ha.pe (pas_cons hs2 hb.pe (pas_nil (F := F) (W := W) (X := X)))) (star_ok hs [b] X.env) (plain1 hs2 _)) fun σ H R' ⟨ρ, st, μ, er, sr, p⟩ => ?_
  unfold evIt at p
  refine tMs2 er sr p fun x y st1 v w μ1 H1 f s r r2 p => ?_
  split at p
  · rename_i xs ys e1 e2
    have al : alive (chkOf st1 x ++ chkOf st1 y) st1 = true := by
      have h1 := chk_alive st1 x
      have h2 := chk_alive st1 y
      unfold alive at h1 h2 ⊢
      rw [List.all_append, h1, h2]; rfl
    split at e1
    · rename_i hk
      cases et : tupOf x with
      | some ds =>
        rw [et] at hk
        obtain ⟨es, et2⟩ := Option.isSome_iff_exists.mp hk.symm
        have e3 : ds = xs := by unfold seqOf at e1; rw [et] at e1; exact Option.some.inj e1
        have e4 : es = ys := by unfold seqOf at e2; rw [et2] at e2; exact Option.some.inj e2
        subst e3 e4
        obtain ⟨ad, rfl, h⟩ := tup_fut (st0 := st1) r et
        obtain ⟨bd, rfl, h'⟩ := tup_fut (st0 := st1) r2 et2
        obtain ⟨vs, h3, _⟩ := h [] μ1 H1 st1 (Fr.refl _ _) s rfl
        obtain ⟨ws, h4, _⟩ := h' [] μ1 H1 st1 (Fr.refl _ _) s rfl
        exact ⟨ad, bd, vs, ws, rfl, .inr ⟨h3, h4, p μ1 H1 _ f s (its_zipT fun μ H st f s a => ⟨h [] μ H st f s rfl, h' [] μ H st f s rfl⟩) al⟩⟩
      | none =>
        rw [et] at hk
        have et2 : tupOf y = none := by
          cases q : tupOf y with
          | none => rfl
          | some _ => rw [q] at hk; cases hk
        have e3 : lstOf st1 x = some xs := by unfold seqOf at e1; rw [et] at e1; exact e1
        have e4 : lstOf st1 y = some ys := by unfold seqOf at e2; rw [et2] at e2; exact e2
        obtain ⟨ad, rfl, h⟩ := lst_fut s r e3
        obtain ⟨bd, rfl, h'⟩ := lst_fut s r2 e4
        obtain ⟨vs, h3, _⟩ := h μ1 H1 st1 (Fr.refl _ _) s (chk_alive _ _)
        obtain ⟨ws, h4, _⟩ := h' μ1 H1 st1 (Fr.refl _ _) s (chk_alive _ _)
        exact ⟨ad, bd, vs, ws, rfl, .inl ⟨h3, h4, p μ1 H1 _ f s (its_zip fun μ H st f s a => ⟨h μ H st f s (alive_app a).1, h' μ H st f s (alive_app a).2⟩) al⟩⟩
    · cases e1
  · exact p.elim
end
end PM
end
section
/-! PM20: targets; comprehensions. -/
namespace PM
open PySem PySem.Spec PyProof.Rows L2

/-- nothing is raised -/
def WF : WS := fun _ _ _ _ _ _ _ => False
/-! ### names as targets -/
def gsNames : List Nat → TGs
  | [] => gNil
  | i :: is => gCons (gName i) (gsNames is)
def tG (K : PySem.W.Frag) : Tg → TG
  | .nm i => gName i
  | .tp is => gTup K is.length (gsNames is)
  | .sub _ _ => fun _ _ _ _ => False
def slotsOf : Tg → List Nat
  | .nm i => [i]
  | .tp is => is
  | .sub _ _ => []
theorem wipe_set {σ : LSt} {i : Nat} {v : Option V} : ∀ {vs : List Nat}, i ∈ vs → L2.wipe (σ.set i v) vs = L2.wipe σ vs
  | [], h => by cases h
  | j :: vs, h => by
    unfold L2.wipe
    by_cases e : j = i
    · subst e
      by_cases hj : j ∈ vs
      · rw [wipe_set hj]
      · clear h
        have : ∀ (vs : List Nat), (L2.wipe (σ.set j v) vs).set j none = (L2.wipe σ vs).set j none := fun vs => by
          induction vs with
          | nil => unfold L2.wipe; rw [List.set_set]
          | cons k vs ih =>
            unfold L2.wipe
            by_cases ek : k = j
            · subst ek; rw [List.set_set, List.set_set]; exact ih
            · rw [List.set_comm _ _ ek, ih, List.set_comm _ _ (Ne.symm ek)]
        exact this vs
    · rw [wipe_set ((List.mem_cons.mp h).resolve_left fun z => e z.symm)]
section
variable {K : PySem.W.Frag} {μ : Adrs} {H : Hp} {v : V} {d : D} {ρ ρ' : Env} {σ : LSt}
theorem gsNames_ok : ∀ {is : List Nat} {ds : List D} {vs : List V} {ρ : Env} {σ : LSt} {Q : LSt → Hp → Prop}, Reps K μ H vs ds → ds.length = is.length → ERep K μ H ρ σ →
    (∀ σ', ERep K μ H (setAll ρ is ds) σ' → (∀ ws, (∀ i ∈ is, i ∈ ws) → L2.wipe σ' ws = L2.wipe σ ws) → Q σ' H) → gsNames is vs σ H Q
  | [], _, _, ρ, σ, Q, .nil, _, er, k => ⟨rfl, k σ er fun _ _ => rfl⟩
  | [], _, _, ρ, σ, Q, .cons _ _, h, er, k => by simp at h
  | i :: is, _, _, ρ, σ, Q, .nil, h, er, k => by simp at h
  | i :: is, _, _, ρ, σ, Q, .cons (v := v) (vs := vs) (d := d) r t, h, er, k => ⟨v, vs, rfl, gsNames_ok t (by simpa using h) (er.set r i) fun σ' e' w' => k σ' e' fun ws hw => by
      rw [w' ws fun j hj => hw j (List.mem_cons_of_mem _ hj), wipe_set (hw i List.mem_cons_self)]⟩
theorem tG_ok {t : Tg} {Q : LSt → Hp → Prop} (r : Rep K μ H v d) (er : ERep K μ H ρ σ) (e : assignP t d ρ = some ρ')
    (k : ∀ σ', ERep K μ H ρ' σ' → (∀ ws, (∀ i ∈ slotsOf t, i ∈ ws) → L2.wipe σ' ws = L2.wipe σ ws) → Q σ' H) : tG K t v σ H Q := by
  cases t with
  | nm i =>
    cases e
    exact k _ (er.set r i) fun ws hw => wipe_set (hw i (by simp [slotsOf]))
  | tp is =>
    cases d with
    | tup ds =>
      replace e : (if ds.length = is.length then some (setAll ρ is ds) else none) = some ρ' := e
      split at e
      · rename_i hl
        cases e
        obtain ⟨a, vs, rfl, h, q⟩ := Rep.tup' r
        exact ⟨a, vs, rfl, SqT.of h, by rw [q.length]; exact hl, gsNames_ok q hl er k⟩
      · cases e
    | ktp ds =>
      replace e : (if ds.length = is.length then some (setAll ρ is ds) else none) = some ρ' := e
      split at e
      · rename_i hl
        cases e
        cases r with
        | ktp h q => exact ⟨_, _, rfl, h.sq, by rw [q.length]; exact hl, gsNames_ok q hl er k⟩
      · cases e
    | _ => cases e
  | sub _ _ => cases e
end
/-- what a context of the compiled text's gives -/
structure Ctx (F : FT) (c : CC) (X : Cx) : Prop where
  names : X.N = c.N
  nd : X.N.Nodup
  sc : X.env.scope = c.sc
  calm : X.calm = true
  units : X.A.units + 64 < cLine
  own : ∀ x, c.own.names.lookup x = some .cell → X.fn x = true
section
variable {F : FT} {c : CC} {X : Cx}
theorem slotW_ok (cx : Ctx F c X) {x : Str} {i : Nat} (h : slotW c x = some i) : X.N[i]? = some x ∧ Loc X.env.scope x ∧ (X.fn x = true ∨ X.env.scope.names.lookup x = some .local) ∧ idxS x c.N = some i := by
  have ix : ∀ (l : List Str) (i : Nat), idxS x l = some i → l[i]? = some x := fun l => by
    induction l with
    | nil => intro i h; cases h
    | cons y r ih =>
      intro i h
      unfold idxS at h
      split at h
      · rename_i e; cases h; subst e; rfl
      · simp only [Option.map_eq_some_iff] at h
        obtain ⟨j, h, rfl⟩ := h
        simpa using ih j h
  unfold slotW at h
  split at h
  · rename_i hl
    rw [cx.names, cx.sc]
    refine ⟨ix _ _ h, ?_⟩
    unfold locW at hl
    split at hl
    · rename_i e; exact ⟨.inl e, .inr e, h⟩
    · rename_i e
      exact ⟨.inr e, .inl (cx.own x (of_decide_eq_true hl)), h⟩
    · cases hl
  · cases h
theorem slotsW_ok (cx : Ctx F c X) : ∀ {es : List Expr} {is : List Nat}, slotsW c es = some is → PGs X es (gsNames is) ∧ (assignEach es X.env).length = is.length ∧ (assignEach es X.env).findIdx? (·.1) = none
  | [], is, h => by cases h; exact ⟨pgs_nil, rfl, rfl⟩
  | e :: es, is, h => by
    cases e with
    | Name x p =>
      unfold slotsW at h
      split at h
      · rename_i i js e1 e2
        cases h
        obtain ⟨h1, h2, h3, _⟩ := slotW_ok cx e1
        obtain ⟨k1, k2, k3⟩ := slotsW_ok cx e2
        refine ⟨pgs_cons (pg_name cx.nd h1 h2 h3) k1 rfl, by simp [assignEach, k2], ?_⟩
        simp only [assignEach, List.findIdx?_cons]
        rw [k3]; rfl
      · cases h
    | _ => cases h
theorem cT_ok (cx : Ctx F c X) {e : Expr} {t : Tg} (h : cT c e = some t) : PG X e (tG X.K t) := by
  cases e with
  | Name x p =>
    simp only [cT, Option.map_eq_some_iff] at h
    obtain ⟨i, h, rfl⟩ := h
    obtain ⟨h1, h2, h3, _⟩ := slotW_ok cx h
    exact pg_name cx.nd h1 h2 h3
  | Tuple es k p =>
    simp only [cT, Option.map_eq_some_iff] at h
    obtain ⟨is, h, rfl⟩ := h
    obtain ⟨k1, k2, k3⟩ := slotsW_ok cx h
    exact pg_tup cx.calm k1 k2 k3
  | _ => cases h
theorem slotW_ix {x : Str} {i : Nat} (h : slotW c x = some i) : idxS x c.N = some i := by
  unfold slotW at h
  split at h
  · exact h
  · cases h
theorem cT_slots {e : Expr} {t : Tg} (h : cT c e = some t) : ∀ i ∈ slotsOf t, i ∈ (ownOf c e).map (·.2) := by
  have one : ∀ {x : Str} {i : Nat}, slotW c x = some i → idxS x c.N = some i := fun h => slotW_ix h
  have many : ∀ {es : List Expr} {is : List Nat}, slotsW c es = some is → ∀ i ∈ is, ∃ x p, Expr.Name x p ∈ es ∧ idxS x c.N = some i := fun {es} => by
    induction es with
    | nil => intro is h i hi; cases h; cases hi
    | cons e es ih =>
      intro is h i hi
      cases e with
      | Name x p =>
        unfold slotsW at h
        split at h
        · rename_i j js e1 e2
          cases h
          rcases List.mem_cons.mp hi with rfl | hi
          · exact ⟨x, p, List.mem_cons_self, one e1⟩
          · obtain ⟨y, q, h1, h2⟩ := ih e2 i hi
            exact ⟨y, q, List.mem_cons_of_mem _ h1, h2⟩
        · cases h
      | _ => cases h
  cases e with
  | Name x p =>
    simp only [cT, Option.map_eq_some_iff] at h
    obtain ⟨i, h, rfl⟩ := h
    intro j hj
    have : j = i := by simpa [slotsOf] using hj
    subst this
    simp [ownOf, tgNames, one h]
  | Tuple es k p =>
    simp only [cT, Option.map_eq_some_iff] at h
    obtain ⟨is, h, rfl⟩ := h
    intro j hj
    obtain ⟨x, q, h1, h2⟩ := many h j hj
    simp only [ownOf, tgNames, List.mem_map, List.mem_filterMap]
    exact ⟨(x, j), ⟨x, ⟨.Name x q, h1, rfl⟩, by rw [h2]; rfl⟩, rfl⟩
  | _ => cases h
end
/-! ### tests of a clause -/
def tTs (F : FT) (K : PySem.W.Frag) (W : WS) (m : Es) : TT := fun σ H Q => ∃ ρ st μ, ERep K μ H ρ σ ∧ SRep K μ H st ∧ PostB K (W ρ σ) μ H Q (evTs F m ρ st)
theorem PTs.imp {X : Cx} {es : List Expr} {t t' : TT} (p : PTs X es t) (h : ∀ σ H Q, t' σ H Q → t σ H Q) : PTs X es t' :=
  ⟨fun pins s σ H Q I hq => p.run pins s σ H Q I (h σ H Q hq)⟩
section
variable {F : FT} {W : WS} {X : Cx}
theorem mts_nil : PTs X [] (tTs F X.K W .nil) := PTs.imp pts_nil fun σ H Q ⟨ρ, st, μ, er, sr, p⟩ => p μ H (Fr.refl _ _) sr
theorem mts_one {e : Expr} {m : E} (h : Snd F W X e m) : PTs X [e] (tTs F X.K W (.cons m .nil)) := PTs.imp (pts_one h.pt) fun σ H Q ⟨ρ, st, μ, er, sr, p⟩ => ⟨ρ, st, μ, er, sr, by
  have : evTs F (.cons m .nil) ρ st = evT F m ρ st := by unfold evTs evT; rfl
  rw [← this]; exact p⟩
end
/-! ### [e for t in i if c] -/
def lcBody (F : FT) (t : Tg) (own : List Nat) (cs : Es) (e : E) (ρ : Env) : D → PM.St → R (Option D) := fun d st2 => match assignP t d (wipeE ρ own) with
  | some ρ1 => (evTs F cs ρ1 st2).bind fun b st3 => if b then (evE F e ρ1 st3).bind fun x st4 => .ok (some (mat x st4).1) (mat x st4).2 else .ok none st3
  | none => .no
theorem cut_ok {α : Type} {r : R α} {a : α} {st : PM.St} (h : r.cut = .ok a st) : r = .ok a st := by
  cases r <;> first | exact h | cases h
theorem cut_ex {α : Type} {r : R α} {n : Nat} {ds : List D} {st : PM.St} : r.cut ≠ .ex n ds st := by
  cases r <;> intro h <;> cases h
theorem NewL1 {H : Hp} {v : V} {x : A} (n : New H v x) : New H v x := n
theorem lc_walk {F : FT} {K : PySem.W.Frag} {σ : LSt} {H : Hp} {Q : VK} {mi : It} {t : Tg} {own : List Nat} {cs : Es} {e : E} (hw : ∀ i ∈ slotsOf t, i ∈ own) (h : tM F K WF (.lc mi t own cs e) σ H Q) :
    tLc (tI F K WF mi) (tG K t) (tTs F K WF cs) (tM F K WF e) own σ H Q := by
  obtain ⟨ρ, st, μ, er, sr, p⟩ := h
  have p0 : Post K (WF ρ σ) μ H Q ((evIt F mi ρ st).bind fun q st1 => lcLoop q.2 (lcBody F t own cs e ρ) q.1 [] st1) := by
    unfold evE at p; exact p
  clear p
  refine ⟨ρ, st, μ, er, sr, ?_⟩
  cases q : evIt F mi ρ st with
  | no => rw [q] at p0; exact p0.elim
  | ex c ds st1 => rw [q] at p0; exact p0
  | ok it st1 =>
    obtain ⟨ds, chk⟩ := it
    rw [q, R.bind_ok] at p0
    intro μ1 H1 J f1 s1 its al Dn hD
    have base : ERep K μ1 H1 ρ σ := er.fr f1
    -- the walk's word
    refine ⟨fun i m H2 => m = ds.length - i ∧ i ≤ ds.length ∧ ∃ μ2 st2 acc vs, Fr μ1 H1 μ2 H2 ∧ SRep K μ2 H2 st2 ∧ Dn ∉ μ2 ∧ H2 Dn = some (.lst vs) ∧ Reps K μ2 H2 vs acc ∧ Post K (WF ρ σ) μ H Q (lcLoop chk (lcBody F t own cs e ρ) (ds.drop i) acc st2),
      ⟨ds.length, by simp, Nat.zero_le _, μ1, st1, [], [], Fr.new hD (s1.notin hD), s1.laid hD, s1.notin hD, upd_same, .nil, p0⟩, ?_⟩
    rintro i m H2 ⟨rfl, hi, μ2, st2, acc, vs, f2, s2, nD, hv, ra, p2⟩
    by_cases hlt : i < ds.length
    · have ed : ds.drop i = ds[i] :: ds.drop (i + 1) := (List.drop_eq_getElem_cons hlt)
      rw [ed] at p2
      unfold lcLoop at p2
      split at p2
      · rename_i ha
        obtain ⟨hgo, hy⟩ := its.go i μ2 H2 st2 f2 s2 ha ds[i] (List.getElem?_eq_getElem hlt)
        refine .inr ⟨hgo, fun H3 => i + 1 ≤ ds.length ∧ ∃ μ3 st3 acc vs, Fr μ1 H1 μ3 H3 ∧ SRep K μ3 H3 st3 ∧ Dn ∉ μ3 ∧ H3 Dn = some (.lst vs) ∧ Reps K μ3 H3 vs acc ∧ Post K (WF ρ σ) μ H Q (lcLoop chk (lcBody F t own cs e ρ) (ds.drop (i + 1)) acc st3),
          fun H' ⟨hl, w⟩ => ⟨ds.length - (i + 1), by omega, rfl, hl, w⟩, fun x H3 yx => ?_⟩
        obtain ⟨fy, sy, ry⟩ := hy x H3 yx
        -- the turn
        cases eb : lcBody F t own cs e ρ ds[i] st2 with
        | no => rw [eb] at p2; exact p2.elim
        | ex n es st3 => rw [eb] at p2; exact p2.elim
        | ok o st3 =>
          rw [eb] at p2
          replace p2 : Post K (WF ρ σ) μ H Q (match (generalizing := false) o with
            | some x => if acc.length < szMax then lcLoop chk (lcBody F t own cs e ρ) (ds.drop (i + 1)) (acc ++ [x]) st3 else .no
            | none => lcLoop chk (lcBody F t own cs e ρ) (ds.drop (i + 1)) acc st3) := p2
          unfold lcBody at eb
          split at eb
          · rename_i ρ1 ea
            have F3 := f2.trans fy
            refine tG_ok ry ((base.fr F3).wipe own) ea fun σ3 e3 w3 => ⟨?_, ?_⟩
            · rw [w3 own hw]
              have : ∀ (vs : List Nat), L2.wipe (L2.wipe σ vs) vs = L2.wipe σ vs := fun vs => by
                have h2 : ∀ (ws : List Nat) (τ : LSt), (∀ i ∈ ws, i ∈ vs) → L2.wipe (L2.wipe τ ws) vs = L2.wipe τ vs := fun ws => by
                  induction ws with
                  | nil => intro τ _; rfl
                  | cons j ws ih =>
                    intro τ hj
                    show L2.wipe ((L2.wipe τ ws).set j none) vs = _
                    rw [wipe_set (hj j List.mem_cons_self), ih τ fun k hk => hj k (List.mem_cons_of_mem _ hk)]
                exact h2 vs σ fun _ h => h
              exact this own
            · refine ⟨ρ1, st2, μ2, e3, sy, ?_⟩
              cases et : evTs F cs ρ1 st2 with
              | no => rw [et] at eb; cases eb
              | ex _ _ _ => rw [et] at eb; cases eb
              | ok b st4 =>
                rw [et, R.bind_ok] at eb
                intro μ4 H4 f4 s4
                have F4 := F3.trans f4
                obtain ⟨hv3, nD3⟩ := fy.keep Dn _ hv nD
                obtain ⟨hv4, nD4⟩ := f4.keep Dn _ hv3 nD3
                cases b with
                | false =>
                  simp only [Bool.false_eq_true, if_false] at eb ⊢
                  cases eb
                  exact ⟨hlt, μ4, _, acc, vs, F4, s4, nD4, hv4, (ra.fr fy).fr f4, p2⟩
                | true =>
                  simp only [if_true] at eb ⊢
                  refine ⟨ρ1, st4, μ4, e3.fr f4, s4, ?_⟩
                  cases ee : evE F e ρ1 st4 with
                  | no => rw [ee] at eb; cases eb
                  | ex _ _ _ => rw [ee] at eb; cases eb
                  | ok y st5 =>
                    rw [ee, R.bind_ok] at eb
                    cases eb
                    intro vy μ5 H5 f5 s5 r5 n5
                    obtain ⟨hv5, nD5⟩ := f5.keep Dn _ hv4 nD4
                    have ny : New H4 vy y := n5
                    obtain ⟨μ6, f6, s6, r6, q6, m6⟩ := mat_ok f5 s5 r5 ny
                    dsimp only at p2
                    split at p2
                    · rename_i hl
                      have nD6 : Dn ∉ μ6 := fun hm => by
                        rcases m6 Dn hm with z | z
                        · exact nD5 z
                        · have := n5 Dn z
                          rw [hv4] at this; cases this
                      have ra6 : Reps K μ6 H5 vs acc := Reps.frq q6 (((ra.fr fy).fr f4).fr f5)
                      refine ⟨vs, hv5, by rw [ra.length, szL]; exact hl, hlt, μ6, _, acc ++ [(mat y st5).1], vs ++ [vy], (F4.trans f6).refill hD, s6.refillM hv5 (.inl ⟨_, rfl⟩) nD6, nD6, upd_same, ?_, p2⟩
                      exact Reps.frq (Fq.refillM hv5 (.inl ⟨_, rfl⟩)) (ra6.append (.cons r6 .nil))
                    · exact p2.elim
          · cases eb
      · exact p2.elim
    · have e0 : i = ds.length := by omega
      subst e0
      rw [List.drop_length] at p2
      unfold lcLoop at p2
      split at p2
      · rename_i ha
        refine .inl ⟨its.stop _ μ2 H2 st2 f2 s2 ha (Nat.le_refl _), ?_⟩
        exact p2 (.ref Dn) μ2 H2 (f1.trans f2) s2 ⟨Dn, vs, rfl, hv, nD, ra⟩ (New.at (f1.some Dn hD))
      · exact p2.elim
end PM
end
section
/-! PM21: comprehensions of dicts; both as expressions. -/
namespace PM
open PySem PySem.Spec PyProof.Rows L2
theorem KRep.frq {K : PySem.W.Frag} {μ μ' : Adrs} {H H' : Hp} {es : List (Key × V)} {kvs : List (D × D)} (f : Fq μ H μ' H') (r : KRep K μ H es kvs) : KRep K μ' H' es kvs := Paired.imp (fun _ _ z => ⟨z.1, z.2.frq f⟩) r
theorem KRep.fr {K : PySem.W.Frag} {μ μ' : Adrs} {H H' : Hp} {es : List (Key × V)} {kvs : List (D × D)} (f : Fr μ H μ' H') (r : KRep K μ H es kvs) : KRep K μ' H' es kvs := KRep.frq f.q r
def dcBody (F : FT) (t : Tg) (own : List Nat) (cs : Es) (k v : E) (ρ : Env) : D → PM.St → R (Option (D × D)) := fun d st2 => match assignP t d (wipeE ρ own) with
  | some ρ1 => (evTs F cs ρ1 st2).bind fun b st3 => if b then (evE F k ρ1 st3).bind fun x st4 => (evE F v ρ1 st4).bind fun y st5 => match x with
      | .v x => .ok (some (x, (mat y st5).1)) (mat y st5).2
      | _ => .no
    else .ok none st3
  | none => .no
theorem dc_walk {F : FT} {K : PySem.W.Frag} {σ : LSt} {H : Hp} {Q : VK} {mi : It} {t : Tg} {own : List Nat} {cs : Es} {ek ev : E} (hw : ∀ i ∈ slotsOf t, i ∈ own) (h : tM F K WF (.dc mi t own cs ek ev) σ H Q) :
    tDc (tI F K WF mi) (tG K t) (tTs F K WF cs) (tM F K WF ek) (tM F K WF ev) own σ H Q := by
  obtain ⟨ρ, st, μ, er, sr, p⟩ := h
  have p0 : Post K (WF ρ σ) μ H Q ((evIt F mi ρ st).bind fun q st1 => dcLoop q.2 (dcBody F t own cs ek ev ρ) q.1 [] st1) := by
    unfold evE at p; exact p
  clear p
  refine ⟨ρ, st, μ, er, sr, ?_⟩
  cases q : evIt F mi ρ st with
  | no => rw [q] at p0; exact p0.elim
  | ex c ds st1 => rw [q] at p0; exact p0
  | ok it st1 =>
    obtain ⟨ds, chk⟩ := it
    rw [q, R.bind_ok] at p0
    intro μ1 H1 J f1 s1 its al Dn hD
    have base : ERep K μ1 H1 ρ σ := er.fr f1
    -- the walk's word
    refine ⟨fun i m H2 => m = ds.length - i ∧ i ≤ ds.length ∧ ∃ μ2 st2 acc vs, Fr μ1 H1 μ2 H2 ∧ SRep K μ2 H2 st2 ∧ Dn ∉ μ2 ∧ H2 Dn = some (.dK vs) ∧ KRep K μ2 H2 vs acc ∧ Post K (WF ρ σ) μ H Q (dcLoop chk (dcBody F t own cs ek ev ρ) (ds.drop i) acc st2),
      ⟨ds.length, by simp, Nat.zero_le _, μ1, st1, [], [], Fr.new hD (s1.notin hD), s1.laid hD, s1.notin hD, upd_same, .nil, p0⟩, ?_⟩
    rintro i m H2 ⟨rfl, hi, μ2, st2, acc, vs, f2, s2, nD, hv, ra, p2⟩
    by_cases hlt : i < ds.length
    · have ed : ds.drop i = ds[i] :: ds.drop (i + 1) := (List.drop_eq_getElem_cons hlt)
      rw [ed] at p2
      unfold dcLoop at p2
      split at p2
      · rename_i ha
        obtain ⟨hgo, hy⟩ := its.go i μ2 H2 st2 f2 s2 ha ds[i] (List.getElem?_eq_getElem hlt)
        refine .inr ⟨hgo, fun H3 => i + 1 ≤ ds.length ∧ ∃ μ3 st3 acc vs, Fr μ1 H1 μ3 H3 ∧ SRep K μ3 H3 st3 ∧ Dn ∉ μ3 ∧ H3 Dn = some (.dK vs) ∧ KRep K μ3 H3 vs acc ∧ Post K (WF ρ σ) μ H Q (dcLoop chk (dcBody F t own cs ek ev ρ) (ds.drop (i + 1)) acc st3),
          fun H' ⟨hl, w⟩ => ⟨ds.length - (i + 1), by omega, rfl, hl, w⟩, fun x H3 yx => ?_⟩
        obtain ⟨fy, sy, ry⟩ := hy x H3 yx
        -- the turn
        cases eb : dcBody F t own cs ek ev ρ ds[i] st2 with
        | no => rw [eb] at p2; exact p2.elim
        | ex n es st3 => rw [eb] at p2; exact p2.elim
        | ok o st3 =>
          rw [eb] at p2
          replace p2 : Post K (WF ρ σ) μ H Q (match (generalizing := false) o with
            | some x => if acc.length < szMax && keyK x.1 then dcLoop chk (dcBody F t own cs ek ev ρ) (ds.drop (i + 1)) (putD acc x.1 x.2) st3 else .no
            | none => dcLoop chk (dcBody F t own cs ek ev ρ) (ds.drop (i + 1)) acc st3) := p2
          unfold dcBody at eb
          split at eb
          · rename_i ρ1 ea
            have F3 := f2.trans fy
            refine tG_ok ry ((base.fr F3).wipe own) ea fun σ3 e3 w3 => ⟨?_, ?_⟩
            · rw [w3 own hw]
              have : ∀ (vs : List Nat), L2.wipe (L2.wipe σ vs) vs = L2.wipe σ vs := fun vs => by
                have h2 : ∀ (ws : List Nat) (τ : LSt), (∀ i ∈ ws, i ∈ vs) → L2.wipe (L2.wipe τ ws) vs = L2.wipe τ vs := fun ws => by
                  induction ws with
                  | nil => intro τ _; rfl
                  | cons j ws ih =>
                    intro τ hj
                    show L2.wipe ((L2.wipe τ ws).set j none) vs = _
                    rw [wipe_set (hj j List.mem_cons_self), ih τ fun k hk => hj k (List.mem_cons_of_mem _ hk)]
                exact h2 vs σ fun _ h => h
              exact this own
            · refine ⟨ρ1, st2, μ2, e3, sy, ?_⟩
              cases et : evTs F cs ρ1 st2 with
              | no => rw [et] at eb; cases eb
              | ex _ _ _ => rw [et] at eb; cases eb
              | ok b st4 =>
                rw [et, R.bind_ok] at eb
                intro μ4 H4 f4 s4
                have F4 := F3.trans f4
                obtain ⟨hv3, nD3⟩ := fy.keep Dn _ hv nD
                obtain ⟨hv4, nD4⟩ := f4.keep Dn _ hv3 nD3
                cases b with
                | false =>
                  simp only [Bool.false_eq_true, if_false] at eb ⊢
                  cases eb
                  exact ⟨hlt, μ4, _, acc, vs, F4, s4, nD4, hv4, (KRep.fr fy ra |> KRep.fr f4), p2⟩
                | true =>
                  simp only [if_true] at eb ⊢
                  refine ⟨ρ1, st4, μ4, e3.fr f4, s4, ?_⟩
                  cases ee : evE F ek ρ1 st4 with
                  | no => rw [ee] at eb; cases eb
                  | ex _ _ _ => rw [ee] at eb; cases eb
                  | ok z st5 =>
                    rw [ee, R.bind_ok] at eb
                    intro vz μ5 H5 f5 s5 r5 n5
                    refine ⟨ρ1, st5, μ5, (e3.fr f4).fr f5, s5, ?_⟩
                    cases ev' : evE F ev ρ1 st5 with
                    | no => rw [ev'] at eb; cases eb
                    | ex _ _ _ => rw [ev'] at eb; cases eb
                    | ok y st6 =>
                      rw [ev', R.bind_ok] at eb
                      intro vy μ6 H6 f6 s6 r6 n6
                      obtain ⟨hv5, nD5⟩ := f5.keep Dn _ hv4 nD4
                      obtain ⟨hv6, nD6⟩ := f6.keep Dn _ hv5 nD5
                      have ny : New H5 vy y := n6
                      obtain ⟨μ7, f7, s7, r7, q7, m7⟩ := mat_ok f6 s6 r6 ny
                      split at eb
                      · rename_i dk
                        cases eb
                        dsimp only at p2
                        split at p2
                        · rename_i hl
                          rw [Bool.and_eq_true, decide_eq_true_eq] at hl
                          obtain ⟨kk, rfl, rfl⟩ := (show Rep K μ5 H5 vz dk from r5).key hl.2
                          have nD7 : Dn ∉ μ7 := fun hm => by
                            rcases m7 Dn hm with z | z
                            · exact nD6 z
                            · have := n6 Dn z
                              rw [hv5] at this; cases this
                          have ra7 : KRep K μ7 H6 vs acc := KRep.frq q7 (KRep.fr f6 (KRep.fr f5 (KRep.fr f4 (KRep.fr fy ra))))
                          refine ⟨vs, kk, rfl, hv6, by rw [Paired.length ra, szL]; exact hl.1, hlt, μ7, _, putD acc (kD kk) (mat y st6).1, putK vs kk vy, ((F4.trans f5).trans f7).refill hD, s7.refillM hv6 (.inr (.inl ⟨_, rfl⟩)) nD7, nD7, upd_same, ?_, p2⟩
                          exact KRep.frq (Fq.refillM hv6 (.inr (.inl ⟨_, rfl⟩))) (ra7.put r7)
                        · exact p2.elim
                      · cases eb
          · cases eb
      · exact p2.elim
    · have e0 : i = ds.length := by omega
      subst e0
      rw [List.drop_length] at p2
      unfold dcLoop at p2
      split at p2
      · rename_i ha
        refine .inl ⟨its.stop _ μ2 H2 st2 f2 s2 ha (Nat.le_refl _), ?_⟩
        exact p2 (.ref Dn) μ2 H2 (f1.trans f2) s2 ⟨Dn, vs, rfl, nD, hv, ra⟩ (New.at (f1.some Dn hD))
      · exact p2.elim
section
variable {F : FT} {X : Cx} {c : CC} {tg iter : Expr} {ifs : List Expr} {scope : Scope} {pos : Pos}
/-- a block's context -/
def BlkCx (X : Cx) (scope : Scope) (X' : Cx) : Prop := ∃ s H C cl fp, X' = X.blk s H scope (compEnvC scope cl C X.env) fp
theorem notSet_ok {e : Expr} {env : PySem.Env} (h : ∀ es k p, e ≠ .Set es k p) : ∀ x, foldedSetIterable e env x = pure x := by
  intro x
  cases e <;> first | rfl | exact absurd rfl (h _ _ _)
theorem me_lc {own : List (Str × Nat)} {elt : Expr} {mi : It} {t : Tg} {cs : Es} {e : E} (hc : X.calm = true) (hN : X.N.Nodup) (hi : PI X tg iter (tI F X.K WF mi)) (ok : BlkOk X.N X.env.scope scope own) (hw : ∀ i ∈ slotsOf t, i ∈ own.map (·.2)) (hs : ∀ es k p, iter ≠ .Set es k p)
    (hg : ∀ X', BlkCx X scope X' → PG X' tg (tG X'.K t)) (ht : ∀ X', BlkCx X scope X' → PTs X' ifs (tTs F X'.K WF cs)) (he : ∀ X', BlkCx X scope X' → PE X' elt (tM F X'.K WF e)) :
    Snd F WF X (.ListComp elt [⟨tg, iter, ifs, 0⟩] scope pos) (.lc mi t (own.map (·.2)) cs e) := by
  have p : PE X (.ListComp elt [⟨tg, iter, ifs, 0⟩] scope pos) (tM F X.K WF (.lc mi t (own.map (·.2)) cs e)) :=
    PE.imp (pe_lc hc hN hi ok (fun s H C cl fp => hg _ ⟨s, H, C, cl, fp, rfl⟩) (fun s H C cl fp => ht _ ⟨s, H, C, cl, fp, rfl⟩) (fun s H C cl fp => he _ ⟨s, H, C, cl, fp, rfl⟩) (notSet_ok hs)) fun σ H Q h => lc_walk hw h
  exact ⟨p, mt_val p fun _ => rfl⟩
theorem me_dc {own : List (Str × Nat)} {kx vx : Expr} {mi : It} {t : Tg} {cs : Es} {ek ev : E} (hc : X.calm = true) (hN : X.N.Nodup) (hi : PI X tg iter (tI F X.K WF mi)) (ok : BlkOk X.N X.env.scope scope own) (hw : ∀ i ∈ slotsOf t, i ∈ own.map (·.2)) (hs : ∀ es k p, iter ≠ .Set es k p)
    (hg : ∀ X', BlkCx X scope X' → PG X' tg (tG X'.K t)) (ht : ∀ X', BlkCx X scope X' → PTs X' ifs (tTs F X'.K WF cs)) (hk : ∀ X', BlkCx X scope X' → PE X' kx (tM F X'.K WF ek)) (he : ∀ X', BlkCx X scope X' → PE X' vx (tM F X'.K WF ev)) :
    Snd F WF X (.DictComp kx vx [⟨tg, iter, ifs, 0⟩] scope pos) (.dc mi t (own.map (·.2)) cs ek ev) := by
  have p : PE X (.DictComp kx vx [⟨tg, iter, ifs, 0⟩] scope pos) (tM F X.K WF (.dc mi t (own.map (·.2)) cs ek ev)) :=
    PE.imp (pe_dc hc hN hi ok (fun s H C cl fp => hg _ ⟨s, H, C, cl, fp, rfl⟩) (fun s H C cl fp => ht _ ⟨s, H, C, cl, fp, rfl⟩) (fun s H C cl fp => hk _ ⟨s, H, C, cl, fp, rfl⟩) (fun s H C cl fp => he _ ⟨s, H, C, cl, fp, rfl⟩) (notSet_ok hs)) fun σ H Q h => dc_walk hw h
  exact ⟨p, mt_val p fun _ => rfl⟩
end
end PM
end
section
/-! PM22: statements: M's meaning as a reading; stores, blocks, loops. -/
namespace PM
open PySem PySem.Spec PyProof.Rows L2

def PostS (K : PySem.W.Frag) (μ : Adrs) (H : Hp) (En : Ends) : RS → Prop
  | .ok .nx ρ st => ∀ σ' μ' H', Fr μ H μ' H' → SRep K μ' H' st → ERep K μ' H' ρ σ' → En.nx σ' H'
  | .ok .bk ρ st => ∀ σ' μ' H', Fr μ H μ' H' → SRep K μ' H' st → ERep K μ' H' ρ σ' → En.bk σ' H'
  | .ok .ct ρ st => ∀ σ' μ' H', Fr μ H μ' H' → SRep K μ' H' st → ERep K μ' H' ρ σ' → En.ct σ' H'
  | .ok (.rt x) _ st => ∀ v μ' H', Fr μ H μ' H' → SRep K μ' H' st → ARep K μ' H' v x → New H v x → En.rt v H'
  | .ex _ _ _ _ => False
  | .no => False
def tS (F : FT) (K : PySem.W.Frag) (m : S) : TS := fun En σ H => ∃ ρ st μ, ERep K μ H ρ σ ∧ SRep K μ H st ∧ PostS K μ H En (evS F m ρ st)
def tSs (F : FT) (K : PySem.W.Frag) (m : Ss) : TS := fun En σ H => ∃ ρ st μ, ERep K μ H ρ σ ∧ SRep K μ H st ∧ PostS K μ H En (evSs F m ρ st)
theorem PS.imp {X : Cx} {s : Stmt} {t t' : TS} (p : PS X s t) (h : ∀ D σ H, t' D σ H → t D σ H) : PS X s t' := ⟨fun pins s σ H D I hq => p.run pins s σ H D I (h D σ H hq)⟩
theorem PSs.imp {X : Cx} {s : List Stmt} {t t' : TS} (p : PSs X s t) (h : ∀ D σ H, t' D σ H → t D σ H) : PSs X s t' := ⟨fun pins s σ H D I hq => p.run pins s σ H D I (h D σ H hq)⟩
section
variable {K : PySem.W.Frag} {μ μ1 : Adrs} {H H1 : Hp} {En : Ends} {F : FT} {ρ : Env} {σ : LSt} {st : PM.St}
theorem PostS.trans {r : RS} (f : Fr μ H μ1 H1) (h : PostS K μ H En r) : PostS K μ1 H1 En r := by
  cases r with
  | ok fl ρ st =>
    cases fl with
    | nx => exact fun σ' μ' H' g s e => h σ' μ' H' (f.trans g) s e
    | bk => exact fun σ' μ' H' g s e => h σ' μ' H' (f.trans g) s e
    | ct => exact fun σ' μ' H' g s e => h σ' μ' H' (f.trans g) s e
    | rt x => exact fun v μ' H' g s a n => h v μ' H' (f.trans g) s a (n.mono f)
  | ex c ds ρ st => exact h
  | no => exact h
/-- an expression, then the rest of a statement -/
theorem tM.stepS {m : E} {k : A → PM.St → RS} {μ0 : Adrs} {H0 : Hp} (er : ERep K μ H ρ σ) (sr : SRep K μ H st) (h : PostS K μ0 H0 En ((evE F m ρ st).toS ρ k)) :
    tM F K WF m σ H (fun v H1 => ∃ x st1 μ1, Fr μ H μ1 H1 ∧ SRep K μ1 H1 st1 ∧ ARep K μ1 H1 v x ∧ New H v x ∧ PostS K μ0 H0 En (k x st1)) := by
  refine tM.elim er sr (fun x st1 e v μ1 H1 f s r n => ⟨x, st1, μ1, f, s, r, n, ?_⟩) (fun c ds st1 e => ?_) (fun e => ?_)
  · rw [e] at h; exact h
  · rw [e] at h; exact h.elim
  · rw [e] at h; exact h
/-! ### stores o[i] = v -/
section
variable {X : Cx}
def rSetM (K : PySem.W.Frag) : TSet := fun o i v H Q => (∃ p xs k j, o = .ref p ∧ i = .int k ∧ H p = some (.lst xs) ∧ L2.ixN xs.length k = some j ∧ Q (upd H p (.lst (xs.set j v)))) ∨
  (∃ a H', o = .ref a ∧ DPut H a i v H' ∧ Q H') ∨ (∃ a H', o = .ref a ∧ H a = some (.dK []) ∧ DPut (upd H a (.dT [])) a i v H' ∧ Q H') ∨ ∃ a H', o = .ref a ∧ H a = some (.dT []) ∧ DPut (upd H a (.dK [])) a i v H' ∧ Q H'
theorem set_M (hu : X.A.units + 1 < cLine) : PSet X (rSetM X.K) := by
  intro pins s σ H o i v ov iv u Q I ro ri rv h
  rcases h with h | ⟨a, H', eo, g, q⟩ | ⟨a, H', eo, e, g, q⟩ | ⟨a, H', eo, e, g, q⟩
  · exact set_list pins s σ H o i v ov iv u Q I ro ri rv h
  · exact set_dict hu pins s σ H o i v ov iv u Q I ro ri rv ⟨a, H', eo, g, q⟩
  · exact set_dict hu pins s σ _ o i v ov iv u Q (conv_T I e) ro ri rv ⟨a, H', eo, g, q⟩
  · exact set_dict hu pins s σ _ o i v ov iv u Q (conv_K I e) ro ri rv ⟨a, H', eo, g, q⟩
end
theorem ptm (h : ∀ b ∈ μ, b ∈ μ1) : True := trivial
/-- the store itself -/
theorem put_ok {μ0 : Adrs} {H0 : Hp} {n : Nat} {k dx : D} {a : Addr} {vk vx : V} {Q : Hp → Prop} (f : Fr μ0 H0 μ H) (sr : SRep K μ H st) (hm : μ[n]? = some a) (rk : Rep K μ H vk k) (rx : Rep K μ H vx dx)
    (h : PostS K μ0 H0 En (match getK st n with
      | some kvs => if askOk kvs k && decide (kvs.length < szMax) then .ok .nx ρ (setO st n (.dct (putD kvs k dx))) else .no
      | none => match (generalizing := false) getL st n, k with
        | some ds, .int i => match PM.ixN ds.length i with
          | some j => .ok .nx ρ (setO st n (.lst (ds.set j dx)))
          | none => .no
        | _, _ => .no))
    (q : ∀ H' st', PostS K μ0 H0 En (.ok .nx ρ st') → Fr μ0 H0 μ H' → SRep K μ H' st' → Q H') : rSetM K (.ref a) vk vx H Q := by
  have mem := List.mem_of_getElem? hm
  split at h
  · rename_i kvs e
    split at h
    · rename_i hk
      rw [Bool.and_eq_true, decide_eq_true_eq] at hk
      obtain ⟨hk, hl⟩ := hk
      have en := getK_some e
      have dr : DRep K μ H a kvs := sr.obj n _ a en hm
      have nl : ([] : List (D × D)).length < sizeLine := by rw [szN]; decide
      have fin : ∀ {o : HO}, DRep K μ (upd H a o) a (putD kvs k dx) → Q (upd H a o) := fun {o} r => q _ _ h (f.trans (Fr.put mem)) (sr.set hm r)
      simp only [askOk, Bool.or_eq_true, Bool.and_eq_true] at hk
      rcases hk with ⟨h1, h2⟩ | ⟨h1, h2⟩
      · obtain ⟨kk, rfl, rfl⟩ := rk.key h1
        rcases dr with ⟨es, h3, p⟩ | ⟨es, h3, p⟩
        · have p' : KRep K μ H es kvs := p
          refine .inr (.inl ⟨a, _, rfl, DPut.k h3 (by rw [Paired.length p, szL]; exact hl), fin (.inl ⟨_, upd_same, ?_⟩)⟩)
          exact KRep.fr (Fr.put mem) (p'.put rx)
        · obtain ⟨rfl, rfl⟩ := flat_tup p h2
          refine .inr (.inr (.inr ⟨a, _, rfl, h3, DPut.k upd_same nl, ?_⟩))
          rw [upd_upd]
          exact fin (.inl ⟨_, upd_same, KRep.fr (Fr.put mem) (KRep.put (es := []) (kvs := []) .nil rx)⟩)
      · obtain ⟨b, ks, rfl, rfl, hb⟩ := rk.tupKey h1
        rcases dr with ⟨es, h3, p⟩ | ⟨es, h3, p⟩
        · obtain ⟨rfl, rfl⟩ := tup_flat p h2
          refine .inr (.inr (.inl ⟨a, _, rfl, h3, DPut.t upd_same (by rw [upd_ne (ne_of hb h3 (by intro z; cases z))]; exact hb) nl, ?_⟩))
          rw [upd_upd]
          have t0 : TRep K μ H (putK ([] : List (List Key × V)) ks vx) (putD [] (.tup (ks.map kD)) dx) := TRep.put (es := []) (kvs := []) .nil rx
          exact fin (.inr ⟨_, upd_same, Paired.imp (fun _ _ z => ⟨z.1, z.2.fr (Fr.put mem)⟩) t0⟩)
        · have p' : TRep K μ H es kvs := p
          refine .inr (.inl ⟨a, _, rfl, DPut.t h3 hb (by rw [Paired.length p, szL]; exact hl), fin (.inr ⟨_, upd_same, ?_⟩)⟩)
          exact Paired.imp (fun _ _ z => ⟨z.1, z.2.fr (Fr.put mem)⟩) (p'.put rx)
    · exact h.elim
  · split at h
    · rename_i ds i e
      split at h
      · rename_i j ej
        obtain ⟨vs, hv, rv⟩ := sr.obj n _ a (getL_some e) hm
        cases Rep.int' rk
        refine .inl ⟨a, vs, i, j, rfl, rfl, hv, by rw [rv.length]; exact ej, ?_⟩
        have g := Fr.put (o := .lst (vs.set j vx)) (H := H) mem
        exact q _ _ h (f.trans g) (sr.set hm ⟨_, upd_same, (rv.set rx j).fr g⟩)
      · exact h.elim
    · exact h.elim
end
end PM
end
section
/-! PM23: statements, each by its parts. -/
namespace PM
open PySem PySem.Spec PyProof.Rows L2
abbrev SndS (F : FT) (X : Cx) (s : Stmt) (m : S) : Prop := PS X s (tS F X.K m)
abbrev SndSs (F : FT) (X : Cx) (s : List Stmt) (m : Ss) : Prop := PSs X s (tSs F X.K m)
section
variable {F : FT} {X : Cx} {e : Expr} {m : E} {pos : Pos} {s : Stmt} {ms : S} {ss : List Stmt} {mss : Ss}
theorem mss_nil : SndSs F X [] .nil := PSs.imp pss_nil fun En σ H ⟨ρ, st, μ, er, sr, p⟩ => p σ μ H (Fr.refl _ _) sr er
theorem mss_cons (h : SndS F X s ms) (hs : SndSs F X ss mss) : SndSs F X (s :: ss) (.cons ms mss) := PSs.imp (pss_cons h hs) fun En σ H ⟨ρ, st, μ, er, sr, p⟩ => by
  unfold evSs at p
  refine ⟨ρ, st, μ, er, sr, ?_⟩
  cases q : evS F ms ρ st with
  | no => rw [q] at p; exact p
  | ex c ds ρ' st' => rw [q] at p; exact p
  | ok fl ρ' st' =>
    rw [q] at p
    cases fl with
    | nx => exact fun σ' μ' H' f s e' => ⟨ρ', st', μ', e', s, PostS.trans f p⟩
    | bk => exact p
    | ct => exact p
    | rt x => exact p
theorem noComp {t : Option Expr} {l : Nat} {env : PySem.Env} (h : isComp e = false) : swapsWith e t l env = pure false := by
  cases e <;> first | rfl | (simp [isComp] at h)
theorem ms_ex (hc : isComp e = false) (he : Snd F WF X e m) : SndS F X (.Expr e pos) (.ex m) := PS.imp (ps_expr he.pe (noComp hc)) fun En σ H ⟨ρ, st, μ, er, sr, p⟩ => by
  unfold evS at p
  obtain ⟨ρ1, st1, μ1, e1, s1, p1⟩ := tM.stepS er sr p
  exact ⟨ρ1, st1, μ1, e1, s1, p1.mono fun v H1 ⟨x, st2, μ2, f2, s2, r2, n2, h2⟩ => h2 σ μ2 H1 f2 s2 (er.fr f2)⟩
theorem ms_ret (he : Snd F WF X e m) : SndS F X (.Return (some e) pos) (.ret m) := PS.imp (ps_ret he.pe) fun En σ H ⟨ρ, st, μ, er, sr, p⟩ => by
  unfold evS at p
  obtain ⟨ρ1, st1, μ1, e1, s1, p1⟩ := tM.stepS er sr p
  exact ⟨ρ1, st1, μ1, e1, s1, p1.mono fun v H1 ⟨x, st2, μ2, f2, s2, r2, n2, h2⟩ => h2 v μ2 H1 f2 s2 r2 n2⟩
theorem ms_retN : SndS F X (.Return none pos) (.ret (.cst .non)) := PS.imp ps_retN fun En σ H ⟨ρ, st, μ, er, sr, p⟩ => by
  have p' : PostS X.K μ H En (.ok (.rt (.v .non)) ρ st) := by unfold evS evE at p; exact p
  exact p' .non μ H (Fr.refl _ _) sr (show Rep X.K μ H .non .non from .non) New.val
theorem ms_pas : SndS F X (.Pass pos) .pas := PS.imp ps_pass fun En σ H ⟨ρ, st, μ, er, sr, p⟩ => by
  unfold evS at p; exact p σ μ H (Fr.refl _ _) sr er
theorem ms_brk : SndS F X (.Break pos) .brk := PS.imp ps_break fun En σ H ⟨ρ, st, μ, er, sr, p⟩ => by
  unfold evS at p; exact p σ μ H (Fr.refl _ _) sr er
theorem ms_cnt : SndS F X (.Continue pos) .cnt := PS.imp ps_continue fun En σ H ⟨ρ, st, μ, er, sr, p⟩ => by
  unfold evS at p; exact p σ μ H (Fr.refl _ _) sr er
theorem evS_iff {ρ : Env} {st : PM.St} {a b : Ss} : evS F (.iff m a b) ρ st = (evT F m ρ st).toS ρ fun k st2 => if k then evSs F a ρ st2 else evSs F b ρ st2 := by
  unfold evS evT
  cases evE F m ρ st <;> rfl
theorem ms_if {a b : List Stmt} {ma mb : Ss} (hc : Snd F WF X e m) (ha : SndSs F X a ma) (hb : SndSs F X b mb) : SndS F X (.If e a b pos) (.iff m ma mb) := PS.imp (ps_if hc.pt ha hb) fun En σ H ⟨ρ, st, μ, er, sr, p⟩ => by
  rw [evS_iff] at p
  refine ⟨ρ, st, μ, er, sr, ?_⟩
  cases q : evT F m ρ st with
  | no => rw [q] at p; exact p
  | ex c ds st' => rw [q] at p; exact p.elim
  | ok k st' =>
    rw [q] at p
    replace p : PostS X.K μ H En (if k then evSs F ma ρ st' else evSs F mb ρ st') := p
    intro μ1 H1 f s
    cases k with
    | true => exact ⟨ρ, st', μ1, er.fr f, s, PostS.trans f p⟩
    | false => exact ⟨ρ, st', μ1, er.fr f, s, PostS.trans f p⟩
/-! ### target = value -/
theorem asg_ok {t : Tg} {te : TE} {En : Ends} {σ : LSt} {H : Hp} (ht : ∀ o i, t ≠ .sub o i) (hte : ∀ σ H Q, tM F X.K WF m σ H Q → te σ H Q) (h : tS F X.K (.asg t m) En σ H) : tAsg te (tG X.K t) En σ H := by
  obtain ⟨ρ, st, μ, er, sr, p⟩ := h
  unfold evS at p
  refine hte _ _ _ ?_
  obtain ⟨ρ1, st1, μ1, e1, s1, p1⟩ := tM.stepS er sr p
  refine ⟨ρ1, st1, μ1, e1, s1, p1.mono fun v H1 ⟨x, st2, μ2, f2, s2, r2, n2, h2⟩ => ?_⟩
  cases t with
  | nm i =>
    obtain ⟨μ3, f3, s3, r3, q3, _⟩ := mat_ok f2 s2 r2 n2
    exact h2 _ μ3 H1 f3 s3 ((er.fr f3).set r3 i)
  | tp is =>
    replace h2 : PostS X.K μ H En (match (generalizing := false) x with
      | .v d => match assignP (.tp is) d ρ with
        | some ρ1 => .ok .nx ρ1 st2
        | none => .no
      | _ => .no) := h2
    split at h2
    · rename_i d
      split at h2
      · rename_i ρ2 ea
        exact tG_ok (show Rep X.K μ2 H1 v d from r2) (er.fr f2) ea fun σ' e' _ => h2 σ' μ2 H1 f2 s2 e'
      · exact h2.elim
    · exact h2.elim
  | sub o i => exact absurd rfl (ht o i)
theorem ms_asg {tg : Expr} {t : Tg} (he : PE X e (tM F X.K WF m)) (hg : PG X tg (tG X.K t)) (ht : ∀ o i, t ≠ .sub o i) (hs : swapsWithSole [tg] e pos.line X.env = pure false) (hw : swappedStores [tg] e X.env = pure none) (h1 : (assignEach [tg] X.env).map (·.2) = [PySem.assign tg X.env]) :
    SndS F X (.Assign [tg] e pos) (.asg t m) := PS.imp (ps_asg he hg hs hw h1) fun En σ H h => asg_ok ht (fun _ _ _ z => z) h
/-- o[i] = value -/
theorem ms_sub {o i : Expr} {mo mi : E} {tpos : Pos} (hu : X.A.units + 1 < cLine) (he : PE X e (tM F X.K WF m)) (ho : Snd F WF X o mo) (hi : Snd F WF X i mi) (ha : ∀ v, PySem.assign (.Subscript o i tpos) X.env v = (do
      let ov ← holding [v] (eval o X.env)
      let iv ← holding [v, ov] (eval i X.env)
      standAt tpos
      holding [v, ov, iv] (setItem ov iv v)
      release [v, ov, iv] [])) (hs : swapsWithSole [.Subscript o i tpos] e pos.line X.env = pure false) :
    SndS F X (.Assign [.Subscript o i tpos] e pos) (.asg (.sub mo mi) m) := PS.imp (ps_asg he (pg_sub ho.pe hi.pe (set_M hu) ha) hs (by cases e <;> rfl) rfl) fun En σ H ⟨ρ, st, μ, er, sr, p⟩ => by
  unfold evS at p
  obtain ⟨ρ1, st1, μ1, e1, s1, p1⟩ := tM.stepS er sr p
  refine ⟨ρ1, st1, μ1, e1, s1, p1.mono fun v H1 ⟨x, st2, μ2, f2, s2, r2, n2, h2⟩ => ?_⟩
  unfold assign at h2
  obtain ⟨ρ3, st3, μ3, e3, s3, p3⟩ := tM.stepS (er.fr f2) s2 h2
  refine ⟨ρ3, st3, μ3, e3, s3, p3.mono fun vo H3 ⟨y, st4, μ4, f4, s4, r4, n4, h4⟩ => ?_⟩
  obtain ⟨ρ5, st5, μ5, e5, s5, p5⟩ := tM.stepS ((er.fr f2).fr f4) s4 h4
  refine ⟨ρ5, st5, μ5, e5, s5, p5.mono fun vi H5 ⟨k, st6, μ6, f6, s6, r6, n6, h6⟩ => ?_⟩
  have F6 := f4.trans f6
  have rx : ARep X.K μ6 H5 v x := r2.fr F6
  -- the value goes into the store
  obtain ⟨μ7, f7, s7, r7, q7, _⟩ := mat_ok (f2.trans F6) s6 rx n2
  cases y with
  | tl _ => exact h6.elim
  | td _ => exact h6.elim
  | v yd =>
    cases yd with
    | ref n =>
      cases k with
      | tl _ => exact h6.elim
      | td _ => exact h6.elim
      | v kd =>
        obtain ⟨a, rfl, hm⟩ := (show Rep X.K μ4 H3 vo (.ref n) from r4).ref'
        have hm7 : μ7[n]? = some a := q7.pre _ _ (f6.pre _ _ hm)
        exact put_ok (En := En) (ρ := ρ) (μ0 := μ) (H0 := H) f7 s7 hm7 (Rep.frq q7 (show Rep X.K μ6 H5 vi kd from r6)) r7 h6 fun H' st' h7 f8 s8 => h7 σ μ7 H' f8 s8 (er.fr f8)
    | _ => exact h6.elim
end
end PM
end
section
/-! PM24: name op= e, loops. -/
namespace PM
open PySem PySem.Spec PyProof.Rows L2
section
variable {F : FT} {c : CC} {X : Cx} {e : Expr} {m : E} {pos : Pos} {ss : List Stmt} {mss : Ss}
theorem ms_aug {x : Str} {i : Nat} {o : Operator} {f : Fn} {p2 : Pos} (cx : Ctx F c X) (hx : slotW c x = some i) (ho : opFn o = some f) (he : Snd F WF X e m) : SndS F X (.AugAssign (.Name x p2) o e pos) (.aug i f m) := by
  obtain ⟨h1, h2, h3, _⟩ := slotW_ok cx hx
  have hi : ∀ {ti : TIp}, PIp X o ti → (∀ (d : D) (y : A) (z : D) μ H v w, augO f d y = some z → Rep X.K μ H v d → ARep X.K μ H w y → ∀ Q : VK, (∀ u, Rep X.K μ H u z → Q u H) → ti v w H Q) → SndS F X (.AugAssign (.Name x p2) o e pos) (.aug i f m) := fun {ti} hp k =>
    PS.imp (ps_aug cx.nd h1 h2 he.pe hp h3) fun En σ H ⟨ρ, st, μ, er, sr, p⟩ => by
      unfold evS at p
      split at p
      · rename_i d ed
        obtain ⟨v, hv, rv⟩ := er.at_ i d ed
        refine ⟨v, hv, ?_⟩
        obtain ⟨ρ1, st1, μ1, e1, s1, p1⟩ := tM.stepS er sr p
        refine ⟨ρ1, st1, μ1, e1, s1, p1.mono fun w H1 ⟨y, st2, μ2, f2, s2, r2, n2, h2⟩ => ?_⟩
        split at h2
        · rename_i z ez
          exact k d y z μ2 H1 v w ez (rv.fr f2) r2 _ fun u ru => h2 _ μ2 H1 f2 s2 ((er.fr f2).set ru i)
        · exact h2.elim
      · exact p.elim
  cases o <;> first | (cases ho; done) | skip
  · cases ho
    refine hi ip_add fun d y z μ H v w ez r q Q k => ?_
    unfold augO at ez
    split at ez
    · cases ez
      cases Rep.int' r; cases Rep.int' q
      exact ⟨_, _, rfl, rfl, k _ (.int _)⟩
    · rename_i hf; cases hf
    · cases ez
  · cases ho
    refine hi ip_sub fun d y z μ H v w ez r q Q k => ?_
    unfold augO at ez
    split at ez
    · rename_i hf; cases hf
    · cases ez
      cases Rep.int' r; cases Rep.int' q
      exact ⟨_, _, rfl, rfl, k _ (.int _)⟩
    · cases ez
  all_goals
    cases ho
    exact PS.imp ps_never fun En σ H ⟨ρ, st, μ, er, sr, p⟩ => by
      unfold evS at p
      split at p
      · cases ev : evE F m ρ st with
        | no => rw [ev] at p; exact p
        | ex c ds st' => rw [ev] at p; exact p.elim
        | ok y st' =>
          rw [ev] at p
          exact p
      · exact p
/-! ### for -/
theorem its_len {ds : List D} {i : Nat} (h : i < ds.length) : ds.drop i = ds[i] :: ds.drop (i + 1) := List.drop_eq_getElem_cons h
theorem ms_for {tg iter : Expr} {t : Tg} {mi : It} (hx : X.xe = fun _ _ => False) (hc : X.calm = true) (hi : PI X tg iter (tI F X.K WF mi)) (hg : PG X tg (tG X.K t)) (hb : SndSs F X ss mss) (hs : ∀ es k p, iter ≠ .Set es k p) :
    SndS F X (.For tg iter ss [] pos) (.forr mi t mss) := by
  have hp : PassesOwn (model X.prog X.w) X.A X.env X.xe := by rw [hx]; exact PassesOwn.never
  refine PS.imp (ps_for hp hc hi hg hb (notSet_ok hs)) fun En σ0 H0 ⟨ρ0, st0, μ0, er, sr, p⟩ => ?_
  unfold evS at p
  refine ⟨ρ0, st0, μ0, er, sr, ?_⟩
  cases q : evIt F mi ρ0 st0 with
  | no => rw [q] at p; exact p
  | ex c ds st1 => rw [q] at p; exact p.elim
  | ok it st1 =>
    obtain ⟨ds, chk⟩ := it
    rw [q] at p
    replace p : PostS X.K μ0 H0 En (forLoop chk (fun d ρ1 st2 => match assignP t d ρ1 with
      | some ρ2 => evSs F mss ρ2 st2
      | none => .no) ds ρ0 st1) := p
    generalize hbd : (fun (d : D) (ρ1 : Env) (st2 : PM.St) => match assignP t d ρ1 with
      | some ρ2 => evSs F mss ρ2 st2
      | none => .no) = body at p
    intro μ1 H1 J f1 s1 its al
    refine ⟨fun i n σ H => n = ds.length - i ∧ i ≤ ds.length ∧ ∃ ρ μ st, ERep X.K μ H ρ σ ∧ Fr μ1 H1 μ H ∧ SRep X.K μ H st ∧ PostS X.K μ0 H0 En (forLoop chk body (ds.drop i) ρ st),
      ⟨ds.length, by simp, Nat.zero_le _, ρ0, μ1, st1, er.fr f1, Fr.refl _ _, s1, p⟩, ?_⟩
    rintro i n σ H ⟨rfl, hi', ρ, μ, st, e, f, s, p2⟩
    by_cases hlt : i < ds.length
    · rw [its_len hlt] at p2
      unfold forLoop at p2
      split at p2
      · rename_i ha
        obtain ⟨hgo, hy⟩ := its.go i μ H st f s ha ds[i] (List.getElem?_eq_getElem hlt)
        refine .inr ⟨hgo, fun σ' H' => i + 1 ≤ ds.length ∧ ∃ ρ μ st, ERep X.K μ H' ρ σ' ∧ Fr μ1 H1 μ H' ∧ SRep X.K μ H' st ∧ PostS X.K μ0 H0 En (forLoop chk body (ds.drop (i + 1)) ρ st),
          fun σ' H' ⟨hl, w⟩ => ⟨ds.length - (i + 1), by omega, rfl, hl, w⟩, fun x H2 yx => ?_⟩
        obtain ⟨fy, sy, ry⟩ := hy x H2 yx
        cases eb : body ds[i] ρ st with
        | no => rw [eb] at p2; exact p2.elim
        | ex n es ρ' st3 => rw [eb] at p2; exact p2.elim
        | ok fl ρ3 st3 =>
          rw [eb] at p2
          rw [← hbd] at eb
          dsimp only at eb
          split at eb
          · rename_i ρ2 ea
            refine tG_ok ry (e.fr fy) ea fun σ2 e2 _ => ⟨ρ2, st, μ, e2, sy, ?_⟩
            rw [eb]
            have F2 := f.trans fy
            cases fl with
            | nx => exact fun σ' μ' H' g s' e' => ⟨hlt, ρ3, μ', st3, e', F2.trans g, s', p2⟩
            | ct => exact fun σ' μ' H' g s' e' => ⟨hlt, ρ3, μ', st3, e', F2.trans g, s', p2⟩
            | bk => exact fun σ' μ' H' g s' e' => p2 σ' μ' H' ((f1.trans F2).trans g) s' e'
            | rt y => exact fun v μ' H' g s' a n => p2 v μ' H' ((f1.trans F2).trans g) s' a (n.mono (f1.trans F2))
          · cases eb
      · exact p2.elim
    · have e0 : i = ds.length := by omega
      subst e0
      rw [List.drop_length] at p2
      unfold forLoop at p2
      split at p2
      · rename_i ha
        exact .inl ⟨its.stop _ μ H st f s ha (Nat.le_refl _), p2 σ μ H (f1.trans f) s e⟩
      · exact p2.elim
/-! ### while -/
theorem ms_whl (hx : X.xe = fun _ _ => False) (hc : Snd F WF X e m) (hb : SndSs F X ss mss) : SndS F X (.While e ss [] pos) (.whl m mss) := by
  have hp : PassesOwn (model X.prog X.w) X.A X.env X.xe := by rw [hx]; exact PassesOwn.never
  refine PS.imp (ps_while hp hc.pt hb) fun En σ0 H0 ⟨ρ0, st0, μ0, er, sr, p⟩ => ?_
  unfold evS at p
  replace p : PostS X.K μ0 H0 En (whileLoop (fun ρ1 st1 => evT F m ρ1 st1) (fun ρ1 st1 => evSs F mss ρ1 st1) wN ρ0 st0) := p
  refine ⟨fun n σ H => ∃ ρ μ st, ERep X.K μ H ρ σ ∧ Fr μ0 H0 μ H ∧ SRep X.K μ H st ∧ PostS X.K μ0 H0 En (whileLoop (fun ρ1 st1 => evT F m ρ1 st1) (fun ρ1 st1 => evSs F mss ρ1 st1) n ρ st), ⟨wN, ρ0, μ0, st0, er, Fr.refl _ _, sr, p⟩, ?_⟩
  rintro n σ H ⟨ρ, μ, st, e', f, s, p2⟩
  cases n with
  | zero => exact p2.elim
  | succ n =>
    unfold whileLoop at p2
    refine ⟨ρ, st, μ, e', s, ?_⟩
    cases et : evT F m ρ st with
    | no => rw [et] at p2; exact p2
    | ex c ds st' => rw [et] at p2; exact p2.elim
    | ok b st' =>
      rw [et] at p2
      intro μ1 H1 f1 s1
      have F1 := f.trans f1
      cases b with
      | false => exact p2 σ μ1 H1 F1 s1 (e'.fr f1)
      | true =>
        rw [if_pos rfl]
        refine ⟨fun σ' H' => ∃ ρ μ st, ERep X.K μ H' ρ σ' ∧ Fr μ0 H0 μ H' ∧ SRep X.K μ H' st ∧ PostS X.K μ0 H0 En (whileLoop (fun ρ1 st1 => evT F m ρ1 st1) (fun ρ1 st1 => evSs F mss ρ1 st1) n ρ st), fun σ' H' w => ⟨n, Nat.lt_succ_self _, w⟩, ρ, st', μ1, e'.fr f1, s1, ?_⟩
        replace p2 : PostS X.K μ0 H0 En (match evSs F mss ρ st' with
          | .ok .nx ρ1 st2 => whileLoop (fun ρ1 st1 => evT F m ρ1 st1) (fun ρ1 st1 => evSs F mss ρ1 st1) n ρ1 st2
          | .ok .ct ρ1 st2 => whileLoop (fun ρ1 st1 => evT F m ρ1 st1) (fun ρ1 st1 => evSs F mss ρ1 st1) n ρ1 st2
          | .ok .bk ρ1 st2 => .ok .nx ρ1 st2
          | .ok (.rt x) ρ1 st2 => .ok (.rt x) ρ1 st2
          | .ex c ds ρ1 st2 => .ex c ds ρ1 st2
          | .no => .no) := p2
        cases eb : evSs F mss ρ st' with
        | no => rw [eb] at p2; exact p2
        | ex c ds ρ2 st2 => rw [eb] at p2; exact p2
        | ok fl ρ3 st3 =>
          rw [eb] at p2
          cases fl with
          | nx => exact fun σ' μ' H' g s' e' => ⟨ρ3, μ', st3, e', F1.trans g, s', p2⟩
          | ct => exact fun σ' μ' H' g s' e' => ⟨ρ3, μ', st3, e', F1.trans g, s', p2⟩
          | bk => exact fun σ' μ' H' g s' e' => p2 σ' μ' H' (F1.trans g) s' e'
          | rt y => exact fun v μ' H' g s' a n => p2 v μ' H' (F1.trans g) s' a (n.mono F1)
end
end PM
end
section
/-! PM25: what only the callee made is forgotten; calls of the module's defs. -/
namespace PM
open PySem PySem.Spec PyProof.Rows L2
section
variable {K : PySem.W.Frag} {μ μ' : Adrs} {H H' : Hp}
mutual
theorem Rep.bel : ∀ {v : V} {d : D}, Rep K μ H v d → d.bel μ.length = true
  | _, _, .non => rfl
  | _, _, .bl _ => rfl
  | _, _, .int _ => rfl
  | _, _, .str _ => rfl
  | _, _, .tup _ _ r => Reps.bels r
  | _, _, .ktp _ r => Reps.bels r
  | _, _, .fls _ r => Reps.bels r
  | _, _, .ref h => by
    have := (List.getElem?_eq_some_iff.mp h).1
    simp [D.bel, this]
theorem Reps.bels : ∀ {vs : List V} {ds : List D}, Reps K μ H vs ds → D.bels μ.length ds = true
  | _, _, .nil => rfl
  | _, _, .cons r t => by
    unfold D.bels
    rw [Rep.bel r, Reps.bels t]; rfl
end
/-- μ ahead of μ' -/
structure Pre (μ μ' : Adrs) : Prop where
  pre : ∀ (n : Nat) a, μ[n]? = some a → μ'[n]? = some a
theorem Pre.sub (p : Pre μ μ') : ∀ a ∈ μ, a ∈ μ' := fun a h => by
  obtain ⟨n, hn⟩ := List.getElem?_of_mem h
  exact List.mem_of_getElem? (p.pre n a hn)
theorem Pre.back (p : Pre μ μ') {m : Nat} {a : Addr} (h : μ'[m]? = some a) (hm : m < μ.length) : μ[m]? = some a := by
  have := p.pre m μ[m] (List.getElem?_eq_getElem hm)
  rw [h] at this
  rw [List.getElem?_eq_getElem hm, Option.some.inj this]
mutual
theorem Rep.back (p : Pre μ μ') : ∀ {v : V} {d : D}, Rep K μ' H v d → d.bel μ.length = true → Rep K μ H v d
  | _, _, .non, _ => .non
  | _, _, .bl b, _ => .bl b
  | _, _, .int i, _ => .int i
  | _, _, .str s, _ => .str s
  | _, _, .tup h n r, b => .tup h (fun z => n (p.sub _ z)) (Reps.back p r b)
  | _, _, .ktp h r, b => .ktp (h.elim (fun ⟨q, h1, h2, h3⟩ => .inl ⟨q, h1, h2, fun z => h3 (p.sub _ z)⟩) .inr) (Reps.back p r b)
  | _, _, .fls h r, b => .fls (h.elim (fun ⟨q, h1, h3⟩ => .inl ⟨q, h1, fun z => h3 (p.sub _ z)⟩) .inr) (Reps.back p r b)
  | _, _, .ref h, b => .ref (p.back h (by simpa [D.bel] using b))
theorem Reps.back (p : Pre μ μ') : ∀ {vs : List V} {ds : List D}, Reps K μ' H vs ds → D.bels μ.length ds = true → Reps K μ H vs ds
  | _, _, .nil, _ => .nil
  | _, _, .cons r t, b => by
    unfold D.bels at b
    rw [Bool.and_eq_true] at b
    exact .cons (Rep.back p r b.1) (Reps.back p t b.2)
end
theorem kv_back {κ : Type} {g : κ → D} (p : Pre μ μ') : ∀ {es : List (κ × V)} {kvs : List (D × D)}, Paired (fun (e : κ × V) (q : D × D) => q.1 = g e.1 ∧ Rep K μ' H e.2 q.2) es kvs → kvBelow μ.length kvs = true → Paired (fun (e : κ × V) (q : D × D) => q.1 = g e.1 ∧ Rep K μ H e.2 q.2) es kvs
  | _, _, .nil, _ => .nil
  | _, _, .cons r t, b => by
    unfold kvBelow at b
    rw [List.all_cons, Bool.and_eq_true, Bool.and_eq_true] at b
    exact .cons ⟨r.1, Rep.back p r.2 b.1.2⟩ (kv_back p t b.2)
theorem ORep.back (p : Pre μ μ') {a : Addr} {o : MO} (r : ORep K μ' H a o) (b : o.bel μ.length = true) : ORep K μ H a o := by
  cases o with
  | lst ds => obtain ⟨vs, h, q⟩ := r; exact ⟨vs, h, Reps.back p q b⟩
  | dct kvs =>
    rcases (show DRep K μ' H a kvs from r) with ⟨es, h, q⟩ | ⟨es, h, q⟩
    · exact .inl ⟨es, h, kv_back p q b⟩
    · exact .inr ⟨es, h, kv_back (g := fun (k : List Key) => D.tup (k.map kD)) p q b⟩
  | ins _ _ => exact r.elim
theorem kv_bel {κ : Type} {g : κ → D} (hg : ∀ k, (g k).bel μ.length = true) : ∀ {es : List (κ × V)} {kvs : List (D × D)}, Paired (fun (e : κ × V) (q : D × D) => q.1 = g e.1 ∧ Rep K μ H e.2 q.2) es kvs → kvBelow μ.length kvs = true
  | _, _, .nil => rfl
  | _, _, .cons r t => by
    unfold kvBelow
    rw [List.all_cons, r.1, hg, r.2.bel]
    exact kv_bel hg t
theorem kD_bel (n : Nat) (k : Key) : (kD k).bel n = true := by cases k <;> rfl
theorem kDs_bel (n : Nat) (ks : List Key) : (D.tup (ks.map kD)).bel n = true := by
  show D.bels n (ks.map kD) = true
  induction ks with
  | nil => rfl
  | cons k ks ih => rw [List.map_cons]; unfold D.bels; rw [kD_bel, ih]; rfl
theorem ORep.bel {a : Addr} {o : MO} (r : ORep K μ H a o) : o.bel μ.length = true := by
  cases o with
  | lst ds => obtain ⟨vs, h, q⟩ := r; exact q.bels
  | dct kvs =>
    rcases (show DRep K μ H a kvs from r) with ⟨es, h, q⟩ | ⟨es, h, q⟩
    · exact kv_bel (kD_bel _) q
    · exact kv_bel (g := fun (k : List Key) => D.tup (k.map kD)) (kDs_bel _) q
  | ins _ _ => exact r.elim
theorem gc_ok {μ0 : Adrs} {H0 : Hp} {st st' : PM.St} {v : V} {x : A} (f01 : Fr μ0 H0 μ H) (s0 : SRep K μ H st) (p : Pre μ μ') (f : Fr μ0 H0 μ' H') (s : SRep K μ' H' st') (r : ARep K μ' H' v x) (n : New H0 v x) :
    ∃ μ2, Fr μ0 H0 μ2 H' ∧ SRep K μ2 H' (gc st x st').2 ∧ ARep K μ2 H' v (gc st x st').1 ∧ New H0 v (gc st x st').1 := by
  unfold gc
  split
  · exact ⟨μ', f, s, r, n⟩
  · rename_i hlen
    split
    · rename_i hc
      have ln : st.length = μ.length := s0.len.symm
      have cut : SRep K μ H' (st'.take st.length) := by
        refine ⟨by rw [List.length_take, ln]; omega, s0.nd, fun k o a h1 h2 => ?_⟩
        have hk : k < st.length := by have := (List.getElem?_eq_some_iff.mp h2).1; omega
        have h1' : st'[k]? = some o := by rw [List.getElem?_take_of_lt hk] at h1; exact h1
        have ob : o.bel μ.length = true := by
          rw [Bool.or_eq_true, decide_eq_true_eq] at hc
          rcases hc with hc | hc
          · rw [hc] at h1
            exact (s0.obj k o a h1 h2).bel
          · rw [List.all_eq_true] at hc
            rw [← ln]
            exact hc o (List.mem_of_getElem? h1)
        exact ORep.back p (s.obj k o a h1' (p.pre k a h2)) ob
      have f2 : Fr μ0 H0 μ H' := ⟨f01.pre, fun b o h nb => ⟨(f.keep b o h nb).1, (f01.keep b o h nb).2⟩, f.some⟩
      have fresh : ∀ {m : Nat} {a : Addr}, μ'[m]? = some a → ¬ m < μ.length → a ∉ μ ∧ H0 a = none := fun {m a} h hm => by
        have na : a ∉ μ := fun z => by
          obtain ⟨j, hj⟩ := List.getElem?_of_mem z
          have e := nodup_get s.nd (p.pre j a hj) h
          exact hm (e ▸ (List.getElem?_eq_some_iff.mp hj).1)
        have na0 : a ∉ μ0 := fun z => na ((Pre.mk f01.pre).sub a z)
        refine ⟨na, ?_⟩
        cases e : H0 a with
        | none => rfl
        | some o => exact absurd (List.mem_of_getElem? h) (f.keep a o e na0).2
      cases x with
      | tl ds =>
        obtain ⟨a, vs, rfl, h, na, q⟩ := r
        dsimp only
        split
        · rename_i hb
          exact ⟨μ, f2, cut, ⟨a, vs, rfl, h, fun z => na (p.sub _ z), Reps.back p q (by rw [← ln]; exact hb)⟩, n⟩
        · exact ⟨μ', f, s, ⟨a, vs, rfl, h, na, q⟩, n⟩
      | td kvs =>
        obtain ⟨a, es, rfl, na, h, q⟩ := r
        dsimp only
        split
        · rename_i hb
          exact ⟨μ, f2, cut, ⟨a, es, rfl, fun z => na (p.sub _ z), h, kv_back p q (by rw [← ln]; exact hb)⟩, n⟩
        · exact ⟨μ', f, s, ⟨a, es, rfl, na, h, q⟩, n⟩
      | v d =>
        dsimp only
        split
        · rename_i hb
          exact ⟨μ, f2, cut, Rep.back p r (by rw [← ln]; exact hb), New.val⟩
        · rename_i hb
          cases d with
          | ref m =>
            dsimp only
            obtain ⟨a, rfl, hm⟩ := (show Rep K μ' H' v (.ref m) from r).ref'
            have hge : ¬ m < μ.length := fun z => hb (by rw [ln]; simp [D.bel, z])
            obtain ⟨na, hn⟩ := fresh hm hge
            split
            · rename_i ds e
              obtain ⟨vs, h, q⟩ := s.obj m _ a e hm
              split
              · rename_i hb2
                exact ⟨μ, f2, cut, ⟨a, vs, rfl, h, na, Reps.back p q (by rw [← ln]; exact hb2)⟩, New.at hn⟩
              · exact ⟨μ', f, s, r, n⟩
            · rename_i kvs e
              split
              · rename_i hb2
                simp only [Bool.and_eq_true] at hb2
                obtain ⟨⟨b1, b2⟩, b3⟩ := hb2
                rcases (show DRep K μ' H' a kvs from s.obj m _ a e hm) with ⟨es, h, q⟩ | ⟨es, h, q⟩
                · exact ⟨μ, f2, cut, ⟨a, es, rfl, na, h, kv_back p q (by rw [← ln]; exact b1)⟩, New.at hn⟩
                · obtain ⟨rfl, rfl⟩ := flat_tup q b2
                  cases b3
              · exact ⟨μ', f, s, r, n⟩
            · exact ⟨μ', f, s, r, n⟩
          | _ => exact ⟨μ', f, s, r, n⟩
    · exact ⟨μ', f, s, r, n⟩
end
end PM
end
section
/-! PM26: calls of the module's defs. -/
namespace PM
open PySem PySem.Spec PyProof.Rows L2
/-- nothing is said of exceptions: none leaves -/
def CXF : CXT := fun _ _ _ _ _ _ => False
/-- what the i-th def promises -/
def spM (K : PySem.W.Frag) (F : FT) (i : Nat) : Sp := fun vs H Q _ => ∃ ds st μ, Reps K μ H vs ds ∧ SRep K μ H st ∧ Post K (fun _ _ _ _ _ => False) μ H Q (F i ds st).cut
structure CallOk (F : FT) (X : Cx) (x : Str) (i : Nat) : Prop where
  ok : ∃ (k : Nat) (f : Addr) (fd : FuncData) (ps : List Str), Room k X.A ∧ X.mg x = some (.ref f) ∧ PySem.W.keepIn X.K (.ref f) = true ∧ Binds X.K fd ps [] ∧ FnOk X.prog X.w X.K X.mg X.base CXF k f fd ps (spM X.K F i)
theorem gcR_post {K : PySem.W.Frag} {μ0 μ μ2 : Adrs} {H0 H H2 : Hp} {st : PM.St} {W W' : WM} {Q : VK} {r : R A} (f : Fr μ0 H0 μ H) (s0 : SRep K μ H st) (p : Pre μ μ2) (f2 : Fr μ0 H0 μ2 H2) (h : Post K W μ0 H0 Q (gcR st r).cut) : Post K W' μ2 H2 Q r.cut := by
  cases r with
  | no => exact h
  | ex c ds st' => exact h
  | ok x st' =>
    intro v μ' H' g s a n
    obtain ⟨μ3, f3, s3, a3, n3⟩ := gc_ok f s0 ⟨fun k b hk => g.pre k b (p.pre k b hk)⟩ (f2.trans g) s a (n.mono f2)
    exact h v μ3 H' f3 s3 a3 n3
section
variable {F : FT} {X : Cx} {x : Str} {i : Nat} {p pos : Pos}
theorem call_M {σ : LSt} {H : Hp} {Q : VK} {ms : Es} {E : XK} (h : tM F X.K WF (.call i ms) σ H Q) : tCall (spM X.K F i) [] E (tMs F X.K WF ms) σ H Q := by
  obtain ⟨ρ, st, μ, er, sr, p⟩ := h
  have h' : Post X.K (WF ρ σ) μ H Q ((evEs F ms ρ st).bind fun as st1 => (gcR st1 (F i (mats as st1).1 (mats as st1).2)).cut) := by
    unfold evE at p; exact p
  refine ⟨ρ, st, μ, er, sr, ?_⟩
  cases q : evEs F ms ρ st with
  | no => rw [q] at h'; exact h'
  | ex c ds st1 => rw [q] at h'; exact h'
  | ok xs st1 =>
    rw [q, R.bind_ok] at h'
    intro vs μ1 H1 f1 s1 r1 n1
    obtain ⟨μ2, f2, s2, r2, q2, _⟩ := mats_ok f1 s1 r1 n1
    refine ⟨(mats xs st1).1, (mats xs st1).2, μ2, ?_⟩
    rw [List.append_nil]
    exact ⟨r2, s2, gcR_post f1 s1 ⟨q2.pre⟩ f2 h'⟩
theorem plainL : ∀ {es : List Expr} {env : PySem.Env}, (∀ e ∈ es, isStarred e = false) → (backTo pos (starEach es env)).any (·.1) = false
  | [], _, _ => rfl
  | e :: es, env, h => by
    rw [star_ok (h e List.mem_cons_self)]
    show (false || (backTo pos (starEach es env)).any (·.1)) = false
    rw [plainL fun e' he => h e' (List.mem_cons_of_mem _ he)]
    rfl
theorem me_call {es : List Expr} {ms : Es} (ok : CallOk F X x i) (hg : Gl X x) (hdb : (x == ("__debug__" : Str)) = false) (ha : PA X es (tMs F X.K WF ms)) (hs : ∀ e ∈ es, isStarred e = false) (hnil : es = [] → ms = .nil) :
    Snd F WF X (.Call (.Name x p) es [] pos) (.call i ms) := by
  obtain ⟨k, f, fd, ps, hr, hm, hk, hb, hf⟩ := ok.ok
  have hx : Passes CXF X (fun _ _ _ => False) := fun _ _ _ _ _ _ _ z => z.elim
  have q : PE X (.Call (.Name x p) es [] pos) (tM F X.K WF (.call i ms)) := by
    cases es with
    | nil =>
      rw [hnil rfl]
      refine PE.imp (pe_call0 hf hr hg hm hk hb .nil hx hdb) fun σ H Q h => ?_
      obtain ⟨ρ, st, μ, er, sr, p⟩ := call_M (E := fun _ _ _ => False) h
      exact p [] μ H (Fr.refl _ _) sr .nil NewL.nil'
    | cons e es =>
      refine PE.imp (pe_call hf hr hg hm hk hb .nil hx ha hdb (star_ok (hs e List.mem_cons_self) es X.env) (plainL fun e' he => hs e' (List.mem_cons_of_mem _ he))) fun σ H Q h => call_M h
  exact ⟨q, mt_val q fun _ => rfl⟩
end
end PM
end
section
/-! PM27: what is compiled is told by M: expressions. -/
namespace PM
open PySem PySem.Spec PyProof.Rows L2
/-- names of built-ins that the compiled text leans on -/
def bltNames : List Str := ["len", "all", "any", "sum", "tuple", "list", "int", "sorted", "dict", "min", "max", "isinstance", "bool", "str", "range", "enumerate", "zip"].map tx
structure GX (F : FT) (c : CC) (X : Cx) : Prop where
  cons : ∀ x d, c.cons.lookup x = some d → ∃ v u, X.mg x = some u ∧ RelV v u ∧ ∀ μ H, Rep X.K μ H v d
  calls : ∀ x i, idxS x c.fns = some i → CallOk F X x i
  blt : ∀ x ∈ bltNames, X.mg x = none
  xe : X.xe = fun _ _ => False
section
variable {F : FT} {c : CC} {X : Cx}
theorem Ctx.blk (cx : Ctx F c X) {scope : Scope} {X' : Cx} (h : BlkCx X scope X') : Ctx F (blkIn c scope) X' := by
  obtain ⟨s, H, C, cl, fp, rfl⟩ := h
  refine ⟨cx.names, cx.nd, ?_, cx.calm, cx.units, fun x hx => ?_⟩
  · show relS scope X.env.scope = relS scope c.sc
    rw [cx.sc]
  · show (scope.names.lookup x == some .cell) = true
    have hx' : scope.names.lookup x = some .cell := hx
    rw [hx']; rfl
theorem GX.blk (g : GX F c X) {scope : Scope} {X' : Cx} (h : BlkCx X scope X') : GX F (blkIn c scope) X' := by
  obtain ⟨s, H, C, cl, fp, rfl⟩ := h
  exact ⟨g.cons, fun x i hi => ⟨(g.calls x i hi).ok⟩, g.blt, rfl⟩
theorem okNm_ok {x : Str} (h : okNm x = true) : (x == ("__debug__" : Str)) = false ∧ (x == ("__classdict__" : Str)) = false := by
  simp only [okNm, Bool.and_eq_true, Bool.not_eq_true'] at h
  exact h
theorem globB_ok (cx : Ctx F c X) {x : Str} (h : globB c.sc x = true) : Gl X x := by
  unfold globB at h
  show X.env.scope.names.lookup x = _
  rw [cx.sc]
  split at h
  · rename_i e; exact e
  · cases h
theorem idx_ok : ∀ (l : List Str) (x : Str) (i : Nat), idxS x l = some i → l[i]? = some x
  | [], _, _, h => by cases h
  | y :: r, x, i, h => by
    unfold idxS at h
    split at h
    · rename_i e; cases h; subst e; rfl
    · simp only [Option.map_eq_some_iff] at h
      obtain ⟨j, h, rfl⟩ := h
      simpa using idx_ok r x j h
theorem visB_ok {sc : Scope} {x : Str} (h : visB sc x = true) : Vis sc x := by
  unfold visB at h
  split at h
  · rename_i e; exact .inl e
  · rename_i e; exact .inr (.inl e)
  · rename_i e; exact .inr (.inr e)
  · cases h
theorem slot_ok (cx : Ctx F c X) {x : Str} {i : Nat} {pos : Pos} (h : slotOf c x = some i) : Snd F WF X (.Name x pos) (.var i) := by
  unfold slotOf at h
  split at h
  · rename_i hv
    rw [Bool.and_eq_true] at hv
    obtain ⟨h1, h2⟩ := okNm_ok hv.2
    have q : PE X (.Name x pos) (tM F X.K WF (.var i)) := me_var (by rw [cx.names]; exact idx_ok _ _ _ h) (by rw [cx.sc]; exact visB_ok hv.1) h1 h2
    exact ⟨q, mt_val q fun _ => rfl⟩
  · cases h
theorem cons_ok (cx : Ctx F c X) (g : GX F c X) {x : Str} {d : D} {pos : Pos} (hg : globB c.sc x = true) (ho : okNm x = true) (h : c.cons.lookup x = some d) : Snd F WF X (.Name x pos) (.cst d) := by
  obtain ⟨v, u, h1, h2, h3⟩ := g.cons x d h
  have q := me_cst (F := F) (W := WF) (pe_glob (pos := pos) (globB_ok cx hg) h1 h2 (okNm_ok ho).1) h3
  exact ⟨q, mt_val q fun _ => rfl⟩
theorem str_rep {K : PySem.W.Frag} {μ : Adrs} {H : Hp} (x : Str) : Rep K μ H (.str x) (.str (ofStr x)) := by
  have := Rep.str (K := K) (μ := μ) (H := H) (ofStr x)
  rw [toStr_ofStr] at this
  exact this
theorem SndB.snd {op : BoolOp} {es : List Expr} {pos : Pos} {m : E} (h : SndB F WF X (.BoolOp op es pos) m) : Snd F WF X (.BoolOp op es pos) m := ⟨h.pe, h.pw.pt⟩
variable (F : FT)
def SE (n : Nat) : Prop := ∀ c e m X, cE n c e = some m → Ctx F c X → GX F c X → Snd F WF X e m
def SAnd (n : Nat) : Prop := ∀ c es m X pos, cAnd n c es = some m → Ctx F c X → GX F c X → SndB F WF X (.BoolOp .And es pos) m
def SOr (n : Nat) : Prop := ∀ c es m X pos, cOr n c es = some m → Ctx F c X → GX F c X → SndB F WF X (.BoolOp .Or es pos) m
def SEs (n : Nat) : Prop := ∀ c es ms X, cEs n c es = some ms → Ctx F c X → GX F c X → PA X es (tMs F X.K WF ms) ∧ (∀ e ∈ es, isStarred e = false) ∧ (es = [] → ms = .nil) ∧ ∀ e, es = [e] → ∃ m, ms = .cons m .nil ∧ Snd F WF X e m
def SKv (n : Nat) : Prop := ∀ c ks vs ms X, cKvs n c ks vs = some ms → Ctx F c X → GX F c X → SndKV F WF X ks vs ms
def SI (n : Nat) : Prop := ∀ c tg e mi X, cI n c e = some mi → itTup mi tg = true → Ctx F c X → GX F c X → PI X tg e (tI F X.K WF mi) ∧ ∀ es k p, e ≠ .Set es k p
variable {F} {n : Nat}
theorem sAnd (h : SE F n) (ih : SAnd F n) : SAnd F (n + 1) := by
  intro c es m X pos hm cx g
  unfold cAnd at hm
  split at hm
  · exact me_one .And (h _ _ _ _ hm cx g)
  · split at hm
    · rename_i e1 e2; cases hm; exact me_and (h _ _ _ _ e1 cx g) (ih _ _ _ _ _ e2 cx g)
    · cases hm
  · cases hm
theorem sOr (h : SE F n) (ih : SOr F n) : SOr F (n + 1) := by
  intro c es m X pos hm cx g
  unfold cOr at hm
  split at hm
  · exact me_one .Or (h _ _ _ _ hm cx g)
  · split at hm
    · rename_i e1 e2; cases hm; exact me_or (h _ _ _ _ e1 cx g) (ih _ _ _ _ _ e2 cx g)
    · cases hm
  · cases hm
theorem sEs (h : SE F n) (ih : SEs F n) : SEs F (n + 1) := by
  intro c es ms X hm cx g
  unfold cEs at hm
  split at hm
  · cases hm; exact ⟨pas_nil, (fun _ z => by cases z), fun _ => rfl, fun _ z => by cases z⟩
  · split at hm
    · cases hm
    · rename_i hs
      split at hm
      · rename_i e1 e2
        cases hm
        obtain ⟨h1, h2, h3, _⟩ := ih _ _ _ _ e2 cx g
        have hs' := Bool.eq_false_iff.mpr hs
        refine ⟨pas_cons hs' (h _ _ _ _ e1 cx g).pe h1, fun e he => ?_, (fun z => by cases z), (fun e z => by cases z; exact ⟨_, by rw [h3 rfl], h _ _ _ _ e1 cx g⟩)⟩
        rcases List.mem_cons.mp he with rfl | he
        · exact hs'
        · exact h2 e he
      · cases hm
theorem sKv (h : SE F n) (ih : SKv F n) : SKv F (n + 1) := by
  intro c ks vs ms X hm cx g
  unfold cKvs at hm
  split at hm
  · cases hm; exact .nil
  · split at hm
    · rename_i e1 e2 e3
      cases hm
      exact .cons (h _ _ _ _ e1 cx g) (h _ _ _ _ e2 cx g) (ih _ _ _ _ _ e3 cx g)
    · cases hm
  · cases hm
end
end PM
end
section
/-! PM28: what is compiled is told by M: iterations, expressions. -/
namespace PM
open PySem PySem.Spec PyProof.Rows L2
section
variable {F : FT} {n : Nat}
theorem bnm {x : Str} {g : Fn} (h : bFn1 x = some g) : x ∈ bltNames := by
  unfold bFn1 at h
  repeat (split at h; (rename_i e; subst e; decide +kernel))
  cases h
theorem bnm2 {x : Str} {g : Fn} (h : bFn2 x = some g) : x ∈ bltNames := by
  unfold bFn2 at h
  repeat (split at h; (rename_i e; subst e; decide +kernel))
  cases h
theorem tnm {x : Str} {g : Ty} (h : tyFn x = some g) : x ∈ bltNames := by
  unfold tyFn at h
  repeat (split at h; (rename_i e; subst e; decide +kernel))
  cases h
theorem nStar {a : Expr} (h : ¬ isStarred a = true) : isStarred a = false := Bool.eq_false_iff.mpr h
theorem map_seq {o : Option E} {mi : It} (h : o.map It.seq = some mi) : ∃ m, o = some m ∧ mi = .seq m := by
  simp only [Option.map_eq_some_iff] at h
  obtain ⟨m, h1, h2⟩ := h
  exact ⟨m, h1, h2.symm⟩
theorem sI (h : SE F n) : SI F (n + 1) := by
  intro c tg e mi X hm ht cx g
  have seq : ∀ {mi : It}, (cE n c e).map It.seq = some mi → PI X tg e (tI F X.K WF mi) := fun {mi} z => by
    obtain ⟨m, h1, rfl⟩ := map_seq z
    exact mi_seq (h _ _ _ _ h1 cx g)
  unfold cI at hm
  split at hm
  · rename_i f _ a _
    refine ⟨?_, fun _ _ _ z => by cases z⟩
    split at hm
    · rename_i hc
      simp only [Bool.and_eq_true, decide_eq_true_eq] at hc
      obtain ⟨⟨h1, h2⟩, h3⟩ := hc
      subst h2
      split at hm
      · cases hm
      · rename_i hs
        simp only [Option.map_eq_some_iff] at hm
        obtain ⟨m, h4, rfl⟩ := hm
        exact mi_ran1 (globB_ok cx h1) (g.blt _ (by decide +kernel)) (nStar hs) (h _ _ _ _ h4 cx g)
    · split at hm
      · rename_i hc
        simp only [Bool.and_eq_true, decide_eq_true_eq] at hc
        obtain ⟨⟨h1, h2⟩, h3⟩ := hc
        subst h2
        split at hm
        · cases hm
        · rename_i hs
          simp only [Option.map_eq_some_iff] at hm
          obtain ⟨m, h4, rfl⟩ := hm
          cases tg <;> first | exact mi_enu (globB_ok cx h1) (g.blt _ (by decide +kernel)) (nStar hs) (h _ _ _ _ h4 cx g) | (simp [itTup] at ht)
      · exact seq hm
  · rename_i f _ a b _
    refine ⟨?_, fun _ _ _ z => by cases z⟩
    split at hm
    · rename_i hc
      simp only [Bool.and_eq_true, decide_eq_true_eq] at hc
      obtain ⟨⟨h1, h2⟩, h3⟩ := hc
      subst h2
      split at hm
      · cases hm
      · rename_i hs
        rw [Bool.or_eq_true, not_or] at hs
        split at hm
        · rename_i e1 e2
          cases hm
          exact mi_ran2 (globB_ok cx h1) (g.blt _ (by decide +kernel)) (nStar hs.1) (nStar hs.2) (h _ _ _ _ e1 cx g) (h _ _ _ _ e2 cx g)
        · cases hm
    · split at hm
      · rename_i hc
        simp only [Bool.and_eq_true, decide_eq_true_eq] at hc
        obtain ⟨⟨h1, h2⟩, h3⟩ := hc
        subst h2
        split at hm
        · cases hm
        · rename_i hs
          rw [Bool.or_eq_true, not_or] at hs
          split at hm
          · rename_i e1 e2
            cases hm
            cases tg <;> first | exact mi_zip (globB_ok cx h1) (g.blt _ (by decide +kernel)) (nStar hs.1) (nStar hs.2) (h _ _ _ _ e1 cx g) (h _ _ _ _ e2 cx g) | (simp [itTup] at ht)
          · cases hm
      · exact seq hm
  · cases hm
  · rename_i hns
    exact ⟨seq hm, fun es k p z => by subst z; first | exact hns _ _ _ rfl | exact hns _ _ _ _ rfl⟩
theorem snd_cst {X : Cx} {e : Expr} {v : V} {d : D} (p : PE X e (tC v)) (r : ∀ μ H, Rep X.K μ H v d) (he : ∀ whole, isTrue e X.env whole = (do let v ← whole; standAt e.pos; holding [v] (truthy v))) : Snd F WF X e (.cst d) :=
  ⟨me_cst p r, mt_val (me_cst p r) he⟩
theorem map_some {α β : Type} {o : Option α} {f : α → β} {y : β} (h : o.map f = some y) : ∃ x, o = some x ∧ y = f x := by
  simp only [Option.map_eq_some_iff] at h
  obtain ⟨m, h1, h2⟩ := h
  exact ⟨m, h1, h2.symm⟩
theorem sE (h : SE F n) (hA : SAnd F n) (hO : SOr F n) (hEs : SEs F n) (hKv : SKv F n) (hI : SI F n) : SE F (n + 1) := by
  intro c e m X hm cx g
  have u1 : X.A.units + 1 < cLine := by have := cx.units; omega
  unfold cE at hm
  split at hm
  · cases hm; exact snd_cst pe_int (fun _ _ => .int _) fun _ => rfl
  · cases hm; exact snd_cst pe_bl (fun _ _ => .bl _) fun _ => rfl
  · cases hm; exact snd_cst pe_non (fun _ _ => .non) fun _ => rfl
  · cases hm; exact snd_cst pe_str (fun μ H => str_rep _) fun _ => rfl
  · split at hm
    · rename_i e1; cases hm; exact slot_ok cx e1
    · split at hm
      · rename_i hc
        rw [Bool.and_eq_true] at hc
        obtain ⟨d, h1, rfl⟩ := map_some hm
        exact cons_ok cx g hc.1 hc.2 h1
      · cases hm
  · split at hm
    · rename_i e1 e2 e3; cases hm; exact me_bin e1 (h _ _ _ _ e2 cx g) (h _ _ _ _ e3 cx g)
    · cases hm
  · obtain ⟨x, h1, rfl⟩ := map_some hm; exact me_not (h _ _ _ _ h1 cx g)
  · obtain ⟨x, h1, rfl⟩ := map_some hm; exact me_neg (h _ _ _ _ h1 cx g)
  · exact (hA _ _ _ _ _ hm cx g).snd
  · exact (hO _ _ _ _ _ hm cx g).snd
  · split at hm
    · rename_i e1 e2 e3; cases hm; exact me_ite (h _ _ _ _ e1 cx g) (h _ _ _ _ e2 cx g) (h _ _ _ _ e3 cx g)
    · cases hm
  · obtain ⟨x, h1, rfl⟩ := map_some hm; exact me_isN (h _ _ _ _ h1 cx g)
  · obtain ⟨x, h1, rfl⟩ := map_some hm; exact me_ntN (h _ _ _ _ h1 cx g)
  · split at hm
    · rename_i e1 e2 e3
      split at hm
      · rename_i hn; cases hm; exact me_cmp cx.units e1 hn (h _ _ _ _ e2 cx g) (h _ _ _ _ e3 cx g)
      · cases hm
    · cases hm
  · split at hm
    · rename_i e1 e2 e3 e4 e5
      split at hm
      · rename_i hn; rw [Bool.and_eq_true] at hn; cases hm; exact me_chain cx.units e1 e2 hn.2 (h _ _ _ _ e3 cx g) (h _ _ _ _ e4 cx g) (h _ _ _ _ e5 cx g)
      · cases hm
    · cases hm
  · obtain ⟨x, h1, rfl⟩ := map_some hm; exact me_tup (hEs _ _ _ _ h1 cx g).1
  · obtain ⟨x, h1, rfl⟩ := map_some hm; exact me_lst (hEs _ _ _ _ h1 cx g).1
  · split at hm
    · rename_i ks vs _ hl
      obtain ⟨x, h1, rfl⟩ := map_some hm
      have kv := hKv _ _ _ _ _ h1 cx g
      cases ks with
      | nil => cases kv; exact me_dnil
      | cons k ks =>
        by_cases h15 : (k :: ks).length ≤ 15
        · exact me_dsp15 kv (fun z => by cases z) h15
        · exact me_dsp16 kv (by omega)
    · cases hm
  · split at hm
    · rename_i e1 e2; cases hm; exact me_slF (h _ _ _ _ e1 cx g) (h _ _ _ _ e2 cx g)
    · cases hm
  · split at hm
    · rename_i e1 e2; cases hm; exact me_slT (h _ _ _ _ e1 cx g) (h _ _ _ _ e2 cx g)
    · cases hm
  · split at hm
    · rename_i e1 e2 e3; cases hm; exact me_slB (h _ _ _ _ e1 cx g) (h _ _ _ _ e2 cx g) (h _ _ _ _ e3 cx g)
    · cases hm
  · split at hm
    · cases hm
    · rename_i hs
      split at hm
      · rename_i e1 e2; cases hm; exact me_ix u1 (Bool.eq_false_iff.mpr hs) (h _ _ _ _ e1 cx g) (h _ _ _ _ e2 cx g)
      · cases hm
  · rename_i f _ args _
    split at hm
    · cases hm
    · rename_i hg
      simp only [Bool.or_eq_true, Bool.not_eq_true', not_or, Bool.not_eq_false] at hg
      obtain ⟨hg1, hg2⟩ := hg
      have GL := globB_ok cx hg1
      split at hm
      · rename_i i ei
        obtain ⟨x, h1, rfl⟩ := map_some hm
        obtain ⟨k1, k2, k3, _⟩ := hEs _ _ _ _ h1 cx g
        exact me_call (g.calls _ _ ei) GL (okNm_ok hg2).1 k1 k2 k3
      · split at hm
        · split at hm
          · rename_i e1 e2
            split at hm
            · cases hm
            · rename_i hs; cases hm; exact me_b1 cx.calm e1 GL (g.blt _ (bnm e1)) (nStar hs) (h _ _ _ _ e2 cx g)
          · cases hm
        · split at hm
          · rename_i hf
            subst hf
            split at hm
            · split at hm
              · rename_i e1 e2
                split at hm
                · rename_i hc
                  rw [Bool.and_eq_true, Bool.not_eq_true'] at hc
                  cases hm
                  exact me_isi e1 GL (g.blt _ (by decide +kernel)) (globB_ok cx hc.1) (g.blt _ (tnm e1)) hc.2 (h _ _ _ _ e2 cx g)
                · cases hm
              · cases hm
            · cases hm
          · split at hm
            · rename_i e1 e2 e3
              split at hm
              · cases hm
              · rename_i hs
                rw [Bool.or_eq_true, not_or] at hs
                cases hm
                exact me_b2 cx.calm e1 GL (g.blt _ (bnm2 e1)) (nStar hs.1) (nStar hs.2) (h _ _ _ _ e2 cx g) (h _ _ _ _ e3 cx g)
            · cases hm
        · cases hm
  · split at hm
    · cases hm
    · rename_i hc
      simp only [Bool.or_eq_true, Bool.not_eq_true', not_or, Bool.not_eq_false] at hc
      obtain ⟨hl, hb⟩ := hc
      split at hm
      · split at hm
        · rename_i e1 e2; cases hm; exact me_mF0 e1 (h _ _ _ _ e2 cx g) hb hl
        · cases hm
      · split at hm
        · rename_i e1 e2 e3
          split at hm
          · cases hm
          · rename_i hs; cases hm; exact me_mF1 e1 (h _ _ _ _ e2 cx g) (h _ _ _ _ e3 cx g) (nStar hs) hb hl
        · cases hm
      · split at hm
        · rename_i hf
          subst hf
          split at hm
          · split at hm
            · rename_i hk; cases hm; exact me_repl hk.1 hk.2 hl
            · cases hm
          · cases hm
        · split at hm
          · rename_i e1 e2 e3 e4
            split at hm
            · cases hm
            · rename_i hs
              rw [Bool.or_eq_true, not_or] at hs
              cases hm
              exact me_mF2 u1 e1 (h _ _ _ _ e2 cx g) (h _ _ _ _ e3 cx g) (h _ _ _ _ e4 cx g) (nStar hs.1) (nStar hs.2) hb hl
          · cases hm
      · cases hm
  · rename_i elt tg iter ifs scope pos
    dsimp only at hm
    split at hm
    · rename_i hc
      rw [Bool.and_eq_true, decide_eq_true_eq] at hc
      split at hm
      · rename_i e1 e2 e3 e4
        split at hm
        · rename_i ht
          cases hm
          obtain ⟨k1, k2⟩ := hI _ tg _ _ _ e1 ht cx g
          have ok : BlkOk X.N X.env.scope scope (ownOf c tg) := blkOk_by (by rw [cx.names, cx.sc]; exact hc.1)
          refine me_lc cx.calm cx.nd k1 ok (cT_slots (c := blkIn c scope) e2) k2 (fun X' hX => cT_ok (cx.blk hX) e2) (fun X' hX => ?_) (fun X' hX => (h _ _ _ _ e4 (cx.blk hX) (g.blk hX)).pe)
          have q := hEs _ _ _ X' e3 (cx.blk hX) (g.blk hX)
          cases ifs with
          | nil => rw [q.2.2.1 rfl]; exact mts_nil
          | cons e0 es0 =>
            cases es0 with
            | nil => obtain ⟨m0, z1, z2⟩ := q.2.2.2 e0 rfl; rw [z1]; exact mts_one z2
            | cons e00 es00 => exact absurd hc.2 (by simp)
        · cases hm
      · cases hm
    · cases hm
  · rename_i kx vx tg iter ifs scope pos
    dsimp only at hm
    split at hm
    · rename_i hc
      rw [Bool.and_eq_true, decide_eq_true_eq] at hc
      split at hm
      · rename_i e1 e2 e3 e4 e5
        split at hm
        · rename_i ht
          cases hm
          obtain ⟨k1, k2⟩ := hI _ tg _ _ _ e1 ht cx g
          have ok : BlkOk X.N X.env.scope scope (ownOf c tg) := blkOk_by (by rw [cx.names, cx.sc]; exact hc.1)
          refine me_dc cx.calm cx.nd k1 ok (cT_slots (c := blkIn c scope) e2) k2 (fun X' hX => cT_ok (cx.blk hX) e2) (fun X' hX => ?_) (fun X' hX => (h _ _ _ _ e4 (cx.blk hX) (g.blk hX)).pe) (fun X' hX => (h _ _ _ _ e5 (cx.blk hX) (g.blk hX)).pe)
          have q := hEs _ _ _ X' e3 (cx.blk hX) (g.blk hX)
          cases ifs with
          | nil => rw [q.2.2.1 rfl]; exact mts_nil
          | cons e0 es0 =>
            cases es0 with
            | nil => obtain ⟨m0, z1, z2⟩ := q.2.2.2 e0 rfl; rw [z1]; exact mts_one z2
            | cons e00 es00 => exact absurd hc.2 (by simp)
        · cases hm
      · cases hm
    · cases hm
  · cases hm
end
end PM
end
section
/-! PM29: assignments. -/
namespace PM
open PySem PySem.Spec PyProof.Rows L2
theorem soundE (F : FT) : ∀ n, SE F n ∧ SAnd F n ∧ SOr F n ∧ SEs F n ∧ SKv F n ∧ SI F n
  | 0 => ⟨(fun _ _ _ _ h => by cases h), (fun _ _ _ _ _ h => by cases h), (fun _ _ _ _ _ h => by cases h), (fun _ _ _ _ h => by cases h), (fun _ _ _ _ _ h => by cases h), (fun _ _ _ _ _ h => by cases h)⟩
  | n + 1 => by
    obtain ⟨h1, h2, h3, h4, h5, h6⟩ := soundE F n
    exact ⟨sE h1 h2 h3 h4 h5 h6, sAnd h1 h2, sOr h1 h3, sEs h1 h4, sKv h1 h5, sI h1⟩
section
variable {F : FT} {c : CC} {X : Cx} {n : Nat}
/-- a comprehension's parts -/
structure LcP (F : FT) (X : Cx) (elt tg iter : Expr) (ifs : List Expr) (scope : Scope) (own : List (Str × Nat)) (mi : It) (t : Tg) (cs : Es) (e : E) : Prop where
  hi : PI X tg iter (tI F X.K WF mi)
  ok : BlkOk X.N X.env.scope scope own
  hw : ∀ i ∈ slotsOf t, i ∈ own.map (·.2)
  hs : ∀ es k p, iter ≠ .Set es k p
  hg : ∀ X', BlkCx X scope X' → PG X' tg (tG X'.K t)
  ht : ∀ X', BlkCx X scope X' → PTs X' ifs (tTs F X'.K WF cs)
  he : ∀ X', BlkCx X scope X' → PE X' elt (tM F X'.K WF e)
theorem lc_parts {elt : Expr} {gens : List Comprehension} {scope : Scope} {pos : Pos} {m : E} (hm : cE n c (.ListComp elt gens scope pos) = some m) (cx : Ctx F c X) (g : GX F c X) :
    ∃ tg iter ifs own mi t cs e, gens = [⟨tg, iter, ifs, 0⟩] ∧ m = .lc mi t (own.map (·.2)) cs e ∧ LcP F X elt tg iter ifs scope own mi t cs e := by
  cases n with
  | zero => cases hm
  | succ n =>
    obtain ⟨h, hA, hO, hEs, hKv, hI⟩ := soundE F n
    unfold cE at hm
    split at hm <;> first | (rename_i z; cases z; done) | skip
    · rename_i elt' tg iter ifs scope' pos' z
      cases z
      dsimp only at hm
      split at hm
      · rename_i hc
        rw [Bool.and_eq_true, decide_eq_true_eq] at hc
        split at hm
        · rename_i e1 e2 e3 e4
          split at hm
          · rename_i ht
            cases hm
            obtain ⟨k1, k2⟩ := hI _ tg _ _ _ e1 ht cx g
            have ok : BlkOk X.N X.env.scope scope (ownOf c tg) := blkOk_by (by rw [cx.names, cx.sc]; exact hc.1)
            refine ⟨tg, iter, ifs, ownOf c tg, _, _, _, _, rfl, rfl, k1, ok, cT_slots (c := blkIn c scope) e2, k2, fun X' hX => cT_ok (cx.blk hX) e2, fun X' hX => ?_, fun X' hX => (h _ _ _ _ e4 (cx.blk hX) (g.blk hX)).pe⟩
            have q := hEs _ _ _ X' e3 (cx.blk hX) (g.blk hX)
            cases ifs with
            | nil => rw [q.2.2.1 rfl]; exact mts_nil
            | cons e0 es0 =>
              cases es0 with
              | nil => obtain ⟨m0, z1, z2⟩ := q.2.2.2 e0 rfl; rw [z1]; exact mts_one z2
              | cons e00 es00 => exact absurd hc.2 (by simp)
          · cases hm
        · cases hm
      · cases hm
    · cases hm
theorem dc_parts {kx vx : Expr} {gens : List Comprehension} {scope : Scope} {pos : Pos} {m : E} (hm : cE n c (.DictComp kx vx gens scope pos) = some m) (cx : Ctx F c X) (g : GX F c X) :
    ∃ tg iter ifs own mi t cs ek e, gens = [⟨tg, iter, ifs, 0⟩] ∧ m = .dc mi t (own.map (·.2)) cs ek e ∧ LcP F X vx tg iter ifs scope own mi t cs e ∧ ∀ X', BlkCx X scope X' → PE X' kx (tM F X'.K WF ek) := by
  cases n with
  | zero => cases hm
  | succ n =>
    obtain ⟨h, hA, hO, hEs, hKv, hI⟩ := soundE F n
    unfold cE at hm
    split at hm <;> first | (rename_i z; cases z; done) | skip
    · rename_i k' v' tg iter ifs scope' pos' z
      cases z
      dsimp only at hm
      split at hm
      · rename_i hc
        rw [Bool.and_eq_true, decide_eq_true_eq] at hc
        split at hm
        · rename_i e1 e2 e3 e4 e5
          split at hm
          · rename_i ht
            cases hm
            obtain ⟨k1, k2⟩ := hI _ tg _ _ _ e1 ht cx g
            have ok : BlkOk X.N X.env.scope scope (ownOf c tg) := blkOk_by (by rw [cx.names, cx.sc]; exact hc.1)
            refine ⟨tg, iter, ifs, ownOf c tg, _, _, _, _, _, rfl, rfl, ⟨k1, ok, cT_slots (c := blkIn c scope) e2, k2, fun X' hX => cT_ok (cx.blk hX) e2, fun X' hX => ?_, fun X' hX => (h _ _ _ _ e5 (cx.blk hX) (g.blk hX)).pe⟩, fun X' hX => (h _ _ _ _ e4 (cx.blk hX) (g.blk hX)).pe⟩
            have q := hEs _ _ _ X' e3 (cx.blk hX) (g.blk hX)
            cases ifs with
            | nil => rw [q.2.2.1 rfl]; exact mts_nil
            | cons e0 es0 =>
              cases es0 with
              | nil => obtain ⟨m0, z1, z2⟩ := q.2.2.2 e0 rfl; rw [z1]; exact mts_one z2
              | cons e00 es00 => exact absurd hc.2 (by simp)
          · cases hm
        · cases hm
      · cases hm
    · cases hm
/-! name = {..} on one line: stored from within -/
theorem ps_setDc {i : Nat} {y : Str} {py : Pos} {kx vx tg iter : Expr} {ifs : List Expr} {scope : Scope} {own : List (Str × Nat)} {pos spos : Pos} {wi : TI} {g : TG} {tt : TT} {tk tv : TE} (hc : X.calm = true) (hN : X.N.Nodup) (hy : X.N[i]? = some y) (hyl : X.env.scope.names.lookup y = some .local)
    (hsw : swapsWith (.DictComp kx vx [⟨tg, iter, ifs, 0⟩] scope pos) (some (.Name y py)) spos.line X.env = pure true) (hi : PI X tg iter wi) (ok : BlkOk X.N X.env.scope scope own)
    (hg : ∀ (s : Shared) (H : Hp) (C : Addr) (cl : List (Str × Addr)) (fp : List Addr), PG (X.blk s H scope (compEnvC scope cl C X.env) fp) tg g) (ht : ∀ (s : Shared) (H : Hp) (C : Addr) (cl : List (Str × Addr)) (fp : List Addr), PTs (X.blk s H scope (compEnvC scope cl C X.env) fp) ifs tt)
    (hk : ∀ (s : Shared) (H : Hp) (C : Addr) (cl : List (Str × Addr)) (fp : List Addr), PE (X.blk s H scope (compEnvC scope cl C X.env) fp) kx tk)
    (he : ∀ (s : Shared) (H : Hp) (C : Addr) (cl : List (Str × Addr)) (fp : List Addr), PE (X.blk s H scope (compEnvC scope cl C X.env) fp) vx tv) (hs : ∀ x, foldedSetIterable iter X.env x = pure x) :
    PS X (.Assign [.Name y py] (.DictComp kx vx [⟨tg, iter, ifs, 0⟩] scope pos) spos) (tAsg (tDc wi g tt tk tv (own.map (·.2))) (gName i)) := by
  refine ⟨fun pins s σ H En I h => ?_⟩
  rw [exec_Assign_Name_used _ _ _ _ hsw]
  refine wpAny_bind (wpAny_standAt (wpAny_bind ?_))
  show wpAny _ X.A (do let _ ← comprehension (.DictComp kx vx [⟨tg, iter, ifs, 0⟩] scope pos) scope X.env (firstIterPos [⟨tg, iter, ifs, 0⟩] pos) newDict false (eval iter X.env) (some (PySem.assign (.Name y py) X.env))) _ _ s
  have h : tDc wi g tt tk tv (own.map (·.2)) σ H (fun x H1 => gName i x σ H1 En.nx) := h
  refine wpAny_bind (thn (dc_core (Qf := fun _ s' => SP X pins En .next s') hc hN I hi ok hg ht hk he hs h
    fun L C s' m H' I' q hn f => ?_) fun _ s' hq => wpAny_pure (wpAny_pure hq))
  show wpAny _ _ (PySem.assign (.Name y py) X.env (.ref L)) _ _ _
  refine wpAny_assign_Name (store_ok2 (v := V.ref L) I' hN hy (.inl hyl) rfl (fun s2 I2 ⟨a, sb, ha⟩ => ?_) (.inr hyl))
  obtain ⟨f0, f1, f2, f3, f4, f5⟩ := f
  have haC : C ≠ a := by
    rcases ha with z | z
    · exact fun e => f1 (e.trans z)
    · exact fun e => f4 y a z e.symm
  refine ⟨m, hn.sameBut sb haC, fun h3 sb3 => ?_⟩
  exact ⟨_, H', I2.turned (t' := s2.toks) (fun b o hb e => (sb3.2 b hb).trans e) f0 f1 f3 f4 f5, q⟩
/-! ### target = value -/
theorem sw_cases {e : Expr} {y : Str} {py : Pos} {l : Nat} (cx : Ctx F c X) (hk : X.env.scope.kind = .function) :
    swapsWith e (some (.Name y py)) l X.env = pure false ∨ (isComp e = true ∧ X.env.scope.names.lookup y = some .local ∧ swapsWith e (some (.Name y py)) l X.env = pure true) := by
  have bk : X.env.blockKind = .function := by unfold Env.blockKind; rw [hk]; rfl
  have key : ∀ (b : Bool), swapsWith e (some (.Name y py)) l X.env = pure b → isComp e = true → (b = true → X.env.scope.names.lookup y = some .local) → swapsWith e (some (.Name y py)) l X.env = pure false ∨ (isComp e = true ∧ X.env.scope.names.lookup y = some .local ∧ swapsWith e (some (.Name y py)) l X.env = pure true) := fun b h1 h2 h3 => by
    cases b with
    | false => exact .inl h1
    | true => exact .inr ⟨h2, h3 rfl, h1⟩
  have loc : ∀ (p q r : Bool), (p && (X.env.kindOf y == some .local) && q && r) = true → X.env.scope.names.lookup y = some .local := fun p q r h => by
    simp only [Bool.and_eq_true, beq_iff_eq] at h
    exact h.1.1.2
  cases e <;> first | (left; rfl) | skip
  · exact key _ rfl rfl fun h => loc _ _ _ h
  · exact key _ rfl rfl fun h => loc _ _ _ h
  · exact key _ rfl rfl fun h => loc _ _ _ h
theorem ms_name {y : Str} {py pos : Pos} {e : Expr} {i : Nat} {m : E} (hk : X.env.scope.kind = .function) (hm : cE n c e = some m) (cx : Ctx F c X) (g : GX F c X) (hy : slotW c y = some i) : SndS F X (.Assign [.Name y py] e pos) (.asg (.nm i) m) := by
  have hs := ((soundE F n).1 _ _ _ _ hm cx g)
  obtain ⟨h1, h2, h3, _⟩ := slotW_ok cx hy
  have nsub : ∀ o j, Tg.nm i ≠ .sub o j := fun _ _ z => by cases z
  rcases sw_cases (e := e) (y := y) (py := py) (l := pos.line) cx hk with hsw | ⟨hc, hl, hsw⟩
  · exact ms_asg hs.pe (pg_name cx.nd h1 h2 h3) nsub hsw (by cases e <;> rfl) rfl
  · cases e <;> first | (simp [isComp] at hc; done) | skip
    · obtain ⟨tg, iter, ifs, own, mi, t, cs, x, rfl, rfl, P⟩ := lc_parts hm cx g
      refine PS.imp (ps_setLc cx.calm cx.nd h1 hl hsw P.hi P.ok (fun s H C cl fp => P.hg _ ⟨s, H, C, cl, fp, rfl⟩) (fun s H C cl fp => P.ht _ ⟨s, H, C, cl, fp, rfl⟩) (fun s H C cl fp => P.he _ ⟨s, H, C, cl, fp, rfl⟩) (notSet_ok P.hs)) fun En σ H h => asg_ok nsub (fun _ _ _ z => lc_walk P.hw z) h
    · cases n <;> cases hm
    · obtain ⟨tg, iter, ifs, own, mi, t, cs, ek, x, rfl, rfl, P, hkx⟩ := dc_parts hm cx g
      refine PS.imp (ps_setDc cx.calm cx.nd h1 hl hsw P.hi P.ok (fun s H C cl fp => P.hg _ ⟨s, H, C, cl, fp, rfl⟩) (fun s H C cl fp => P.ht _ ⟨s, H, C, cl, fp, rfl⟩) (fun s H C cl fp => hkx _ ⟨s, H, C, cl, fp, rfl⟩) (fun s H C cl fp => P.he _ ⟨s, H, C, cl, fp, rfl⟩) (notSet_ok P.hs)) fun En σ H h => asg_ok nsub (fun _ _ _ z => dc_walk P.hw z) h
end
end PM
end
section
/-! PM30: several targets at once; statements. -/
namespace PM
open PySem PySem.Spec PyProof.Rows L2
section
variable {F : FT} {c : CC} {X : Cx} {n : Nat}
theorem kind_plain (cx : Ctx F c X) (x : Str) : (X.env.kindOf x == some NameKind.local) = plainB c.sc x := by
  unfold plainB Env.kindOf
  rw [cx.sc]
  split
  · rename_i e; rw [e]; rfl
  · rename_i e
    cases h : c.sc.names.lookup x with
    | none => rfl
    | some k => cases k <;> first | rfl | exact absurd h e
theorem swaps_ok (cx : Ctx F c X) (hk : X.env.scope.kind = .function) {ts vs : List Expr} {k k2 : Nat} {p p2 : Pos} {b : Bool} (h : swapsB c ts vs = some b) :
    swappedStores [.Tuple ts k p] (.Tuple vs k2 p2) X.env = pure (if b then some (swNames c ts) else none) := by
  have bk : X.env.blockKind = .function := by unfold Env.blockKind; rw [hk]; rfl
  have st : ∀ f : Expr → Bool, (∀ e, f e = isStarred e) → vs.any f = vs.any isStarred := fun f hf => by rw [show f = isStarred from funext hf]
  have nm : ∀ f : Expr → Option Str, (∀ e, f e = match e with
      | .Name id pos => if X.env.kindOf id == some .local && pos.line == (ts.head?.map (·.pos.line)).getD 0 then some id else none
      | _ => none) → ts.filterMap f = swNames c ts := fun f hf => by
    unfold swNames
    congr 1
    funext e
    rw [hf e]
    cases e <;> first | rfl | skip
    rename_i id pos
    show (if (X.env.kindOf id == some NameKind.local && _) = true then some id else none) = _
    rw [kind_plain cx]
  unfold swapsB at h
  unfold swappedStores
  simp only [bk]
  rw [st _ fun e => by cases e <;> rfl, nm _ fun e => by cases e <;> rfl]
  split at h
  · rename_i h1
    cases h
    have h1' : (!(ts.length == 2 || ts.length == 3) || vs.length != ts.length || (ScopeKind.function != ScopeKind.function)) = true := by
      rw [h1]; rfl
    simp only [h1', if_true]
    rfl
  · rename_i h1
    have h1' : ¬ (!(ts.length == 2 || ts.length == 3) || vs.length != ts.length || (ScopeKind.function != ScopeKind.function)) = true := by
      intro z
      apply h1
      simpa using z
    rw [if_neg h1']
    split at h
    · cases h
    · rename_i h2
      rw [if_neg h2]
      split at h
      · rename_i h3
        cases h
        rw [if_pos h3]
        rfl
      · rename_i h3
        rw [if_neg h3]
        split at h
        · rename_i h4
          cases h
          rw [if_pos h4]
          rfl
        · rename_i h4
          rw [if_neg h4]
          split at h
          · cases h
          · rename_i h5
            cases h
            rw [if_neg h5]
            rfl
end
end PM
end
section
/-! PM31: what is compiled is told by M: statements. -/
namespace PM
open PySem PySem.Spec PyProof.Rows L2
theorem tMs.stepS {F : FT} {K : PySem.W.Frag} {En : Ends} {ρ : Env} {σ : LSt} {st : PM.St} {m : Es} {k : List A → PM.St → RS} {μ0 μ : Adrs} {H0 H : Hp} (er : ERep K μ H ρ σ) (sr : SRep K μ H st) (h : PostS K μ0 H0 En ((evEs F m ρ st).toS ρ k)) :
    tMs F K WF m σ H (fun vs H1 => ∃ xs st1 μ1, Fr μ H μ1 H1 ∧ SRep K μ1 H1 st1 ∧ ARs K μ1 H1 vs xs ∧ NewL H vs xs ∧ PostS K μ0 H0 En (k xs st1)) := by
  refine tMs.elim er sr (fun x st1 e v μ1 H1 f s r n => ⟨x, st1, μ1, f, s, r, n, ?_⟩) (fun c ds st1 e => ?_) (fun e => ?_)
  · rw [e] at h; exact h
  · rw [e] at h; exact h.elim
  · rw [e] at h; exact h
section
variable {F : FT} {c : CC} {X : Cx} {n : Nat}
theorem fm_all {α β : Type} {f : α → Option β} : ∀ {l : List α}, (l.filterMap f).length = l.length → ∀ e ∈ l, ∃ y, f e = some y
  | [], _, e, he => by cases he
  | a :: l, h, e, he => by
    cases ha : f a with
    | none =>
      rw [List.filterMap_cons_none ha] at h
      have := List.length_filterMap_le f l
      simp at h
      omega
    | some y =>
      rw [List.filterMap_cons_some ha] at h
      rcases List.mem_cons.mp he with rfl | he
      · exact ⟨y, ha⟩
      · exact fm_all (by simpa using h) e he
theorem swf {ts : List Expr} {x : Str} {p : Pos} (h : (swNames c ts).length = ts.length) (hm : Expr.Name x p ∈ ts) : plainB c.sc x = true ∧ (if plainB c.sc x && p.line == (ts.head?.map (·.pos.line)).getD 0 then some x else none) = some x := by
  obtain ⟨y, hy⟩ := fm_all h _ hm
  dsimp only at hy
  split at hy
  · rename_i hc
    rw [Bool.and_eq_true] at hc
    exact ⟨hc.1, by rw [if_pos (by rw [Bool.and_eq_true]; exact hc)]⟩
  · cases hy
theorem slotsW_cons {t : Expr} {ts : List Expr} {is : List Nat} (h : slotsW c (t :: ts) = some is) : ∃ x p i js, t = .Name x p ∧ is = i :: js ∧ slotW c x = some i ∧ slotsW c ts = some js := by
  cases t with
  | Name x p =>
    unfold slotsW at h
    split at h
    · rename_i i js e1 e2
      cases h
      exact ⟨x, p, i, js, rfl, rfl, e1, e2⟩
    · cases h
  | _ => cases h
theorem plain_loc (cx : Ctx F c X) {x : Str} (h : plainB c.sc x = true) : X.env.scope.names.lookup x = some .local := by
  unfold plainB at h
  rw [cx.sc]
  split at h
  · rename_i e; exact e
  · cases h
theorem ix_ne (cx : Ctx F c X) {x y : Str} {i j : Nat} (hi : X.N[i]? = some x) (hj : X.N[j]? = some y) (h : x ≠ y) : i ≠ j := fun e => by
  subst e; rw [hi] at hj; exact h (Option.some.inj hj)
theorem swaps_len {ts vs : List Expr} (h : swapsB c ts vs = some true) : (ts.length = 2 ∨ ts.length = 3) ∧ vs.length = ts.length ∧ (swNames c ts).length = ts.length := by
  unfold swapsB at h
  split at h
  · cases h
  · rename_i h1
    split at h
    · cases h
    · split at h
      · cases h
      · rename_i h3
        simp only [Bool.or_eq_true, Bool.not_eq_true', Bool.or_eq_false_iff, bne_iff_ne, ne_eq, not_or, beq_eq_false_iff_ne, not_and, Decidable.not_not] at h1 h3
        refine ⟨?_, h1.2, h3.1⟩
        by_cases z : ts.length = 2
        · exact .inl z
        · exact .inr (h1.1 z)
theorem ms_par {ts vs : List Expr} {k k2 : Nat} {p p2 pos : Pos} {is : List Nat} {xs : Es} (hk : X.env.scope.kind = .function) (hsw : swapsB c ts vs = some true) (hnd : nodupS (tgNames (.Tuple ts k p)) = true) (hs : slotsW c ts = some is) (he : cEs n c vs = some xs) (cx : Ctx F c X) (g : GX F c X) :
    SndS F X (.Assign [.Tuple ts k p] (.Tuple vs k2 p2) pos) (.par is xs) := by
  obtain ⟨hl, hv, hw⟩ := swaps_len hsw
  have hsw' := swaps_ok cx hk (k := k) (k2 := k2) (p := p) (p2 := p2) hsw
  rw [if_pos rfl] at hsw'
  have pa := ((soundE F n).2.2.2.1 _ _ _ _ he cx g).1
  rcases hl with hl | hl
  · obtain ⟨t1, t2, rfl⟩ : ∃ a b, ts = [a, b] := by
      match ts, hl with
      | [a, b], _ => exact ⟨a, b, rfl⟩
    obtain ⟨a, b, rfl⟩ : ∃ a b, vs = [a, b] := by
      match vs, hv with
      | [a, b], _ => exact ⟨a, b, rfl⟩
    obtain ⟨x, px, i, js, rfl, rfl, s1, hs⟩ := slotsW_cons hs
    obtain ⟨y, py, j, js, rfl, rfl, s2, hs⟩ := slotsW_cons hs
    cases hs
    obtain ⟨q1, r1⟩ := swf hw (x := x) (p := px) (by simp)
    obtain ⟨q2, r2⟩ := swf hw (x := y) (p := py) (by simp)
    obtain ⟨i1, _⟩ := slotW_ok cx s1
    obtain ⟨j1, _⟩ := slotW_ok cx s2
    have hxy : x ≠ y := fun e => by
      subst e
      simp [tgNames, nodupS] at hnd
    have en : swNames c [.Name x px, .Name y py] = [x, y] := by
      unfold swNames
      simp only [List.filterMap, r1, r2]
    rw [en] at hsw'
    refine PS.imp (ps_par cx.calm cx.nd i1 j1 (ix_ne cx i1 j1 hxy) (plain_loc cx q1) (plain_loc cx q2) pa hsw') fun En σ H ⟨ρ, st, μ, er, sr, post⟩ => ?_
    unfold evS at post
    obtain ⟨ρ1, st1, μ1, e1, s1, p1⟩ := tMs.stepS er sr post
    refine ⟨ρ1, st1, μ1, e1, s1, ?_⟩
    cases qe : evEs F xs ρ1 st1 with
    | no => rw [qe] at p1; exact p1
    | ex c ds st' => rw [qe] at p1; exact p1
    | ok zs st' =>
      rw [qe] at p1
      intro ws μ2 H2 f2 s2 r2 n2
      obtain ⟨zs2, st2, μ3, f3, s3, r3, n3, h3⟩ := p1 ws μ2 H2 f2 s2 r2 n2
      obtain ⟨μ4, f4, s4, r4, q4, _⟩ := mats_ok f3 s3 r3 n3
      split at h3
      · rename_i hlen
        have hd := mats_len zs2 st2
        rw [hlen] at hd
        obtain ⟨d1, d2, ed⟩ : ∃ a b, (mats zs2 st2).1 = [a, b] := by
          match (mats zs2 st2).1, hd with
          | [a, b], _ => exact ⟨a, b, rfl⟩
        rw [ed] at r4 h3
        cases r4 with
        | cons ra r4 =>
          cases r4 with
          | cons rb r4 =>
            cases r4
            exact ⟨_, _, rfl, h3 _ μ4 H2 f4 s4 (((er.fr f4).set ra i).set rb j)⟩
      · exact h3.elim
  · obtain ⟨t1, t2, t3, rfl⟩ : ∃ a b d, ts = [a, b, d] := by
      match ts, hl with
      | [a, b, d], _ => exact ⟨a, b, d, rfl⟩
    obtain ⟨a, b, d, rfl⟩ : ∃ a b d, vs = [a, b, d] := by
      match vs, hv with
      | [a, b, d], _ => exact ⟨a, b, d, rfl⟩
    obtain ⟨x, px, i, js, rfl, rfl, s1, hs⟩ := slotsW_cons hs
    obtain ⟨y, py, j, js, rfl, rfl, s2, hs⟩ := slotsW_cons hs
    obtain ⟨z, pz, l, js, rfl, rfl, s3, hs⟩ := slotsW_cons hs
    cases hs
    obtain ⟨q1, r1⟩ := swf hw (x := x) (p := px) (by simp)
    obtain ⟨q2, r2⟩ := swf hw (x := y) (p := py) (by simp)
    obtain ⟨q3, r3⟩ := swf hw (x := z) (p := pz) (by simp)
    obtain ⟨i1, _⟩ := slotW_ok cx s1
    obtain ⟨j1, _⟩ := slotW_ok cx s2
    obtain ⟨l1, _⟩ := slotW_ok cx s3
    have hne : x ≠ y ∧ x ≠ z ∧ y ≠ z := by
      refine ⟨fun e => ?_, fun e => ?_, fun e => ?_⟩ <;> (subst e; simp [tgNames, nodupS] at hnd)
    have en : swNames c [.Name x px, .Name y py, .Name z pz] = [x, y, z] := by
      unfold swNames
      simp only [List.filterMap, r1, r2, r3]
    rw [en] at hsw'
    refine PS.imp (ps_par3 cx.calm cx.nd i1 j1 l1 (ix_ne cx i1 j1 hne.1) (ix_ne cx i1 l1 hne.2.1) (ix_ne cx j1 l1 hne.2.2) (plain_loc cx q1) (plain_loc cx q2) (plain_loc cx q3) pa hsw') fun En σ H ⟨ρ, st, μ, er, sr, post⟩ => ?_
    unfold evS at post
    obtain ⟨ρ1, st1, μ1, e1, s1, p1⟩ := tMs.stepS er sr post
    refine ⟨ρ1, st1, μ1, e1, s1, ?_⟩
    cases qe : evEs F xs ρ1 st1 with
    | no => rw [qe] at p1; exact p1
    | ex c ds st' => rw [qe] at p1; exact p1
    | ok zs st' =>
      rw [qe] at p1
      intro ws μ2 H2 f2 s2 r2 n2
      obtain ⟨zs2, st2, μ3, f3, s3, r3, n3, h3⟩ := p1 ws μ2 H2 f2 s2 r2 n2
      obtain ⟨μ4, f4, s4, r4, q4, _⟩ := mats_ok f3 s3 r3 n3
      split at h3
      · rename_i hlen
        have hd := mats_len zs2 st2
        rw [hlen] at hd
        obtain ⟨d1, d2, d3, ed⟩ : ∃ a b d, (mats zs2 st2).1 = [a, b, d] := by
          match (mats zs2 st2).1, hd with
          | [a, b, d], _ => exact ⟨a, b, d, rfl⟩
        rw [ed] at r4 h3
        cases r4 with
        | cons ra r4 =>
          cases r4 with
          | cons rb r4 =>
            cases r4 with
            | cons rc r4 =>
              cases r4
              exact ⟨_, _, _, rfl, h3 _ μ4 H2 f4 s4 ((((er.fr f4).set ra i).set rb j).set rc l)⟩
      · exact h3.elim
end
end PM
end
section
/-! PM32: what is compiled is told by M: all statements. -/
namespace PM
open PySem PySem.Spec PyProof.Rows L2
section
variable (F : FT)
def SS (n : Nat) : Prop := ∀ c s m X, cS n c s = some m → Ctx F c X → GX F c X → X.env.scope.kind = .function → SndS F X s m
def SSs (n : Nat) : Prop := ∀ c ss ms X, cSs n c ss = some ms → Ctx F c X → GX F c X → X.env.scope.kind = .function → SndSs F X ss ms
variable {F} {n : Nat}
theorem sSs (h : SS F n) (ih : SSs F n) : SSs F (n + 1) := by
  intro c ss ms X hm cx g hk
  unfold cSs at hm
  split at hm
  · cases hm; exact mss_nil
  · split at hm
    · rename_i e1 e2; cases hm; exact mss_cons (h _ _ _ _ e1 cx g hk) (ih _ _ _ _ e2 cx g hk)
    · cases hm
theorem sS (h : SS F n) (hs : SSs F n) : SS F (n + 1) := by
  intro c s m X hm cx g hk
  have hE := (soundE F n).1
  have hI := (soundE F n).2.2.2.2.2
  have u1 : X.A.units + 1 < cLine := by have := cx.units; omega
  unfold cS at hm
  split at hm
  · split at hm
    · cases hm
    · rename_i hc
      obtain ⟨x, h1, rfl⟩ := map_some hm
      exact ms_ex (Bool.eq_false_iff.mpr hc) (hE _ _ _ _ h1 cx g)
  · rename_i t e p
    split at hm
    · rename_i ts _ _ vs _ _
      split at hm
      · rename_i hsw
        split at hm
        · rename_i hnd
          split at hm
          · rename_i e1 e2; cases hm; exact ms_par hk hsw hnd e1 e2 cx g
          · cases hm
        · cases hm
      · rename_i hsw
        split at hm
        · rename_i e1 e2
          cases hm
          obtain ⟨k1, k2, k3⟩ := slotsW_ok cx e1
          exact ms_asg (hE _ _ _ _ e2 cx g).pe (pg_tup cx.calm k1 k2 k3) (fun _ _ z => by cases z) rfl (swaps_ok cx hk hsw) rfl
        · cases hm
      · cases hm
    · rename_i hnt
      split at hm
      · rename_i u x e1 e2
        cases hm
        cases t with
        | Name y py =>
          replace e1 : (slotW c y).map Tg.nm = some u := e1
          obtain ⟨i, h1, rfl⟩ := map_some e1
          exact ms_name hk e2 cx g h1
        | Tuple ts k tp =>
          replace e1 : (slotsW c ts).map Tg.tp = some u := e1
          obtain ⟨is, h1, rfl⟩ := map_some e1
          obtain ⟨k1, k2, k3⟩ := slotsW_ok cx h1
          refine ms_asg (hE _ _ _ _ e2 cx g).pe (pg_tup cx.calm k1 k2 k3) (fun _ _ z => by cases z) (by cases e <;> rfl) ?_ rfl
          cases e <;> first | rfl | exact absurd rfl (hnt _ _ _ _ _ _ rfl)
        | Subscript o i tp =>
          unfold cTg at e1
          dsimp only at e1
          split at e1
          · cases e1
          · rename_i hsl
            rw [Bool.or_eq_true, not_or] at hsl
            split at e1
            · rename_i e3 e4
              cases e1
              refine ms_sub u1 (hE _ _ _ _ e2 cx g).pe (hE _ _ _ _ e3 cx g) (hE _ _ _ _ e4 cx g) ?_ (by cases e <;> rfl)
              intro v
              cases i <;> first | rfl | exact absurd rfl hsl.1 | exact absurd rfl hsl.2
            · cases e1
        | _ => cases e1
      · cases hm
  · split at hm
    · rename_i e1 e2 e3; cases hm; exact ms_aug cx e1 e2 (hE _ _ _ _ e3 cx g)
    · cases hm
  · split at hm
    · rename_i e1 e2 e3; cases hm; exact ms_if (hE _ _ _ _ e1 cx g) (hs _ _ _ _ e2 cx g hk) (hs _ _ _ _ e3 cx g hk)
    · cases hm
  · split at hm
    · rename_i e1 e2 e3
      split at hm
      · rename_i ht
        cases hm
        obtain ⟨k1, k2⟩ := hI _ _ _ _ _ e1 ht cx g
        exact ms_for g.xe cx.calm k1 (cT_ok cx e2) (hs _ _ _ _ e3 cx g hk) k2
      · cases hm
    · cases hm
  · split at hm
    · rename_i e1 e2; cases hm; exact ms_whl g.xe (hE _ _ _ _ e1 cx g) (hs _ _ _ _ e2 cx g hk)
    · cases hm
  · cases hm; exact ms_retN
  · obtain ⟨x, h1, rfl⟩ := map_some hm; exact ms_ret (hE _ _ _ _ h1 cx g)
  · cases hm; exact ms_pas
  · cases hm; exact ms_brk
  · cases hm; exact ms_cnt
  · cases hm
theorem soundS (F : FT) : ∀ n, SS F n ∧ SSs F n
  | 0 => ⟨(fun _ _ _ _ h => by cases h), (fun _ _ _ _ h => by cases h)⟩
  | n + 1 => ⟨sS (soundS F n).1 (soundS F n).2, sSs (soundS F n).1 (soundS F n).2⟩
end
end PM
end
section
/-! PM33: every def keeps its promise. -/
namespace PM
open PySem PySem.Spec PyProof.Rows L2
theorem nodupS_ok : ∀ {l : List Str}, nodupS l = true → l.Nodup
  | [], _ => List.nodup_nil
  | x :: l, h => by
    unfold nodupS at h
    rw [Bool.and_eq_true, Bool.not_eq_true'] at h
    refine List.nodup_cons.mpr ⟨fun hm => ?_, nodupS_ok h.2⟩
    have := List.contains_iff_mem.mpr hm
    rw [h.1] at this; cases this
theorem locB_ok {sc : Scope} {x : Str} (h : locB sc x = true) : sc.names.lookup x = some .local ∨ sc.names.lookup x = some .cell := by
  unfold locB at h
  split at h
  · rename_i e; exact .inl e
  · rename_i e; exact .inr e
  · cases h
theorem dOk_ok {st : Stmt} (h : dOk st = true) : FnScope (dSlots st) (dPars st) (dScope st) := by
  cases st <;> first | (simp [dOk] at h; done) | skip
  rename_i nm a b dl r tp sc ts p1 p2
  simp only [dOk, Bool.and_eq_true, Bool.not_eq_true', beq_iff_eq, List.all_eq_true, bne_iff_ne, ne_eq] at h
  obtain ⟨⟨⟨⟨⟨⟨⟨_, h1⟩, h2⟩, h3⟩, h4⟩, h5⟩, h6⟩, h7⟩ := h
  refine ⟨h1, h2, h3, nodupS_ok h4, h5, fun x hx => locB_ok (h6 x hx), fun y hy => h7 y hy⟩
theorem start_rep {K : PySem.W.Frag} {μ : Adrs} {H : Hp} {N : List Str} {vs : List V} {ds : List D} (r : Reps K μ H vs ds) (hl : ds.length ≤ N.length) : ERep K μ H (startE N.length ds) (L2.start N vs) := by
  have e := r.length
  refine ⟨?_, fun i d h => ?_⟩
  · unfold startE L2.start
    simp [e]
  · unfold startE at h
    by_cases hi : i < ds.length
    · rw [List.getElem?_append_left (by simpa using hi), List.getElem?_map] at h
      cases hd : ds[i]? with
      | none => rw [hd] at h; cases h
      | some x =>
        rw [hd] at h
        cases h
        obtain ⟨v, hv, rv⟩ := r.get hd
        refine ⟨v, ?_, rv⟩
        unfold L2.start
        rw [List.getElem?_append_left (by rw [List.length_map, e]; exact hi), List.getElem?_map, hv]
        rfl
    · rw [List.getElem?_append_right (by simpa using hi), List.getElem?_replicate] at h
      split at h <;> cases h
/-- how a def's arguments are bound -/
def Bnd (x qual : Str) (st : Stmt) : Prop := ∀ (kV doc pm : Value) (an : Option Addr) (cdv ct : Value) (us : List Value), us.length = (dPars st).length →
  bindArgs (PySem.W.fnOf x qual (dArgs st) (dBody st) (dScope st) .none kV doc pm an cdv ct) ⟨us, []⟩ = pure ((dPars st).zip us)
/-- where a def stands -/
structure Def (K : PySem.W.Frag) (mg : Str → Option Value) (x : Str) (st : Stmt) (f : Addr) (fd : FuncData) : Prop where
  mg_ : mg x = some (.ref f)
  fd_ : FunD K x x (dArgs st) (dBody st) (dScope st) [] [] f fd
  bnd : Bnd x x st
theorem fun_pars {defs : List Df} {k i : Nat} {ds : List D} {st : PM.St} {df : Df} (hd : defs[i]? = some df) (h : ds.length ≠ df.pars) : fun_ defs (k + 1) i ds st = .no := by
  unfold fun_
  rw [hd]
  unfold runDf
  dsimp only
  rw [if_neg h]
  rfl
theorem fns_ok {P : Program} {w : World} {K : PySem.W.Frag} {mg : Str → Option Value} {base : Heap} {fns : List Str} {cons : List (Str × D)} {sts : List Stmt} {defs : List Df}
    (hd : ∀ (i : Nat) st, sts[i]? = some st → ∃ df, defs[i]? = some df ∧ cDf fns cons st = some df)
    (M : ∀ x i, idxS x fns = some i → ∃ st f fd, sts[i]? = some st ∧ Def K mg x st f fd)
    (C : ∀ x d, cons.lookup x = some d → ∃ v u, mg x = some u ∧ RelV v u ∧ ∀ μ H, Rep K μ H v d) (B : ∀ x ∈ bltNames, mg x = none) :
    ∀ (k : Nat) x i, idxS x fns = some i → ∀ st f fd, sts[i]? = some st → Def K mg x st f fd → FnOk P w K mg base CXF k f fd (dPars st) (spM K (fun_ defs k) i)
  | 0, x, i, hi, st, f, fd, hs, D' => ⟨fun vs H Q E ⟨ds, s, μ, r, sr, p⟩ => p.elim, fun A outer s H args us vs Q E _ _ _ _ ⟨ds, s', μ, r, sr, p⟩ => p.elim⟩
  | k + 1, x, i, hi, st, f, fd, hs, D' => by
    obtain ⟨df, h1, h2⟩ := hd i st hs
    unfold cDf at h2
    split at h2
    · rename_i hok
      have S := dOk_ok hok
      obtain ⟨b, hb, rfl⟩ := map_some h2
      have ih := fns_ok (P := P) (w := w) (base := base) hd M C B k
      have hpl : (dPars st).length ≤ (dSlots st).length := by have := congrArg List.length S.pre; rw [List.length_take] at this; omega
      refine FunD.ok (CX := CXF) (N := dSlots st) (ps := dPars st) D'.fd_ S (fun vs H Q E ⟨ds, s, μ, r, sr, p⟩ => ?_) fun cdv A outer s H vs Q E hr ⟨ds, s', μ, r, sr, p⟩ => ?_
      · rw [r.length]
        by_cases hl : ds.length = (dPars st).length
        · exact hl
        · rw [fun_pars h1 hl] at p
          exact p.elim
      · refine ⟨tSs (fun_ defs k) K b, PSs.nox ?_, ?_⟩
        · refine (soundS (fun_ defs k) 200).2 _ _ _ _ hb ⟨rfl, S.nd, rfl, rfl, hr.units, fun _ _ => rfl⟩ ⟨C, fun y j hj => ?_, B, rfl⟩ S.kind
          obtain ⟨st2, f2, fd2, k1, k2⟩ := M y j hj
          exact ⟨k, f2, fd2, dPars st2, hr, k2.mg_, k2.fd_.kp, FunD.bindsN k2.fd_ k2.bnd, ih y j hj st2 f2 fd2 k1 k2⟩
        · have p2 : Post K (fun _ _ _ _ _ => False) μ H Q (gcR s' (runDf (fun_ defs k) ⟨(dSlots st).length, (dPars st).length, b⟩ ds s')).cut := by
            have e : fun_ defs (k + 1) i ds s' = gcR s' (runDf (fun_ defs k) ⟨(dSlots st).length, (dPars st).length, b⟩ ds s') := by
              show (match defs[i]? with
                | some d => gcR s' (runDf (fun_ defs k) d ds s')
                | none => .no) = _
              rw [h1]
            rw [← e]; exact p
          have p3 := gcR_post (W' := fun _ _ _ _ _ => False) (Fr.refl μ H) sr ⟨fun _ _ h => h⟩ (Fr.refl μ H) p2
          unfold runDf at p3
          dsimp only at p3
          split at p3
          · rename_i hl
            refine ⟨startE (dSlots st).length ds, s', μ, start_rep r (by rw [hl]; exact hpl), sr, ?_⟩
            cases q : evSs (fun_ defs k) b (startE (dSlots st).length ds) s' with
            | no => rw [q] at p3; exact p3
            | ex c es ρ s2 => rw [q] at p3; exact p3
            | ok fl ρ s2 =>
              rw [q] at p3
              cases fl with
              | nx => exact fun σ' μ' H' g s3 e => p3 .non μ' H' g s3 (show Rep K μ' H' .non .non from .non) New.val
              | rt y => exact fun v μ' H' g s3 a n => p3 v μ' H' g s3 a n
              | bk => exact p3.elim
              | ct => exact p3.elim
          · exact p3.elim
    · cases h2
end PM
end
section
/-! PH1: k45's head: what the top leaves. -/
namespace K45
open PySem PySem.Spec PyProof.Rows L2 PM
abbrev row := PySem.Challenge.rw_cellmoments_k45_drafts_do_what_they_say
def body : List Stmt := PySem.Challenge.pw_cellmoments_k45_drafts_do_what_they_say.main.body
def isFn : Stmt → Bool
  | .FunctionDef .. => true
  | _ => false
def sts : List Stmt := body.filter isFn
def fns : List Str := sts.map dName
def dd (st : Stmt) : He.DefD := ⟨(dName st, none), dName st, dName st, dArgs st, dBody st, dScope st, [], []⟩
def fn : List He.DefD := sts.map dd
def txV (l : List String) : List V := l.map fun s => V.str (Str.ofString s)
def fa : List He.Fa := fns.map He.Fa.glo ++ bltNames.map He.Fa.free ++ [.int "MAX_NAME" 12, .int "MAX_SIZE" 5, .int "MAX_INPUTS" 4, .int "MAX_CELLS" 20, .glo "PAIRS", .glo "KEEPERS"]
def tupK (K : PySem.W.Frag) (x : Str) (vs : List V) : Bool := match K.lookup (He.ga K x) with
  | some ⟨.type c, none, .seq its _, _⟩ => decide (c = "tuple") && (decide (its.size ≤ sizeLine) && He.relAll vs its.toList)
  | _ => false
def pairsL : List String := ["add", "times", "least", "most", "alike", "less"]
def keepL : List String := ["held", "before", "late", "match"]
def ex (K : PySem.W.Frag) : Bool := tupK K "PAIRS" (txV pairsL) && tupK K "KEEPERS" (txV keepL)
abbrev R : PySem.W.OpenRow := PySem.W.OpenLaw.row row
abbrev hk : PySem.W.Hook := He.hookX 4 fa fn [] [] ex
def ob (s : PySem.W.SharedT) : He.AlX := He.obsX 4 fa fn [] [] ex (HandSHeadRun.getT s)
theorem ob_eq (s : PySem.W.SharedT) : ob s = hk.obs s.abs := He.obsX_eq (HandSHeadRun.getT_eq s)
def loose : List Str := (fns.filter fun x => !(x == tx "law")) ++ ["MAX_NAME", "PAIRS", "KEEPERS", "MAX_SIZE", "MAX_INPUTS", "MAX_CELLS"].map tx
end K45
end
section
namespace K45
open PySem PySem.Spec PyProof.Rows L2 PM
theorem run (w : World) : HandSHeadRun.RunEq R (PySem.W.view R.prog [67]) hk ob 3000 loose w := by
  intro os
  kernel_rfl
end K45
end
section
/-! PH3: k45: the defs are compiled; how arguments are bound; what the top leaves, as the walk wants it. -/
namespace K45
open PySem PySem.Spec PyProof.Rows L2 PM
def at_ (i : Nat) : Stmt := sts.getD i (.Pass ⟨0, 0, 0, 0⟩)
theorem b0 : Bnd (dName (at_ 0)) (dName (at_ 0)) (at_ 0) := fun _ _ _ _ _ _ us hl => match us, hl with
  | [_], _ => rfl
theorem b1 : Bnd (dName (at_ 1)) (dName (at_ 1)) (at_ 1) := fun _ _ _ _ _ _ us hl => match us, hl with
  | [_, _, _], _ => rfl
theorem b2 : Bnd (dName (at_ 2)) (dName (at_ 2)) (at_ 2) := fun _ _ _ _ _ _ us hl => match us, hl with
  | [_, _], _ => rfl
theorem b3 : Bnd (dName (at_ 3)) (dName (at_ 3)) (at_ 3) := fun _ _ _ _ _ _ us hl => match us, hl with
  | [_], _ => rfl
theorem b4 : Bnd (dName (at_ 4)) (dName (at_ 4)) (at_ 4) := fun _ _ _ _ _ _ us hl => match us, hl with
  | [_], _ => rfl
theorem b5 : Bnd (dName (at_ 5)) (dName (at_ 5)) (at_ 5) := fun _ _ _ _ _ _ us hl => match us, hl with
  | [_], _ => rfl
theorem b6 : Bnd (dName (at_ 6)) (dName (at_ 6)) (at_ 6) := fun _ _ _ _ _ _ us hl => match us, hl with
  | [_, _], _ => rfl
theorem b7 : Bnd (dName (at_ 7)) (dName (at_ 7)) (at_ 7) := fun _ _ _ _ _ _ us hl => match us, hl with
  | [_, _], _ => rfl
theorem b8 : Bnd (dName (at_ 8)) (dName (at_ 8)) (at_ 8) := fun _ _ _ _ _ _ us hl => match us, hl with
  | [_, _], _ => rfl
theorem b9 : Bnd (dName (at_ 9)) (dName (at_ 9)) (at_ 9) := fun _ _ _ _ _ _ us hl => match us, hl with
  | [_, _], _ => rfl
theorem b10 : Bnd (dName (at_ 10)) (dName (at_ 10)) (at_ 10) := fun _ _ _ _ _ _ us hl => match us, hl with
  | [_], _ => rfl
theorem b11 : Bnd (dName (at_ 11)) (dName (at_ 11)) (at_ 11) := fun _ _ _ _ _ _ us hl => match us, hl with
  | [_], _ => rfl
theorem b12 : Bnd (dName (at_ 12)) (dName (at_ 12)) (at_ 12) := fun _ _ _ _ _ _ us hl => match us, hl with
  | [_, _, _, _], _ => rfl
theorem b13 : Bnd (dName (at_ 13)) (dName (at_ 13)) (at_ 13) := fun _ _ _ _ _ _ us hl => match us, hl with
  | [_, _, _], _ => rfl
theorem b14 : Bnd (dName (at_ 14)) (dName (at_ 14)) (at_ 14) := fun _ _ _ _ _ _ us hl => match us, hl with
  | [_], _ => rfl
theorem b15 : Bnd (dName (at_ 15)) (dName (at_ 15)) (at_ 15) := fun _ _ _ _ _ _ us hl => match us, hl with
  | [_], _ => rfl
theorem b16 : Bnd (dName (at_ 16)) (dName (at_ 16)) (at_ 16) := fun _ _ _ _ _ _ us hl => match us, hl with
  | [_], _ => rfl
theorem b17 : Bnd (dName (at_ 17)) (dName (at_ 17)) (at_ 17) := fun _ _ _ _ _ _ us hl => match us, hl with
  | [_], _ => rfl
theorem b18 : Bnd (dName (at_ 18)) (dName (at_ 18)) (at_ 18) := fun _ _ _ _ _ _ us hl => match us, hl with
  | [_], _ => rfl
theorem b19 : Bnd (dName (at_ 19)) (dName (at_ 19)) (at_ 19) := fun _ _ _ _ _ _ us hl => match us, hl with
  | [_], _ => rfl
theorem b20 : Bnd (dName (at_ 20)) (dName (at_ 20)) (at_ 20) := fun _ _ _ _ _ _ us hl => match us, hl with
  | [_, _], _ => rfl
theorem b21 : Bnd (dName (at_ 21)) (dName (at_ 21)) (at_ 21) := fun _ _ _ _ _ _ us hl => match us, hl with
  | [_], _ => rfl
theorem b22 : Bnd (dName (at_ 22)) (dName (at_ 22)) (at_ 22) := fun _ _ _ _ _ _ us hl => match us, hl with
  | [_, _, _], _ => rfl
theorem b23 : Bnd (dName (at_ 23)) (dName (at_ 23)) (at_ 23) := fun _ _ _ _ _ _ us hl => match us, hl with
  | [_], _ => rfl
theorem b24 : Bnd (dName (at_ 24)) (dName (at_ 24)) (at_ 24) := fun _ _ _ _ _ _ us hl => match us, hl with
  | [_], _ => rfl
theorem b25 : Bnd (dName (at_ 25)) (dName (at_ 25)) (at_ 25) := fun _ _ _ _ _ _ us hl => match us, hl with
  | [_], _ => rfl
theorem b26 : Bnd (dName (at_ 26)) (dName (at_ 26)) (at_ 26) := fun _ _ _ _ _ _ us hl => match us, hl with
  | [_], _ => rfl
theorem b27 : Bnd (dName (at_ 27)) (dName (at_ 27)) (at_ 27) := fun _ _ _ _ _ _ us hl => match us, hl with
  | [_], _ => rfl
theorem b28 : Bnd (dName (at_ 28)) (dName (at_ 28)) (at_ 28) := fun _ _ _ _ _ _ us hl => match us, hl with
  | [_, _], _ => rfl
theorem b29 : Bnd (dName (at_ 29)) (dName (at_ 29)) (at_ 29) := fun _ _ _ _ _ _ us hl => match us, hl with
  | [_, _], _ => rfl
theorem b30 : Bnd (dName (at_ 30)) (dName (at_ 30)) (at_ 30) := fun _ _ _ _ _ _ us hl => match us, hl with
  | [_], _ => rfl
theorem b31 : Bnd (dName (at_ 31)) (dName (at_ 31)) (at_ 31) := fun _ _ _ _ _ _ us hl => match us, hl with
  | [_], _ => rfl
theorem b32 : Bnd (dName (at_ 32)) (dName (at_ 32)) (at_ 32) := fun _ _ _ _ _ _ us hl => match us, hl with
  | [_], _ => rfl
theorem b33 : Bnd (dName (at_ 33)) (dName (at_ 33)) (at_ 33) := fun _ _ _ _ _ _ us hl => match us, hl with
  | [_, _, _, _], _ => rfl
theorem b34 : Bnd (dName (at_ 34)) (dName (at_ 34)) (at_ 34) := fun _ _ _ _ _ _ us hl => match us, hl with
  | [_, _, _], _ => rfl
theorem b35 : Bnd (dName (at_ 35)) (dName (at_ 35)) (at_ 35) := fun _ _ _ _ _ _ us hl => match us, hl with
  | [_, _, _], _ => rfl
theorem b36 : Bnd (dName (at_ 36)) (dName (at_ 36)) (at_ 36) := fun _ _ _ _ _ _ us hl => match us, hl with
  | [_, _, _, _], _ => rfl
theorem b37 : Bnd (dName (at_ 37)) (dName (at_ 37)) (at_ 37) := fun _ _ _ _ _ _ us hl => match us, hl with
  | [_, _, _, _], _ => rfl
theorem b38 : Bnd (dName (at_ 38)) (dName (at_ 38)) (at_ 38) := fun _ _ _ _ _ _ us hl => match us, hl with
  | [_, _, _, _], _ => rfl
theorem b39 : Bnd (dName (at_ 39)) (dName (at_ 39)) (at_ 39) := fun _ _ _ _ _ _ us hl => match us, hl with
  | [_, _], _ => rfl
theorem b40 : Bnd (dName (at_ 40)) (dName (at_ 40)) (at_ 40) := fun _ _ _ _ _ _ us hl => match us, hl with
  | [_, _], _ => rfl
theorem b41 : Bnd (dName (at_ 41)) (dName (at_ 41)) (at_ 41) := fun _ _ _ _ _ _ us hl => match us, hl with
  | [_, _, _, _, _, _], _ => rfl
theorem b42 : Bnd (dName (at_ 42)) (dName (at_ 42)) (at_ 42) := fun _ _ _ _ _ _ us hl => match us, hl with
  | [_, _, _, _, _, _], _ => rfl
theorem b43 : Bnd (dName (at_ 43)) (dName (at_ 43)) (at_ 43) := fun _ _ _ _ _ _ us hl => match us, hl with
  | [_, _, _, _, _, _], _ => rfl
theorem b44 : Bnd (dName (at_ 44)) (dName (at_ 44)) (at_ 44) := fun _ _ _ _ _ _ us hl => match us, hl with
  | [_, _, _, _, _, _], _ => rfl
theorem b45 : Bnd (dName (at_ 45)) (dName (at_ 45)) (at_ 45) := fun _ _ _ _ _ _ us hl => match us, hl with
  | [_, _, _], _ => rfl
theorem b46 : Bnd (dName (at_ 46)) (dName (at_ 46)) (at_ 46) := fun _ _ _ _ _ _ us hl => match us, hl with
  | [_, _], _ => rfl
theorem b47 : Bnd (dName (at_ 47)) (dName (at_ 47)) (at_ 47) := fun _ _ _ _ _ _ us hl => match us, hl with
  | [_], _ => rfl
theorem b48 : Bnd (dName (at_ 48)) (dName (at_ 48)) (at_ 48) := fun _ _ _ _ _ _ us hl => match us, hl with
  | [_, _], _ => rfl
theorem b49 : Bnd (dName (at_ 49)) (dName (at_ 49)) (at_ 49) := fun _ _ _ _ _ _ us hl => match us, hl with
  | [_, _], _ => rfl
theorem b50 : Bnd (dName (at_ 50)) (dName (at_ 50)) (at_ 50) := fun _ _ _ _ _ _ us hl => match us, hl with
  | [_, _], _ => rfl
theorem b51 : Bnd (dName (at_ 51)) (dName (at_ 51)) (at_ 51) := fun _ _ _ _ _ _ us hl => match us, hl with
  | [_, _, _], _ => rfl
theorem b52 : Bnd (dName (at_ 52)) (dName (at_ 52)) (at_ 52) := fun _ _ _ _ _ _ us hl => match us, hl with
  | [_, _, _, _], _ => rfl
theorem b53 : Bnd (dName (at_ 53)) (dName (at_ 53)) (at_ 53) := fun _ _ _ _ _ _ us hl => match us, hl with
  | [_], _ => rfl
theorem bAll : ∀ i, i < 54 → Bnd (dName (at_ i)) (dName (at_ i)) (at_ i)
  | 0, _ => b0
  | 1, _ => b1
  | 2, _ => b2
  | 3, _ => b3
  | 4, _ => b4
  | 5, _ => b5
  | 6, _ => b6
  | 7, _ => b7
  | 8, _ => b8
  | 9, _ => b9
  | 10, _ => b10
  | 11, _ => b11
  | 12, _ => b12
  | 13, _ => b13
  | 14, _ => b14
  | 15, _ => b15
  | 16, _ => b16
  | 17, _ => b17
  | 18, _ => b18
  | 19, _ => b19
  | 20, _ => b20
  | 21, _ => b21
  | 22, _ => b22
  | 23, _ => b23
  | 24, _ => b24
  | 25, _ => b25
  | 26, _ => b26
  | 27, _ => b27
  | 28, _ => b28
  | 29, _ => b29
  | 30, _ => b30
  | 31, _ => b31
  | 32, _ => b32
  | 33, _ => b33
  | 34, _ => b34
  | 35, _ => b35
  | 36, _ => b36
  | 37, _ => b37
  | 38, _ => b38
  | 39, _ => b39
  | 40, _ => b40
  | 41, _ => b41
  | 42, _ => b42
  | 43, _ => b43
  | 44, _ => b44
  | 45, _ => b45
  | 46, _ => b46
  | 47, _ => b47
  | 48, _ => b48
  | 49, _ => b49
  | 50, _ => b50
  | 51, _ => b51
  | 52, _ => b52
  | 53, _ => b53
  | n + 54, h => absurd h (by omega)
theorem len54 : sts.length = 54 := by kernel_rfl
def cons : List (Str × D) := [("MAX_NAME", .int 12), ("PAIRS", .ktp (pairsL.map fun s => .str (ofStr (Str.ofString s)))), ("KEEPERS", .ktp (keepL.map fun s => .str (ofStr (Str.ofString s)))), ("MAX_SIZE", .int 5), ("MAX_INPUTS", .int 4), ("MAX_CELLS", .int 20)]
def defs : List Df := sts.map fun s => (cDf fns cons s).getD ⟨0, 0, .nil⟩
theorem allC : (sts.all fun s => (cDf fns cons s).isSome) = true := by kernel_rfl
theorem hd (i : Nat) (st : Stmt) (h : sts[i]? = some st) : ∃ df, defs[i]? = some df ∧ cDf fns cons st = some df := by
  have := List.all_eq_true.mp allC st (List.mem_of_getElem? h)
  obtain ⟨df, e⟩ := Option.isSome_iff_exists.mp this
  refine ⟨df, ?_, e⟩
  unfold defs
  rw [List.getElem?_map, h]
  show some ((cDf fns cons st).getD _) = _
  rw [e]; rfl
theorem bnd_of {i : Nat} {st : Stmt} (h : sts[i]? = some st) : Bnd (dName st) (dName st) st := by
  have hi : i < 54 := by rw [← len54]; exact (List.getElem?_eq_some_iff.mp h).1
  have e : at_ i = st := by unfold at_; rw [List.getD_eq_getElem?_getD, h]; rfl
  rw [← e]
  exact bAll i hi
end K45
end
section
/-! PH4: k45 holds if M's law is True at every script. -/
namespace K45
open PySem PySem.Spec PyProof.Rows L2 PM
theorem txV_rep {K : PySem.W.Frag} {μ : Adrs} {H : Hp} : ∀ l : List String, Reps K μ H (txV l) (l.map fun s => .str (ofStr (Str.ofString s)))
  | [] => .nil
  | s :: l => .cons (str_rep _) (txV_rep l)
theorem tupK_ok {K : PySem.W.Frag} {x : Str} {vs : List V} (h : tupK K x vs = true) (μ : Adrs) (H : Hp) : KT K μ H (He.ga K x) vs := by
  unfold tupK at h
  split at h
  · rename_i c its n sl e
    simp only [Bool.and_eq_true, decide_eq_true_eq] at h
    obtain ⟨h1, h2, h3⟩ := h
    subst h1
    exact .inr ⟨_, its, n, e, rfl, rfl, rfl, h2, He.relAll_ok h3⟩
  · cases h
section
variable {P : Program} {w : World} {K : PySem.W.Frag} {h : Heap} {mg : Str → Option Value} {f : Addr}
theorem mods (X : K.In h) (G : h.Ns mainGlobals mg) (c : He.SaysX fa fn [] [] ex w h K) : ∀ x i, idxS x fns = some i → ∃ st f fd, sts[i]? = some st ∧ Def K mg x st f fd := by
  intro x i hi
  have e := idx_ok _ _ _ hi
  unfold fns at e
  rw [List.getElem?_map] at e
  cases hs : sts[i]? with
  | none => rw [hs] at e; cases e
  | some st =>
    rw [hs] at e
    have ex : dName st = x := Option.some.inj e
    subst ex
    have hm : st ∈ sts := List.mem_of_getElem? hs
    obtain ⟨fd, F⟩ := c.t.d.defs (d := dd st) (List.mem_map.mpr ⟨st, hm, rfl⟩)
    have g : He.Fa.glo (dName st) ∈ fa := by
      unfold fa
      exact List.mem_append_left _ (List.mem_append_left _ (List.mem_map.mpr ⟨dName st, List.mem_map.mpr ⟨st, hm, rfl⟩, rfl⟩))
    exact ⟨st, _, fd, rfl, He.glo_ok X G (c.t.d.facts g), F, bnd_of hs⟩
theorem consOk (X : K.In h) (G : h.Ns mainGlobals mg) (c : He.SaysX fa fn [] [] ex w h K) : ∀ x d, cons.lookup x = some d → ∃ v u, mg x = some u ∧ RelV v u ∧ ∀ μ H, Rep K μ H v d := by
  intro x d hx
  have hm : (x, d) ∈ cons := PySem.mem_of_lookup hx
  have fin : ∀ {y : Str} {i : Int}, He.Fa.int y i ∈ fa → ∃ v u, mg y = some u ∧ RelV v u ∧ ∀ μ H, Rep K μ H v (.int i) := fun {y i} m => by
    obtain ⟨t, e⟩ := He.int_ok X G (c.t.d.facts m)
    exact ⟨.int i, _, e, ⟨t, rfl⟩, fun _ _ => .int i⟩
  have tail : ∀ {q : He.Fa}, q ∈ ([.int "MAX_NAME" 12, .int "MAX_SIZE" 5, .int "MAX_INPUTS" 4, .int "MAX_CELLS" 20, .glo "PAIRS", .glo "KEEPERS"] : List He.Fa) → q ∈ fa := fun m => List.mem_append_right _ m
  have hex : (tupK K "PAIRS" (txV pairsL) && tupK K "KEEPERS" (txV keepL)) = true := c.more
  rw [Bool.and_eq_true] at hex
  unfold cons at hm
  simp only [List.mem_cons, List.not_mem_nil, or_false, Prod.mk.injEq] at hm
  rcases hm with ⟨rfl, rfl⟩ | ⟨rfl, rfl⟩ | ⟨rfl, rfl⟩ | ⟨rfl, rfl⟩ | ⟨rfl, rfl⟩ | ⟨rfl, rfl⟩
  · exact fin (tail (by simp))
  · exact ⟨.ref (He.ga K "PAIRS"), _, He.glo_ok X G (c.t.d.facts (tail (by simp))), rfl, fun μ H => .ktp (tupK_ok hex.1 μ H) (txV_rep _)⟩
  · exact ⟨.ref (He.ga K "KEEPERS"), _, He.glo_ok X G (c.t.d.facts (tail (by simp))), rfl, fun μ H => .ktp (tupK_ok hex.2 μ H) (txV_rep _)⟩
  · exact fin (tail (by simp))
  · exact fin (tail (by simp))
  · exact fin (tail (by simp))
theorem bltOk (X : K.In h) (G : h.Ns mainGlobals mg) (c : He.SaysX fa fn [] [] ex w h K) : ∀ x ∈ bltNames, mg x = none := by
  intro x hx
  exact He.free_ok X G (c.t.d.facts (List.mem_append_left _ (List.mem_append_right _ (List.mem_map.mpr ⟨x, hx, rfl⟩))))
theorem lawIx : idxS (tx "law") fns = some 53 := by kernel_rfl
theorem lawPars : dPars (at_ 53) = [Str.ofString "script"] := by kernel_rfl
theorem lawName : dName (at_ 53) = tx "law" := by kernel_rfl
theorem facts (k : Nat) (X : K.In h) (G : h.Ns mainGlobals mg) (hfa : mg (tx "law") = some (.ref f)) (c : He.SaysX fa fn [] [] ex w h K) :
    ∃ fd : FuncData, (∀ (s : Shared) (v : Value), BindsTo s fd ⟨[v], []⟩ [(Str.ofString "script", v)]) ∧ ∀ base : Heap, K.In base → base.Ns mainGlobals mg → FnOk P w K mg base CXF k f fd [Str.ofString "script"] (spM K (fun_ defs k) 53) := by
  obtain ⟨st, f', fd, hs, D'⟩ := mods X G c (tx "law") 53 lawIx
  have e := hfa.symm.trans D'.mg_
  cases e
  have est : at_ 53 = st := by unfold at_; rw [List.getD_eq_getElem?_getD, hs]; rfl
  subst est
  refine ⟨fd, fun s v => ?_, fun base _ _ => ?_⟩
  · have b := FunD.bindsA (ps := dPars (at_ 53)) D'.fd_ D'.bnd s [v] (by rw [lawPars]; rfl)
    rw [lawPars] at b
    exact b
  · have := fns_ok (P := P) (w := w) (base := base) hd (mods X G c) (consOk X G c) (bltOk X G c) k (tx "law") 53 lawIx _ _ _ hs D'
    rw [lawPars] at this
    exact this
end
/-- M's law is True -/
def Law : Prop := ∀ ns : List Int, ns.length ≤ 63 → ∃ st, fun_ defs 200 53 [.fls (ns.map D.int)] [] = .ok (.v (.bl true)) st
theorem ints_rep {K : PySem.W.Frag} {μ : Adrs} {H : Hp} : ∀ l : List Int, Reps K μ H (l.map V.int) (l.map D.int)
  | [] => .nil
  | i :: l => .cons (.int i) (ints_rep l)
end K45
open PySem PySem.W PySem.Calls PyProof.Rows
theorem K45.holds (LAW : K45.Law) : K45.row.Holds := by
  w_on; o_law
  refine HandSHeadRun.head_any (r := OpenLaw.row K45.row) (q := view (OpenLaw.row K45.row).prog [67]) (H := K45.hk) (ob := K45.ob) (M := 3000) (loose := K45.loose) (d := HandSHeadRun.topDef (OpenLaw.row K45.row).prog 67) (kwd := []) K45.ob_eq
    (by kernel_rfl) (fun s => by kernel_rfl) K45.run (by kernel_rfl) (by kernel_rfl) (by kernel_rfl) (by rfl) (by first | assumption | decide +kernel) (by decide +kernel) ⟨rfl, rfl, rfl, rfl, rfl, by decide +kernel⟩ ?hw ?hc
  case hw => w_witness2
  case hc =>
    refine L2.walk_ofE (l := K45.row) (n := 63) (k := 200) (x := "script") (CX := PM.CXF) rfl (by decide) (by kernel_rfl) ⟨rfl, by decide, by decide⟩ ?F (fun _ _ _ _ z => z)
    intro w mg fa h Y G hmg0
    obtain ⟨K, KX, c⟩ := Y
    have hmg : mg (PM.tx "law") = some (.ref fa) := by
      have e : (HandSHeadRun.topDef (OpenLaw.row K45.row).prog 67).name = PM.tx "law" := by kernel_rfl
      rw [← e]
      exact hmg0
    obtain ⟨fd, hb, hF⟩ := K45.facts (P := (K45.row).prog) (w := w) 200 KX G hmg c
    refine ⟨K, fd, PM.spM K (PM.fun_ K45.defs 200) 53, KX, hb, fun H a ns hl hO hS => ?_, hF⟩
    obtain ⟨st, e⟩ := LAW ns hl
    refine ⟨[.fls (ns.map PM.D.int)], [], [], .cons (.fls ?_ (K45.ints_rep ns)) .nil, ⟨rfl, List.nodup_nil, fun n o a h1 _ => by simp at h1⟩, ?_⟩
    · rcases hS with (h1 | ⟨o, h1⟩) | h1
      · rcases hO a with h2 | ⟨o, xs, h2⟩
        · rw [h2] at h1; cases h1
        · rw [h2] at h1; cases h1
      · exact .inl ⟨o, h1, by simp⟩
      · exact .inr h1
    · rw [e]
      intro v μ' H' _ _ r _
      cases (show PM.Rep K μ' H' v (.bl true) from r)
      rfl
end
section
/-! Q0: rules by which M is worked out with letters in it. -/
namespace PM
variable {F : FT} {ρ : Env} {st : St}
@[simp] theorem R.bi_ok {α β : Type} (a : α) (st : St) (f : α → St → R β) : (R.ok a st).bind f = f a st := (rfl)
@[simp] theorem R.bind_no {α β : Type} (f : α → St → R β) : (R.no : R α).bind f = .no := (rfl)
@[simp] theorem R.toS_ok {α : Type} (a : α) (f : α → St → RS) : (R.ok a st).toS ρ f = f a st := (rfl)
@[simp] theorem R.toS_no {α : Type} (f : α → St → RS) : (R.no : R α).toS ρ f = .no := (rfl)
@[simp] theorem RS.bind_nx (f : Env → St → RS) : (RS.ok .nx ρ st).bind f = f ρ st := (rfl)
@[simp] theorem RS.bind_rt (x : A) (f : Env → St → RS) : (RS.ok (.rt x) ρ st).bind f = .ok (.rt x) ρ st := (rfl)
@[simp] theorem RS.bind_bk (f : Env → St → RS) : (RS.ok .bk ρ st).bind f = .ok .bk ρ st := (rfl)
@[simp] theorem RS.bind_ct (f : Env → St → RS) : (RS.ok .ct ρ st).bind f = .ok .ct ρ st := (rfl)
@[simp] theorem R.cut_ok {α : Type} (a : α) : (R.ok a st).cut = .ok a st := (rfl)
@[simp] theorem gcR_ok (st st' : St) (x : A) : gcR st (.ok x st') = .ok (gc st x st').1 (gc st x st').2 := (rfl)
@[simp] theorem evSs_nil : evSs F .nil ρ st = .ok .nx ρ st := by first | (rw [evSs]; done) | (rw [evSs]; rfl)
def kSs (F : FT) (r : Ss) : Env → St → RS := fun ρ st => evSs F r ρ st
@[simp] theorem kSs_ap (F : FT) (r : Ss) (ρ : Env) (st : St) : kSs F r ρ st = evSs F r ρ st := (rfl)
@[simp] theorem evSs_cons (s : S) (r : Ss) : evSs F (.cons s r) ρ st = (evS F s ρ st).bind (kSs F r) := by first | (rw [evSs]; done) | (rw [evSs]; rfl)
def kDrop (ρ : Env) : A → St → RS := fun u st => .ok .nx ρ st
@[simp] theorem kDrop_ap (ρ : Env) (u : A) (st : St) : kDrop ρ u st = .ok .nx ρ st := (rfl)
@[simp] theorem evS_ex (e : E) : evS F (.ex e) ρ st = (evE F e ρ st).toS ρ (kDrop ρ) := by first | (rw [evS]; done) | (rw [evS]; rfl)
def kAsg (F : FT) (t : Tg) (ρ : Env) : A → St → RS := fun x st => assign F t x ρ st
@[simp] theorem kAsg_ap (F : FT) (t : Tg) (ρ : Env) (x : A) (st : St) : kAsg F t ρ x st = assign F t x ρ st := (rfl)
@[simp] theorem evS_asg (t : Tg) (e : E) : evS F (.asg t e) ρ st = (evE F e ρ st).toS ρ (kAsg F t ρ) := by first | (rw [evS]; done) | (rw [evS]; rfl)
def kPar (is : List Nat) (ρ : Env) : List A → St → RS := fun as st => if as.length = is.length then .ok .nx (setAll ρ is (mats as st).1) (mats as st).2 else .no
@[simp] theorem kPar_ap (is : List Nat) (ρ : Env) (as : List A) (st : St) : kPar is ρ as st = if as.length = is.length then .ok .nx (setAll ρ is (mats as st).1) (mats as st).2 else .no := (rfl)
@[simp] theorem evS_par (is : List Nat) (es : Es) : evS F (.par is es) ρ st = (evEs F es ρ st).toS ρ (kPar is ρ) := by first | (rw [evS]; done) | (rw [evS]; rfl)
def kAug (i : Nat) (f : Fn) (d : D) (ρ : Env) : A → St → RS := fun x st1 => match augO f d x with
      | some y => .ok .nx (ρ.set i (some y)) st1
      | none => .no
@[simp] theorem kAug_ap (i : Nat) (f : Fn) (d : D) (ρ : Env) (x : A) (st1 : St) : kAug i f d ρ x st1 = match augO f d x with
      | some y => .ok .nx (ρ.set i (some y)) st1
      | none => .no := (rfl)
@[simp] theorem evS_aug (i : Nat) (f : Fn) (e : E) (d : D) (h : ρ[i]? = some (some d)) : evS F (.aug i f e) ρ st = (evE F e ρ st).toS ρ (kAug i f d ρ) := by
  rw [evS]; simp only [h]; rfl
def kIf2 (F : FT) (a b : Ss) (ρ : Env) : Bool → St → RS := fun k st => if k then evSs F a ρ st else evSs F b ρ st
@[simp] theorem kIf2_ap (F : FT) (a b : Ss) (ρ : Env) (k : Bool) (st : St) : kIf2 F a b ρ k st = if k then evSs F a ρ st else evSs F b ρ st := (rfl)
def kIf (F : FT) (a b : Ss) (ρ : Env) : A → St → RS := fun x st => (truR x st).toS ρ (kIf2 F a b ρ)
@[simp] theorem kIf_ap (F : FT) (a b : Ss) (ρ : Env) (x : A) (st : St) : kIf F a b ρ x st = (truR x st).toS ρ (kIf2 F a b ρ) := (rfl)
@[simp] theorem evS_iffQ (c : E) (a b : Ss) : evS F (.iff c a b) ρ st = (evE F c ρ st).toS ρ (kIf F a b ρ) := by first | (rw [evS]; done) | (rw [evS]; rfl)
def kRet (ρ : Env) : A → St → RS := fun x st => .ok (.rt x) ρ st
@[simp] theorem kRet_ap (ρ : Env) (x : A) (st : St) : kRet ρ x st = .ok (.rt x) ρ st := (rfl)
@[simp] theorem evS_ret (e : E) : evS F (.ret e) ρ st = (evE F e ρ st).toS ρ (kRet ρ) := by first | (rw [evS]; done) | (rw [evS]; rfl)
@[simp] theorem evS_brk : evS F .brk ρ st = .ok .bk ρ st := by first | (rw [evS]; done) | (rw [evS]; rfl)
@[simp] theorem evS_cnt : evS F .cnt ρ st = .ok .ct ρ st := by first | (rw [evS]; done) | (rw [evS]; rfl)
@[simp] theorem evS_pas : evS F .pas ρ st = .ok .nx ρ st := by first | (rw [evS]; done) | (rw [evS]; rfl)
@[simp] theorem evE_cst (d : D) : evE F (.cst d) ρ st = .ok (.v d) st := by first | (rw [evE]; done) | (rw [evE]; rfl)
@[simp] theorem evE_var (i : Nat) (d : D) (h : ρ[i]? = some (some d)) : evE F (.var i) ρ st = .ok (.v d) st := by rw [evE]; simp [h]
def kTup : List A → St → R A := fun as st => if as.length ≤ szMax then .ok (.v (.tup (mats as st).1)) (mats as st).2 else .no
@[simp] theorem kTup_ap (as : List A) (st : St) : kTup  as st = if as.length ≤ szMax then .ok (.v (.tup (mats as st).1)) (mats as st).2 else .no := (rfl)
@[simp] theorem evE_tup (es : Es) : evE F (.tup es) ρ st = (evEs F es ρ st).bind kTup := by first | (rw [evE]; done) | (rw [evE]; rfl)
def kLst  : List A → St → R A := fun as st => if as.length ≤ szMax then .ok (.tl (mats as st).1) (mats as st).2 else .no
@[simp] theorem kLst_ap (as : List A) (st : St) : kLst  as st = if as.length ≤ szMax then .ok (.tl (mats as st).1) (mats as st).2 else .no := (rfl)
@[simp] theorem evE_lst (es : Es) : evE F (.lst es) ρ st = (evEs F es ρ st).bind kLst := by first | (rw [evE]; done) | (rw [evE]; rfl)
def kDsp  : List (D × A) → St → R A := fun ps st => if ps.length ≤ 16 then .ok (.td (mergeD [] ((ps.map (·.1)).zip (mats (ps.map (·.2)) st).1))) (mats (ps.map (·.2)) st).2 else .no
@[simp] theorem kDsp_ap (ps : List (D × A)) (st : St) : kDsp  ps st = if ps.length ≤ 16 then .ok (.td (mergeD [] ((ps.map (·.1)).zip (mats (ps.map (·.2)) st).1))) (mats (ps.map (·.2)) st).2 else .no := (rfl)
@[simp] theorem evE_dsp (es : Es) : evE F (.dsp es) ρ st = (evDs F es ρ st).bind kDsp := by first | (rw [evE]; done) | (rw [evE]; rfl)
def kPrim (f : Fn) : List A → St → R A := fun as st => prim f as st
@[simp] theorem kPrim_ap (f : Fn) (as : List A) (st : St) : kPrim f as st = prim f as st := (rfl)
@[simp] theorem evE_p (f : Fn) (es : Es) : evE F (.p f es) ρ st = (evEs F es ρ st).bind (kPrim f) := by first | (rw [evE]; done) | (rw [evE]; rfl)
def kM2 (f : Fn) (x : A) : List A → St → R A := fun as st => prim f (x :: as) st
@[simp] theorem kM2_ap (f : Fn) (x : A) (as : List A) (st : St) : kM2 f x as st = prim f (x :: as) st := (rfl)
def kM1 (F : FT) (f : Fn) (es : Es) (ρ : Env) : A → St → R A := fun x st => if recvOk f x st then (evEs F es ρ st).bind (kM2 f x) else .no
@[simp] theorem kM1_ap (F : FT) (f : Fn) (es : Es) (ρ : Env) (x : A) (st : St) : kM1 F f es ρ x st = if recvOk f x st then (evEs F es ρ st).bind (kM2 f x) else .no := (rfl)
@[simp] theorem evE_m (f : Fn) (o : E) (es : Es) : evE F (.m f o es) ρ st = (evE F o ρ st).bind (kM1 F f es ρ) := by first | (rw [evE]; done) | (rw [evE]; rfl)
def kNot2  : Bool → St → R A := fun b st => .ok (.v (.bl (!b))) st
@[simp] theorem kNot2_ap (b : Bool) (st : St) : kNot2  b st = .ok (.v (.bl (!b))) st := (rfl)
def kNot  : A → St → R A := fun x st => (truR x st).bind kNot2
@[simp] theorem kNot_ap (x : A) (st : St) : kNot  x st = (truR x st).bind kNot2 := (rfl)
@[simp] theorem evE_notQ (a : E) : evE F (.not a) ρ st = (evE F a ρ st).bind kNot := by first | (rw [evE]; done) | (rw [evE]; rfl)
def kAnd2 (F : FT) (b : E) (ρ : Env) (x : A) : Bool → St → R A := fun c st => if c then evE F b ρ st else .ok x st
@[simp] theorem kAnd2_ap (F : FT) (b : E) (ρ : Env) (x : A) (c : Bool) (st : St) : kAnd2 F b ρ x c st = if c then evE F b ρ st else .ok x st := (rfl)
def kAnd (F : FT) (b : E) (ρ : Env) : A → St → R A := fun x st => (truR x st).bind (kAnd2 F b ρ x)
@[simp] theorem kAnd_ap (F : FT) (b : E) (ρ : Env) (x : A) (st : St) : kAnd F b ρ x st = (truR x st).bind (kAnd2 F b ρ x) := (rfl)
@[simp] theorem evE_and (a b : E) : evE F (.and a b) ρ st = (evE F a ρ st).bind (kAnd F b ρ) := by first | (rw [evE]; done) | (rw [evE]; rfl)
def kOr2 (F : FT) (b : E) (ρ : Env) (x : A) : Bool → St → R A := fun c st => if c then .ok x st else evE F b ρ st
@[simp] theorem kOr2_ap (F : FT) (b : E) (ρ : Env) (x : A) (c : Bool) (st : St) : kOr2 F b ρ x c st = if c then .ok x st else evE F b ρ st := (rfl)
def kOr (F : FT) (b : E) (ρ : Env) : A → St → R A := fun x st => (truR x st).bind (kOr2 F b ρ x)
@[simp] theorem kOr_ap (F : FT) (b : E) (ρ : Env) (x : A) (st : St) : kOr F b ρ x st = (truR x st).bind (kOr2 F b ρ x) := (rfl)
@[simp] theorem evE_or (a b : E) : evE F (.or a b) ρ st = (evE F a ρ st).bind (kOr F b ρ) := by first | (rw [evE]; done) | (rw [evE]; rfl)
def kIte2 (F : FT) (a b : E) (ρ : Env) : Bool → St → R A := fun c st => if c then evE F a ρ st else evE F b ρ st
@[simp] theorem kIte2_ap (F : FT) (a b : E) (ρ : Env) (c : Bool) (st : St) : kIte2 F a b ρ c st = if c then evE F a ρ st else evE F b ρ st := (rfl)
def kIte (F : FT) (a b : E) (ρ : Env) : A → St → R A := fun x st => (truR x st).bind (kIte2 F a b ρ)
@[simp] theorem kIte_ap (F : FT) (a b : E) (ρ : Env) (x : A) (st : St) : kIte F a b ρ x st = (truR x st).bind (kIte2 F a b ρ) := (rfl)
@[simp] theorem evE_iteQ (c a b : E) : evE F (.ite c a b) ρ st = (evE F c ρ st).bind (kIte F a b ρ) := by first | (rw [evE]; done) | (rw [evE]; rfl)
def kCh6 (g : Fn) : D × D → St → R A := fun q st => prim g [.v q.1, .v q.2] st
@[simp] theorem kCh6_ap (g : Fn) (q : D × D) (st : St) : kCh6 g q st = prim g [.v q.1, .v q.2] st := (rfl)
def kCh5 (g : Fn) (y : A) : A → St → R A := fun w st => (valsR y w st).bind (kCh6 g)
@[simp] theorem kCh5_ap (g : Fn) (y : A) (w : A) (st : St) : kCh5 g y w st = (valsR y w st).bind (kCh6 g) := (rfl)
def kCh4 (F : FT) (g : Fn) (c : E) (ρ : Env) (y : A) : Bool → St → R A := fun k st => if k then (evE F c ρ st).bind (kCh5 g y) else .ok (.v (.bl false)) st
@[simp] theorem kCh4_ap (F : FT) (g : Fn) (c : E) (ρ : Env) (y : A) (k : Bool) (st : St) : kCh4 F g c ρ y k st = if k then (evE F c ρ st).bind (kCh5 g y) else .ok (.v (.bl false)) st := (rfl)
def kCh3 (F : FT) (g : Fn) (c : E) (ρ : Env) (y : A) : A → St → R A := fun z st => (boolR z st).bind (kCh4 F g c ρ y)
@[simp] theorem kCh3_ap (F : FT) (g : Fn) (c : E) (ρ : Env) (y : A) (z : A) (st : St) : kCh3 F g c ρ y z st = (boolR z st).bind (kCh4 F g c ρ y) := (rfl)
def kCh2 (F : FT) (f g : Fn) (c : E) (ρ : Env) (y : A) : D × D → St → R A := fun q st => (prim f [.v q.1, .v q.2] st).bind (kCh3 F g c ρ y)
@[simp] theorem kCh2_ap (F : FT) (f g : Fn) (c : E) (ρ : Env) (y : A) (q : D × D) (st : St) : kCh2 F f g c ρ y q st = (prim f [.v q.1, .v q.2] st).bind (kCh3 F g c ρ y) := (rfl)
def kCh1 (F : FT) (f g : Fn) (c : E) (ρ : Env) (x : A) : A → St → R A := fun y st => (valsR x y st).bind (kCh2 F f g c ρ y)
@[simp] theorem kCh1_ap (F : FT) (f g : Fn) (c : E) (ρ : Env) (x : A) (y : A) (st : St) : kCh1 F f g c ρ x y st = (valsR x y st).bind (kCh2 F f g c ρ y) := (rfl)
def kCh0 (F : FT) (f g : Fn) (b c : E) (ρ : Env) : A → St → R A := fun x st => (evE F b ρ st).bind (kCh1 F f g c ρ x)
@[simp] theorem kCh0_ap (F : FT) (f g : Fn) (b c : E) (ρ : Env) (x : A) (st : St) : kCh0 F f g b c ρ x st = (evE F b ρ st).bind (kCh1 F f g c ρ x) := (rfl)
@[simp] theorem evE_chain (f g : Fn) (a b c : E) : evE F (.chain f g a b c) ρ st = (evE F a ρ st).bind (kCh0 F f g b c ρ) := by first | (rw [evE]; done) | (rw [evE]; rfl)
def kSl4 (x : A) (i : Int) : Int → St → R A := fun j st => cutA x (some i) (some j) st
@[simp] theorem kSl4_ap (x : A) (i : Int) (j : Int) (st : St) : kSl4 x i j st = cutA x (some i) (some j) st := (rfl)
def kSl3 (x : A) (i : Int) : A → St → R A := fun z st => (intR z st).bind (kSl4 x i)
@[simp] theorem kSl3_ap (x : A) (i : Int) (z : A) (st : St) : kSl3 x i z st = (intR z st).bind (kSl4 x i) := (rfl)
def kSl2 (F : FT) (c : E) (ρ : Env) (x : A) : Int → St → R A := fun i st => (evE F c ρ st).bind (kSl3 x i)
@[simp] theorem kSl2_ap (F : FT) (c : E) (ρ : Env) (x : A) (i : Int) (st : St) : kSl2 F c ρ x i st = (evE F c ρ st).bind (kSl3 x i) := (rfl)
def kSl1 (F : FT) (c : E) (ρ : Env) (x : A) : A → St → R A := fun y st => (intR y st).bind (kSl2 F c ρ x)
@[simp] theorem kSl1_ap (F : FT) (c : E) (ρ : Env) (x : A) (y : A) (st : St) : kSl1 F c ρ x y st = (intR y st).bind (kSl2 F c ρ x) := (rfl)
def kSl0 (F : FT) (b c : E) (ρ : Env) : A → St → R A := fun x st => (evE F b ρ st).bind (kSl1 F c ρ x)
@[simp] theorem kSl0_ap (F : FT) (b c : E) (ρ : Env) (x : A) (st : St) : kSl0 F b c ρ x st = (evE F b ρ st).bind (kSl1 F c ρ x) := (rfl)
@[simp] theorem evE_slB (a b c : E) : evE F (.slB a b c) ρ st = (evE F a ρ st).bind (kSl0 F b c ρ) := by first | (rw [evE]; done) | (rw [evE]; rfl)
def kLcB2 : A → St → R (Option D) := fun x st => .ok (some (mat x st).1) (mat x st).2
@[simp] theorem kLcB2_ap (x : A) (st : St) : kLcB2 x st = .ok (some (mat x st).1) (mat x st).2 := (rfl)
def kLcB (F : FT) (e : E) (ρ : Env) : Bool → St → R (Option D) := fun b st => if b then (evE F e ρ st).bind kLcB2 else .ok none st
@[simp] theorem kLcB_ap (F : FT) (e : E) (ρ : Env) (b : Bool) (st : St) : kLcB F e ρ b st = if b then (evE F e ρ st).bind kLcB2 else .ok none st := (rfl)
/-- what a list comprehension does with one item -/
def lcB (F : FT) (t : Tg) (own : List Nat) (cs : Es) (e : E) (ρ : Env) : D → St → R (Option D) := fun d st2 => match assignP t d (wipeE ρ own) with
      | some ρ1 => (evTs F cs ρ1 st2).bind (kLcB F e ρ1)
      | none => .no
def kDcB3 (x : A) : A → St → R (Option (D × D)) := fun y st => match x with
          | .v x => .ok (some (x, (mat y st).1)) (mat y st).2
          | _ => .no
@[simp] theorem kDcB3_ap (d : D) (y : A) (st : St) : kDcB3 (.v d) y st = .ok (some (d, (mat y st).1)) (mat y st).2 := (rfl)
def kDcB2 (F : FT) (v : E) (ρ : Env) : A → St → R (Option (D × D)) := fun x st => (evE F v ρ st).bind (kDcB3 x)
@[simp] theorem kDcB2_ap (F : FT) (v : E) (ρ : Env) (x : A) (st : St) : kDcB2 F v ρ x st = (evE F v ρ st).bind (kDcB3 x) := (rfl)
def kDcB (F : FT) (k v : E) (ρ : Env) : Bool → St → R (Option (D × D)) := fun b st => if b then (evE F k ρ st).bind (kDcB2 F v ρ) else .ok none st
@[simp] theorem kDcB_ap (F : FT) (k v : E) (ρ : Env) (b : Bool) (st : St) : kDcB F k v ρ b st = if b then (evE F k ρ st).bind (kDcB2 F v ρ) else .ok none st := (rfl)
def dcB (F : FT) (t : Tg) (own : List Nat) (cs : Es) (k v : E) (ρ : Env) : D → St → R (Option (D × D)) := fun d st2 => match assignP t d (wipeE ρ own) with
      | some ρ1 => (evTs F cs ρ1 st2).bind (kDcB F k v ρ1)
      | none => .no
theorem kDcB3_eq : kDcB3 = fun x y st => match x with
          | .v x => .ok (some (x, (mat y st).1)) (mat y st).2
          | _ => .no := rfl
def kLc (F : FT) (t : Tg) (own : List Nat) (cs : Es) (e : E) (ρ : Env) : List D × Chk → St → R A := fun q st => lcLoop q.2 (lcB F t own cs e ρ) q.1 [] st
@[simp] theorem kLc_ap (F : FT) (t : Tg) (own : List Nat) (cs : Es) (e : E) (ρ : Env) (q : List D × Chk) (st : St) : kLc F t own cs e ρ q st = lcLoop q.2 (lcB F t own cs e ρ) q.1 [] st := (rfl)
@[simp] theorem evE_lc (i : It) (t : Tg) (own : List Nat) (cs : Es) (e : E) : evE F (.lc i t own cs e) ρ st = (evIt F i ρ st).bind (kLc F t own cs e ρ) := by first | (rw [evE]; done) | (rw [evE]; rfl)
def kDc (F : FT) (t : Tg) (own : List Nat) (cs : Es) (k : E) (v : E) (ρ : Env) : List D × Chk → St → R A := fun q st => dcLoop q.2 (dcB F t own cs k v ρ) q.1 [] st
@[simp] theorem kDc_ap (F : FT) (t : Tg) (own : List Nat) (cs : Es) (k : E) (v : E) (ρ : Env) (q : List D × Chk) (st : St) : kDc F t own cs k v ρ q st = dcLoop q.2 (dcB F t own cs k v ρ) q.1 [] st := (rfl)
@[simp] theorem evE_dc (i : It) (t : Tg) (own : List Nat) (cs : Es) (k v : E) : evE F (.dc i t own cs k v) ρ st = (evIt F i ρ st).bind (kDc F t own cs k v ρ) := by first | (rw [evE]; done) | (rw [evE]; rfl)
def kCall (F : FT) (f : Nat) : List A → St → R A := fun as st => (gcR st (F f (mats as st).1 (mats as st).2)).cut
@[simp] theorem kCall_ap (F : FT) (f : Nat) (as : List A) (st : St) : kCall F f as st = (gcR st (F f (mats as st).1 (mats as st).2)).cut := (rfl)
@[simp] theorem evE_call (f : Nat) (es : Es) : evE F (.call f es) ρ st = (evEs F es ρ st).bind (kCall F f) := by first | (rw [evE]; done) | (rw [evE]; rfl)
@[simp] theorem evEs_nil : evEs F .nil ρ st = .ok [] st := by first | (rw [evEs]; done) | (rw [evEs]; rfl)
def kEs2 (x : A) : List A → St → R (List A) := fun xs st => .ok (x :: xs) st
@[simp] theorem kEs2_ap (x : A) (xs : List A) (st : St) : kEs2 x xs st = .ok (x :: xs) st := (rfl)
def kEs (F : FT) (es : Es) (ρ : Env) : A → St → R (List A) := fun x st => (evEs F es ρ st).bind (kEs2 x)
@[simp] theorem kEs_ap (F : FT) (es : Es) (ρ : Env) (x : A) (st : St) : kEs F es ρ x st = (evEs F es ρ st).bind (kEs2 x) := (rfl)
@[simp] theorem evEs_cons (e : E) (es : Es) : evEs F (.cons e es) ρ st = (evE F e ρ st).bind (kEs F es ρ) := by first | (rw [evEs]; done) | (rw [evEs]; rfl)
@[simp] theorem evDs_nil : evDs F .nil ρ st = .ok [] st := by first | (rw [evDs]; done) | (rw [evDs]; rfl)
def kDs3 (d : D) (y : A) : List (D × A) → St → R (List (D × A)) := fun ps st => .ok ((d, y) :: ps) st
@[simp] theorem kDs3_ap (d : D) (y : A) (ps : List (D × A)) (st : St) : kDs3 d y ps st = .ok ((d, y) :: ps) st := (rfl)
def kDs2 (F : FT) (es : Es) (ρ : Env) (d : D) : A → St → R (List (D × A)) := fun y st => (evDs F es ρ st).bind (kDs3 d y)
@[simp] theorem kDs2_ap (F : FT) (es : Es) (ρ : Env) (d : D) (y : A) (st : St) : kDs2 F es ρ d y st = (evDs F es ρ st).bind (kDs3 d y) := (rfl)
def kDs1 (F : FT) (v : E) (es : Es) (ρ : Env) : D → St → R (List (D × A)) := fun d st => (evE F v ρ st).bind (kDs2 F es ρ d)
@[simp] theorem kDs1_ap (F : FT) (v : E) (es : Es) (ρ : Env) (d : D) (st : St) : kDs1 F v es ρ d st = (evE F v ρ st).bind (kDs2 F es ρ d) := (rfl)
def kDs (F : FT) (v : E) (es : Es) (ρ : Env) : A → St → R (List (D × A)) := fun x st => (keyR x st).bind (kDs1 F v es ρ)
@[simp] theorem kDs_ap (F : FT) (v : E) (es : Es) (ρ : Env) (x : A) (st : St) : kDs F v es ρ x st = (keyR x st).bind (kDs1 F v es ρ) := (rfl)
@[simp] theorem evDs_cons (k v : E) (es : Es) : evDs F (.cons k (.cons v es)) ρ st = (evE F k ρ st).bind (kDs F v es ρ) := by first | (rw [evDs]; done) | (rw [evDs]; rfl)
@[simp] theorem evTs_nil : evTs F .nil ρ st = .ok true st := by first | (rw [evTs]; done) | (rw [evTs]; rfl)
def kTr  : A → St → R Bool := fun x st => truR x st
@[simp] theorem kTr_ap (x : A) (st : St) : kTr  x st = truR x st := (rfl)
@[simp] theorem evTs_cons (e : E) (es : Es) : evTs F (.cons e es) ρ st = (evE F e ρ st).bind kTr := by first | (rw [evTs]; done) | (rw [evTs]; rfl)
def kSeq : A → St → R (List D × Chk) := fun x st => match itemsOf st x with
    | some ds => .ok (ds, chkOf st x) st
    | none => .no
@[simp] theorem kSeq_ap (x : A) (st : St) : kSeq x st = match itemsOf st x with
    | some ds => .ok (ds, chkOf st x) st
    | none => .no := (rfl)
def kRan1 : A → St → R (List D × Chk) := fun x st => match x with
    | .v (.int n) => if -big62 ≤ n ∧ n < big62 then .ok (ranI 0 n.toNat, []) st else .no
    | _ => .no
@[simp] theorem kRan1_ap (n : Int) (st : St) : kRan1 (.v (.int n)) st = if -big62 ≤ n ∧ n < big62 then .ok (ranI 0 n.toNat, []) st else .no := (rfl)
def kRan2b (x : A) : A → St → R (List D × Chk) := fun y st => match x, y with
    | .v (.int m), .v (.int n) => if -big62 ≤ n ∧ n < big62 ∧ -big62 ≤ m ∧ m < big62 then .ok (ranI m (n - m).toNat, []) st else .no
    | _, _ => .no
@[simp] theorem kRan2b_ap (m n : Int) (st : St) : kRan2b (.v (.int m)) (.v (.int n)) st = if -big62 ≤ n ∧ n < big62 ∧ -big62 ≤ m ∧ m < big62 then .ok (ranI m (n - m).toNat, []) st else .no := (rfl)
def kRan2 (F : FT) (b : E) (ρ : Env) : A → St → R (List D × Chk) := fun x st => (evE F b ρ st).bind (kRan2b x)
@[simp] theorem kRan2_ap (F : FT) (b : E) (ρ : Env) (x : A) (st : St) : kRan2 F b ρ x st = (evE F b ρ st).bind (kRan2b x) := (rfl)
def kZip2 (x : A) : A → St → R (List D × Chk) := fun y st2 => match (if (tupOf x).isSome = (tupOf y).isSome then seqOf st2 x else none), seqOf st2 y with
    | some xs, some ys => .ok (zipD xs ys, chkOf st2 x ++ chkOf st2 y) st2
    | _, _ => .no
@[simp] theorem kZip2_ap (x y : A) (st2 : St) : kZip2 x y st2 = match (if (tupOf x).isSome = (tupOf y).isSome then seqOf st2 x else none), seqOf st2 y with
    | some xs, some ys => .ok (zipD xs ys, chkOf st2 x ++ chkOf st2 y) st2
    | _, _ => .no := (rfl)
def kZip (F : FT) (b : E) (ρ : Env) : A → St → R (List D × Chk) := fun x st => (evE F b ρ st).bind (kZip2 x)
@[simp] theorem kZip_ap (F : FT) (b : E) (ρ : Env) (x : A) (st : St) : kZip F b ρ x st = (evE F b ρ st).bind (kZip2 x) := (rfl)
def kEnu : A → St → R (List D × Chk) := fun x st1 => match seqOf st1 x with
    | some ds => .ok (enuD 0 ds, chkOf st1 x) st1
    | none => .no
@[simp] theorem kEnu_ap (x : A) (st1 : St) : kEnu x st1 = match seqOf st1 x with
    | some ds => .ok (enuD 0 ds, chkOf st1 x) st1
    | none => .no := (rfl)
@[simp] theorem evIt_seq (e : E) : evIt F (.seq e) ρ st = (evE F e ρ st).bind kSeq := by first | (rw [evIt]; done) | (rw [evIt]; rfl)
@[simp] theorem evIt_ran1 (a : E) : evIt F (.ran1 a) ρ st = (evE F a ρ st).bind kRan1 := by first | (rw [evIt]; done) | (rw [evIt]; rfl)
@[simp] theorem evIt_ran2 (a b : E) : evIt F (.ran2 a b) ρ st = (evE F a ρ st).bind (kRan2 F b ρ) := by first | (rw [evIt]; done) | (rw [evIt]; rfl)
@[simp] theorem evIt_zip (a b : E) : evIt F (.zip a b) ρ st = (evE F a ρ st).bind (kZip F b ρ) := by first | (rw [evIt]; done) | (rw [evIt]; rfl)
@[simp] theorem evIt_enu (a : E) : evIt F (.enu a) ρ st = (evE F a ρ st).bind kEnu := by first | (rw [evIt]; done) | (rw [evIt]; rfl)
@[simp] theorem mats_nil : mats [] st = ([], st) := (rfl)
@[simp] theorem mats_v (d : D) (as : List A) : mats (.v d :: as) st = (d :: (mats as st).1, (mats as st).2) := (rfl)
@[simp] theorem mats_tl (ds : List D) (as : List A) : mats (.tl ds :: as) st = (.ref st.length :: (mats as (st ++ [.lst ds])).1, (mats as (st ++ [.lst ds])).2) := (rfl)
@[simp] theorem mats_td (ds : List (D × D)) (as : List A) : mats (.td ds :: as) st = (.ref st.length :: (mats as (st ++ [.dct ds])).1, (mats as (st ++ [.dct ds])).2) := (rfl)
@[simp] theorem mat_v (d : D) : mat (.v d) st = (d, st) := (rfl)
@[simp] theorem mat_tl (ds : List D) : mat (.tl ds) st = (.ref st.length, st ++ [.lst ds]) := (rfl)
@[simp] theorem mat_td (ds : List (D × D)) : mat (.td ds) st = (.ref st.length, st ++ [.dct ds]) := (rfl)
@[simp] theorem assign_nm (i : Nat) (x : A) : assign F (.nm i) x ρ st = .ok .nx (ρ.set i (some (mat x st).1)) (mat x st).2 := (rfl)
@[simp] theorem truth_non : truth st (.v .non) = some false := (rfl)
@[simp] theorem truth_bl (b : Bool) : truth st (.v (.bl b)) = some b := (rfl)
@[simp] theorem truth_int (i : Int) : truth st (.v (.int i)) = some (i != 0) := (rfl)
@[simp] theorem truR_bl (b : Bool) : truR (.v (.bl b)) st = .ok b st := (rfl)
@[simp] theorem truR_int (i : Int) : truR (.v (.int i)) st = .ok (i != 0) st := (rfl)
@[simp] theorem truR_non : truR (.v .non) st = .ok false st := (rfl)
/-- a tuple, of whichever kind -/
abbrev IsT (d : D) (ds : List D) : Prop := tupOf (.v d) = some ds
theorem IsT.cases {d : D} {ds : List D} (h : IsT d ds) : d = .tup ds ∨ d = .ktp ds := by
  cases d <;> simp_all [IsT, tupOf]
@[simp] theorem tupOf_tup (ds : List D) : tupOf (.v (.tup ds)) = some ds := (rfl)
@[simp] theorem tupOf_ktp (ds : List D) : tupOf (.v (.ktp ds)) = some ds := (rfl)
@[simp] theorem tupOf_str (s : Tx) : tupOf (.v (.str s)) = none := (rfl)
@[simp] theorem tupOf_int (s : Int) : tupOf (.v (.int s)) = none := (rfl)
@[simp] theorem tupOf_ref (s : Nat) : tupOf (.v (.ref s)) = none := (rfl)
@[simp] theorem tupOf_tl (s : List D) : tupOf (.tl s) = none := (rfl)
@[simp] theorem tupOf_td (s : List (D × D)) : tupOf (.td s) = none := (rfl)
@[simp] theorem prim_add : prim .add = p_add := (rfl)
@[simp] theorem prim_sub : prim .sub = p_sub := (rfl)
@[simp] theorem prim_mul : prim .mul = p_mul := (rfl)
@[simp] theorem prim_mod : prim .mod = p_mod := (rfl)
@[simp] theorem prim_fdv : prim .fdv = p_fdv := (rfl)
@[simp] theorem prim_pow : prim .pow = p_pow := (rfl)
@[simp] theorem prim_neg : prim .neg = p_neg := (rfl)
@[simp] theorem prim_eq : prim .eq = p_eq := (rfl)
@[simp] theorem prim_ne : prim .ne = p_ne := (rfl)
@[simp] theorem prim_lt : prim .lt = p_lt := (rfl)
@[simp] theorem prim_gt : prim .gt = p_gt := (rfl)
@[simp] theorem prim_le : prim .le = p_le := (rfl)
@[simp] theorem prim_ge : prim .ge = p_ge := (rfl)
@[simp] theorem prim_inn : prim .inn = p_inn := (rfl)
@[simp] theorem prim_nin : prim .nin = p_nin := (rfl)
@[simp] theorem prim_isN : prim .isN = p_isN := (rfl)
@[simp] theorem prim_ntN : prim .ntN = p_ntN := (rfl)
@[simp] theorem prim_ix : prim .ix = p_ix := (rfl)
@[simp] theorem prim_slF : prim .slF = p_slF := (rfl)
@[simp] theorem prim_slT : prim .slT = p_slT := (rfl)
@[simp] theorem prim_len : prim .len = p_len := (rfl)
@[simp] theorem prim_all : prim .all = p_all := (rfl)
@[simp] theorem prim_any : prim .any = p_any := (rfl)
@[simp] theorem prim_sum : prim .sum = p_sum := (rfl)
@[simp] theorem prim_tup : prim .tup = p_tup := (rfl)
@[simp] theorem prim_lst : prim .lst = p_lst := (rfl)
@[simp] theorem prim_int : prim .int = p_int := (rfl)
@[simp] theorem prim_min2 : prim .min2 = p_min2 := (rfl)
@[simp] theorem prim_max2 : prim .max2 = p_max2 := (rfl)
@[simp] theorem prim_srt : prim .srt = p_srt := (rfl)
@[simp] theorem prim_dct : prim .dct = p_dct := (rfl)
@[simp] theorem prim_get : prim .get = p_get := (rfl)
@[simp] theorem prim_app : prim .app = p_app := (rfl)
@[simp] theorem prim_ext : prim .ext = p_ext := (rfl)
@[simp] theorem prim_rem : prim .rem = p_rem := (rfl)
@[simp] theorem prim_popI : prim .popI = p_popI := (rfl)
@[simp] theorem prim_pop0 : prim .pop0 = p_pop0 := (rfl)
@[simp] theorem prim_idx : prim .idx = p_idx := (rfl)
@[simp] theorem prim_isi (t : Ty) : prim (.isi t) = p_isi t := (rfl)
@[simp] theorem p_isN_v (d : D) : p_isN [.v d] st = .ok (.v (.bl (decide (d = .non)))) st := (rfl)
@[simp] theorem p_ntN_v (d : D) : p_ntN [.v d] st = .ok (.v (.bl (!decide (d = .non)))) st := (rfl)
@[simp] theorem p_ge_i (i j : Int) : p_ge [.v (.int i), .v (.int j)] st = .ok (.v (.bl (decide (j ≤ i)))) st := (rfl)
@[simp] theorem p_gt_i (i j : Int) : p_gt [.v (.int i), .v (.int j)] st = .ok (.v (.bl (decide (j < i)))) st := (rfl)
@[simp] theorem p_le_i (i j : Int) : p_le [.v (.int i), .v (.int j)] st = .ok (.v (.bl (decide (i ≤ j)))) st := (rfl)
@[simp] theorem p_add_i (i j : Int) : p_add [.v (.int i), .v (.int j)] st = .ok (.v (.int (i + j))) st := (rfl)
@[simp] theorem p_sub_i (i j : Int) : p_sub [.v (.int i), .v (.int j)] st = .ok (.v (.int (i - j))) st := (rfl)
@[simp] theorem val_some (d : D) : val (some d) st = .ok (.v d) st := (rfl)
@[simp] theorem bl_some (b : Bool) : bl (some b) st = .ok (.v (.bl b)) st := (rfl)
@[simp] theorem p_eq_2 (a b : A) : p_eq [a, b] st = bl (eqA st a b) st := (rfl)
@[simp] theorem p_ne_2 (a b : A) : p_ne [a, b] st = bl (notO (eqA st a b)) st := (rfl)
@[simp] theorem notO_some (b : Bool) : notO (some b) = some (!b) := (rfl)
@[simp] theorem notO_none : notO none = none := (rfl)
@[simp] theorem p_inn_2 (a b : A) : p_inn [a, b] st = bl (inA a b st) st := (rfl)
@[simp] theorem p_nin_2 (a b : A) : p_nin [a, b] st = bl (notO (inA a b st)) st := (rfl)
@[simp] theorem p_ix_2 (a : A) (k : D) : p_ix [a, .v k] st = val (ixA a k st) st := (rfl)
@[simp] theorem ixA_T (d : D) (i : Int) (h : (tupOf (.v d)).isSome = true) : ixA (.v d) (.int i) st = atI ((tupOf (.v d)).getD []) i := by
  cases d <;> simp_all [tupOf] <;> rfl
@[simp] theorem atI_zero (d : D) (ds : List D) : atI (d :: ds) 0 = some d := by simp [atI, ixN]
@[simp] theorem eqA_txt (x y : Tx) : eqA st (.v (.str x)) (.v (.str y)) = if okTx x && okTx y then some (decide (x = y)) else none := by
  unfold eqA toPA
  cases hx : okTx x <;> cases hy : okTx y <;> simp [toP, hx, hy, P.eqv, eqN]
@[simp] theorem eqA_int (x y : Int) : eqA st (.v (.int x)) (.v (.int y)) = some (decide (x = y)) := by simp [eqA, toPA, toP, P.eqv, eqN]
end PM
namespace PM
variable {F : FT} {ρ : Env} {st : St}
theorem gc_self (st : St) (x : A) : gc st x st = (x, st) := by simp [gc]
@[simp] theorem p_mul_i (i j : Int) (h : -1000000 < i ∧ i < 1000000) : p_mul [.v (.int i), .v (.int j)] st = .ok (.v (.int (i * j))) st := by
  have : -big64 < i ∧ i < big64 := by unfold big64; omega
  simp [p_mul, this]
@[simp] theorem p_mod_i (i j : Int) (h : 0 < j) : p_mod [.v (.int i), .v (.int j)] st = .ok (.v (.int (i % j))) st := by simp [p_mod, h]
@[simp] theorem p_min2_i (i j : Int) : p_min2 [.v (.int i), .v (.int j)] st = .ok (.v (.int (if j < i then j else i))) st := (rfl)
@[simp] theorem p_max2_i (i j : Int) : p_max2 [.v (.int i), .v (.int j)] st = .ok (.v (.int (if i < j then j else i))) st := (rfl)
@[simp] theorem p_lt_i (i j : Int) : p_lt [.v (.int i), .v (.int j)] st = .ok (.v (.bl (decide (i < j)))) st := (rfl)
@[simp] theorem p_int_i (i : Int) : p_int [.v (.int i)] st = .ok (.v (.int i)) st := (rfl)
@[simp] theorem p_int_b (b : Bool) : p_int [.v (.bl b)] st = .ok (.v (.int (if b then 1 else 0))) st := (rfl)
/-- a def that ends in a value and leaves the store -/
theorem run_v {defs : List Df} {k i : Nat} {d : Df} {ds : List D} {x : A} (hd : fun_ defs (k + 1) i ds st = gcR st (runDf (fun_ defs k) d ds st))
    (h : evSs (fun_ defs k) d.body (startE d.slots ds) st = .ok (.rt x) ρ st) (hl : ds.length = d.pars) : fun_ defs (k + 1) i ds st = .ok x st := by
  rw [hd, runDf, if_pos hl, h]
  simp [gc_self]
theorem getL_at {n : Nat} {l : List D} (h : getL st n = some l) : st[n]? = some (.lst l) := by
  unfold getL at h; split at h <;> simp_all
theorem getK_at {n : Nat} {l : List (D × D)} (h : getK st n = some l) : st[n]? = some (.dct l) := by
  unfold getK at h; split at h <;> simp_all
theorem getK_of_getL {n : Nat} {l : List D} (h : getL st n = some l) : getK st n = none := by
  have := getL_at h; simp [getK, this]
theorem getL_of_getK {n : Nat} {l : List (D × D)} (h : getK st n = some l) : getL st n = none := by
  have := getK_at h; simp [getL, this]
@[simp] theorem ixA_lst (n : Nat) (i : Int) (l : List D) (h : getL st n = some l) : ixA (.v (.ref n)) (.int i) st = atI l i := by
  have h2 := getK_of_getL h
  unfold ixA
  split
  · rename_i a b; cases a
  · rename_i a k' hh
    simp [dctOf, h2, seqOf, tupOf, lstOf, trkOf, h]
@[simp] theorem inA_lst (k : D) (n : Nat) (l : List D) (h : getL st n = some l) : inA (.v k) (.v (.ref n)) st = if flatD k && l.all flatD then some (l.any fun d => eqF d k) else none := by
  have h2 := getK_of_getL h
  simp [inA, dctOf, h2, seqOf, tupOf, lstOf, trkOf, h]
@[simp] theorem inA_T (k d : D) (h : (tupOf (.v d)).isSome = true) : inA (.v k) (.v d) st = if flatD k && ((tupOf (.v d)).getD []).all flatD then some (((tupOf (.v d)).getD []).any fun d => eqF d k) else none := by
  cases d <;> simp_all [tupOf, inA, dctOf, seqOf]
@[simp] theorem atI_one (d e : D) (ds : List D) : atI (d :: e :: ds) 1 = some e := by
  have e : ixN (d :: e :: ds).length (1 : Int) = some 1 := by unfold ixN; rw [if_pos (by omega), if_pos (by simp only [List.length_cons]; omega)]; rfl
  unfold atI; rw [e]; rfl
@[simp] theorem atI_two (d e f : D) (ds : List D) : atI (d :: e :: f :: ds) 2 = some f := by
  have e : ixN (d :: e :: f :: ds).length (2 : Int) = some 2 := by unfold ixN; rw [if_pos (by omega), if_pos (by simp only [List.length_cons]; omega)]; rfl
  unfold atI; rw [e]; rfl
@[simp] theorem atI_three (d e f g : D) (ds : List D) : atI (d :: e :: f :: g :: ds) 3 = some g := by
  have e : ixN (d :: e :: f :: g :: ds).length (3 : Int) = some 3 := by unfold ixN; rw [if_pos (by omega), if_pos (by simp only [List.length_cons]; omega)]; rfl
  unfold atI; rw [e]; rfl
theorem atI_nat (l : List D) (i : Int) (h0 : 0 ≤ i) (h : i < l.length) : atI l i = l[i.toNat]? := by simp [atI, ixN, h0, h]
@[simp] theorem szMax_ge (n : Nat) (h : n ≤ 1000000) : n ≤ szMax := by unfold szMax; omega
end PM
namespace PM
variable {F : FT} {ρ : Env} {st : St}
theorem lcLoop_map {chk : Chk} {body : D → St → R (Option D)} (g : D → D) (ha : alive chk st = true) :
    ∀ (ds acc : List D), (∀ d ∈ ds, body d st = .ok (some (g d)) st) → acc.length + ds.length ≤ 1000000 → lcLoop chk body ds acc st = .ok (.tl (acc ++ ds.map g)) st
  | [], acc, _, _ => by simp [lcLoop, ha]
  | d :: ds, acc, h, hl => by
    have h1 := h d (by simp)
    have hs : acc.length < szMax := by unfold szMax; simp at hl; omega
    rw [lcLoop, if_pos ha, h1]
    simp only [R.cut_ok, R.bi_ok, hs, if_true]
    rw [lcLoop_map g ha ds (acc ++ [g d]) (fun e he => h e (by simp [he])) (by simp at hl ⊢; omega)]
    simp
theorem lcLoop_fm {chk : Chk} {body : D → St → R (Option D)} (g : D → Option D) (ha : alive chk st = true) :
    ∀ (ds acc : List D), (∀ d ∈ ds, body d st = .ok (g d) st) → acc.length + ds.length ≤ 1000000 → lcLoop chk body ds acc st = .ok (.tl (acc ++ ds.filterMap g)) st
  | [], acc, _, _ => by simp [lcLoop, ha]
  | d :: ds, acc, h, hl => by
    have h1 := h d (by simp)
    have hs : acc.length < szMax := by unfold szMax; simp at hl; omega
    rw [lcLoop, if_pos ha, h1]
    simp only [R.cut_ok, R.bi_ok]
    cases hg : g d with
    | none =>
      simp only [hg]
      rw [lcLoop_fm g ha ds acc (fun e he => h e (by simp [he])) (by simp at hl ⊢; omega)]
      simp [hg]
    | some x =>
      simp only [hg, hs, if_true]
      rw [lcLoop_fm g ha ds (acc ++ [x]) (fun e he => h e (by simp [he])) (by simp at hl ⊢; omega)]
      simp [hg]
@[simp] theorem alive_nil : alive [] st = true := (rfl)
@[simp] theorem chkOf_T (d : D) (h : (tupOf (.v d)).isSome = true) : chkOf st (.v d) = [] := by
  cases d <;> simp_all [tupOf, chkOf]
@[simp] theorem chkOf_tl (ds : List D) : chkOf st (.tl ds) = [] := (rfl)
@[simp] theorem chkOf_str (s : Tx) : chkOf st (.v (.str s)) = [] := (rfl)
theorem chkOf_lst {n : Nat} {l : List D} (h : getL st n = some l) : chkOf st (.v (.ref n)) = [(n, .lst l)] := by simp [chkOf, getL_at h]
theorem alive_lst {n : Nat} {l : List D} (h : getL st n = some l) : alive [(n, .lst l)] st = true := by simp [alive, getL_at h]
@[simp] theorem seqOf_T (d : D) (h : (tupOf (.v d)).isSome = true) : seqOf st (.v d) = some ((tupOf (.v d)).getD []) := by
  cases d <;> simp_all [tupOf, seqOf]
@[simp] theorem seqOf_tl (ds : List D) : seqOf st (.tl ds) = some ds := (rfl)
@[simp] theorem seqOf_lst {n : Nat} : seqOf st (.v (.ref n)) = getL st n := (rfl)
@[simp] theorem itemsOf_T (d : D) (h : (tupOf (.v d)).isSome = true) : itemsOf st (.v d) = some ((tupOf (.v d)).getD []) := by
  cases d <;> simp_all [tupOf, itemsOf, seqOf]
@[simp] theorem itemsOf_tl (ds : List D) : itemsOf st (.tl ds) = some ds := (rfl)
@[simp] theorem itemsOf_lst {n : Nat} : itemsOf st (.v (.ref n)) = getL st n := (rfl)
@[simp] theorem assignP_nm (i : Nat) (d : D) : assignP (.nm i) d ρ = some (ρ.set i (some d)) := (rfl)
@[simp] theorem assignP_tp (is : List Nat) (d : D) (h : (tupOf (.v d)).isSome = true) : assignP (.tp is) d ρ = if ((tupOf (.v d)).getD []).length = is.length then some (setAll ρ is ((tupOf (.v d)).getD [])) else none := by
  cases d <;> simp_all [tupOf, assignP] <;> rfl
@[simp] theorem setAll_cons (i : Nat) (is : List Nat) (d : D) (ds : List D) : setAll ρ (i :: is) (d :: ds) = setAll (ρ.set i (some d)) is ds := (rfl)
@[simp] theorem setAll_nil (ds : List D) : setAll ρ [] ds = ρ := by cases ds <;> rfl
@[simp] theorem wipeE_nil : wipeE ρ [] = ρ := (rfl)
@[simp] theorem wipeE_cons (i : Nat) (is : List Nat) : wipeE ρ (i :: is) = (wipeE ρ is).set i none := (rfl)
theorem lookD_putD (kvs : List (D × D)) (k v k' : D) : lookD (putD kvs k v) k' = if k = k' then some v else lookD kvs k' := by
  unfold putD
  split
  · rename_i h
    induction kvs with
    | nil => simp at h
    | cons p r ih =>
      simp only [List.map_cons, lookD]
      by_cases e : p.1 = k
      · subst e
        by_cases e2 : p.1 = k'
        · simp [e2]
        · simp only [if_true, if_neg e2]
          by_cases h3 : (r.any fun q => decide (q.1 = p.1)) = true
          · have := ih h3; simpa [e2] using this
          · have : ∀ q ∈ r, q.1 ≠ p.1 := fun q hq e => h3 (List.any_eq_true.mpr ⟨q, hq, by simp [e]⟩)
            have e4 : (r.map fun q => if q.1 = p.1 then (q.1, v) else q) = r := by
              conv => rhs; rw [← List.map_id r]
              refine List.map_congr_left fun q hq => ?_
              rw [if_neg (this q hq)]; rfl
            rw [e4]
      · simp only [if_neg e]
        have h3 : (r.any fun q => decide (q.1 = k)) = true := by simpa [e] using h
        by_cases e2 : p.1 = k'
        · have : k ≠ k' := fun x => e (e2.trans x.symm)
          simp [e2, this]
        · simp only [if_neg e2]; exact ih h3
  · rename_i h
    induction kvs with
    | nil => simp [lookD]
    | cons p r ih =>
      simp only [List.cons_append, lookD]
      have h1 : p.1 ≠ k := by intro e; simp [e] at h
      have h2 : ¬(r.any fun q => decide (q.1 = k)) = true := by intro e; apply h; simp [e]
      by_cases e2 : p.1 = k'
      · have : k ≠ k' := fun x => h1 (e2.trans x.symm)
        simp [e2, this]
      · simp only [if_neg e2]; exact ih h2
theorem putD_new {kvs : List (D × D)} {k v : D} (h : ∀ p ∈ kvs, p.1 ≠ k) : putD kvs k v = kvs ++ [(k, v)] := by
  unfold putD
  rw [if_neg]
  intro e
  obtain ⟨q, hq, e⟩ := List.any_eq_true.mp e
  exact h q hq (by simpa using e)
theorem lookD_none {kvs : List (D × D)} {k : D} (h : ∀ p ∈ kvs, p.1 ≠ k) : lookD kvs k = none := by
  induction kvs with
  | nil => rfl
  | cons p r ih => rw [lookD, if_neg (h p (by simp))]; exact ih fun q hq => h q (by simp [hq])
theorem lookD_mem {kvs : List (D × D)} {k v : D} (h : lookD kvs k = some v) : (k, v) ∈ kvs := by
  induction kvs with
  | nil => cases h
  | cons p r ih =>
    rw [lookD] at h
    split at h
    · rename_i e; cases h; subst e; simp
    · simp [ih h]
theorem dcLoop_map {chk : Chk} {body : D → St → R (Option (D × D))} (g : D → D × D) (ha : alive chk st = true) :
    ∀ (ds : List D) (acc : List (D × D)), (∀ d ∈ ds, body d st = .ok (some (g d)) st) → (∀ d ∈ ds, keyK (g d).1 = true) → acc.length + ds.length ≤ 1000000 →
      (acc.map (·.1) ++ ds.map fun d => (g d).1).Nodup → dcLoop chk body ds acc st = .ok (.td (acc ++ ds.map g)) st
  | [], acc, _, _, _, _ => by simp [dcLoop, ha]
  | d :: ds, acc, h, hk, hl, hn => by
    have h1 := h d (by simp)
    have h2 := hk d (by simp)
    have hs : acc.length < szMax := by unfold szMax; simp at hl; omega
    have hp : putD acc (g d).1 (g d).2 = acc ++ [g d] := putD_new fun p hp e => by
      rw [List.nodup_append] at hn
      exact hn.2.2 _ (List.mem_map.mpr ⟨p, hp, rfl⟩) _ (by simp) e
    rw [dcLoop, if_pos ha, h1]
    simp only [R.cut_ok, R.bi_ok, hs, h2, hp, decide_true, Bool.and_self, if_true]
    rw [dcLoop_map g ha ds (acc ++ [g d]) (fun e he => h e (by simp [he])) (fun e he => hk e (by simp [he])) (by simp at hl ⊢; omega) (by simpa using hn)]
    simp
end PM
namespace PM
variable {F : FT} {ρ : Env} {st : St}
@[simp] theorem flatD_non : flatD .non = true := (rfl)
@[simp] theorem flatD_bl (b : Bool) : flatD (.bl b) = true := (rfl)
@[simp] theorem flatD_int (b : Int) : flatD (.int b) = true := (rfl)
@[simp] theorem flatD_str (b : Tx) : flatD (.str b) = true := (rfl)
@[simp] theorem eqF_nn : eqF .non .non = true := (rfl)
@[simp] theorem eqF_ii (a b : Int) : eqF (.int a) (.int b) = decide (a = b) := (rfl)
@[simp] theorem eqF_ss (a b : Tx) : eqF (.str a) (.str b) = decide (a = b) := (rfl)
@[simp] theorem eqF_in (a : Int) : eqF (.int a) .non = false := (rfl)
@[simp] theorem eqF_ni (a : Int) : eqF .non (.int a) = false := (rfl)
@[simp] theorem eqF_sn (a : Tx) : eqF (.str a) .non = false := (rfl)
@[simp] theorem eqF_ns (a : Tx) : eqF .non (.str a) = false := (rfl)
@[simp] theorem p_slF_T (d : D) (i : Int) (h : (tupOf (.v d)).isSome = true) : p_slF [.v d, .v (.int i)] st =
    if sIx ((tupOf (.v d)).getD []).length 0 (some i) = 0 then .ok (.v d) st else .ok (.v (.tup (cut ((tupOf (.v d)).getD []) (some i) none))) st := by
  cases d <;> simp_all [tupOf, p_slF, cutA, sIx] <;> rfl
@[simp] theorem p_slT_T (d : D) (i : Int) (h : (tupOf (.v d)).isSome = true) : p_slT [.v d, .v (.int i)] st =
    if sIx ((tupOf (.v d)).getD []).length ((tupOf (.v d)).getD []).length (some i) = ((tupOf (.v d)).getD []).length then .ok (.v d) st else .ok (.v (.tup (cut ((tupOf (.v d)).getD []) none (some i)))) st := by
  cases d <;> simp_all [tupOf, p_slT, cutA, sIx] <;> rfl
@[simp] theorem p_slF_lst (n : Nat) (i : Int) (l : List D) (h : getL st n = some l) : p_slF [.v (.ref n), .v (.int i)] st = .ok (.tl (cut l (some i) none)) st := by
  simp [p_slF, cutA, tupOf, lstOf, trkOf, h]
@[simp] theorem p_slT_lst (n : Nat) (i : Int) (l : List D) (h : getL st n = some l) : p_slT [.v (.ref n), .v (.int i)] st = .ok (.tl (cut l none (some i))) st := by
  simp [p_slT, cutA, tupOf, lstOf, trkOf, h]
@[simp] theorem p_len_T (d : D) (h : (tupOf (.v d)).isSome = true) : p_len [.v d] st = .ok (.v (.int ((tupOf (.v d)).getD []).length)) st := by
  cases d <;> simp_all [tupOf, p_len, seqOf]
@[simp] theorem p_len_lst (n : Nat) (l : List D) (h : getL st n = some l) : p_len [.v (.ref n)] st = .ok (.v (.int l.length)) st := by
  simp [p_len, seqOf, tupOf, lstOf, trkOf, h]
@[simp] theorem p_len_tl (l : List D) : p_len [.tl l] st = .ok (.v (.int l.length)) st := (rfl)
@[simp] theorem p_tup_T (d : D) (h : (tupOf (.v d)).isSome = true) : p_tup [.v d] st = .ok (.v d) st := by
  cases d <;> simp_all [tupOf, p_tup]
@[simp] theorem p_tup_tl (l : List D) : p_tup [.tl l] st = .ok (.v (.ktp l)) st := (rfl)
@[simp] theorem p_tup_lst (n : Nat) (l : List D) (h : getL st n = some l) : p_tup [.v (.ref n)] st = .ok (.v (.ktp l)) st := by
  simp [p_tup, tupOf, lstOf, trkOf, h]
@[simp] theorem p_lst_T (d : D) (h : (tupOf (.v d)).isSome = true) : p_lst [.v d] st = .ok (.tl ((tupOf (.v d)).getD [])) st := by
  cases d <;> simp_all [tupOf, p_lst, seqOf]
@[simp] theorem p_lst_lst (n : Nat) (l : List D) (h : getL st n = some l) : p_lst [.v (.ref n)] st = .ok (.tl l) st := by
  simp [p_lst, seqOf, tupOf, lstOf, trkOf, h]
end PM
namespace PM
variable {F : FT} {ρ : Env} {st : St}
theorem gc_len (st st' : St) (x : A) (h : st'.length ≤ st.length) : gc st x st' = (x, st') := by simp [gc, h]
theorem gc_app_v (st os : St) (d : D) (h : d.bel st.length = true) : gc st (.v d) (st ++ os) = (.v d, st) := by
  unfold gc
  split
  · rename_i h2
    have : os = [] := by
      cases os with
      | nil => rfl
      | cons a b => simp at h2; omega
    simp [this]
  · simp [h]
/-- a def that ends in a value and makes nothing that stays -/
theorem run_s {defs : List Df} {k i : Nat} {d : Df} {ds : List D} {x : A} {st' : St} (hd : fun_ defs (k + 1) i ds st = gcR st (runDf (fun_ defs k) d ds st))
    (h : evSs (fun_ defs k) d.body (startE d.slots ds) st = .ok (.rt x) ρ st') (hl : ds.length = d.pars) (h2 : st'.length ≤ st.length) : fun_ defs (k + 1) i ds st = .ok x st' := by
  rw [hd, runDf, if_pos hl, h]
  simp [gc_len, h2]
/-- every object's references are there -/
def Wf (st : St) : Prop := st.all (MO.bel st.length) = true
theorem gc_set_v (st os : St) (d : D) (n : Nat) (o : MO) (h : d.bel st.length = true) (hw : Wf st) (ho : o.bel st.length = true) : gc st (.v d) (st.set n o ++ os) = (.v d, st.set n o) := by
  unfold gc
  split
  · rename_i h2
    have : os = [] := by
      cases os with
      | nil => rfl
      | cons a b => simp at h2; omega
    simp [this]
  · have e : (st.set n o ++ os).take st.length = st.set n o := by
      rw [List.take_append_of_le_length (by simp)]
      exact List.take_of_length_le (by simp)
    rw [e]
    have hw2 : ((st.set n o).all (MO.bel st.length)) = true := by
      unfold Wf at hw
      rw [List.all_eq_true] at hw ⊢
      intro x hx
      rcases List.mem_or_eq_of_mem_set hx with h1 | h1
      · exact hw x h1
      · rw [h1]; exact ho
    simp [h, hw2]
theorem Wf.set {st : St} {n : Nat} {o : MO} (hw : Wf st) (ho : o.bel st.length = true) : Wf (st.set n o) := by
  unfold Wf at *
  rw [List.all_eq_true] at hw ⊢
  intro x hx
  rw [List.length_set]
  rcases List.mem_or_eq_of_mem_set hx with h1 | h1
  · exact hw x h1
  · rw [h1]; exact ho
theorem getL_set (n m : Nat) (o : MO) : getL (st.set n o) m = if n = m ∧ n < st.length then (match o with | .lst ds => some ds | _ => none) else getL st m := by
  unfold getL
  rw [List.getElem?_set]
  by_cases h : n = m
  · subst h
    by_cases h2 : n < st.length
    · simp [h2]; cases o <;> rfl
    · simp [h2]
  · simp [h]
theorem getK_set (n m : Nat) (o : MO) : getK (st.set n o) m = if n = m ∧ n < st.length then (match o with | .dct ds => some ds | _ => none) else getK st m := by
  unfold getK
  rw [List.getElem?_set]
  by_cases h : n = m
  · subst h
    by_cases h2 : n < st.length
    · simp [h2]; cases o <;> rfl
    · simp [h2]
  · simp [h]
theorem getK_lt {n : Nat} {l : List (D × D)} (h : getK st n = some l) : n < st.length := (List.getElem?_eq_some_iff.mp (getK_at h)).1
theorem getL_lt {n : Nat} {l : List D} (h : getL st n = some l) : n < st.length := (List.getElem?_eq_some_iff.mp (getL_at h)).1
theorem getK_app {n : Nat} {os : St} (h : n < st.length) : getK (st ++ os) n = getK st n := by unfold getK; rw [List.getElem?_append_left h]
theorem getL_app {n : Nat} {os : St} (h : n < st.length) : getL (st ++ os) n = getL st n := by unfold getL; rw [List.getElem?_append_left h]
theorem getK_new {n : Nat} {os : St} : getK (st ++ os) (st.length + n) = getK os n := by unfold getK; rw [List.getElem?_append_right (by omega)]; simp
theorem getL_new {n : Nat} {os : St} : getL (st ++ os) (st.length + n) = getL os n := by unfold getL; rw [List.getElem?_append_right (by omega)]; simp
theorem getK_new0 {os : St} : getK (st ++ os) st.length = getK os 0 := getK_new (n := 0)
theorem getL_new0 {os : St} : getL (st ++ os) st.length = getL os 0 := getL_new (n := 0)
@[simp] theorem dctOf_td (kvs : List (D × D)) : dctOf st (.td kvs) = some kvs := (rfl)
@[simp] theorem dctOf_ref (n : Nat) : dctOf st (.v (.ref n)) = getK st n := (rfl)
@[simp] theorem recvOk_get (x : A) : recvOk .get x st = (dctOf st x).isSome := (rfl)
@[simp] theorem keyK_str (s : Tx) : keyK (.str s) = true := (rfl)
@[simp] theorem keyK_int (s : Int) : keyK (.int s) = true := (rfl)
@[simp] theorem keyK_tup (s : List D) : keyK (.tup s) = false := (rfl)
@[simp] theorem isT_tup (s : List D) : isT (.tup s) = s.all keyK := (rfl)
@[simp] theorem p_get_td (kvs : List (D × D)) (k d : D) (hk : keyK k = true) (h : flatKeys kvs = true) : p_get [.td kvs, .v k, .v d] st = .ok (.v ((lookD kvs k).getD d)) st := by
  simp [p_get, askX, hk, h]
@[simp] theorem p_get_ref (n : Nat) (k d : D) (kvs : List (D × D)) (h : getK st n = some kvs) (hk : askOk kvs k = true) : p_get [.v (.ref n), .v k, .v d] st = .ok (.v ((lookD kvs k).getD d)) st := by
  simp [p_get, askX, hk, h]
@[simp] theorem inA_dct (n : Nat) (k : D) (kvs : List (D × D)) (h : getK st n = some kvs) : inA (.v k) (.v (.ref n)) st = if askOk kvs k then some (lookD kvs k).isSome else none := by
  simp [inA, h, askX]; rfl
@[simp] theorem ixA_dct (n : Nat) (k : D) (kvs : List (D × D)) (h : getK st n = some kvs) : ixA (.v (.ref n)) k st = if askOk kvs k then lookD kvs k else none := by
  unfold ixA
  split
  · rename_i a b; cases b
  · simp [h, askX]; rfl
end PM
namespace PM
variable {F : FT} {ρ : Env} {st : St}
/-- what a loop does behind its body -/
def RS.lp (r : RS) (f : Env → St → RS) : RS := match r with
  | .ok .nx ρ st => f ρ st
  | .ok .ct ρ st => f ρ st
  | .ok .bk ρ st => .ok .nx ρ st
  | .ok (.rt x) ρ st => .ok (.rt x) ρ st
  | .ex c ds ρ st => .ex c ds ρ st
  | .no => .no
@[simp] theorem RS.lp_nx (f : Env → St → RS) : (RS.ok .nx ρ st).lp f = f ρ st := (rfl)
@[simp] theorem RS.lp_ct (f : Env → St → RS) : (RS.ok .ct ρ st).lp f = f ρ st := (rfl)
@[simp] theorem RS.lp_bk (f : Env → St → RS) : (RS.ok .bk ρ st).lp f = .ok .nx ρ st := (rfl)
@[simp] theorem RS.lp_rt (x : A) (f : Env → St → RS) : (RS.ok (.rt x) ρ st).lp f = .ok (.rt x) ρ st := (rfl)
def frl (F : FT) (t : Tg) (b : Ss) (chk : Chk) (ds : List D) (ρ : Env) (st : St) : RS := forLoop chk (fun d ρ1 st2 => match assignP t d ρ1 with
      | some ρ2 => evSs F b ρ2 st2
      | none => .no) ds ρ st
def kFor (F : FT) (t : Tg) (b : Ss) (ρ : Env) : List D × Chk → St → RS := fun q st1 => frl F t b q.2 q.1 ρ st1
@[simp] theorem kFor_ap (F : FT) (t : Tg) (b : Ss) (ρ : Env) (q : List D × Chk) (st1 : St) : kFor F t b ρ q st1 = frl F t b q.2 q.1 ρ st1 := (rfl)
@[simp] theorem evS_forr (i : It) (t : Tg) (b : Ss) : evS F (.forr i t b) ρ st = (evIt F i ρ st).toS ρ (kFor F t b ρ) := by rw [evS]; rfl
theorem frl_nil {t : Tg} {b : Ss} {chk : Chk} (h : alive chk st = true) : frl F t b chk [] ρ st = .ok .nx ρ st := by simp [frl, forLoop, h]
theorem frl_cons {t : Tg} {b : Ss} {chk : Chk} {d : D} {r : List D} {ρ2 : Env} (h : alive chk st = true) (ha : assignP t d ρ = some ρ2) :
    frl F t b chk (d :: r) ρ st = (evSs F b ρ2 st).lp fun ρ1 st1 => frl F t b chk r ρ1 st1 := by
  unfold frl
  rw [forLoop, if_pos h]
  simp only [ha]
  cases evSs F b ρ2 st with
  | ok f => cases f <;> rfl
  | ex => rfl
  | no => rfl
theorem frl_inv {t : Tg} {b : Ss} {chk : Chk} (I : Nat → Env → St → Prop) (ds : List D)
    (hs : ∀ j d ρ st, ds[j]? = some d → I j ρ st → alive chk st = true ∧ ∃ ρ2, assignP t d ρ = some ρ2 ∧ ∃ ρ' st', (evSs F b ρ2 st = .ok .nx ρ' st' ∨ evSs F b ρ2 st = .ok .ct ρ' st') ∧ I (j + 1) ρ' st')
    (he : ∀ ρ st, I ds.length ρ st → alive chk st = true) : ∀ ρ st, I 0 ρ st → ∃ ρ' st', frl F t b chk ds ρ st = .ok .nx ρ' st' ∧ I ds.length ρ' st' := by
  suffices h : ∀ (m j : Nat), m + j = ds.length → ∀ ρ st, I j ρ st → ∃ ρ' st', frl F t b chk (ds.drop j) ρ st = .ok .nx ρ' st' ∧ I ds.length ρ' st' from fun ρ st hi => by simpa using h ds.length 0 (by omega) ρ st hi
  intro m
  induction m with
  | zero =>
    intro j hj ρ st hi
    have : j = ds.length := by omega
    subst this
    exact ⟨ρ, st, by rw [List.drop_length, frl_nil (he _ _ hi)], hi⟩
  | succ m ih =>
    intro j hj ρ st hi
    have hlt : j < ds.length := by omega
    obtain ⟨ha, ρ2, h1, ρ', st', h2, h3⟩ := hs j ds[j] ρ st (List.getElem?_eq_getElem hlt) hi
    obtain ⟨ρ3, st3, h4, h5⟩ := ih (j + 1) (by omega) ρ' st' h3
    refine ⟨ρ3, st3, ?_, h5⟩
    rw [List.drop_eq_getElem_cons hlt, frl_cons ha h1]
    rcases h2 with h2 | h2 <;> rw [h2] <;> simpa using h4
def whl (F : FT) (c : E) (b : Ss) (n : Nat) (ρ : Env) (st : St) : RS := whileLoop (fun ρ1 st1 => (evE F c ρ1 st1).bind fun x st2 => truR x st2) (fun ρ1 st1 => evSs F b ρ1 st1) n ρ st
@[simp] theorem evS_whl (c : E) (b : Ss) : evS F (.whl c b) ρ st = whl F c b wN ρ st := by rw [evS]; rfl
theorem whl_succ {c : E} {b : Ss} {n : Nat} : whl F c b (n + 1) ρ st = ((evE F c ρ st).bind fun x st2 => truR x st2).toS ρ fun t st1 => if t then (evSs F b ρ st1).lp fun ρ1 st2 => whl F c b n ρ1 st2 else .ok .nx ρ st1 := by
  show whileLoop _ _ (n + 1) ρ st = _
  rw [whileLoop]
  refine congrArg _ (funext fun t => funext fun st1 => ?_)
  cases t
  · rfl
  · simp only [if_true]
    cases evSs F b ρ st1 with
    | ok f => cases f <;> rfl
    | ex => rfl
    | no => rfl
theorem set_keep {n : Nat} {o : MO} (h : st[n]? = some o) : st.set n o = st := by
  refine List.ext_getElem? fun m => ?_
  rw [List.getElem?_set]
  by_cases e : n = m
  · subst e
    have h1 := (List.getElem?_eq_some_iff.mp h).1
    rw [if_pos rfl, if_pos h1, h]
  · simp [e]
@[simp] theorem assign_tp (is : List Nat) (d : D) (h : (tupOf (.v d)).isSome = true) : assign F (.tp is) (.v d) ρ st = if ((tupOf (.v d)).getD []).length = is.length then .ok .nx (setAll ρ is ((tupOf (.v d)).getD [])) st else .no := by
  simp only [assign, assignP_tp is d h]
  split <;> simp_all
def kSub2 (x : A) (ρ : Env) (y : A) : A → St → RS := fun k st2 => match y, k with
    | .v (.ref n), .v k => match getK (mat x st2).2 n with
      | some kvs => if askOk kvs k && decide (kvs.length < szMax) then .ok .nx ρ (setO (mat x st2).2 n (.dct (putD kvs k (mat x st2).1))) else .no
      | none => match getL (mat x st2).2 n, k with
        | some ds, .int i => match ixN ds.length i with
          | some j => .ok .nx ρ (setO (mat x st2).2 n (.lst (ds.set j (mat x st2).1)))
          | none => .no
        | _, _ => .no
    | _, _ => .no
@[simp] theorem kSub2_ap (x : A) (ρ : Env) (n : Nat) (k : D) (st2 : St) : kSub2 x ρ (.v (.ref n)) (.v k) st2 = match getK (mat x st2).2 n with
      | some kvs => if askOk kvs k && decide (kvs.length < szMax) then .ok .nx ρ (setO (mat x st2).2 n (.dct (putD kvs k (mat x st2).1))) else .no
      | none => match getL (mat x st2).2 n, k with
        | some ds, .int i => match ixN ds.length i with
          | some j => .ok .nx ρ (setO (mat x st2).2 n (.lst (ds.set j (mat x st2).1)))
          | none => .no
        | _, _ => .no := (rfl)
def kSub (F : FT) (i : E) (x : A) (ρ : Env) : A → St → RS := fun y st1 => (evE F i ρ st1).toS ρ (kSub2 x ρ y)
@[simp] theorem kSub_ap (F : FT) (i : E) (x : A) (ρ : Env) (y : A) (st1 : St) : kSub F i x ρ y st1 = (evE F i ρ st1).toS ρ (kSub2 x ρ y) := (rfl)
@[simp] theorem assign_sub (o i : E) (x : A) : assign F (.sub o i) x ρ st = (evE F o ρ st).toS ρ (kSub F i x ρ) := (rfl)
theorem R.toS_no' {α : Type} (f : α → St → RS) : (R.no : R α).toS ρ f = .no := rfl
end PM
namespace PM
variable {F : FT} {ρ : Env} {st : St}
@[simp] theorem p_app_v (n : Nat) (d : D) (ds : List D) (h : getL st n = some ds) (hl : ds.length ≤ 100000) : p_app [.v (.ref n), .v d] st = .ok (.v .non) (st.set n (.lst (ds ++ [d]))) := by
  have : ds.length < szMax := by unfold szMax; omega
  simp [p_app, h, this, setO]
@[simp] theorem recvOk_app (x : A) : recvOk .app x st = (lstOf st x).isSome := (rfl)
@[simp] theorem recvOk_idx (x : A) : recvOk .idx x st = (lstOf st x).isSome := (rfl)
@[simp] theorem recvOk_pop0 (x : A) : recvOk .pop0 x st = (lstOf st x).isSome := (rfl)
@[simp] theorem recvOk_popI (x : A) : recvOk .popI x st = (lstOf st x).isSome := (rfl)
@[simp] theorem recvOk_rem (x : A) : recvOk .rem x st = (lstOf st x).isSome := (rfl)
@[simp] theorem recvOk_ext (x : A) : recvOk .ext x st = (lstOf st x).isSome := (rfl)
@[simp] theorem lstOf_ref (n : Nat) : lstOf st (.v (.ref n)) = getL st n := (rfl)
@[simp] theorem lstOf_tl (ds : List D) : lstOf st (.tl ds) = some ds := (rfl)
@[simp] theorem trkOf_ref (n : Nat) : trkOf st (.v (.ref n)) = getL st n := (rfl)
@[simp] theorem trkOf_tl (ds : List D) : trkOf st (.tl ds) = some ds := (rfl)
end PM
namespace PM
mutual
theorem D.bel_le {n m : Nat} (h : n ≤ m) : ∀ d : D, d.bel n = true → d.bel m = true
  | .ref k, e => by simp only [D.bel, decide_eq_true_eq] at e ⊢; omega
  | .tup ds, e => by simp only [D.bel] at e ⊢; exact D.bels_le h ds e
  | .ktp ds, e => by simp only [D.bel] at e ⊢; exact D.bels_le h ds e
  | .fls ds, e => by simp only [D.bel] at e ⊢; exact D.bels_le h ds e
  | .non, _ => rfl
  | .bl _, _ => rfl
  | .int _, _ => rfl
  | .str _, _ => rfl
theorem D.bels_le {n m : Nat} (h : n ≤ m) : ∀ ds : List D, D.bels n ds = true → D.bels m ds = true
  | [], _ => rfl
  | d :: ds, e => by
    simp only [D.bels, Bool.and_eq_true] at e ⊢
    exact ⟨D.bel_le h d e.1, D.bels_le h ds e.2⟩
end
theorem MO.bel_le {n m : Nat} (h : n ≤ m) (o : MO) (e : o.bel n = true) : o.bel m = true := by
  cases o with
  | lst ds => exact D.bels_le h ds e
  | dct kvs =>
    simp only [MO.bel, kvBelow, List.all_eq_true, Bool.and_eq_true] at e ⊢
    exact fun p hp => ⟨D.bel_le h _ (e p hp).1, D.bel_le h _ (e p hp).2⟩
  | ins c fs =>
    simp only [MO.bel, List.all_eq_true] at e ⊢
    exact fun p hp => D.bel_le h _ (e p hp)
theorem Wf.app {st os : St} (h : Wf st) (ho : ∀ x ∈ os, MO.bel (st ++ os).length x = true) : Wf (st ++ os) := by
  unfold Wf at *
  rw [List.all_eq_true] at h ⊢
  intro x hx
  rcases List.mem_append.mp hx with h1 | h1
  · exact MO.bel_le (by simp) x (h x h1)
  · exact ho x h1
theorem bels_all {n : Nat} {ds : List D} : D.bels n ds = true ↔ ∀ d ∈ ds, d.bel n = true := by
  induction ds with
  | nil => simp [D.bels]
  | cons d ds ih => simp [D.bels, ih]
end PM
namespace PM
variable {F : FT} {ρ : Env} {st : St}
/-- a def that sets one object that was there, and makes some that go -/
theorem run_g {defs : List Df} {k i n : Nat} {o : MO} {os : St} {d : Df} {ds : List D} {x : D} (hd : fun_ defs (k + 1) i ds st = gcR st (runDf (fun_ defs k) d ds st))
    (h : evSs (fun_ defs k) d.body (startE d.slots ds) st = .ok (.rt (.v x)) ρ (st.set n o ++ os)) (hl : ds.length = d.pars) (hx : x.bel st.length = true) (hw : Wf st) (ho : o.bel st.length = true) :
    fun_ defs (k + 1) i ds st = .ok (.v x) (st.set n o) := by
  rw [hd, runDf, if_pos hl, h]
  simp [gc_set_v _ _ _ _ _ hx hw ho]
/-- a def that makes objects that go -/
theorem run_a {defs : List Df} {k i : Nat} {os : St} {d : Df} {ds : List D} {x : D} (hd : fun_ defs (k + 1) i ds st = gcR st (runDf (fun_ defs k) d ds st))
    (h : evSs (fun_ defs k) d.body (startE d.slots ds) st = .ok (.rt (.v x)) ρ (st ++ os)) (hl : ds.length = d.pars) (hx : x.bel st.length = true) :
    fun_ defs (k + 1) i ds st = .ok (.v x) st := by
  rw [hd, runDf, if_pos hl, h]
  simp [gc_app_v _ _ _ hx]
end PM
namespace PM
def ranN (n : Nat) : List D := (List.range n).map fun (i : Nat) => D.int (i : Int)
@[simp] theorem ranI_zero (n : Nat) : ranI 0 n = ranN n := by simp [ranI, ranN]
@[simp] theorem ranN_len (n : Nat) : (ranN n).length = n := by simp [ranN]
theorem ranN_get {n j : Nat} {d : D} (h : (ranN n)[j]? = some d) : j < n ∧ d = .int j := by
  have hj : j < n := by simpa using (List.getElem?_eq_some_iff.mp h).1
  unfold ranN at h
  rw [List.getElem?_map, List.getElem?_range hj] at h
  simp at h
  exact ⟨hj, h.symm⟩
theorem atI_iD (l : List Int) (m : Nat) (h : m < l.length) : atI (l.map D.int) (m : Int) = some (.int (l.getD m 0)) := by
  rw [atI_nat _ _ (by omega) (by simp; omega)]
  simp [h]
end PM
namespace PM
variable {F : FT} {ρ : Env} {st : St}
@[simp] theorem mergeD_nil (kvs : List (D × D)) : mergeD kvs [] = kvs := (rfl)
theorem bel_T {d : D} {ds : List D} (h : tupOf (.v d) = some ds) (n : Nat) : d.bel n = D.bels n ds := by
  rcases IsT.cases h with rfl | rfl <;> rfl
@[simp] theorem bel_non (n : Nat) : D.bel n .non = true := (rfl)
@[simp] theorem bel_bl (n : Nat) (b : Bool) : D.bel n (.bl b) = true := (rfl)
@[simp] theorem bel_int (n : Nat) (b : Int) : D.bel n (.int b) = true := (rfl)
@[simp] theorem bel_str (n : Nat) (b : Tx) : D.bel n (.str b) = true := (rfl)
@[simp] theorem bel_tup (n : Nat) (b : List D) : D.bel n (.tup b) = D.bels n b := by rw [D.bel]
@[simp] theorem bel_ktp (n : Nat) (b : List D) : D.bel n (.ktp b) = D.bels n b := by rw [D.bel]
@[simp] theorem bels_nil (n : Nat) : D.bels n [] = true := (rfl)
@[simp] theorem bels_cons (n : Nat) (d : D) (ds : List D) : D.bels n (d :: ds) = (D.bel n d && D.bels n ds) := by rw [D.bels]
@[simp] theorem bel_lst (n : Nat) (ds : List D) : MO.bel n (.lst ds) = D.bels n ds := (rfl)
theorem bels_map {α : Type} (f : α → D) (l : List α) (n : Nat) (h : ∀ a ∈ l, (f a).bel n = true) : D.bels n (l.map f) = true := by
  rw [bels_all]
  intro d hd
  obtain ⟨a, ha, rfl⟩ := List.mem_map.mp hd
  exact h a ha
/-- a list, or nobody's list, in a call's eyes -/
@[simp] theorem p_idx_tl (l : List D) (d : D) : p_idx [.tl l, .v d] st = if flatD d && l.all flatD then val ((l.findIdx? fun e => eqF e d).map fun (j : Nat) => .int j) st else .no := (rfl)
theorem gc_tl_app (st os : St) (ds : List D) (h : D.bels st.length ds = true) : gc st (.tl ds) (st ++ os) = (.tl ds, st) := by
  unfold gc
  split
  · rename_i h2
    have : os = [] := by
      cases os with
      | nil => rfl
      | cons a b => simp at h2; omega
    simp [this]
  · simp [h]
end PM
namespace PM
variable {F : FT} {ρ : Env} {st : St}
/-- a def that gives None -/
theorem run_n {defs : List Df} {k i : Nat} {d : Df} {ds : List D} {st' : St} (hd : fun_ defs (k + 1) i ds st = gcR st (runDf (fun_ defs k) d ds st))
    (h : evSs (fun_ defs k) d.body (startE d.slots ds) st = .ok .nx ρ st') (hl : ds.length = d.pars) (h2 : st'.length ≤ st.length) : fun_ defs (k + 1) i ds st = .ok (.v .non) st' := by
  rw [hd, runDf, if_pos hl, h]
  simp [gc_len, h2]
theorem ixN_nat {n m : Nat} (h : m < n) : ixN n (m : Int) = some m := by
  unfold ixN
  rw [if_pos (by omega), if_pos (by omega)]
  simp
theorem atI_some {l : List D} {m : Nat} {d : D} (h : l[m]? = some d) : atI l (m : Int) = some d := by
  have := (List.getElem?_eq_some_iff.mp h).1
  rw [atI_nat _ _ (by omega) (by omega)]
  simpa using h
end PM
namespace PM
@[simp] theorem atI_four (d e f g h : D) (ds : List D) : atI (d :: e :: f :: g :: h :: ds) 4 = some h := atI_some (m := 4) rfl
@[simp] theorem atI_five (d e f g h i : D) (ds : List D) : atI (d :: e :: f :: g :: h :: i :: ds) 5 = some i := atI_some (m := 5) rfl
end PM
namespace PM
variable {F : FT} {ρ : Env} {st : St}
/-- a def that gives a list of its own -/
theorem run_l {defs : List Df} {k i n : Nat} {os : St} {l : List D} {d : Df} {ds : List D} (hd : fun_ defs (k + 1) i ds st = gcR st (runDf (fun_ defs k) d ds st))
    (h : evSs (fun_ defs k) d.body (startE d.slots ds) st = .ok (.rt (.v (.ref (st.length + n)))) ρ (st ++ os)) (hl : ds.length = d.pars) (hn : os[n]? = some (.lst l)) (hx : D.bels st.length l = true) :
    fun_ defs (k + 1) i ds st = .ok (.tl l) st := by
  rw [hd, runDf, if_pos hl, h]
  have h1 : ¬ ((st ++ os).length ≤ st.length) := by
    have := (List.getElem?_eq_some_iff.mp hn).1
    simp; omega
  have h2 : (st ++ os)[st.length + n]? = some (.lst l) := by rw [List.getElem?_append_right (by omega)]; simpa using hn
  simp only [gcR_ok]
  unfold gc
  rw [if_neg h1]
  have h3 : ¬ (st.length + n < st.length) := by omega
  simp [D.bel, h2, hx, h3]
theorem blsOf_map {α : Type} (l : List α) (f : α → Bool) : blsOf (l.map fun a => .bl (f a)) = some (l.map f) := by
  induction l with
  | nil => rfl
  | cons a l ih => simp [blsOf, ih]
@[simp] theorem p_all_tl (l : List D) : p_all [.tl l] st = bl ((blsOf l).map fun bs => bs.all id) st := (rfl)
@[simp] theorem p_any_tl (l : List D) : p_any [.tl l] st = bl ((blsOf l).map fun bs => bs.any id) st := (rfl)
theorem txsOf_sD (l : List Tx) : txsOf (l.map .str) = some l := by
  induction l with
  | nil => rfl
  | cons a l ih => simp [txsOf, ih]
theorem truth_lst {n : Nat} {l : List D} (h : getL st n = some l) : truth st (.v (.ref n)) = some (!l.isEmpty) := by
  simp [truth, h]
@[simp] theorem truR_lst (n : Nat) (l : List D) (h : getL st n = some l) : truR (.v (.ref n)) st = .ok (!l.isEmpty) st := by
  simp [truR, truth_lst h]
theorem p_rem_ok {n : Nat} {l : List Tx} {x : Tx} (h : getL st n = some (l.map .str)) (hx : x ∈ l) : p_rem [.v (.ref n), .v (.str x)] st = .ok (.v .non) (st.set n (.lst ((l.erase x).map .str))) := by
  simp [p_rem, h, txsOf_sD, hx, setO]
end PM
namespace PM
variable {F : FT} {ρ : Env} {st : St}
@[simp] theorem p_neg_i (i : Int) : p_neg [.v (.int i)] st = .ok (.v (.int (-i))) st := (rfl)
/-- a def that gives nobody's list and leaves the store -/
theorem p_ext_ok {n : Nat} {ds es : List D} (h : getL st n = some ds) (hl : ds.length + es.length ≤ 1000000) : p_ext [.v (.ref n), .tl es] st = .ok (.v .non) (st.set n (.lst (ds ++ es))) := by
  have : ds.length + es.length ≤ szMax := by unfold szMax; omega
  simp [p_ext, h, this, setO]
end PM
namespace PM
variable {F : FT} {ρ : Env} {st : St}
@[simp] theorem p_len_dct (n : Nat) (l : List (D × D)) (h : getK st n = some l) (hf : flatKeys l = true) : p_len [.v (.ref n)] st = .ok (.v (.int l.length)) st := by
  have := getL_of_getK h
  simp [p_len, seqOf, tupOf, lstOf, trkOf, h, this, hf]
end PM
namespace PM
variable {F : FT} {ρ : Env} {st : St}
@[simp] theorem p_isi_v (t : Ty) (d : D) : p_isi t [.v d] st = bl (isTy st d t) st := (rfl)
@[simp] theorem isTy_int (i : Int) (t : Ty) : isTy st (.int i) t = some (decide (t = .tInt)) := by cases t <;> rfl
@[simp] theorem isTy_str (i : Tx) (t : Ty) : isTy st (.str i) t = some (decide (t = .tStr)) := by cases t <;> rfl
@[simp] theorem isTy_non (t : Ty) : isTy st .non t = some false := by cases t <;> rfl
@[simp] theorem isTy_T (d : D) (t : Ty) (h : (tupOf (.v d)).isSome = true) : isTy st d t = some (decide (t = .tTup)) := by
  cases d <;> simp_all [tupOf] <;> cases t <;> rfl
@[simp] theorem p_le_s (a b : Tx) : p_le [.v (.str a), .v (.str b)] st = .ok (.v (.bl (!txLt b a))) st := (rfl)
@[simp] theorem p_lt_s (a b : Tx) : p_lt [.v (.str a), .v (.str b)] st = .ok (.v (.bl (txLt a b))) st := (rfl)
@[simp] theorem valsR_v (a b : D) : valsR (.v a) (.v b) st = .ok (a, b) st := (rfl)
@[simp] theorem boolR_b (b : Bool) : boolR (.v (.bl b)) st = .ok b st := (rfl)
@[simp] theorem intR_i (b : Int) : intR (.v (.int b)) st = .ok b st := (rfl)
@[simp] theorem p_len_str (s : Tx) (h : s.length ≤ szMax) : p_len [.v (.str s)] st = .ok (.v (.int s.length)) st := by simp [p_len, h]
@[simp] theorem itemsOf_str (s : Tx) : itemsOf st (.v (.str s)) = some (s.map fun c => .str [c]) := (rfl)
/-- all of a comprehension that tells truths -/
theorem lc_bl {α : Type} (f : α → D) (g : α → Bool) (chk : Chk) (hc : alive chk st = true) (body : D → St → R (Option D)) : ∀ (l : List α) (acc : List D), (∀ a ∈ l, body (f a) st = .ok (some (.bl (g a))) st) → acc.length + l.length ≤ 10000 →
    lcLoop chk body (l.map f) acc st = .ok (.tl (acc ++ l.map fun a => .bl (g a))) st
  | [], acc, _, _ => by simp [lcLoop, hc]
  | a :: l, acc, h, hl => by
    have hs : acc.length < szMax := by unfold szMax; simp at hl; omega
    rw [List.map_cons, lcLoop, if_pos hc, h a (by simp)]
    simp only [R.cut_ok, R.bi_ok, hs, if_true]
    rw [lc_bl f g chk hc body l _ (fun b hb => h b (by simp [hb])) (by simp at hl ⊢; omega)]
    simp
end PM
namespace PM
variable {F : FT} {ρ : Env} {st : St}
@[simp] theorem keyR_v (d : D) (h : keyK d = true) : keyR (.v d) st = .ok d st := by simp [keyR, h]
theorem p_add_T {a b : D} {xs ys : List D} (ha : tupOf (.v a) = some xs) (hb : tupOf (.v b) = some ys) (hl : xs.length + ys.length ≤ 1000) : ∃ r, (∀ S, p_add [.v a, .v b] S = .ok (.v r) S) ∧ tupOf (.v r) = some (xs ++ ys) := by
  have h1 : xs.length + ys.length ≤ szMax := by unfold szMax; omega
  by_cases e1 : xs.isEmpty = true
  · refine ⟨b, fun S => ?_, by simp at e1; simp [e1, hb]⟩
    rcases IsT.cases ha with rfl | rfl <;> rcases IsT.cases hb with rfl | rfl <;> simp [p_add, addA, tupOf, h1, e1]
  · by_cases e2 : ys.isEmpty = true
    · refine ⟨a, fun S => ?_, by simp at e2; simp [e2, ha]⟩
      rcases IsT.cases ha with rfl | rfl <;> rcases IsT.cases hb with rfl | rfl <;> simp [p_add, addA, tupOf, h1, e1, e2]
    · refine ⟨.tup (xs ++ ys), fun S => ?_, rfl⟩
      rcases IsT.cases ha with rfl | rfl <;> rcases IsT.cases hb with rfl | rfl <;> simp [p_add, addA, tupOf, h1, e1, e2]
end PM
namespace PM
variable {F : FT} {ρ : Env} {st : St}
@[simp] theorem p_fdv_i (i j : Int) (h : 0 < j ∧ j < 1073741824) : p_fdv [.v (.int i), .v (.int j)] st = .ok (.v (.int (i / j))) st := by simp [p_fdv, h]
@[simp] theorem p_mul_r (i j : Int) (h : -1000000 < j ∧ j < 1000000) : p_mul [.v (.int i), .v (.int j)] st = .ok (.v (.int (i * j))) st := by
  have : -big64 < j ∧ j < big64 := by unfold big64; omega
  simp [p_mul, this]
@[simp] theorem truR_tl (l : List D) : truR (.tl l) st = .ok (!l.isEmpty) st := (rfl)
theorem gc_tl (st st' : St) (l : List D) (h : st'.length ≤ st.length) : gc st (.tl l) st' = (.tl l, st') := gc_len _ _ _ h
end PM
end
section
/-! The M bodies of the defs of cellmoments_k45_drafts_do_what_they_say (printed by gen.py). -/
namespace B
open PM
@[simp] def w_a : Tx := [97]
@[simp] def w_abcdefghijklmnopqrstuvwyz : Tx := [97, 98, 99, 100, 101, 102, 103, 104, 105, 106, 107, 108, 109, 110, 111, 112, 113, 114, 115, 116, 117, 118, 119, 121, 122]
@[simp] def w_add : Tx := [97, 100, 100]
@[simp] def w_alike : Tx := [97, 108, 105, 107, 101]
@[simp] def w_alone : Tx := [97, 108, 111, 110, 101]
@[simp] def w_any : Tx := [97, 110, 121]
@[simp] def w_at : Tx := [97, 116]
@[simp] def w_b : Tx := [98]
@[simp] def w_before : Tx := [98, 101, 102, 111, 114, 101]
@[simp] def w_both : Tx := [98, 111, 116, 104]
@[simp] def w_cells : Tx := [99, 101, 108, 108, 115]
@[simp] def w_come : Tx := [99, 111, 109, 101]
@[simp] def w_copy : Tx := [99, 111, 112, 121]
@[simp] def w_cx : Tx := [99, 120]
@[simp] def w_cy : Tx := [99, 121]
@[simp] def w_drop : Tx := [100, 114, 111, 112]
@[simp] def w_due : Tx := [100, 117, 101]
@[simp] def w_else : Tx := [101, 108, 115, 101]
@[simp] def w_fits : Tx := [102, 105, 116, 115]
@[simp] def w_flip : Tx := [102, 108, 105, 112]
@[simp] def w_form : Tx := [102, 111, 114, 109]
@[simp] def w_forms : Tx := [102, 111, 114, 109, 115]
@[simp] def w_gate : Tx := [103, 97, 116, 101]
@[simp] def w_held : Tx := [104, 101, 108, 100]
@[simp] def w_inputs : Tx := [105, 110, 112, 117, 116, 115]
@[simp] def w_judged : Tx := [106, 117, 100, 103, 101, 100]
@[simp] def w_late : Tx := [108, 97, 116, 101]
@[simp] def w_least : Tx := [108, 101, 97, 115, 116]
@[simp] def w_less : Tx := [108, 101, 115, 115]
@[simp] def w_low : Tx := [108, 111, 119]
@[simp] def w_match : Tx := [109, 97, 116, 99, 104]
@[simp] def w_most : Tx := [109, 111, 115, 116]
@[simp] def w_moved : Tx := [109, 111, 118, 101, 100]
@[simp] def w_names : Tx := [110, 97, 109, 101, 115]
@[simp] def w_next : Tx := [110, 101, 120, 116]
@[simp] def w_now : Tx := [110, 111, 119]
@[simp] def w_ok : Tx := [111, 107]
@[simp] def w_on : Tx := [111, 110]
@[simp] def w_one : Tx := [111, 110, 101]
@[simp] def w_out : Tx := [111, 117, 116]
@[simp] def w_pair : Tx := [112, 97, 105, 114]
@[simp] def w_past : Tx := [112, 97, 115, 116]
@[simp] def w_push : Tx := [112, 117, 115, 104]
@[simp] def w_put : Tx := [112, 117, 116]
@[simp] def w_recall : Tx := [114, 101, 99, 97, 108, 108]
@[simp] def w_right : Tx := [114, 105, 103, 104, 116]
@[simp] def w_rings : Tx := [114, 105, 110, 103, 115]
@[simp] def w_rise : Tx := [114, 105, 115, 101]
@[simp] def w_row : Tx := [114, 111, 119]
@[simp] def w_size : Tx := [115, 105, 122, 101]
@[simp] def w_step : Tx := [115, 116, 101, 112]
@[simp] def w_store : Tx := [115, 116, 111, 114, 101]
@[simp] def w_sum : Tx := [115, 117, 109]
@[simp] def w_taken : Tx := [116, 97, 107, 101, 110]
@[simp] def w_there : Tx := [116, 104, 101, 114, 101]
@[simp] def w_times : Tx := [116, 105, 109, 101, 115]
@[simp] def w_total : Tx := [116, 111, 116, 97, 108]
@[simp] def w_turn : Tx := [116, 117, 114, 110]
@[simp] def w_turned : Tx := [116, 117, 114, 110, 101, 100]
@[simp] def w_twice : Tx := [116, 119, 105, 99, 101]
@[simp] def w_up : Tx := [117, 112]
@[simp] def w_was : Tx := [119, 97, 115]
@[simp] def w_when : Tx := [119, 104, 101, 110]
@[simp] def w_worth : Tx := [119, 111, 114, 116, 104]
@[simp] def w_x : Tx := [120]
@[simp] def w_y : Tx := [121]
@[simp] def w_z : Tx := [122]
def ix_is_integer : Nat := 0
def ix_is_between : Nat := 1
def ix_is_row : Nat := 2
def ix_is_ascending : Nat := 3
def ix_is_name : Nat := 4
def ix_are_names : Nat := 5
def ix_is_worth : Nat := 6
def ix_is_worth_or_none : Nat := 7
def ix_is_form : Nat := 8
def ix_is_table : Nat := 9
def ix_is_pairing : Nat := 10
def ix_names_in : Nat := 11
def ix_paired : Nat := 12
def ix_shown : Nat := 13
def ix_net_fault : Nat := 14
def ix_are_cells : Nat := 15
def ix_cell_names : Nat := 16
def ix_form_table : Nat := 17
def ix_now_names : Nat := 18
def ix_order_of : Nat := 19
def ix_reached_from : Nat := 20
def ix_is_sound : Nat := 21
def ix_net_of : Nat := 22
def ix_counter : Nat := 23
def ix_toggle : Nat := 24
def ix_edges : Nat := 25
def ix_latch : Nat := 26
def ix_sums : Nat := 27
def ix_pairing : Nat := 28
def ix_delay_line : Nat := 29
def ix_alternation : Nat := 30
def ix_first_kept : Nat := 31
def ix_compiled : Nat := 32
def ix_cell_lines : Nat := 33
def ix_store_line : Nat := 34
def ix_executed : Nat := 35
def ix_do_line : Nat := 36
def ix_do_kept : Nat := 37
def ix_pushed : Nat := 38
def ix_executed_all : Nat := 39
def ix_meaning : Nat := 40
def ix_shows : Nat := 41
def ix_told : Nat := 42
def ix_remembered : Nat := 43
def ix_matched : Nat := 44
def ix_history : Nat := 45
def ix__law_digits : Nat := 46
def ix__law_box : Nat := 47
def ix__law_take : Nat := 48
def ix__law_pick : Nat := 49
def ix__law_event : Nat := 50
def ix__law_rows : Nat := 51
def ix__law_paired : Nat := 52
def ix_law : Nat := 53
def d_is_integer : Df := ⟨1, 1,
  (.cons (.ret (.and (.p (.isi .tInt) (.cons (.var 0) .nil)) (.not (.p (.isi .tBool) (.cons (.var 0) .nil))))) .nil)⟩
def d_is_between : Df := ⟨3, 3,
  (.cons (.ret (.and (.call ix_is_integer (.cons (.var 0) .nil)) (.and (.p .ge (.cons (.var 0) (.cons (.var 1) .nil))) (.or (.p .isN (.cons (.var 2) .nil)) (.p .le (.cons (.var 0) (.cons (.var 2) .nil))))))) .nil)⟩
def d_is_row : Df := ⟨2, 2,
  (.cons (.ret (.and (.p (.isi .tTup) (.cons (.var 0) .nil)) (.p .eq (.cons (.p .len (.cons (.var 0) .nil)) (.cons (.var 1) .nil))))) .nil)⟩
def d_is_ascending : Df := ⟨2, 1,
  (.cons (.ret (.p .all (.cons (.lc (.ran1 (.p .sub (.cons (.p .len (.cons (.var 0) .nil)) (.cons (.cst (.int (1))) .nil)))) (.nm 1) [1] .nil (.p .lt (.cons (.p .ix (.cons (.var 0) (.cons (.var 1) .nil))) (.cons (.p .ix (.cons (.var 0) (.cons (.p .add (.cons (.var 1) (.cons (.cst (.int (1))) .nil))) .nil))) .nil)))) .nil))) .nil)⟩
def d_is_name : Df := ⟨2, 1,
  (.cons (.ret (.and (.p (.isi .tStr) (.cons (.var 0) .nil)) (.and (.chain .le .le (.cst (.int (1))) (.p .len (.cons (.var 0) .nil)) (.cst (.int (12)))) (.p .all (.cons (.lc (.seq (.var 0)) (.nm 1) [1] .nil (.chain .le .le (.cst (.str w_a)) (.var 1) (.cst (.str w_z)))) .nil))))) .nil)⟩
def d_are_names : Df := ⟨2, 1,
  (.cons (.ret (.and (.p (.isi .tTup) (.cons (.var 0) .nil)) (.and (.p .all (.cons (.lc (.seq (.var 0)) (.nm 1) [1] .nil (.call ix_is_name (.cons (.var 1) .nil))) .nil)) (.call ix_is_ascending (.cons (.var 0) .nil))))) .nil)⟩
def d_is_worth : Df := ⟨2, 2,
  (.cons (.ret (.call ix_is_between (.cons (.var 0) (.cons (.cst (.int (0))) (.cons (.p .sub (.cons (.var 1) (.cons (.cst (.int (1))) .nil))) .nil))))) .nil)⟩
def d_is_worth_or_none : Df := ⟨2, 2,
  (.cons (.ret (.or (.p .isN (.cons (.var 0) .nil)) (.call ix_is_worth (.cons (.var 0) (.cons (.var 1) .nil))))) .nil)⟩
def d_is_form : Df := ⟨3, 2,
  (.cons (.iff (.or (.not (.p (.isi .tTup) (.cons (.var 0) .nil))) (.or (.p .eq (.cons (.p .len (.cons (.var 0) .nil)) (.cons (.cst (.int (0))) .nil))) (.not (.p (.isi .tStr) (.cons (.p .ix (.cons (.var 0) (.cons (.cst (.int (0))) .nil))) .nil))))) (.cons (.ret (.cst (.bl false))) .nil) .nil) (.cons (.asg (.nm 2) (.p .ix (.cons (.var 0) (.cons (.cst (.int (0))) .nil)))) (.cons (.iff (.p .eq (.cons (.var 2) (.cons (.cst (.str w_worth)) .nil))) (.cons (.ret (.and (.call ix_is_row (.cons (.var 0) (.cons (.cst (.int (2))) .nil))) (.call ix_is_worth (.cons (.p .ix (.cons (.var 0) (.cons (.cst (.int (1))) .nil))) (.cons (.var 1) .nil))))) .nil) .nil) (.cons (.iff (.p .inn (.cons (.var 2) (.cons (.tup (.cons (.cst (.str w_copy)) (.cons (.cst (.str w_there)) .nil))) .nil))) (.cons (.ret (.and (.call ix_is_row (.cons (.var 0) (.cons (.cst (.int (2))) .nil))) (.call ix_is_name (.cons (.p .ix (.cons (.var 0) (.cons (.cst (.int (1))) .nil))) .nil)))) .nil) .nil) (.cons (.iff (.or (.p .inn (.cons (.var 2) (.cons (.cst (.ktp [(.str w_add), (.str w_times), (.str w_least), (.str w_most), (.str w_alike), (.str w_less)])) .nil))) (.p .inn (.cons (.var 2) (.cons (.tup (.cons (.cst (.str w_when)) (.cons (.cst (.str w_else)) .nil))) .nil)))) (.cons (.ret (.and (.call ix_is_row (.cons (.var 0) (.cons (.cst (.int (3))) .nil))) (.and (.call ix_is_name (.cons (.p .ix (.cons (.var 0) (.cons (.cst (.int (1))) .nil))) .nil)) (.call ix_is_name (.cons (.p .ix (.cons (.var 0) (.cons (.cst (.int (2))) .nil))) .nil))))) .nil) .nil) (.cons (.iff (.p .eq (.cons (.var 2) (.cons (.cst (.str w_turn)) .nil))) (.cons (.ret (.and (.call ix_is_row (.cons (.var 0) (.cons (.cst (.int (3))) .nil))) (.and (.call ix_is_name (.cons (.p .ix (.cons (.var 0) (.cons (.cst (.int (1))) .nil))) .nil)) (.call ix_is_table (.cons (.p .ix (.cons (.var 0) (.cons (.cst (.int (2))) .nil))) (.cons (.var 1) .nil)))))) .nil) .nil) (.cons (.iff (.p .inn (.cons (.var 2) (.cons (.tup (.cons (.cst (.str w_held)) (.cons (.cst (.str w_before)) .nil))) .nil))) (.cons (.ret (.and (.call ix_is_row (.cons (.var 0) (.cons (.cst (.int (3))) .nil))) (.and (.call ix_is_name (.cons (.p .ix (.cons (.var 0) (.cons (.cst (.int (1))) .nil))) .nil)) (.call ix_is_worth (.cons (.p .ix (.cons (.var 0) (.cons (.cst (.int (2))) .nil))) (.cons (.var 1) .nil)))))) .nil) .nil) (.cons (.iff (.p .eq (.cons (.var 2) (.cons (.cst (.str w_late)) .nil))) (.cons (.ret (.and (.call ix_is_row (.cons (.var 0) (.cons (.cst (.int (3))) .nil))) (.and (.call ix_is_name (.cons (.p .ix (.cons (.var 0) (.cons (.cst (.int (1))) .nil))) .nil)) (.call ix_is_worth_or_none (.cons (.p .ix (.cons (.var 0) (.cons (.cst (.int (2))) .nil))) (.cons (.var 1) .nil)))))) .nil) .nil) (.cons (.ret (.and (.p .eq (.cons (.var 2) (.cons (.cst (.str w_match)) .nil))) (.and (.call ix_is_row (.cons (.var 0) (.cons (.cst (.int (4))) .nil))) (.call ix_is_pairing (.cons (.var 0) .nil))))) .nil)))))))))⟩
def d_is_table : Df := ⟨3, 2,
  (.cons (.ret (.and (.call ix_is_row (.cons (.var 0) (.cons (.var 1) .nil))) (.p .all (.cons (.lc (.seq (.var 0)) (.nm 2) [2] .nil (.call ix_is_worth (.cons (.var 2) (.cons (.var 1) .nil)))) .nil)))) .nil)⟩
def d_is_pairing : Df := ⟨1, 1,
  (.cons (.ret (.and (.p (.isi .tStr) (.cons (.p .ix (.cons (.var 0) (.cons (.cst (.int (1))) .nil))) .nil)) (.and (.p .inn (.cons (.p .ix (.cons (.var 0) (.cons (.cst (.int (1))) .nil))) (.cons (.cst (.ktp [(.str w_add), (.str w_times), (.str w_least), (.str w_most), (.str w_alike), (.str w_less)])) .nil))) (.and (.call ix_is_name (.cons (.p .ix (.cons (.var 0) (.cons (.cst (.int (2))) .nil))) .nil)) (.call ix_is_name (.cons (.p .ix (.cons (.var 0) (.cons (.cst (.int (3))) .nil))) .nil)))))) .nil)⟩
def d_names_in : Df := ⟨1, 1,
  (.cons (.iff (.p .eq (.cons (.p .ix (.cons (.var 0) (.cons (.cst (.int (0))) .nil))) (.cons (.cst (.str w_worth)) .nil))) (.cons (.ret (.tup .nil)) .nil) .nil) (.cons (.iff (.p .inn (.cons (.p .ix (.cons (.var 0) (.cons (.cst (.int (0))) .nil))) (.cons (.tup (.cons (.cst (.str w_copy)) (.cons (.cst (.str w_there)) (.cons (.cst (.str w_turn)) (.cons (.cst (.str w_held)) (.cons (.cst (.str w_before)) (.cons (.cst (.str w_late)) .nil))))))) .nil))) (.cons (.ret (.tup (.cons (.p .ix (.cons (.var 0) (.cons (.cst (.int (1))) .nil))) .nil))) .nil) .nil) (.cons (.ret (.ite (.p .eq (.cons (.p .ix (.cons (.var 0) (.cons (.cst (.int (0))) .nil))) (.cons (.cst (.str w_match)) .nil))) (.p .slF (.cons (.var 0) (.cons (.cst (.int (2))) .nil))) (.p .slF (.cons (.var 0) (.cons (.cst (.int (1))) .nil))))) .nil)))⟩
def d_paired : Df := ⟨4, 4,
  (.cons (.iff (.p .eq (.cons (.var 0) (.cons (.cst (.str w_add)) .nil))) (.cons (.ret (.p .mod (.cons (.p .add (.cons (.var 1) (.cons (.var 2) .nil))) (.cons (.var 3) .nil)))) .nil) .nil) (.cons (.iff (.p .eq (.cons (.var 0) (.cons (.cst (.str w_times)) .nil))) (.cons (.ret (.p .mod (.cons (.p .mul (.cons (.var 1) (.cons (.var 2) .nil))) (.cons (.var 3) .nil)))) .nil) .nil) (.cons (.iff (.p .eq (.cons (.var 0) (.cons (.cst (.str w_least)) .nil))) (.cons (.ret (.p .min2 (.cons (.var 1) (.cons (.var 2) .nil)))) .nil) .nil) (.cons (.iff (.p .eq (.cons (.var 0) (.cons (.cst (.str w_most)) .nil))) (.cons (.ret (.p .max2 (.cons (.var 1) (.cons (.var 2) .nil)))) .nil) .nil) (.cons (.iff (.p .eq (.cons (.var 0) (.cons (.cst (.str w_alike)) .nil))) (.cons (.ret (.ite (.p .eq (.cons (.var 1) (.cons (.var 2) .nil))) (.cst (.int (1))) (.cst (.int (0))))) .nil) .nil) (.cons (.ret (.ite (.p .lt (.cons (.var 1) (.cons (.var 2) .nil))) (.cst (.int (1))) (.cst (.int (0))))) .nil))))))⟩
def d_shown : Df := ⟨4, 3,
  (.cons (.asg (.nm 3) (.p .ix (.cons (.var 0) (.cons (.cst (.int (0))) .nil)))) (.cons (.iff (.p .eq (.cons (.var 3) (.cons (.cst (.str w_worth)) .nil))) (.cons (.ret (.p .ix (.cons (.var 0) (.cons (.cst (.int (1))) .nil)))) .nil) .nil) (.cons (.iff (.p .eq (.cons (.var 3) (.cons (.cst (.str w_copy)) .nil))) (.cons (.ret (.p .ix (.cons (.var 1) (.cons (.cst (.int (0))) .nil)))) .nil) .nil) (.cons (.iff (.p .eq (.cons (.var 3) (.cons (.cst (.str w_there)) .nil))) (.cons (.ret (.ite (.p .isN (.cons (.p .ix (.cons (.var 1) (.cons (.cst (.int (0))) .nil))) .nil)) (.cst (.int (0))) (.cst (.int (1))))) .nil) .nil) (.cons (.iff (.p .eq (.cons (.var 3) (.cons (.cst (.str w_turn)) .nil))) (.cons (.ret (.ite (.p .isN (.cons (.p .ix (.cons (.var 1) (.cons (.cst (.int (0))) .nil))) .nil)) (.cst .non) (.p .ix (.cons (.p .ix (.cons (.var 0) (.cons (.cst (.int (2))) .nil))) (.cons (.p .ix (.cons (.var 1) (.cons (.cst (.int (0))) .nil))) .nil))))) .nil) .nil) (.cons (.iff (.p .eq (.cons (.var 3) (.cons (.cst (.str w_else)) .nil))) (.cons (.ret (.ite (.p .isN (.cons (.p .ix (.cons (.var 1) (.cons (.cst (.int (0))) .nil))) .nil)) (.p .ix (.cons (.var 1) (.cons (.cst (.int (1))) .nil))) (.p .ix (.cons (.var 1) (.cons (.cst (.int (0))) .nil))))) .nil) .nil) (.cons (.iff (.p .eq (.cons (.var 3) (.cons (.cst (.str w_when)) .nil))) (.cons (.ret (.ite (.or (.p .isN (.cons (.p .ix (.cons (.var 1) (.cons (.cst (.int (1))) .nil))) .nil)) (.p .eq (.cons (.p .ix (.cons (.var 1) (.cons (.cst (.int (1))) .nil))) (.cons (.cst (.int (0))) .nil)))) (.cst .non) (.p .ix (.cons (.var 1) (.cons (.cst (.int (0))) .nil))))) .nil) .nil) (.cons (.ret (.ite (.p .inn (.cons (.cst .non) (.cons (.var 1) .nil))) (.cst .non) (.call ix_paired (.cons (.var 3) (.cons (.p .ix (.cons (.var 1) (.cons (.cst (.int (0))) .nil))) (.cons (.p .ix (.cons (.var 1) (.cons (.cst (.int (1))) .nil))) (.cons (.var 2) .nil))))))) .nil))))))))⟩
def d_net_fault : Df := ⟨8, 1,
  (.cons (.iff (.not (.call ix_is_row (.cons (.var 0) (.cons (.cst (.int (3))) .nil)))) (.cons (.ret (.cst (.str w_form))) .nil) .nil) (.cons (.asg (.tp [1, 2, 3]) (.var 0)) (.cons (.iff (.not (.call ix_is_between (.cons (.var 1) (.cons (.cst (.int (2))) (.cons (.cst (.int (5))) .nil))))) (.cons (.ret (.cst (.str w_size))) .nil) .nil) (.cons (.iff (.or (.not (.call ix_are_names (.cons (.var 2) .nil))) (.p .gt (.cons (.p .len (.cons (.var 2) .nil)) (.cons (.cst (.int (4))) .nil)))) (.cons (.ret (.cst (.str w_inputs))) .nil) .nil) (.cons (.iff (.or (.not (.call ix_are_cells (.cons (.var 3) .nil))) (.p .any (.cons (.lc (.seq (.var 3)) (.tp [5, 6]) [5, 6] .nil (.p .inn (.cons (.var 5) (.cons (.var 2) .nil)))) .nil))) (.cons (.ret (.cst (.str w_cells))) .nil) .nil) (.cons (.iff (.not (.p .all (.cons (.lc (.seq (.var 3)) (.tp [5, 6]) [5, 6] .nil (.call ix_is_form (.cons (.var 6) (.cons (.var 1) .nil)))) .nil))) (.cons (.ret (.cst (.str w_forms))) .nil) .nil) (.cons (.asg (.nm 4) (.p .add (.cons (.p .lst (.cons (.var 2) .nil)) (.cons (.lc (.seq (.var 3)) (.tp [5, 6]) [5, 6] .nil (.var 5)) .nil)))) (.cons (.iff (.not (.p .all (.cons (.lc (.seq (.var 3)) (.tp [5, 6]) [5, 6] .nil (.p .all (.cons (.lc (.seq (.call ix_names_in (.cons (.var 6) .nil))) (.nm 7) [7] .nil (.p .inn (.cons (.var 7) (.cons (.var 4) .nil)))) .nil))) .nil))) (.cons (.ret (.cst (.str w_names))) .nil) .nil) (.cons (.ret (.ite (.call ix_is_sound (.cons (.var 0) .nil)) (.cst .non) (.cst (.str w_rings)))) .nil)))))))))⟩
def d_are_cells : Df := ⟨4, 1,
  (.cons (.iff (.or (.not (.p (.isi .tTup) (.cons (.var 0) .nil))) (.or (.p .gt (.cons (.p .len (.cons (.var 0) .nil)) (.cons (.cst (.int (20))) .nil))) (.not (.p .all (.cons (.lc (.seq (.var 0)) (.nm 2) [2] .nil (.call ix_is_row (.cons (.var 2) (.cons (.cst (.int (2))) .nil)))) .nil))))) (.cons (.ret (.cst (.bl false))) .nil) .nil) (.cons (.asg (.nm 1) (.lc (.seq (.var 0)) (.nm 2) [2] .nil (.p .ix (.cons (.var 2) (.cons (.cst (.int (0))) .nil))))) (.cons (.ret (.and (.p .all (.cons (.lc (.seq (.var 1)) (.nm 3) [3] .nil (.call ix_is_name (.cons (.var 3) .nil))) .nil)) (.call ix_is_ascending (.cons (.var 1) .nil)))) .nil)))⟩
def d_cell_names : Df := ⟨3, 1,
  (.cons (.ret (.lc (.seq (.p .ix (.cons (.var 0) (.cons (.cst (.int (2))) .nil)))) (.tp [1, 2]) [1, 2] .nil (.var 1))) .nil)⟩
def d_form_table : Df := ⟨3, 1,
  (.cons (.ret (.dc (.seq (.p .ix (.cons (.var 0) (.cons (.cst (.int (2))) .nil)))) (.tp [1, 2]) [1, 2] .nil (.var 1) (.var 2))) .nil)⟩
def d_now_names : Df := ⟨1, 1,
  (.cons (.ret (.ite (.p .eq (.cons (.p .ix (.cons (.var 0) (.cons (.cst (.int (0))) .nil))) (.cons (.cst (.str w_late)) .nil))) (.tup .nil) (.call ix_names_in (.cons (.var 0) .nil)))) .nil)⟩
def b_order_of_1 : Ss := (.cons (.asg (.nm 5) (.lc (.seq (.var 4)) (.nm 6) [6] (.cons (.p .all (.cons (.lc (.seq (.call ix_now_names (.cons (.p .ix (.cons (.var 1) (.cons (.var 6) .nil))) .nil))) (.nm 7) [7] .nil (.p .inn (.cons (.var 7) (.cons (.var 2) .nil)))) .nil)) .nil) (.var 6))) (.cons (.iff (.not (.var 5)) (.cons (.ret (.var 3)) .nil) .nil) (.cons (.ex (.m .app (.var 3) (.cons (.p .ix (.cons (.var 5) (.cons (.cst (.int (0))) .nil))) .nil))) (.cons (.asg (.sub (.var 2) (.p .ix (.cons (.var 5) (.cons (.cst (.int (0))) .nil)))) (.cst (.bl true))) (.cons (.ex (.m .rem (.var 4) (.cons (.p .ix (.cons (.var 5) (.cons (.cst (.int (0))) .nil))) .nil))) .nil)))))
def c_order_of_1 : E := (.cst (.bl true))
def d_order_of : Df := ⟨8, 1,
  (.cons (.asg (.nm 1) (.call ix_form_table (.cons (.var 0) .nil))) (.cons (.asg (.nm 2) (.dc (.seq (.p .ix (.cons (.var 0) (.cons (.cst (.int (1))) .nil)))) (.nm 6) [6] .nil (.var 6) (.cst (.bl true)))) (.cons (.asg (.nm 3) (.lst .nil)) (.cons (.asg (.nm 4) (.call ix_cell_names (.cons (.var 0) .nil))) (.cons (.whl c_order_of_1 b_order_of_1) .nil)))))⟩
def b_reached_from_2 : Ss := (.cons (.iff (.p .nin (.cons (.var 6) (.cons (.var 3) .nil))) (.cons (.asg (.sub (.var 3) (.var 6)) (.cst (.bl true))) (.cons (.ex (.m .app (.var 4) (.cons (.var 6) .nil))) .nil)) .nil) .nil)
def b_reached_from_1 : Ss := (.cons (.iff (.p .inn (.cons (.p .ix (.cons (.var 4) (.cons (.var 5) .nil))) (.cons (.var 2) .nil))) (.cons (.forr (.seq (.call ix_names_in (.cons (.p .ix (.cons (.var 2) (.cons (.p .ix (.cons (.var 4) (.cons (.var 5) .nil))) .nil))) .nil))) (.nm 6) b_reached_from_2) .nil) .nil) (.cons (.aug 5 .add (.cst (.int (1)))) .nil))
def c_reached_from_1 : E := (.p .lt (.cons (.var 5) (.cons (.p .len (.cons (.var 4) .nil)) .nil)))
def d_reached_from : Df := ⟨8, 2,
  (.cons (.asg (.nm 2) (.call ix_form_table (.cons (.var 0) .nil))) (.cons (.asg (.nm 3) (.dc (.seq (.var 1)) (.nm 7) [7] .nil (.var 7) (.cst (.bl true)))) (.cons (.asg (.nm 4) (.p .lst (.cons (.var 3) .nil))) (.cons (.asg (.nm 5) (.cst (.int (0)))) (.cons (.whl c_reached_from_1 b_reached_from_1) (.cons (.ret (.var 3)) .nil))))))⟩
def b_is_sound_1 : Ss := (.cons (.iff (.and (.p .eq (.cons (.p .ix (.cons (.var 2) (.cons (.cst (.int (0))) .nil))) (.cons (.cst (.str w_match)) .nil))) (.p .inn (.cons (.var 1) (.cons (.call ix_reached_from (.cons (.var 0) (.cons (.call ix_names_in (.cons (.var 2) .nil)) .nil))) .nil)))) (.cons (.ret (.cst (.bl false))) .nil) .nil) .nil)
def d_is_sound : Df := ⟨3, 1,
  (.cons (.iff (.p .lt (.cons (.p .len (.cons (.call ix_order_of (.cons (.var 0) .nil)) .nil)) (.cons (.p .len (.cons (.p .ix (.cons (.var 0) (.cons (.cst (.int (2))) .nil))) .nil)) .nil))) (.cons (.ret (.cst (.bl false))) .nil) .nil) (.cons (.forr (.seq (.p .ix (.cons (.var 0) (.cons (.cst (.int (2))) .nil)))) (.tp [1, 2]) b_is_sound_1) (.cons (.ret (.cst (.bl true))) .nil)))⟩
def d_net_of : Df := ⟨5, 3,
  (.cons (.asg (.nm 3) (.tup (.cons (.var 0) (.cons (.p .tup (.cons (.p .srt (.cons (.var 1) .nil)) .nil)) (.cons (.p .tup (.cons (.lc (.seq (.p .srt (.cons (.var 2) .nil))) (.nm 4) [4] .nil (.tup (.cons (.var 4) (.cons (.p .ix (.cons (.var 2) (.cons (.var 4) .nil))) .nil)))) .nil)) .nil))))) (.cons (.ret (.ite (.p .ntN (.cons (.call ix_net_fault (.cons (.var 3) .nil)) .nil)) (.cst .non) (.var 3))) .nil))⟩
def d_counter : Df := ⟨2, 1,
  (.cons (.asg (.nm 1) (.dsp (.cons (.cst (.str w_one)) (.cons (.tup (.cons (.cst (.str w_worth)) (.cons (.cst (.int (1))) .nil))) (.cons (.cst (.str w_step)) (.cons (.tup (.cons (.cst (.str w_when)) (.cons (.cst (.str w_one)) (.cons (.cst (.str w_come)) .nil)))) (.cons (.cst (.str w_come)) (.cons (.tup (.cons (.cst (.str w_there)) (.cons (.cst (.str w_x)) .nil))) (.cons (.cst (.str w_sum)) (.cons (.tup (.cons (.cst (.str w_add)) (.cons (.cst (.str w_step)) (.cons (.cst (.str w_past)) .nil)))) (.cons (.cst (.str w_total)) (.cons (.tup (.cons (.cst (.str w_held)) (.cons (.cst (.str w_sum)) (.cons (.cst (.int (0))) .nil)))) (.cons (.cst (.str w_past)) (.cons (.tup (.cons (.cst (.str w_late)) (.cons (.cst (.str w_total)) (.cons (.cst (.int (0))) .nil)))) .nil)))))))))))))) (.cons (.ret (.call ix_net_of (.cons (.var 0) (.cons (.tup (.cons (.cst (.str w_x)) .nil)) (.cons (.var 1) .nil))))) .nil))⟩
def d_toggle : Df := ⟨3, 1,
  (.cons (.asg (.nm 1) (.dsp (.cons (.cst (.str w_come)) (.cons (.tup (.cons (.cst (.str w_there)) (.cons (.cst (.str w_x)) .nil))) (.cons (.cst (.str w_one)) (.cons (.tup (.cons (.cst (.str w_worth)) (.cons (.cst (.int (1))) .nil))) (.cons (.cst (.str w_turned)) (.cons (.tup (.cons (.cst (.str w_turn)) (.cons (.cst (.str w_past)) (.cons (.p .add (.cons (.tup (.cons (.cst (.int (1))) (.cons (.cst (.int (0))) .nil))) (.cons (.p .tup (.cons (.lc (.ran1 (.p .sub (.cons (.var 0) (.cons (.cst (.int (2))) .nil)))) (.nm 2) [2] .nil (.cst (.int (1)))) .nil)) .nil))) .nil)))) (.cons (.cst (.str w_next)) (.cons (.tup (.cons (.cst (.str w_when)) (.cons (.cst (.str w_turned)) (.cons (.cst (.str w_come)) .nil)))) (.cons (.cst (.str w_on)) (.cons (.tup (.cons (.cst (.str w_held)) (.cons (.cst (.str w_next)) (.cons (.cst (.int (0))) .nil)))) (.cons (.cst (.str w_past)) (.cons (.tup (.cons (.cst (.str w_late)) (.cons (.cst (.str w_on)) (.cons (.cst (.int (0))) .nil)))) .nil)))))))))))))) (.cons (.ret (.call ix_net_of (.cons (.var 0) (.cons (.tup (.cons (.cst (.str w_x)) .nil)) (.cons (.var 1) .nil))))) .nil))⟩
def d_edges : Df := ⟨3, 1,
  (.cons (.asg (.nm 1) (.dsp (.cons (.cst (.str w_was)) (.cons (.tup (.cons (.cst (.str w_before)) (.cons (.cst (.str w_x)) (.cons (.cst (.int (0))) .nil)))) (.cons (.cst (.str w_low)) (.cons (.tup (.cons (.cst (.str w_turn)) (.cons (.cst (.str w_was)) (.cons (.p .add (.cons (.tup (.cons (.cst (.int (1))) .nil)) (.cons (.p .tup (.cons (.lc (.ran1 (.p .sub (.cons (.var 0) (.cons (.cst (.int (1))) .nil)))) (.nm 2) [2] .nil (.cst (.int (0)))) .nil)) .nil))) .nil)))) (.cons (.cst (.str w_one)) (.cons (.tup (.cons (.cst (.str w_worth)) (.cons (.cst (.int (1))) .nil))) (.cons (.cst (.str w_up)) (.cons (.tup (.cons (.cst (.str w_when)) (.cons (.cst (.str w_one)) (.cons (.cst (.str w_x)) .nil)))) (.cons (.cst (.str w_rise)) (.cons (.tup (.cons (.cst (.str w_when)) (.cons (.cst (.str w_up)) (.cons (.cst (.str w_low)) .nil)))) .nil)))))))))))) (.cons (.ret (.call ix_net_of (.cons (.var 0) (.cons (.tup (.cons (.cst (.str w_x)) .nil)) (.cons (.var 1) .nil))))) .nil))⟩
def d_latch : Df := ⟨2, 1,
  (.cons (.asg (.nm 1) (.dsp (.cons (.cst (.str w_now)) (.cons (.tup (.cons (.cst (.str w_held)) (.cons (.cst (.str w_x)) (.cons (.cst (.int (0))) .nil)))) (.cons (.cst (.str w_taken)) (.cons (.tup (.cons (.cst (.str w_when)) (.cons (.cst (.str w_now)) (.cons (.cst (.str w_y)) .nil)))) (.cons (.cst (.str w_out)) (.cons (.tup (.cons (.cst (.str w_held)) (.cons (.cst (.str w_taken)) (.cons (.cst (.int (0))) .nil)))) .nil)))))))) (.cons (.ret (.call ix_net_of (.cons (.var 0) (.cons (.tup (.cons (.cst (.str w_x)) (.cons (.cst (.str w_y)) .nil))) (.cons (.var 1) .nil))))) .nil))⟩
def d_sums : Df := ⟨2, 1,
  (.cons (.asg (.nm 1) (.dsp (.cons (.cst (.str w_sum)) (.cons (.tup (.cons (.cst (.str w_add)) (.cons (.cst (.str w_x)) (.cons (.cst (.str w_past)) .nil)))) (.cons (.cst (.str w_total)) (.cons (.tup (.cons (.cst (.str w_held)) (.cons (.cst (.str w_sum)) (.cons (.cst (.int (0))) .nil)))) (.cons (.cst (.str w_past)) (.cons (.tup (.cons (.cst (.str w_late)) (.cons (.cst (.str w_total)) (.cons (.cst (.int (0))) .nil)))) .nil)))))))) (.cons (.ret (.call ix_net_of (.cons (.var 0) (.cons (.tup (.cons (.cst (.str w_x)) .nil)) (.cons (.var 1) .nil))))) .nil))⟩
def d_pairing : Df := ⟨2, 2,
  (.cons (.ret (.call ix_net_of (.cons (.var 0) (.cons (.tup (.cons (.cst (.str w_x)) (.cons (.cst (.str w_y)) .nil))) (.cons (.dsp (.cons (.cst (.str w_both)) (.cons (.tup (.cons (.cst (.str w_match)) (.cons (.var 1) (.cons (.cst (.str w_x)) (.cons (.cst (.str w_y)) .nil))))) .nil))) .nil))))) .nil)⟩
def b_delay_line_1 : Ss := (.cons (.asg (.sub (.var 3) (.var 5)) (.tup (.cons (.cst (.str w_late)) (.cons (.var 4) (.cons (.cst .non) .nil))))) (.cons (.asg (.nm 4) (.var 5)) .nil))
def d_delay_line : Df := ⟨6, 2,
  (.cons (.asg (.nm 2) (.cst (.str w_abcdefghijklmnopqrstuvwyz))) (.cons (.asg (.nm 3) (.dsp .nil)) (.cons (.asg (.nm 4) (.cst (.str w_x))) (.cons (.forr (.seq (.p .slT (.cons (.var 2) (.cons (.var 1) .nil)))) (.nm 5) b_delay_line_1) (.cons (.ret (.call ix_net_of (.cons (.var 0) (.cons (.tup (.cons (.cst (.str w_x)) .nil)) (.cons (.var 3) .nil))))) .nil)))))⟩
def d_alternation : Df := ⟨3, 1,
  (.cons (.asg (.nm 1) (.dsp (.cons (.cst (.str w_cx)) (.cons (.tup (.cons (.cst (.str w_there)) (.cons (.cst (.str w_x)) .nil))) (.cons (.cst (.str w_cy)) (.cons (.tup (.cons (.cst (.str w_there)) (.cons (.cst (.str w_y)) .nil))) (.cons (.cst (.str w_any)) (.cons (.tup (.cons (.cst (.str w_most)) (.cons (.cst (.str w_cx)) (.cons (.cst (.str w_cy)) .nil)))) (.cons (.cst (.str w_due)) (.cons (.tup (.cons (.cst (.str w_late)) (.cons (.cst (.str w_turned)) (.cons (.cst (.int (1))) .nil)))) (.cons (.cst (.str w_fits)) (.cons (.tup (.cons (.cst (.str w_alike)) (.cons (.cst (.str w_cx)) (.cons (.cst (.str w_due)) .nil)))) (.cons (.cst (.str w_flip)) (.cons (.tup (.cons (.cst (.str w_turn)) (.cons (.cst (.str w_due)) (.cons (.p .add (.cons (.tup (.cons (.cst (.int (1))) (.cons (.cst (.int (0))) .nil))) (.cons (.p .tup (.cons (.lc (.ran1 (.p .sub (.cons (.var 0) (.cons (.cst (.int (2))) .nil)))) (.nm 2) [2] .nil (.cst (.int (0)))) .nil)) .nil))) .nil)))) (.cons (.cst (.str w_moved)) (.cons (.tup (.cons (.cst (.str w_when)) (.cons (.cst (.str w_flip)) (.cons (.cst (.str w_any)) .nil)))) (.cons (.cst (.str w_turned)) (.cons (.tup (.cons (.cst (.str w_else)) (.cons (.cst (.str w_moved)) (.cons (.cst (.str w_due)) .nil)))) (.cons (.cst (.str w_one)) (.cons (.tup (.cons (.cst (.str w_worth)) (.cons (.cst (.int (1))) .nil))) (.cons (.cst (.str w_twice)) (.cons (.tup (.cons (.cst (.str w_times)) (.cons (.cst (.str w_cx)) (.cons (.cst (.str w_cy)) .nil)))) (.cons (.cst (.str w_alone)) (.cons (.tup (.cons (.cst (.str w_turn)) (.cons (.cst (.str w_twice)) (.cons (.p .add (.cons (.tup (.cons (.cst (.int (1))) (.cons (.cst (.int (0))) .nil))) (.cons (.p .tup (.cons (.lc (.ran1 (.p .sub (.cons (.var 0) (.cons (.cst (.int (2))) .nil)))) (.nm 2) [2] .nil (.cst (.int (0)))) .nil)) .nil))) .nil)))) (.cons (.cst (.str w_right)) (.cons (.tup (.cons (.cst (.str w_times)) (.cons (.cst (.str w_fits)) (.cons (.cst (.str w_alone)) .nil)))) (.cons (.cst (.str w_judged)) (.cons (.tup (.cons (.cst (.str w_when)) (.cons (.cst (.str w_right)) (.cons (.cst (.str w_any)) .nil)))) (.cons (.cst (.str w_now)) (.cons (.tup (.cons (.cst (.str w_else)) (.cons (.cst (.str w_judged)) (.cons (.cst (.str w_one)) .nil)))) (.cons (.cst (.str w_past)) (.cons (.tup (.cons (.cst (.str w_late)) (.cons (.cst (.str w_ok)) (.cons (.cst (.int (1))) .nil)))) (.cons (.cst (.str w_ok)) (.cons (.tup (.cons (.cst (.str w_times)) (.cons (.cst (.str w_now)) (.cons (.cst (.str w_past)) .nil)))) .nil)))))))))))))))))))))))))))))))))) (.cons (.ret (.call ix_net_of (.cons (.var 0) (.cons (.tup (.cons (.cst (.str w_x)) (.cons (.cst (.str w_y)) .nil))) (.cons (.var 1) .nil))))) .nil))⟩
def d_first_kept : Df := ⟨1, 1,
  (.cons (.ret (.ite (.p .eq (.cons (.p .ix (.cons (.var 0) (.cons (.cst (.int (0))) .nil))) (.cons (.cst (.str w_match)) .nil))) (.tup (.cons (.tup .nil) (.cons (.tup .nil) .nil))) (.p .ix (.cons (.var 0) (.cons (.cst (.int (2))) .nil))))) .nil)⟩
def b_compiled_1 : Ss := (.cons (.ex (.m .ext (.var 7) (.cons (.call ix_cell_lines (.cons (.p .ix (.cons (.var 1) (.cons (.var 3) .nil))) (.cons (.var 4) (.cons (.p .ix (.cons (.var 4) (.cons (.var 3) .nil))) (.cons (.m .get (.var 6) (.cons (.var 3) (.cons (.cst .non) .nil))) .nil))))) .nil))) .nil)
def b_compiled_2 : Ss := (.cons (.ex (.m .app (.var 7) (.cons (.call ix_store_line (.cons (.p .ix (.cons (.var 1) (.cons (.var 3) .nil))) (.cons (.var 4) (.cons (.p .ix (.cons (.var 6) (.cons (.var 3) .nil))) .nil)))) .nil))) .nil)
def d_compiled : Df := ⟨12, 1,
  (.cons (.asg (.nm 1) (.call ix_form_table (.cons (.var 0) .nil))) (.cons (.asg (.nm 2) (.call ix_order_of (.cons (.var 0) .nil))) (.cons (.asg (.nm 4) (.dc (.enu (.p .add (.cons (.p .lst (.cons (.p .ix (.cons (.var 0) (.cons (.cst (.int (1))) .nil))) .nil)) (.cons (.var 2) .nil)))) (.tp [10, 3]) [10, 3] .nil (.var 3) (.var 10))) (.cons (.asg (.nm 5) (.lc (.seq (.var 2)) (.nm 3) [3] (.cons (.p .inn (.cons (.p .ix (.cons (.p .ix (.cons (.var 1) (.cons (.var 3) .nil))) (.cons (.cst (.int (0))) .nil))) (.cons (.cst (.ktp [(.str w_held), (.str w_before), (.str w_late), (.str w_match)])) .nil))) .nil) (.var 3))) (.cons (.asg (.nm 6) (.dc (.enu (.var 5)) (.tp [10, 3]) [10, 3] .nil (.var 3) (.var 10))) (.cons (.asg (.nm 7) (.lst .nil)) (.cons (.forr (.seq (.var 2)) (.nm 3) b_compiled_1) (.cons (.forr (.seq (.var 5)) (.nm 3) b_compiled_2) (.cons (.asg (.nm 8) (.p .tup (.cons (.lc (.seq (.var 5)) (.nm 3) [3] .nil (.call ix_first_kept (.cons (.p .ix (.cons (.var 1) (.cons (.var 3) .nil))) .nil))) .nil))) (.cons (.asg (.nm 9) (.p .tup (.cons (.lc (.seq (.p .ix (.cons (.var 0) (.cons (.cst (.int (2))) .nil)))) (.tp [3, 11]) [3, 11] .nil (.p .ix (.cons (.var 4) (.cons (.var 3) .nil)))) .nil))) (.cons (.ret (.tup (.cons (.p .ix (.cons (.var 0) (.cons (.cst (.int (0))) .nil))) (.cons (.p .ix (.cons (.var 0) (.cons (.cst (.int (1))) .nil))) (.cons (.p .len (.cons (.var 4) .nil)) (.cons (.var 8) (.cons (.p .tup (.cons (.var 7) .nil)) (.cons (.var 9) .nil)))))))) .nil)))))))))))⟩
def d_cell_lines : Df := ⟨7, 4,
  (.cons (.asg (.nm 4) (.p .ix (.cons (.var 0) (.cons (.cst (.int (0))) .nil)))) (.cons (.asg (.nm 5) (.p .tup (.cons (.lc (.seq (.call ix_names_in (.cons (.var 0) .nil))) (.nm 6) [6] .nil (.p .ix (.cons (.var 1) (.cons (.var 6) .nil)))) .nil))) (.cons (.iff (.p .eq (.cons (.var 4) (.cons (.cst (.str w_worth)) .nil))) (.cons (.ret (.lst (.cons (.tup (.cons (.cst (.str w_put)) (.cons (.var 2) (.cons (.p .ix (.cons (.var 0) (.cons (.cst (.int (1))) .nil))) .nil)))) .nil))) .nil) .nil) (.cons (.iff (.p .inn (.cons (.var 4) (.cons (.tup (.cons (.cst (.str w_copy)) (.cons (.cst (.str w_there)) .nil))) .nil))) (.cons (.ret (.lst (.cons (.tup (.cons (.var 4) (.cons (.var 2) (.cons (.p .ix (.cons (.var 5) (.cons (.cst (.int (0))) .nil))) .nil)))) .nil))) .nil) .nil) (.cons (.iff (.p .inn (.cons (.var 4) (.cons (.cst (.ktp [(.str w_add), (.str w_times), (.str w_least), (.str w_most), (.str w_alike), (.str w_less)])) .nil))) (.cons (.ret (.lst (.cons (.tup (.cons (.cst (.str w_pair)) (.cons (.var 2) (.cons (.var 4) (.cons (.p .ix (.cons (.var 5) (.cons (.cst (.int (0))) .nil))) (.cons (.p .ix (.cons (.var 5) (.cons (.cst (.int (1))) .nil))) .nil)))))) .nil))) .nil) .nil) (.cons (.iff (.p .eq (.cons (.var 4) (.cons (.cst (.str w_turn)) .nil))) (.cons (.ret (.lst (.cons (.tup (.cons (.cst (.str w_turn)) (.cons (.var 2) (.cons (.p .ix (.cons (.var 5) (.cons (.cst (.int (0))) .nil))) (.cons (.p .ix (.cons (.var 0) (.cons (.cst (.int (2))) .nil))) .nil))))) .nil))) .nil) .nil) (.cons (.iff (.p .eq (.cons (.var 4) (.cons (.cst (.str w_when)) .nil))) (.cons (.ret (.lst (.cons (.tup (.cons (.cst (.str w_gate)) (.cons (.var 2) (.cons (.p .ix (.cons (.var 5) (.cons (.cst (.int (0))) .nil))) (.cons (.p .ix (.cons (.var 5) (.cons (.cst (.int (1))) .nil))) .nil))))) .nil))) .nil) .nil) (.cons (.iff (.p .eq (.cons (.var 4) (.cons (.cst (.str w_else)) .nil))) (.cons (.ret (.lst (.cons (.tup (.cons (.cst (.str w_else)) (.cons (.var 2) (.cons (.p .ix (.cons (.var 5) (.cons (.cst (.int (0))) .nil))) (.cons (.p .ix (.cons (.var 5) (.cons (.cst (.int (1))) .nil))) .nil))))) .nil))) .nil) .nil) (.cons (.iff (.p .eq (.cons (.var 4) (.cons (.cst (.str w_late)) .nil))) (.cons (.ret (.lst (.cons (.tup (.cons (.cst (.str w_recall)) (.cons (.var 2) (.cons (.var 3) .nil)))) .nil))) .nil) .nil) (.cons (.iff (.p .eq (.cons (.var 4) (.cons (.cst (.str w_held)) .nil))) (.cons (.ret (.lst (.cons (.tup (.cons (.cst (.str w_recall)) (.cons (.var 2) (.cons (.var 3) .nil)))) (.cons (.tup (.cons (.cst (.str w_else)) (.cons (.var 2) (.cons (.p .ix (.cons (.var 5) (.cons (.cst (.int (0))) .nil))) (.cons (.var 2) .nil))))) .nil)))) .nil) .nil) (.cons (.iff (.p .eq (.cons (.var 4) (.cons (.cst (.str w_before)) .nil))) (.cons (.ret (.lst (.cons (.tup (.cons (.cst (.str w_recall)) (.cons (.var 2) (.cons (.var 3) .nil)))) (.cons (.tup (.cons (.cst (.str w_drop)) (.cons (.var 2) (.cons (.p .ix (.cons (.var 5) (.cons (.cst (.int (0))) .nil))) .nil)))) .nil)))) .nil) .nil) (.cons (.ret (.lst (.cons (.tup (.cons (.cst (.str w_push)) (.cons (.var 2) (.cons (.var 3) (.cons (.p .ix (.cons (.var 0) (.cons (.cst (.int (1))) .nil))) (.cons (.p .ix (.cons (.var 5) (.cons (.cst (.int (0))) .nil))) (.cons (.p .ix (.cons (.var 5) (.cons (.cst (.int (1))) .nil))) .nil))))))) .nil))) .nil))))))))))))⟩
def d_store_line : Df := ⟨3, 3,
  (.cons (.iff (.p .eq (.cons (.p .ix (.cons (.var 0) (.cons (.cst (.int (0))) .nil))) (.cons (.cst (.str w_match)) .nil))) (.cons (.ret (.tup (.cons (.cst (.str w_store)) (.cons (.var 2) (.cons (.p .neg (.cons (.cst (.int (1))) .nil)) (.cons (.cst (.int (0))) .nil)))))) .nil) .nil) (.cons (.ret (.tup (.cons (.cst (.str w_store)) (.cons (.var 2) (.cons (.p .ix (.cons (.var 1) (.cons (.p .ix (.cons (.var 0) (.cons (.cst (.int (1))) .nil))) .nil))) (.cons (.ite (.p .eq (.cons (.p .ix (.cons (.var 0) (.cons (.cst (.int (0))) .nil))) (.cons (.cst (.str w_late)) .nil))) (.cst (.int (1))) (.cst (.int (0)))) .nil)))))) .nil))⟩
def b_executed_1 : Ss := (.cons (.asg (.sub (.var 9) (.var 11)) (.m .get (.var 10) (.cons (.var 12) (.cons (.cst .non) .nil)))) .nil)
def b_executed_2 : Ss := (.cons (.ex (.call ix_do_line (.cons (.var 14) (.cons (.var 9) (.cons (.var 13) (.cons (.var 3) .nil)))))) .nil)
def d_executed : Df := ⟨16, 3,
  (.cons (.asg (.tp [3, 4, 5, 6, 7, 8]) (.var 0)) (.cons (.asg (.nm 9) (.lc (.ran1 (.var 5)) (.nm 15) [15] .nil (.cst .non))) (.cons (.asg (.nm 10) (.p .dct (.cons (.var 2) .nil))) (.cons (.forr (.enu (.var 4)) (.tp [11, 12]) b_executed_1) (.cons (.asg (.nm 13) (.p .lst (.cons (.var 1) .nil))) (.cons (.forr (.seq (.var 7)) (.nm 14) b_executed_2) (.cons (.ret (.tup (.cons (.p .tup (.cons (.var 13) .nil)) (.cons (.p .tup (.cons (.lc (.seq (.var 8)) (.nm 15) [15] .nil (.p .ix (.cons (.var 9) (.cons (.var 15) .nil)))) .nil)) .nil)))) .nil)))))))⟩
def d_do_line : Df := ⟨8, 4,
  (.cons (.par [4, 5] (.cons (.p .ix (.cons (.var 0) (.cons (.cst (.int (0))) .nil))) (.cons (.p .ix (.cons (.var 0) (.cons (.cst (.int (1))) .nil))) .nil))) (.cons (.iff (.p .eq (.cons (.var 4) (.cons (.cst (.str w_put)) .nil))) (.cons (.asg (.sub (.var 1) (.var 5)) (.p .ix (.cons (.var 0) (.cons (.cst (.int (2))) .nil)))) .nil) (.cons (.iff (.p .eq (.cons (.var 4) (.cons (.cst (.str w_copy)) .nil))) (.cons (.asg (.sub (.var 1) (.var 5)) (.p .ix (.cons (.var 1) (.cons (.p .ix (.cons (.var 0) (.cons (.cst (.int (2))) .nil))) .nil)))) .nil) (.cons (.iff (.p .eq (.cons (.var 4) (.cons (.cst (.str w_there)) .nil))) (.cons (.asg (.sub (.var 1) (.var 5)) (.ite (.p .isN (.cons (.p .ix (.cons (.var 1) (.cons (.p .ix (.cons (.var 0) (.cons (.cst (.int (2))) .nil))) .nil))) .nil)) (.cst (.int (0))) (.cst (.int (1))))) .nil) (.cons (.iff (.p .eq (.cons (.var 4) (.cons (.cst (.str w_pair)) .nil))) (.cons (.par [6, 7] (.cons (.p .ix (.cons (.var 1) (.cons (.p .ix (.cons (.var 0) (.cons (.cst (.int (3))) .nil))) .nil))) (.cons (.p .ix (.cons (.var 1) (.cons (.p .ix (.cons (.var 0) (.cons (.cst (.int (4))) .nil))) .nil))) .nil))) (.cons (.asg (.sub (.var 1) (.var 5)) (.ite (.or (.p .isN (.cons (.var 6) .nil)) (.p .isN (.cons (.var 7) .nil))) (.cst .non) (.call ix_paired (.cons (.p .ix (.cons (.var 0) (.cons (.cst (.int (2))) .nil))) (.cons (.var 6) (.cons (.var 7) (.cons (.var 3) .nil))))))) .nil)) (.cons (.iff (.p .eq (.cons (.var 4) (.cons (.cst (.str w_turn)) .nil))) (.cons (.asg (.sub (.var 1) (.var 5)) (.ite (.p .isN (.cons (.p .ix (.cons (.var 1) (.cons (.p .ix (.cons (.var 0) (.cons (.cst (.int (2))) .nil))) .nil))) .nil)) (.cst .non) (.p .ix (.cons (.p .ix (.cons (.var 0) (.cons (.cst (.int (3))) .nil))) (.cons (.p .ix (.cons (.var 1) (.cons (.p .ix (.cons (.var 0) (.cons (.cst (.int (2))) .nil))) .nil))) .nil))))) .nil) (.cons (.iff (.p .eq (.cons (.var 4) (.cons (.cst (.str w_gate)) .nil))) (.cons (.asg (.sub (.var 1) (.var 5)) (.ite (.p .inn (.cons (.p .ix (.cons (.var 1) (.cons (.p .ix (.cons (.var 0) (.cons (.cst (.int (3))) .nil))) .nil))) (.cons (.tup (.cons (.cst .non) (.cons (.cst (.int (0))) .nil))) .nil))) (.cst .non) (.p .ix (.cons (.var 1) (.cons (.p .ix (.cons (.var 0) (.cons (.cst (.int (2))) .nil))) .nil))))) .nil) (.cons (.iff (.p .eq (.cons (.var 4) (.cons (.cst (.str w_else)) .nil))) (.cons (.asg (.sub (.var 1) (.var 5)) (.ite (.p .isN (.cons (.p .ix (.cons (.var 1) (.cons (.p .ix (.cons (.var 0) (.cons (.cst (.int (2))) .nil))) .nil))) .nil)) (.p .ix (.cons (.var 1) (.cons (.p .ix (.cons (.var 0) (.cons (.cst (.int (3))) .nil))) .nil))) (.p .ix (.cons (.var 1) (.cons (.p .ix (.cons (.var 0) (.cons (.cst (.int (2))) .nil))) .nil))))) .nil) (.cons (.ex (.call ix_do_kept (.cons (.var 0) (.cons (.var 1) (.cons (.var 2) (.cons (.var 3) .nil)))))) .nil)) .nil)) .nil)) .nil)) .nil)) .nil)) .nil)) .nil))⟩
def d_do_kept : Df := ⟨6, 4,
  (.cons (.par [4, 5] (.cons (.p .ix (.cons (.var 0) (.cons (.cst (.int (0))) .nil))) (.cons (.p .ix (.cons (.var 0) (.cons (.cst (.int (1))) .nil))) .nil))) (.cons (.iff (.p .eq (.cons (.var 4) (.cons (.cst (.str w_recall)) .nil))) (.cons (.asg (.sub (.var 1) (.var 5)) (.p .ix (.cons (.var 2) (.cons (.p .ix (.cons (.var 0) (.cons (.cst (.int (2))) .nil))) .nil)))) .nil) (.cons (.iff (.p .eq (.cons (.var 4) (.cons (.cst (.str w_drop)) .nil))) (.cons (.asg (.sub (.var 1) (.var 5)) (.ite (.p .isN (.cons (.p .ix (.cons (.var 1) (.cons (.p .ix (.cons (.var 0) (.cons (.cst (.int (2))) .nil))) .nil))) .nil)) (.cst .non) (.p .ix (.cons (.var 1) (.cons (.var 5) .nil))))) .nil) (.cons (.iff (.p .eq (.cons (.var 4) (.cons (.cst (.str w_push)) .nil))) (.cons (.asg (.sub (.var 1) (.var 5)) (.call ix_pushed (.cons (.var 0) (.cons (.var 1) (.cons (.var 2) (.cons (.var 3) .nil)))))) .nil) (.cons (.iff (.and (.p .ge (.cons (.p .ix (.cons (.var 0) (.cons (.cst (.int (2))) .nil))) (.cons (.cst (.int (0))) .nil))) (.or (.p .eq (.cons (.p .ix (.cons (.var 0) (.cons (.cst (.int (3))) .nil))) (.cons (.cst (.int (1))) .nil))) (.p .ntN (.cons (.p .ix (.cons (.var 1) (.cons (.p .ix (.cons (.var 0) (.cons (.cst (.int (2))) .nil))) .nil))) .nil)))) (.cons (.asg (.sub (.var 2) (.var 5)) (.p .ix (.cons (.var 1) (.cons (.p .ix (.cons (.var 0) (.cons (.cst (.int (2))) .nil))) .nil)))) .nil) .nil) .nil)) .nil)) .nil)) .nil))⟩
def b_pushed_1 : Ss := (.cons (.ex (.m .app (.var 4) (.cons (.ite (.p .isN (.cons (.p .ix (.cons (.var 1) (.cons (.var 6) .nil))) .nil)) (.var 5) (.p .add (.cons (.var 5) (.cons (.tup (.cons (.p .ix (.cons (.var 1) (.cons (.var 6) .nil))) .nil)) .nil)))) .nil))) .nil)
def d_pushed : Df := ⟨7, 4,
  (.cons (.asg (.nm 4) (.lst .nil)) (.cons (.forr (.zip (.p .ix (.cons (.var 2) (.cons (.p .ix (.cons (.var 0) (.cons (.cst (.int (2))) .nil))) .nil))) (.p .slF (.cons (.var 0) (.cons (.cst (.int (4))) .nil)))) (.tp [5, 6]) b_pushed_1) (.cons (.iff (.or (.p .eq (.cons (.p .ix (.cons (.var 4) (.cons (.cst (.int (0))) .nil))) (.cons (.tup .nil) .nil))) (.p .eq (.cons (.p .ix (.cons (.var 4) (.cons (.cst (.int (1))) .nil))) (.cons (.tup .nil) .nil)))) (.cons (.asg (.sub (.var 2) (.p .ix (.cons (.var 0) (.cons (.cst (.int (2))) .nil)))) (.tup (.cons (.p .ix (.cons (.var 4) (.cons (.cst (.int (0))) .nil))) (.cons (.p .ix (.cons (.var 4) (.cons (.cst (.int (1))) .nil))) .nil)))) (.cons (.ret (.cst .non)) .nil)) .nil) (.cons (.asg (.sub (.var 2) (.p .ix (.cons (.var 0) (.cons (.cst (.int (2))) .nil)))) (.tup (.cons (.p .slF (.cons (.p .ix (.cons (.var 4) (.cons (.cst (.int (0))) .nil))) (.cons (.cst (.int (1))) .nil))) (.cons (.p .slF (.cons (.p .ix (.cons (.var 4) (.cons (.cst (.int (1))) .nil))) (.cons (.cst (.int (1))) .nil))) .nil)))) (.cons (.ret (.call ix_paired (.cons (.p .ix (.cons (.var 0) (.cons (.cst (.int (3))) .nil))) (.cons (.p .ix (.cons (.p .ix (.cons (.var 4) (.cons (.cst (.int (0))) .nil))) (.cons (.cst (.int (0))) .nil))) (.cons (.p .ix (.cons (.p .ix (.cons (.var 4) (.cons (.cst (.int (1))) .nil))) (.cons (.cst (.int (0))) .nil))) (.cons (.var 3) .nil)))))) .nil)))))⟩
def b_executed_all_1 : Ss := (.cons (.asg (.tp [2, 5]) (.call ix_executed (.cons (.var 0) (.cons (.var 2) (.cons (.var 4) .nil))))) (.cons (.ex (.m .app (.var 3) (.cons (.var 5) .nil))) .nil))
def d_executed_all : Df := ⟨6, 2,
  (.cons (.asg (.nm 2) (.p .ix (.cons (.var 0) (.cons (.cst (.int (3))) .nil)))) (.cons (.asg (.nm 3) (.lst .nil)) (.cons (.forr (.seq (.var 1)) (.nm 4) b_executed_all_1) (.cons (.ret (.p .tup (.cons (.var 3) .nil))) .nil))))⟩
def b_meaning_1 : Ss := (.cons (.ex (.m .app (.var 5) (.cons (.p .tup (.cons (.lc (.seq (.var 3)) (.nm 7) [7] .nil (.call ix_shows (.cons (.var 0) (.cons (.var 4) (.cons (.var 1) (.cons (.var 2) (.cons (.var 7) (.cons (.var 6) .nil)))))))) .nil)) .nil))) .nil)
def d_meaning : Df := ⟨9, 2,
  (.cons (.asg (.nm 2) (.dsp .nil)) (.cons (.asg (.nm 3) (.lc (.seq (.p .ix (.cons (.var 0) (.cons (.cst (.int (2))) .nil)))) (.tp [7, 8]) [7, 8] .nil (.var 7))) (.cons (.asg (.nm 4) (.call ix_form_table (.cons (.var 0) .nil))) (.cons (.asg (.nm 5) (.lst .nil)) (.cons (.forr (.ran1 (.p .len (.cons (.var 1) .nil))) (.nm 6) b_meaning_1) (.cons (.ret (.p .tup (.cons (.var 5) .nil))) .nil))))))⟩
def d_shows : Df := ⟨7, 6,
  (.cons (.iff (.p .inn (.cons (.var 4) (.cons (.p .ix (.cons (.var 0) (.cons (.cst (.int (1))) .nil))) .nil))) (.cons (.ret (.m .get (.p .dct (.cons (.p .ix (.cons (.var 2) (.cons (.var 5) .nil))) .nil)) (.cons (.var 4) (.cons (.cst .non) .nil)))) .nil) .nil) (.cons (.asg (.nm 6) (.tup (.cons (.var 4) (.cons (.var 5) .nil)))) (.cons (.iff (.p .nin (.cons (.var 6) (.cons (.var 3) .nil))) (.cons (.asg (.sub (.var 3) (.var 6)) (.call ix_told (.cons (.var 0) (.cons (.var 1) (.cons (.var 2) (.cons (.var 3) (.cons (.p .ix (.cons (.var 1) (.cons (.var 4) .nil))) (.cons (.var 5) .nil)))))))) .nil) .nil) (.cons (.ret (.p .ix (.cons (.var 3) (.cons (.var 6) .nil)))) .nil))))⟩
def d_told : Df := ⟨8, 6,
  (.cons (.asg (.nm 6) (.p .ix (.cons (.var 4) (.cons (.cst (.int (0))) .nil)))) (.cons (.iff (.p .eq (.cons (.var 6) (.cons (.cst (.str w_late)) .nil))) (.cons (.ret (.ite (.p .eq (.cons (.var 5) (.cons (.cst (.int (0))) .nil))) (.p .ix (.cons (.var 4) (.cons (.cst (.int (2))) .nil))) (.call ix_shows (.cons (.var 0) (.cons (.var 1) (.cons (.var 2) (.cons (.var 3) (.cons (.p .ix (.cons (.var 4) (.cons (.cst (.int (1))) .nil))) (.cons (.p .sub (.cons (.var 5) (.cons (.cst (.int (1))) .nil))) .nil))))))))) .nil) .nil) (.cons (.iff (.p .inn (.cons (.var 6) (.cons (.tup (.cons (.cst (.str w_held)) (.cons (.cst (.str w_before)) .nil))) .nil))) (.cons (.ret (.call ix_remembered (.cons (.var 0) (.cons (.var 1) (.cons (.var 2) (.cons (.var 3) (.cons (.var 4) (.cons (.var 5) .nil)))))))) .nil) .nil) (.cons (.iff (.p .eq (.cons (.var 6) (.cons (.cst (.str w_match)) .nil))) (.cons (.ret (.call ix_matched (.cons (.var 0) (.cons (.var 1) (.cons (.var 2) (.cons (.var 3) (.cons (.var 4) (.cons (.var 5) .nil)))))))) .nil) .nil) (.cons (.ret (.call ix_shown (.cons (.var 4) (.cons (.lc (.seq (.call ix_names_in (.cons (.var 4) .nil))) (.nm 7) [7] .nil (.call ix_shows (.cons (.var 0) (.cons (.var 1) (.cons (.var 2) (.cons (.var 3) (.cons (.var 7) (.cons (.var 5) .nil)))))))) (.cons (.p .ix (.cons (.var 0) (.cons (.cst (.int (0))) .nil))) .nil))))) .nil)))))⟩
def b_remembered_1 : Ss := (.cons (.asg (.nm 7) (.call ix_shows (.cons (.var 0) (.cons (.var 1) (.cons (.var 2) (.cons (.var 3) (.cons (.p .ix (.cons (.var 4) (.cons (.cst (.int (1))) .nil))) (.cons (.var 6) .nil)))))))) (.cons (.iff (.p .ntN (.cons (.var 7) .nil)) (.cons (.ret (.var 7)) .nil) .nil) (.cons (.aug 6 .sub (.cst (.int (1)))) .nil)))
def c_remembered_1 : E := (.p .ge (.cons (.var 6) (.cons (.cst (.int (0))) .nil)))
def d_remembered : Df := ⟨8, 6,
  (.cons (.iff (.and (.p .eq (.cons (.p .ix (.cons (.var 4) (.cons (.cst (.int (0))) .nil))) (.cons (.cst (.str w_before)) .nil))) (.p .isN (.cons (.call ix_shows (.cons (.var 0) (.cons (.var 1) (.cons (.var 2) (.cons (.var 3) (.cons (.p .ix (.cons (.var 4) (.cons (.cst (.int (1))) .nil))) (.cons (.var 5) .nil))))))) .nil))) (.cons (.ret (.cst .non)) .nil) .nil) (.cons (.asg (.nm 6) (.ite (.p .eq (.cons (.p .ix (.cons (.var 4) (.cons (.cst (.int (0))) .nil))) (.cons (.cst (.str w_held)) .nil))) (.var 5) (.p .sub (.cons (.var 5) (.cons (.cst (.int (1))) .nil))))) (.cons (.whl c_remembered_1 b_remembered_1) (.cons (.ret (.p .ix (.cons (.var 4) (.cons (.cst (.int (2))) .nil)))) .nil))))⟩
def b_matched_2 : Ss := (.cons (.asg (.nm 12) (.call ix_shows (.cons (.var 0) (.cons (.var 1) (.cons (.var 2) (.cons (.var 3) (.cons (.var 11) (.cons (.var 9) .nil)))))))) (.cons (.iff (.p .ntN (.cons (.var 12) .nil)) (.cons (.ex (.m .app (.var 10) (.cons (.var 12) .nil))) .nil) .nil) .nil))
def b_matched_1 : Ss := (.cons (.asg (.nm 8) (.p .min2 (.cons (.p .len (.cons (.var 6) .nil)) (.cons (.p .len (.cons (.var 7) .nil)) .nil)))) (.cons (.forr (.seq (.tup (.cons (.tup (.cons (.var 6) (.cons (.p .ix (.cons (.var 4) (.cons (.cst (.int (2))) .nil))) .nil))) (.cons (.tup (.cons (.var 7) (.cons (.p .ix (.cons (.var 4) (.cons (.cst (.int (3))) .nil))) .nil))) .nil)))) (.tp [10, 11]) b_matched_2) .nil))
def d_matched : Df := ⟨14, 6,
  (.cons (.par [6, 7] (.cons (.lst .nil) (.cons (.lst .nil) .nil))) (.cons (.asg (.nm 8) (.cst (.int (0)))) (.cons (.forr (.ran1 (.p .add (.cons (.var 5) (.cons (.cst (.int (1))) .nil)))) (.nm 9) b_matched_1) (.cons (.asg (.nm 13) (.p .min2 (.cons (.p .len (.cons (.var 6) .nil)) (.cons (.p .len (.cons (.var 7) .nil)) .nil)))) (.cons (.ret (.ite (.p .gt (.cons (.var 13) (.cons (.var 8) .nil))) (.call ix_paired (.cons (.p .ix (.cons (.var 4) (.cons (.cst (.int (1))) .nil))) (.cons (.p .ix (.cons (.var 6) (.cons (.p .sub (.cons (.var 13) (.cons (.cst (.int (1))) .nil))) .nil))) (.cons (.p .ix (.cons (.var 7) (.cons (.p .sub (.cons (.var 13) (.cons (.cst (.int (1))) .nil))) .nil))) (.cons (.p .ix (.cons (.var 0) (.cons (.cst (.int (0))) .nil))) .nil))))) (.cst .non))) .nil)))))⟩
def d_history : Df := ⟨8, 3,
  (.cons (.iff (.p .inn (.cons (.var 2) (.cons (.p .ix (.cons (.var 0) (.cons (.cst (.int (1))) .nil))) .nil))) (.cons (.ret (.p .tup (.cons (.lc (.seq (.var 1)) (.nm 4) [4] .nil (.m .get (.p .dct (.cons (.var 4) .nil)) (.cons (.var 2) (.cons (.cst .non) .nil)))) .nil))) .nil) .nil) (.cons (.asg (.nm 3) (.m .idx (.lc (.seq (.p .ix (.cons (.var 0) (.cons (.cst (.int (2))) .nil)))) (.tp [5, 6]) [5, 6] .nil (.var 5)) (.cons (.var 2) .nil))) (.cons (.ret (.p .tup (.cons (.lc (.seq (.call ix_meaning (.cons (.var 0) (.cons (.var 1) .nil)))) (.nm 7) [7] .nil (.p .ix (.cons (.var 7) (.cons (.var 3) .nil)))) .nil))) .nil)))⟩
def b__law_digits_1 : Ss := (.cons (.ex (.m .app (.var 3) (.cons (.p .mod (.cons (.p .int (.cons (.var 2) .nil)) (.cons (.cst (.int (1000003))) .nil))) .nil))) (.cons (.asg (.nm 2) (.p .fdv (.cons (.var 2) (.cons (.cst (.int (1000003))) .nil)))) (.cons (.iff (.p .eq (.cons (.var 2) (.cons (.cst (.int (0))) .nil))) (.cons .brk .nil) .nil) .nil)))
def b__law_digits_2 : Ss := (.cons (.asg (.nm 5) (.p .mod (.cons (.p .int (.cons (.p .mul (.cons (.p .add (.cons (.p .add (.cons (.var 2) (.cons (.p .mul (.cons (.cst (.int (11))) (.cons (.var 4) .nil))) .nil))) (.cons (.cst (.int (3))) .nil))) (.cons (.cst (.int (48271))) .nil))) .nil)) (.cons (.cst (.int (2147483647))) .nil)))) (.cons (.asg (.nm 5) (.p .mod (.cons (.p .int (.cons (.p .add (.cons (.p .add (.cons (.p .mul (.cons (.var 5) (.cons (.cst (.int (69621))) .nil))) (.cons (.p .mul (.cons (.cst (.int (37))) (.cons (.var 4) .nil))) .nil))) (.cons (.cst (.int (5))) .nil))) .nil)) (.cons (.cst (.int (2147483629))) .nil)))) (.cons (.ex (.m .app (.var 3) (.cons (.p .mod (.cons (.p .int (.cons (.p .fdv (.cons (.var 5) (.cons (.cst (.int (5))) .nil))) .nil)) (.cons (.cst (.int (1000003))) .nil))) .nil))) .nil)))
def d__law_digits : Df := ⟨6, 2,
  (.cons (.asg (.nm 2) (.var 0)) (.cons (.iff (.p .lt (.cons (.var 2) (.cons (.cst (.int (0))) .nil))) (.cons (.asg (.nm 2) (.p .sub (.cons (.p .sub (.cons (.cst (.int (0))) (.cons (.cst (.int (1))) .nil))) (.cons (.var 2) .nil)))) .nil) .nil) (.cons (.asg (.nm 3) (.lst .nil)) (.cons (.iff (.p .ge (.cons (.var 2) (.cons (.p .pow (.cons (.cst (.int (10))) (.cons (.cst (.int (18))) .nil))) .nil))) (.cons (.forr (.ran1 (.var 1)) (.nm 4) b__law_digits_1) (.cons (.ret (.var 3)) .nil)) .nil) (.cons (.forr (.ran1 (.var 1)) (.nm 4) b__law_digits_2) (.cons (.ret (.var 3)) .nil))))))⟩
def b__law_box_1 : Ss := (.cons (.asg (.nm 1) (.p .add (.cons (.var 1) (.cons (.call ix__law_digits (.cons (.var 2) (.cons (.cst (.int (6))) .nil))) .nil)))) .nil)
def d__law_box : Df := ⟨3, 1,
  (.cons (.asg (.nm 1) (.lst .nil)) (.cons (.forr (.seq (.var 0)) (.nm 2) b__law_box_1) (.cons (.iff (.p .eq (.cons (.p .len (.cons (.var 1) .nil)) (.cons (.cst (.int (0))) .nil))) (.cons (.asg (.nm 1) (.lst (.cons (.cst (.int (5))) (.cons (.cst (.int (77))) (.cons (.cst (.int (1031))) (.cons (.cst (.int (40009))) (.cons (.cst (.int (3))) (.cons (.cst (.int (900001))) (.cons (.cst (.int (12))) .nil))))))))) .nil) .nil) (.cons (.ret (.dsp (.cons (.cst (.str w_row)) (.cons (.var 1) (.cons (.cst (.str w_at)) (.cons (.cst (.int (0))) .nil)))))) .nil))))⟩
def d__law_take : Df := ⟨4, 2,
  (.cons (.asg (.nm 2) (.p .ix (.cons (.var 0) (.cons (.cst (.str w_at)) .nil)))) (.cons (.asg (.sub (.var 0) (.cst (.str w_at))) (.p .add (.cons (.var 2) (.cons (.cst (.int (1))) .nil)))) (.cons (.asg (.nm 3) (.p .ix (.cons (.p .ix (.cons (.var 0) (.cons (.cst (.str w_row)) .nil))) (.cons (.p .mod (.cons (.p .int (.cons (.var 2) .nil)) (.cons (.p .len (.cons (.p .ix (.cons (.var 0) (.cons (.cst (.str w_row)) .nil))) .nil)) .nil))) .nil)))) (.cons (.ret (.p .mod (.cons (.p .int (.cons (.p .add (.cons (.var 3) (.cons (.p .mul (.cons (.cst (.int (104729))) (.cons (.p .fdv (.cons (.var 2) (.cons (.p .len (.cons (.p .ix (.cons (.var 0) (.cons (.cst (.str w_row)) .nil))) .nil)) .nil))) .nil))) .nil))) .nil)) (.cons (.var 1) .nil)))) .nil))))⟩
def d__law_pick : Df := ⟨2, 2,
  (.cons (.ret (.p .ix (.cons (.var 1) (.cons (.call ix__law_take (.cons (.var 0) (.cons (.p .len (.cons (.var 1) .nil)) .nil))) .nil)))) .nil)⟩
def d__law_event : Df := ⟨3, 2,
  (.cons (.ret (.p .tup (.cons (.lc (.seq (.p .ix (.cons (.var 1) (.cons (.cst (.int (1))) .nil)))) (.nm 2) [2] (.cons (.p .gt (.cons (.call ix__law_take (.cons (.var 0) (.cons (.cst (.int (5))) .nil))) (.cons (.cst (.int (1))) .nil))) .nil) (.tup (.cons (.var 2) (.cons (.call ix__law_take (.cons (.var 0) (.cons (.p .ix (.cons (.var 1) (.cons (.cst (.int (0))) .nil))) .nil))) .nil)))) .nil))) .nil)⟩
def d__law_rows : Df := ⟨4, 3,
  (.cons (.ret (.p .tup (.cons (.lc (.ran1 (.var 2)) (.nm 3) [3] .nil (.call ix__law_event (.cons (.var 0) (.cons (.var 1) .nil)))) .nil))) .nil)⟩
def d__law_paired : Df := ⟨4, 4,
  (.cons (.iff (.p .eq (.cons (.var 0) (.cons (.cst (.str w_add)) .nil))) (.cons (.ret (.p .mod (.cons (.p .int (.cons (.p .add (.cons (.var 1) (.cons (.var 2) .nil))) .nil)) (.cons (.var 3) .nil)))) .nil) .nil) (.cons (.iff (.p .eq (.cons (.var 0) (.cons (.cst (.str w_times)) .nil))) (.cons (.ret (.p .mod (.cons (.p .int (.cons (.p .mul (.cons (.var 1) (.cons (.var 2) .nil))) .nil)) (.cons (.var 3) .nil)))) .nil) .nil) (.cons (.iff (.p .inn (.cons (.var 0) (.cons (.tup (.cons (.cst (.str w_least)) (.cons (.cst (.str w_most)) .nil))) .nil))) (.cons (.ret (.ite (.p .eq (.cons (.var 0) (.cons (.cst (.str w_least)) .nil))) (.p .min2 (.cons (.var 1) (.cons (.var 2) .nil))) (.p .max2 (.cons (.var 1) (.cons (.var 2) .nil))))) .nil) .nil) (.cons (.ret (.ite (.p .eq (.cons (.var 0) (.cons (.cst (.str w_alike)) .nil))) (.p .int (.cons (.p .eq (.cons (.var 1) (.cons (.var 2) .nil))) .nil)) (.p .int (.cons (.p .lt (.cons (.var 1) (.cons (.var 2) .nil))) .nil)))) .nil))))⟩
def t_law_1_1 : S := (.par [12, 25] (.cons (.p .ix (.cons (.var 9) (.cons (.var 11) .nil))) (.cons (.p .ix (.cons (.var 10) (.cons (.var 11) .nil))) .nil)))
def t_law_1_2 : S := (.ex (.m .app (.var 14) (.cons (.ite (.and (.p .ntN (.cons (.var 12) .nil)) (.and (.p .ne (.cons (.var 12) (.cons (.cst (.int (0))) .nil))) (.p .eq (.cons (.var 18) (.cons (.cst (.int (0))) .nil))))) (.cst (.int (1))) (.cst .non)) .nil)))
def t_law_1_3 : S := (.iff (.p .ntN (.cons (.var 12) .nil)) (.cons (.par [18, 19] (.cons (.var 12) (.cons (.var 12) .nil))) (.cons (.ex (.m .app (.var 23) (.cons (.var 12) .nil))) .nil)) .nil)
def t_law_1_4 : S := (.iff (.p .ntN (.cons (.var 25) .nil)) (.cons (.ex (.m .app (.var 24) (.cons (.var 25) .nil))) .nil) .nil)
def t_law_1_5 : S := (.iff (.and (.p .ntN (.cons (.var 25) .nil)) (.p .ne (.cons (.var 25) (.cons (.cst (.int (0))) .nil)))) (.cons (.asg (.nm 20) (.var 19)) .nil) .nil)
def t_law_1_6 : S := (.ex (.m .app (.var 15) (.cons (.var 20) .nil)))
def t_law_1_7 : S := (.iff (.and (.p .gt (.cons (.p .len (.cons (.var 23) .nil)) (.cons (.cst (.int (0))) .nil))) (.p .gt (.cons (.p .len (.cons (.var 24) .nil)) (.cons (.cst (.int (0))) .nil)))) (.cons (.ex (.m .app (.var 16) (.cons (.call ix__law_paired (.cons (.var 3) (.cons (.m .popI (.var 23) (.cons (.cst (.int (0))) .nil)) (.cons (.m .popI (.var 24) (.cons (.cst (.int (0))) .nil)) (.cons (.var 2) .nil))))) .nil))) .nil) (.cons (.ex (.m .app (.var 16) (.cons (.cst .non) .nil))) .nil))
def t_law_1_8 : S := (.iff (.and (.p .ntN (.cons (.var 12) .nil)) (.p .ntN (.cons (.var 25) .nil))) (.cons (.asg (.nm 22) (.cst (.bl false))) .nil) .nil)
def t_law_1_9 : S := (.iff (.or (.and (.p .ntN (.cons (.var 12) .nil)) (.p .ne (.cons (.var 21) (.cons (.cst (.str w_x)) .nil)))) (.and (.p .ntN (.cons (.var 25) .nil)) (.p .ne (.cons (.var 21) (.cons (.cst (.str w_y)) .nil))))) (.cons (.asg (.nm 22) (.cst (.bl false))) .nil) .nil)
def t_law_1_10 : S := (.iff (.or (.p .ntN (.cons (.var 12) .nil)) (.p .ntN (.cons (.var 25) .nil))) (.cons (.asg (.nm 21) (.ite (.p .eq (.cons (.var 21) (.cons (.cst (.str w_x)) .nil))) (.cst (.str w_y)) (.cst (.str w_x)))) .nil) .nil)
def t_law_1_11 : S := (.ex (.m .app (.var 17) (.cons (.p .int (.cons (.var 22) .nil)) .nil)))
def b_law_1 : Ss := (.cons t_law_1_1 (.cons t_law_1_2 (.cons t_law_1_3 (.cons t_law_1_4 (.cons t_law_1_5 (.cons t_law_1_6 (.cons t_law_1_7 (.cons t_law_1_8 (.cons t_law_1_9 (.cons t_law_1_10 (.cons t_law_1_11 .nil)))))))))))
def t_law_2_1 : S := (.iff (.p .ne (.cons (.call ix_history (.cons (.p .ix (.cons (.var 5) (.cons (.cst (.int (6))) .nil))) (.cons (.var 8) (.cons (.p .ix (.cons (.var 26) (.cons (.var 11) .nil))) .nil)))) (.cons (.p .tup (.cons (.lc (.ran1 (.p .len (.cons (.var 9) .nil))) (.nm 32) [32] .nil (.ite (.p .gt (.cons (.var 32) (.cons (.var 11) .nil))) (.p .ix (.cons (.var 9) (.cons (.p .sub (.cons (.p .sub (.cons (.var 32) (.cons (.var 11) .nil))) (.cons (.cst (.int (1))) .nil))) .nil))) (.cst .non))) .nil)) .nil))) (.cons (.ret (.cst (.bl false))) .nil) .nil)
def b_law_2 : Ss := (.cons t_law_2_1 .nil)
def t_law_3_1 : S := (.asg (.nm 27) (.ite (.p .eq (.cons (.p .len (.cons (.p .ix (.cons (.var 6) (.cons (.cst (.int (1))) .nil))) .nil)) (.cons (.cst (.int (2))) .nil))) (.var 7) (.var 8)))
def t_law_3_2 : S := (.iff (.p .ne (.cons (.call ix_executed_all (.cons (.call ix_compiled (.cons (.var 6) .nil)) (.cons (.var 27) .nil))) (.cons (.call ix_meaning (.cons (.var 6) (.cons (.var 27) .nil))) .nil))) (.cons (.ret (.cst (.bl false))) .nil) .nil)
def b_law_3 : Ss := (.cons t_law_3_1 (.cons t_law_3_2 .nil))
def s_law_1 : S := (.asg (.nm 1) (.call ix__law_box (.cons (.var 0) .nil)))
def s_law_2 : S := (.asg (.nm 2) (.p .add (.cons (.cst (.int (2))) (.cons (.call ix__law_take (.cons (.var 1) (.cons (.cst (.int (4))) .nil))) .nil))))
def s_law_3 : S := (.asg (.nm 3) (.call ix__law_pick (.cons (.var 1) (.cons (.lst (.cons (.cst (.str w_add)) (.cons (.cst (.str w_times)) (.cons (.cst (.str w_least)) (.cons (.cst (.str w_most)) (.cons (.cst (.str w_alike)) (.cons (.cst (.str w_less)) .nil))))))) .nil))))
def s_law_4 : S := (.asg (.nm 4) (.p .add (.cons (.cst (.int (1))) (.cons (.call ix__law_take (.cons (.var 1) (.cons (.cst (.int (20))) .nil))) .nil))))
def s_law_5 : S := (.asg (.nm 5) (.lst (.cons (.call ix_counter (.cons (.var 2) .nil)) (.cons (.call ix_toggle (.cons (.var 2) .nil)) (.cons (.call ix_edges (.cons (.var 2) .nil)) (.cons (.call ix_latch (.cons (.var 2) .nil)) (.cons (.call ix_sums (.cons (.var 2) .nil)) (.cons (.call ix_pairing (.cons (.var 2) (.cons (.var 3) .nil))) (.cons (.call ix_delay_line (.cons (.var 2) (.cons (.var 4) .nil))) (.cons (.call ix_alternation (.cons (.var 2) .nil)) .nil))))))))))
def s_law_6 : S := (.iff (.or (.p .any (.cons (.lc (.seq (.var 5)) (.nm 6) [6] .nil (.or (.p .ntN (.cons (.call ix_net_fault (.cons (.var 6) .nil)) .nil)) (.p .ne (.cons (.p .ix (.cons (.var 6) (.cons (.cst (.int (0))) .nil))) (.cons (.var 2) .nil))))) .nil)) (.p .ne (.cons (.lc (.seq (.var 5)) (.nm 6) [6] .nil (.p .ix (.cons (.var 6) (.cons (.cst (.int (1))) .nil)))) (.cons (.lst (.cons (.tup (.cons (.cst (.str w_x)) .nil)) (.cons (.tup (.cons (.cst (.str w_x)) .nil)) (.cons (.tup (.cons (.cst (.str w_x)) .nil)) (.cons (.tup (.cons (.cst (.str w_x)) (.cons (.cst (.str w_y)) .nil))) (.cons (.tup (.cons (.cst (.str w_x)) .nil)) (.cons (.tup (.cons (.cst (.str w_x)) (.cons (.cst (.str w_y)) .nil))) (.cons (.tup (.cons (.cst (.str w_x)) .nil)) (.cons (.tup (.cons (.cst (.str w_x)) (.cons (.cst (.str w_y)) .nil))) .nil))))))))) .nil)))) (.cons (.ret (.cst (.bl false))) .nil) .nil)
def s_law_7 : S := (.asg (.nm 7) (.call ix__law_rows (.cons (.var 1) (.cons (.p .ix (.cons (.var 5) (.cons (.cst (.int (3))) .nil))) (.cons (.call ix__law_take (.cons (.var 1) (.cons (.cst (.int (21))) .nil))) .nil)))))
def s_law_8 : S := (.asg (.nm 8) (.p .tup (.cons (.lc (.seq (.var 7)) (.nm 28) [28] .nil (.p .tup (.cons (.lc (.seq (.var 28)) (.nm 29) [29] (.cons (.p .eq (.cons (.p .ix (.cons (.var 29) (.cons (.cst (.int (0))) .nil))) (.cons (.cst (.str w_x)) .nil))) .nil) (.var 29)) .nil))) .nil)))
def s_law_9 : S := (.asg (.tp [9, 10]) (.tup (.cons (.lc (.seq (.var 7)) (.nm 28) [28] .nil (.m .get (.p .dct (.cons (.var 28) .nil)) (.cons (.cst (.str w_x)) (.cons (.cst .non) .nil)))) (.cons (.lc (.seq (.var 7)) (.nm 28) [28] .nil (.m .get (.p .dct (.cons (.var 28) .nil)) (.cons (.cst (.str w_y)) (.cons (.cst .non) .nil)))) .nil))))
def s_law_10 : S := (.asg (.nm 13) (.lc (.ran1 (.p .len (.cons (.var 9) .nil))) (.nm 11) [11] .nil (.p .len (.cons (.lc (.seq (.p .slT (.cons (.var 9) (.cons (.p .add (.cons (.var 11) (.cons (.cst (.int (1))) .nil))) .nil)))) (.nm 12) [12] (.cons (.p .ntN (.cons (.var 12) .nil)) .nil) (.var 12)) .nil))))
def s_law_11 : S := (.iff (.or (.p .ne (.cons (.call ix_history (.cons (.p .ix (.cons (.var 5) (.cons (.cst (.int (0))) .nil))) (.cons (.var 8) (.cons (.cst (.str w_total)) .nil)))) (.cons (.p .tup (.cons (.lc (.seq (.var 13)) (.nm 30) [30] .nil (.p .mod (.cons (.p .int (.cons (.var 30) .nil)) (.cons (.var 2) .nil)))) .nil)) .nil))) (.p .ne (.cons (.call ix_history (.cons (.p .ix (.cons (.var 5) (.cons (.cst (.int (1))) .nil))) (.cons (.var 8) (.cons (.cst (.str w_on)) .nil)))) (.cons (.p .tup (.cons (.lc (.seq (.var 13)) (.nm 30) [30] .nil (.p .mod (.cons (.p .int (.cons (.var 30) .nil)) (.cons (.cst (.int (2))) .nil)))) .nil)) .nil)))) (.cons (.ret (.cst (.bl false))) .nil) .nil)
def s_law_12 : S := (.asg (.tp [14, 15, 16, 17]) (.tup (.cons (.lst .nil) (.cons (.lst .nil) (.cons (.lst .nil) (.cons (.lst .nil) .nil))))))
def s_law_13 : S := (.asg (.tp [18, 19, 20, 21, 22]) (.tup (.cons (.cst (.int (0))) (.cons (.cst (.int (0))) (.cons (.cst (.int (0))) (.cons (.cst (.str w_x)) (.cons (.cst (.bl true)) .nil)))))))
def s_law_14 : S := (.par [23, 24] (.cons (.lst .nil) (.cons (.lst .nil) .nil)))
def s_law_15 : S := (.forr (.ran1 (.p .len (.cons (.var 7) .nil))) (.nm 11) b_law_1)
def s_law_16 : S := (.iff (.or (.p .ne (.cons (.call ix_history (.cons (.p .ix (.cons (.var 5) (.cons (.cst (.int (2))) .nil))) (.cons (.var 8) (.cons (.cst (.str w_rise)) .nil)))) (.cons (.p .tup (.cons (.var 14) .nil)) .nil))) (.or (.p .ne (.cons (.call ix_history (.cons (.p .ix (.cons (.var 5) (.cons (.cst (.int (3))) .nil))) (.cons (.var 7) (.cons (.cst (.str w_out)) .nil)))) (.cons (.p .tup (.cons (.var 15) .nil)) .nil))) (.or (.p .ne (.cons (.call ix_history (.cons (.p .ix (.cons (.var 5) (.cons (.cst (.int (5))) .nil))) (.cons (.var 7) (.cons (.cst (.str w_both)) .nil)))) (.cons (.p .tup (.cons (.var 16) .nil)) .nil))) (.p .ne (.cons (.call ix_history (.cons (.p .ix (.cons (.var 5) (.cons (.cst (.int (7))) .nil))) (.cons (.var 7) (.cons (.cst (.str w_ok)) .nil)))) (.cons (.p .tup (.cons (.var 17) .nil)) .nil)))))) (.cons (.ret (.cst (.bl false))) .nil) .nil)
def s_law_17 : S := (.iff (.p .ne (.cons (.call ix_history (.cons (.p .ix (.cons (.var 5) (.cons (.cst (.int (4))) .nil))) (.cons (.var 8) (.cons (.cst (.str w_total)) .nil)))) (.cons (.p .tup (.cons (.lc (.ran1 (.p .len (.cons (.var 9) .nil))) (.nm 11) [11] .nil (.p .mod (.cons (.p .int (.cons (.p .sum (.cons (.lc (.seq (.p .slT (.cons (.var 9) (.cons (.p .add (.cons (.var 11) (.cons (.cst (.int (1))) .nil))) .nil)))) (.nm 12) [12] (.cons (.p .ntN (.cons (.var 12) .nil)) .nil) (.var 12)) .nil)) .nil)) (.cons (.var 2) .nil)))) .nil)) .nil))) (.cons (.ret (.cst (.bl false))) .nil) .nil)
def s_law_18 : S := (.asg (.nm 26) (.p .slT (.cons (.cst (.str w_abcdefghijklmnopqrstuvwyz)) (.cons (.var 4) .nil))))
def s_law_19 : S := (.iff (.p .ne (.cons (.lc (.seq (.p .ix (.cons (.p .ix (.cons (.var 5) (.cons (.cst (.int (6))) .nil))) (.cons (.cst (.int (2))) .nil)))) (.nm 31) [31] .nil (.p .ix (.cons (.var 31) (.cons (.cst (.int (0))) .nil)))) (.cons (.p .srt (.cons (.var 26) .nil)) .nil))) (.cons (.ret (.cst (.bl false))) .nil) .nil)
def s_law_20 : S := (.forr (.ran1 (.var 4)) (.nm 11) b_law_2)
def s_law_21 : S := (.forr (.seq (.var 5)) (.nm 6) b_law_3)
def s_law_22 : S := (.ret (.and (.p .isN (.cons (.call ix_net_of (.cons (.cst (.int (2))) (.cons (.tup (.cons (.cst (.str w_x)) .nil)) (.cons (.dsp (.cons (.cst (.str w_a)) (.cons (.tup (.cons (.cst (.str w_copy)) (.cons (.cst (.str w_b)) .nil))) .nil))) .nil)))) .nil)) (.p .eq (.cons (.call ix_net_of (.cons (.cst (.int (2))) (.cons (.tup (.cons (.cst (.str w_y)) (.cons (.cst (.str w_x)) .nil))) (.cons (.dsp (.cons (.cst (.str w_b)) (.cons (.tup (.cons (.cst (.str w_copy)) (.cons (.cst (.str w_x)) .nil))) (.cons (.cst (.str w_a)) (.cons (.tup (.cons (.cst (.str w_worth)) (.cons (.cst (.int (1))) .nil))) .nil))))) .nil)))) (.cons (.tup (.cons (.cst (.int (2))) (.cons (.tup (.cons (.cst (.str w_x)) (.cons (.cst (.str w_y)) .nil))) (.cons (.tup (.cons (.tup (.cons (.cst (.str w_a)) (.cons (.tup (.cons (.cst (.str w_worth)) (.cons (.cst (.int (1))) .nil))) .nil))) (.cons (.tup (.cons (.cst (.str w_b)) (.cons (.tup (.cons (.cst (.str w_copy)) (.cons (.cst (.str w_x)) .nil))) .nil))) .nil))) .nil)))) .nil)))))
def d_law : Df := ⟨33, 1,
  (.cons s_law_1 (.cons s_law_2 (.cons s_law_3 (.cons s_law_4 (.cons s_law_5 (.cons s_law_6 (.cons s_law_7 (.cons s_law_8 (.cons s_law_9 (.cons s_law_10 (.cons s_law_11 (.cons s_law_12 (.cons s_law_13 (.cons s_law_14 (.cons s_law_15 (.cons s_law_16 (.cons s_law_17 (.cons s_law_18 (.cons s_law_19 (.cons s_law_20 (.cons s_law_21 (.cons s_law_22 .nil))))))))))))))))))))))⟩
def defs : List Df := [d_is_integer, d_is_between, d_is_row, d_is_ascending, d_is_name, d_are_names, d_is_worth, d_is_worth_or_none, d_is_form, d_is_table, d_is_pairing, d_names_in, d_paired, d_shown, d_net_fault, d_are_cells, d_cell_names, d_form_table, d_now_names, d_order_of, d_reached_from, d_is_sound, d_net_of, d_counter, d_toggle, d_edges, d_latch, d_sums, d_pairing, d_delay_line, d_alternation, d_first_kept, d_compiled, d_cell_lines, d_store_line, d_executed, d_do_line, d_do_kept, d_pushed, d_executed_all, d_meaning, d_shows, d_told, d_remembered, d_matched, d_history, d__law_digits, d__law_box, d__law_take, d__law_pick, d__law_event, d__law_rows, d__law_paired, d_law]
theorem fn_is_integer (k : Nat) (ds : List D) (st : St) : fun_ defs (k + 1) ix_is_integer ds st = gcR st (runDf (fun_ defs k) d_is_integer ds st) := rfl
theorem fn_is_between (k : Nat) (ds : List D) (st : St) : fun_ defs (k + 1) ix_is_between ds st = gcR st (runDf (fun_ defs k) d_is_between ds st) := rfl
theorem fn_is_row (k : Nat) (ds : List D) (st : St) : fun_ defs (k + 1) ix_is_row ds st = gcR st (runDf (fun_ defs k) d_is_row ds st) := rfl
theorem fn_is_ascending (k : Nat) (ds : List D) (st : St) : fun_ defs (k + 1) ix_is_ascending ds st = gcR st (runDf (fun_ defs k) d_is_ascending ds st) := rfl
theorem fn_is_name (k : Nat) (ds : List D) (st : St) : fun_ defs (k + 1) ix_is_name ds st = gcR st (runDf (fun_ defs k) d_is_name ds st) := rfl
theorem fn_are_names (k : Nat) (ds : List D) (st : St) : fun_ defs (k + 1) ix_are_names ds st = gcR st (runDf (fun_ defs k) d_are_names ds st) := rfl
theorem fn_is_worth (k : Nat) (ds : List D) (st : St) : fun_ defs (k + 1) ix_is_worth ds st = gcR st (runDf (fun_ defs k) d_is_worth ds st) := rfl
theorem fn_is_worth_or_none (k : Nat) (ds : List D) (st : St) : fun_ defs (k + 1) ix_is_worth_or_none ds st = gcR st (runDf (fun_ defs k) d_is_worth_or_none ds st) := rfl
theorem fn_is_form (k : Nat) (ds : List D) (st : St) : fun_ defs (k + 1) ix_is_form ds st = gcR st (runDf (fun_ defs k) d_is_form ds st) := rfl
theorem fn_is_table (k : Nat) (ds : List D) (st : St) : fun_ defs (k + 1) ix_is_table ds st = gcR st (runDf (fun_ defs k) d_is_table ds st) := rfl
theorem fn_is_pairing (k : Nat) (ds : List D) (st : St) : fun_ defs (k + 1) ix_is_pairing ds st = gcR st (runDf (fun_ defs k) d_is_pairing ds st) := rfl
theorem fn_names_in (k : Nat) (ds : List D) (st : St) : fun_ defs (k + 1) ix_names_in ds st = gcR st (runDf (fun_ defs k) d_names_in ds st) := rfl
theorem fn_paired (k : Nat) (ds : List D) (st : St) : fun_ defs (k + 1) ix_paired ds st = gcR st (runDf (fun_ defs k) d_paired ds st) := rfl
theorem fn_shown (k : Nat) (ds : List D) (st : St) : fun_ defs (k + 1) ix_shown ds st = gcR st (runDf (fun_ defs k) d_shown ds st) := rfl
theorem fn_net_fault (k : Nat) (ds : List D) (st : St) : fun_ defs (k + 1) ix_net_fault ds st = gcR st (runDf (fun_ defs k) d_net_fault ds st) := rfl
theorem fn_are_cells (k : Nat) (ds : List D) (st : St) : fun_ defs (k + 1) ix_are_cells ds st = gcR st (runDf (fun_ defs k) d_are_cells ds st) := rfl
theorem fn_cell_names (k : Nat) (ds : List D) (st : St) : fun_ defs (k + 1) ix_cell_names ds st = gcR st (runDf (fun_ defs k) d_cell_names ds st) := rfl
theorem fn_form_table (k : Nat) (ds : List D) (st : St) : fun_ defs (k + 1) ix_form_table ds st = gcR st (runDf (fun_ defs k) d_form_table ds st) := rfl
theorem fn_now_names (k : Nat) (ds : List D) (st : St) : fun_ defs (k + 1) ix_now_names ds st = gcR st (runDf (fun_ defs k) d_now_names ds st) := rfl
theorem fn_order_of (k : Nat) (ds : List D) (st : St) : fun_ defs (k + 1) ix_order_of ds st = gcR st (runDf (fun_ defs k) d_order_of ds st) := rfl
theorem fn_reached_from (k : Nat) (ds : List D) (st : St) : fun_ defs (k + 1) ix_reached_from ds st = gcR st (runDf (fun_ defs k) d_reached_from ds st) := rfl
theorem fn_is_sound (k : Nat) (ds : List D) (st : St) : fun_ defs (k + 1) ix_is_sound ds st = gcR st (runDf (fun_ defs k) d_is_sound ds st) := rfl
theorem fn_net_of (k : Nat) (ds : List D) (st : St) : fun_ defs (k + 1) ix_net_of ds st = gcR st (runDf (fun_ defs k) d_net_of ds st) := rfl
theorem fn_counter (k : Nat) (ds : List D) (st : St) : fun_ defs (k + 1) ix_counter ds st = gcR st (runDf (fun_ defs k) d_counter ds st) := rfl
theorem fn_toggle (k : Nat) (ds : List D) (st : St) : fun_ defs (k + 1) ix_toggle ds st = gcR st (runDf (fun_ defs k) d_toggle ds st) := rfl
theorem fn_edges (k : Nat) (ds : List D) (st : St) : fun_ defs (k + 1) ix_edges ds st = gcR st (runDf (fun_ defs k) d_edges ds st) := rfl
theorem fn_latch (k : Nat) (ds : List D) (st : St) : fun_ defs (k + 1) ix_latch ds st = gcR st (runDf (fun_ defs k) d_latch ds st) := rfl
theorem fn_sums (k : Nat) (ds : List D) (st : St) : fun_ defs (k + 1) ix_sums ds st = gcR st (runDf (fun_ defs k) d_sums ds st) := rfl
theorem fn_pairing (k : Nat) (ds : List D) (st : St) : fun_ defs (k + 1) ix_pairing ds st = gcR st (runDf (fun_ defs k) d_pairing ds st) := rfl
theorem fn_delay_line (k : Nat) (ds : List D) (st : St) : fun_ defs (k + 1) ix_delay_line ds st = gcR st (runDf (fun_ defs k) d_delay_line ds st) := rfl
theorem fn_alternation (k : Nat) (ds : List D) (st : St) : fun_ defs (k + 1) ix_alternation ds st = gcR st (runDf (fun_ defs k) d_alternation ds st) := rfl
theorem fn_first_kept (k : Nat) (ds : List D) (st : St) : fun_ defs (k + 1) ix_first_kept ds st = gcR st (runDf (fun_ defs k) d_first_kept ds st) := rfl
theorem fn_compiled (k : Nat) (ds : List D) (st : St) : fun_ defs (k + 1) ix_compiled ds st = gcR st (runDf (fun_ defs k) d_compiled ds st) := rfl
theorem fn_cell_lines (k : Nat) (ds : List D) (st : St) : fun_ defs (k + 1) ix_cell_lines ds st = gcR st (runDf (fun_ defs k) d_cell_lines ds st) := rfl
theorem fn_store_line (k : Nat) (ds : List D) (st : St) : fun_ defs (k + 1) ix_store_line ds st = gcR st (runDf (fun_ defs k) d_store_line ds st) := rfl
theorem fn_executed (k : Nat) (ds : List D) (st : St) : fun_ defs (k + 1) ix_executed ds st = gcR st (runDf (fun_ defs k) d_executed ds st) := rfl
theorem fn_do_line (k : Nat) (ds : List D) (st : St) : fun_ defs (k + 1) ix_do_line ds st = gcR st (runDf (fun_ defs k) d_do_line ds st) := rfl
theorem fn_do_kept (k : Nat) (ds : List D) (st : St) : fun_ defs (k + 1) ix_do_kept ds st = gcR st (runDf (fun_ defs k) d_do_kept ds st) := rfl
theorem fn_pushed (k : Nat) (ds : List D) (st : St) : fun_ defs (k + 1) ix_pushed ds st = gcR st (runDf (fun_ defs k) d_pushed ds st) := rfl
theorem fn_executed_all (k : Nat) (ds : List D) (st : St) : fun_ defs (k + 1) ix_executed_all ds st = gcR st (runDf (fun_ defs k) d_executed_all ds st) := rfl
theorem fn_meaning (k : Nat) (ds : List D) (st : St) : fun_ defs (k + 1) ix_meaning ds st = gcR st (runDf (fun_ defs k) d_meaning ds st) := rfl
theorem fn_shows (k : Nat) (ds : List D) (st : St) : fun_ defs (k + 1) ix_shows ds st = gcR st (runDf (fun_ defs k) d_shows ds st) := rfl
theorem fn_told (k : Nat) (ds : List D) (st : St) : fun_ defs (k + 1) ix_told ds st = gcR st (runDf (fun_ defs k) d_told ds st) := rfl
theorem fn_remembered (k : Nat) (ds : List D) (st : St) : fun_ defs (k + 1) ix_remembered ds st = gcR st (runDf (fun_ defs k) d_remembered ds st) := rfl
theorem fn_matched (k : Nat) (ds : List D) (st : St) : fun_ defs (k + 1) ix_matched ds st = gcR st (runDf (fun_ defs k) d_matched ds st) := rfl
theorem fn_history (k : Nat) (ds : List D) (st : St) : fun_ defs (k + 1) ix_history ds st = gcR st (runDf (fun_ defs k) d_history ds st) := rfl
theorem fn__law_digits (k : Nat) (ds : List D) (st : St) : fun_ defs (k + 1) ix__law_digits ds st = gcR st (runDf (fun_ defs k) d__law_digits ds st) := rfl
theorem fn__law_box (k : Nat) (ds : List D) (st : St) : fun_ defs (k + 1) ix__law_box ds st = gcR st (runDf (fun_ defs k) d__law_box ds st) := rfl
theorem fn__law_take (k : Nat) (ds : List D) (st : St) : fun_ defs (k + 1) ix__law_take ds st = gcR st (runDf (fun_ defs k) d__law_take ds st) := rfl
theorem fn__law_pick (k : Nat) (ds : List D) (st : St) : fun_ defs (k + 1) ix__law_pick ds st = gcR st (runDf (fun_ defs k) d__law_pick ds st) := rfl
theorem fn__law_event (k : Nat) (ds : List D) (st : St) : fun_ defs (k + 1) ix__law_event ds st = gcR st (runDf (fun_ defs k) d__law_event ds st) := rfl
theorem fn__law_rows (k : Nat) (ds : List D) (st : St) : fun_ defs (k + 1) ix__law_rows ds st = gcR st (runDf (fun_ defs k) d__law_rows ds st) := rfl
theorem fn__law_paired (k : Nat) (ds : List D) (st : St) : fun_ defs (k + 1) ix__law_paired ds st = gcR st (runDf (fun_ defs k) d__law_paired ds st) := rfl
theorem fn_law (k : Nat) (ds : List D) (st : St) : fun_ defs (k + 1) ix_law ds st = gcR st (runDf (fun_ defs k) d_law ds st) := rfl
end B
end
section
/-! Q1: nets as plain data, and what stands for them in M. -/
namespace PM
@[simp] theorem okTx_nil : okTx [] = true := (rfl)
@[simp] theorem okTx_cons (c : Nat) (s : Tx) : okTx (c :: s) = (decide (c < 1114112) && okTx s) := (rfl)
end PM
namespace CM
open PM B
inductive PW where
  | add | times | least | most | alike | less
  deriving DecidableEq, Repr
def PW.tx : PW → Tx
  | .add => w_add | .times => w_times | .least => w_least | .most => w_most | .alike => w_alike | .less => w_less
@[simp] theorem PW.ok (w : PW) : okTx w.tx = true := by cases w <;> decide
@[simp] theorem PW.ne_worth (w : PW) : (w.tx = [119, 111, 114, 116, 104]) = False := by cases w <;> decide
@[simp] theorem PW.ne2_worth (w : PW) : ([119, 111, 114, 116, 104] = w.tx) = False := by cases w <;> decide
@[simp] theorem PW.ne_copy (w : PW) : (w.tx = [99, 111, 112, 121]) = False := by cases w <;> decide
@[simp] theorem PW.ne2_copy (w : PW) : ([99, 111, 112, 121] = w.tx) = False := by cases w <;> decide
@[simp] theorem PW.ne_there (w : PW) : (w.tx = [116, 104, 101, 114, 101]) = False := by cases w <;> decide
@[simp] theorem PW.ne2_there (w : PW) : ([116, 104, 101, 114, 101] = w.tx) = False := by cases w <;> decide
@[simp] theorem PW.ne_turn (w : PW) : (w.tx = [116, 117, 114, 110]) = False := by cases w <;> decide
@[simp] theorem PW.ne2_turn (w : PW) : ([116, 117, 114, 110] = w.tx) = False := by cases w <;> decide
@[simp] theorem PW.ne_else (w : PW) : (w.tx = [101, 108, 115, 101]) = False := by cases w <;> decide
@[simp] theorem PW.ne2_else (w : PW) : ([101, 108, 115, 101] = w.tx) = False := by cases w <;> decide
@[simp] theorem PW.ne_when (w : PW) : (w.tx = [119, 104, 101, 110]) = False := by cases w <;> decide
@[simp] theorem PW.ne2_when (w : PW) : ([119, 104, 101, 110] = w.tx) = False := by cases w <;> decide
@[simp] theorem PW.ne_held (w : PW) : (w.tx = [104, 101, 108, 100]) = False := by cases w <;> decide
@[simp] theorem PW.ne2_held (w : PW) : ([104, 101, 108, 100] = w.tx) = False := by cases w <;> decide
@[simp] theorem PW.ne_before (w : PW) : (w.tx = [98, 101, 102, 111, 114, 101]) = False := by cases w <;> decide
@[simp] theorem PW.ne2_before (w : PW) : ([98, 101, 102, 111, 114, 101] = w.tx) = False := by cases w <;> decide
@[simp] theorem PW.ne_late (w : PW) : (w.tx = [108, 97, 116, 101]) = False := by cases w <;> decide
@[simp] theorem PW.ne2_late (w : PW) : ([108, 97, 116, 101] = w.tx) = False := by cases w <;> decide
@[simp] theorem PW.ne_match (w : PW) : (w.tx = [109, 97, 116, 99, 104]) = False := by cases w <;> decide
@[simp] theorem PW.ne2_match (w : PW) : ([109, 97, 116, 99, 104] = w.tx) = False := by cases w <;> decide
inductive Fo where
  | worth (v : Int) | copy (a : Tx) | there (a : Tx) | pair (w : PW) (a b : Tx) | turn (a : Tx) (row : List Int) | when (a b : Tx) | els (a b : Tx)
  | held (a : Tx) (v : Int) | before (a : Tx) (v : Int) | late (a : Tx) (v : Option Int) | mtch (w : PW) (a b : Tx)
  deriving DecidableEq, Repr
def oD : Option Int → D
  | none => .non
  | some v => .int v
@[simp] theorem oD_none : oD none = .non := (rfl)
@[simp] theorem oD_some (v : Int) : oD (some v) = .int v := (rfl)
@[simp] theorem oD_non (x : Option Int) : oD x = .non ↔ x = none := by cases x <;> simp [oD]
@[simp] theorem flatD_oD (x : Option Int) : flatD (oD x) = true := by cases x <;> rfl
@[simp] theorem bel_oD (n : Nat) (x : Option Int) : (oD x).bel n = true := by cases x <;> rfl
def iD (l : List Int) : List D := l.map .int
@[simp] theorem iD_len (l : List Int) : (iD l).length = l.length := by simp [iD]
def sD (l : List Tx) : List D := l.map .str
@[simp] theorem sD_len (l : List Tx) : (sD l).length = l.length := by simp [sD]
/-- d stands for a form -/
def FoD (d : D) : Fo → Prop
  | .worth v => IsT d [.str w_worth, .int v]
  | .copy a => IsT d [.str w_copy, .str a]
  | .there a => IsT d [.str w_there, .str a]
  | .pair w a b => IsT d [.str w.tx, .str a, .str b]
  | .turn a row => ∃ r, IsT d [.str w_turn, .str a, r] ∧ IsT r (iD row)
  | .when a b => IsT d [.str w_when, .str a, .str b]
  | .els a b => IsT d [.str w_else, .str a, .str b]
  | .held a v => IsT d [.str w_held, .str a, .int v]
  | .before a v => IsT d [.str w_before, .str a, .int v]
  | .late a v => IsT d [.str w_late, .str a, oD v]
  | .mtch w a b => IsT d [.str w_match, .str w.tx, .str a, .str b]
def Fo.names : Fo → List Tx
  | .worth _ => [] | .copy a => [a] | .there a => [a] | .pair _ a b => [a, b] | .turn a _ => [a] | .when a b => [a, b] | .els a b => [a, b]
  | .held a _ => [a] | .before a _ => [a] | .late a _ => [a] | .mtch _ a b => [a, b]
def PW.ev (w : PW) (x y size : Int) : Int := match w with
  | .add => (x + y) % size | .times => x * y % size | .least => if y < x then y else x | .most => if x < y then y else x
  | .alike => if x = y then 1 else 0 | .less => if x < y then 1 else 0
def look (row : List Int) (i : Int) : Int := row.getD i.toNat 0
/-- what a cell without memory shows -/
def Fo.shown (size : Int) (f : Fo) (ws : List (Option Int)) : Option Int := match f, ws with
  | .worth v, _ => some v
  | .copy _, x :: _ => x
  | .there _, x :: _ => some (if x.isNone then 0 else 1)
  | .turn _ row, x :: _ => x.map (look row)
  | .els _ _, x :: y :: _ => if x.isNone then y else x
  | .when _ _, x :: y :: _ => if y = none ∨ y = some 0 then none else x
  | .pair w _ _, some x :: some y :: _ => some (w.ev x y size)
  | _, _ => none
def Fo.plain : Fo → Bool
  | .held _ _ | .before _ _ | .late _ _ | .mtch _ _ _ => false
  | _ => true
/-- a form's values are right -/
def Fo.fits (size : Int) : Fo → Prop
  | .worth v => 0 ≤ v ∧ v < size
  | .turn _ row => (row.length : Int) = size ∧ ∀ v ∈ row, 0 ≤ v ∧ v < size
  | .held _ v => 0 ≤ v ∧ v < size
  | .before _ v => 0 ≤ v ∧ v < size
  | .late _ v => ∀ x, v = some x → 0 ≤ x ∧ x < size
  | _ => True
structure Net where
  size : Int
  ins : List Tx
  cells : List (Tx × Fo)
def CellD (d : D) (c : Tx × Fo) : Prop := ∃ fd, IsT d [.str c.1, fd] ∧ FoD fd c.2
inductive All2 {α β : Type} (R : α → β → Prop) : List α → List β → Prop
  | nil : All2 R [] []
  | cons {a b as bs} : R a b → All2 R as bs → All2 R (a :: as) (b :: bs)
theorem All2.len {α β : Type} {R : α → β → Prop} {l : List α} {m : List β} (h : All2 R l m) : l.length = m.length := by
  induction h with
  | nil => rfl
  | cons _ _ ih => simp [ih]
theorem All2.imp {α β : Type} {R S : α → β → Prop} {l : List α} {m : List β} (h : All2 R l m) (f : ∀ a ∈ l, ∀ b ∈ m, R a b → S a b) : All2 S l m := by
  induction h with
  | nil => exact .nil
  | cons a _ ih => exact .cons (f _ (by simp) _ (by simp) a) (ih fun a ha b hb => f a (by simp [ha]) b (by simp [hb]))
theorem All2.map {α β γ : Type} {R : α → β → Prop} {l : List α} {m : List β} (h : All2 R l m) (f : α → γ) (g : β → γ) (e : ∀ a b, R a b → f a = g b) : l.map f = m.map g := by
  induction h with
  | nil => rfl
  | cons a _ ih => simp [ih, e _ _ a]
theorem All2.left {α β : Type} {R : α → β → Prop} {l : List α} {m : List β} (h : All2 R l m) : ∀ a ∈ l, ∃ b ∈ m, R a b := by
  induction h with
  | nil => simp
  | cons a _ ih =>
    intro x hx
    rcases List.mem_cons.mp hx with rfl | hx
    · exact ⟨_, by simp, a⟩
    · obtain ⟨b, hb, r⟩ := ih x hx; exact ⟨b, by simp [hb], r⟩
def NetD (d : D) (N : Net) : Prop := ∃ di dc cs, IsT d [.int N.size, di, dc] ∧ IsT di (sD N.ins) ∧ IsT dc cs ∧ All2 CellD cs N.cells
/-- an event -/
abbrev Ev := List (Tx × Int)
def evD (e : Ev) : D := .ktp (e.map fun p => .tup [.str p.1, .int p.2])
def evGet (e : Ev) (x : Tx) : Option Int := e.lookup x
end CM
end
section
/-! Q2: what the small functions of nets do: paired, shown, names_in, form_table, cell_names. -/
namespace CM
open PM B
variable {k : Nat} {st : St}
theorem paired_ok (w : PW) (x y size : Int) (h : 0 < size) (hx : 0 ≤ x ∧ x < 5) : fun_ defs (k + 1) ix_paired [.str w.tx, .int x, .int y, .int size] st = .ok (.v (.int (w.ev x y size))) st := by
  have hm : -1000000 < x ∧ x < 1000000 := by omega
  refine run_v (ρ := [some (.str w.tx), some (.int x), some (.int y), some (.int size)]) (fn_paired _ _ _) ?_ rfl
  cases w <;> simp [d_paired, startE, PW.tx, h, PW.ev, hm]
  · by_cases e : x = y <;> simp [e]
  · by_cases e : x < y <;> simp [e]
theorem eqF_oD (x : Option Int) : eqF (oD x) .non = x.isNone := by cases x <;> rfl
theorem shown_ok (f : Fo) (d : D) (size : Int) (ws : List (Option Int)) (n : Nat) (hf : FoD d f) (hp : f.plain = true) (hn : getL st n = some (ws.map oD)) (hl : ws.length = f.names.length)
    (h : 0 < size) (h5 : size ≤ 5) (hb : ∀ x, some x ∈ ws → 0 ≤ x ∧ x < size) (hr : f.fits size) :
    fun_ defs (k + 2) ix_shown [d, .ref n, .int size] st = .ok (.v (oD (f.shown size ws))) st := by
  refine run_v (ρ := [some d, some (.ref n), some (.int size), (match tupOf (.v d) with | some (w :: _) => some w | _ => none)]) (fn_shown _ _ _) ?_ rfl
  cases f with
  | worth v =>
    simp only [FoD] at hf
    simp [hf, d_shown, startE, Fo.shown]
  | copy a =>
    simp only [FoD] at hf
    match ws, hl with
    | [x], _ => simp [hf, d_shown, startE, Fo.shown, hn]
  | there a =>
    simp only [FoD] at hf
    match ws, hl with
    | [x], _ => cases x <;> simp [hf, d_shown, startE, Fo.shown, hn]
  | turn a row =>
    obtain ⟨r, hf, h2⟩ := hf
    match ws, hl with
    | [x], _ =>
      cases x with
      | none => simp [hf, d_shown, startE, Fo.shown, hn]
      | some v =>
        have hv := hb v (by simp)
        have hl2 : (row.length : Int) = size := hr.1
        have e : atI (iD row) v = some (.int (look row v)) := by
          rw [atI_nat _ _ hv.1 (by simp [iD]; omega)]
          have : v.toNat < row.length := by omega
          simp [iD, look, this]
        simp [hf, h2, d_shown, startE, Fo.shown, hn, e]
  | els a b =>
    simp only [FoD] at hf
    match ws, hl with
    | [x, y], _ => cases x <;> simp [hf, d_shown, startE, Fo.shown, hn]
  | when a b =>
    simp only [FoD] at hf
    match ws, hl with
    | [x, y], _ =>
      cases y with
      | none => simp [hf, d_shown, startE, Fo.shown, hn]
      | some y => by_cases e : y = 0 <;> simp [hf, d_shown, startE, Fo.shown, hn, e]
  | pair w a b =>
    simp only [FoD] at hf
    match ws, hl with
    | [x, y], _ =>
      cases x with
      | none => simp [hf, d_shown, startE, Fo.shown, hn, eqF_oD]
      | some x =>
        cases y with
        | none => simp [hf, d_shown, startE, Fo.shown, hn, eqF_oD, eqF]
        | some y =>
          have hx := hb x (by simp)
          have hx5 : 0 ≤ x ∧ x < 5 := by omega
          simp [hf, d_shown, startE, Fo.shown, hn, eqF_oD, eqF, flatD, paired_ok, h, hx5, gc_self]
  | _ => cases hp
theorem names_ok (f : Fo) (d : D) (hf : FoD d f) : ∃ t, fun_ defs (k + 1) ix_names_in [d] st = .ok (.v t) st ∧ IsT t (sD f.names) := by
  have key : ∀ t, evSs (fun_ defs k) d_names_in.body (startE d_names_in.slots [d]) st = .ok (.rt (.v t)) [some d] st → fun_ defs (k + 1) ix_names_in [d] st = .ok (.v t) st := fun t e =>
    run_v (ρ := [some d]) (fn_names_in _ _ _) e rfl
  cases f with
  | worth v => simp only [FoD] at hf; exact ⟨.tup [], key _ (by simp [hf, d_names_in, startE]), by simp [Fo.names, sD, IsT]⟩
  | copy a => simp only [FoD] at hf; exact ⟨.tup [.str a], key _ (by simp [hf, d_names_in, startE, flatD, eqF]), by simp [Fo.names, sD, IsT]⟩
  | there a => simp only [FoD] at hf; exact ⟨.tup [.str a], key _ (by simp [hf, d_names_in, startE, flatD, eqF]), by simp [Fo.names, sD, IsT]⟩
  | turn a row => obtain ⟨r, hf, h2⟩ := hf; exact ⟨.tup [.str a], key _ (by simp [hf, d_names_in, startE, flatD, eqF]), by simp [Fo.names, sD, IsT]⟩
  | held a row => simp only [FoD] at hf; exact ⟨.tup [.str a], key _ (by simp [hf, d_names_in, startE, flatD, eqF]), by simp [Fo.names, sD, IsT]⟩
  | before a row => simp only [FoD] at hf; exact ⟨.tup [.str a], key _ (by simp [hf, d_names_in, startE, flatD, eqF]), by simp [Fo.names, sD, IsT]⟩
  | late a row => simp only [FoD] at hf; exact ⟨.tup [.str a], key _ (by simp [hf, d_names_in, startE, flatD, eqF]), by simp [Fo.names, sD, IsT]⟩
  | pair w a b =>
    simp only [FoD] at hf
    exact ⟨.tup [.str a, .str b], key _ (by simp [hf, d_names_in, startE, sIx, cut]), by simp [Fo.names, sD, IsT]⟩
  | when a b => simp only [FoD] at hf; exact ⟨.tup [.str a, .str b], key _ (by simp [hf, d_names_in, startE, sIx, cut]), by simp [Fo.names, sD, IsT]⟩
  | els a b => simp only [FoD] at hf; exact ⟨.tup [.str a, .str b], key _ (by simp [hf, d_names_in, startE, sIx, cut]), by simp [Fo.names, sD, IsT]⟩
  | mtch w a b => simp only [FoD] at hf; exact ⟨.tup [.str a, .str b], key _ (by simp [hf, d_names_in, startE, sIx, cut]), by simp [Fo.names, sD, IsT]⟩
theorem All2.mem_right {α β : Type} {R : α → β → Prop} {l : List α} {m : List β} (h : All2 R l m) : ∀ b ∈ m, ∃ a ∈ l, R a b := by
  induction h with
  | nil => simp
  | cons a _ ih =>
    intro x hx
    rcases List.mem_cons.mp hx with rfl | hx
    · exact ⟨_, by simp, a⟩
    · obtain ⟨b, hb, r⟩ := ih x hx; exact ⟨b, by simp [hb], r⟩
/-- a form table's entries -/
def TabD (kvs : List (D × D)) (cells : List (Tx × Fo)) : Prop := All2 (fun kv c => kv.1 = .str c.1 ∧ FoD kv.2 c.2) kvs cells
theorem TabD.look {kvs : List (D × D)} {cells : List (Tx × Fo)} (h : TabD kvs cells) {n : Tx} {f : Fo} (hm : cells.lookup n = some f) : ∃ d, lookD kvs (.str n) = some d ∧ FoD d f := by
  unfold TabD at h
  induction h with
  | nil => cases hm
  | @cons kv c kvs cells r _ ih =>
    obtain ⟨cn, cf⟩ := c
    rw [List.lookup_cons] at hm
    rw [lookD]
    by_cases e : n = cn
    · subst e
      simp at hm
      subst hm
      rw [if_pos r.1]
      exact ⟨_, rfl, r.2⟩
    · have : (n == cn) = false := by simp [e]
      rw [this] at hm
      rw [if_neg (by rw [r.1]; intro x; exact e (by cases x; rfl))]
      exact ih hm
theorem TabD.flat {kvs : List (D × D)} {cells : List (Tx × Fo)} (h : TabD kvs cells) : flatKeys kvs = true := by
  refine List.all_eq_true.mpr fun p hp => ?_
  obtain ⟨c, _, e, _⟩ := All2.left h p hp
  rw [e]; rfl
def nmD (d : D) : D := ((tupOf (.v d)).getD []).headD .non
def foD (d : D) : D := ((tupOf (.v d)).getD []).getD 1 .non
theorem CellD.eq {d : D} {c : Tx × Fo} (h : CellD d c) : ∃ fd, tupOf (.v d) = some [.str c.1, fd] ∧ FoD fd c.2 ∧ nmD d = .str c.1 ∧ foD d = fd := by
  obtain ⟨fd, e, r⟩ := h
  exact ⟨fd, e, r, by simp [nmD, e], by simp [foD, e]⟩
theorem nodup_names {cells : List (Tx × Fo)} {cs : List D} (h : All2 CellD cs cells) (hn : (cells.map (·.1)).Nodup) : (cs.map nmD).Nodup := by
  rw [All2.map h nmD (fun c => D.str c.1) (fun a b r => (CellD.eq r).choose_spec.2.2.1)]
  have : cells.map (fun c => D.str c.1) = (cells.map (·.1)).map D.str := by simp
  rw [this]
  refine List.Pairwise.map D.str (fun a b hab => ?_) hn
  intro e; exact hab (by cases e; rfl)
theorem table_ok (d : D) (N : Net) (hd : NetD d N) (hn : (N.cells.map (·.1)).Nodup) (hl : N.cells.length ≤ 1000) :
    ∃ kvs, fun_ defs (k + 1) ix_form_table [d] st = .ok (.td kvs) st ∧ TabD kvs N.cells := by
  obtain ⟨di, dc, cs, e1, e2, e3, h⟩ := hd
  refine ⟨cs.map fun c => (nmD c, foD c), run_v (ρ := [some d, none, none]) (fn_form_table _ _ _) ?_ rfl, ?_⟩
  · have e : ∀ body : D → St → R (Option (D × D)), (∀ c ∈ cs, body c st = .ok (some (nmD c, foD c)) st) → dcLoop [] body cs [] st = .ok (.td (cs.map fun c => (nmD c, foD c))) st := fun body hb => by
      rw [dcLoop_map (fun c => (nmD c, foD c)) rfl cs [] hb (fun c hc => ?_) (by simp [h.len]; omega) (by simpa using nodup_names h hn)]
      · rfl
      · obtain ⟨b, hb, r⟩ := h.left c hc
        obtain ⟨fd, a1, a2, a3, a4⟩ := CellD.eq r
        simp only [a3]; rfl
    simp [d_form_table, startE, e1, e3]
    rw [e]
    · simp
    · intro c hc
      obtain ⟨b, hb, r⟩ := h.left c hc
      obtain ⟨fd, a1, a2, a3, a4⟩ := CellD.eq r
      simp [dcB, a1, a3, a4]
  · unfold TabD
    clear e3 hn hl
    revert h
    generalize N.cells = cells
    intro h
    induction h with
    | nil => exact .nil
    | cons r _ ih =>
      obtain ⟨fd, a1, a2, a3, a4⟩ := CellD.eq r
      exact .cons ⟨a3, by show FoD (foD _) _; rw [a4]; exact a2⟩ ih
end CM
end
section
/-! Q3: the plain meaning: what each name shows at each instant, by equations; shows, told, remembered, matched. -/
namespace CM
open PM B
/-- the last value up to an instant, or v -/
def lastV (g : Nat → Option Int) (v : Int) : Nat → Int
  | 0 => (g 0).getD v
  | i + 1 => (g (i + 1)).getD (lastV g v i)
def prevV (g : Nat → Option Int) (v : Int) : Nat → Int
  | 0 => v
  | i + 1 => lastV g v i
/-- the values ahead of an instant -/
def vals (g : Nat → Option Int) (n : Nat) : List Int := (List.range n).filterMap g
def atM (size : Int) (w : PW) (g h : Nat → Option Int) (i : Nat) : Option Int :=
  let l := vals g (i + 1)
  let r := vals h (i + 1)
  let many := min l.length r.length
  if min (vals g i).length (vals h i).length < many then some (w.ev (l.getD (many - 1) 0) (r.getD (many - 1) 0) size) else none
def Fo.at (size : Int) (T : Tx → Nat → Option Int) (i : Nat) : Fo → Option Int
  | .held a v => some (lastV (T a) v i)
  | .before a v => if T a i = none then none else some (prevV (T a) v i)
  | .late a v => match i with
    | 0 => v
    | j + 1 => T a j
  | .mtch w a b => atM size w (T a) (T b) i
  | f => f.shown size (f.names.map fun a => T a i)
def Net.cn (N : Net) : List Tx := N.cells.map (·.1)
/-- what is asked of a net that is run -/
structure Net.Good (N : Net) : Prop where
  s2 : 2 ≤ N.size
  s5 : N.size ≤ 5
  nd : N.cn.Nodup
  dis : ∀ n ∈ N.cn, n ∉ N.ins
  len : N.cells.length ≤ 20
  fits : ∀ c ∈ N.cells, c.2.fits N.size
  names : ∀ c ∈ N.cells, ∀ a ∈ c.2.names, a ∈ N.ins ∨ a ∈ N.cn
/-- what the names show -/
structure Sem (N : Net) (rows : List Ev) (T : Tx → Nat → Option Int) : Prop where
  inp : ∀ x ∈ N.ins, ∀ i e, rows[i]? = some e → T x i = evGet e x
  cel : ∀ c ∈ N.cells, ∀ i, i < rows.length → T c.1 i = c.2.at N.size T i
  bnd : ∀ x i v, (x ∈ N.ins ∨ x ∈ N.cn) → T x i = some v → 0 ≤ v ∧ v < N.size
/-- cells stand behind those that they hang on now -/
def Fo.now : Fo → List Tx
  | .late _ _ => []
  | f => f.names
def Ranked (N : Net) (rk : Tx → Nat) : Prop := ∀ c ∈ N.cells, ∀ a ∈ c.2.now, a ∈ N.cn → rk a < rk c.1
structure Rows (N : Net) (rows : List Ev) : Prop where
  len : rows.length ≤ 1000
  nd : ∀ e ∈ rows, (e.map (·.1)).Nodup ∧ e.length ≤ 1000
def evK (e : Ev) : List (D × D) := e.map fun p => (.str p.1, .int p.2)
theorem pairs_ev (e : Ev) : pairsOf (e.map fun p => D.tup [.str p.1, .int p.2]) = some (evK e) := by
  induction e with
  | nil => rfl
  | cons p e ih => simp [pairsOf, evK] at ih ⊢; exact ih
theorem mergeD_new : ∀ (ps acc : List (D × D)), ((acc ++ ps).map (·.1)).Nodup → mergeD acc ps = acc ++ ps
  | [], acc, _ => by simp [mergeD]
  | p :: ps, acc, h => by
    rw [mergeD, putD_new, mergeD_new ps (acc ++ [(p.1, p.2)]) (by simpa using h)]
    · simp
    · intro q hq e
      rw [List.map_append, List.nodup_append] at h
      exact h.2.2 _ (List.mem_map.mpr ⟨q, hq, rfl⟩) _ (by simp) e
theorem evK_nodup {e : Ev} (h : (e.map (·.1)).Nodup) : ((evK e).map (·.1)).Nodup := by
  have : (evK e).map (·.1) = (e.map (·.1)).map D.str := by simp [evK]
  rw [this]
  exact List.Pairwise.map D.str (fun a b hab x => hab (by cases x; rfl)) h
theorem evK_flat (e : Ev) : flatKeys (evK e) = true := by simp [flatKeys, evK]
theorem evK_look (e : Ev) (x : Tx) : (lookD (evK e) (.str x)).getD .non = oD (evGet e x) := by
  unfold evGet
  induction e with
  | nil => rfl
  | cons p e ih =>
    obtain ⟨a, b⟩ := p
    show (lookD ((.str a, .int b) :: evK e) (.str x)).getD .non = _
    rw [lookD, List.lookup_cons]
    by_cases h : x = a
    · subst h; simp
    · have h1 : (x == a) = false := by simp [h]
      have h2 : ¬ (D.str a = D.str x) := fun y => h (by cases y; rfl)
      rw [h1, if_neg h2]
      exact ih
variable {k : Nat} {st : St}
theorem dct_ev (e : Ev) (h : (e.map (·.1)).Nodup) : p_dct [.v (evD e)] st = .ok (.td (evK e)) st := by
  unfold p_dct evD
  simp only [dctSrc, pairs_ev, evK_flat, if_true]
  rw [mergeD_new]
  · rfl
  · simpa using evK_nodup h
def keyN (n : Tx) (i : Nat) : D := .tup [.str n, .int i]
structure Kn (N : Net) (rows : List Ev) (T : Tx → Nat → Option Int) (kv : List (D × D)) : Prop where
  ok : ∀ p ∈ kv, ∃ n i, n ∈ N.cn ∧ i < rows.length ∧ p = (keyN n i, oD (T n i))
  nd : (kv.map (·.1)).Nodup
def Full (N : Net) (kv : List (D × D)) (i : Nat) : Prop := ∀ n ∈ N.cn, ∀ j, j < i → ∃ v, (keyN n j, v) ∈ kv
theorem keyN_inj {n m : Tx} {i j : Nat} (h : keyN n i = keyN m j) : n = m ∧ i = j := by
  unfold keyN at h; injection h with h; simp at h; exact ⟨h.1, by omega⟩
theorem len_le_of_nodup {α : Type} [DecidableEq α] : ∀ (l m : List α), l.Nodup → (∀ x ∈ l, x ∈ m) → l.length ≤ m.length
  | [], m, _, _ => by simp
  | x :: l, m, hn, hs => by
    have hx := hs x (by simp)
    have h1 := len_le_of_nodup l (m.erase x) (List.nodup_cons.mp hn).2 (fun y hy => by
      have : y ≠ x := fun e => (List.nodup_cons.mp hn).1 (e ▸ hy)
      exact (List.mem_erase_of_ne this).mpr (hs y (by simp [hy])))
    have h2 := List.length_erase_of_mem hx
    have h3 : 0 < m.length := List.length_pos_of_mem hx
    simp; omega
section
variable {N : Net} {rows : List Ev} {T : Tx → Nat → Option Int}
theorem Kn.len {kv : List (D × D)} (h : Kn N rows T kv) (hg : N.Good) (hr : Rows N rows) : kv.length ≤ 20000 := by
  have h1 := len_le_of_nodup (kv.map (·.1)) (N.cn.flatMap fun n => (List.range rows.length).map fun i => keyN n i) h.nd (fun x hx => by
    obtain ⟨p, hp, rfl⟩ := List.mem_map.mp hx
    obtain ⟨n, i, a, b, e⟩ := h.ok p hp
    refine List.mem_flatMap.mpr ⟨n, a, List.mem_map.mpr ⟨i, List.mem_range.mpr b, ?_⟩⟩
    rw [e])
  rw [List.length_map, List.length_flatMap] at h1
  have h2 : ∀ l : List Tx, (l.map fun n => ((List.range rows.length).map fun i => keyN n i).length).sum = l.length * rows.length := by
    intro l
    induction l with
    | nil => simp
    | cons a l ih => rw [List.map_cons, List.sum_cons, ih, List.length_map, List.length_range, List.length_cons, Nat.succ_mul]; omega
  rw [h2] at h1
  have h3 : N.cn.length ≤ 20 := by simpa [Net.cn] using hg.len
  have h4 := hr.len
  have := Nat.mul_le_mul h3 h4
  omega
theorem Kn.tup {kv : List (D × D)} (h : Kn N rows T kv) : tupKeys kv = true := by
  refine List.all_eq_true.mpr fun p hp => ?_
  obtain ⟨n, i, _, _, e⟩ := h.ok p hp
  rw [e]; rfl
theorem Kn.look {kv : List (D × D)} (h : Kn N rows T kv) {n : Tx} {i : Nat} {v : D} (hm : lookD kv (keyN n i) = some v) : v = oD (T n i) := by
  obtain ⟨m, j, _, _, e⟩ := h.ok _ (lookD_mem hm)
  simp only [Prod.mk.injEq] at e
  obtain ⟨rfl, rfl⟩ := keyN_inj e.1
  exact e.2
theorem lookD_some {kv : List (D × D)} {k v : D} (h : (k, v) ∈ kv) : ∃ w, lookD kv k = some w := by
  induction kv with
  | nil => cases h
  | cons p r ih =>
    rw [lookD]
    split
    · exact ⟨_, rfl⟩
    · rcases List.mem_cons.mp h with rfl | h
      · contradiction
      · exact ih h
theorem Kn.add {kv : List (D × D)} (h : Kn N rows T kv) {n : Tx} {i : Nat} (hn : n ∈ N.cn) (hi : i < rows.length) : Kn N rows T (putD kv (keyN n i) (oD (T n i))) ∧ (∀ p ∈ kv, p ∈ putD kv (keyN n i) (oD (T n i))) ∧ (keyN n i, oD (T n i)) ∈ putD kv (keyN n i) (oD (T n i)) := by
  by_cases hc : ∃ p ∈ kv, p.1 = keyN n i
  · obtain ⟨p, hp, e⟩ := hc
    have e2 : putD kv (keyN n i) (oD (T n i)) = kv := by
      unfold putD
      rw [if_pos (List.any_eq_true.mpr ⟨p, hp, by simp [e]⟩)]
      conv => rhs; rw [← List.map_id kv]
      refine List.map_congr_left fun q hq => ?_
      split
      · rename_i e3
        obtain ⟨m, j, _, _, e4⟩ := h.ok q hq
        rw [e4] at e3 ⊢
        obtain ⟨rfl, rfl⟩ := keyN_inj e3
        rfl
      · rfl
    rw [e2]
    refine ⟨h, fun _ x => x, ?_⟩
    obtain ⟨m, j, _, _, e4⟩ := h.ok p hp
    rw [e4] at e hp
    obtain ⟨rfl, rfl⟩ := keyN_inj e
    exact hp
  · have e2 : putD kv (keyN n i) (oD (T n i)) = kv ++ [(keyN n i, oD (T n i))] := putD_new fun p hp e => hc ⟨p, hp, e⟩
    rw [e2]
    refine ⟨⟨fun p hp => ?_, ?_⟩, fun p hp => by simp [hp], by simp⟩
    · rcases List.mem_append.mp hp with hp | hp
      · exact h.ok p hp
      · simp at hp; exact ⟨n, i, hn, hi, hp⟩
    · rw [List.map_append, List.nodup_append]
      refine ⟨h.nd, by simp, fun a ha b hb => ?_⟩
      simp at hb
      subst hb
      obtain ⟨p, hp, rfl⟩ := List.mem_map.mp ha
      exact fun e => hc ⟨p, hp, e⟩
theorem Kn.bel {kv : List (D × D)} (h : Kn N rows T kv) (n : Nat) : MO.bel n (.dct kv) = true := by
  simp only [MO.bel, kvBelow]
  refine List.all_eq_true.mpr fun p hp => ?_
  obtain ⟨m, i, _, _, e⟩ := h.ok p hp
  rw [e]
  simp [keyN, D.bel, D.bels]
end
end CM
end
section
/-! Q4: shows, told, remembered, matched: what they give is what the equations tell. -/
namespace CM
open PM B
section
variable (N : Net) (rows : List Ev) (T : Tx → Nat → Option Int) (dN dr : D) (tb kn : Nat)
/-- the store while a row of events is told -/
structure Sto (st : St) (kv : List (D × D)) : Prop where
  tab : ∃ t, getK st tb = some t ∧ TabD t N.cells
  kno : getK st kn = some kv
  ne : tb ≠ kn
  wf : Wf st
  kn : Kn N rows T kv
variable {N rows T tb kn} in
theorem Sto.put {st : St} {kv kv' : List (D × D)} (h : Sto N rows T tb kn st kv) (h' : Kn N rows T kv') : Sto N rows T tb kn (st.set kn (.dct kv')) kv' where
  tab := by
    obtain ⟨t, h1, h2⟩ := h.tab
    exact ⟨t, by rw [getK_set, if_neg (fun e => h.ne e.1.symm)]; exact h1, h2⟩
  kno := by rw [getK_set, if_pos ⟨rfl, getK_lt h.kno⟩]
  ne := h.ne
  wf := h.wf.set (h'.bel _)
  kn := h'
variable {N rows T tb kn} in
theorem Sto.same {st : St} {kv : List (D × D)} (h : Sto N rows T tb kn st kv) : st.set kn (.dct kv) = st := set_keep (getK_at h.kno)
variable {N rows T tb kn} in
theorem Sto.app {st : St} {kv : List (D × D)} (h : Sto N rows T tb kn st kv) (os : St) (hw : Wf (st ++ os)) : Sto N rows T tb kn (st ++ os) kv where
  tab := by
    obtain ⟨t, h1, h2⟩ := h.tab
    exact ⟨t, by rw [getK_app (getK_lt h1)]; exact h1, h2⟩
  kno := by rw [getK_app (getK_lt h.kno)]; exact h.kno
  ne := h.ne
  wf := hw
  kn := h.kn
/-- what a call leaves -/
def Post (st : St) (kv : List (D × D)) (x : D) (q : List (D × D) → Prop) (r : R A) : Prop :=
  ∃ kv', r = .ok (.v x) (st.set kn (.dct kv')) ∧ Kn N rows T kv' ∧ (∀ p ∈ kv, p ∈ kv') ∧ q kv'
def Can (rk : Tx → Nat) (r : Nat) (kv : List (D × D)) (name : Tx) (i : Nat) : Prop :=
  name ∈ N.ins ∨ (name ∈ N.cn ∧ ∃ v, (keyN name i, v) ∈ kv) ∨ (name ∈ N.cn ∧ rk name < r ∧ Full N kv i)
def ShowsR (rk : Tx → Nat) (F : FT) (r : Nat) : Prop := ∀ st kv name i, Sto N rows T tb kn st kv → i < rows.length → Can N rk r kv name i →
  Post N rows T kn st kv (oD (T name i)) (fun kv' => name ∈ N.cn → (keyN name i, oD (T name i)) ∈ kv') (F ix_shows [dN, .ref tb, dr, .ref kn, .str name, .int i] st)
def ToldR (rk : Tx → Nat) (F : FT) (r : Nat) : Prop := ∀ st kv c i d, Sto N rows T tb kn st kv → i < rows.length → c ∈ N.cells → FoD d c.2 → Full N kv i → (∀ a ∈ c.2.now, a ∈ N.ins ∨ rk a < r) →
  Post N rows T kn st kv (oD (T c.1 i)) (fun _ => True) (F ix_told [dN, .ref tb, dr, .ref kn, d, .int i] st)
end
section
variable {N : Net} {rows : List Ev} {T : Tx → Nat → Option Int} {dN dr : D} {tb kn : Nat} {k : Nat} {st : St}
theorem Full.mono {kv kv' : List (D × D)} {i : Nat} (h : Full N kv i) (hs : ∀ p ∈ kv, p ∈ kv') : Full N kv' i := fun n hn j hj => by
  obtain ⟨v, hv⟩ := h n hn j hj
  exact ⟨v, hs _ hv⟩
theorem Can.mono {rk : Tx → Nat} {r : Nat} {kv kv' : List (D × D)} {name : Tx} {i : Nat} (h : Can N rk r kv name i) (hs : ∀ p ∈ kv, p ∈ kv') : Can N rk r kv' name i := by
  rcases h with h | ⟨h1, v, h⟩ | ⟨h1, h2, h3⟩
  · exact .inl h
  · exact .inr (.inl ⟨h1, v, hs _ h⟩)
  · exact .inr (.inr ⟨h1, h2, h3.mono hs⟩)
theorem any_str (l : List Tx) (x : Tx) : ((sD l).any fun d => eqF d (.str x)) = decide (x ∈ l) := by
  induction l with
  | nil => rfl
  | cons a l ih =>
    show (eqF (.str a) (.str x) || (sD l).any fun d => eqF d (.str x)) = _
    rw [ih]
    by_cases e : a = x
    · subst e; simp
    · have e2 : ¬ x = a := fun y => e y.symm
      simp [e, e2]
theorem all_flat_str (l : List Tx) : (sD l).all flatD = true := by simp [sD]
theorem atI_rows (l : List Ev) (i : Nat) (e : Ev) (h : l[i]? = some e) : atI (l.map evD) (i : Int) = some (evD e) := by
  have hi := (List.getElem?_eq_some_iff.mp h).1
  rw [atI_nat _ _ (by omega) (by simp; omega)]
  simp [h]
theorem shows_step (hg : N.Good) (hr : Rows N rows) (hs : Sem N rows T) (hd : NetD dN N) (hdr : IsT dr (rows.map evD)) (rk : Tx → Nat) (hrk : Ranked N rk) (r : Nat)
    (HT : ToldR N rows T dN dr tb kn rk (fun_ defs k) r) : ShowsR N rows T dN dr tb kn rk (fun_ defs (k + 1)) (r + 1) := by
  intro st kv name i ho hi hc
  obtain ⟨di, dc, cs, e1, e2, e3, h⟩ := hd
  have a1 := any_str N.ins name
  by_cases hin : name ∈ N.ins
  · obtain ⟨e, he⟩ : ∃ e, rows[i]? = some e := ⟨_, List.getElem?_eq_getElem hi⟩
    have hem := List.mem_of_getElem? he
    refine ⟨kv, ?_, ho.kn, fun _ x => x, fun hcn => absurd hin (hg.dis _ hcn)⟩
    rw [ho.same]
    refine run_v (ρ := [some dN, some (.ref tb), some dr, some (.ref kn), some (.str name), some (.int i), none]) (fn_shows _ _ _) ?_ rfl
    rw [hs.inp name hin i e he]
    simp [d_shows, startE, e1, e2, hdr, a1, hin, all_flat_str, atI_rows _ _ _ he, dct_ev e (hr.nd e hem).1, evK_flat, evK_look]
  · have hcn : name ∈ N.cn := by
      rcases hc with h | ⟨h, _⟩ | ⟨h, _⟩
      · exact absurd h hin
      · exact h
      · exact h
    have ask : askOk kv (keyN name i) = true := by simp [askOk, ho.kn.tup, keyN]
    cases hl : lookD kv (keyN name i) with
    | some v =>
      have hv := ho.kn.look hl
      subst hv
      refine ⟨kv, ?_, ho.kn, fun _ x => x, fun _ => lookD_mem hl⟩
      rw [ho.same]
      refine run_v (ρ := [some dN, some (.ref tb), some dr, some (.ref kn), some (.str name), some (.int i), some (keyN name i)]) (fn_shows _ _ _) ?_ rfl
      unfold keyN at ask hl ⊢
      simp [d_shows, startE, e1, e2, a1, hin, all_flat_str, ho.kno, ask, hl]
    | none =>
      have h3 : rk name < r + 1 ∧ Full N kv i := by
        rcases hc with h | ⟨_, v, h⟩ | ⟨_, h⟩
        · exact absurd h hin
        · obtain ⟨w, hw⟩ := lookD_some h
          rw [hw] at hl; cases hl
        · exact h
      obtain ⟨f, hf⟩ : ∃ f, (name, f) ∈ N.cells := by
        obtain ⟨c, hc0, rfl⟩ := List.mem_map.mp hcn
        exact ⟨c.2, hc0⟩
      obtain ⟨t, ht1, ht2⟩ := ho.tab
      have hlk : N.cells.lookup name = some f := by
        have := hg.nd
        unfold Net.cn at this
        clear h ht2 hl ask a1 hcn hin ho
        revert this hf
        generalize N.cells = l
        intro hf hn
        induction l with
        | nil => cases hf
        | cons c l ih =>
          obtain ⟨cn, cf⟩ := c
          rw [List.lookup_cons]
          rw [List.map_cons, List.nodup_cons] at hn
          rcases List.mem_cons.mp hf with e | e
          · cases e; simp
          · have : name ≠ cn := fun x => hn.1 (x ▸ List.mem_map.mpr ⟨_, e, rfl⟩)
            have h2 : (name == cn) = false := by simp [this]
            rw [h2]
            exact ih e hn.2
      obtain ⟨fd, hfd, hF⟩ := ht2.look hlk
      obtain ⟨kv1, q1, q2, q3, _⟩ := HT st kv (name, f) i fd ho hi hf hF h3.2 (fun a ha => by
        by_cases hac : a ∈ N.cn
        · exact .inr (by have := hrk _ hf a ha hac; simp at this; omega)
        · left
          have hn := hg.names _ hf a (by cases f <;> simp_all [Fo.now, Fo.names])
          rcases hn with h | h
          · exact h
          · exact absurd h hac)
      have ask1 : askOk kv1 (keyN name i) = true := by simp [askOk, q2.tup, keyN]
      have len1 : kv1.length < szMax := by have := q2.len hg hr; unfold szMax; omega
      obtain ⟨q4, q5, q6⟩ := q2.add hcn hi
      refine ⟨putD kv1 (keyN name i) (oD (T name i)), ?_, q4, fun p hp => q5 p (q3 p hp), fun _ => q6⟩
      have ask2 : askOk (putD kv1 (keyN name i) (oD (T name i))) (keyN name i) = true := by unfold askOk; rw [q4.tup]; simp [keyN]
      have hlt := getK_lt ho.kno
      have lk := lookD_putD kv1 (keyN name i) (oD (T name i)) (keyN name i)
      rw [if_pos rfl] at lk
      have hfl := ht2.flat
      refine run_s (ρ := [some dN, some (.ref tb), some dr, some (.ref kn), some (.str name), some (.int i), some (keyN name i)]) (fn_shows _ _ _) ?_ rfl (by simp)
      have tk := q4.tup
      have t0 := ho.kn.tup
      have t1 := q2.tup
      unfold keyN at ask hl ask1 ask2 lk tk ⊢
      simp [d_shows, startE, e1, e2, a1, hin, all_flat_str, ho.kno, ask, hl, ht1, askOk, hfl, hfd, q1, gc_len, getK_set, hlt, ask1, len1, setO, lk, tk, t0, t1]
end
end CM
end
section
namespace CM
open PM B
section
variable {N : Net} {rows : List Ev} {T : Tx → Nat → Option Int} {dN dr : D} {tb kn : Nat} {k : Nat} {st : St} {l : List D} {x : Tx} {d : D} {i : Int}
/-- a comprehension that shows names -/
theorem list_ok {rk : Tx → Nat} {F : FT} {r : Nat} (HS : ShowsR N rows T dN dr tb kn rk F r) (i : Nat) (hi : i < rows.length) (body : D → St → R (Option D)) (chk : Chk) :
    ∀ (ns : List Tx) (st : St) (kv : List (D × D)) (acc : List D), Sto N rows T tb kn st kv → (∀ n ∈ ns, Can N rk r kv n i) → acc.length + ns.length ≤ 1000 → (∀ kv', alive chk (st.set kn (.dct kv')) = true) →
      (∀ n ∈ ns, ∀ st' kv', Sto N rows T tb kn st' kv' → (∀ p ∈ kv, p ∈ kv') → ∀ st2, F ix_shows [dN, .ref tb, dr, .ref kn, .str n, .int i] st' = .ok (.v (oD (T n i))) st2 → st2.length ≤ st'.length → body (.str n) st' = .ok (some (oD (T n i))) st2) →
      ∃ kv', lcLoop chk body (sD ns) acc st = .ok (.tl (acc ++ ns.map fun n => oD (T n i))) (st.set kn (.dct kv')) ∧ Kn N rows T kv' ∧ (∀ p ∈ kv, p ∈ kv') ∧ (∀ n ∈ ns, n ∈ N.cn → (keyN n i, oD (T n i)) ∈ kv')
  | [], st, kv, acc, ho, _, _, ha, _ => ⟨kv, by have := ha kv; rw [ho.same] at this; simp [sD, lcLoop, ho.same, this], ho.kn, fun _ x => x, by simp⟩
  | n :: ns, st, kv, acc, ho, hc, hl, ha, hb => by
    have ha0 := ha kv
    rw [ho.same] at ha0
    obtain ⟨kv1, q1, q2, q3, q4⟩ := HS st kv n i ho hi (hc n (by simp))
    have hb1 := hb n (by simp) st kv ho (fun _ x => x) _ q1 (by simp)
    have ho1 := ho.put q2
    have hs : acc.length < szMax := by unfold szMax; simp at hl; omega
    obtain ⟨kv2, p1, p2, p3, p4⟩ := list_ok HS i hi body chk ns (st.set kn (.dct kv1)) kv1 (acc ++ [oD (T n i)]) ho1 (fun m hm => (hc m (by simp [hm])).mono q3) (by simp at hl ⊢; omega) (fun kv' => by rw [List.set_set]; exact ha kv')
      (fun m hm st' kv' h1 h2 => hb m (by simp [hm]) st' kv' h1 fun p hp => h2 p (q3 p hp))
    refine ⟨kv2, ?_, p2, fun p hp => p3 p (q3 p hp), ?_⟩
    · show lcLoop chk body (.str n :: sD ns) acc st = _
      rw [lcLoop, if_pos ha0, hb1]
      simp only [R.cut_ok, R.bi_ok, hs, if_true]
      rw [p1]
      simp
    · intro m hm hmc
      rcases List.mem_cons.mp hm with rfl | hm
      · exact p3 _ (q4 hmc)
      · exact p4 m hm hmc
/-- the last value among the first m instants -/
def lastO (g : Nat → Option Int) : Nat → Option Int
  | 0 => none
  | m + 1 => match g m with
    | some w => some w
    | none => lastO g m
theorem lastV_eq (g : Nat → Option Int) (v : Int) : ∀ i, lastV g v i = (lastO g (i + 1)).getD v
  | 0 => by unfold lastV lastO; cases g 0 <;> rfl
  | i + 1 => by
    unfold lastV lastO
    cases g (i + 1) with
    | none => exact lastV_eq g v i
    | some w => rfl
theorem prevV_eq (g : Nat → Option Int) (v : Int) (i : Nat) : prevV g v i = (lastO g i).getD v := by
  cases i with
  | zero => rfl
  | succ i => exact lastV_eq g v i
theorem rem_loop {rk : Tx → Nat} {F : FT} {r : Nat} (HS : ShowsR N rows T dN dr tb kn rk F r) (d : D) (w : D) (hd : tupOf (.v d) = some (w :: (.str x) :: l)) (i : D) :
    ∀ (m n : Nat) (st : St) (kv : List (D × D)) (w7 : Option D), m < n → Sto N rows T tb kn st kv → (∀ j, j < m → j < rows.length ∧ Can N rk r kv x j) →
      ∃ kv' ρ', whl F c_remembered_1 b_remembered_1 n [some dN, some (.ref tb), some dr, some (.ref kn), some d, some i, some (.int ((m : Int) - 1)), w7] st =
        (match lastO (T x) m with
        | some v => .ok (.rt (.v (.int v))) ρ' (st.set kn (.dct kv'))
        | none => .ok .nx [some dN, some (.ref tb), some dr, some (.ref kn), some d, some i, some (.int (-1)), ρ'.headD none] (st.set kn (.dct kv'))) ∧ Kn N rows T kv' ∧ (∀ p ∈ kv, p ∈ kv')
  | 0, n + 1, st, kv, w7, _, ho, hc => by
    refine ⟨kv, [w7], ?_, ho.kn, fun _ x => x⟩
    rw [whl_succ, ho.same]
    simp [c_remembered_1, lastO]
  | m + 1, n + 1, st, kv, w7, hmn, ho, hc => by
    obtain ⟨h1, h2⟩ := hc m (by omega)
    obtain ⟨kv1, q1, q2, q3, q4⟩ := HS st kv x m ho h1 h2
    have ho1 := ho.put q2
    have e1 : ((m + 1 : Nat) : Int) - 1 = (m : Int) := by omega
    cases hg : T x m with
    | some v =>
      rw [hg] at q1
      refine ⟨kv1, [some dN, some (.ref tb), some dr, some (.ref kn), some d, some i, some (.int m), some (.int v)], ?_, q2, q3⟩
      rw [whl_succ, e1]
      simp [c_remembered_1, b_remembered_1, hd, q1, gc_len, lastO, hg]
    | none =>
      rw [hg] at q1
      obtain ⟨kv2, ρ', p1, p2, p3⟩ := rem_loop HS d w hd i m n (st.set kn (.dct kv1)) kv1 (some .non) (by omega) ho1 (fun j hj => ⟨(hc j (by omega)).1, ((hc j (by omega)).2).mono q3⟩)
      refine ⟨kv2, ρ', ?_, p2, fun p hp => p3 p (q3 p hp)⟩
      rw [whl_succ, e1]
      have h3 : (evE F c_remembered_1 [some dN, some (.ref tb), some dr, some (.ref kn), some d, some i, some (.int m), w7] st).bind (fun x st2 => truR x st2) = .ok true st := by simp [c_remembered_1]
      have h4 : evSs F b_remembered_1 [some dN, some (.ref tb), some dr, some (.ref kn), some d, some i, some (.int m), w7] st =
          .ok .nx [some dN, some (.ref tb), some dr, some (.ref kn), some d, some i, some (.int ((m : Int) - 1)), some .non] (st.set kn (.dct kv1)) := by simp [b_remembered_1, hd, q1, gc_len, augO]
      rw [h3]
      simp only [R.toS_ok, if_true, h4, RS.lp_nx, p1]
      simp [lastO, hg]
theorem rem_ok (hr : Rows N rows) {rk : Tx → Nat} {r : Nat}
    (HS : ShowsR N rows T dN dr tb kn rk (fun_ defs k) r) (i0 : Nat) (hi0 : i0 < rows.length) (kv : List (D × D)) (ho : Sto N rows T tb kn st kv) (hfull : Full N kv i0) (x : Tx) (v : Int)
    (hx : x ∈ N.ins ∨ x ∈ N.cn) (hxr : x ∈ N.ins ∨ rk x < r) (held : Bool) (hd : tupOf (.v d) = some [.str (if held then w_held else w_before), .str x, .int v]) :
    Post N rows T kn st kv (oD (if held then some (lastV (T x) v i0) else if T x i0 = none then none else some (prevV (T x) v i0))) (fun _ => True) (fun_ defs (k + 1) ix_remembered [dN, .ref tb, dr, .ref kn, d, .int i0] st) := by
  have past : ∀ kv', (∀ p ∈ kv, p ∈ kv') → ∀ j, j < i0 → j < rows.length ∧ Can N rk r kv' x j := fun kv' hs j hj => ⟨by omega, by
    rcases hx with h | h
    · exact .inl h
    · obtain ⟨v, hv⟩ := hfull x h j hj
      exact .inr (.inl ⟨h, v, hs _ hv⟩)⟩
  have nowC : ∀ kv', (∀ p ∈ kv, p ∈ kv') → Can N rk r kv' x i0 := fun kv' hs => by
    rcases hx with h | h
    · exact .inl h
    · rcases hxr with h2 | h2
      · exact .inl h2
      · exact .inr (.inr ⟨h, h2, hfull.mono hs⟩)
  have hw : i0 + 1 < wN := by have := hr.len; unfold wN; omega
  cases held with
  | true =>
    simp only [if_true] at hd ⊢
    obtain ⟨kv', ρ', p1, p2, p3⟩ := rem_loop (x := x) HS d _ hd (.int i0) (i0 + 1) wN st kv none hw ho (fun j hj => by
      by_cases e : j = i0
      · subst e; exact ⟨hi0, nowC kv fun _ x => x⟩
      · exact past kv (fun _ x => x) j (by omega))
    have e1 : ((i0 + 1 : Nat) : Int) - 1 = (i0 : Int) := by omega
    rw [e1] at p1
    refine ⟨kv', ?_, p2, p3, trivial⟩
    rw [lastV_eq]
    cases hl : lastO (T x) (i0 + 1) with
    | some w =>
      rw [hl] at p1
      refine run_s (ρ := ρ') (fn_remembered _ _ _) ?_ rfl (by simp)
      simp [d_remembered, startE, hd, p1]
    | none =>
      rw [hl] at p1
      refine run_s (ρ := [some dN, some (.ref tb), some dr, some (.ref kn), some d, some (.int i0), some (.int (-1)), ρ'.headD none]) (fn_remembered _ _ _) ?_ rfl (by simp)
      simp [d_remembered, startE, hd, p1]
  | false =>
    have hd' : tupOf (.v d) = some [.str w_before, .str x, .int v] := hd
    obtain ⟨kv1, q1, q2, q3, q4⟩ := HS st kv x i0 ho hi0 (nowC kv fun _ x => x)
    cases hg : T x i0 with
    | none =>
      rw [hg] at q1
      refine ⟨kv1, ?_, q2, q3, trivial⟩
      refine run_s (ρ := [some dN, some (.ref tb), some dr, some (.ref kn), some d, some (.int i0), none, none]) (fn_remembered _ _ _) ?_ rfl (by simp)
      simp [d_remembered, startE, hd', q1, gc_len]
    | some u =>
      rw [hg] at q1
      obtain ⟨kv', ρ', p1, p2, p3⟩ := rem_loop (x := x) HS d _ hd' (.int i0) i0 wN _ kv1 none (by omega) (ho.put q2) (past kv1 q3)
      refine ⟨kv', ?_, p2, fun p hp => p3 p (q3 p hp), trivial⟩
      rw [prevV_eq]
      cases hl : lastO (T x) i0 with
      | some w =>
        rw [hl] at p1
        refine run_s (ρ := ρ') (fn_remembered _ _ _) ?_ rfl (by simp)
        simp [d_remembered, startE, hd', q1, gc_len, p1]
      | none =>
        rw [hl] at p1
        refine run_s (ρ := [some dN, some (.ref tb), some dr, some (.ref kn), some d, some (.int i0), some (.int (-1)), ρ'.headD none]) (fn_remembered _ _ _) ?_ rfl (by simp)
        simp [d_remembered, startE, hd', q1, gc_len, p1]
end
end CM
end
section
namespace CM
open PM B
section
variable {N : Net} {rows : List Ev} {T : Tx → Nat → Option Int} {dN dr : D} {tb kn : Nat} {k : Nat} {st : St} {l : List D} {x : Tx} {d : D} {i : Int}
theorem vals_succ (g : Nat → Option Int) (j : Nat) : vals g (j + 1) = vals g j ++ (g j).toList := by
  unfold vals
  rw [List.range_succ, List.filterMap_append]
  cases h : g j <;> simp [h]
theorem vals_len (g : Nat → Option Int) (j : Nat) : (vals g j).length ≤ j := by
  unfold vals
  exact Nat.le_trans (List.length_filterMap_le _ _) (by simp)
theorem inner_ok {rk : Tx → Nat} {F : FT} {r : Nat} (HS : ShowsR N rows T dN dr tb kn rk F r) (q : Nat) (lq : List D) (S : St) (kv : List (D × D)) (hl : lq.length ≤ 2000) (place : Nat) (hp : place < rows.length)
    (ho : Sto N rows T tb kn S kv) (hc : Can N rk r kv x place) (hq : getL S q = some lq) (e4 e5 e6 e7 e8 e12 e13 : Option D) :
    ∃ kv', evSs F b_matched_2 [some dN, some (.ref tb), some dr, some (.ref kn), e4, e5, e6, e7, e8, some (.int place), some (.ref q), some (.str x), e12, e13] S =
      .ok .nx [some dN, some (.ref tb), some dr, some (.ref kn), e4, e5, e6, e7, e8, some (.int place), some (.ref q), some (.str x), some (oD (T x place)), e13]
        ((S.set kn (.dct kv')).set q (.lst (lq ++ iD (T x place).toList))) ∧ Kn N rows T kv' ∧ (∀ p ∈ kv, p ∈ kv') := by
  obtain ⟨kv1, q1, q2, q3, q4⟩ := HS S kv x place ho hp hc
  refine ⟨kv1, ?_, q2, q3⟩
  have hne : kn ≠ q := fun e => by
    subst e
    have := getL_of_getK ho.kno
    rw [this] at hq; cases hq
  have hq2 : getL (S.set kn (.dct kv1)) q = some lq := by rw [getL_set, if_neg (fun e => hne e.1)]; exact hq
  have hl2 : lq.length ≤ 100000 := by omega
  cases hT : T x place with
  | none =>
    rw [hT] at q1
    simp [b_matched_2, q1, gc_len, iD]
    rw [set_keep (getL_at hq2)]
  | some v =>
    rw [hT] at q1
    simp [b_matched_2, q1, gc_len, iD, hq2, hl2]
def aheadN (g h : Nat → Option Int) : Nat → Nat
  | 0 => 0
  | j + 1 => min (vals g j).length (vals h j).length
theorem bels_iD (n : Nat) (l : List Int) : D.bels n (iD l) = true := by
  induction l with
  | nil => rfl
  | cons a l ih => simp only [iD, List.map_cons, D.bels, D.bel, Bool.true_and]; exact ih
theorem belL (n : Nat) (l : List Int) : MO.bel n (.lst (iD l)) = true := bels_iD n l
theorem sto2 {kv : List (D × D)} (ho : Sto N rows T tb kn st kv) (a b : List Int) : Sto N rows T tb kn (st ++ [MO.lst (iD a), MO.lst (iD b)]) kv :=
  ho.app _ (ho.wf.app (fun x hx => by
    simp only [List.mem_cons, List.not_mem_nil, or_false] at hx
    rcases hx with rfl | rfl <;> exact belL _ _))
theorem matched_ok (hg : N.Good) (hr : Rows N rows) (hs : Sem N rows T) (hd : NetD dN N) {rk : Tx → Nat} {r : Nat}
    (HS : ShowsR N rows T dN dr tb kn rk (fun_ defs (k + 1)) r) (i0 : Nat) (hi0 : i0 < rows.length) (kv : List (D × D)) (ho : Sto N rows T tb kn st kv) (hfull : Full N kv i0) (a b : Tx) (w : PW)
    (ha : a ∈ N.ins ∨ a ∈ N.cn) (har : a ∈ N.ins ∨ rk a < r) (hb : b ∈ N.ins ∨ b ∈ N.cn) (hbr : b ∈ N.ins ∨ rk b < r) (hf : tupOf (.v d) = some [.str w_match, .str w.tx, .str a, .str b]) :
    Post N rows T kn st kv (oD (atM N.size w (T a) (T b) i0)) (fun _ => True) (fun_ defs (k + 2) ix_matched [dN, .ref tb, dr, .ref kn, d, .int i0] st) := by
  have can : ∀ x, (x ∈ N.ins ∨ x ∈ N.cn) → (x ∈ N.ins ∨ rk x < r) → ∀ kv', (∀ p ∈ kv, p ∈ kv') → ∀ j, j ≤ i0 → Can N rk r kv' x j := fun x hx hxr kv' hs j hj => by
    rcases hx with h | h
    · exact .inl h
    · rcases hxr with h2 | h2
      · exact .inl h2
      · by_cases e : j = i0
        · subst e; exact .inr (.inr ⟨h, h2, hfull.mono hs⟩)
        · obtain ⟨v, hv⟩ := hfull x h j (by omega)
          exact .inr (.inl ⟨h, v, hs _ hv⟩)
  have hlen := hr.len
  -- the loop
  have loop := frl_inv (F := fun_ defs (k + 1)) (t := .nm 9) (b := b_matched_1) (chk := [])
    (fun j ρ S => ∃ kv' e9 e10 e11 e12 e13, j ≤ i0 + 1 ∧ ρ = [some dN, some (.ref tb), some dr, some (.ref kn), some d, some (.int i0), some (.ref st.length), some (.ref (st.length + 1)), some (.int (aheadN (T a) (T b) j)), e9, e10, e11, e12, e13] ∧
      S = st.set kn (.dct kv') ++ [MO.lst (iD (vals (T a) j)), MO.lst (iD (vals (T b) j))] ∧ Kn N rows T kv' ∧ (∀ p ∈ kv, p ∈ kv'))
    (ranN (i0 + 1))
    (by
      rintro j d' ρ S hj ⟨kv1, e9, e10, e11, e12, e13, hj1, rfl, rfl, q2, q3⟩
      obtain ⟨hjl, hd'⟩ := ranN_get hj
      subst hd'
      refine ⟨rfl, _, rfl, ?_⟩
      have ho1 := sto2 (ho.put q2) (vals (T a) j) (vals (T b) j)
      have la := vals_len (T a) j
      have lb := vals_len (T b) j
      have L : (st.set kn (.dct kv1)).length = st.length := by simp
      have gA : getL (st.set kn (.dct kv1) ++ [MO.lst (iD (vals (T a) j)), MO.lst (iD (vals (T b) j))]) st.length = some (iD (vals (T a) j)) := by rw [← L, getL_new0]; rfl
      have gB : getL (st.set kn (.dct kv1) ++ [MO.lst (iD (vals (T a) j)), MO.lst (iD (vals (T b) j))]) (st.length + 1) = some (iD (vals (T b) j)) := by rw [← L, getL_new]; rfl
      obtain ⟨kv2, p1, p2, p3⟩ := inner_ok HS st.length (iD (vals (T a) j)) _ kv1 (by simp [iD]; omega) j (by omega) ho1 (can a ha har kv1 q3 j (by omega)) gA
        (some d) (some (.int i0)) (some (.ref st.length)) (some (.ref (st.length + 1))) (some (.int (aheadN (T a) (T b) (j + 1)))) e12 e13
      have hkn := getK_lt ho.kno
      have E1 : (((st.set kn (.dct kv1) ++ [MO.lst (iD (vals (T a) j)), MO.lst (iD (vals (T b) j))]).set kn (.dct kv2)).set st.length (MO.lst (iD (vals (T a) j) ++ iD (T a j).toList)))
          = st.set kn (.dct kv2) ++ [MO.lst (iD (vals (T a) (j + 1))), MO.lst (iD (vals (T b) j))] := by
        rw [List.set_append_left _ _ (by simpa using hkn), List.set_set, List.set_append_right _ _ (by simp), vals_succ]
        simp [iD]
      rw [E1] at p1
      have ho2 := sto2 (ho.put p2) (vals (T a) (j + 1)) (vals (T b) j)
      have gB2 : getL (st.set kn (.dct kv2) ++ [MO.lst (iD (vals (T a) (j + 1))), MO.lst (iD (vals (T b) j))]) (st.length + 1) = some (iD (vals (T b) j)) := by
        have L : (st.set kn (.dct kv2)).length = st.length := by simp
        rw [← L, getL_new]; rfl
      obtain ⟨kv3, r1, r2, r3⟩ := inner_ok HS (st.length + 1) (iD (vals (T b) j)) _ kv2 (by simp [iD]; omega) j (by omega) ho2 (can b hb hbr kv2 (fun p hp => p3 p (q3 p hp)) j (by omega)) gB2
        (some d) (some (.int i0)) (some (.ref st.length)) (some (.ref (st.length + 1))) (some (.int (aheadN (T a) (T b) (j + 1)))) (some (oD (T a j))) e13
      have E2 : (((st.set kn (.dct kv2) ++ [MO.lst (iD (vals (T a) (j + 1))), MO.lst (iD (vals (T b) j))]).set kn (.dct kv3)).set (st.length + 1) (MO.lst (iD (vals (T b) j) ++ iD (T b j).toList)))
          = st.set kn (.dct kv3) ++ [MO.lst (iD (vals (T a) (j + 1))), MO.lst (iD (vals (T b) (j + 1)))] := by
        rw [List.set_append_left _ _ (by simpa using hkn), List.set_set, List.set_append_right _ _ (by simp), vals_succ (T b)]
        simp [iD]
      rw [E2] at r1
      refine ⟨_, _, .inl ?_, kv3, some (.int j), some (.ref (st.length + 1)), some (.str b), some (oD (T b j)), e13, by omega, rfl, rfl, r2, fun p hp => r3 p (p3 p (q3 p hp))⟩
      have hmin : (if (vals (T b) j).length < (vals (T a) j).length then ((vals (T b) j).length : Int) else ((vals (T a) j).length : Int)) = ((aheadN (T a) (T b) (j + 1) : Nat) : Int) := by
        have e : aheadN (T a) (T b) (j + 1) = min (vals (T a) j).length (vals (T b) j).length := rfl
        rw [e]; split <;> omega
      simp [b_matched_1, gA, gB, hf]
      rw [hmin, frl_cons (ρ2 := [some dN, some (.ref tb), some dr, some (.ref kn), some d, some (.int i0), some (.ref st.length), some (.ref (st.length + 1)), some (.int (aheadN (T a) (T b) (j + 1))), some (.int j), some (.ref st.length), some (.str a), e12, e13]) rfl rfl, p1]
      simp only [RS.lp_nx]
      rw [frl_cons (ρ2 := [some dN, some (.ref tb), some dr, some (.ref kn), some d, some (.int i0), some (.ref st.length), some (.ref (st.length + 1)), some (.int (aheadN (T a) (T b) (j + 1))), some (.int j), some (.ref (st.length + 1)), some (.str b), some (oD (T a j)), e13]) rfl rfl, r1]
      simp only [RS.lp_nx]
      rw [frl_nil rfl]
      simp)
    (fun _ _ _ => rfl)
  obtain ⟨ρ', S', f1, kv', e9, e10, e11, e12, e13, _, rfl, rfl, f2, f3⟩ := loop [some dN, some (.ref tb), some dr, some (.ref kn), some d, some (.int i0), some (.ref st.length), some (.ref (st.length + 1)), some (.int 0), none, none, none, none, none]
    (st ++ [MO.lst [], MO.lst []]) ⟨kv, none, none, none, none, none, by omega, rfl, by rw [ho.same]; rfl, ho.kn, fun _ x => x⟩
  simp only [ranN_len] at f1
  obtain ⟨di, dc, cs, e1, e2, e3, h⟩ := hd
  have hb62 : -big62 ≤ (i0 : Int) + 1 ∧ (i0 : Int) + 1 < big62 := by unfold big62; omega
  refine ⟨kv', ?_, f2, f3, trivial⟩
  have L : (st.set kn (.dct kv')).length = st.length := by simp
  have gA : getL (st.set kn (.dct kv') ++ [MO.lst (iD (vals (T a) (i0 + 1))), MO.lst (iD (vals (T b) (i0 + 1)))]) st.length = some (iD (vals (T a) (i0 + 1))) := by rw [← L, getL_new0]; rfl
  have gB : getL (st.set kn (.dct kv') ++ [MO.lst (iD (vals (T a) (i0 + 1))), MO.lst (iD (vals (T b) (i0 + 1)))]) (st.length + 1) = some (iD (vals (T b) (i0 + 1))) := by rw [← L, getL_new]; rfl
  have la := vals_len (T a) (i0 + 1)
  have lb := vals_len (T b) (i0 + 1)
  have hah : aheadN (T a) (T b) (i0 + 1) = min (vals (T a) i0).length (vals (T b) i0).length := rfl
  have hmin : (if (vals (T b) (i0 + 1)).length < (vals (T a) (i0 + 1)).length then ((vals (T b) (i0 + 1)).length : Int) else ((vals (T a) (i0 + 1)).length : Int)) = ((min (vals (T a) (i0 + 1)).length (vals (T b) (i0 + 1)).length : Nat) : Int) := by
    split <;> omega
  have key : ∀ x, evSs (fun_ defs (k + 1)) d_matched.body (startE d_matched.slots [dN, .ref tb, dr, .ref kn, d, .int i0]) st = .ok (.rt (.v x)) [some dN, some (.ref tb), some dr, some (.ref kn), some d, some (.int i0), some (.ref st.length), some (.ref (st.length + 1)),
      some (.int (aheadN (T a) (T b) (i0 + 1))), e9, e10, e11, e12, some (.int (min (vals (T a) (i0 + 1)).length (vals (T b) (i0 + 1)).length : Nat))] (st.set kn (.dct kv') ++ [MO.lst (iD (vals (T a) (i0 + 1))), MO.lst (iD (vals (T b) (i0 + 1)))]) → x.bel st.length = true →
      fun_ defs (k + 2) ix_matched [dN, .ref tb, dr, .ref kn, d, .int i0] st = .ok (.v x) (st.set kn (.dct kv')) := fun x e hx =>
    run_g (fn_matched _ _ _) e rfl hx ho.wf (f2.bel _)
  apply key
  · unfold atM
    rw [← hah]
    by_cases hm : aheadN (T a) (T b) (i0 + 1) < min (vals (T a) (i0 + 1)).length (vals (T b) (i0 + 1)).length
    · have ht : ∀ l : List Int, min (vals (T a) (i0 + 1)).length (vals (T b) (i0 + 1)).length ≤ l.length → atI (iD l) (((min (vals (T a) (i0 + 1)).length (vals (T b) (i0 + 1)).length : Nat) : Int) - 1) = some (.int (l.getD (min (vals (T a) (i0 + 1)).length (vals (T b) (i0 + 1)).length - 1) 0)) := by
        intro l hl
        have e : ((min (vals (T a) (i0 + 1)).length (vals (T b) (i0 + 1)).length : Nat) : Int) - 1 = ((min (vals (T a) (i0 + 1)).length (vals (T b) (i0 + 1)).length - 1 : Nat) : Int) := by omega
        rw [e]
        exact atI_iD _ _ (by omega)
      have hA := ht (vals (T a) (i0 + 1)) (by omega)
      have hB := ht (vals (T b) (i0 + 1)) (by omega)
      have hx5 : ∀ m, m < (vals (T a) (i0 + 1)).length → 0 ≤ (vals (T a) (i0 + 1)).getD m 0 ∧ (vals (T a) (i0 + 1)).getD m 0 < 5 := by
        intro m hm
        have e : (vals (T a) (i0 + 1)).getD m 0 ∈ vals (T a) (i0 + 1) := by
          rw [List.getD_eq_getElem?_getD, List.getElem?_eq_getElem hm]
          exact List.getElem_mem hm
        obtain ⟨j, _, hj⟩ := List.mem_filterMap.mp e
        have h1 := hs.bnd a j _ ha hj
        have h2 := hg.s5
        omega
      have hx := hx5 (min (vals (T a) (i0 + 1)).length (vals (T b) (i0 + 1)).length - 1) (by omega)
      have h2 : (0 : Int) < N.size := by have := hg.s2; omega
      simp only [hm, if_true]
      clear ht hx5
      revert hA hB hx
      generalize (vals (T a) (i0 + 1)).getD (min (vals (T a) (i0 + 1)).length (vals (T b) (i0 + 1)).length - 1) 0 = x
      generalize (vals (T b) (i0 + 1)).getD (min (vals (T a) (i0 + 1)).length (vals (T b) (i0 + 1)).length - 1) 0 = y
      intro hA hB hx
      simp [d_matched, startE, hb62, f1, gA, gB, hf, e1]
      rw [hmin]
      simp only [Int.ofNat_lt, hm]
      simp [hA, hB, gA, gB, hf, e1, paired_ok, h2, hx, gc_len]
    · simp only [hm, if_false]
      simp [d_matched, startE, hb62, f1, gA, gB, hf, e1]
      rw [hmin]
      simp only [Int.ofNat_lt, hm]
      simp
  · exact bel_oD _ _
end
end CM
end
section
namespace CM
open PM B
section
variable {N : Net} {rows : List Ev} {T : Tx → Nat → Option Int} {dN dr : D} {tb kn : Nat} {k : Nat} {st : St} {l : List D} {x : Tx} {d : D} {i : Int}
theorem told_plain (hg : N.Good) (hr : Rows N rows) (hs : Sem N rows T) (hd : NetD dN N) {rk : Tx → Nat} {r : Nat} (HS : ShowsR N rows T dN dr tb kn rk (fun_ defs (k + 2)) r)
    (i0 : Nat) (hi0 : i0 < rows.length) (kv : List (D × D)) (ho : Sto N rows T tb kn st kv) (hfull : Full N kv i0) (f : Fo) (hp : f.plain = true) (hF : FoD d f) (hfit : f.fits N.size)
    (hn : ∀ a ∈ f.names, (a ∈ N.ins ∨ a ∈ N.cn) ∧ (a ∈ N.ins ∨ rk a < r)) :
    Post N rows T kn st kv (oD (f.shown N.size (f.names.map fun a => T a i0))) (fun _ => True) (fun_ defs (k + 3) ix_told [dN, .ref tb, dr, .ref kn, d, .int i0] st) := by
  obtain ⟨t, ht, ht2⟩ := names_ok (k := k + 1) (st := st) f d hF
  have hnl : f.names.length ≤ 2 := by cases f <;> simp [Fo.names]
  obtain ⟨w, hw, hw2⟩ : ∃ w, (∃ l, tupOf (.v d) = some (.str w :: l)) ∧ okTx w = true ∧ w ≠ w_late ∧ w ≠ w_held ∧ w ≠ w_before ∧ w ≠ w_match := by
    cases f <;> simp only [FoD] at hF
    case turn => obtain ⟨r, h1, h2⟩ := hF; exact ⟨_, ⟨_, h1⟩, by decide⟩
    case pair w a b => exact ⟨_, ⟨_, hF⟩, by cases w <;> decide⟩
    case held => cases hp
    case before => cases hp
    case late => cases hp
    case mtch => cases hp
    all_goals exact ⟨_, ⟨_, hF⟩, by decide⟩
  obtain ⟨l, hl⟩ := hw
  obtain ⟨kv', p1, p2, p3, p4⟩ := list_ok HS i0 hi0 (lcB (fun_ defs (k + 2)) (.nm 7) [7] .nil (.call ix_shows (.cons (.var 0) (.cons (.var 1) (.cons (.var 2) (.cons (.var 3) (.cons (.var 7) (.cons (.var 5) .nil)))))))
      [some dN, some (.ref tb), some dr, some (.ref kn), some d, some (.int i0), some (.str w), none]) [] f.names st kv [] ho
    (fun n hm => by
      obtain ⟨h1, h2⟩ := hn n hm
      rcases h1 with h | h
      · exact .inl h
      · rcases h2 with h2 | h2
        · exact .inl h2
        · exact .inr (.inr ⟨h, h2, hfull⟩)) (by simp; omega) (fun _ => rfl)
    (fun n hm st' kv' h1 h2 st2 h3 h4 => by simp [lcB, h3, gc_len, h4])
  refine ⟨kv', ?_, p2, p3, trivial⟩
  have hsz : (0 : Int) < N.size := by have := hg.s2; omega
  have hb : ∀ x, some x ∈ (f.names.map fun a => T a i0) → 0 ≤ x ∧ x < N.size := by
    intro x hx
    obtain ⟨a, ha, e⟩ := List.mem_map.mp hx
    exact hs.bnd a i0 x (hn a ha).1 e
  have L : (st.set kn (.dct kv')).length = st.length := by simp
  have gW : getL (st.set kn (.dct kv') ++ [MO.lst ((f.names.map fun a => T a i0).map oD)]) st.length = some ((f.names.map fun a => T a i0).map oD) := by rw [← L, getL_new0]; rfl
  have sh := shown_ok (k := k) (st := st.set kn (.dct kv') ++ [MO.lst ((f.names.map fun a => T a i0).map oD)]) f d N.size (f.names.map fun a => T a i0) st.length hF hp gW (by simp) hsz hg.s5 hb hfit
  obtain ⟨di, dc, cs, e1, e2, e3, h⟩ := hd
  obtain ⟨w1, w2, w3, w4, w5⟩ := hw2
  simp only [w_late, w_held, w_before, w_match] at w2 w3 w4 w5
  have gp := gc_app_v (st.set kn (.dct kv')) [MO.lst ((f.names.map fun a => T a i0).map oD)] (oD (f.shown N.size (f.names.map fun a => T a i0))) (bel_oD _ _)
  have w3' := Ne.symm w3
  have w4' := Ne.symm w4
  refine run_s (ρ := [some dN, some (.ref tb), some dr, some (.ref kn), some d, some (.int i0), some (.str w), none]) (fn_told _ _ _) ?_ rfl (by simp)
  simp only [List.map_map] at sh gp gW
  have em : (oD ∘ fun a => T a i0) = fun a => oD (T a i0) := rfl
  rw [em] at sh gp gW
  simp [d_told, startE, hl, w1, w2, w3', w4', w5, ht, ht2, gc_len, p1, e1, sh, gp]
theorem told_step (hg : N.Good) (hr : Rows N rows) (hs : Sem N rows T) (hd : NetD dN N) (hdr : IsT dr (rows.map evD)) {rk : Tx → Nat} {r : Nat}
    (HS1 : ShowsR N rows T dN dr tb kn rk (fun_ defs (k + 1)) r) (HS2 : ShowsR N rows T dN dr tb kn rk (fun_ defs (k + 2)) r) : ToldR N rows T dN dr tb kn rk (fun_ defs (k + 3)) r := by
  rintro st kv ⟨c, f⟩ i d ho hi hc hF hfull hn
  have hsem := hs.cel _ hc i hi
  have hfit := hg.fits _ hc
  have hnm := hg.names _ hc
  simp only at hsem hfit hnm hF hn ⊢
  rw [hsem]
  by_cases hp : f.plain = true
  · have e1 : f.at N.size T i = f.shown N.size (f.names.map fun a => T a i) := by cases f <;> first | rfl | cases hp
    have e2 : f.now = f.names := by cases f <;> first | rfl | cases hp
    rw [e1]
    exact told_plain hg hr hs hd HS2 i hi kv ho hfull f hp hF hfit (fun a ha => ⟨hnm a ha, hn a (by rw [e2]; exact ha)⟩)
  · cases f with
    | held a v =>
      simp only [FoD] at hF
      obtain ⟨kv', q1, q2, q3, _⟩ := rem_ok (k := k + 1) (st := st) (d := d) hr HS1 i hi kv ho hfull a v (hnm a (by simp [Fo.names])) (hn a (by simp [Fo.now, Fo.names])) true hF
      refine ⟨kv', ?_, q2, q3, trivial⟩
      refine run_s (ρ := [some dN, some (.ref tb), some dr, some (.ref kn), some d, some (.int i), some (.str w_held), none]) (fn_told _ _ _) ?_ rfl (by simp)
      simp only [if_true] at q1
      simp [d_told, startE, hF, q1, gc_len, Fo.at]
    | before a v =>
      simp only [FoD] at hF
      obtain ⟨kv', q1, q2, q3, _⟩ := rem_ok (k := k + 1) (st := st) (d := d) hr HS1 i hi kv ho hfull a v (hnm a (by simp [Fo.names])) (hn a (by simp [Fo.now, Fo.names])) false hF
      refine ⟨kv', ?_, q2, q3, trivial⟩
      refine run_s (ρ := [some dN, some (.ref tb), some dr, some (.ref kn), some d, some (.int i), some (.str w_before), none]) (fn_told _ _ _) ?_ rfl (by simp)
      simp only [Bool.false_eq_true, if_false] at q1
      simp [d_told, startE, hF, q1, gc_len, Fo.at]
    | late a v =>
      simp only [FoD] at hF
      cases i with
      | zero =>
        refine ⟨kv, ?_, ho.kn, fun _ x => x, trivial⟩
        rw [ho.same]
        refine run_s (ρ := [some dN, some (.ref tb), some dr, some (.ref kn), some d, some (.int (0 : Nat)), some (.str w_late), none]) (fn_told _ _ _) ?_ rfl (by simp)
        simp [d_told, startE, hF, Fo.at]
      | succ j =>
        obtain ⟨kv', q1, q2, q3, _⟩ := HS2 st kv a j ho (by omega) (by
          rcases hnm a (by simp [Fo.names]) with h | h
          · exact .inl h
          · obtain ⟨v, hv⟩ := hfull a h j (by omega)
            exact .inr (.inl ⟨h, v, hv⟩))
        refine ⟨kv', ?_, q2, q3, trivial⟩
        refine run_s (ρ := [some dN, some (.ref tb), some dr, some (.ref kn), some d, some (.int (j + 1 : Nat)), some (.str w_late), none]) (fn_told _ _ _) ?_ rfl (by simp)
        have e : ((j + 1 : Nat) : Int) - 1 = (j : Int) := by omega
        have e0 : ¬ ((j : Int) + 1 = 0) := by omega
        simp [d_told, startE, hF, e, e0, q1, gc_len, Fo.at]
    | mtch w a b =>
      simp only [FoD] at hF
      obtain ⟨kv', q1, q2, q3, _⟩ := matched_ok (k := k) (st := st) (d := d) hg hr hs hd HS1 i hi kv ho hfull a b w (hnm a (by simp [Fo.names])) (hn a (by simp [Fo.now, Fo.names]))
        (hnm b (by simp [Fo.names])) (hn b (by simp [Fo.now, Fo.names])) hF
      refine ⟨kv', ?_, q2, q3, trivial⟩
      refine run_s (ρ := [some dN, some (.ref tb), some dr, some (.ref kn), some d, some (.int i), some (.str w_match), none]) (fn_told _ _ _) ?_ rfl (by simp)
      simp [d_told, startE, hF, q1, gc_len, Fo.at]
    | _ => exact absurd rfl hp
/-- shows, so many cells deep -/
theorem shows_ok (hg : N.Good) (hr : Rows N rows) (hs : Sem N rows T) (hd : NetD dN N) (hdr : IsT dr (rows.map evD)) {rk : Tx → Nat} (hrk : Ranked N rk) :
    ∀ (r k : Nat), 3 * r + 1 ≤ k → ShowsR N rows T dN dr tb kn rk (fun_ defs k) r
  | 0, k, hk => by
    obtain ⟨k, rfl⟩ : ∃ j, k = j + 1 := ⟨k - 1, by omega⟩
    intro st kv name i ho hi hc
    have hc' : Can N (fun _ => 0) 1 kv name i := by
      rcases hc with h | h | ⟨_, h, _⟩
      · exact .inl h
      · exact .inr (.inl h)
      · omega
    -- no told is needed
    obtain ⟨di, dc, cs, e1, e2, e3, h⟩ := hd
    have a1 := any_str N.ins name
    by_cases hin : name ∈ N.ins
    · obtain ⟨e, he⟩ : ∃ e, rows[i]? = some e := ⟨_, List.getElem?_eq_getElem hi⟩
      have hem := List.mem_of_getElem? he
      refine ⟨kv, ?_, ho.kn, fun _ x => x, fun hcn => absurd hin (hg.dis _ hcn)⟩
      rw [ho.same]
      refine run_v (ρ := [some dN, some (.ref tb), some dr, some (.ref kn), some (.str name), some (.int i), none]) (fn_shows _ _ _) ?_ rfl
      rw [hs.inp name hin i e he]
      simp [d_shows, startE, e1, e2, hdr, a1, hin, all_flat_str, atI_rows _ _ _ he, dct_ev e (hr.nd e hem).1, evK_flat, evK_look]
    · obtain ⟨hcn, v, hv⟩ : name ∈ N.cn ∧ ∃ v, (keyN name i, v) ∈ kv := by
        rcases hc with h | h | ⟨_, h, _⟩
        · exact absurd h hin
        · exact h
        · omega
      have ask : askOk kv (keyN name i) = true := by simp [askOk, ho.kn.tup, keyN]
      obtain ⟨w, hl⟩ := lookD_some hv
      have hv := ho.kn.look hl
      subst hv
      refine ⟨kv, ?_, ho.kn, fun _ x => x, fun _ => lookD_mem hl⟩
      rw [ho.same]
      refine run_v (ρ := [some dN, some (.ref tb), some dr, some (.ref kn), some (.str name), some (.int i), some (keyN name i)]) (fn_shows _ _ _) ?_ rfl
      unfold keyN at ask hl ⊢
      simp [d_shows, startE, e1, e2, a1, hin, all_flat_str, ho.kno, ask, hl]
  | r + 1, k, hk => by
    obtain ⟨k, rfl⟩ : ∃ j, k = j + 4 := ⟨k - 4, by omega⟩
    exact shows_step (k := k + 3) hg hr hs hd hdr rk hrk r (told_step (k := k) hg hr hs hd hdr (shows_ok hg hr hs hd hdr hrk r (k + 1) (by omega)) (shows_ok hg hr hs hd hdr hrk r (k + 2) (by omega)))
end
end CM
end
section
namespace CM
open PM B
section
variable {N : Net} {rows : List Ev} {T : Tx → Nat → Option Int} {dN dr : D} {tb kn : Nat} {k : Nat} {st : St} {l : List D} {x : Tx} {d : D} {i : Int}
theorem FoD.bel {d : D} {f : Fo} (h : FoD d f) (n : Nat) : d.bel n = true := by
  cases f <;> simp only [FoD] at h
  case turn a row =>
    obtain ⟨r, h1, h2⟩ := h
    rw [bel_T h1]; simp [bel_T h2, bels_iD]
  all_goals rw [bel_T h]; simp [bel_oD]
theorem TabD.bel {kvs : List (D × D)} {cells : List (Tx × Fo)} (h : TabD kvs cells) (n : Nat) : MO.bel n (.dct kvs) = true := by
  simp only [MO.bel, kvBelow]
  refine List.all_eq_true.mpr fun p hp => ?_
  obtain ⟨c, _, e, h2⟩ := All2.left h p hp
  rw [e]; simp [h2.bel]
def momD (N : Net) (T : Tx → Nat → Option Int) (j : Nat) : D := .ktp (N.cn.map fun n => oD (T n j))
def momsD (N : Net) (T : Tx → Nat → Option Int) (m : Nat) : D := .ktp ((List.range m).map (momD N T))
theorem momD_bel (N : Net) (T : Tx → Nat → Option Int) (j n : Nat) : (momD N T j).bel n = true := by
  simp only [momD, bel_ktp]; exact bels_map _ _ _ fun _ _ => bel_oD _ _
theorem bels_sD (n : Nat) (l : List Tx) : D.bels n (sD l) = true := bels_map _ _ _ fun _ _ => rfl
theorem names_cs {cs : List D} {N : Net} (h : All2 CellD cs N.cells) : cs.map nmD = sD N.cn := by
  rw [All2.map h nmD (fun c => D.str c.1) (fun a b r => (CellD.eq r).choose_spec.2.2.1)]
  simp [sD, Net.cn]
theorem lc_names {F : FT} {i j : Nat} {ρ : Env} {cs : List D} {N : Net} (h : All2 CellD cs N.cells) (hl : N.cells.length ≤ 1000) (hi : i < ρ.length) (hij : i ≠ j) (st : St) :
    lcLoop [] (lcB F (.tp [i, j]) [i, j] .nil (.var i) ρ) cs [] st = .ok (.tl (sD N.cn)) st := by
  rw [lcLoop_map nmD alive_nil cs [] (fun c hc => ?_) (by have := h.len; simp; omega), names_cs h]
  · rfl
  · obtain ⟨b, hb, r⟩ := h.left c hc
    obtain ⟨fd, a1, a2, a3, a4⟩ := CellD.eq r
    have e : (((ρ.set j none).set i none).set i (some (D.str b.1)) |>.set j (some fd))[i]? = some (some (D.str b.1)) := by
      rw [List.getElem?_set_ne (by omega)]
      simp [hi]
    simp [lcB, a1, a3]
    rw [evE_var i _ (by simpa using e)]
    simp
theorem meaning_ok (hg : N.Good) (hr : Rows N rows) (hs : Sem N rows T) (hd : NetD dN N) (hdr : IsT dr (rows.map evD)) {rk : Tx → Nat} (hrk : Ranked N rk) (hrb : ∀ n ∈ N.cn, rk n < 20) (hw : Wf st) (hk : 61 ≤ k) :
    fun_ defs (k + 1) ix_meaning [dN, dr] st = .ok (.v (momsD N T rows.length)) st := by
  obtain ⟨k, rfl⟩ : ∃ j, k = j + 1 := ⟨k - 1, by omega⟩
  obtain ⟨tab, t1, t2⟩ := table_ok (k := k) (st := st ++ [MO.dct [], MO.lst (sD N.cn)]) dN N hd (by have := hg.nd; exact this) (by have := hg.len; omega)
  have hd0 := hd
  obtain ⟨di, dc, cs, e1, e2, e3, h⟩ := hd
  have L := hr.len
  have loop := frl_inv (F := fun_ defs (k + 1)) (t := .nm 6) (b := b_meaning_1) (chk := [])
    (fun j ρ S => ∃ kv e6 , j ≤ rows.length ∧ ρ = [some dN, some dr, some (.ref st.length), some (.ref (st.length + 1)), some (.ref (st.length + 2)), some (.ref (st.length + 3)), e6, none, none] ∧
      S = st ++ [MO.dct kv, MO.lst (sD N.cn), MO.dct tab, MO.lst ((List.range j).map (momD N T))] ∧ Kn N rows T kv ∧ Full N kv j)
    (ranN rows.length)
    (by
      rintro j d' ρ S hj ⟨kv, e6, hj1, rfl, rfl, q2, q3⟩
      obtain ⟨hjl, hd'⟩ := ranN_get hj
      subst hd'
      refine ⟨rfl, _, rfl, ?_⟩
      have ho : Sto N rows T (st.length + 2) st.length (st ++ [MO.dct kv, MO.lst (sD N.cn), MO.dct tab, MO.lst ((List.range j).map (momD N T))]) kv :=
        { tab := ⟨tab, by rw [getK_new]; rfl, t2⟩
          kno := by rw [getK_new0]; rfl
          ne := by omega
          wf := hw.app (fun x hx => by
            simp only [List.mem_cons, List.not_mem_nil, or_false] at hx
            rcases hx with rfl | rfl | rfl | rfl
            · exact q2.bel _
            · exact bels_sD _ _
            · exact t2.bel _
            · exact bels_map _ _ _ fun _ _ => momD_bel _ _ _ _)
          kn := q2 }
      have gN : ∀ kv', getL (st ++ [MO.dct kv', MO.lst (sD N.cn), MO.dct tab, MO.lst ((List.range j).map (momD N T))]) (st.length + 1) = some (sD N.cn) := fun kv' => by rw [getL_new]; rfl
      have gF : ∀ kv', getL (st ++ [MO.dct kv', MO.lst (sD N.cn), MO.dct tab, MO.lst ((List.range j).map (momD N T))]) (st.length + 3) = some ((List.range j).map (momD N T)) := fun kv' => by rw [getL_new]; rfl
      have E : ∀ kv', (st ++ [MO.dct kv, MO.lst (sD N.cn), MO.dct tab, MO.lst ((List.range j).map (momD N T))]).set st.length (MO.dct kv') = st ++ [MO.dct kv', MO.lst (sD N.cn), MO.dct tab, MO.lst ((List.range j).map (momD N T))] := fun kv' => by
        rw [List.set_append_right _ _ (by omega)]; simp
      obtain ⟨kv', p1, p2, p3, p4⟩ := list_ok (shows_ok hg hr hs hd0 hdr hrk 20 (k + 1) (by omega)) j hjl
        (lcB (fun_ defs (k + 1)) (.nm 7) [7] .nil (.call ix_shows (.cons (.var 0) (.cons (.var 4) (.cons (.var 1) (.cons (.var 2) (.cons (.var 7) (.cons (.var 6) .nil)))))))
          [some dN, some dr, some (.ref st.length), some (.ref (st.length + 1)), some (.ref (st.length + 2)), some (.ref (st.length + 3)), some (.int j), none, none])
        [(st.length + 1, MO.lst (sD N.cn))] N.cn _ kv [] ho (fun n hn => .inr (.inr ⟨hn, hrb n hn, q3⟩)) (by have := hg.len; simp [Net.cn]; omega)
        (fun kv' => by rw [E]; exact alive_lst (gN kv'))
        (fun n hn st' kv' h1 h2 st2 h3 h4 => by simp [lcB, h3, gc_len, h4])
      rw [E] at p1
      refine ⟨_, _, .inl ?_, kv', some (.int j), by omega, rfl, rfl, p2, fun n hn m hm => ?_⟩
      · have hc := chkOf_lst (gN kv)
        have hfl : j ≤ 100000 := by omega
        simp [b_meaning_1, gF kv, gN kv, hc, p1, gF kv', hfl]
        simp [List.range_succ, momD]
      · by_cases e : m = j
        · subst e; exact ⟨_, p4 n hn hn⟩
        · obtain ⟨v, hv⟩ := q3 n hn m (by omega)
          exact ⟨v, p3 _ hv⟩)
    (fun _ _ _ => rfl)
  obtain ⟨ρ', S', f1, kv', e6, _, rfl, rfl, f2, f3⟩ := loop _ _ ⟨[], none, by omega, rfl, rfl, ⟨by simp, by simp⟩, fun n _ j hj => by omega⟩
  simp only [ranN_len] at f1
  have hb62 : (rows.length : Int) < big62 := by unfold big62; omega
  have hb0 : -big62 ≤ (rows.length : Int) := by unfold big62; omega
  have gF : getL (st ++ [MO.dct kv', MO.lst (sD N.cn), MO.dct tab, MO.lst ((List.range rows.length).map (momD N T))]) (st.length + 3) = some ((List.range rows.length).map (momD N T)) := by rw [getL_new]; rfl
  simp only [List.range_zero, List.map_nil] at f1
  refine run_a (os := [MO.dct kv', MO.lst (sD N.cn), MO.dct tab, MO.lst ((List.range rows.length).map (momD N T))]) (ρ := [some dN, some dr, some (.ref st.length), some (.ref (st.length + 1)), some (.ref (st.length + 2)), some (.ref (st.length + 3)), e6, none, none]) (fn_meaning _ _ _) ?_ rfl ?_
  · have lcn := fun ρ (hρ : 7 < ρ.length) st => lc_names (F := fun_ defs (k + 1)) (i := 7) (j := 8) (ρ := ρ) h (by have := hg.len; omega) hρ (by omega) st
    simp [d_meaning, startE, e1, e3, lcn, t1, gc_len, hb0, hb62, hdr, f1, gF, momsD]
  · simp only [momsD, bel_ktp]; exact bels_map _ _ _ fun _ _ => momD_bel _ _ _ _
def histD (T : Tx → Nat → Option Int) (x : Tx) (m : Nat) : D := .ktp ((List.range m).map fun j => oD (T x j))
theorem find_name (l : List Tx) (x : Tx) (h : x ∈ l) : ∃ j, (sD l).findIdx? (fun e => eqF e (.str x)) = some j ∧ l[j]? = some x := by
  induction l with
  | nil => cases h
  | cons a l ih =>
    show ∃ j, ((D.str a) :: sD l).findIdx? _ = some j ∧ _
    rw [List.findIdx?_cons]
    by_cases e : a = x
    · subst e; exact ⟨0, by simp, rfl⟩
    · obtain ⟨j, h1, h2⟩ := ih (by rcases List.mem_cons.mp h with rfl | h; exact absurd rfl e; exact h)
      exact ⟨j + 1, by simp [e, h1], by simpa using h2⟩
theorem map_range {α : Type} (l : List Ev) (g : Ev → α) (f : Nat → α) (h : ∀ i e, l[i]? = some e → g e = f i) : l.map g = (List.range l.length).map f := by
  refine List.ext_getElem? fun i => ?_
  rw [List.getElem?_map, List.getElem?_map]
  by_cases hi : i < l.length
  · rw [List.getElem?_range hi, List.getElem?_eq_getElem hi]
    simp [h i _ (List.getElem?_eq_getElem hi)]
  · rw [List.getElem?_eq_none (Nat.le_of_not_lt hi), List.getElem?_eq_none (by simpa using Nat.le_of_not_lt hi)]
    rfl
theorem history_ok (hg : N.Good) (hr : Rows N rows) (hs : Sem N rows T) (hd : NetD dN N) (hdr : IsT dr (rows.map evD)) {rk : Tx → Nat} (hrk : Ranked N rk) (hrb : ∀ n ∈ N.cn, rk n < 20) (hw : Wf st) (hk : 62 ≤ k)
    (x : Tx) (hx : x ∈ N.ins ∨ x ∈ N.cn) : fun_ defs (k + 1) ix_history [dN, dr, .str x] st = .ok (.v (histD T x rows.length)) st := by
  obtain ⟨k, rfl⟩ : ∃ j, k = j + 1 := ⟨k - 1, by omega⟩
  have hm := meaning_ok (k := k) (st := st) hg hr hs hd hdr hrk hrb hw (by omega)
  obtain ⟨di, dc, cs, e1, e2, e3, h⟩ := hd
  have a1 := any_str N.ins x
  by_cases hin : x ∈ N.ins
  · refine run_v (ρ := [some dN, some dr, some (.str x), none, none, none, none, none]) (fn_history _ _ _) ?_ rfl
    have e : ∀ body : D → St → R (Option D), (∀ e ∈ rows, body (evD e) st = .ok (some (oD (evGet e x))) st) → lcLoop [] body (rows.map evD) [] st = .ok (.tl (rows.map fun e => oD (evGet e x))) st := fun body hb => by
      have hb' : ∀ d ∈ rows.map evD, ∃ e ∈ rows, d = evD e ∧ body d st = .ok (some (oD (evGet e x))) st := fun d hd => by
        obtain ⟨e, he, rfl⟩ := List.mem_map.mp hd
        exact ⟨e, he, rfl, hb e he⟩
      have gen : ∀ (l : List Ev) (acc : List D), (∀ e ∈ l, e ∈ rows) → acc.length + l.length ≤ 1000 → lcLoop [] body (l.map evD) acc st = .ok (.tl (acc ++ l.map fun e => oD (evGet e x))) st := by
        intro l
        induction l with
        | nil => intro acc _ _; simp [lcLoop]
        | cons a l ih =>
          intro acc hl hn
          have hs : acc.length < szMax := by unfold szMax; simp at hn; omega
          rw [List.map_cons, lcLoop, if_pos alive_nil, hb a (hl a (by simp))]
          simp only [R.cut_ok, R.bi_ok, hs, if_true]
          rw [ih _ (fun e he => hl e (by simp [he])) (by simp at hn ⊢; omega)]
          simp
      have := gen rows [] (fun _ x => x) (by have := hr.len; simp; omega)
      simpa using this
    have e5 : (rows.map fun e => oD (evGet e x)) = (List.range rows.length).map fun j => oD (T x j) :=
      map_range rows _ _ fun i e he => by rw [hs.inp x hin i e he]
    simp [d_history, startE, e1, e2, a1, hin, all_flat_str, hdr]
    rw [e _ (fun e he => by simp [lcB, dct_ev e (hr.nd e he).1, evK_flat, evK_look])]
    simp [histD, e5]
  · have hcn : x ∈ N.cn := by rcases hx with h | h; exact absurd h hin; exact h
    obtain ⟨j, j1, j2⟩ := find_name N.cn x hcn
    refine run_v (ρ := [some dN, some dr, some (.str x), some (.int j), none, none, none, none]) (fn_history _ _ _) ?_ rfl
    have lcn := fun ρ (hρ : 5 < ρ.length) st => lc_names (F := fun_ defs (k + 1)) (i := 5) (j := 6) (ρ := ρ) h (by have := hg.len; omega) hρ (by omega) st
    have hj := (List.getElem?_eq_some_iff.mp j2).1
    have e : ∀ body : D → St → R (Option D), (∀ i, body (momD N T i) st = .ok (some (oD (T x i))) st) → lcLoop [] body ((List.range rows.length).map (momD N T)) [] st = .ok (.tl ((List.range rows.length).map fun i => oD (T x i))) st := fun body hb => by
      have gen : ∀ (l : List Nat) (acc : List D), acc.length + l.length ≤ 1000 → lcLoop [] body (l.map (momD N T)) acc st = .ok (.tl (acc ++ l.map fun i => oD (T x i))) st := by
        intro l
        induction l with
        | nil => intro acc _; simp [lcLoop]
        | cons a l ih =>
          intro acc hn
          have hs : acc.length < szMax := by unfold szMax; simp at hn; omega
          rw [List.map_cons, lcLoop, if_pos alive_nil, hb a]
          simp only [R.cut_ok, R.bi_ok, hs, if_true]
          rw [ih _ (by simp at hn ⊢; omega)]
          simp
      have := gen (List.range rows.length) [] (by have := hr.len; simp; omega)
      simpa using this
    have ea : ∀ i, atI (N.cn.map fun n => oD (T n i)) (j : Int) = some (oD (T x i)) := fun i => by
      rw [atI_nat _ _ (by omega) (by simp; omega)]
      simp [j2]
    simp [d_history, startE, e1, e2, e3, a1, hin, all_flat_str, hdr, lcn, hm, gc_len, j1]
    simp only [momsD]
    simp
    rw [e _ (fun i => by simp [lcB, momD, ea])]
    simp [histD]
end
end CM
end
section
/-! Q9: programs of places and slots: what do_line, do_kept, pushed, executed do. -/
namespace CM
open PM B
inductive Kp where
  | one (v : Option Int) | two (l r : List Int)
  deriving DecidableEq, Repr
def KpD (d : D) : Kp → Prop
  | .one v => d = oD v
  | .two l r => ∃ a b, IsT d [a, b] ∧ IsT a (iD l) ∧ IsT b (iD r)
inductive Ln where
  | put (p : Nat) (v : Int) | copy (p q : Nat) | there (p q : Nat) | pair (p : Nat) (w : PW) (q r : Nat) | turn (p q : Nat) (row : List Int) | gate (p q r : Nat) | els (p q r : Nat)
  | recall (p s : Nat) | drop (p q : Nat) | push (p s : Nat) (w : PW) (q r : Nat) | store (s q : Nat) (l : Bool) | skip (s : Nat)
  deriving DecidableEq, Repr
def nD (n : Nat) : D := .int (n : Int)
def LnD (d : D) : Ln → Prop
  | .put p v => IsT d [.str w_put, nD p, .int v]
  | .copy p q => IsT d [.str w_copy, nD p, nD q]
  | .there p q => IsT d [.str w_there, nD p, nD q]
  | .pair p w q r => IsT d [.str w_pair, nD p, .str w.tx, nD q, nD r]
  | .turn p q row => ∃ t, IsT d [.str w_turn, nD p, nD q, t] ∧ IsT t (iD row)
  | .gate p q r => IsT d [.str w_gate, nD p, nD q, nD r]
  | .els p q r => IsT d [.str w_else, nD p, nD q, nD r]
  | .recall p s => IsT d [.str w_recall, nD p, nD s]
  | .drop p q => IsT d [.str w_drop, nD p, nD q]
  | .push p s w q r => IsT d [.str w_push, nD p, nD s, .str w.tx, nD q, nD r]
  | .store s q l => IsT d [.str w_store, nD s, nD q, .int (if l then 1 else 0)]
  | .skip s => IsT d [.str w_store, nD s, .int (-1), .int 0]
abbrev Ms := List (Option Int) × List Kp
def wAt (m : Ms) (p : Nat) : Option Int := m.1.getD p none
def kAt (m : Ms) (s : Nat) : Kp := m.2.getD s (.one none)
def kOne : Kp → Option Int
  | .one v => v
  | _ => none
def Kp.l : Kp → List Int
  | .two l _ => l
  | _ => []
def Kp.r : Kp → List Int
  | .two _ r => r
  | _ => []
def pairL (size : Int) (w : PW) (A B : List Int) : Option Int × Kp :=
  match A, B with
  | a :: l, b :: r => (some (w.ev a b size), .two l r)
  | l, r => (none, .two l r)
theorem pairL_nil (size : Int) (w : PW) {A B : List Int} (h : A = [] ∨ B = []) : pairL size w A B = (none, .two A B) := by
  rcases h with h | h <;> subst h
  · rfl
  · cases A <;> rfl
def pushK (size : Int) (w : PW) (k : Kp) (x y : Option Int) : Option Int × Kp := pairL size w (k.l ++ x.toList) (k.r ++ y.toList)
def Ln.run (size : Int) (m : Ms) : Ln → Ms
  | .put p v => (m.1.set p (some v), m.2)
  | .copy p q => (m.1.set p (wAt m q), m.2)
  | .there p q => (m.1.set p (some (if (wAt m q).isNone then 0 else 1)), m.2)
  | .pair p w q r => (m.1.set p (match wAt m q, wAt m r with
    | some x, some y => some (w.ev x y size)
    | _, _ => none), m.2)
  | .turn p q row => (m.1.set p ((wAt m q).map (look row)), m.2)
  | .gate p q r => (m.1.set p (if wAt m r = none ∨ wAt m r = some 0 then none else wAt m q), m.2)
  | .els p q r => (m.1.set p (if (wAt m q).isNone then wAt m r else wAt m q), m.2)
  | .recall p s => (m.1.set p (kOne (kAt m s)), m.2)
  | .drop p q => (m.1.set p (if (wAt m q).isNone then none else wAt m p), m.2)
  | .push p s w q r => (m.1.set p (pushK size w (kAt m s) (wAt m q) (wAt m r)).1, m.2.set s (pushK size w (kAt m s) (wAt m q) (wAt m r)).2)
  | .store s q l => (m.1, if l ∨ wAt m q ≠ none then m.2.set s (.one (wAt m q)) else m.2)
  | .skip _ => m
def Kp.isOne : Kp → Bool
  | .one _ => true
  | _ => false
/-- its places and slots are there -/
def Ln.there_ (many : Nat) (ks : List Bool) (size : Int) : Ln → Prop
  | .put p v => p < many ∧ 0 ≤ v ∧ v < size
  | .copy p q => p < many ∧ q < many
  | .there p q => p < many ∧ q < many
  | .pair p _ q r => p < many ∧ q < many ∧ r < many
  | .turn p q row => p < many ∧ q < many ∧ (row.length : Int) = size ∧ ∀ v ∈ row, 0 ≤ v ∧ v < size
  | .gate p q r => p < many ∧ q < many ∧ r < many
  | .els p q r => p < many ∧ q < many ∧ r < many
  | .recall p s => p < many ∧ ks[s]? = some true
  | .drop p q => p < many ∧ q < many
  | .push p s _ q r => p < many ∧ ks[s]? = some false ∧ q < many ∧ r < many
  | .store s q _ => ks[s]? = some true ∧ q < many
  | .skip s => s < ks.length
def bdO (size : Int) (x : Option Int) : Prop := ∀ v, x = some v → 0 ≤ v ∧ v < size
structure Bd (size : Int) (c : Nat) (m : Ms) : Prop where
  w : ∀ x ∈ m.1, bdO size x
  k : ∀ x ∈ m.2, bdO size (kOne x) ∧ (∀ v ∈ x.l, 0 ≤ v ∧ v < size) ∧ (∀ v ∈ x.r, 0 ≤ v ∧ v < size)
  n : ∀ x ∈ m.2, x.l.length + x.r.length ≤ c
section
variable {k : Nat} {st : St} {wr sr : Nat} {size : Int}
/-- the two lists in the store -/
structure MsS (wr sr : Nat) (st : St) (m : Ms) : Prop where
  w : getL st wr = some (m.1.map oD)
  k : ∃ kd, getL st sr = some kd ∧ All2 KpD kd m.2
  ne : wr ≠ sr
theorem All2.get {α β : Type} {R : α → β → Prop} {l : List α} {m : List β} (h : All2 R l m) : ∀ {i : Nat} {b : β}, m[i]? = some b → ∃ a, l[i]? = some a ∧ R a b := by
  induction h with
  | nil => intro i b h; simp at h
  | cons r _ ih =>
    intro i b h
    cases i with
    | zero => simp at h; subst h; exact ⟨_, rfl, r⟩
    | succ i => simpa using ih (by simpa using h)
theorem All2.set {α β : Type} {R : α → β → Prop} {l : List α} {m : List β} (h : All2 R l m) {a : α} {b : β} (r : R a b) : ∀ i : Nat, All2 R (l.set i a) (m.set i b) := by
  induction h with
  | nil => intro i; exact .nil
  | cons r' h ih =>
    intro i
    cases i with
    | zero => exact .cons r h
    | succ i => exact .cons r' (ih i)
theorem wAt_get {m : Ms} {p : Nat} (h : p < m.1.length) : atI (m.1.map oD) (p : Int) = some (oD (wAt m p)) := by
  refine atI_some ?_
  simp [wAt, h]
/-- what becomes of the store -/
def Done (wr sr : Nat) (st : St) (m : Ms) (r : R A) : Prop := ∃ kd, r = .ok (.v .non) ((st.set wr (.lst (m.1.map oD))).set sr (.lst kd)) ∧ All2 KpD kd m.2
theorem done_w {m : Ms} (h : MsS wr sr st m) {ws : List (Option Int)} {r : R A} (e : r = .ok (.v .non) (st.set wr (.lst (ws.map oD)))) : Done wr sr st (ws, m.2) r := by
  obtain ⟨kd, h1, h2⟩ := h.k
  refine ⟨kd, ?_, h2⟩
  rw [e, set_keep (getL_at (l := kd) (by rw [getL_set, if_neg (fun e => h.ne e.1)]; exact h1))]
theorem done_k {m : Ms} (h : MsS wr sr st m) {ks : List Kp} {kd : List D} {r : R A} (e : r = .ok (.v .non) (st.set sr (.lst kd))) (h2 : All2 KpD kd ks) : Done wr sr st (m.1, ks) r := by
  refine ⟨kd, ?_, h2⟩
  rw [e, set_keep (getL_at h.w)]
theorem tupOf_pair {d : D} {a b : D} (h : tupOf (.v d) = some [a, b]) : True := trivial
theorem line_ok (d : D) (ln : Ln) (m : Ms) (ks : List Bool) (c : Nat) (hd : LnD d ln) (hs : MsS wr sr st m) (hk : m.2.map Kp.isOne = ks) (ht : ln.there_ m.1.length ks size) (hb : Bd size c m) (h0 : 0 < size) (h5 : size ≤ 5)
    (hp : ∀ p s w q r, ln ≠ .push p s w q r) : Done wr sr st (ln.run size m) (fun_ defs (k + 3) ix_do_line [d, .ref wr, .ref sr, .int size] st) := by
  have hw := hs.w
  have nK := getK_of_getL hw
  cases ln with
  | put p v =>
    simp only [LnD, nD] at hd
    refine done_w hs (run_n (ρ := [some d, some (.ref wr), some (.ref sr), some (.int size), some (.str w_put), some (nD p), none, none]) (fn_do_line _ _ _) ?_ rfl (by simp))
    have ix := ixN_nat (n := m.1.length) (m := p) ht.1
    simp [d_do_line, startE, hd, hw, nK, ix, setO, nD, List.map_set]
  | copy p q =>
    simp only [LnD, nD] at hd
    refine done_w hs (run_n (ρ := [some d, some (.ref wr), some (.ref sr), some (.int size), some (.str w_copy), some (nD p), none, none]) (fn_do_line _ _ _) ?_ rfl (by simp))
    have ix := ixN_nat (n := m.1.length) (m := p) ht.1
    simp [d_do_line, startE, hd, hw, nK, ix, setO, nD, List.map_set, wAt_get ht.2]
  | there p q =>
    simp only [LnD, nD] at hd
    refine done_w hs (run_n (ρ := [some d, some (.ref wr), some (.ref sr), some (.int size), some (.str w_there), some (nD p), none, none]) (fn_do_line _ _ _) ?_ rfl (by simp))
    have ix := ixN_nat (n := m.1.length) (m := p) ht.1
    have iq := wAt_get ht.2
    revert iq; generalize wAt m q = x; intro iq
    cases x <;> simp [d_do_line, startE, hd, hw, nK, ix, setO, nD, List.map_set, iq]
  | gate p q r =>
    simp only [LnD, nD] at hd
    refine done_w hs (run_n (ρ := [some d, some (.ref wr), some (.ref sr), some (.int size), some (.str w_gate), some (nD p), none, none]) (fn_do_line _ _ _) ?_ rfl (by simp))
    have ix := ixN_nat (n := m.1.length) (m := p) ht.1
    have iq := wAt_get ht.2.1
    have ir := wAt_get ht.2.2
    revert iq ir; generalize wAt m q = x; generalize wAt m r = y; intro iq ir
    cases y with
    | none => simp [d_do_line, startE, hd, hw, nK, ix, setO, nD, List.map_set, iq, ir]
    | some y => by_cases e : y = 0 <;> simp [d_do_line, startE, hd, hw, nK, ix, setO, nD, List.map_set, iq, ir, e, eq_comm (a := (0 : Int))]
  | els p q r =>
    simp only [LnD, nD] at hd
    refine done_w hs (run_n (ρ := [some d, some (.ref wr), some (.ref sr), some (.int size), some (.str w_else), some (nD p), none, none]) (fn_do_line _ _ _) ?_ rfl (by simp))
    have ix := ixN_nat (n := m.1.length) (m := p) ht.1
    have iq := wAt_get ht.2.1
    have ir := wAt_get ht.2.2
    revert iq ir; generalize wAt m q = x; generalize wAt m r = y; intro iq ir
    cases x <;> simp [d_do_line, startE, hd, hw, nK, ix, setO, nD, List.map_set, iq, ir]
  | turn p q row =>
    obtain ⟨t, hd, hd2⟩ := hd
    simp only [nD] at hd
    refine done_w hs (run_n (ρ := [some d, some (.ref wr), some (.ref sr), some (.int size), some (.str w_turn), some (nD p), none, none]) (fn_do_line _ _ _) ?_ rfl (by simp))
    have ix := ixN_nat (n := m.1.length) (m := p) ht.1
    have iq := wAt_get ht.2.1
    have hbd : bdO size (wAt m q) := hb.w _ (by unfold wAt; rw [List.getD_eq_getElem?_getD, List.getElem?_eq_getElem ht.2.1]; exact List.getElem_mem _)
    revert iq hbd; generalize wAt m q = x; intro iq hbd
    cases x with
    | none => simp [d_do_line, startE, hd, hw, nK, ix, setO, nD, List.map_set, iq]
    | some v =>
      have hv := hbd v rfl
      have e : atI (iD row) v = some (.int (look row v)) := by
        have hl2 := ht.2.2.1
        obtain ⟨n, rfl⟩ : ∃ n : Nat, v = (n : Int) := ⟨v.toNat, by omega⟩
        exact atI_iD row n (by omega)
      simp [d_do_line, startE, hd, hd2, hw, nK, ix, setO, nD, List.map_set, iq, e]
  | pair p w q r =>
    simp only [LnD, nD] at hd
    have ix := ixN_nat (n := m.1.length) (m := p) ht.1
    have iq := wAt_get ht.2.1
    have ir := wAt_get ht.2.2
    have hbd : bdO size (wAt m q) := hb.w _ (by unfold wAt; rw [List.getD_eq_getElem?_getD, List.getElem?_eq_getElem ht.2.1]; exact List.getElem_mem _)
    refine done_w hs (run_n (ρ := [some d, some (.ref wr), some (.ref sr), some (.int size), some (.str w_pair), some (nD p), some (oD (wAt m q)), some (oD (wAt m r))]) (fn_do_line _ _ _) ?_ rfl (by simp))
    revert iq ir hbd; generalize wAt m q = x; generalize wAt m r = y; intro iq ir hbd
    cases x with
    | none => simp [d_do_line, startE, hd, hw, nK, ix, setO, nD, List.map_set, iq, ir]
    | some x =>
      cases y with
      | none => simp [d_do_line, startE, hd, hw, nK, ix, setO, nD, List.map_set, iq, ir]
      | some y =>
        have hx := hbd x rfl
        have hx5 : 0 ≤ x ∧ x < 5 := by omega
        simp [d_do_line, startE, hd, hw, nK, ix, setO, nD, List.map_set, iq, ir, paired_ok, h0, hx5, gc_len]
  | push p s w q r => exact absurd rfl (hp p s w q r)
  | recall p s =>
    simp only [LnD, nD] at hd
    obtain ⟨kd, h1, h2⟩ := hs.k
    have ht1 : p < m.1.length := ht.1
    have ix := ixN_nat (n := m.1.length) (m := p) ht1
    obtain ⟨v, hv⟩ : ∃ v, m.2[s]? = some (.one v) := by
      have h3 := ht.2
      rw [← hk, List.getElem?_map] at h3
      cases e : m.2[s]? with
      | none => rw [e] at h3; cases h3
      | some x => cases x with
        | one v => exact ⟨v, rfl⟩
        | two l r => rw [e] at h3; cases h3
    obtain ⟨a, ha, ha2⟩ := h2.get hv
    simp only [KpD] at ha2
    subst ha2
    have hks : kOne (kAt m s) = v := by simp [kAt, hv, kOne]
    have kp : fun_ defs (k + 2) ix_do_kept [d, .ref wr, .ref sr, .int size] st = .ok (.v .non) (st.set wr (.lst ((m.1.set p v).map oD))) := by
      refine run_n (ρ := [some d, some (.ref wr), some (.ref sr), some (.int size), some (.str w_recall), some (nD p)]) (fn_do_kept _ _ _) ?_ rfl (by simp)
      simp [d_do_kept, startE, hd, hw, nK, ix, setO, nD, List.map_set, h1, atI_some ha]
    refine done_w hs (run_n (ρ := [some d, some (.ref wr), some (.ref sr), some (.int size), some (.str w_recall), some (nD p), none, none]) (fn_do_line _ _ _) ?_ rfl (by simp))
    simp [d_do_line, startE, hd, kp, gc_len, hks, nD]
  | drop p q =>
    simp only [LnD, nD] at hd
    have ix := ixN_nat (n := m.1.length) (m := p) ht.1
    have ip := wAt_get ht.1
    have iq := wAt_get ht.2
    have kp : fun_ defs (k + 2) ix_do_kept [d, .ref wr, .ref sr, .int size] st = .ok (.v .non) (st.set wr (.lst ((m.1.set p (if (wAt m q).isNone then none else wAt m p)).map oD))) := by
      refine run_n (ρ := [some d, some (.ref wr), some (.ref sr), some (.int size), some (.str w_drop), some (nD p)]) (fn_do_kept _ _ _) ?_ rfl (by simp)
      revert iq ip; generalize wAt m q = x; generalize wAt m p = y; intro ip iq
      cases x <;> simp [d_do_kept, startE, hd, hw, nK, ix, setO, nD, List.map_set, ip, iq]
    refine done_w hs (run_n (ρ := [some d, some (.ref wr), some (.ref sr), some (.int size), some (.str w_drop), some (nD p), none, none]) (fn_do_line _ _ _) ?_ rfl (by simp))
    simp [d_do_line, startE, hd, kp, gc_len, nD]
  | skip s =>
    simp only [LnD, nD] at hd
    have kp : fun_ defs (k + 2) ix_do_kept [d, .ref wr, .ref sr, .int size] st = .ok (.v .non) st := by
      refine run_n (ρ := [some d, some (.ref wr), some (.ref sr), some (.int size), some (.str w_store), some (nD s)]) (fn_do_kept _ _ _) ?_ rfl (by simp)
      simp [d_do_kept, startE, hd, nD]
    refine done_w hs ((run_n (ρ := [some d, some (.ref wr), some (.ref sr), some (.int size), some (.str w_store), some (nD s), none, none]) (st' := st) (fn_do_line _ _ _) ?_ rfl (by simp)).trans ?_)
    · simp [d_do_line, startE, hd, kp, gc_len, nD]
    · rw [set_keep (getL_at hw)]
  | store s q l =>
    simp only [LnD, nD] at hd
    obtain ⟨kd, h1, h2⟩ := hs.k
    have nK2 := getK_of_getL h1
    have iq := wAt_get ht.2
    have hsl : s < kd.length := by
      have := (List.getElem?_eq_some_iff.mp ht.1).1
      rw [← hk] at this
      rw [h2.len]; simpa using this
    have ix := ixN_nat (n := kd.length) (m := s) hsl
    have kp : fun_ defs (k + 2) ix_do_kept [d, .ref wr, .ref sr, .int size] st = .ok (.v .non) (st.set sr (.lst (if l ∨ wAt m q ≠ none then kd.set s (oD (wAt m q)) else kd))) := by
      refine run_n (ρ := [some d, some (.ref wr), some (.ref sr), some (.int size), some (.str w_store), some (nD s)]) (fn_do_kept _ _ _) ?_ rfl (by simp)
      revert iq; generalize wAt m q = x; intro iq
      cases l <;> cases x <;> simp [d_do_kept, startE, hd, hw, nK2, h1, ix, setO, nD, iq, set_keep (getL_at h1)]
    refine done_k hs (kd := if l ∨ wAt m q ≠ none then kd.set s (oD (wAt m q)) else kd) (run_n (ρ := [some d, some (.ref wr), some (.ref sr), some (.int size), some (.str w_store), some (nD s), none, none]) (fn_do_line _ _ _) ?_ rfl (by simp)) ?_
    · simp [d_do_line, startE, hd, kp, gc_len, nD]
    · split
      · exact h2.set (a := oD (wAt m q)) (b := .one (wAt m q)) rfl s
      · exact h2
end
end CM
end
section
namespace CM
open PM B
section
variable {k : Nat} {st : St} {wr sr : Nat} {size : Int}
theorem KpD.bel {d : D} {x : Kp} (h : KpD d x) (n : Nat) : d.bel n = true := by
  cases x with
  | one v => simp only [KpD] at h; rw [h]; exact bel_oD _ _
  | two l r =>
    obtain ⟨a, b, h1, h2, h3⟩ := h
    rw [bel_T h1]; simp [bel_T h2, bel_T h3, bels_iD]
theorem KpsD.bel {l : List D} {m : List Kp} (h : All2 KpD l m) (n : Nat) : D.bels n l = true := by
  rw [bels_all]
  intro d hd
  obtain ⟨x, _, r⟩ := h.left d hd
  exact r.bel n
theorem toPs_iD (st : St) (n : Nat) (l : List Int) : toPs (toP st n) (iD l) = some (l.map P.int) := by
  induction l with
  | nil => rfl
  | cons a l ih =>
    have e : toP st n (.int a) = some (.int a) := by cases n <;> rfl
    show toPs (toP st n) (.int a :: iD l) = _
    simp [toPs, e, ih]
theorem eqA_side {a : D} {l : List Int} (h : IsT a (iD l)) : eqA st (.v a) (.v (.tup [])) = some l.isEmpty := by
  have e : toP st eqN a = some (.tup (l.map P.int)) := by
    rcases IsT.cases h with rfl | rfl <;> simp [toP, eqN, toPs_iD]
  have e2 : toP st eqN (.tup []) = some (.tup []) := by simp [toP, eqN, toPs]
  simp only [eqA, toPA, e, e2]
  cases l <;> simp [P.eqv, P.eqvs]
theorem add_side {a : D} {l : List Int} (h : IsT a (iD l)) (v : Int) (hl : l.length ≤ 1000000) (st : St) : ∃ a', p_add [.v a, .v (.tup [.int v])] st = .ok (.v a') st ∧ IsT a' (iD (l ++ [v])) := by
  have hs : l.length + 1 ≤ szMax := by unfold szMax; omega
  cases l with
  | nil =>
    refine ⟨.tup [.int v], ?_, by simp [IsT, iD]⟩
    rcases IsT.cases h with rfl | rfl <;> simp [p_add, addA, tupOf, iD]
  | cons x l =>
    refine ⟨.tup (iD (x :: l) ++ [.int v]), ?_, by simp [IsT, iD]⟩
    have hs' : l.length + 1 + 1 ≤ szMax := by simpa using hs
    rcases IsT.cases h with rfl | rfl <;> simp [p_add, addA, tupOf, iD, hs']
theorem side_step {a : D} {l : List Int} (h : IsT a (iD l)) (x : Option Int) (hl : l.length ≤ 1000000) (F : FT) (st : St) (e0 e2 e3 e5 : Option D) (n : Nat) (q : Nat) (sl : List D) (hq : sl.length ≤ 100) (ws : List D)
    (hw : getL st wr = some ws) (hx : atI ws (q : Int) = some (oD x)) (hn : getL st n = some sl) :
    ∃ a', evSs F b_pushed_1 [e0, some (.ref wr), e2, e3, some (.ref n), some a, some (nD q)] st = .ok .nx [e0, some (.ref wr), e2, e3, some (.ref n), some a, some (nD q)] (st.set n (.lst (sl ++ [a']))) ∧ IsT a' (iD (l ++ x.toList)) := by
  have hq2 : sl.length ≤ 100000 := by omega
  cases x with
  | none => exact ⟨a, by simp [b_pushed_1, hn, hw, hx, nD, hq2], by simpa using h⟩
  | some v =>
    obtain ⟨a', h1, h2⟩ := add_side h v hl st
    exact ⟨a', by simp [b_pushed_1, hn, hw, hx, nD, hq2, h1], by simpa using h2⟩
theorem pushed_ok (d : D) (p s q r : Nat) (w : PW) (m : Ms) (c : Nat) (hd : LnD d (.push p s w q r)) (hs : MsS wr sr st m) (ht : s < m.2.length ∧ q < m.1.length ∧ r < m.1.length) (htw : (kAt m s).isOne = false)
    (hb : Bd size c m) (hc : c ≤ 500000) (h0 : 0 < size) (h5 : size ≤ 5) (hwf : Wf st) :
    ∃ kd x, getL st sr = some kd ∧ All2 KpD kd m.2 ∧ KpD x (pushK size w (kAt m s) (wAt m q) (wAt m r)).2 ∧
      fun_ defs (k + 2) ix_pushed [d, .ref wr, .ref sr, .int size] st = .ok (.v (oD (pushK size w (kAt m s) (wAt m q) (wAt m r)).1)) (st.set sr (.lst (kd.set s x))) := by
  obtain ⟨kd, k1, k2⟩ := hs.k
  simp only [LnD, nD] at hd
  have hw := hs.w
  have hm : m.2[s]? = some (kAt m s) := by simp [kAt, ht.1]
  have hmem : kAt m s ∈ m.2 := List.mem_of_getElem? hm
  obtain ⟨d0, g1, g2⟩ := k2.get hm
  have hbw := hb.k _ hmem
  have hbn := hb.n _ hmem
  have xq := wAt_get ht.2.1
  have xr := wAt_get ht.2.2
  have bq : bdO size (wAt m q) := hb.w _ (by unfold wAt; rw [List.getD_eq_getElem?_getD, List.getElem?_eq_getElem ht.2.1]; exact List.getElem_mem _)
  revert htw hbw hbn g2
  generalize kAt m s = kp
  intro htw g2 hbw hbn
  cases kp with
  | one v => cases htw
  | two l rr =>
    obtain ⟨a, b, g3, g4, g5⟩ := g2
    simp only [Kp.l, Kp.r] at hbw hbn
    have hlt := getL_lt hw
    have hlt2 := getL_lt k1
    have n1 : getL (st ++ [MO.lst []]) wr = some (m.1.map oD) := by rw [getL_app hlt]; exact hw
    have n2 : getL (st ++ [MO.lst []]) st.length = some [] := by rw [getL_new0]; rfl
    have n3 : getL (st ++ [MO.lst []]) sr = some kd := by rw [getL_app hlt2]; exact k1
    obtain ⟨a', s1, s2⟩ := side_step g4 (wAt m q) (by omega) (fun_ defs (k + 1)) (st ++ [MO.lst []]) (some d) (some (.ref sr)) (some (.int size)) none st.length q [] (by simp) _ n1 xq n2
    have S1 : (st ++ [MO.lst []]).set st.length (.lst ([] ++ [a'])) = st ++ [MO.lst [a']] := by rw [List.set_append_right _ _ (by omega)]; simp
    rw [S1] at s1
    have n4 : getL (st ++ [MO.lst [a']]) wr = some (m.1.map oD) := by rw [getL_app hlt]; exact hw
    have n5 : getL (st ++ [MO.lst [a']]) st.length = some [a'] := by rw [getL_new0]; rfl
    obtain ⟨b', s3, s4⟩ := side_step g5 (wAt m r) (by omega) (fun_ defs (k + 1)) (st ++ [MO.lst [a']]) (some d) (some (.ref sr)) (some (.int size)) none st.length r [a'] (by simp) _ n4 xr n5
    have S2 : (st ++ [MO.lst [a']]).set st.length (.lst ([a'] ++ [b'])) = st ++ [MO.lst [a', b']] := by rw [List.set_append_right _ _ (by omega)]; simp
    rw [S2] at s3
    have n6 : getL (st ++ [MO.lst [a', b']]) st.length = some [a', b'] := by rw [getL_new0]; rfl
    have n7 : getL (st ++ [MO.lst [a', b']]) sr = some kd := by rw [getL_app hlt2]; exact k1
    have nK := getK_of_getL n7
    have q1 := eqA_side (st := st ++ [MO.lst [a', b']]) s2
    have q2 := eqA_side (st := st ++ [MO.lst [a', b']]) s4
    have hsl : s < kd.length := by rw [k2.len]; exact ht.1
    have ix := ixN_nat hsl
    have fr : frl (fun_ defs (k + 1)) (.tp [5, 6]) b_pushed_1 [] [.tup [a, nD q], .tup [b, nD r]] [some d, some (.ref wr), some (.ref sr), some (.int size), some (.ref st.length), none, none] (st ++ [MO.lst []])
        = .ok .nx [some d, some (.ref wr), some (.ref sr), some (.int size), some (.ref st.length), some b, some (nD r)] (st ++ [MO.lst [a', b']]) := by
      rw [frl_cons (ρ2 := [some d, some (.ref wr), some (.ref sr), some (.int size), some (.ref st.length), some a, some (nD q)]) rfl rfl, s1]
      simp only [RS.lp_nx]
      rw [frl_cons (ρ2 := [some d, some (.ref wr), some (.ref sr), some (.int size), some (.ref st.length), some b, some (nD r)]) rfl rfl, s3]
      simp only [RS.lp_nx]
      rw [frl_nil rfl]
    simp only [nD] at fr
    have belK : ∀ x, D.bel st.length x = true → MO.bel st.length (.lst (kd.set s x)) = true := fun x hx => by
      rw [bel_lst, bels_all]
      intro y hy
      rcases List.mem_or_eq_of_mem_set hy with h | h
      · obtain ⟨z, _, h2⟩ := k2.left y h
        exact h2.bel _
      · rw [h]; exact hx
    have belT : ∀ {x : D} {l : List Int}, IsT x (iD l) → D.bel st.length x = true := fun h => by rw [bel_T h]; exact bels_iD _ _
    have key : ∀ (v x : D), evSs (fun_ defs (k + 1)) d_pushed.body (startE d_pushed.slots [d, .ref wr, .ref sr, .int size]) st = .ok (.rt (.v v)) [some d, some (.ref wr), some (.ref sr), some (.int size), some (.ref st.length), some b, some (.int (r : Int))]
        ((st.set sr (.lst (kd.set s x))) ++ [MO.lst [a', b']]) → D.bel st.length v = true → D.bel st.length x = true → fun_ defs (k + 2) ix_pushed [d, .ref wr, .ref sr, .int size] st = .ok (.v v) (st.set sr (.lst (kd.set s x))) := fun v x e hv hx =>
      run_g (fn_pushed _ _ _) e rfl hv hwf (belK x hx)
    have L : ∀ x, (st.set sr (.lst (kd.set s x))).length = st.length := fun x => by simp
    have n8 : ∀ x, getL (st.set sr (.lst (kd.set s x)) ++ [MO.lst [a', b']]) st.length = some [a', b'] := fun x => by rw [← L x, getL_new0]; rfl
    have S3 : ∀ x, (st ++ [MO.lst [a', b']]).set sr (.lst (kd.set s x)) = st.set sr (.lst (kd.set s x)) ++ [MO.lst [a', b']] := fun x => List.set_append_left _ _ hlt2
    revert s2 s4 q1 q2
    unfold pushK
    simp only [Kp.l, Kp.r]
    generalize hA : l ++ (wAt m q).toList = A
    generalize hB : rr ++ (wAt m r).toList = B
    intro s2 s4 q1 q2
    have bA := belT s2
    have bB := belT s4
    have hAb : ∀ v ∈ A, 0 ≤ v ∧ v < size := by
      rw [← hA]
      intro v hv
      rcases List.mem_append.mp hv with h | h
      · exact hbw.2.1 v h
      · exact bq v (by simpa using h)
    by_cases hN : A = [] ∨ B = []
    · rw [pairL_nil _ _ hN]
      refine ⟨kd, .tup [a', b'], k1, k2, ⟨a', b', rfl, s2, s4⟩, ?_⟩
      · refine key _ _ ?_ rfl (by simp [bA, bB])
        rcases hN with h | h
        · subst h
          simp [d_pushed, startE, hd, k1, n3, atI_some g1, g3, sIx, cut, zipD, fr, n6, n7, q1, nK, ix, setO, S3]
        · subst h
          cases A <;> simp [d_pushed, startE, hd, k1, n3, atI_some g1, g3, sIx, cut, zipD, fr, n6, n7, q1, q2, nK, ix, setO, S3]
    · cases A with
      | nil => exact absurd (.inl rfl) hN
      | cons x A =>
        cases B with
        | nil => exact absurd (.inr rfl) hN
        | cons y B =>
          have cA : ∀ z (l : List Int), cut (iD (z :: l)) (some 1) none = iD l := fun z l => by simp [cut, sIx, iD]; exact List.take_of_length_le (by simp)
          refine ⟨kd, .tup [.tup (iD A), .tup (iD B)], k1, k2, ⟨_, _, rfl, rfl, rfl⟩, ?_⟩
          have c4 : ∀ a b c d e f : D, cut [a, b, c, d, e, f] (some 4) none = [e, f] := fun a b c d e f => by simp [cut, sIx]
          have hx := hAb x (by simp)
          have hx5 : 0 ≤ x ∧ x < 5 := by omega
          have iA : atI (iD (x :: A)) 0 = some (.int x) := atI_zero _ _
          have iB : atI (iD (y :: B)) 0 = some (.int y) := atI_zero _ _
          refine key _ _ ?_ rfl (by simp [bels_iD])
          simp [d_pushed, startE, hd, k1, n3, atI_some g1, g3, sIx, zipD, fr, n6, n7, q1, q2, nK, ix, setO, S3, s2, s4, cA, c4, n8, iA, iB, paired_ok, h0, hx5, gc_len]
          rfl
theorem push_ok (d : D) (p s q r : Nat) (w : PW) (m : Ms) (ks : List Bool) (c : Nat) (hd : LnD d (.push p s w q r)) (hs : MsS wr sr st m) (hk : m.2.map Kp.isOne = ks) (ht : (Ln.push p s w q r).there_ m.1.length ks size)
    (hb : Bd size c m) (hc : c ≤ 500000) (h0 : 0 < size) (h5 : size ≤ 5) (hwf : Wf st) :
    Done wr sr st ((Ln.push p s w q r).run size m) (fun_ defs (k + 4) ix_do_line [d, .ref wr, .ref sr, .int size] st) := by
  have hsl : s < m.2.length := by
    have := (List.getElem?_eq_some_iff.mp ht.2.1).1
    rw [← hk] at this; simpa using this
  have htw : (kAt m s).isOne = false := by
    have h3 := ht.2.1
    rw [← hk, List.getElem?_map] at h3
    have hm : m.2[s]? = some (kAt m s) := by simp [kAt, hsl]
    rw [hm] at h3
    simpa using h3
  obtain ⟨kd, x, k1, k2, k3, k4⟩ := pushed_ok (k := k) (st := st) d p s q r w m c hd hs ⟨hsl, ht.2.2.1, ht.2.2.2⟩ htw hb hc h0 h5 hwf
  simp only [LnD, nD] at hd
  have hw := hs.w
  have hne := hs.ne
  have hw2 : getL (st.set sr (.lst (kd.set s x))) wr = some (m.1.map oD) := by rw [getL_set, if_neg (fun e => hne e.1.symm)]; exact hw
  have nK := getK_of_getL hw2
  have ix := ixN_nat (n := m.1.length) (m := p) ht.1
  have kp : fun_ defs (k + 3) ix_do_kept [d, .ref wr, .ref sr, .int size] st = .ok (.v .non) ((st.set sr (.lst (kd.set s x))).set wr (.lst ((m.1.set p (pushK size w (kAt m s) (wAt m q) (wAt m r)).1).map oD))) := by
    refine run_n (ρ := [some d, some (.ref wr), some (.ref sr), some (.int size), some (.str w_push), some (nD p)]) (fn_do_kept _ _ _) ?_ rfl (by simp)
    simp [d_do_kept, startE, hd, k4, gc_len, hw2, nK, ix, setO, nD, List.map_set]
  refine ⟨kd.set s x, ?_, k2.set k3 s⟩
  rw [List.set_comm _ _ hne]
  refine run_n (ρ := [some d, some (.ref wr), some (.ref sr), some (.int size), some (.str w_push), some (nD p), none, none]) (fn_do_line _ _ _) ?_ rfl (by simp)
  simp [d_do_line, startE, hd, kp, gc_len, nD, List.map_set, Ln.run]
end
end CM
end
section
namespace CM
open PM B
section
variable {k : Nat} {st : St} {wr sr : Nat} {size : Int}
theorem ev_bd (w : PW) (x y size : Int) (h : 2 ≤ size) (hx : 0 ≤ x ∧ x < size) (hy : 0 ≤ y ∧ y < size) : 0 ≤ w.ev x y size ∧ w.ev x y size < size := by
  cases w <;> simp only [PW.ev]
  · exact ⟨Int.emod_nonneg _ (by omega), Int.emod_lt_of_pos _ (by omega)⟩
  · exact ⟨Int.emod_nonneg _ (by omega), Int.emod_lt_of_pos _ (by omega)⟩
  · split <;> omega
  · split <;> omega
  · split <;> omega
  · split <;> omega
theorem Bd.wAt {c : Nat} {m : Ms} (h : Bd size c m) (p : Nat) : bdO size (wAt m p) := by
  unfold CM.wAt
  by_cases hp : p < m.1.length
  · rw [List.getD_eq_getElem?_getD, List.getElem?_eq_getElem hp]
    exact h.w _ (List.getElem_mem _)
  · rw [List.getD_eq_getElem?_getD, List.getElem?_eq_none (by omega)]
    intro v hv; cases hv
theorem Bd.kAt {c : Nat} {m : Ms} (h : Bd size c m) (s : Nat) : bdO size (kOne (kAt m s)) ∧ (∀ v ∈ (CM.kAt m s).l, 0 ≤ v ∧ v < size) ∧ (∀ v ∈ (CM.kAt m s).r, 0 ≤ v ∧ v < size) ∧ (CM.kAt m s).l.length + (CM.kAt m s).r.length ≤ c := by
  unfold CM.kAt
  by_cases hp : s < m.2.length
  · rw [List.getD_eq_getElem?_getD, List.getElem?_eq_getElem hp]
    have := h.k _ (List.getElem_mem hp)
    exact ⟨this.1, this.2.1, this.2.2, h.n _ (List.getElem_mem hp)⟩
  · rw [List.getD_eq_getElem?_getD, List.getElem?_eq_none (by omega)]
    exact ⟨fun v hv => (by cases hv), by simp [Kp.l], by simp [Kp.r], by simp [Kp.l, Kp.r]⟩
theorem Bd.setW {c : Nat} {m : Ms} (h : Bd size c m) (p : Nat) (x : Option Int) (hx : bdO size x) : Bd size c (m.1.set p x, m.2) where
  w := fun y hy => by
    rcases List.mem_or_eq_of_mem_set hy with h1 | h1
    · exact h.w y h1
    · rw [h1]; exact hx
  k := h.k
  n := h.n
theorem Bd.setK {c : Nat} {m : Ms} (h : Bd size c m) (s : Nat) (x : Kp) (hx : bdO size (kOne x) ∧ (∀ v ∈ x.l, 0 ≤ v ∧ v < size) ∧ (∀ v ∈ x.r, 0 ≤ v ∧ v < size)) (hn : x.l.length + x.r.length ≤ c) : Bd size c (m.1, m.2.set s x) where
  w := h.w
  k := fun y hy => by
    rcases List.mem_or_eq_of_mem_set hy with h1 | h1
    · exact h.k y h1
    · rw [h1]; exact hx
  n := fun y hy => by
    rcases List.mem_or_eq_of_mem_set hy with h1 | h1
    · exact h.n y h1
    · rw [h1]; exact hn
theorem Bd.le {c c' : Nat} {m : Ms} (h : Bd size c m) (hc : c ≤ c') : Bd size c' m := ⟨h.w, h.k, fun x hx => Nat.le_trans (h.n x hx) hc⟩
theorem look_bd {row : List Int} {v : Int} (hv : 0 ≤ v ∧ v < size) (hl : (row.length : Int) = size) (hr : ∀ x ∈ row, 0 ≤ x ∧ x < size) : 0 ≤ look row v ∧ look row v < size := by
  apply hr
  unfold look
  have : v.toNat < row.length := by omega
  rw [List.getD_eq_getElem?_getD, List.getElem?_eq_getElem this]
  exact List.getElem_mem _
theorem run_bd {c : Nat} {m : Ms} {ks : List Bool} (h : Bd size c m) (ln : Ln) (h2 : 2 ≤ size) (ht : ln.there_ m.1.length ks size) : Bd size (c + 2) (ln.run size m) := by
  have hc : c ≤ c + 2 := by omega
  have one : bdO size (some 1) := fun v hv => by cases hv; omega
  have zero : bdO size (some 0) := fun v hv => by cases hv; omega
  have non : bdO size none := fun v hv => by cases hv
  cases ln with
  | put p v => exact (h.setW p _ (fun x hx => by cases hx; exact ht.2)).le hc
  | copy p q => exact (h.setW p _ (h.wAt q)).le hc
  | there p q => exact (h.setW p _ (by split; exact zero; exact one)).le hc
  | pair p w q r =>
    refine (h.setW p _ ?_).le hc
    have hq := h.wAt q
    have hr := h.wAt r
    revert hq hr
    generalize wAt m q = x; generalize wAt m r = y
    intro hq hr
    cases x with
    | none => exact non
    | some x => cases y with
      | none => exact non
      | some y => exact fun v hv => (by cases hv; exact ev_bd w x y size h2 (hq x rfl) (hr y rfl))
  | turn p q row =>
    refine (h.setW p _ ?_).le hc
    have hq := h.wAt q
    revert hq
    generalize wAt m q = x
    intro hq
    cases x with
    | none => exact non
    | some x => exact fun v hv => (by cases hv; exact look_bd (hq x rfl) ht.2.2.1 ht.2.2.2)
  | gate p q r => exact (h.setW p _ (by split; exact non; exact h.wAt q)).le hc
  | els p q r => exact (h.setW p _ (by split; exact h.wAt r; exact h.wAt q)).le hc
  | recall p s => exact (h.setW p _ (h.kAt s).1).le hc
  | drop p q => exact (h.setW p _ (by split; exact non; exact h.wAt p)).le hc
  | push p s w q r =>
    have hk := h.kAt s
    have hq := h.wAt q
    have hr := h.wAt r
    show Bd size (c + 2) (m.1.set p (pushK size w (kAt m s) (wAt m q) (wAt m r)).1, m.2.set s (pushK size w (kAt m s) (wAt m q) (wAt m r)).2)
    revert hk hq hr
    generalize kAt m s = kp; generalize wAt m q = x; generalize wAt m r = y
    intro hk hq hr
    unfold pushK
    have hA : ∀ v ∈ kp.l ++ x.toList, 0 ≤ v ∧ v < size := fun v hv => by
      rcases List.mem_append.mp hv with h | h
      · exact hk.2.1 v h
      · exact hq v (by simpa using h)
    have hB : ∀ v ∈ kp.r ++ y.toList, 0 ≤ v ∧ v < size := fun v hv => by
      rcases List.mem_append.mp hv with h | h
      · exact hk.2.2.1 v h
      · exact hr v (by simpa using h)
    have hl : (kp.l ++ x.toList).length + (kp.r ++ y.toList).length ≤ c + 2 := by
      have h1 : x.toList.length ≤ 1 := by cases x <;> simp
      have h2 : y.toList.length ≤ 1 := by cases y <;> simp
      simp only [List.length_append]; omega
    revert hA hB hl
    generalize kp.l ++ x.toList = A; generalize kp.r ++ y.toList = B
    intro hA hB hl
    have fin : bdO size (pairL size w A B).1 ∧ (∀ v ∈ (pairL size w A B).2.l, 0 ≤ v ∧ v < size) ∧ (∀ v ∈ (pairL size w A B).2.r, 0 ≤ v ∧ v < size) ∧ (pairL size w A B).2.l.length + (pairL size w A B).2.r.length ≤ c + 2 ∧ kOne (pairL size w A B).2 = none := by
      by_cases hN : A = [] ∨ B = []
      · rw [pairL_nil _ _ hN]
        exact ⟨non, hA, hB, hl, rfl⟩
      · cases A with
        | nil => exact absurd (.inl rfl) hN
        | cons a A => cases B with
          | nil => exact absurd (.inr rfl) hN
          | cons b B =>
            refine ⟨fun v hv => ?_, fun v hv => hA v (by simp [show v ∈ A from hv]), fun v hv => hB v (by simp [show v ∈ B from hv]), ?_, rfl⟩
            · have : w.ev a b size = v := by simpa [pairL] using hv
              rw [← this]; exact ev_bd w a b size h2 (hA a (by simp)) (hB b (by simp))
            · simp only [pairL, Kp.l, Kp.r, List.length_cons] at hl ⊢; omega
    exact ((h.le hc).setK s _ ⟨by rw [fin.2.2.2.2]; exact non, fin.2.1, fin.2.2.1⟩ fin.2.2.2.1).setW p _ fin.1
  | store s q l =>
    show Bd size (c + 2) (m.1, if l ∨ wAt m q ≠ none then m.2.set s (.one (wAt m q)) else m.2)
    split
    · exact (h.setK s (.one (wAt m q)) ⟨(show bdO size (kOne (.one (wAt m q))) from h.wAt q), by simp [Kp.l], by simp [Kp.r]⟩ (by simp [Kp.l, Kp.r])).le hc
    · exact (show Bd size c (m.1, m.2) from h).le hc
  | skip s => exact h.le hc
theorem map_set_same {α β : Type} (f : α → β) (l : List α) (s : Nat) (x : α) (h : ∀ y, l[s]? = some y → f x = f y) : (l.set s x).map f = l.map f := by
  rw [List.map_set]
  refine List.ext_getElem? fun i => ?_
  rw [List.getElem?_set]
  split
  · rename_i e
    subst e
    split
    · rename_i h1
      have h1' : s < l.length := by simpa using h1
      rw [List.getElem?_map, List.getElem?_eq_getElem h1']
      simp [h _ (List.getElem?_eq_getElem h1')]
    · rename_i h1
      rw [List.getElem?_eq_none (by omega)]
  · rfl
theorem run_shape {m : Ms} {ks : List Bool} (ln : Ln) (hk : m.2.map Kp.isOne = ks) (ht : ln.there_ m.1.length ks size) : (ln.run size m).1.length = m.1.length ∧ (ln.run size m).2.map Kp.isOne = ks := by
  cases ln <;> simp only [Ln.run, List.length_set] <;> try exact ⟨trivial, hk⟩
  case push p s w q r =>
    refine ⟨trivial, ?_⟩
    rw [map_set_same, hk]
    intro y hy
    have h3 := ht.2.1
    rw [← hk, List.getElem?_map, hy] at h3
    have h4 : y.isOne = false := by simpa using h3
    rw [h4]
    unfold pushK
    by_cases hN : (kAt m s).l ++ (wAt m q).toList = [] ∨ (kAt m s).r ++ (wAt m r).toList = []
    · rw [pairL_nil _ _ hN]; rfl
    · revert hN
      generalize (kAt m s).l ++ (wAt m q).toList = A; generalize (kAt m s).r ++ (wAt m r).toList = B
      intro hN
      cases A with
      | nil => exact absurd (.inl rfl) hN
      | cons a A => cases B with
        | nil => exact absurd (.inr rfl) hN
        | cons b B => rfl
  case store s q l =>
    refine ⟨trivial, ?_⟩
    split
    · rw [map_set_same, hk]
      intro y hy
      have h3 := ht.1
      rw [← hk, List.getElem?_map, hy] at h3
      have h4 : y.isOne = true := by simpa using h3
      rw [h4]; rfl
    · exact hk
end
end CM
end
section
/-! Q12: executed, executed_all. -/
namespace CM
open PM B
def runLns (size : Int) (m : Ms) (lns : List Ln) : Ms := lns.foldl (fun m ln => ln.run size m) m
structure Prog where
  size : Int
  ins : List Tx
  many : Nat
  keeps : List Kp
  lines : List Ln
  shown : List Nat
def ProgD (d : D) (P : Prog) : Prop := ∃ di dk dl kl ll ds, IsT d [.int P.size, di, nD P.many, dk, dl, ds] ∧ IsT di (sD P.ins) ∧ IsT dk kl ∧ All2 KpD kl P.keeps ∧ IsT dl ll ∧ All2 LnD ll P.lines ∧ IsT ds (P.shown.map nD)
structure Prog.Good (P : Prog) : Prop where
  s2 : 2 ≤ P.size
  s5 : P.size ≤ 5
  many : P.many ≤ 1000
  ins : P.ins.length ≤ P.many
  lns : P.lines.length ≤ 200
  there_ : ∀ ln ∈ P.lines, ln.there_ P.many (P.keeps.map Kp.isOne) P.size
  shown : ∀ p ∈ P.shown, p < P.many
  sl : P.shown.length ≤ 1000
  kl : P.keeps.length ≤ 1000
def Prog.ws0 (P : Prog) (e : Ev) : List (Option Int) := P.ins.map (evGet e) ++ List.replicate (P.many - P.ins.length) none
def Prog.exec (P : Prog) (ks : List Kp) (e : Ev) : Ms := runLns P.size (P.ws0 e, ks) P.lines
def Prog.mom (P : Prog) (m : Ms) : List (Option Int) := P.shown.map (wAt m)
/-- the keeps along a row of events -/
def Prog.ks (P : Prog) (rows : List Ev) : Nat → List Kp
  | 0 => P.keeps
  | j + 1 => (P.exec (P.ks rows j) (rows.getD j [])).2
section
variable {k : Nat} {st : St} {wr sr : Nat} {size : Int}
theorem lines_ok (h2 : 2 ≤ size) (h5 : size ≤ 5) (ks : List Bool) (many : Nat) (e0 e1 e2 e4 e5 e6 e7 e8 e10 e11 e12 e15 : Option D) :
    ∀ (lns : List Ln) (ld : List D) (c : Nat) (m : Ms) (st : St) (e14 : Option D), All2 LnD ld lns → (∀ ln ∈ lns, ln.there_ many ks size) → m.1.length = many → m.2.map Kp.isOne = ks → Bd size c m → c + 2 * lns.length ≤ 500000 →
      MsS wr sr st m → Wf st → ∃ kd e14', frl (fun_ defs (k + 4)) (.nm 14) b_executed_2 [] ld [e0, e1, e2, some (.int size), e4, e5, e6, e7, e8, some (.ref wr), e10, e11, e12, some (.ref sr), e14, e15] st =
        .ok .nx [e0, e1, e2, some (.int size), e4, e5, e6, e7, e8, some (.ref wr), e10, e11, e12, some (.ref sr), e14', e15] ((st.set wr (.lst ((runLns size m lns).1.map oD))).set sr (.lst kd)) ∧ All2 KpD kd (runLns size m lns).2
  | [], ld, c, m, st, e14, hd, _, _, _, _, _, hs, _ => by
    cases hd
    obtain ⟨kd, k1, k2⟩ := hs.k
    refine ⟨kd, e14, ?_, k2⟩
    rw [frl_nil rfl]
    show _ = RS.ok .nx _ ((st.set wr (.lst (m.1.map oD))).set sr (.lst kd))
    rw [set_keep (getL_at hs.w), set_keep (getL_at k1)]
  | ln :: lns, _, c, m, st, e14, .cons (a := d) (as := ld) r hd, ht, hl, hk, hb, hc, hs, hw => by
    have ht0 := ht ln (by simp)
    rw [← hl] at ht0
    have done : Done wr sr st (ln.run size m) (fun_ defs (k + 4) ix_do_line [d, .ref wr, .ref sr, .int size] st) := by
      by_cases hp : ∃ p s w q r, ln = .push p s w q r
      · obtain ⟨p, s, w, q, r', rfl⟩ := hp
        exact push_ok (k := k) d p s q r' w m ks c r hs hk ht0 hb (by simp at hc; omega) (by omega) h5 hw
      · exact line_ok (k := k + 1) d ln m ks c r hs hk ht0 hb (by omega) h5 (fun p s w q r e => hp ⟨p, s, w, q, r, e⟩)
    obtain ⟨kd1, q1, q2⟩ := done
    have sh := run_shape (size := size) ln hk ht0
    have hlw := getL_lt hs.w
    have hls : sr < st.length := by obtain ⟨kd, k1, _⟩ := hs.k; exact getL_lt k1
    have hs' : MsS wr sr ((st.set wr (.lst ((ln.run size m).1.map oD))).set sr (.lst kd1)) (ln.run size m) :=
      { w := by rw [getL_set, if_neg (fun e => hs.ne e.1.symm), getL_set, if_pos ⟨rfl, hlw⟩]
        k := ⟨kd1, by rw [getL_set, if_pos ⟨rfl, by simpa using hls⟩], q2⟩
        ne := hs.ne }
    have hw1 : Wf (st.set wr (.lst ((ln.run size m).1.map oD))) := hw.set (bels_map _ _ _ fun _ _ => bel_oD _ _)
    have hw' : Wf ((st.set wr (.lst ((ln.run size m).1.map oD))).set sr (.lst kd1)) := hw1.set (KpsD.bel q2 _)
    obtain ⟨kd2, e14', p1, p2⟩ := lines_ok h2 h5 ks many e0 e1 e2 e4 e5 e6 e7 e8 e10 e11 e12 e15 lns ld (c + 2) (ln.run size m) _ (some d) hd (fun l hl => ht l (by simp [hl])) (sh.1.trans hl) sh.2 (run_bd hb ln h2 ht0) (by simp at hc; omega) hs' hw'
    refine ⟨kd2, e14', ?_, p2⟩
    have hstep : evSs (fun_ defs (k + 4)) b_executed_2 [e0, e1, e2, some (.int size), e4, e5, e6, e7, e8, some (.ref wr), e10, e11, e12, some (.ref sr), some d, e15] st =
        .ok .nx [e0, e1, e2, some (.int size), e4, e5, e6, e7, e8, some (.ref wr), e10, e11, e12, some (.ref sr), some d, e15] ((st.set wr (.lst ((ln.run size m).1.map oD))).set sr (.lst kd1)) := by
      simp [b_executed_2, q1, gc_len]
    rw [frl_cons (ρ2 := [e0, e1, e2, some (.int size), e4, e5, e6, e7, e8, some (.ref wr), e10, e11, e12, some (.ref sr), some d, e15]) rfl rfl, hstep, RS.lp_nx, p1]
    have e : ∀ A B A' B' : MO, (((st.set wr A).set sr B).set wr A').set sr B' = (st.set wr A').set sr B' := fun A B A' B' => by
      rw [List.set_comm _ _ (fun h => hs.ne h.symm), List.set_set, List.set_set]
    rw [e]
    rfl
theorem ins_loop (F : FT) (e : Ev) (he : (e.map (·.1)).Nodup) (n wr tr : Nat) (e0 e1 e2 e3 e4 e5 e6 e7 e8 e13 e14 e15 : Option D) :
    ∀ (ins : List Tx) (pre : List (Option Int)) (st : St) (e11 e12 : Option D), getL st wr = some ((pre ++ List.replicate n none).map oD) → ins.length ≤ n → getK st tr = some (evK e) →
      ∃ e11' e12', frl F (.tp [11, 12]) b_executed_1 [] (enuD pre.length (sD ins)) [e0, e1, e2, e3, e4, e5, e6, e7, e8, some (.ref wr), some (.ref tr), e11, e12, e13, e14, e15] st =
        .ok .nx [e0, e1, e2, e3, e4, e5, e6, e7, e8, some (.ref wr), some (.ref tr), e11', e12', e13, e14, e15] (st.set wr (.lst ((pre ++ ins.map (evGet e) ++ List.replicate (n - ins.length) none).map oD)))
  | [], pre, st, e11, e12, hw, _, _ => by
    refine ⟨e11, e12, ?_⟩
    show frl F _ _ _ [] _ _ = _
    rw [frl_nil rfl]
    simp only [List.map_nil, List.append_nil, List.length_nil, Nat.sub_zero]
    rw [set_keep (getL_at hw)]
  | x :: ins, pre, st, e11, e12, hw, hn, hk => by
    obtain ⟨n, rfl⟩ : ∃ m, n = m + 1 := ⟨n - 1, by simp at hn; omega⟩
    have hlt := getL_lt hw
    have nK := getK_of_getL hw
    have hne : wr ≠ tr := fun h => by subst h; rw [nK] at hk; cases hk
    have ix : ixN ((pre ++ List.replicate (n + 1) none).map oD).length (pre.length : Int) = some pre.length := ixN_nat (by simp)
    have E : ((pre ++ List.replicate (n + 1) (none : Option Int)).map oD).set pre.length (oD (evGet e x)) = ((pre ++ [evGet e x]) ++ List.replicate n none).map oD := by
      rw [List.map_append, List.set_append_right _ _ (by simp)]
      simp [List.replicate_succ]
    have hstep : evSs F b_executed_1 [e0, e1, e2, e3, e4, e5, e6, e7, e8, some (.ref wr), some (.ref tr), some (.int pre.length), some (.str x), e13, e14, e15] st =
        .ok .nx [e0, e1, e2, e3, e4, e5, e6, e7, e8, some (.ref wr), some (.ref tr), some (.int pre.length), some (.str x), e13, e14, e15] (st.set wr (.lst (((pre ++ [evGet e x]) ++ List.replicate n none).map oD))) := by
      have askE : askOk (evK e) (.str x) = true := by simp [askOk, evK_flat]
      have lkE := evK_look e x
      simp only [b_executed_1, evSs_cons, evSs_nil, evS_asg, assign_sub]
      have ix' : ixN (pre.length + (n + 1)) (pre.length : Int) = some pre.length := ixN_nat (by omega)
      simp [hk, askE, lkE, nK, hw, ix', setO]
      simp [List.replicate_succ]
    obtain ⟨e11', e12', p1⟩ := ins_loop F e he n wr tr e0 e1 e2 e3 e4 e5 e6 e7 e8 e13 e14 e15 ins (pre ++ [evGet e x]) (st.set wr (.lst (((pre ++ [evGet e x]) ++ List.replicate n none).map oD))) (some (.int pre.length)) (some (.str x))
      (by rw [getL_set, if_pos ⟨rfl, hlt⟩]) (by simp at hn; omega) (by rw [getK_set, if_neg (fun h => hne h.1)]; exact hk)
    refine ⟨e11', e12', ?_⟩
    show frl F _ _ _ (.tup [.int pre.length, .str x] :: enuD (pre.length + 1) (sD ins)) _ _ = _
    rw [frl_cons (ρ2 := [e0, e1, e2, e3, e4, e5, e6, e7, e8, some (.ref wr), some (.ref tr), some (.int pre.length), some (.str x), e13, e14, e15]) rfl rfl, hstep, RS.lp_nx]
    have hl : (pre ++ [evGet e x]).length = pre.length + 1 := by simp
    rw [hl] at p1
    rw [p1, List.set_set]
    simp
theorem kps_T {d : D} {kl : List D} (h : IsT d kl) : True := trivial
theorem executed_ok (P : Prog) (hP : P.Good) (dP dk : D) (kl : List D) (ks : List Kp) (e : Ev) (he : (e.map (·.1)).Nodup) (c : Nat) (hd : ProgD dP P) (hk : IsT dk kl) (hkl : All2 KpD kl ks) (hsh : ks.map Kp.isOne = P.keeps.map Kp.isOne)
    (hb : Bd P.size c (P.ws0 e, ks)) (hc : c ≤ 400000) (hw : Wf st) :
    ∃ kd, fun_ defs (k + 5) ix_executed [dP, dk, evD e] st = .ok (.v (.tup [.ktp kd, .ktp ((P.mom (P.exec ks e)).map oD)])) st ∧ All2 KpD kd (P.exec ks e).2 := by
  obtain ⟨di, dk0, dl, kl0, ll, ds, e1, e2, e3, e4, e5, e6, e7⟩ := hd
  have hm := hP.many
  have hn := hP.ins
  have hsl := hP.sl
  have hkl0 := hP.kl
  have hks : ks.length ≤ 1000 := by
    have := congrArg List.length hsh
    simp at this; omega
  -- the places
  have lc0 : ∀ body : D → St → R (Option D), (∀ d ∈ ranN P.many, body d st = .ok (some .non) st) → lcLoop [] body (ranN P.many) [] st = .ok (.tl ((List.replicate P.many (none : Option Int)).map oD)) st := fun body hb => by
    rw [lcLoop_map (fun _ => D.non) alive_nil (ranN P.many) [] hb (by simp; omega)]
    have : (ranN P.many).map (fun _ => D.non) = List.replicate P.many D.non := by rw [List.map_const']; simp
    rw [this]
    simp
  have hd1 := dct_ev (st := st ++ [MO.lst ((List.replicate P.many (none : Option Int)).map oD)]) e he
  have g1 : getL (st ++ [MO.lst ((([] : List (Option Int)) ++ List.replicate P.many none).map oD), MO.dct (evK e)]) st.length = some ((([] : List (Option Int)) ++ List.replicate P.many none).map oD) := by rw [getL_new0]; rfl
  have g2 : ∀ o, getK (st ++ [o, MO.dct (evK e)]) (st.length + 1) = some (evK e) := fun o => by rw [getK_new]; rfl
  obtain ⟨e11, e12, q1⟩ := ins_loop (fun_ defs (k + 4)) e he P.many st.length (st.length + 1) (some dP) (some dk) (some (evD e)) (some (.int P.size)) (some di) (some (nD P.many)) (some dk0) (some dl) (some ds) none none none P.ins [] _ none none g1 hn (g2 _)
  have E1 : (st ++ [MO.lst ((([] : List (Option Int)) ++ List.replicate P.many none).map oD), MO.dct (evK e)]).set st.length (.lst ((([] : List (Option Int)) ++ P.ins.map (evGet e) ++ List.replicate (P.many - P.ins.length) none).map oD))
      = st ++ [MO.lst ((P.ws0 e).map oD), MO.dct (evK e)] := by
    rw [List.set_append_right _ _ (by omega)]; simp [Prog.ws0]
  rw [E1] at q1
  have wl : (P.ws0 e).length = P.many := by simp [Prog.ws0]; omega
  -- the lines
  have hs : MsS st.length (st.length + 2) (st ++ [MO.lst ((P.ws0 e).map oD), MO.dct (evK e), MO.lst kl]) (P.ws0 e, ks) :=
    { w := by rw [getL_new0]; rfl
      k := ⟨kl, by rw [getL_new]; rfl, hkl⟩
      ne := by omega }
  have hwf : Wf (st ++ [MO.lst ((P.ws0 e).map oD), MO.dct (evK e), MO.lst kl]) := hw.app (fun x hx => by
    simp only [List.mem_cons, List.not_mem_nil, or_false] at hx
    rcases hx with rfl | rfl | rfl
    · exact bels_map _ _ _ fun _ _ => bel_oD _ _
    · simp [MO.bel, kvBelow, evK]
    · exact KpsD.bel hkl _)
  obtain ⟨kd, e14, p1, p2⟩ := lines_ok (k := k) (wr := st.length) (sr := st.length + 2) hP.s2 hP.s5 (P.keeps.map Kp.isOne) P.many (some dP) (some dk) (some (evD e)) (some di) (some (nD P.many)) (some dk0) (some dl) (some ds) (some (.ref (st.length + 1))) e11 e12 none
    P.lines ll c (P.ws0 e, ks) _ none e6 hP.there_ wl hsh hb (by have := hP.lns; omega) hs hwf
  have E2 : ((st ++ [MO.lst ((P.ws0 e).map oD), MO.dct (evK e), MO.lst kl]).set st.length (.lst ((runLns P.size (P.ws0 e, ks) P.lines).1.map oD))).set (st.length + 2) (.lst kd)
      = st ++ [MO.lst ((P.exec ks e).1.map oD), MO.dct (evK e), MO.lst kd] := by
    rw [List.set_append_right _ _ (by omega), List.set_append_right _ _ (by omega)]; simp [Prog.exec]
  rw [E2] at p1
  have g3 : getL (st ++ [MO.lst ((P.exec ks e).1.map oD), MO.dct (evK e), MO.lst kd]) st.length = some ((P.exec ks e).1.map oD) := by rw [getL_new0]; rfl
  have g4 : getL (st ++ [MO.lst ((P.exec ks e).1.map oD), MO.dct (evK e), MO.lst kd]) (st.length + 2) = some kd := by rw [getL_new]; rfl
  have xl : (P.exec ks e).1.length = P.many := by
    have : ∀ (lns : List Ln) (m : Ms), (∀ ln ∈ lns, ln.there_ m.1.length (P.keeps.map Kp.isOne) P.size) → m.2.map Kp.isOne = P.keeps.map Kp.isOne → (runLns P.size m lns).1.length = m.1.length := by
      intro lns
      induction lns with
      | nil => intro m _ _; rfl
      | cons ln lns ih =>
        intro m h1 h2
        have sh := run_shape (size := P.size) ln h2 (h1 ln (by simp))
        have := ih (ln.run P.size m) (fun l hl => by rw [sh.1]; exact h1 l (by simp [hl])) sh.2
        exact this.trans sh.1
    exact (this P.lines (P.ws0 e, ks) (fun l hl => by rw [wl]; exact hP.there_ l hl) hsh).trans wl
  have lc1 : ∀ (S : St) (body : D → St → R (Option D)), (∀ p ∈ P.shown, body (nD p) S = .ok (some (oD (wAt (P.exec ks e) p))) S) → lcLoop [] body (P.shown.map nD) [] S = .ok (.tl ((P.mom (P.exec ks e)).map oD)) S := fun S body hb => by
    have gen : ∀ (l : List Nat) (acc : List D), (∀ p ∈ l, p ∈ P.shown) → acc.length + l.length ≤ 1000 → lcLoop [] body (l.map nD) acc S = .ok (.tl (acc ++ l.map fun p => oD (wAt (P.exec ks e) p))) S := by
      intro l
      induction l with
      | nil => intro acc _ _; simp [lcLoop]
      | cons a l ih =>
        intro acc h1 h2
        have hs : acc.length < szMax := by unfold szMax; simp at h2; omega
        rw [List.map_cons, lcLoop, if_pos alive_nil, hb a (h1 a (by simp))]
        simp only [R.cut_ok, R.bi_ok, hs, if_true]
        rw [ih _ (fun p hp => h1 p (by simp [hp])) (by simp at h2 ⊢; omega)]
        simp
    have := gen P.shown [] (fun _ x => x) (by simp; omega)
    rw [Prog.mom, List.map_map]
    exact this
  refine ⟨kd, ?_, p2⟩
  refine run_a (os := [MO.lst ((P.exec ks e).1.map oD), MO.dct (evK e), MO.lst kd]) (ρ := [some dP, some dk, some (evD e), some (.int P.size), some di, some (nD P.many), some dk0, some dl, some ds, some (.ref st.length), some (.ref (st.length + 1)), e11, e12, some (.ref (st.length + 2)), e14, none]) (fn_executed _ _ _) ?_ rfl ?_
  · have hb62 : -big62 ≤ (P.many : Int) ∧ (P.many : Int) < big62 := by unfold big62; omega
    simp only [List.nil_append] at q1
    simp only [nD] at e1 q1 p1 ⊢
    simp [d_executed, startE, e1, hb62]
    rw [lc0 _ (fun d hd => by simp [lcB])]
    simp only [List.length_nil] at q1
    have hat : ∀ p ∈ P.shown, atI ((P.exec ks e).1.map oD) (p : Int) = some (oD (wAt (P.exec ks e) p)) := fun p hp => wAt_get (by rw [xl]; exact hP.shown p hp)
    revert hd1 q1 p1 g3 g4 hat
    generalize (List.replicate P.many (none : Option Int)).map oD = W0
    generalize (P.ws0 e).map oD = W1
    generalize (P.exec ks e).1.map oD = W2
    intro hd1 q1 p1 g3 g4 hat
    simp [hd1, e2, e3, hk, e5, e7, q1, p1, g3, g4]
    have lc2 := lc1 (st ++ [MO.lst W2, MO.dct (evK e), MO.lst kd])
    rw [lc2 _ (fun p hp => by simp [lcB, nD, g3, hat p hp])]
    simp
  · simp [KpsD.bel p2]
    exact bels_map _ _ _ fun _ _ => bel_oD _ _
end
end CM
end
section
namespace CM
open PM B
section
variable {k : Nat} {st : St}
theorem runLns_ok {size : Int} (h2 : 2 ≤ size) {ks : List Bool} {many : Nat} : ∀ (lns : List Ln) (c : Nat) (m : Ms), (∀ ln ∈ lns, ln.there_ many ks size) → m.1.length = many → m.2.map Kp.isOne = ks → Bd size c m →
    Bd size (c + 2 * lns.length) (runLns size m lns) ∧ (runLns size m lns).2.map Kp.isOne = ks ∧ (runLns size m lns).1.length = many
  | [], c, m, _, hl, hk, hb => ⟨by simpa [runLns] using hb, hk, hl⟩
  | ln :: lns, c, m, ht, hl, hk, hb => by
    have ht0 := ht ln (by simp)
    rw [← hl] at ht0
    have sh := run_shape (size := size) ln hk ht0
    have ih := runLns_ok h2 lns (c + 2) (ln.run size m) (fun l h => ht l (by simp [h])) (sh.1.trans hl) sh.2 (run_bd hb ln h2 ht0)
    refine ⟨?_, ih.2⟩
    have e : c + 2 * (ln :: lns).length = c + 2 + 2 * lns.length := by simp; omega
    rw [e]
    exact ih.1
def Prog.at (P : Prog) (rows : List Ev) (j : Nat) : List (Option Int) := P.mom (P.exec (P.ks rows j) (rows.getD j []))
theorem ks_ok (P : Prog) (hP : P.Good) (rows : List Ev) (hb0 : Bd P.size 0 ([], P.keeps)) (hev : ∀ e ∈ rows, ∀ x ∈ P.ins, bdO P.size (evGet e x)) : ∀ j, j ≤ rows.length → Bd P.size (400 * j) ([], P.ks rows j) ∧ (P.ks rows j).map Kp.isOne = P.keeps.map Kp.isOne
  | 0, _ => ⟨hb0, rfl⟩
  | j + 1, hj => by
    obtain ⟨h1, h2⟩ := ks_ok P hP rows hb0 hev j (by omega)
    have hm : rows.getD j [] ∈ rows := by
      rw [List.getD_eq_getElem?_getD, List.getElem?_eq_getElem (by omega)]
      exact List.getElem_mem _
    have hb : Bd P.size (400 * j) (P.ws0 (rows.getD j []), P.ks rows j) := ⟨fun x hx => by
        rcases List.mem_append.mp hx with h | h
        · obtain ⟨a, ha, rfl⟩ := List.mem_map.mp h
          exact hev _ hm a ha
        · rw [(List.mem_replicate.mp h).2]; exact fun v hv => (by cases hv), h1.k, h1.n⟩
    have wl : (P.ws0 (rows.getD j [])).length = P.many := by have := hP.ins; simp [Prog.ws0]; omega
    have := runLns_ok hP.s2 P.lines (400 * j) (P.ws0 (rows.getD j []), P.ks rows j) hP.there_ wl h2 hb
    have hl := hP.lns
    exact ⟨⟨by simp, this.1.k, (this.1.le (c' := 400 * (j + 1)) (by omega)).n⟩, this.2.1⟩
theorem ws0_bd (P : Prog) (rows : List Ev) (hev : ∀ e ∈ rows, ∀ x ∈ P.ins, bdO P.size (evGet e x)) (j : Nat) (hj : j < rows.length) {c : Nat} {ks : List Kp} (h : Bd P.size c ([], ks)) : Bd P.size c (P.ws0 (rows.getD j []), ks) := by
  have hm : rows.getD j [] ∈ rows := by
    rw [List.getD_eq_getElem?_getD, List.getElem?_eq_getElem hj]
    exact List.getElem_mem _
  have hk := h.k
  have hn := h.n
  exact ⟨fun x hx => by
    rcases List.mem_append.mp hx with h | h
    · obtain ⟨a, ha, rfl⟩ := List.mem_map.mp h
      exact hev _ hm a ha
    · rw [(List.mem_replicate.mp h).2]; exact fun v hv => (by cases hv), hk, hn⟩
theorem executed_all_ok (P : Prog) (hP : P.Good) (dP dr : D) (rows : List Ev) (hd : ProgD dP P) (hdr : IsT dr (rows.map evD)) (hl : rows.length ≤ 1000) (hnd : ∀ e ∈ rows, (e.map (·.1)).Nodup)
    (hb0 : Bd P.size 0 ([], P.keeps)) (hev : ∀ e ∈ rows, ∀ x ∈ P.ins, bdO P.size (evGet e x)) (hw : Wf st) :
    fun_ defs (k + 6) ix_executed_all [dP, dr] st = .ok (.v (.ktp ((List.range rows.length).map fun j => .ktp ((P.at rows j).map oD)))) st := by
  have hd0 := hd
  obtain ⟨di, dk0, dl, kl0, ll, ds, e1, e2, e3, e4, e5, e6, e7⟩ := hd
  have loop := frl_inv (F := fun_ defs (k + 5)) (t := .nm 4) (b := b_executed_all_1) (chk := [])
    (fun j ρ S => ∃ dk kl e4 e5, j ≤ rows.length ∧ ρ = [some dP, some dr, some dk, some (.ref st.length), e4, e5] ∧ IsT dk kl ∧ All2 KpD kl (P.ks rows j) ∧
      S = st ++ [MO.lst ((List.range j).map fun j => .ktp ((P.at rows j).map oD))])
    (rows.map evD)
    (by
      rintro j d' ρ S hj ⟨dk, kl, x4, x5, hj1, rfl, hk1, hk2, rfl⟩
      have hjl : j < rows.length := by simpa using (List.getElem?_eq_some_iff.mp hj).1
      have hd' : d' = evD (rows.getD j []) := by
        rw [List.getElem?_map, List.getElem?_eq_getElem hjl] at hj
        rw [List.getD_eq_getElem?_getD, List.getElem?_eq_getElem hjl]
        simpa using hj.symm
      subst hd'
      have hm : rows.getD j [] ∈ rows := by
        rw [List.getD_eq_getElem?_getD, List.getElem?_eq_getElem hjl]
        exact List.getElem_mem _
      obtain ⟨b1, b2⟩ := ks_ok P hP rows hb0 hev j (by omega)
      have hwf : Wf (st ++ [MO.lst ((List.range j).map fun j => .ktp ((P.at rows j).map oD))]) := hw.app (fun x hx => by
        simp only [List.mem_cons, List.not_mem_nil, or_false] at hx
        subst hx
        exact bels_map _ _ _ fun _ _ => by rw [bel_ktp]; exact bels_map _ _ _ fun _ _ => bel_oD _ _)
      obtain ⟨kd, q1, q2⟩ := executed_ok (k := k) P hP dP dk kl (P.ks rows j) (rows.getD j []) (hnd _ hm) (400 * j) hd0 hk1 hk2 b2 (ws0_bd P rows hev j hjl b1) (by omega) hwf
      have g1 : getL (st ++ [MO.lst ((List.range j).map fun j => .ktp ((P.at rows j).map oD))]) st.length = some ((List.range j).map fun j => .ktp ((P.at rows j).map oD)) := by rw [getL_new0]; rfl
      refine ⟨rfl, _, rfl, _, _, .inl ?_, .ktp kd, kd, some (evD (rows.getD j [])), some (.ktp ((P.at rows j).map oD)), by omega, rfl, rfl, q2, rfl⟩
      have hj5 : j ≤ 100000 := by omega
      rw [List.range_succ, List.map_append]
      have q1' : fun_ defs (k + 5) ix_executed [dP, dk, evD (rows.getD j [])] (st ++ [MO.lst ((List.range j).map fun j => .ktp ((P.at rows j).map oD))]) = .ok (.v (.tup [.ktp kd, .ktp ((P.at rows j).map oD)])) (st ++ [MO.lst ((List.range j).map fun j => .ktp ((P.at rows j).map oD))]) := q1
      revert q1' g1
      have hL : ((List.range j).map fun j => D.ktp ((P.at rows j).map oD)).length = j := by simp
      revert hL
      generalize ((List.range j).map fun j => D.ktp ((P.at rows j).map oD)) = LL
      show _ → _ → _ → evSs _ _ _ _ = RS.ok .nx _ (st ++ [MO.lst (LL ++ [D.ktp ((P.at rows j).map oD)])])
      generalize (P.at rows j).map oD = M
      generalize evD (rows.getD j []) = EV
      intro hL g1 q1'
      have hj6 : LL.length ≤ 100000 := by omega
      simp [b_executed_all_1, q1', gc_len, g1, hj6])
    (fun _ _ _ => rfl)
  obtain ⟨ρ', S', f1, dk, kl, x4, x5, _, rfl, hk1, hk2, rfl⟩ := loop _ _ ⟨dk0, kl0, none, none, by omega, rfl, e3, e4, rfl⟩
  simp only [List.length_map] at f1
  have g1 : getL (st ++ [MO.lst ((List.range rows.length).map fun j => .ktp ((P.at rows j).map oD))]) st.length = some ((List.range rows.length).map fun j => .ktp ((P.at rows j).map oD)) := by rw [getL_new0]; rfl
  simp only [List.range_zero, List.map_nil] at f1
  refine run_a (os := [MO.lst ((List.range rows.length).map fun j => .ktp ((P.at rows j).map oD))]) (ρ := [some dP, some dr, some dk, some (.ref st.length), x4, x5]) (fn_executed_all _ _ _) ?_ rfl ?_
  · revert f1 g1
    generalize ((List.range rows.length).map fun j => D.ktp ((P.at rows j).map oD)) = M
    generalize hR : rows.map evD = R at hdr
    intro f1 g1
    simp [d_executed_all, startE, e1, hdr, f1, g1]
  · simp
    exact bels_map _ _ _ fun _ _ => by rw [bel_ktp]; exact bels_map _ _ _ fun _ _ => bel_oD _ _
end
end CM
end
section
/-! Q14: a net as a program of places: plain data, no M. -/
namespace CM
open PM B
def Fo.keeps : Fo → Bool
  | .held _ _ | .before _ _ | .late _ _ | .mtch _ _ _ => true
  | _ => false
def Fo.first : Fo → Kp
  | .held _ v => .one (some v)
  | .before _ v => .one (some v)
  | .late _ v => .one v
  | _ => .two [] []
def Net.form (N : Net) (x : Tx) : Fo := (N.cells.lookup x).getD (.worth 0)
def Fo.lines (pl : Tx → Nat) (p s : Nat) : Fo → List Ln
  | .worth v => [.put p v]
  | .copy a => [.copy p (pl a)]
  | .there a => [.there p (pl a)]
  | .pair w a b => [.pair p w (pl a) (pl b)]
  | .turn a row => [.turn p (pl a) row]
  | .when a b => [.gate p (pl a) (pl b)]
  | .els a b => [.els p (pl a) (pl b)]
  | .late _ _ => [.recall p s]
  | .held a _ => [.recall p s, .els p (pl a) p]
  | .before a _ => [.recall p s, .drop p (pl a)]
  | .mtch w a b => [.push p s w (pl a) (pl b)]
def Fo.store (pl : Tx → Nat) (s : Nat) : Fo → Ln
  | .late a _ => .store s (pl a) true
  | .held a _ => .store s (pl a) false
  | .before a _ => .store s (pl a) false
  | _ => .skip s
def Net.kp (N : Net) (ord : List Tx) : List Tx := ord.filter fun x => (N.form x).keeps
def Net.pl (N : Net) (ord : List Tx) (x : Tx) : Nat := (N.ins ++ ord).idxOf x
def Net.prog (N : Net) (ord : List Tx) : Prog where
  size := N.size
  ins := N.ins
  many := N.ins.length + ord.length
  keeps := (N.kp ord).map fun x => (N.form x).first
  lines := ord.flatMap (fun x => (N.form x).lines (N.pl ord) (N.pl ord x) ((N.kp ord).idxOf x)) ++ (N.kp ord).map fun x => (N.form x).store (N.pl ord) ((N.kp ord).idxOf x)
  shown := N.cn.map (N.pl ord)
/-- an order in which each cell stands behind those that it hangs on now -/
structure Ord (N : Net) (ord : List Tx) : Prop where
  nd : ord.Nodup
  mem : ∀ x, x ∈ ord ↔ x ∈ N.cn
  top : ∀ i x, ord[i]? = some x → ∀ a ∈ (N.form x).now, a ∈ N.ins ∨ a ∈ ord.take i
def Fo.keptAt (T : Tx → Nat → Option Int) (j : Nat) : Fo → Kp
  | .held a v => .one (some (prevV (T a) v j))
  | .before a v => .one (some (prevV (T a) v j))
  | .late a v => .one (match j with
    | 0 => v
    | i + 1 => T a i)
  | .mtch _ a b => .two ((vals (T a) j).drop (min (vals (T a) j).length (vals (T b) j).length)) ((vals (T b) j).drop (min (vals (T a) j).length (vals (T b) j).length))
  | _ => .two [] []
theorem push_atM (size : Int) (w : PW) (g h : Nat → Option Int) (j : Nat) :
    pairL size w ((vals g j).drop (min (vals g j).length (vals h j).length) ++ (g j).toList) ((vals h j).drop (min (vals g j).length (vals h j).length) ++ (h j).toList) =
      (atM size w g h j, .two ((vals g (j + 1)).drop (min (vals g (j + 1)).length (vals h (j + 1)).length)) ((vals h (j + 1)).drop (min (vals g (j + 1)).length (vals h (j + 1)).length))) := by
  unfold atM
  rw [vals_succ g j, vals_succ h j]
  have hx : (g j).toList.length ≤ 1 := by cases g j <;> simp
  have hy : (h j).toList.length ≤ 1 := by cases h j <;> simp
  revert hx hy
  generalize vals g j = l; generalize vals h j = r; generalize (g j).toList = x; generalize (h j).toList = y
  intro hx hy
  have e1 : l.drop (min l.length r.length) ++ x = (l ++ x).drop (min l.length r.length) := (List.drop_append_of_le_length (by omega)).symm
  have e2 : r.drop (min l.length r.length) ++ y = (r ++ y).drop (min l.length r.length) := (List.drop_append_of_le_length (by omega)).symm
  rw [e1, e2]
  have l1 : (l ++ x).length = l.length + x.length := by simp
  have l2 : (r ++ y).length = r.length + y.length := by simp
  revert l1 l2
  generalize hA : l ++ x = A; generalize hB : r ++ y = B
  intro l1 l2
  simp only
  by_cases hc : min l.length r.length < min A.length B.length
  · rw [if_pos hc]
    have hm : min A.length B.length = min l.length r.length + 1 := by omega
    have d1 := List.drop_eq_getElem_cons (l := A) (i := min l.length r.length) (by omega)
    have d2 := List.drop_eq_getElem_cons (l := B) (i := min l.length r.length) (by omega)
    rw [d1, d2, hm]
    simp only [pairL, Nat.add_sub_cancel]
    have g1 : A.getD (min l.length r.length) 0 = A[min l.length r.length]'(by omega) := by rw [List.getD_eq_getElem?_getD, List.getElem?_eq_getElem (by omega)]; rfl
    have g2 : B.getD (min l.length r.length) 0 = B[min l.length r.length]'(by omega) := by rw [List.getD_eq_getElem?_getD, List.getElem?_eq_getElem (by omega)]; rfl
    rw [g1, g2]
  · rw [if_neg hc]
    have hm : min A.length B.length = min l.length r.length := by omega
    rw [hm, pairL_nil]
    rcases Nat.le_total A.length B.length with h | h
    · exact .inl (List.drop_eq_nil_of_le (by omega))
    · exact .inr (List.drop_eq_nil_of_le (by omega))
end CM
end
section
/-! Q15: a net's program does what the equations tell. -/
namespace CM
open PM B
theorem idx_get {l : List Tx} {a : Tx} (h : a ∈ l) : l[l.idxOf a]? = some a := by
  induction l with
  | nil => cases h
  | cons b l ih =>
    rw [List.idxOf_cons]
    by_cases e : b = a
    · subst e; simp
    · have : (b == a) = false := by simp [e]
      rw [this]
      simpa using ih (by rcases List.mem_cons.mp h with rfl | h; exact absurd rfl e; exact h)
theorem idx_lt {l : List Tx} {a : Tx} (h : a ∈ l) : l.idxOf a < l.length := (List.getElem?_eq_some_iff.mp (idx_get h)).1
theorem idx_inj {l : List Tx} {a b : Tx} (ha : a ∈ l) (hb : b ∈ l) (e : l.idxOf a = l.idxOf b) : a = b := by
  have h1 := idx_get ha
  have h2 := idx_get hb
  rw [e, h2] at h1
  exact (Option.some.inj h1).symm
theorem idx_nd {l : List Tx} (hn : l.Nodup) {i : Nat} {x : Tx} (h : l[i]? = some x) : l.idxOf x = i := by
  have hx : x ∈ l := List.mem_of_getElem? h
  have h2 := idx_get hx
  have hi := (List.getElem?_eq_some_iff.mp h).1
  have hj := idx_lt hx
  have e1 : l[i] = x := by rw [List.getElem?_eq_getElem hi] at h; exact Option.some.inj h
  have e2 : l[l.idxOf x] = x := by rw [List.getElem?_eq_getElem hj] at h2; exact Option.some.inj h2
  exact (List.getElem_inj hn).mp (e2.trans e1.symm)
theorem getD_set {α : Type} (l : List α) (p q : Nat) (v d : α) : (l.set p v).getD q d = if p = q ∧ p < l.length then v else l.getD q d := by
  rw [List.getD_eq_getElem?_getD, List.getElem?_set, List.getD_eq_getElem?_getD]
  by_cases e : p = q
  · subst e
    by_cases h : p < l.length
    · simp [h]
    · simp [h]
  · simp [e]
theorem wAt_set (m : Ms) (p q : Nat) (v : Option Int) (ks : List Kp) : wAt (m.1.set p v, ks) q = if p = q ∧ p < m.1.length then v else wAt m q := getD_set _ _ _ _ _
theorem kAt_set (m : Ms) (p q : Nat) (v : Kp) (ws : List (Option Int)) : kAt (ws, m.2.set p v) q = if p = q ∧ p < m.2.length then v else kAt m q := getD_set _ _ _ _ _
def Fo.isM : Fo → Bool
  | .mtch _ _ _ => true
  | _ => false
section
variable {N : Net} {ord : List Tx} {rows : List Ev} {T : Tx → Nat → Option Int} {j : Nat}
structure Sim (N : Net) (ord : List Tx) (T : Tx → Nat → Option Int) (j : Nat) (S : List Tx) (m : Ms) : Prop where
  wl : m.1.length = N.ins.length + ord.length
  kl : m.2.length = (N.kp ord).length
  w : ∀ a ∈ S, wAt m (N.pl ord a) = T a j
  k : ∀ x ∈ N.kp ord, kAt m ((N.kp ord).idxOf x) = if x ∈ S ∧ (N.form x).isM = true then (N.form x).keptAt T (j + 1) else (N.form x).keptAt T j
theorem form_of (hg : N.Good) {c : Tx × Fo} (h : c ∈ N.cells) : N.form c.1 = c.2 := by
  have := hg.nd
  unfold Net.form Net.cn at *
  revert this h
  generalize N.cells = l
  intro h hn
  induction l with
  | nil => cases h
  | cons b l ih =>
    obtain ⟨bn, bf⟩ := b
    obtain ⟨cn, cf⟩ := c
    rw [List.lookup_cons]
    rw [List.map_cons, List.nodup_cons] at hn
    rcases List.mem_cons.mp h with e | e
    · cases e; simp
    · have : cn ≠ bn := fun x => hn.1 (x ▸ List.mem_map.mpr ⟨_, e, rfl⟩)
      have h2 : (cn == bn) = false := by simp [this]
      rw [h2]
      exact ih e hn.2
theorem cell_of (hg : N.Good) {x : Tx} (h : x ∈ N.cn) : (x, N.form x) ∈ N.cells := by
  obtain ⟨c, hc, rfl⟩ := List.mem_map.mp h
  rw [form_of hg hc]
  exact hc
theorem pl_lt (ho : Ord N ord) {a : Tx} (h : a ∈ N.ins ∨ a ∈ N.cn) : N.pl ord a < N.ins.length + ord.length := by
  have : a ∈ N.ins ++ ord := List.mem_append.mpr (h.imp id (ho.mem a).mpr)
  have := idx_lt this
  simpa [Net.pl] using this
theorem pl_inj (ho : Ord N ord) {a b : Tx} (ha : a ∈ N.ins ∨ a ∈ N.cn) (hb : b ∈ N.ins ∨ b ∈ N.cn) (e : N.pl ord a = N.pl ord b) : a = b :=
  idx_inj (List.mem_append.mpr (ha.imp id (ho.mem a).mpr)) (List.mem_append.mpr (hb.imp id (ho.mem b).mpr)) e
theorem kp_mem (ho : Ord N ord) {x : Tx} : x ∈ N.kp ord ↔ x ∈ N.cn ∧ (N.form x).keeps = true := by
  unfold Net.kp
  rw [List.mem_filter, ho.mem]
/-- one cell's lines -/
theorem cell_sim (hg : N.Good) (ho : Ord N ord) (hs : Sem N rows T) (hj : j < rows.length) (S : List Tx) (hS : ∀ a ∈ S, a ∈ N.ins ∨ a ∈ N.cn) (m : Ms) (h : Sim N ord T j S m) (x : Tx) (hx : x ∈ N.cn) (hxS : x ∉ S)
    (hn : ∀ a ∈ (N.form x).now, a ∈ S) : Sim N ord T j (S ++ [x]) (runLns N.size m ((N.form x).lines (N.pl ord) (N.pl ord x) ((N.kp ord).idxOf x))) := by
  have hT : T x j = (N.form x).at N.size T j := hs.cel _ (cell_of hg hx) j hj
  have hxp := pl_lt ho (.inr hx)
  -- a change of x's place alone
  have fin : ∀ ws : List (Option Int), ws.length = m.1.length → (∀ q, q ≠ N.pl ord x → ws.getD q none = wAt m q) → ws.getD (N.pl ord x) none = T x j → (N.form x).isM = false → Sim N ord T j (S ++ [x]) (ws, m.2) := fun ws h1 h2 h3 h4 =>
    { wl := h1.trans h.wl
      kl := h.kl
      w := fun a ha => by
        rcases List.mem_append.mp ha with ha | ha
        · show ws.getD _ none = _
          rw [h2 _ (fun e => hxS (by rw [← pl_inj ho (hS a ha) (.inr hx) e]; exact ha))]
          exact h.w a ha
        · have : a = x := by simpa using ha
          subst this; exact h3
      k := fun y hy => by
        show kAt m _ = _
        rw [h.k y hy]
        by_cases e : y = x
        · subst e; simp [h4]
        · simp [e] }
  have one : ∀ v, v = T x j → (N.form x).isM = false → Sim N ord T j (S ++ [x]) (m.1.set (N.pl ord x) v, m.2) := fun v hv h4 =>
    fin _ (by simp) (fun q hq => by rw [getD_set, if_neg (fun e => hq e.1.symm)]; rfl) (by rw [getD_set, if_pos ⟨rfl, by rw [h.wl]; exact hxp⟩]; exact hv) h4
  have xs : ∀ v, (m.1.set (N.pl ord x) v).length = m.1.length := fun v => by simp
  have hxl : N.pl ord x < m.1.length := by rw [h.wl]; exact hxp
  have kx : (N.form x).keeps = true → kAt m ((N.kp ord).idxOf x) = (N.form x).keptAt T j := fun hk => by
    rw [h.k x ((kp_mem ho).mpr ⟨hx, hk⟩), if_neg (fun e => hxS e.1)]
  revert hT hn kx one fin
  generalize hf : N.form x = f
  intro hn hT fin one kx
  cases f with
  | worth v => exact one _ (by rw [hT]; rfl) rfl
  | copy a =>
    refine one _ ?_ rfl
    rw [hT, h.w a (hn a (by simp [Fo.now, Fo.names]))]; rfl
  | there a =>
    refine one _ ?_ rfl
    rw [hT, h.w a (hn a (by simp [Fo.now, Fo.names]))]; rfl
  | pair w a b =>
    refine one _ ?_ rfl
    rw [hT, h.w a (hn a (by simp [Fo.now, Fo.names])), h.w b (hn b (by simp [Fo.now, Fo.names]))]
    show _ = Fo.shown N.size (.pair w a b) [T a j, T b j]
    cases T a j <;> cases T b j <;> rfl
  | turn a row =>
    refine one _ ?_ rfl
    rw [hT, h.w a (hn a (by simp [Fo.now, Fo.names]))]; rfl
  | when a b =>
    refine one _ ?_ rfl
    rw [hT, h.w a (hn a (by simp [Fo.now, Fo.names])), h.w b (hn b (by simp [Fo.now, Fo.names]))]; rfl
  | els a b =>
    refine one _ ?_ rfl
    rw [hT, h.w a (hn a (by simp [Fo.now, Fo.names])), h.w b (hn b (by simp [Fo.now, Fo.names]))]; rfl
  | late a v =>
    refine one _ ?_ rfl
    rw [hT, kx rfl]; cases j <;> rfl
  | held a v =>
    have ha := hn a (by simp [Fo.now, Fo.names])
    have hne : N.pl ord x ≠ N.pl ord a := fun e => hxS (by rw [pl_inj ho (.inr hx) (hS a ha) e]; exact ha)
    have e1 : wAt (m.1.set (N.pl ord x) (kOne (kAt m ((N.kp ord).idxOf x))), m.2) (N.pl ord a) = T a j := by rw [wAt_set, if_neg (fun e => hne e.1), h.w a ha]
    have e2 : wAt (m.1.set (N.pl ord x) (kOne (kAt m ((N.kp ord).idxOf x))), m.2) (N.pl ord x) = some (prevV (T a) v j) := by rw [wAt_set, if_pos ⟨rfl, hxl⟩, kx rfl]; rfl
    show Sim N ord T j (S ++ [x]) ((m.1.set (N.pl ord x) (kOne (kAt m ((N.kp ord).idxOf x)))).set (N.pl ord x) (if (wAt (m.1.set (N.pl ord x) (kOne (kAt m ((N.kp ord).idxOf x))), m.2) (N.pl ord a)).isNone then wAt (m.1.set (N.pl ord x) (kOne (kAt m ((N.kp ord).idxOf x))), m.2) (N.pl ord x) else wAt (m.1.set (N.pl ord x) (kOne (kAt m ((N.kp ord).idxOf x))), m.2) (N.pl ord a)), m.2)
    rw [e1, e2, List.set_set]
    refine one _ ?_ rfl
    rw [hT]
    show _ = some (lastV (T a) v j)
    cases j with
    | zero => unfold lastV prevV; cases T a 0 <;> rfl
    | succ i => rw [lastV]; unfold prevV; cases T a (i + 1) <;> rfl
  | before a v =>
    have ha := hn a (by simp [Fo.now, Fo.names])
    have hne : N.pl ord x ≠ N.pl ord a := fun e => hxS (by rw [pl_inj ho (.inr hx) (hS a ha) e]; exact ha)
    have e1 : wAt (m.1.set (N.pl ord x) (kOne (kAt m ((N.kp ord).idxOf x))), m.2) (N.pl ord a) = T a j := by rw [wAt_set, if_neg (fun e => hne e.1), h.w a ha]
    have e2 : wAt (m.1.set (N.pl ord x) (kOne (kAt m ((N.kp ord).idxOf x))), m.2) (N.pl ord x) = some (prevV (T a) v j) := by rw [wAt_set, if_pos ⟨rfl, hxl⟩, kx rfl]; rfl
    show Sim N ord T j (S ++ [x]) ((m.1.set (N.pl ord x) (kOne (kAt m ((N.kp ord).idxOf x)))).set (N.pl ord x) (if (wAt (m.1.set (N.pl ord x) (kOne (kAt m ((N.kp ord).idxOf x))), m.2) (N.pl ord a)).isNone then none else wAt (m.1.set (N.pl ord x) (kOne (kAt m ((N.kp ord).idxOf x))), m.2) (N.pl ord x)), m.2)
    rw [e1, e2, List.set_set]
    refine one _ ?_ rfl
    rw [hT]
    show _ = if T a j = none then none else some (prevV (T a) v j)
    cases T a j <;> simp
  | mtch w a b =>
    have ha := hn a (by simp [Fo.now, Fo.names])
    have hb := hn b (by simp [Fo.now, Fo.names])
    show Sim N ord T j (S ++ [x]) (m.1.set (N.pl ord x) (pushK N.size w (kAt m ((N.kp ord).idxOf x)) (wAt m (N.pl ord a)) (wAt m (N.pl ord b))).1, m.2.set ((N.kp ord).idxOf x) (pushK N.size w (kAt m ((N.kp ord).idxOf x)) (wAt m (N.pl ord a)) (wAt m (N.pl ord b))).2)
    have e : pushK N.size w (kAt m ((N.kp ord).idxOf x)) (wAt m (N.pl ord a)) (wAt m (N.pl ord b)) = (T x j, (N.form x).keptAt T (j + 1)) := by
      rw [kx rfl, h.w a ha, h.w b hb, hT, hf]
      exact push_atM N.size w (T a) (T b) j
    rw [e]
    have hxk : x ∈ N.kp ord := (kp_mem ho).mpr ⟨hx, by rw [hf]; rfl⟩
    exact
    { wl := by simp [h.wl]
      kl := by simp [h.kl]
      w := fun c hc => by
        rw [wAt_set]
        rcases List.mem_append.mp hc with hc | hc
        · rw [if_neg (fun e => hxS (by rw [pl_inj ho (.inr hx) (hS c hc) e.1]; exact hc))]
          exact h.w c hc
        · have : c = x := by simpa using hc
          subst this
          rw [if_pos ⟨rfl, hxl⟩]
      k := fun y hy => by
        rw [kAt_set]
        by_cases e : y = x
        · subst e
          rw [if_pos ⟨rfl, by rw [h.kl]; exact idx_lt hxk⟩]
          simp [hf, Fo.isM]
        · rw [if_neg (fun e2 => e (idx_inj hxk hy e2.1).symm), h.k y hy]
          simp [e] }
theorem get_kAt (m : Ms) (s : Nat) (h : s < m.2.length) : m.2[s]? = some (kAt m s) := by simp [kAt, h]
theorem idx_app {l r : List Tx} {a : Tx} (h : a ∈ l) : (l ++ r).idxOf a = l.idxOf a := by
  induction l with
  | nil => cases h
  | cons b l ih =>
    rw [List.cons_append, List.idxOf_cons, List.idxOf_cons]
    by_cases e : b = a
    · subst e; simp
    · have : (b == a) = false := by simp [e]
      rw [this]
      simp only [cond_false]
      rw [ih (by rcases List.mem_cons.mp h with rfl | h; exact absurd rfl e; exact h)]
theorem runLns_app (size : Int) (m : Ms) (a b : List Ln) : runLns size m (a ++ b) = runLns size (runLns size m a) b := by simp [runLns]
theorem cells_sim (hg : N.Good) (ho : Ord N ord) (hs : Sem N rows T) (hj : j < rows.length) (m : Ms) (h : Sim N ord T j N.ins m) : ∀ i, i ≤ ord.length →
    Sim N ord T j (N.ins ++ ord.take i) (runLns N.size m ((ord.take i).flatMap fun x => (N.form x).lines (N.pl ord) (N.pl ord x) ((N.kp ord).idxOf x)))
  | 0, _ => by simpa [runLns] using h
  | i + 1, hi => by
    have ih := cells_sim hg ho hs hj m h i (by omega)
    have hx := List.getElem?_eq_getElem (l := ord) (i := i) (by omega)
    have hmem : ord[i] ∈ N.cn := (ho.mem _).mp (List.getElem_mem _)
    have hnt : ord[i] ∉ ord.take i := by
      intro hm
      obtain ⟨k, hk, e⟩ := List.mem_iff_getElem.mp hm
      have hk' : k < i := by simp at hk; omega
      rw [List.getElem_take] at e
      have := (List.getElem_inj ho.nd).mp e
      omega
    have st := cell_sim hg ho hs hj (N.ins ++ ord.take i) (fun a ha => by
      rcases List.mem_append.mp ha with h | h
      · exact .inl h
      · exact .inr ((ho.mem a).mp (List.mem_of_mem_take h))) _ ih ord[i] hmem (fun hm => by
      rcases List.mem_append.mp hm with h | h
      · exact hg.dis _ hmem h
      · exact hnt h) (fun a ha => by
      rcases ho.top i _ hx a ha with h | h
      · exact List.mem_append_left _ h
      · exact List.mem_append_right _ h)
    rw [List.take_succ, hx]
    simp only [Option.toList_some, List.flatMap_append, List.flatMap_cons, List.flatMap_nil, List.append_nil]
    rw [runLns_app, ← List.append_assoc]
    exact st
def kMid (N : Net) (T : Tx → Nat → Option Int) (j : Nat) (x : Tx) : Kp := if (N.form x).isM = true then (N.form x).keptAt T (j + 1) else (N.form x).keptAt T j
theorem stores_sim (hg : N.Good) (ho : Ord N ord) (m : Ms) (hw : ∀ a, (a ∈ N.ins ∨ a ∈ N.cn) → wAt m (N.pl ord a) = T a j) (hl : m.2.length = (N.kp ord).length) (hk : ∀ s x, (N.kp ord)[s]? = some x → kAt m s = kMid N T j x) : ∀ i, i ≤ (N.kp ord).length →
    (runLns N.size m (((N.kp ord).take i).map fun x => (N.form x).store (N.pl ord) ((N.kp ord).idxOf x))).1 = m.1 ∧
    (runLns N.size m (((N.kp ord).take i).map fun x => (N.form x).store (N.pl ord) ((N.kp ord).idxOf x))).2.length = m.2.length ∧
    ∀ s x, (N.kp ord)[s]? = some x → kAt (runLns N.size m (((N.kp ord).take i).map fun x => (N.form x).store (N.pl ord) ((N.kp ord).idxOf x))) s = if s < i then (N.form x).keptAt T (j + 1) else kMid N T j x
  | 0, _ => ⟨rfl, rfl, fun s x hx => by simpa [runLns] using hk s x hx⟩
  | i + 1, hi => by
    obtain ⟨h1, h2, h3⟩ := stores_sim hg ho m hw hl hk i (by omega)
    obtain ⟨x, hx⟩ : ∃ x, (N.kp ord)[i]? = some x := ⟨_, List.getElem?_eq_getElem (by omega)⟩
    have hnd : (N.kp ord).Nodup := ho.nd.filter _
    have hix := idx_nd hnd hx
    have hmem : x ∈ N.kp ord := List.mem_of_getElem? hx
    have hkc := (kp_mem ho).mp hmem
    rw [List.take_succ, hx]
    simp only [Option.toList_some, List.map_append, List.map_cons, List.map_nil]
    rw [runLns_app]
    generalize hm' : runLns N.size m (((N.kp ord).take i).map fun x => (N.form x).store (N.pl ord) ((N.kp ord).idxOf x)) = m' at h1 h2 h3
    rw [hix]
    have hw' : ∀ a, (a ∈ N.ins ∨ a ∈ N.cn) → wAt m' (N.pl ord a) = T a j := fun a ha => by
      have := hw a ha
      unfold wAt at this ⊢
      rw [h1]; exact this
    have hnm := hg.names _ (cell_of hg hkc.1)
    have cur := h3 i _ hx
    rw [if_neg (by omega)] at cur
    -- what the one line does
    have key : ∃ v, (runLns N.size m' [(N.form x).store (N.pl ord) i]) = (m'.1, m'.2.set i v) ∧ v = (N.form x).keptAt T (j + 1) := by
      have hkk := hkc.2
      unfold kMid at cur
      have same : m'.2.set i (kAt m' i) = m'.2 := by
        have hil : i < m'.2.length := by rw [h2, hl]; omega
        refine List.ext_getElem? fun q => ?_
        rw [List.getElem?_set]
        by_cases e : i = q
        · subst e
          rw [if_pos rfl, if_pos hil, List.getElem?_eq_getElem hil]
          simp [kAt, hil]
        · rw [if_neg e]
      revert cur hnm hkk
      generalize N.form x = f
      intro hnm cur hkk
      cases f with
      | late a v =>
        refine ⟨.one (wAt m' (N.pl ord a)), ?_, ?_⟩
        · simp [runLns, Fo.store, Ln.run]
        · rw [hw' a (hnm a (by simp [Fo.names]))]; rfl
      | held a v =>
        have ha := hw' a (hnm a (by simp [Fo.names]))
        by_cases e : T a j = none
        · refine ⟨kAt m' i, ?_, ?_⟩
          · rw [same]
            simp [runLns, Fo.store, Ln.run, ha, e]
          · rw [cur]
            simp only [Fo.isM, Bool.false_eq_true, if_false, Fo.keptAt]
            cases j with
            | zero => simp [prevV, lastV, e]
            | succ i => simp [prevV, lastV, e]
        · refine ⟨.one (wAt m' (N.pl ord a)), ?_, ?_⟩
          · simp [runLns, Fo.store, Ln.run, ha, e]
          · rw [ha]
            obtain ⟨u, hu⟩ := Option.ne_none_iff_exists'.mp e
            simp only [Fo.keptAt, prevV]
            cases j with
            | zero => simp [lastV, hu]
            | succ i => simp [lastV, hu]
      | before a v =>
        have ha := hw' a (hnm a (by simp [Fo.names]))
        by_cases e : T a j = none
        · refine ⟨kAt m' i, ?_, ?_⟩
          · rw [same]
            simp [runLns, Fo.store, Ln.run, ha, e]
          · rw [cur]
            simp only [Fo.isM, Bool.false_eq_true, if_false, Fo.keptAt]
            cases j with
            | zero => simp [prevV, lastV, e]
            | succ i => simp [prevV, lastV, e]
        · refine ⟨.one (wAt m' (N.pl ord a)), ?_, ?_⟩
          · simp [runLns, Fo.store, Ln.run, ha, e]
          · rw [ha]
            obtain ⟨u, hu⟩ := Option.ne_none_iff_exists'.mp e
            simp only [Fo.keptAt, prevV]
            cases j with
            | zero => simp [lastV, hu]
            | succ i => simp [lastV, hu]
      | mtch w a b =>
        refine ⟨kAt m' i, ?_, ?_⟩
        · rw [same]; rfl
        · rw [cur]; rfl
      | _ => cases hkk
    obtain ⟨v, k1, k2⟩ := key
    rw [k1]
    refine ⟨h1, by simp [h2], fun s y hs => ?_⟩
    rw [kAt_set]
    by_cases e : i = s
    · subst e
      rw [if_pos ⟨rfl, by rw [h2, hl]; omega⟩, if_pos (by omega), k2]
      rw [hx] at hs
      rw [Option.some.inj hs]
    · rw [if_neg (fun h => e h.1)]
      have := h3 s y hs
      rw [show kAt (m'.1, m'.2) s = kAt m' s from rfl, this]
      by_cases e2 : s < i
      · rw [if_pos e2, if_pos (by omega)]
      · rw [if_neg e2, if_neg (by omega)]
theorem prog_sim (hg : N.Good) (ho : Ord N ord) (hs : Sem N rows T) : ∀ j, j ≤ rows.length → (N.prog ord).ks rows j = (N.kp ord).map (fun x => (N.form x).keptAt T j) ∧ (∀ i, i < j → (N.prog ord).at rows i = N.cn.map fun x => T x i)
  | 0, _ => by
    refine ⟨?_, fun i hi => by omega⟩
    show (N.kp ord).map (fun x => (N.form x).first) = _
    refine List.map_congr_left fun x hx => ?_
    have hk := ((kp_mem ho).mp hx).2
    revert hk
    generalize N.form x = f
    intro hk
    cases f <;> first | rfl | cases hk
  | j + 1, hj => by
    obtain ⟨h1, h2⟩ := prog_sim hg ho hs j (by omega)
    have hjl : j < rows.length := by omega
    have hre : rows[j]? = some (rows.getD j []) := by rw [List.getD_eq_getElem?_getD, List.getElem?_eq_getElem hjl]; rfl
    have sim0 : Sim N ord T j N.ins ((N.prog ord).ws0 (rows.getD j []), (N.prog ord).ks rows j) :=
      { wl := by simp [Prog.ws0, Net.prog]
        kl := by rw [h1]; simp
        w := fun a ha => by
          rw [hs.inp a ha j _ hre]
          have e : N.pl ord a = N.ins.idxOf a := idx_app ha
          have h3 := idx_get ha
          have h4 := idx_lt ha
          rw [e]
          show (List.getD (N.ins.map (evGet (rows.getD j [])) ++ _) _ none) = _
          rw [List.getD_eq_getElem?_getD, List.getElem?_append_left (by simpa using h4), List.getElem?_map, h3]
          rfl
        k := fun x hx => by
          have h3 := idx_get hx
          rw [if_neg (fun e => hg.dis x ((kp_mem ho).mp hx).1 e.1), h1]
          show List.getD _ _ _ = _
          rw [List.getD_eq_getElem?_getD, List.getElem?_map, h3]
          rfl }
    have sim1 := cells_sim hg ho hs hjl _ sim0 ord.length (Nat.le_refl _)
    rw [List.take_length] at sim1
    have sim2 := stores_sim (T := T) (j := j) hg ho _ (fun a ha => sim1.w a (List.mem_append.mpr (ha.imp id (ho.mem a).mpr))) sim1.kl (fun s x hx => by
      have hnd : (N.kp ord).Nodup := ho.nd.filter _
      have hm := List.mem_of_getElem? hx
      have := sim1.k x hm
      rw [idx_nd hnd hx] at this
      rw [this]
      unfold kMid
      have hxo : x ∈ N.ins ++ ord := List.mem_append_right _ (List.mem_filter.mp hm).1
      simp [hxo]) (N.kp ord).length (Nat.le_refl _)
    rw [List.take_length] at sim2
    obtain ⟨s1, s2, s3⟩ := sim2
    have hex : (N.prog ord).exec ((N.prog ord).ks rows j) (rows.getD j []) = runLns N.size (runLns N.size ((N.prog ord).ws0 (rows.getD j []), (N.prog ord).ks rows j) (ord.flatMap fun x => (N.form x).lines (N.pl ord) (N.pl ord x) ((N.kp ord).idxOf x)))
        ((N.kp ord).map fun x => (N.form x).store (N.pl ord) ((N.kp ord).idxOf x)) := runLns_app _ _ _ _
    refine ⟨?_, fun i hi => ?_⟩
    · show ((N.prog ord).exec ((N.prog ord).ks rows j) (rows.getD j [])).2 = _
      rw [hex]
      refine List.ext_getElem? fun s => ?_
      by_cases hsl : s < (N.kp ord).length
      · have hx := List.getElem?_eq_getElem hsl
        have := s3 s _ hx
        rw [if_pos hsl] at this
        rw [List.getElem?_map, hx, Option.map_some, ← this]
        exact get_kAt _ _ (by rw [s2, sim1.kl]; exact hsl)
      · rw [List.getElem?_eq_none (by rw [s2, sim1.kl]; omega), List.getElem?_eq_none (by simp; omega)]
    · by_cases e : i = j
      · subst e
        show (N.prog ord).mom ((N.prog ord).exec ((N.prog ord).ks rows i) (rows.getD i [])) = _
        rw [hex]
        show (N.cn.map (N.pl ord)).map _ = _
        rw [List.map_map]
        refine List.map_congr_left fun x hx => ?_
        have := sim1.w x (List.mem_append_right _ ((ho.mem x).mpr hx))
        show wAt _ (N.pl ord x) = _
        unfold wAt at this ⊢
        rw [s1]; exact this
      · exact h2 i (by omega)
end
end CM
end
section
/-! Q16: order_of. -/
namespace CM
open PM B
def Net.rdy (N : Net) (done left : List Tx) : List Tx := left.filter fun x => (N.form x).now.all fun a => decide (a ∈ done)
def Net.go (N : Net) : Nat → List Tx → List Tx → List Tx
  | 0, _, _ => []
  | n + 1, done, left => match N.rdy done left with
    | [] => []
    | x :: _ => x :: N.go n (done ++ [x]) (left.erase x)
def Net.ord (N : Net) : List Tx := N.go (N.cn.length + 1) N.ins N.cn
section
variable {N : Net} {dN : D} {k : Nat} {st : St}
theorem now_ok (f : Fo) (d : D) (hf : FoD d f) : ∃ t, fun_ defs (k + 2) ix_now_names [d] st = .ok (.v t) st ∧ IsT t (sD f.now) := by
  by_cases hl : ∃ a v, f = .late a v
  · obtain ⟨a, v, rfl⟩ := hl
    simp only [FoD] at hf
    exact ⟨.tup [], run_v (ρ := [some d]) (fn_now_names _ _ _) (by simp [d_now_names, startE, hf]) rfl, by simp [Fo.now, sD, IsT]⟩
  · obtain ⟨t, h1, h2⟩ := names_ok (k := k) (st := st) f d hf
    refine ⟨t, run_v (ρ := [some d]) (fn_now_names _ _ _) ?_ rfl, ?_⟩
    · obtain ⟨w, l, e1, e2, e3⟩ : ∃ w l, tupOf (.v d) = some (.str w :: l) ∧ okTx w = true ∧ w ≠ [108, 97, 116, 101] := by
        cases f <;> simp only [FoD] at hf
        case turn => obtain ⟨r, g1, g2⟩ := hf; exact ⟨_, _, g1, by decide, by decide⟩
        case pair w a b => exact ⟨_, _, hf, by simp, by simp⟩
        case late a v => exact absurd ⟨a, v, rfl⟩ hl
        all_goals exact ⟨_, _, hf, by decide, by decide⟩
      simp [d_now_names, startE, e1, e2, e3, h1, gc_len]
    · have : f.now = f.names := by cases f <;> first | rfl | exact absurd ⟨_, _, rfl⟩ hl
      rw [this]; exact h2
def trD (l : List Tx) : List (D × D) := l.map fun x => (.str x, .bl true)
theorem trD_look (l : List Tx) (x : Tx) : (lookD (trD l) (.str x)).isSome = decide (x ∈ l) := by
  induction l with
  | nil => rfl
  | cons a l ih =>
    show (lookD ((.str a, .bl true) :: trD l) (.str x)).isSome = _
    rw [lookD]
    by_cases e : a = x
    · subst e; simp
    · have : ¬ (D.str a = D.str x) := fun h => e (by cases h; rfl)
      rw [if_neg this, ih]
      have e2 : ¬ x = a := fun h => e h.symm
      simp [e2]
theorem trD_flat (l : List Tx) : flatKeys (trD l) = true := by simp [flatKeys, trD]
theorem trD_put {l : List Tx} {x : Tx} (h : x ∉ l) : putD (trD l) (.str x) (.bl true) = trD (l ++ [x]) := by
  rw [putD_new]
  · simp [trD]
  · intro p hp e
    obtain ⟨a, ha, rfl⟩ := List.mem_map.mp hp
    cases e; exact h ha
theorem ord_loop (hg : N.Good) (tab : List (D × D)) (ht : TabD tab N.cells) :
    ∀ (n m : Nat) (done left row : List Tx) (gs : St) (e5 : Option D), n < m → left.length < n → left.Nodup → (∀ x ∈ left, x ∈ N.cn ∧ x ∉ done) → row.length + left.length ≤ 1000 → done.length + left.length ≤ 1000 →
      ∃ gs' e5' done' left', whl (fun_ defs (k + 3)) c_order_of_1 b_order_of_1 m [some dN, some (.ref st.length), some (.ref (st.length + 1)), some (.ref (st.length + 2)), some (.ref (st.length + 3)), e5, none, none]
          (st ++ (MO.dct tab :: MO.dct (trD done) :: MO.lst (sD row) :: MO.lst (sD left) :: gs)) =
        .ok (.rt (.v (.ref (st.length + 2)))) [some dN, some (.ref st.length), some (.ref (st.length + 1)), some (.ref (st.length + 2)), some (.ref (st.length + 3)), e5', none, none]
          (st ++ (MO.dct tab :: MO.dct (trD done') :: MO.lst (sD (row ++ N.go n done left)) :: MO.lst (sD left') :: gs'))
  | 0, m, done, left, row, gs, e5, _, hl, _, _, _, _ => by omega
  | n + 1, 0, done, left, row, gs, e5, hm, _, _, _, _, _ => by omega
  | n + 1, m + 1, done, left, row, gs, e5, hm, hl, hnd, hd, hr, hdl => by
    have g0 : ∀ a b c, getK (st ++ (MO.dct tab :: a :: b :: c)) st.length = some tab := fun a b c => by rw [getK_new0]; rfl
    have g1 : ∀ a b l c, getK (st ++ (a :: MO.dct (trD l) :: b :: c)) (st.length + 1) = some (trD l) := fun a b l c => by rw [getK_new]; rfl
    have g2 : ∀ a b l c, getL (st ++ (a :: b :: MO.lst l :: c)) (st.length + 2) = some l := fun a b l c => by rw [getL_new]; rfl
    have g3 : ∀ a b c l d, getL (st ++ (a :: b :: c :: MO.lst l :: d)) (st.length + 3) = some l := fun a b c l d => by rw [getL_new]; rfl
    have hfl := ht.flat
    -- what can stand next
    have comp : lcLoop [(st.length + 3, .lst (sD left))] (lcB (fun_ defs (k + 3)) (.nm 6) [6] (.cons (.p .all (.cons (.lc (.seq (.call ix_now_names (.cons (.p .ix (.cons (.var 1) (.cons (.var 6) .nil))) .nil))) (.nm 7) [7] .nil (.p .inn (.cons (.var 7) (.cons (.var 2) .nil)))) .nil)) .nil) (.var 6)
        [some dN, some (.ref st.length), some (.ref (st.length + 1)), some (.ref (st.length + 2)), some (.ref (st.length + 3)), e5, none, none]) (sD left) [] (st ++ (MO.dct tab :: MO.dct (trD done) :: MO.lst (sD row) :: MO.lst (sD left) :: gs)) =
        .ok (.tl (sD (N.rdy done left))) (st ++ (MO.dct tab :: MO.dct (trD done) :: MO.lst (sD row) :: MO.lst (sD left) :: gs)) := by
      rw [lcLoop_fm (fun d => match d with
        | .str x => if (N.form x).now.all fun a => decide (a ∈ done) then some (.str x) else none
        | _ => none) (alive_lst (g3 _ _ _ _ _)) (sD left) [] (fun d hdm => ?_) (by simp; omega)]
      · have : ∀ l : List Tx, (sD l).filterMap (fun d => match d with
          | .str x => if (N.form x).now.all fun a => decide (a ∈ done) then some (D.str x) else none
          | _ => none) = sD (N.rdy done l) := by
          intro l
          induction l with
          | nil => rfl
          | cons a l ih =>
            show ((D.str a) :: sD l).filterMap _ = _
            rw [List.filterMap_cons]
            unfold Net.rdy at ih ⊢
            rw [List.filter_cons]
            by_cases e : ((N.form a).now.all fun a => decide (a ∈ done)) = true
            · simp only [e, if_true]
              rw [ih]; rfl
            · simp only [e]
              exact ih
        rw [this]; rfl
      · obtain ⟨x, hx, rfl⟩ := List.mem_map.mp hdm
        have hxc := (hd x hx).1
        have hlk : N.cells.lookup x = some (N.form x) := by
          have h1 := cell_of hg hxc
          unfold Net.form
          cases e : N.cells.lookup x with
          | some f => rfl
          | none =>
            have := List.lookup_eq_none_iff.mp e _ h1
            simp at this
        obtain ⟨fd, f1, f2⟩ := ht.look hlk
        obtain ⟨t, t1, t2⟩ := now_ok (k := k + 1) (st := st ++ (MO.dct tab :: MO.dct (trD done) :: MO.lst (sD row) :: MO.lst (sD left) :: gs)) _ fd f2
        have hnl : (N.form x).now.length ≤ 2 := by cases N.form x <;> simp [Fo.now, Fo.names]
        have inner : ∀ body : D → St → R (Option D), (∀ a ∈ (N.form x).now, body (.str a) (st ++ (MO.dct tab :: MO.dct (trD done) :: MO.lst (sD row) :: MO.lst (sD left) :: gs)) = .ok (some (.bl (decide (a ∈ done)))) (st ++ (MO.dct tab :: MO.dct (trD done) :: MO.lst (sD row) :: MO.lst (sD left) :: gs))) →
            lcLoop [] body (sD (N.form x).now) [] (st ++ (MO.dct tab :: MO.dct (trD done) :: MO.lst (sD row) :: MO.lst (sD left) :: gs)) = .ok (.tl ((N.form x).now.map fun a => .bl (decide (a ∈ done)))) (st ++ (MO.dct tab :: MO.dct (trD done) :: MO.lst (sD row) :: MO.lst (sD left) :: gs)) := fun body hb => by
          rw [lcLoop_map (fun d => match d with
            | .str a => .bl (decide (a ∈ done))
            | _ => .non) alive_nil _ [] (fun d hd => by obtain ⟨a, ha, rfl⟩ := List.mem_map.mp hd; exact hb a ha) (by simp; omega)]
          simp [sD]
        have ask : askOk (trD done) = fun k => (keyK k && flatKeys (trD done)) || (isT k && tupKeys (trD done)) := rfl
        simp [lcB, g0, askOk, hfl, f1, t1, t2, gc_len]
        rw [inner _ (fun a ha => by simp [lcB, g1, askOk, trD_flat, trD_look])]
        simp [blsOf_map]
        split
        · rename_i h; simp [h]
        · rename_i h; simp [h]
    have hc : ∀ ρ S, (evE (fun_ defs (k + 3)) c_order_of_1 ρ S).bind (fun x st2 => truR x st2) = .ok true S := fun ρ S => by simp [c_order_of_1]
    rw [whl_succ, hc]
    simp only [R.toS_ok, if_true]
    have E1 : ∀ (a b c d : MO) (r : List D), (st ++ (a :: b :: c :: d :: gs)) ++ [MO.lst r] = st ++ (a :: b :: c :: d :: (gs ++ [MO.lst r])) := fun a b c d r => by simp
    have SL : (st ++ (MO.dct tab :: MO.dct (trD done) :: MO.lst (sD row) :: MO.lst (sD left) :: gs)).length = st.length + (4 + gs.length) := by simp; omega
    have gR : ∀ (a b c d : MO) (r : List D), getL (st ++ (a :: b :: c :: d :: (gs ++ [MO.lst r]))) (st.length + (4 + gs.length)) = some r := fun a b c d r => by
      rw [getL_new, show 4 + gs.length = gs.length + 4 from by omega]
      unfold getL; simp
    have hch := chkOf_lst (g3 (MO.dct tab) (MO.dct (trD done)) (MO.lst (sD row)) (sD left) gs)
    cases hr0 : N.rdy done left with
    | nil =>
      rw [hr0] at comp
      refine ⟨gs ++ [MO.lst (sD [])], some (.ref (st.length + (4 + gs.length))), done, left, ?_⟩
      have hgo : N.go (n + 1) done left = [] := by rw [Net.go, hr0]
      rw [hgo, List.append_nil]
      have hb : evSs (fun_ defs (k + 3)) b_order_of_1 [some dN, some (.ref st.length), some (.ref (st.length + 1)), some (.ref (st.length + 2)), some (.ref (st.length + 3)), e5, none, none]
          (st ++ (MO.dct tab :: MO.dct (trD done) :: MO.lst (sD row) :: MO.lst (sD left) :: gs)) = .ok (.rt (.v (.ref (st.length + 2)))) [some dN, some (.ref st.length), some (.ref (st.length + 1)), some (.ref (st.length + 2)), some (.ref (st.length + 3)), some (.ref (st.length + (4 + gs.length))), none, none]
          (st ++ (MO.dct tab :: MO.dct (trD done) :: MO.lst (sD row) :: MO.lst (sD left) :: (gs ++ [MO.lst (sD [])]))) := by
        have g5 := gR (MO.dct tab) (MO.dct (trD done)) (MO.lst (sD row)) (MO.lst (sD left)) (sD [])
        simp only [b_order_of_1, evSs_cons, evSs_nil, evS_asg, evE_lc, evIt_seq]
        rw [evE_var 4 _ (by rfl)]
        simp only [R.bi_ok, kSeq_ap, kLc_ap, kAsg_ap, kSs_ap, evS_asg, evSs_cons, itemsOf_lst, g3, hch, comp, R.toS_ok, assign_nm, mat_tl, RS.bind_nx, E1, SL]
        have hE : (sD ([] : List Tx)).isEmpty = true := rfl
        simp [g5, hE]
      rw [hb]; rfl
    | cons x rr =>
      rw [hr0] at comp
      have hxr : x ∈ N.rdy done left := by rw [hr0]; simp
      have hxl : x ∈ left := (List.mem_filter.mp hxr).1
      have hgo : N.go (n + 1) done left = x :: N.go n (done ++ [x]) (left.erase x) := by rw [Net.go, hr0]
      have hle := List.length_erase_of_mem hxl
      have hlp : 0 < left.length := List.length_pos_of_mem hxl
      obtain ⟨gs', e5', done', left', ih⟩ := ord_loop hg tab ht n m (done ++ [x]) (left.erase x) (row ++ [x]) (gs ++ [MO.lst (sD (x :: rr))]) (some (.ref (st.length + (4 + gs.length)))) (by omega) (by omega) (hnd.erase x)
        (fun y hy => by
          have h1 := List.mem_of_mem_erase hy
          refine ⟨(hd y h1).1, ?_⟩
          simp only [List.mem_append, List.mem_singleton, not_or]
          refine ⟨(hd y h1).2, fun e => ?_⟩
          subst e
          exact (List.Nodup.mem_erase_iff hnd).mp hy |>.1 rfl) (by simp; omega) (by simp; omega)
      refine ⟨gs', e5', done', left', ?_⟩
      rw [hgo]
      have hb : evSs (fun_ defs (k + 3)) b_order_of_1 [some dN, some (.ref st.length), some (.ref (st.length + 1)), some (.ref (st.length + 2)), some (.ref (st.length + 3)), e5, none, none]
          (st ++ (MO.dct tab :: MO.dct (trD done) :: MO.lst (sD row) :: MO.lst (sD left) :: gs)) = .ok .nx [some dN, some (.ref st.length), some (.ref (st.length + 1)), some (.ref (st.length + 2)), some (.ref (st.length + 3)), some (.ref (st.length + (4 + gs.length))), none, none]
          (st ++ (MO.dct tab :: MO.dct (trD (done ++ [x])) :: MO.lst (sD (row ++ [x])) :: MO.lst (sD (left.erase x)) :: (gs ++ [MO.lst (sD (x :: rr))]))) := by
        have g5 := fun a b c d => gR a b c d (sD (x :: rr))
        have hrl : row.length ≤ 100000 := by omega
        have hdl2 : (trD done).length < szMax := by simp [trD]; unfold szMax; omega
        have hput := trD_put (hd x hxl).2
        simp only [b_order_of_1, evSs_cons, evSs_nil, evS_asg, evE_lc, evIt_seq]
        rw [evE_var 4 _ (by rfl)]
        simp only [R.bi_ok, kSeq_ap, kLc_ap, kAsg_ap, kSs_ap, evS_asg, evSs_cons, itemsOf_lst, g3, hch, comp, R.toS_ok, assign_nm, mat_tl, RS.bind_nx, E1, SL]
        have hE : (sD (x :: rr)).isEmpty = false := rfl
        have hA : atI (sD (x :: rr)) 0 = some (.str x) := atI_zero _ _
        have s1 : ∀ (a b c d o : MO) (r : St), (st ++ (a :: b :: c :: d :: r)).set (st.length + 1) o = st ++ (a :: o :: c :: d :: r) := fun a b c d o r => by rw [List.set_append_right _ _ (by omega)]; simp
        have s2 : ∀ (a b c d o : MO) (r : St), (st ++ (a :: b :: c :: d :: r)).set (st.length + 2) o = st ++ (a :: b :: o :: d :: r) := fun a b c d o r => by rw [List.set_append_right _ _ (by omega)]; simp
        have s3 : ∀ (a b c d o : MO) (r : St), (st ++ (a :: b :: c :: d :: r)).set (st.length + 3) o = st ++ (a :: b :: c :: o :: r) := fun a b c d o r => by rw [List.set_append_right _ _ (by omega)]; simp
        have app : sD (row ++ [x]) = sD row ++ [.str x] := by simp [sD]
        have rem : ∀ (a b c : MO) (r : St), p_rem [.v (.ref (st.length + 3)), .v (.str x)] (st ++ (a :: b :: c :: MO.lst (sD left) :: r)) = .ok (.v .non) (st ++ (a :: b :: c :: MO.lst (sD (left.erase x)) :: r)) := fun a b c r => by
          exact (p_rem_ok (l := left) (g3 a b c (sD left) r) hxl).trans (by rw [s3]; rfl)
        simp [g5, hE, hA, g2, g1, g3, hrl, s1, s2, s3, askOk, trD_flat, hdl2, setO, hput, rem, app]
      rw [hb, RS.lp_nx, ih]
      simp
theorem go_mem (N : Net) : ∀ (n : Nat) (done left : List Tx) (x : Tx), x ∈ N.go n done left → x ∈ left
  | 0, _, _, _, h => by cases h
  | n + 1, done, left, x, h => by
    rw [Net.go] at h
    cases hr : N.rdy done left with
    | nil => rw [hr] at h; cases h
    | cons y rr =>
      rw [hr] at h
      have hy : y ∈ left := (List.mem_filter.mp (show y ∈ N.rdy done left by rw [hr]; simp)).1
      rcases List.mem_cons.mp h with rfl | h
      · exact hy
      · exact List.mem_of_mem_erase (go_mem N n _ _ x h)
theorem go_nd (N : Net) : ∀ (n : Nat) (done left : List Tx), left.Nodup → (N.go n done left).Nodup
  | 0, _, _, _ => List.nodup_nil
  | n + 1, done, left, hn => by
    rw [Net.go]
    cases hr : N.rdy done left with
    | nil => exact List.nodup_nil
    | cons y rr =>
      simp only
      rw [List.nodup_cons]
      exact ⟨fun h => (hn.mem_erase_iff.mp (go_mem N n _ _ y h)).1 rfl, go_nd N n _ _ (hn.erase y)⟩
theorem go_top (N : Net) : ∀ (n : Nat) (done left : List Tx) (i : Nat) (x : Tx), (N.go n done left)[i]? = some x → ∀ a ∈ (N.form x).now, a ∈ done ∨ a ∈ (N.go n done left).take i
  | 0, _, _, i, x, h, _, _ => by simp [Net.go] at h
  | n + 1, done, left, i, x, h, a, ha => by
    rw [Net.go] at h ⊢
    cases hr : N.rdy done left with
    | nil => rw [hr] at h; simp at h
    | cons y rr =>
      rw [hr] at h
      simp only at h ⊢
      cases i with
      | zero =>
        simp at h
        subst h
        have := (List.mem_filter.mp (show y ∈ N.rdy done left by rw [hr]; simp)).2
        left
        simpa using List.all_eq_true.mp this a ha
      | succ i =>
        simp only [List.getElem?_cons_succ] at h
        rcases go_top N n _ _ i x h a ha with h1 | h1
        · rcases List.mem_append.mp h1 with h1 | h1
          · exact .inl h1
          · right; simp at h1; simp [h1]
        · right; simp [h1]
theorem go_len (N : Net) : ∀ (n m : Nat) (done left : List Tx), left.length < n → left.length < m → N.go n done left = N.go m done left
  | 0, _, _, _, h, _ => by omega
  | _ + 1, 0, _, _, _, h => by omega
  | n + 1, m + 1, done, left, h1, h2 => by
    rw [Net.go, Net.go]
    cases hr : N.rdy done left with
    | nil => rfl
    | cons y rr =>
      simp only
      have hy : y ∈ left := (List.mem_filter.mp (show y ∈ N.rdy done left by rw [hr]; simp)).1
      have hl := List.length_erase_of_mem hy
      have hp : 0 < left.length := List.length_pos_of_mem hy
      rw [go_len N n m _ _ (by omega) (by omega)]
theorem ord_ord (hg : N.Good) (hl : N.ord.length = N.cn.length) : Ord N N.ord where
  nd := go_nd N _ _ _ hg.nd
  mem := fun x => by
    refine ⟨go_mem N _ _ _ x, fun hx => ?_⟩
    by_cases h : x ∈ N.ord
    · exact h
    · have := len_le_of_nodup (x :: N.ord) N.cn (List.nodup_cons.mpr ⟨h, go_nd N _ _ _ hg.nd⟩) (fun y hy => by
        rcases List.mem_cons.mp hy with rfl | hy
        · exact hx
        · exact go_mem N _ _ _ y hy)
      simp at this; omega
  top := fun i x h a ha => go_top N _ _ _ i x h a ha
theorem cell_names_ok (hg : N.Good) (hd : NetD dN N) : fun_ defs (k + 1) ix_cell_names [dN] st = .ok (.tl (sD N.cn)) st := by
  obtain ⟨di, dc, cs, e1, e2, e3, h⟩ := hd
  refine run_v (ρ := [some dN, none, none]) (fn_cell_names _ _ _) ?_ rfl
  have lcn := fun ρ (hρ : 1 < ρ.length) st => lc_names (F := fun_ defs k) (i := 1) (j := 2) (ρ := ρ) h (by have := hg.len; omega) hρ (by omega) st
  simp [d_cell_names, startE, e1, e3, lcn]
theorem order_ok (hg : N.Good) (hd : NetD dN N) (hin : N.ins.length ≤ 100) (hni : N.ins.Nodup) : fun_ defs (k + 4) ix_order_of [dN] st = .ok (.tl (sD N.ord)) st := by
  obtain ⟨tab, t1, t2⟩ := table_ok (k := k + 2) (st := st) dN N hd hg.nd (by have := hg.len; omega)
  have cn := fun st => cell_names_ok (k := k + 2) (st := st) hg hd
  have hcl : N.cn.length ≤ 20 := by have := hg.len; simpa [Net.cn] using this
  obtain ⟨gs, e5, done, left, p1⟩ := ord_loop (k := k) (st := st) (dN := dN) hg tab t2 (N.cn.length + 1) wN N.ins N.cn [] [] none (by unfold wN; omega) (by omega) hg.nd (fun x hx => ⟨hx, hg.dis x hx⟩) (by simp; omega) (by omega)
  obtain ⟨di, dc, cs, e1, e2, e3, h⟩ := hd
  have dl : ∀ body : D → St → R (Option (D × D)), (∀ x ∈ N.ins, body (.str x) (st ++ [MO.dct tab]) = .ok (some (.str x, .bl true)) (st ++ [MO.dct tab])) → dcLoop [] body (sD N.ins) [] (st ++ [MO.dct tab]) = .ok (.td (trD N.ins)) (st ++ [MO.dct tab]) := fun body hb => by
    rw [dcLoop_map (fun d => (d, .bl true)) alive_nil (sD N.ins) [] (fun d hd => by obtain ⟨x, hx, rfl⟩ := List.mem_map.mp hd; exact hb x hx) (fun d hd => by obtain ⟨x, hx, rfl⟩ := List.mem_map.mp hd; rfl) (by simp; omega) ?_]
    · simp [sD, trD]
    · simp only [List.map_nil, List.nil_append, List.map_id']
      exact List.Pairwise.map D.str (fun a b hab x => hab (by cases x; rfl)) hni
  refine run_l (n := 2) (l := sD N.ord) (os := (MO.dct tab :: MO.dct (trD done) :: MO.lst (sD ([] ++ N.go (N.cn.length + 1) N.ins N.cn)) :: MO.lst (sD left) :: gs))
    (ρ := [some dN, some (.ref st.length), some (.ref (st.length + 1)), some (.ref (st.length + 2)), some (.ref (st.length + 3)), e5, none, none]) (fn_order_of _ _ _) ?_ rfl rfl (bels_sD _ _)
  simp [d_order_of, startE, e1, e2, t1, gc_len]
  rw [dl _ (fun x hx => by simp [dcB])]
  simp [cn, gc_len]
  rw [show MO.lst [] = MO.lst (sD []) from rfl, p1]
  rfl
end
end CM
end
section
/-! Q17: compiled. -/
namespace CM
open PM B
section
variable {N : Net} {dN : D} {k : Nat} {st : St}
def idxK : Nat → List Tx → List (D × D)
  | _, [] => []
  | n, x :: l => (.str x, nD n) :: idxK (n + 1) l
theorem idxK_flat : ∀ (l : List Tx) (n : Nat), flatKeys (idxK n l) = true
  | [], _ => rfl
  | x :: l, n => by
    have := idxK_flat l (n + 1)
    unfold flatKeys at this ⊢
    simp [idxK, this]
theorem idxK_look : ∀ (l : List Tx) (n : Nat) (x : Tx), lookD (idxK n l) (.str x) = if x ∈ l then some (nD (n + l.idxOf x)) else none
  | [], n, x => by simp [idxK, lookD]
  | a :: l, n, x => by
    rw [idxK, lookD]
    by_cases e : a = x
    · subst e; simp
    · have h1 : ¬ (D.str a = D.str x) := fun h => e (by cases h; rfl)
      have h2 : (a == x) = false := by simp [e]
      have h3 : ¬ x = a := fun h => e h.symm
      rw [if_neg h1, idxK_look l (n + 1) x]
      simp only [List.mem_cons, h3, false_or]
      rw [List.idxOf_cons, h2]
      simp only [cond_false]
      split
      · rw [show n + 1 + l.idxOf x = n + (l.idxOf x + 1) from by omega]
      · rfl
theorem idxK_len : ∀ (l : List Tx) (n : Nat), (idxK n l).length = l.length
  | [], _ => rfl
  | x :: l, n => by simp [idxK, idxK_len l]
theorem idxK_keys : ∀ (l : List Tx) (n : Nat), (idxK n l).map (·.1) = sD l
  | [], _ => rfl
  | x :: l, n => by
    have := idxK_keys l (n + 1)
    simp only [idxK, List.map_cons, this]; rfl
theorem idxK_enu : ∀ (l : List Tx) (n : Nat), (enuD n (sD l)).map (fun d => (((tupOf (.v d)).getD []).getD 1 .non, ((tupOf (.v d)).getD []).headD .non)) = idxK n l
  | [], _ => rfl
  | x :: l, n => by
    have := idxK_enu l (n + 1)
    show _ :: ((enuD (n + 1) (sD l)).map _) = _
    rw [this]; rfl
theorem enu_mem : ∀ (l : List Tx) (n : Nat) (d : D), d ∈ enuD n (sD l) → ∃ (i : Nat) (x : Tx), d = .tup [nD i, .str x]
  | [], _, d, h => by cases h
  | x :: l, n, d, h => by
    rcases List.mem_cons.mp h with rfl | h
    · exact ⟨n, x, rfl⟩
    · exact enu_mem l (n + 1) d h
theorem enu_len : ∀ (l : List D) (n : Nat), (enuD n l).length = l.length
  | [], _ => rfl
  | x :: l, n => by simp [enuD, enu_len l]
/-- a dict of the places of a list -/
theorem dc_enu {F : FT} {ρ : Env} {i j : Nat} (l : List Tx) (hn : l.Nodup) (hl : l.length ≤ 1000) (hi : i < ρ.length) (hj : j < ρ.length) (hij : i ≠ j) (chk : Chk) (hc : alive chk st = true) :
    dcLoop chk (dcB F (.tp [i, j]) [i, j] .nil (.var j) (.var i) ρ) (enuD 0 (sD l)) [] st = .ok (.td (idxK 0 l)) st := by
  have hb : ∀ d ∈ enuD 0 (sD l), dcB F (.tp [i, j]) [i, j] .nil (.var j) (.var i) ρ d st = .ok (some (((tupOf (.v d)).getD []).getD 1 .non, ((tupOf (.v d)).getD []).headD .non)) st := fun d hd => by
    obtain ⟨p, x, rfl⟩ := enu_mem l 0 d hd
    have e1 : (((ρ.set j none).set i none).set i (some (nD p)) |>.set j (some (.str x)))[j]? = some (some (.str x)) := by simp [hj]
    have e2 : (((ρ.set j none).set i none).set i (some (nD p)) |>.set j (some (.str x)))[i]? = some (some (nD p)) := by
      rw [List.getElem?_set_ne (by omega)]
      simp [hi]
    simp [dcB]
    rw [evE_var j _ (by simpa using e1)]
    simp
    rw [evE_var i _ (by simpa using e2)]
    simp
  have hk : ∀ d ∈ enuD 0 (sD l), keyK (((tupOf (.v d)).getD []).getD 1 .non) = true := fun d hd => by
    obtain ⟨p, x, rfl⟩ := enu_mem l 0 d hd
    rfl
  have hm : (enuD 0 (sD l)).map (fun d => (((tupOf (.v d)).getD []).getD 1 .non)) = sD l := by
    have := idxK_keys l 0
    rw [← idxK_enu l 0, List.map_map] at this
    exact this
  have hnd : (sD l).Nodup := List.Pairwise.map D.str (fun a b hab x => hab (by cases x; rfl)) hn
  have := dcLoop_map (fun d => (((tupOf (.v d)).getD []).getD 1 .non, ((tupOf (.v d)).getD []).headD .non)) hc (enuD 0 (sD l)) [] hb hk (by simp [enu_len]; omega) (by simp only [List.map_nil, List.nil_append]; rw [hm]; exact hnd)
  rw [this, idxK_enu]
  rfl
theorem lines_of (f : Fo) (d : D) (hF : FoD d f) (l : List Tx) (hl : ∀ a ∈ f.names, a ∈ l) (pr : Nat) (hp : getK st pr = some (idxK 0 l)) (p s : Nat) (ds : D) (hds : f.keeps = true → ds = nD s) :
    ∃ ld, fun_ defs (k + 2) ix_cell_lines [d, .ref pr, nD p, ds] st = .ok (.tl ld) st ∧ All2 LnD ld (f.lines (fun a => l.idxOf a) p s) := by
  obtain ⟨t, t1, t2⟩ := names_ok (k := k) (st := st) f d hF
  have hnl : f.names.length ≤ 2 := by cases f <;> simp [Fo.names]
  have comp : ∀ body : D → St → R (Option D), (∀ a ∈ f.names, body (.str a) st = .ok (some (nD (l.idxOf a))) st) → lcLoop [] body (sD f.names) [] st = .ok (.tl (f.names.map fun a => nD (l.idxOf a))) st := fun body hb => by
    rw [lcLoop_map (fun d => match d with
      | .str a => nD (l.idxOf a)
      | _ => .non) alive_nil _ [] (fun d hd => by obtain ⟨a, ha, rfl⟩ := List.mem_map.mp hd; exact hb a ha) (by simp; omega)]
    simp [sD]
  have lk : ∀ a ∈ f.names, lookD (idxK 0 l) (.str a) = some (nD (l.idxOf a)) := fun a ha => by rw [idxK_look, if_pos (hl a ha)]; simp
  have key : ∀ (w : Tx) (r ld : List D), tupOf (.v d) = some (.str w :: r) →
      evSs (fun_ defs (k + 1)) d_cell_lines.body (startE d_cell_lines.slots [d, .ref pr, nD p, ds]) st = .ok (.rt (.tl ld)) [some d, some (.ref pr), some (nD p), some ds, some (.str w), some (.ktp (f.names.map fun a => nD (l.idxOf a))), none] st →
      All2 LnD ld (f.lines (fun a => l.idxOf a) p s) → ∃ ld, fun_ defs (k + 2) ix_cell_lines [d, .ref pr, nD p, ds] st = .ok (.tl ld) st ∧ All2 LnD ld (f.lines (fun a => l.idxOf a) p s) := fun w r ld _ e h =>
    ⟨ld, run_v (fn_cell_lines _ _ _) e rfl, h⟩
  have hfl := idxK_flat l 0
  cases f with
  | worth v =>
    simp only [FoD] at hF
    refine key _ _ [.tup [.str w_put, nD p, .int v]] hF ?_ (.cons rfl .nil)
    simp [d_cell_lines, startE, hF, t1, t2, gc_len]
    rw [comp _ (fun a ha => by simp [lcB, hp, askOk, hfl, lk a ha])]
    simp [hF, Fo.names]
  | copy a =>
    simp only [FoD] at hF
    refine key _ _ [.tup [.str w_copy, nD p, nD (l.idxOf a)]] hF ?_ (.cons rfl .nil)
    simp [d_cell_lines, startE, hF, t1, t2, gc_len]
    rw [comp _ (fun a ha => by simp [lcB, hp, askOk, hfl, lk a ha])]
    simp [hF, Fo.names]
  | there a =>
    simp only [FoD] at hF
    refine key _ _ [.tup [.str w_there, nD p, nD (l.idxOf a)]] hF ?_ (.cons rfl .nil)
    simp [d_cell_lines, startE, hF, t1, t2, gc_len]
    rw [comp _ (fun a ha => by simp [lcB, hp, askOk, hfl, lk a ha])]
    simp [hF, Fo.names]
  | pair w a b =>
    simp only [FoD] at hF
    refine key _ _ [.tup [.str w_pair, nD p, .str w.tx, nD (l.idxOf a), nD (l.idxOf b)]] hF ?_ (.cons rfl .nil)
    simp [d_cell_lines, startE, hF, t1, t2, gc_len]
    rw [comp _ (fun a ha => by simp [lcB, hp, askOk, hfl, lk a ha])]
    cases w <;> simp [hF, Fo.names, PW.tx]
  | turn a row =>
    obtain ⟨r, hF, h2⟩ := hF
    refine key _ _ [.tup [.str w_turn, nD p, nD (l.idxOf a), r]] hF ?_ (.cons ⟨r, rfl, h2⟩ .nil)
    simp [d_cell_lines, startE, hF, t1, t2, gc_len]
    rw [comp _ (fun a ha => by simp [lcB, hp, askOk, hfl, lk a ha])]
    simp [hF, Fo.names]
  | when a b =>
    simp only [FoD] at hF
    refine key _ _ [.tup [.str w_gate, nD p, nD (l.idxOf a), nD (l.idxOf b)]] hF ?_ (.cons rfl .nil)
    simp [d_cell_lines, startE, hF, t1, t2, gc_len]
    rw [comp _ (fun a ha => by simp [lcB, hp, askOk, hfl, lk a ha])]
    simp [hF, Fo.names]
  | els a b =>
    simp only [FoD] at hF
    refine key _ _ [.tup [.str w_else, nD p, nD (l.idxOf a), nD (l.idxOf b)]] hF ?_ (.cons rfl .nil)
    simp [d_cell_lines, startE, hF, t1, t2, gc_len]
    rw [comp _ (fun a ha => by simp [lcB, hp, askOk, hfl, lk a ha])]
    simp [hF, Fo.names]
  | late a v =>
    simp only [FoD] at hF
    have := hds rfl
    subst this
    refine key _ _ [.tup [.str w_recall, nD p, nD s]] hF ?_ (.cons rfl .nil)
    simp [d_cell_lines, startE, hF, t1, t2, gc_len]
    rw [comp _ (fun a ha => by simp [lcB, hp, askOk, hfl, lk a ha])]
    simp [hF, Fo.names]
  | held a v =>
    simp only [FoD] at hF
    have := hds rfl
    subst this
    refine key _ _ [.tup [.str w_recall, nD p, nD s], .tup [.str w_else, nD p, nD (l.idxOf a), nD p]] hF ?_ (.cons rfl (.cons rfl .nil))
    simp [d_cell_lines, startE, hF, t1, t2, gc_len]
    rw [comp _ (fun a ha => by simp [lcB, hp, askOk, hfl, lk a ha])]
    simp [hF, Fo.names]
  | before a v =>
    simp only [FoD] at hF
    have := hds rfl
    subst this
    refine key _ _ [.tup [.str w_recall, nD p, nD s], .tup [.str w_drop, nD p, nD (l.idxOf a)]] hF ?_ (.cons rfl (.cons rfl .nil))
    simp [d_cell_lines, startE, hF, t1, t2, gc_len]
    rw [comp _ (fun a ha => by simp [lcB, hp, askOk, hfl, lk a ha])]
    simp [hF, Fo.names]
  | mtch w a b =>
    simp only [FoD] at hF
    have := hds rfl
    subst this
    refine key _ _ [.tup [.str w_push, nD p, nD s, .str w.tx, nD (l.idxOf a), nD (l.idxOf b)]] hF ?_ (.cons rfl .nil)
    simp [d_cell_lines, startE, hF, t1, t2, gc_len]
    rw [comp _ (fun a ha => by simp [lcB, hp, askOk, hfl, lk a ha])]
    simp [hF, Fo.names]
theorem store_of (f : Fo) (d : D) (hF : FoD d f) (hk : f.keeps = true) (l : List Tx) (hl : ∀ a ∈ f.names, a ∈ l) (pr : Nat) (hp : getK st pr = some (idxK 0 l)) (s : Nat) :
    ∃ x, fun_ defs (k + 1) ix_store_line [d, .ref pr, nD s] st = .ok (.v x) st ∧ LnD x (f.store (fun a => l.idxOf a) s) := by
  have lk : ∀ a ∈ f.names, lookD (idxK 0 l) (.str a) = some (nD (l.idxOf a)) := fun a ha => by rw [idxK_look, if_pos (hl a ha)]; simp
  have hfl := idxK_flat l 0
  cases f <;> simp only [FoD] at hF
  case held a v => exact ⟨.tup [.str w_store, nD s, nD (l.idxOf a), .int 0], run_v (ρ := [some d, some (.ref pr), some (nD s)]) (fn_store_line _ _ _) (by simp [d_store_line, startE, hF, hp, askOk, hfl, lk a (by simp [Fo.names])]) rfl, rfl⟩
  case before a v => exact ⟨.tup [.str w_store, nD s, nD (l.idxOf a), .int 0], run_v (ρ := [some d, some (.ref pr), some (nD s)]) (fn_store_line _ _ _) (by simp [d_store_line, startE, hF, hp, askOk, hfl, lk a (by simp [Fo.names])]) rfl, rfl⟩
  case late a v => exact ⟨.tup [.str w_store, nD s, nD (l.idxOf a), .int 1], run_v (ρ := [some d, some (.ref pr), some (nD s)]) (fn_store_line _ _ _) (by simp [d_store_line, startE, hF, hp, askOk, hfl, lk a (by simp [Fo.names])]) rfl, rfl⟩
  case mtch w a b => exact ⟨.tup [.str w_store, nD s, .int (-1), .int 0], run_v (ρ := [some d, some (.ref pr), some (nD s)]) (fn_store_line _ _ _) (by simp [d_store_line, startE, hF]) rfl, rfl⟩
  all_goals cases hk
theorem first_of (f : Fo) (d : D) (hF : FoD d f) (hk : f.keeps = true) : ∃ x, fun_ defs (k + 1) ix_first_kept [d] st = .ok (.v x) st ∧ KpD x f.first := by
  cases f <;> simp only [FoD] at hF
  case held a v => exact ⟨.int v, run_v (ρ := [some d]) (fn_first_kept _ _ _) (by simp [d_first_kept, startE, hF]) rfl, rfl⟩
  case before a v => exact ⟨.int v, run_v (ρ := [some d]) (fn_first_kept _ _ _) (by simp [d_first_kept, startE, hF]) rfl, rfl⟩
  case late a v => exact ⟨oD v, run_v (ρ := [some d]) (fn_first_kept _ _ _) (by simp [d_first_kept, startE, hF]) rfl, rfl⟩
  case mtch w a b => exact ⟨.tup [.tup [], .tup []], run_v (ρ := [some d]) (fn_first_kept _ _ _) (by simp [d_first_kept, startE, hF]) rfl, ⟨_, _, rfl, rfl, rfl⟩⟩
  all_goals cases hk
end
end CM
end
section
namespace CM
open PM B
section
variable {N : Net} {dN : D} {k : Nat} {st : St}
theorem All2.app {α β : Type} {R : α → β → Prop} {l l' : List α} {m m' : List β} (h : All2 R l m) (h' : All2 R l' m') : All2 R (l ++ l') (m ++ m') := by
  induction h with
  | nil => exact h'
  | cons r _ ih => exact .cons r ih
theorem LnD.bel {d : D} {ln : Ln} (h : LnD d ln) (n : Nat) : d.bel n = true := by
  cases ln <;> simp only [LnD] at h
  case turn =>
    obtain ⟨t, h1, h2⟩ := h
    rw [bel_T h1]; simp [nD, bel_T h2, bels_iD]
  all_goals rw [bel_T h]; simp [nD]
theorem lines_len (pl : Tx → Nat) (p s : Nat) (f : Fo) : (f.lines pl p s).length ≤ 2 := by cases f <;> simp [Fo.lines]
theorem form_look (hg : N.Good) {x : Tx} (hx : x ∈ N.cn) : N.cells.lookup x = some (N.form x) := by
  have h1 := cell_of hg hx
  unfold Net.form
  cases e : N.cells.lookup x with
  | some f => rfl
  | none =>
    have := List.lookup_eq_none_iff.mp e _ h1
    simp at this
theorem kind_in (f : Fo) (d : D) (hF : FoD d f) : ∃ w r, tupOf (.v d) = some (.str w :: r) ∧ ((w = w_held ∨ w = w_before ∨ w = w_late ∨ w = w_match) ↔ f.keeps = true) := by
  cases f <;> simp only [FoD] at hF
  case turn => obtain ⟨r, h1, h2⟩ := hF; exact ⟨_, _, h1, by simp [Fo.keeps]⟩
  case pair w a b => exact ⟨_, _, hF, by simp [Fo.keeps]⟩
  all_goals exact ⟨_, _, hF, by simp [Fo.keeps]⟩
theorem lc_all2 {β : Type} {R : D → β → Prop} (g : Tx → β) (S : St) (chk : Chk) (hc : alive chk S = true) (body : D → St → PM.R (Option D)) : ∀ (l : List Tx) (acc : List D), (∀ a ∈ l, ∃ y, body (.str a) S = .ok (some y) S ∧ R y (g a)) → acc.length + l.length ≤ 1000 →
    ∃ ys, lcLoop chk body (sD l) acc S = .ok (.tl (acc ++ ys)) S ∧ All2 R ys (l.map g)
  | [], acc, _, _ => ⟨[], by simp [sD, lcLoop, hc], .nil⟩
  | a :: l, acc, h, hl => by
    obtain ⟨y, h1, h2⟩ := h a (by simp)
    have hs : acc.length < szMax := by unfold szMax; simp at hl; omega
    obtain ⟨ys, h3, h4⟩ := lc_all2 g S chk hc body l (acc ++ [y]) (fun b hb => h b (by simp [hb])) (by simp at hl ⊢; omega)
    refine ⟨y :: ys, ?_, .cons h2 h4⟩
    show lcLoop chk body (.str a :: sD l) acc S = _
    rw [lcLoop, if_pos hc, h1]
    simp only [PM.R.cut_ok, PM.R.bi_ok, hs, if_true]
    rw [h3]
    simp
theorem lc_cells {cs : List D} (h : All2 CellD cs N.cells) (hl : N.cells.length ≤ 1000) (S : St) (g : Tx → D) (body : D → St → PM.R (Option D)) (hb : ∀ c ∈ cs, ∀ x fd, tupOf (.v c) = some [.str x, fd] → x ∈ N.cn → body c S = .ok (some (g x)) S) :
    lcLoop [] body cs [] S = .ok (.tl (N.cn.map g)) S := by
  rw [lcLoop_map (fun c => match nmD c with
    | .str x => g x
    | _ => .non) alive_nil cs [] (fun c hc => ?_) (by have := h.len; simp; omega)]
  · rw [All2.map h _ (fun c => g c.1) (fun a b r => by obtain ⟨fd, a1, a2, a3, a4⟩ := CellD.eq r; simp [a3])]
    simp [Net.cn]
  · obtain ⟨b, hb', r⟩ := h.left c hc
    obtain ⟨fd, a1, a2, a3, a4⟩ := CellD.eq r
    rw [a3]
    exact hb c hc b.1 fd a1 (List.mem_map.mpr ⟨b, hb', rfl⟩)
theorem compiled_ok (hg : N.Good) (hd : NetD dN N) (hin : N.ins.length ≤ 100) (hni : N.ins.Nodup) (ho : Ord N N.ord) :
    ∃ dP, fun_ defs (k + 5) ix_compiled [dN] st = .ok (.v dP) st ∧ ProgD dP (N.prog N.ord) := by
  have ordk := fun st => order_ok (k := k) (st := st) hg hd hin hni
  obtain ⟨tab, t1, t2⟩ := table_ok (k := k + 3) (st := st) dN N hd hg.nd (by have := hg.len; omega)
  obtain ⟨di, dc, cs, e1, e2, e3, h⟩ := hd
  have hcl : N.cn.length ≤ 20 := by have := hg.len; simpa [Net.cn] using this
  generalize ho' : N.ord = ord at *
  have hol : ord.length ≤ 20 := by
    have := len_le_of_nodup ord N.cn ho.nd (fun x hx => (ho.mem x).mp hx)
    omega
  have hkl : (N.kp ord).length ≤ 20 := by
    have : (N.kp ord).length ≤ ord.length := List.length_filter_le _ _
    omega
  have hnd2 : (N.ins ++ ord).Nodup := by
    rw [List.nodup_append]
    exact ⟨hni, ho.nd, fun a ha b hb e => hg.dis b ((ho.mem b).mp hb) (e ▸ ha)⟩
  have hkn : (N.kp ord).Nodup := ho.nd.filter _
  have hform : ∀ x ∈ N.cn, ∃ fd, lookD tab (.str x) = some fd ∧ FoD fd (N.form x) := fun x hx => t2.look (form_look hg hx)
  have hnm : ∀ x ∈ N.cn, ∀ a ∈ (N.form x).names, a ∈ N.ins ++ ord := fun x hx a ha => List.mem_append.mpr ((hg.names _ (cell_of hg hx) a ha).imp id (ho.mem a).mpr)
  have htf := t2.flat
  -- what is where
  have g0 : ∀ r, getK (st ++ (MO.dct tab :: r)) st.length = some tab := fun r => by rw [getK_new0]; rfl
  have g1 : ∀ a l r, getL (st ++ (a :: MO.lst l :: r)) (st.length + 1) = some l := fun a l r => by rw [getL_new]; rfl
  have g2 : ∀ a b l r, getK (st ++ (a :: b :: MO.dct l :: r)) (st.length + 2) = some l := fun a b l r => by rw [getK_new]; rfl
  have g3 : ∀ a b c l r, getL (st ++ (a :: b :: c :: MO.lst l :: r)) (st.length + 3) = some l := fun a b c l r => by rw [getL_new]; rfl
  have g4 : ∀ a b c d l r, getK (st ++ (a :: b :: c :: d :: MO.dct l :: r)) (st.length + 4) = some l := fun a b c d l r => by rw [getK_new]; rfl
  have g5 : ∀ a b c d e l, getL (st ++ [a, b, c, d, e, MO.lst l]) (st.length + 5) = some l := fun a b c d e l => by rw [getL_new]; rfl
  have s5 : ∀ a b c d e f o, (st ++ [a, b, c, d, e, f]).set (st.length + 5) o = st ++ [a, b, c, d, e, o] := fun a b c d e f o => by rw [List.set_append_right _ _ (by omega)]; simp
  -- the keepers
  have keep : ∀ (S : St), getK S st.length = some tab → ∀ chk, alive chk S = true →
      lcLoop chk (lcB (fun_ defs (k + 4)) (.nm 3) [3] (.cons (.p .inn (.cons (.p .ix (.cons (.p .ix (.cons (.var 1) (.cons (.var 3) .nil))) (.cons (.cst (.int (0))) .nil))) (.cons (.cst (.ktp [(.str w_held), (.str w_before), (.str w_late), (.str w_match)])) .nil))) .nil) (.var 3) [some dN, some (.ref st.length), some (.ref (st.length + 1)), none, some (.ref (st.length + 2)), none, none, none, none, none, none, none]) (sD ord) [] S = .ok (.tl (sD (N.kp ord))) S := fun S hS chk hc => by
    have hb : ∀ d ∈ sD ord, (lcB (fun_ defs (k + 4)) (.nm 3) [3] (.cons (.p .inn (.cons (.p .ix (.cons (.p .ix (.cons (.var 1) (.cons (.var 3) .nil))) (.cons (.cst (.int (0))) .nil))) (.cons (.cst (.ktp [(.str w_held), (.str w_before), (.str w_late), (.str w_match)])) .nil))) .nil) (.var 3) [some dN, some (.ref st.length), some (.ref (st.length + 1)), none, some (.ref (st.length + 2)), none, none, none, none, none, none, none]) d S =
        .ok (match d with
          | .str x => if (N.form x).keeps then some (.str x) else none
          | _ => none) S := fun d hd => by
      obtain ⟨x, hx, rfl⟩ := List.mem_map.mp hd
      obtain ⟨fd, f1, f2⟩ := hform x ((ho.mem x).mp hx)
      obtain ⟨w, r, w1, w2⟩ := kind_in _ fd f2
      simp [lcB, hS, askOk, htf, f1, w1]
      by_cases hk : (N.form x).keeps = true
      · have := w2.mpr hk
        simp only [w_held, w_before, w_late, w_match] at this
        rcases this with h | h | h | h <;> simp [h, hk]
      · have : ¬ (w = w_held ∨ w = w_before ∨ w = w_late ∨ w = w_match) := fun h => hk (w2.mp h)
        simp only [w_held, w_before, w_late, w_match, not_or] at this
        simp [hk, Ne.symm this.1, Ne.symm this.2.1, Ne.symm this.2.2.1, Ne.symm this.2.2.2]
    rw [lcLoop_fm (fun d => match d with
        | .str x => if (N.form x).keeps then some (.str x) else none
        | _ => none) hc (sD ord) [] hb (by simp; omega)]
    have : ∀ l : List Tx, (sD l).filterMap (fun d => match d with
          | .str x => if (N.form x).keeps then some (D.str x) else none
          | _ => none) = sD (N.kp l) := by
      intro l
      induction l with
      | nil => rfl
      | cons a l ih =>
        show ((D.str a) :: sD l).filterMap _ = _
        rw [List.filterMap_cons]
        unfold Net.kp at ih ⊢
        rw [List.filter_cons]
        by_cases e : (N.form a).keeps = true
        · simp only [e, if_true]
          rw [ih]; rfl
        · simp only [e]
          exact ih
    rw [this]; rfl
  -- each cell's lines
  have loop1 := frl_inv (F := fun_ defs (k + 4)) (t := .nm 3) (b := b_compiled_1) (chk := [(st.length + 1, .lst (sD ord))])
    (fun j ρ S => ∃ l e3, j ≤ ord.length ∧ ρ = [some dN, some (.ref st.length), some (.ref (st.length + 1)), e3, some (.ref (st.length + 2)), some (.ref (st.length + 3)), some (.ref (st.length + 4)), some (.ref (st.length + 5)), none, none, none, none] ∧
      S = st ++ [MO.dct tab, MO.lst (sD ord), MO.dct (idxK 0 (N.ins ++ ord)), MO.lst (sD (N.kp ord)), MO.dct (idxK 0 (N.kp ord)), MO.lst l] ∧
      l.length ≤ 2 * j ∧ All2 LnD l ((ord.take j).flatMap fun x => (N.form x).lines (N.pl ord) (N.pl ord x) ((N.kp ord).idxOf x)))
    (sD ord)
    (by
      rintro j d' ρ S hj ⟨l, x3, hj1, rfl, rfl, hll, hl⟩
      refine ⟨alive_lst (g1 _ _ _), _, rfl, ?_⟩
      have hjl : j < ord.length := by simpa using (List.getElem?_eq_some_iff.mp hj).1
      obtain ⟨x, hx⟩ : ∃ x, ord[j]? = some x := ⟨_, List.getElem?_eq_getElem hjl⟩
      have hd' : d' = .str x := by
        unfold sD at hj
        rw [List.getElem?_map, hx] at hj
        simpa using hj.symm
      subst hd'
      have hxc := (ho.mem x).mp (List.mem_of_getElem? hx)
      obtain ⟨fd, f1, f2⟩ := hform x hxc
      have hpl : lookD (idxK 0 (N.ins ++ ord)) (.str x) = some (nD (N.pl ord x)) := by
        rw [idxK_look, if_pos (List.mem_append_right _ (List.mem_of_getElem? hx))]; simp [Net.pl]
      obtain ⟨ld, c1, c2⟩ := lines_of (k := k + 2) (st := st ++ [MO.dct tab, MO.lst (sD ord), MO.dct (idxK 0 (N.ins ++ ord)), MO.lst (sD (N.kp ord)), MO.dct (idxK 0 (N.kp ord)), MO.lst l]) (N.form x) fd f2 (N.ins ++ ord) (hnm x hxc) (st.length + 2) (g2 _ _ _ _) (N.pl ord x) ((N.kp ord).idxOf x)
        ((lookD (idxK 0 (N.kp ord)) (.str x)).getD .non) (fun hk => by rw [idxK_look, if_pos ((kp_mem ho).mpr ⟨hxc, hk⟩)]; simp)
      have hld : ld.length ≤ 2 := by rw [c2.len]; exact lines_len _ _ _ _
      refine ⟨_, _, .inl ?_, l ++ ld, some (.str x), by omega, rfl, rfl, by simp; omega, ?_⟩
      · have hE : p_ext [.v (.ref (st.length + 5)), .tl ld] (st ++ [MO.dct tab, MO.lst (sD ord), MO.dct (idxK 0 (N.ins ++ ord)), MO.lst (sD (N.kp ord)), MO.dct (idxK 0 (N.kp ord)), MO.lst l]) =
            .ok (.v .non) (st ++ [MO.dct tab, MO.lst (sD ord), MO.dct (idxK 0 (N.ins ++ ord)), MO.lst (sD (N.kp ord)), MO.dct (idxK 0 (N.kp ord)), MO.lst (l ++ ld)]) :=
          (p_ext_ok (g5 _ _ _ _ _ _) (by omega)).trans (by rw [s5])
        simp [b_compiled_1, g0, g2, g4, g5, askOk, htf, idxK_flat, f1, hpl, c1, gc_len, hE]
      · rw [List.take_succ, hx]
        simp only [Option.toList_some, List.flatMap_append, List.flatMap_cons, List.flatMap_nil, List.append_nil]
        exact hl.app c2)
    (fun ρ S ⟨l, x3, _, _, hS, _⟩ => by rw [hS]; exact alive_lst (g1 _ _ _))
  have loop2 := frl_inv (F := fun_ defs (k + 4)) (t := .nm 3) (b := b_compiled_2) (chk := [(st.length + 3, .lst (sD (N.kp ord)))])
    (fun j ρ S => ∃ l e3, j ≤ (N.kp ord).length ∧ ρ = [some dN, some (.ref st.length), some (.ref (st.length + 1)), e3, some (.ref (st.length + 2)), some (.ref (st.length + 3)), some (.ref (st.length + 4)), some (.ref (st.length + 5)), none, none, none, none] ∧
      S = st ++ [MO.dct tab, MO.lst (sD ord), MO.dct (idxK 0 (N.ins ++ ord)), MO.lst (sD (N.kp ord)), MO.dct (idxK 0 (N.kp ord)), MO.lst l] ∧
      l.length ≤ 40 + j ∧ All2 LnD l (ord.flatMap (fun x => (N.form x).lines (N.pl ord) (N.pl ord x) ((N.kp ord).idxOf x)) ++ ((N.kp ord).take j).map fun x => (N.form x).store (N.pl ord) ((N.kp ord).idxOf x)))
    (sD (N.kp ord))
    (by
      rintro j d' ρ S hj ⟨l, x3, hj1, rfl, rfl, hll, hl⟩
      refine ⟨alive_lst (g3 _ _ _ _ _), _, rfl, ?_⟩
      have hjl : j < (N.kp ord).length := by simpa using (List.getElem?_eq_some_iff.mp hj).1
      obtain ⟨x, hx⟩ : ∃ x, (N.kp ord)[j]? = some x := ⟨_, List.getElem?_eq_getElem hjl⟩
      have hd' : d' = .str x := by
        unfold sD at hj
        rw [List.getElem?_map, hx] at hj
        simpa using hj.symm
      subst hd'
      have hxk := List.mem_of_getElem? hx
      obtain ⟨hxc, hk⟩ := (kp_mem ho).mp hxk
      obtain ⟨fd, f1, f2⟩ := hform x hxc
      have hsl : lookD (idxK 0 (N.kp ord)) (.str x) = some (nD ((N.kp ord).idxOf x)) := by
        rw [idxK_look, if_pos hxk]; simp
      obtain ⟨y, c1, c2⟩ := store_of (k := k + 3) (st := st ++ [MO.dct tab, MO.lst (sD ord), MO.dct (idxK 0 (N.ins ++ ord)), MO.lst (sD (N.kp ord)), MO.dct (idxK 0 (N.kp ord)), MO.lst l]) (N.form x) fd f2 hk (N.ins ++ ord) (hnm x hxc) (st.length + 2) (g2 _ _ _ _) ((N.kp ord).idxOf x)
      refine ⟨_, _, .inl ?_, l ++ [y], some (.str x), by omega, rfl, rfl, by simp; omega, ?_⟩
      · have hl5 : l.length ≤ 100000 := by omega
        simp [b_compiled_2, g0, g2, g4, g5, askOk, htf, idxK_flat, f1, hsl, c1, gc_len, hl5]
      · rw [List.take_succ, hx]
        simp only [Option.toList_some, List.map_append, List.map_cons, List.map_nil]
        rw [← List.append_assoc]
        exact hl.app (.cons c2 .nil))
    (fun ρ S ⟨l, x3, _, _, hS, _⟩ => by rw [hS]; exact alive_lst (g3 _ _ _ _ _))
  obtain ⟨ρ1, S1, q1, l1, x1, _, rfl, rfl, r1, r2⟩ := loop1 _ _ ⟨[], none, by omega, rfl, rfl, by simp, by simpa using All2.nil⟩
  simp only [sD_len, List.take_length] at r1 r2
  obtain ⟨ρ2, S2, q2, l2, x2, _, rfl, rfl, r3, r4⟩ := loop2 _ _ ⟨l1, x1, by omega, rfl, rfl, by omega, by simpa using r2⟩
  simp only [sD_len, List.take_length] at r3 r4
  -- what is kept at first, what is shown
  obtain ⟨kd, u1, u2⟩ := lc_all2 (R := KpD) (fun x => (N.form x).first) (st ++ [MO.dct tab, MO.lst (sD ord), MO.dct (idxK 0 (N.ins ++ ord)), MO.lst (sD (N.kp ord)), MO.dct (idxK 0 (N.kp ord)), MO.lst l2]) [(st.length + 3, .lst (sD (N.kp ord)))] (alive_lst (g3 _ _ _ _ _))
    (lcB (fun_ defs (k + 4)) (.nm 3) [3] .nil (.call ix_first_kept (.cons (.p .ix (.cons (.var 1) (.cons (.var 3) .nil))) .nil)) [some dN, some (.ref st.length), some (.ref (st.length + 1)), x2, some (.ref (st.length + 2)), some (.ref (st.length + 3)), some (.ref (st.length + 4)), some (.ref (st.length + 5)), none, none, none, none])
    (N.kp ord) [] (fun a ha => by
      obtain ⟨hxc, hk⟩ := (kp_mem ho).mp ha
      obtain ⟨fd, f1, f2⟩ := hform a hxc
      obtain ⟨y, y1, y2⟩ := first_of (k := k + 3) (st := st ++ [MO.dct tab, MO.lst (sD ord), MO.dct (idxK 0 (N.ins ++ ord)), MO.lst (sD (N.kp ord)), MO.dct (idxK 0 (N.kp ord)), MO.lst l2]) (N.form a) fd f2 hk
      exact ⟨y, by simp [lcB, g0, askOk, htf, f1, y1, gc_len], y2⟩) (by simp; omega)
  have sh := lc_cells h (by have := hg.len; omega) (st ++ [MO.dct tab, MO.lst (sD ord), MO.dct (idxK 0 (N.ins ++ ord)), MO.lst (sD (N.kp ord)), MO.dct (idxK 0 (N.kp ord)), MO.lst l2]) (fun x => nD (N.pl ord x))
    (lcB (fun_ defs (k + 4)) (.tp [3, 11]) [3, 11] .nil (.p .ix (.cons (.var 4) (.cons (.var 3) .nil))) [some dN, some (.ref st.length), some (.ref (st.length + 1)), x2, some (.ref (st.length + 2)), some (.ref (st.length + 3)), some (.ref (st.length + 4)), some (.ref (st.length + 5)), some (.ktp kd), none, none, none])
    (fun c hc x fd hx hxc => by
      have hpl : lookD (idxK 0 (N.ins ++ ord)) (.str x) = some (nD (N.pl ord x)) := by
        rw [idxK_look, if_pos (List.mem_append_right _ ((ho.mem x).mpr hxc))]; simp [Net.pl]
      simp [lcB, hx, g2, askOk, idxK_flat, hpl])
  have hsp : (sD N.ins).length + (sD ord).length ≤ szMax := by simp; unfold szMax; omega
  have hap : sD N.ins ++ sD ord = sD (N.ins ++ ord) := by simp [sD]
  refine ⟨.tup [.int N.size, di, nD (N.ins.length + ord.length), .ktp kd, .ktp l2, .ktp (N.cn.map fun x => nD (N.pl ord x))], ?_, ?_⟩
  · refine run_a (os := [MO.dct tab, MO.lst (sD ord), MO.dct (idxK 0 (N.ins ++ ord)), MO.lst (sD (N.kp ord)), MO.dct (idxK 0 (N.kp ord)), MO.lst l2])
      (ρ := [some dN, some (.ref st.length), some (.ref (st.length + 1)), x2, some (.ref (st.length + 2)), some (.ref (st.length + 3)), some (.ref (st.length + 4)), some (.ref (st.length + 5)), some (.ktp kd), some (.ktp (N.cn.map fun x => nD (N.pl ord x))), none, none]) (fn_compiled _ _ _) ?_ rfl ?_
    · have g1' := g1 (MO.dct tab) (sD ord) []
      have addE : p_add [.tl (sD N.ins), .v (.ref (st.length + 1))] (st ++ [MO.dct tab, MO.lst (sD ord)]) = .ok (.tl (sD (N.ins ++ ord))) (st ++ [MO.dct tab, MO.lst (sD ord)]) := by
        simp [p_add, addA, g1', hsp, hap]
        simp [sD_len] at hsp
        simp [hsp]
      have d1 := dc_enu (F := fun_ defs (k + 4)) (i := 10) (j := 3) (st := st ++ [MO.dct tab, MO.lst (sD ord)]) (ρ := [some dN, some (.ref st.length), some (.ref (st.length + 1)), none, none, none, none, none, none, none, none, none]) (N.ins ++ ord) hnd2 (by simp; omega) (by simp) (by simp) (by omega) [] rfl
      have d2 := keep (st ++ [MO.dct tab, MO.lst (sD ord), MO.dct (idxK 0 (N.ins ++ ord))]) (g0 _) _ (alive_lst (g1 _ _ _))
      simp only [w_held, w_before, w_late, w_match] at d2
      have g3' := g3 (MO.dct tab) (MO.lst (sD ord)) (MO.dct (idxK 0 (N.ins ++ ord))) (sD (N.kp ord)) []
      have d3 := dc_enu (F := fun_ defs (k + 4)) (i := 10) (j := 3) (st := st ++ [MO.dct tab, MO.lst (sD ord), MO.dct (idxK 0 (N.ins ++ ord)), MO.lst (sD (N.kp ord))]) (ρ := [some dN, some (.ref st.length), some (.ref (st.length + 1)), none, some (.ref (st.length + 2)), some (.ref (st.length + 3)), none, none, none, none, none, none]) (N.kp ord) hkn (by omega) (by simp) (by simp) (by omega) _ (alive_lst g3')
      have c1 := chkOf_lst (g1 (MO.dct tab) (sD ord) [MO.dct (idxK 0 (N.ins ++ ord))])
      have c3 := chkOf_lst g3'
      have c1' := chkOf_lst (g1 (MO.dct tab) (sD ord) [MO.dct (idxK 0 (N.ins ++ ord)), MO.lst (sD (N.kp ord)), MO.dct (idxK 0 (N.kp ord)), MO.lst []])
      have c3' := fun l => chkOf_lst (g3 (MO.dct tab) (MO.lst (sD ord)) (MO.dct (idxK 0 (N.ins ++ ord))) (sD (N.kp ord)) [MO.dct (idxK 0 (N.kp ord)), MO.lst l])
      simp [d_compiled, startE, e1, e2, e3, t1, ordk, gc_len, addE]
      rw [d1]
      simp [g1, c1, d2, g3', c3]
      rw [d3]
      simp [g1, c1', q1, g3, c3', q2, u1, e3, sh, g5, g2, idxK_flat, idxK_len, nD, e1]
    · have b1 : D.bels st.length l2 = true := by
        rw [bels_all]
        intro d hd
        obtain ⟨x, _, r⟩ := r4.left d hd
        exact r.bel _
      have b2 : D.bels st.length (N.cn.map fun x => nD (N.pl ord x)) = true := bels_map _ _ _ fun _ _ => rfl
      simp only [bel_tup, bels_cons, bel_int, bel_ktp, bels_nil, KpsD.bel u2, b1, b2, bel_T e2, bels_sD, nD, Bool.and_self]
      simpa [nD] using b2
  · exact ⟨di, .ktp kd, .ktp l2, kd, l2, .ktp (N.cn.map fun x => nD (N.pl ord x)), rfl, e2, rfl, u2, rfl, r4, by simp [IsT, Net.prog]⟩
end
end CM
end
section
/-! Q19: executed_all of a compiled net is its meaning. -/
namespace CM
open PM B
section
variable {N : Net} {ord : List Tx} {rows : List Ev} {T : Tx → Nat → Option Int} {k : Nat} {st : St}
theorem first_one (f : Fo) (h : f.keeps = true) : f.first.isOne = !f.isM := by cases f <;> first | rfl | cases h
theorem prog_good (hg : N.Good) (hin : N.ins.length ≤ 100) (ho : Ord N ord) : (N.prog ord).Good := by
  have hcl : N.cn.length ≤ 20 := by have := hg.len; simpa [Net.cn] using this
  have hol : ord.length ≤ 20 := by
    have := len_le_of_nodup ord N.cn ho.nd (fun x hx => (ho.mem x).mp hx)
    omega
  have hkl : (N.kp ord).length ≤ 20 := by
    have : (N.kp ord).length ≤ ord.length := List.length_filter_le _ _
    omega
  have hsl : ∀ x ∈ N.kp ord, ((N.prog ord).keeps.map Kp.isOne)[(N.kp ord).idxOf x]? = some (!(N.form x).isM) := fun x hx => by
    show (((N.kp ord).map fun x => (N.form x).first).map Kp.isOne)[(N.kp ord).idxOf x]? = _
    rw [List.map_map, List.getElem?_map, idx_get hx]
    simp [first_one _ ((kp_mem ho).mp hx).2]
  exact
  { s2 := hg.s2
    s5 := hg.s5
    many := by show N.ins.length + ord.length ≤ 1000; omega
    ins := by show N.ins.length ≤ N.ins.length + ord.length; omega
    lns := by
      show (ord.flatMap _ ++ (N.kp ord).map _).length ≤ 200
      have : ∀ l : List Tx, (l.flatMap fun x => (N.form x).lines (N.pl ord) (N.pl ord x) ((N.kp ord).idxOf x)).length ≤ 2 * l.length := by
        intro l
        induction l with
        | nil => simp
        | cons a l ih =>
          have := lines_len (N.pl ord) (N.pl ord a) ((N.kp ord).idxOf a) (N.form a)
          simp only [List.flatMap_cons, List.length_append, List.length_cons]; omega
      have := this ord
      simp only [List.length_append, List.length_map]; omega
    there_ := fun ln hln => by
      show ln.there_ (N.ins.length + ord.length) _ N.size
      rcases List.mem_append.mp hln with h | h
      · obtain ⟨x, hx, hl⟩ := List.mem_flatMap.mp h
        have hxc := (ho.mem x).mp hx
        have hp := pl_lt ho (.inr hxc)
        have hf := hg.fits _ (cell_of hg hxc)
        have hn := hg.names _ (cell_of hg hxc)
        have hs := fun hk => hsl x ((kp_mem ho).mpr ⟨hxc, hk⟩)
        simp only at hf hn
        revert hl hf hn hs
        generalize N.form x = f
        intro hl hf hn hs
        cases f <;> simp only [Fo.lines, List.mem_cons, List.not_mem_nil, or_false] at hl
        case worth v => subst hl; exact ⟨hp, hf⟩
        case copy a => subst hl; exact ⟨hp, pl_lt ho (hn a (by simp [Fo.names]))⟩
        case there a => subst hl; exact ⟨hp, pl_lt ho (hn a (by simp [Fo.names]))⟩
        case pair w a b => subst hl; exact ⟨hp, pl_lt ho (hn a (by simp [Fo.names])), pl_lt ho (hn b (by simp [Fo.names]))⟩
        case turn a row => subst hl; exact ⟨hp, pl_lt ho (hn a (by simp [Fo.names])), hf⟩
        case when a b => subst hl; exact ⟨hp, pl_lt ho (hn a (by simp [Fo.names])), pl_lt ho (hn b (by simp [Fo.names]))⟩
        case els a b => subst hl; exact ⟨hp, pl_lt ho (hn a (by simp [Fo.names])), pl_lt ho (hn b (by simp [Fo.names]))⟩
        case late a v => subst hl; exact ⟨hp, hs rfl⟩
        case held a v =>
          rcases hl with rfl | rfl
          · exact ⟨hp, hs rfl⟩
          · exact ⟨hp, pl_lt ho (hn a (by simp [Fo.names])), hp⟩
        case before a v =>
          rcases hl with rfl | rfl
          · exact ⟨hp, hs rfl⟩
          · exact ⟨hp, pl_lt ho (hn a (by simp [Fo.names]))⟩
        case mtch w a b => subst hl; exact ⟨hp, hs rfl, pl_lt ho (hn a (by simp [Fo.names])), pl_lt ho (hn b (by simp [Fo.names]))⟩
      · obtain ⟨x, hx, rfl⟩ := List.mem_map.mp h
        obtain ⟨hxc, hk⟩ := (kp_mem ho).mp hx
        have hn := hg.names _ (cell_of hg hxc)
        have hs := hsl x hx
        simp only at hn
        revert hn hs hk
        generalize N.form x = f
        intro hk hn hs
        cases f
        case late a v => exact ⟨hs, pl_lt ho (hn a (by simp [Fo.names]))⟩
        case held a v => exact ⟨hs, pl_lt ho (hn a (by simp [Fo.names]))⟩
        case before a v => exact ⟨hs, pl_lt ho (hn a (by simp [Fo.names]))⟩
        case mtch w a b => exact (List.getElem?_eq_some_iff.mp hs).1
        all_goals cases hk
    shown := fun p hp => by
      obtain ⟨x, hx, rfl⟩ := List.mem_map.mp hp
      exact pl_lt ho (.inr hx)
    sl := by show (N.cn.map _).length ≤ 1000; simp; omega
    kl := by show ((N.kp ord).map _).length ≤ 1000; simp; omega }
theorem prog_bd (hg : N.Good) (ho : Ord N ord) : Bd N.size 0 ([], (N.prog ord).keeps) where
  w := by simp
  k := fun y hy => by
    obtain ⟨x, hx, rfl⟩ := List.mem_map.mp (show y ∈ (N.kp ord).map _ from hy)
    obtain ⟨hxc, hk⟩ := (kp_mem ho).mp hx
    have hf := hg.fits _ (cell_of hg hxc)
    simp only at hf
    revert hk hf
    generalize N.form x = f
    intro hk hf
    cases f
    case late a v => exact ⟨hf, by simp [Fo.first, Kp.l], by simp [Fo.first, Kp.r]⟩
    case held a v => exact ⟨fun w hw => by cases hw; exact hf, by simp [Fo.first, Kp.l], by simp [Fo.first, Kp.r]⟩
    case before a v => exact ⟨fun w hw => by cases hw; exact hf, by simp [Fo.first, Kp.l], by simp [Fo.first, Kp.r]⟩
    case mtch w a b => exact ⟨fun w hw => (by cases hw), by simp [Fo.first, Kp.l], by simp [Fo.first, Kp.r]⟩
    all_goals cases hk
  n := fun y hy => by
    obtain ⟨x, hx, rfl⟩ := List.mem_map.mp (show y ∈ (N.kp ord).map _ from hy)
    cases N.form x <;> simp [Fo.first, Kp.l, Kp.r]
theorem exec_net_ok (hg : N.Good) (hr : Rows N rows) (hs : Sem N rows T) (hin : N.ins.length ≤ 100) (ho : Ord N ord) (dP dr : D) (hd : ProgD dP (N.prog ord)) (hdr : IsT dr (rows.map evD)) (hw : Wf st) :
    fun_ defs (k + 6) ix_executed_all [dP, dr] st = .ok (.v (momsD N T rows.length)) st := by
  rw [executed_all_ok (k := k) (N.prog ord) (prog_good hg hin ho) dP dr rows hd hdr hr.len (fun e he => (hr.nd e he).1) (prog_bd hg ho) (fun e he x hx => ?_) hw]
  · congr 3
    refine List.map_congr_left fun j hj => ?_
    rw [(prog_sim hg ho hs rows.length (Nat.le_refl _)).2 j (List.mem_range.mp hj)]
    unfold momD
    rw [List.map_map]
    rfl
  · obtain ⟨i, hi⟩ := List.getElem?_of_mem he
    intro v hv
    have := hs.inp x hx i e hi
    exact hs.bnd x i v (.inl hx) (this.trans hv)
end
end CM
end
section
/-! Q20: shapes, forms, nets without a fault. -/
namespace CM
open PM B
section
variable {N : Net} {dN : D} {k : Nat} {st : St}
theorem integer_ok (i : Int) : fun_ defs (k + 1) ix_is_integer [.int i] st = .ok (.v (.bl true)) st :=
  run_v (ρ := [some (.int i)]) (fn_is_integer _ _ _) (by simp [d_is_integer, startE]) rfl
theorem between_ok (i lo hi : Int) : fun_ defs (k + 2) ix_is_between [.int i, .int lo, .int hi] st = .ok (.v (.bl (decide (lo ≤ i ∧ i ≤ hi)))) st := by
  refine run_v (ρ := [some (.int i), some (.int lo), some (.int hi)]) (fn_is_between _ _ _) ?_ rfl
  simp [d_is_between, startE, integer_ok, gc_len]
  by_cases h : lo ≤ i <;> simp [h]
theorem row_ok (d : D) (l : List D) (h : tupOf (.v d) = some l) (n : Int) : fun_ defs (k + 1) ix_is_row [d, .int n] st = .ok (.v (.bl (decide ((l.length : Int) = n)))) st :=
  run_v (ρ := [some d, some (.int n)]) (fn_is_row _ _ _) (by simp [d_is_row, startE, h]) rfl
theorem worth_ok (i size : Int) : fun_ defs (k + 3) ix_is_worth [.int i, .int size] st = .ok (.v (.bl (decide (0 ≤ i ∧ i ≤ size - 1)))) st :=
  run_v (ρ := [some (.int i), some (.int size)]) (fn_is_worth _ _ _) (by simp [d_is_worth, startE, between_ok, gc_len]) rfl
def chB (c : Nat) : Bool := !(txLt [c] [97]) && !(txLt [122] [c])
def nameB (x : Tx) : Bool := decide (1 ≤ x.length) && decide (x.length ≤ 12) && x.all chB
theorem name_ok (x : Tx) (h : nameB x = true) : fun_ defs (k + 1) ix_is_name [.str x] st = .ok (.v (.bl true)) st := by
  simp only [nameB, Bool.and_eq_true, decide_eq_true_eq] at h
  obtain ⟨⟨h1, h2⟩, h3⟩ := h
  refine run_v (ρ := [some (.str x), none]) (fn_is_name _ _ _) ?_ rfl
  have hl : x.length ≤ szMax := by unfold szMax; omega
  have e : ∀ body : D → St → R (Option D), (∀ c ∈ x, body (.str [c]) st = .ok (some (.bl (chB c))) st) → lcLoop [] body (x.map fun c => .str [c]) [] st = .ok (.tl (x.map fun c => .bl (chB c))) st := fun body hb => by
    rw [lc_bl (fun c => .str [c]) chB [] rfl body x [] hb (by simp; omega)]; rfl
  have h1' : (1 : Int) ≤ (x.length : Int) := by omega
  have h2' : (x.length : Int) ≤ 12 := by omega
  simp [d_is_name, startE, hl, h1', h2']
  rw [e _ (fun c hc => by
    simp [lcB, chB]
    cases txLt [c] [97] <;> simp)]
  simp [blsOf_map, h1, h2]
  simpa using h3
def ascB (l : List Tx) : Bool := (List.range (l.length - 1)).all fun i => txLt (l.getD i []) (l.getD (i + 1) [])
theorem asc_get (l : List Tx) (i : Nat) (h : i < l.length) : atI (sD l) (i : Int) = some (.str (l.getD i [])) := by
  refine atI_some ?_
  simp [sD, h]
theorem asc_ok (d : D) (l : List Tx) (hl : l.length ≤ 100) (h : tupOf (.v d) = some (sD l) ∨ ∃ n, d = .ref n ∧ getL st n = some (sD l)) : fun_ defs (k + 1) ix_is_ascending [d] st = .ok (.v (.bl (ascB l))) st := by
  refine run_v (ρ := [some d, none]) (fn_is_ascending _ _ _) ?_ rfl
  have e : ∀ body : D → St → R (Option D), (∀ i ∈ List.range (l.length - 1), body (.int (i : Int)) st = .ok (some (.bl (txLt (l.getD i []) (l.getD (i + 1) [])))) st) → lcLoop [] body (ranN (l.length - 1)) [] st = .ok (.tl ((List.range (l.length - 1)).map fun i => .bl (txLt (l.getD i []) (l.getD (i + 1) [])))) st := fun body hb => by
    unfold ranN
    rw [lc_bl (fun (i : Nat) => D.int (i : Int)) (fun i => txLt (l.getD i []) (l.getD (i + 1) [])) [] rfl body _ [] hb (by simp; omega)]; rfl
  have hb62 : -big62 ≤ (l.length : Int) - 1 ∧ (l.length : Int) - 1 < big62 := by unfold big62; omega
  have hto : ((l.length : Int) - 1).toNat = l.length - 1 := by omega
  have g : ∀ i ∈ List.range (l.length - 1), atI (sD l) (i : Int) = some (.str (l.getD i [])) ∧ atI (sD l) ((i : Int) + 1) = some (.str (l.getD (i + 1) [])) := fun i hi => by
    have hi := List.mem_range.mp hi
    exact ⟨asc_get l i (by omega), asc_get l (i + 1) (by omega)⟩
  rcases h with h | ⟨n, rfl, h⟩
  · simp [d_is_ascending, startE, h, hb62, hto]
    rw [e _ (fun i hi => by
      obtain ⟨g1, g2⟩ := g i hi
      revert g1 g2
      generalize l.getD i [] = a; generalize l.getD (i + 1) [] = b
      intro g1 g2
      simp [lcB, h, g1, g2])]
    simp [blsOf_map, ascB]
  · simp [d_is_ascending, startE, h, hb62, hto]
    rw [e _ (fun i hi => by
      obtain ⟨g1, g2⟩ := g i hi
      revert g1 g2
      generalize l.getD i [] = a; generalize l.getD (i + 1) [] = b
      intro g1 g2
      simp [lcB, h, g1, g2])]
    simp [blsOf_map, ascB]
theorem lc_nms (body : D → St → R (Option D)) (l : List Tx) (hl : l.length ≤ 100) (chk : Chk) (hc : alive chk st = true) (hb : ∀ x ∈ l, body (.str x) st = .ok (some (.bl true)) st) :
    lcLoop chk body (sD l) [] st = .ok (.tl (l.map fun _ => .bl true)) st := by
  unfold sD
  rw [lc_bl D.str (fun _ => true) chk hc body l [] hb (by simp; omega)]; rfl
theorem names_tok (d : D) (l : List Tx) (h : tupOf (.v d) = some (sD l)) (hl : l.length ≤ 100) (hn : ∀ x ∈ l, nameB x = true) : fun_ defs (k + 2) ix_are_names [d] st = .ok (.v (.bl (ascB l))) st := by
  refine run_v (ρ := [some d, none]) (fn_are_names _ _ _) ?_ rfl
  simp [d_are_names, startE, h]
  rw [lc_nms _ l hl [] rfl (fun x hx => by simp [lcB, name_ok x (hn x hx), gc_len])]
  simp [blsOf_map, asc_ok d l hl (.inl h), gc_len]
def wB (size v : Int) : Bool := decide (0 ≤ v ∧ v ≤ size - 1)
def Fo.okB (size : Int) : Fo → Bool
  | .worth v => wB size v
  | .turn a row => nameB a && decide ((row.length : Int) = size) && row.all (wB size)
  | .held a v => nameB a && wB size v
  | .before a v => nameB a && wB size v
  | .late a v => nameB a && (match v with | none => true | some v => wB size v)
  | f => f.names.all nameB
theorem table_tok (d : D) (row : List Int) (size : Int) (h : tupOf (.v d) = some (iD row)) (hl : (row.length : Int) = size) (h5 : size ≤ 5) (hw : row.all (wB size) = true) : fun_ defs (k + 4) ix_is_table [d, .int size] st = .ok (.v (.bl true)) st := by
  refine run_v (ρ := [some d, some (.int size), none]) (fn_is_table _ _ _) ?_ rfl
  have e : ∀ body : D → St → R (Option D), (∀ v ∈ row, body (.int v) st = .ok (some (.bl (wB size v))) st) → lcLoop [] body (iD row) [] st = .ok (.tl (row.map fun v => .bl (wB size v))) st := fun body hb => by
    unfold iD
    rw [lc_bl D.int (wB size) [] rfl body row [] hb (by simp; omega)]; rfl
  have hw' : ∀ v ∈ row, wB size v = true := by simpa using hw
  simp [d_is_table, startE, row_ok d _ h, gc_len, hl, h]
  rw [e _ (fun v hv => by simp [lcB, worth_ok, gc_len, wB])]
  simp [blsOf_map]
  exact hw'
theorem form_tok (f : Fo) (d : D) (size : Int) (hF : FoD d f) (h2 : 2 ≤ size) (h5 : size ≤ 5) (h : f.okB size = true) : fun_ defs (k + 5) ix_is_form [d, .int size] st = .ok (.v (.bl true)) st := by
  have key : ∀ (w : Tx) (r : List D), tupOf (.v d) = some (.str w :: r) → evSs (fun_ defs (k + 4)) d_is_form.body (startE d_is_form.slots [d, .int size]) st = .ok (.rt (.v (.bl true))) [some d, some (.int size), some (.str w)] st →
      fun_ defs (k + 5) ix_is_form [d, .int size] st = .ok (.v (.bl true)) st := fun w r _ e => run_v (fn_is_form _ _ _) e rfl
  have rowE : ∀ (l : List D) (n : Int), tupOf (.v d) = some l → fun_ defs (k + 4) ix_is_row [d, .int n] st = .ok (.v (.bl (decide ((l.length : Int) = n)))) st := fun l n e => row_ok d l e n
  cases f with
  | worth v =>
    simp only [FoD] at hF
    have hv : 0 ≤ v ∧ v ≤ size - 1 := by simpa [Fo.okB, wB] using h
    refine key _ _ hF ?_
    simp [d_is_form, startE, hF, rowE _ _ hF, gc_len, worth_ok, hv]
  | copy a =>
    simp only [FoD] at hF
    have hn : nameB a = true := by simpa [Fo.okB, Fo.names] using h
    refine key _ _ hF ?_
    simp [d_is_form, startE, hF, rowE _ _ hF, gc_len, name_ok a hn]
  | there a =>
    simp only [FoD] at hF
    have hn : nameB a = true := by simpa [Fo.okB, Fo.names] using h
    refine key _ _ hF ?_
    simp [d_is_form, startE, hF, rowE _ _ hF, gc_len, name_ok a hn]
  | pair w a b =>
    simp only [FoD] at hF
    have hn : nameB a = true ∧ nameB b = true := by simpa [Fo.okB, Fo.names] using h
    refine key _ _ hF ?_
    cases w <;> simp [PW.tx] at hF <;> simp [d_is_form, startE, hF, rowE _ _ hF, gc_len, name_ok a hn.1, name_ok b hn.2, PW.tx]
  | turn a row =>
    obtain ⟨r, hF, hr⟩ := hF
    have hn : (nameB a = true ∧ (row.length : Int) = size) ∧ ∀ x ∈ row, wB size x = true := by simpa [Fo.okB] using h
    have ht := table_tok (k := k) (st := st) r row size hr hn.1.2 h5 (by simpa using hn.2)
    refine key _ _ hF ?_
    simp [d_is_form, startE, hF, rowE _ _ hF, gc_len, name_ok a hn.1.1, ht]
  | when a b =>
    simp only [FoD] at hF
    have hn : nameB a = true ∧ nameB b = true := by simpa [Fo.okB, Fo.names] using h
    refine key _ _ hF ?_
    simp [d_is_form, startE, hF, rowE _ _ hF, gc_len, name_ok a hn.1, name_ok b hn.2]
  | els a b =>
    simp only [FoD] at hF
    have hn : nameB a = true ∧ nameB b = true := by simpa [Fo.okB, Fo.names] using h
    refine key _ _ hF ?_
    simp [d_is_form, startE, hF, rowE _ _ hF, gc_len, name_ok a hn.1, name_ok b hn.2]
  | held a v =>
    simp only [FoD] at hF
    have hn : nameB a = true ∧ (0 ≤ v ∧ v ≤ size - 1) := by simpa [Fo.okB, wB] using h
    refine key _ _ hF ?_
    simp [d_is_form, startE, hF, rowE _ _ hF, gc_len, name_ok a hn.1, worth_ok, hn.2]
  | before a v =>
    simp only [FoD] at hF
    have hn : nameB a = true ∧ (0 ≤ v ∧ v ≤ size - 1) := by simpa [Fo.okB, wB] using h
    refine key _ _ hF ?_
    simp [d_is_form, startE, hF, rowE _ _ hF, gc_len, name_ok a hn.1, worth_ok, hn.2]
  | late a v =>
    simp only [FoD] at hF
    have wn : fun_ defs (k + 4) ix_is_worth_or_none [oD v, .int size] st = .ok (.v (.bl true)) st := by
      refine run_v (ρ := [some (oD v), some (.int size)]) (fn_is_worth_or_none _ _ _) ?_ rfl
      cases v with
      | none => simp [d_is_worth_or_none, startE]
      | some v =>
        have hn : nameB a = true ∧ (0 ≤ v ∧ v ≤ size - 1) := by simpa [Fo.okB, wB] using h
        simp [d_is_worth_or_none, startE, worth_ok, gc_len, hn.2]
    have hn : nameB a = true := by
      simp only [Fo.okB, Bool.and_eq_true] at h; exact h.1
    refine key _ _ hF ?_
    simp [d_is_form, startE, hF, rowE _ _ hF, gc_len, name_ok a hn, wn]
  | mtch w a b =>
    simp only [FoD] at hF
    have hn : nameB a = true ∧ nameB b = true := by simpa [Fo.okB, Fo.names] using h
    have pg : fun_ defs (k + 4) ix_is_pairing [d] st = .ok (.v (.bl true)) st := by
      refine run_v (ρ := [some d]) (fn_is_pairing _ _ _) ?_ rfl
      cases w <;> simp [PW.tx] at hF <;> simp [d_is_pairing, startE, hF, gc_len, name_ok a hn.1, name_ok b hn.2]
    refine key _ _ hF ?_
    simp [d_is_form, startE, hF, rowE _ _ hF, gc_len, pg]
end
end CM
end
section
/-! Q21: are_cells, is_sound, net_fault, net_of. -/
namespace CM
open PM B
section
variable {N : Net} {dN : D} {k : Nat} {st : St}
theorem lc_const (body : D → St → R (Option D)) (l : List D) (hl : l.length ≤ 1000) (x : D) (chk : Chk) (hc : alive chk st = true) (hb : ∀ c ∈ l, body c st = .ok (some x) st) :
    lcLoop chk body l [] st = .ok (.tl (l.map fun _ => x)) st := by
  rw [lcLoop_map (fun _ => x) hc l [] hb (by simp; omega)]; rfl
theorem cells_tok (d : D) (cs : List D) (hd : tupOf (.v d) = some cs) (h : All2 CellD cs N.cells) (hl : N.cells.length ≤ 20) (hn : ∀ x ∈ N.cn, nameB x = true) : fun_ defs (k + 2) ix_are_cells [d] st = .ok (.v (.bl (ascB N.cn))) st := by
  have hcl : cs.length = N.cells.length := h.len
  have hcn : N.cn.length ≤ 100 := by simp [Net.cn]; omega
  refine run_a (os := [MO.lst (sD N.cn)]) (ρ := [some d, some (.ref st.length), none, none]) (fn_are_cells _ _ _) ?_ rfl rfl
  have hgt : ¬ ((20 : Int) < (cs.length : Int)) := by omega
  have g : getL (st ++ [MO.lst (sD N.cn)]) st.length = some (sD N.cn) := by rw [getL_new0]; rfl
  have hch := chkOf_lst g
  have rowE : ∀ c ∈ cs, fun_ defs (k + 1) ix_is_row [c, .int 2] st = .ok (.v (.bl true)) st := fun c hc => by
    obtain ⟨b, hb, r⟩ := h.left c hc
    obtain ⟨fd, a1, _⟩ := CellD.eq r
    rw [row_ok c _ a1]; rfl
  have lc2 := lc_cells h (by omega) st D.str (lcB (fun_ defs (k + 1)) (.nm 2) [2] .nil (.p .ix (.cons (.var 2) (.cons (.cst (.int 0)) .nil))) [some d, none, none, none]) (fun c hc x fd hx _ => by simp [lcB, hx])
  simp [d_are_cells, startE, hd, hgt]
  rw [lc_const _ cs (by omega) (.bl true) [] rfl (fun c hc => by simp [lcB, rowE c hc, gc_len])]
  simp [blsOf_map, hd, lc2]
  rw [show N.cn.map D.str = sD N.cn from rfl]
  simp [g, hch]
  rw [lc_nms _ N.cn hcn _ (alive_lst g) (fun x hx => by simp [lcB, name_ok x (hn x hx), gc_len])]
  simp [blsOf_map, asc_ok _ N.cn hcn (.inr ⟨_, rfl, g⟩), gc_len]
/-- no match hangs on a cell -/
def Net.easyM (N : Net) : Bool := N.cells.all fun c => match c.2 with
  | .mtch _ a b => decide (a ∉ N.cn) && decide (b ∉ N.cn) && decide (a ≠ b)
  | _ => true
theorem reach_ok (hg : N.Good) (hd : NetD dN N) (t : D) (a b : Tx) (ht : IsT t (sD [a, b])) (ha : a ∉ N.cn) (hb : b ∉ N.cn) (hab : a ≠ b) :
    fun_ defs (k + 3) ix_reached_from [dN, t] st = .ok (.td (trD [a, b])) st := by
  obtain ⟨tab, t1, t2⟩ := table_ok (k := k + 1) (st := st) dN N hd hg.nd (by have := hg.len; omega)
  have hkey : ∀ x, x ∉ N.cn → lookD tab (.str x) = none := fun x hx => lookD_none fun p hp e => by
    obtain ⟨c, hc, e2, _⟩ := All2.left t2 p hp
    rw [e2] at e
    have e3 : c.1 = x := by injection e
    exact hx (e3 ▸ List.mem_map.mpr ⟨c, hc, rfl⟩)
  have htf := t2.flat
  have g0 : getK (st ++ [MO.dct tab, MO.dct (trD [a, b]), MO.lst (sD [a, b])]) st.length = some tab := by rw [getK_new0]; rfl
  have g2 : getL (st ++ [MO.dct tab, MO.dct (trD [a, b]), MO.lst (sD [a, b])]) (st.length + 2) = some (sD [a, b]) := by rw [getL_new]; rfl
  have g1 : getK (st ++ [MO.dct tab, MO.dct (trD [a, b])]) (st.length + 1) = some (trD [a, b]) := by rw [getK_new]; rfl
  have ge : ∀ (i : Nat) (x : Tx), [a, b][i]? = some x → atI (sD [a, b]) (i : Int) = some (.str x) := fun i x h => atI_some (by rw [sD, List.getElem?_map, h]; rfl)
  have loop : ∀ (m n : Nat), m ≤ 2 → 2 - m < n → whl (fun_ defs (k + 2)) c_reached_from_1 b_reached_from_1 n [some dN, some t, some (.ref st.length), some (.ref (st.length + 1)), some (.ref (st.length + 2)), some (.int m), none, none]
      (st ++ [MO.dct tab, MO.dct (trD [a, b]), MO.lst (sD [a, b])]) = .ok .nx [some dN, some t, some (.ref st.length), some (.ref (st.length + 1)), some (.ref (st.length + 2)), some (.int 2), none, none] (st ++ [MO.dct tab, MO.dct (trD [a, b]), MO.lst (sD [a, b])]) := by
    intro m n
    induction n generalizing m with
    | zero => intro _ h; omega
    | succ n ih =>
      intro hm hn
      rw [whl_succ]
      have hlen : (sD [a, b]).length = 2 := rfl
      by_cases e : m = 2
      · subst e
        have hc : (evE (fun_ defs (k + 2)) c_reached_from_1 [some dN, some t, some (.ref st.length), some (.ref (st.length + 1)), some (.ref (st.length + 2)), some (.int (2 : Nat)), none, none] (st ++ [MO.dct tab, MO.dct (trD [a, b]), MO.lst (sD [a, b])])).bind (fun x st2 => truR x st2) = .ok false (st ++ [MO.dct tab, MO.dct (trD [a, b]), MO.lst (sD [a, b])]) := by
          simp [c_reached_from_1, g2]
        rw [hc]; rfl
      · have hlt : m < 2 := by omega
        obtain ⟨x, hx⟩ : ∃ x, [a, b][m]? = some x := ⟨_, List.getElem?_eq_getElem (by simpa using hlt)⟩
        have hxn : x ∉ N.cn := by
          have : x ∈ [a, b] := List.mem_of_getElem? hx
          simp at this
          rcases this with rfl | rfl <;> assumption
        have hc : (evE (fun_ defs (k + 2)) c_reached_from_1 [some dN, some t, some (.ref st.length), some (.ref (st.length + 1)), some (.ref (st.length + 2)), some (.int m), none, none] (st ++ [MO.dct tab, MO.dct (trD [a, b]), MO.lst (sD [a, b])])).bind (fun x st2 => truR x st2) = .ok true (st ++ [MO.dct tab, MO.dct (trD [a, b]), MO.lst (sD [a, b])]) := by
          have : (m : Int) < 2 := by omega
          simp [c_reached_from_1, g2, this]
        have hb : evSs (fun_ defs (k + 2)) b_reached_from_1 [some dN, some t, some (.ref st.length), some (.ref (st.length + 1)), some (.ref (st.length + 2)), some (.int m), none, none] (st ++ [MO.dct tab, MO.dct (trD [a, b]), MO.lst (sD [a, b])]) =
            .ok .nx [some dN, some t, some (.ref st.length), some (.ref (st.length + 1)), some (.ref (st.length + 2)), some (.int ((m + 1 : Nat) : Int)), none, none] (st ++ [MO.dct tab, MO.dct (trD [a, b]), MO.lst (sD [a, b])]) := by
          simp [b_reached_from_1, g2, ge m x hx, g0, askOk, htf, hkey x hxn, augO]
        rw [hc]
        simp only [R.toS_ok, if_true, hb, RS.lp_nx]
        exact ih (m + 1) (by omega) (by omega)
  have dcl : ∀ (S : St), dcLoop [] (dcB (fun_ defs (k + 2)) (.nm 7) [7] .nil (.var 7) (.cst (.bl true)) [some dN, some t, some (.ref st.length), none, none, none, none, none]) (sD [a, b]) [] S = .ok (.td (trD [a, b])) S := fun S => by
    rw [dcLoop_map (fun d => (d, .bl true)) alive_nil (sD [a, b]) [] (fun d hd => by simp [dcB]) (fun d hd => by obtain ⟨x, hx, rfl⟩ := List.mem_map.mp hd; rfl) (by simp) (by simp [sD, hab])]
    rfl
  have hev : evSs (fun_ defs (k + 2)) d_reached_from.body (startE d_reached_from.slots [dN, t]) st = .ok (.rt (.v (.ref (st.length + 1)))) [some dN, some t, some (.ref st.length), some (.ref (st.length + 1)), some (.ref (st.length + 2)), some (.int 2), none, none]
      (st ++ [MO.dct tab, MO.dct (trD [a, b]), MO.lst (sD [a, b])]) := by
    have lp := loop 0 wN (by omega) (by unfold wN; omega)
    have pl : p_lst [.v (.ref (st.length + 1))] (st ++ [MO.dct tab, MO.dct (trD [a, b])]) = .ok (.tl (sD [a, b])) (st ++ [MO.dct tab, MO.dct (trD [a, b])]) := by
      have gL := getL_of_getK g1
      simp [p_lst, seqOf, tupOf, lstOf, trkOf, gL, g1, trD_flat]
      simp [trD, sD]
    simp [d_reached_from, startE, t1, gc_len, ht, dcl, pl]
    rw [show ((0 : Nat) : Int) = 0 from rfl] at lp
    rw [lp]; rfl
  rw [fn_reached_from, runDf, if_pos (show [dN, t].length = d_reached_from.pars from rfl), hev]
  simp only [gcR_ok]
  have gcE : gc st (.v (.ref (st.length + 1))) (st ++ [MO.dct tab, MO.dct (trD [a, b]), MO.lst (sD [a, b])]) = (.td (trD [a, b]), st) := by
    have h2 : (st ++ [MO.dct tab, MO.dct (trD [a, b]), MO.lst (sD [a, b])])[st.length + 1]? = some (.dct (trD [a, b])) := by rw [List.getElem?_append_right (by omega)]; simp
    have h3 : ¬ (st.length + 1 < st.length) := by omega
    unfold gc
    rw [if_neg (by simp)]
    simp [D.bel, h2, h3, kvBelow, trD_flat]
    simp [trD, flatKeys]
  rw [gcE]
def Net.soundB (N : Net) : Bool := decide (N.ord.length = N.cn.length) && N.easyM
theorem fo_word (f : Fo) (d : D) (hF : FoD d f) : ∃ w r, tupOf (.v d) = some (.str w :: r) ∧ okTx w = true ∧ (w = [109, 97, 116, 99, 104] ↔ f.isM = true) := by
  cases f <;> simp only [FoD] at hF
  case turn => obtain ⟨r, h1, h2⟩ := hF; exact ⟨_, _, h1, by decide, by simp [Fo.isM]⟩
  case pair w a b => exact ⟨_, _, hF, by simp, by simp [Fo.isM]⟩
  all_goals exact ⟨_, _, hF, by decide, by simp [Fo.isM]⟩
theorem sound_ok (hg : N.Good) (hd : NetD dN N) (hin : N.ins.length ≤ 100) (hni : N.ins.Nodup) (hs : N.soundB = true) : fun_ defs (k + 5) ix_is_sound [dN] st = .ok (.v (.bl true)) st := by
  have ordk := order_ok (k := k) (st := st) hg hd hin hni
  have hd0 := hd
  obtain ⟨di, dc, cs, e1, e2, e3, h⟩ := hd
  simp only [Net.soundB, Bool.and_eq_true, decide_eq_true_eq] at hs
  have hcl : cs.length = N.cells.length := h.len
  have hcn : N.cn.length = N.cells.length := by simp [Net.cn]
  have hlt : ¬ ((N.ord.length : Int) < (cs.length : Int)) := by omega
  have loop := frl_inv (F := fun_ defs (k + 4)) (t := .tp [1, 2]) (b := b_is_sound_1) (chk := [])
    (fun j ρ S => ∃ x1 x2, ρ = [some dN, x1, x2] ∧ S = st) cs
    (by
      rintro j c ρ S hj ⟨x1, x2, rfl, rfl⟩
      have hc := List.mem_of_getElem? hj
      obtain ⟨b, hb, r⟩ := h.left c hc
      obtain ⟨fd, a1, a2, a3, a4⟩ := CellD.eq r
      refine ⟨rfl, [some dN, some (.str b.1), some fd], by simp [a1], _, _, .inl ?_, some (.str b.1), some fd, rfl, rfl⟩
      obtain ⟨w, rr, w1, w2, w3⟩ := fo_word b.2 fd a2
      by_cases hm : b.2.isM = true
      · have hmw := w3.mpr hm
        obtain ⟨cw, ca, cb, hcb⟩ : ∃ w a b', b.2 = .mtch w a b' := by
          revert hm
          cases b.2 <;> simp [Fo.isM]
        have hz := List.all_eq_true.mp hs.2 b hb
        rw [hcb] at hz
        simp only [Bool.and_eq_true, decide_eq_true_eq] at hz
        obtain ⟨t, t1, t2⟩ := names_ok (k := k + 3) (st := S) b.2 fd a2
        rw [hcb] at t2
        have rc := reach_ok (k := k + 1) (st := S) hg hd0 t ca cb t2 hz.1.1 hz.1.2 hz.2
        have hbn : b.1 ∈ N.cn := List.mem_map.mpr ⟨b, hb, rfl⟩
        have hx : b.1 ≠ ca ∧ b.1 ≠ cb := ⟨fun e => hz.1.1 (e ▸ hbn), fun e => hz.1.2 (e ▸ hbn)⟩
        have hinn : inA (.v (.str b.1)) (.td (trD [ca, cb])) S = some false := by
          have e1 : ¬ (ca = b.1) := fun e => hx.1 e.symm
          have e2 : ¬ (cb = b.1) := fun e => hx.2 e.symm
          simp [inA, askX, trD_flat]
          simp [trD, lookD, e1, e2]
        simp [b_is_sound_1, w1, w2, hmw, t1, gc_len, rc, hinn]
      · have hmw : ¬ (w = [109, 97, 116, 99, 104]) := fun e => hm (w3.mp e)
        simp [b_is_sound_1, w1, w2, hmw])
    (fun _ _ _ => rfl)
  obtain ⟨ρ', S', f1, x1, x2, rfl, rfl⟩ := loop [some dN, none, none] st ⟨none, none, rfl, rfl⟩
  refine run_v (ρ := [some dN, x1, x2]) (fn_is_sound _ _ _) ?_ rfl
  simp [d_is_sound, startE, ordk, gc_len, e1, e3, hlt, f1]
def Net.okB (N : Net) : Bool := decide (2 ≤ N.size) && decide (N.size ≤ 5) && N.ins.all nameB && ascB N.ins && decide (N.ins.length ≤ 4) && decide (N.cells.length ≤ 20) && N.cn.all nameB && ascB N.cn && N.cn.all (fun x => decide (x ∉ N.ins)) && N.cells.all fun c => c.2.okB N.size
def Net.knownB (N : Net) : Bool := N.cells.all fun c => c.2.names.all fun a => decide (a ∈ N.ins ++ N.cn)
theorem fault_ok (hd : NetD dN N) (hok : N.okB = true) (hg : N.knownB = true → N.Good ∧ N.ins.Nodup ∧ N.soundB = true) :
    fun_ defs (k + 6) ix_net_fault [dN] st = .ok (.v (if N.knownB then .non else .str w_names)) st := by
  have hd0 := hd
  obtain ⟨di, dc, cs, e1, e2, e3, h⟩ := hd
  simp only [Net.okB, Bool.and_eq_true, decide_eq_true_eq] at hok
  obtain ⟨⟨⟨⟨⟨⟨⟨⟨⟨o1, o2⟩, o3⟩, o4⟩, o5⟩, o6⟩, o7⟩, o8⟩, o9⟩, o10⟩ := hok
  have hcl : cs.length = N.cells.length := h.len
  have hcn : N.cn.length = N.cells.length := by simp [Net.cn]
  have hrow := row_ok (k := k + 4) (st := st) dN _ e1 3
  have hbet := between_ok (k := k + 3) (st := st) N.size 2 5
  have hnm := names_tok (k := k + 3) (st := st) di N.ins e2 (by omega) (by simpa using o3)
  have hce := cells_tok (k := k + 3) (st := st) dc cs e3 h o6 (by simpa using o7)
  have hgt : ¬ ((4 : Int) < (N.ins.length : Int)) := by omega
  have hnin : ∀ x ∈ N.cn, x ∉ N.ins := by simpa using o9
  have hfo : ∀ c ∈ N.cells, c.2.okB N.size = true := by simpa using o10
  have o4' := o4
  have o8' := o8
  have hsz : 2 ≤ N.size ∧ N.size ≤ 5 := ⟨o1, o2⟩
  have known : ∀ S, lcLoop [] (lcB (fun_ defs (k + 5)) (.tp [5, 6]) [5, 6] .nil (.var 5) [some dN, some (.int N.size), some di, some dc, none, none, none, none]) cs [] S = .ok (.tl (sD N.cn)) S := fun S =>
    lc_names h (by omega) (by simp) (by omega) S
  have hlen : (sD N.ins).length + (sD N.cn).length ≤ szMax := by simp; unfold szMax; omega
  have hap : sD N.ins ++ sD N.cn = sD (N.ins ++ N.cn) := by simp [sD]
  have addE : p_add [.tl (sD N.ins), .tl (sD N.cn)] st = .ok (.tl (sD (N.ins ++ N.cn))) st := by
    simp only [sD_len] at hlen
    simp [p_add, addA, hap, hlen]
  have g : getL (st ++ [MO.lst (sD (N.ins ++ N.cn))]) st.length = some (sD (N.ins ++ N.cn)) := by rw [getL_new0]; rfl
  -- are the names there
  have kn : lcLoop [] (lcB (fun_ defs (k + 5)) (.tp [5, 6]) [5, 6] .nil (.p .all (.cons (.lc (.seq (.call ix_names_in (.cons (.var 6) .nil))) (.nm 7) [7] .nil (.p .inn (.cons (.var 7) (.cons (.var 4) .nil)))) .nil))
      [some dN, some (.int N.size), some di, some dc, some (.ref st.length), none, none, none]) cs [] (st ++ [MO.lst (sD (N.ins ++ N.cn))]) = .ok (.tl (N.cells.map fun c => .bl (c.2.names.all fun a => decide (a ∈ N.ins ++ N.cn)))) (st ++ [MO.lst (sD (N.ins ++ N.cn))]) := by
    have gen : ∀ (l : List D) (m : List (Tx × Fo)) (acc : List D), All2 CellD l m → acc.length + l.length ≤ 1000 → lcLoop [] (lcB (fun_ defs (k + 5)) (.tp [5, 6]) [5, 6] .nil (.p .all (.cons (.lc (.seq (.call ix_names_in (.cons (.var 6) .nil))) (.nm 7) [7] .nil (.p .inn (.cons (.var 7) (.cons (.var 4) .nil)))) .nil))
      [some dN, some (.int N.size), some di, some dc, some (.ref st.length), none, none, none]) l acc (st ++ [MO.lst (sD (N.ins ++ N.cn))]) = .ok (.tl (acc ++ m.map fun c => .bl (c.2.names.all fun a => decide (a ∈ N.ins ++ N.cn)))) (st ++ [MO.lst (sD (N.ins ++ N.cn))]) := by
      intro l m acc hlm
      induction hlm generalizing acc with
      | nil => intro _; simp [lcLoop]
      | @cons c b l m r _ ih =>
        intro hl
        obtain ⟨fd, a1, a2, a3, a4⟩ := CellD.eq r
        obtain ⟨t, t1, t2⟩ := names_ok (k := k + 4) (st := st ++ [MO.lst (sD (N.ins ++ N.cn))]) b.2 fd a2
        have hnl : b.2.names.length ≤ 2 := by cases b.2 <;> simp [Fo.names]
        have hs : acc.length < szMax := by unfold szMax; simp at hl; omega
        have hb : lcB (fun_ defs (k + 5)) (.tp [5, 6]) [5, 6] .nil (.p .all (.cons (.lc (.seq (.call ix_names_in (.cons (.var 6) .nil))) (.nm 7) [7] .nil (.p .inn (.cons (.var 7) (.cons (.var 4) .nil)))) .nil))
            [some dN, some (.int N.size), some di, some dc, some (.ref st.length), none, none, none] c (st ++ [MO.lst (sD (N.ins ++ N.cn))]) = .ok (some (.bl (b.2.names.all fun a => decide (a ∈ N.ins ++ N.cn)))) (st ++ [MO.lst (sD (N.ins ++ N.cn))]) := by
          simp [lcB, a1, t1, t2, gc_len]
          rw [show sD b.2.names = b.2.names.map D.str from rfl, lc_bl D.str (fun a => decide (a ∈ N.ins ++ N.cn)) [] rfl _ b.2.names [] (fun x hx => by
            have := any_str (N.ins ++ N.cn) x
            simp [lcB, g, all_flat_str, this]) (by simp; omega)]
          simp [blsOf_map]
        rw [lcLoop, if_pos alive_nil, hb]
        simp only [R.cut_ok, R.bi_ok, hs, if_true]
        rw [ih _ (by simp at hl ⊢; omega)]
        simp
    have := gen cs N.cells [] h (by simp; omega)
    simpa using this
  refine run_a (os := [MO.lst (sD (N.ins ++ N.cn))]) (ρ := [some dN, some (.int N.size), some di, some dc, some (.ref st.length), none, none, none]) (fn_net_fault _ _ _) ?_ rfl (by split <;> rfl)
  simp [d_net_fault, startE, hrow, gc_len, e1, hbet, hsz, hnm, o4', hgt, e2, hce, o8', e3]
  rw [lc_const _ cs (by omega) (.bl false) [] rfl (fun c hc => by
    obtain ⟨b, hb, r⟩ := h.left c hc
    obtain ⟨fd, a1, a2, a3, a4⟩ := CellD.eq r
    have := any_str N.ins b.1
    have h2 := hnin b.1 (List.mem_map.mpr ⟨b, hb, rfl⟩)
    simp [lcB, a1, e2, all_flat_str, this, h2])]
  simp [blsOf_map, e3]
  rw [lc_const _ cs (by omega) (.bl true) [] rfl (fun c hc => by
    obtain ⟨b, hb, r⟩ := h.left c hc
    obtain ⟨fd, a1, a2, a3, a4⟩ := CellD.eq r
    have := form_tok (k := k) (st := st) b.2 fd N.size a2 o1 o2 (hfo b hb)
    simp [lcB, a1, this, gc_len])]
  simp [blsOf_map, e3, e2, known, addE, kn]
  have hkB : (N.cells.all fun a => a.snd.names.all fun a => decide (a ∈ N.ins) || decide (a ∈ N.cn)) = N.knownB := by simp [Net.knownB]
  rw [hkB]
  by_cases hk : N.knownB = true
  · obtain ⟨q1, q2, q3⟩ := hg hk
    have sd := sound_ok (k := k) (st := st ++ [MO.lst (sD (N.ins ++ N.cn))]) q1 hd0 (by omega) q2 q3
    simp [hk, sd, gc_len]
  · simp [hk]
end
end CM
end
section
/-! Q22: net_of, the drafts. -/
namespace CM
open PM B
section
variable {N : Net} {dN : D} {k : Nat} {st : St}
theorem NetD.bel {d : D} {N : Net} (h : NetD d N) (n : Nat) : d.bel n = true := by
  obtain ⟨di, dc, cs, e1, e2, e3, h⟩ := h
  have : D.bels n cs = true := by
    rw [bels_all]
    intro c hc
    obtain ⟨b, _, r⟩ := h.left c hc
    obtain ⟨fd, a1, a2⟩ := r
    rw [bel_T a1]; simp [a2.bel]
  rw [bel_T e1]
  simp [bel_T e2, bel_T e3, bels_sD, this]
theorem p_srt_T (d : D) (l : List Tx) (h : tupOf (.v d) = some (sD l)) (hl : l.length < 64) : p_srt [.v d] st = .ok (.tl (sD (sortTx l))) st := by
  rcases IsT.cases h with rfl | rfl <;> simp [p_srt, seqOf, tupOf, sD, txsOf_sD, hl]
theorem p_srt_dct (n : Nat) (kv : List (D × D)) (l : List Tx) (h : getK st n = some kv) (hk : kv.map (·.1) = sD l) (hl : l.length < 64) : p_srt [.v (.ref n)] st = .ok (.tl (sD (sortTx l))) st := by
  have gL := getL_of_getK h
  simp [p_srt, seqOf, tupOf, lstOf, trkOf, gL, h, hk]
  simp [sD, txsOf_sD, hl]
theorem net_of_ok (di0 : D) (ins0 keys : List Tx) (c : Nat) (kv : List (D × D)) (hdi : tupOf (.v di0) = some (sD ins0)) (hi : sortTx ins0 = N.ins) (hil : ins0.length < 64) (hc : getK st c = some kv) (hk : kv.map (·.1) = sD keys) (hs : sortTx keys = N.cn) (hkl : keys.length < 64)
    (hf : ∀ p ∈ N.cells, ∃ fd, lookD kv (.str p.1) = some fd ∧ FoD fd p.2) (hok : N.okB = true) (hg : N.knownB = true → N.Good ∧ N.ins.Nodup ∧ N.soundB = true) :
    if N.knownB then ∃ d, fun_ defs (k + 7) ix_net_of [.int N.size, di0, .ref c] st = .ok (.v d) st ∧ NetD d N else fun_ defs (k + 7) ix_net_of [.int N.size, di0, .ref c] st = .ok (.v .non) st := by
  have hND : NetD (.tup [.int N.size, .ktp (sD N.ins), .ktp (N.cn.map fun x => .tup [.str x, (lookD kv (.str x)).getD .non])]) N := by
    refine ⟨_, _, _, rfl, rfl, rfl, ?_⟩
    unfold Net.cn
    rw [List.map_map]
    revert hf
    generalize N.cells = cells
    intro hf
    induction cells with
    | nil => exact .nil
    | cons p l ih =>
      obtain ⟨fd, h1, h2⟩ := hf p (by simp)
      exact .cons ⟨fd, by simp [IsT, h1], h2⟩ (ih fun q hq => hf q (by simp [hq]))
  have fl := fault_ok (k := k) (st := st) hND hok hg
  have srt1 := p_srt_T (st := st) di0 ins0 hdi hil
  have srt2 := p_srt_dct (st := st) c kv keys hc hk hkl
  rw [hi] at srt1
  rw [hs] at srt2
  have hcn : N.cn.length ≤ 20 := by
    simp only [Net.okB, Bool.and_eq_true, decide_eq_true_eq] at hok
    have := hok.1.1.1.1.2
    simpa [Net.cn] using this
  have hfk : flatKeys kv = true := by
    refine List.all_eq_true.mpr fun p hp => ?_
    have : p.1 ∈ sD keys := by rw [← hk]; exact List.mem_map.mpr ⟨p, hp, rfl⟩
    obtain ⟨x, _, e⟩ := List.mem_map.mp this
    rw [← e]; rfl
  have lc : ∀ body : D → St → R (Option D), (∀ x ∈ N.cn, body (.str x) st = .ok (some (.tup [.str x, (lookD kv (.str x)).getD .non])) st) → lcLoop [] body (sD N.cn) [] st = .ok (.tl (N.cn.map fun x => .tup [.str x, (lookD kv (.str x)).getD .non])) st := fun body hb => by
    rw [lcLoop_map (fun d => match d with
      | .str x => .tup [.str x, (lookD kv (.str x)).getD .non]
      | _ => .non) alive_nil _ [] (fun d hd => by obtain ⟨x, hx, rfl⟩ := List.mem_map.mp hd; exact hb x hx) (by simp; omega)]
    simp [sD]
  have hlk : ∀ x ∈ N.cn, lookD kv (.str x) = some ((lookD kv (.str x)).getD .non) := fun x hx => by
    obtain ⟨p, hp, rfl⟩ := List.mem_map.mp hx
    obtain ⟨fd, h1, _⟩ := hf p hp
    rw [h1]; rfl
  have key : ∀ x, evSs (fun_ defs (k + 6)) d_net_of.body (startE d_net_of.slots [.int N.size, di0, .ref c]) st = .ok (.rt (.v x)) [some (.int N.size), some di0, some (.ref c), some (.tup [.int N.size, .ktp (sD N.ins), .ktp (N.cn.map fun x => .tup [.str x, (lookD kv (.str x)).getD .non])]), none] st →
      fun_ defs (k + 7) ix_net_of [.int N.size, di0, .ref c] st = .ok (.v x) st := fun x e => run_v (fn_net_of _ _ _) e rfl
  by_cases hkn : N.knownB = true
  · rw [if_pos hkn]
    rw [hkn] at fl
    refine ⟨_, key _ ?_, hND⟩
    simp [d_net_of, startE, srt1, srt2]
    rw [lc _ (fun x hx => by
      have := hlk x hx
      revert this
      generalize (lookD kv (.str x)).getD .non = fd
      intro this
      simp [lcB, hc, askOk, hfk, this])]
    simp only [if_true] at fl
    simp [fl, gc_len]
  · rw [if_neg hkn]
    rw [if_neg hkn] at fl
    refine key _ ?_
    simp [d_net_of, startE, srt1, srt2]
    rw [lc _ (fun x hx => by
      have := hlk x hx
      revert this
      generalize (lookD kv (.str x)).getD .non = fd
      intro this
      simp [lcB, hc, askOk, hfk, this])]
    simp only [w_names] at fl
    simp [fl, gc_len]
/-- all that is asked of a net that a draft makes -/
def Net.fineB (N : Net) : Bool := N.okB && N.knownB && N.soundB && decide N.cn.Nodup && decide N.ins.Nodup
theorem fits_of (size : Int) (f : Fo) (h : f.okB size = true) : f.fits size := by
  have wE : ∀ v, wB size v = true → 0 ≤ v ∧ v < size := fun v h => by simp [wB] at h; omega
  cases f <;> simp only [Fo.okB, Fo.fits, Bool.and_eq_true, decide_eq_true_eq] at h ⊢
  · exact wE _ h
  · exact ⟨h.1.2, fun v hv => wE v (List.all_eq_true.mp h.2 v hv)⟩
  · exact wE _ h.2
  · exact wE _ h.2
  · rename_i a v
    intro x hx
    subst hx
    exact wE _ h.2
theorem good_of (h : N.fineB = true) : N.Good := by
  simp only [Net.fineB, Bool.and_eq_true, decide_eq_true_eq] at h
  obtain ⟨⟨⟨⟨h1, h2⟩, h3⟩, h4⟩, h5⟩ := h
  simp only [Net.okB, Bool.and_eq_true, decide_eq_true_eq] at h1
  obtain ⟨⟨⟨⟨⟨⟨⟨⟨⟨o1, o2⟩, o3⟩, o4⟩, o5⟩, o6⟩, o7⟩, o8⟩, o9⟩, o10⟩ := h1
  exact
  { s2 := o1
    s5 := o2
    nd := h4
    dis := by simpa using o9
    len := o6
    fits := fun c hc => fits_of _ _ (List.all_eq_true.mp o10 c hc)
    names := fun c hc a ha => by
      have := List.all_eq_true.mp (List.all_eq_true.mp h2 c hc) a ha
      simpa using this }
theorem draft_ok (h : N.fineB = true) (di0 : D) (ins0 keys : List Tx) (c : Nat) (kv : List (D × D)) (hdi : tupOf (.v di0) = some (sD ins0)) (hi : sortTx ins0 = N.ins) (hil : ins0.length < 64) (hc : getK st c = some kv) (hk : kv.map (·.1) = sD keys) (hs : sortTx keys = N.cn) (hkl : keys.length < 64)
    (hf : ∀ p ∈ N.cells, ∃ fd, lookD kv (.str p.1) = some fd ∧ FoD fd p.2) : ∃ d, fun_ defs (k + 7) ix_net_of [.int N.size, di0, .ref c] st = .ok (.v d) st ∧ NetD d N := by
  have hg := good_of h
  simp only [Net.fineB, Bool.and_eq_true, decide_eq_true_eq] at h
  have := net_of_ok (k := k) (st := st) (N := N) di0 ins0 keys c kv hdi hi hil hc hk hs hkl hf h.1.1.1.1 (fun _ => ⟨hg, h.2, h.1.1.2⟩)
  rw [if_pos h.1.1.1.2] at this
  exact this
end
end CM
end
section
/-! Q23: the drafts (printed by drafts.py). -/
namespace CM
open PM B
section
variable {k : Nat} {st : St}
def N_counter (size : Int) : Net := ⟨size, [w_x], [(w_come, .there w_x), (w_one, .worth 1), (w_past, .late w_total (some 0)), (w_step, .when w_one w_come), (w_sum, .pair .add w_step w_past), (w_total, .held w_sum 0)]⟩
def kv_counter : List (D × D) := [(.str w_one, .tup [.str w_worth, .int 1]), (.str w_step, .tup [.str w_when, .str w_one, .str w_come]), (.str w_come, .tup [.str w_there, .str w_x]), (.str w_sum, .tup [.str w_add, .str w_step, .str w_past]), (.str w_total, .tup [.str w_held, .str w_sum, .int 0]), (.str w_past, .tup [.str w_late, .str w_total, .int 0])]
theorem counter_fine : ∀ s : Nat, s < 4 → (N_counter (s + 2)).fineB = true := by decide +kernel
theorem counter_ok (size : Int) (h : 2 ≤ size ∧ size ≤ 5) : ∃ d, fun_ defs (k + 8) ix_counter [.int size] st = .ok (.v d) st ∧ NetD d (N_counter size) := by
  have hfine : (N_counter size).fineB = true := by
    have := counter_fine (size - 2).toNat (by omega)
    rwa [show ((size - 2).toNat : Int) + 2 = size from by omega] at this
  obtain ⟨d, h1, h2⟩ := draft_ok (N := N_counter size) (k := k) (st := st ++ [.dct (kv_counter)]) hfine (.tup [.str w_x]) [w_x] [w_one, w_step, w_come, w_sum, w_total, w_past] st.length (kv_counter) rfl rfl (by simp) (by rw [getK_new0]; rfl) rfl rfl (by simp) (by
      intro p hp
      simp only [N_counter, List.mem_cons, List.not_mem_nil, or_false] at hp
      rcases hp with rfl | rfl | rfl | rfl | rfl | rfl
      · exact ⟨_, rfl, rfl⟩
      · exact ⟨_, rfl, rfl⟩
      · exact ⟨_, rfl, rfl⟩
      · exact ⟨_, rfl, rfl⟩
      · exact ⟨_, rfl, rfl⟩
      · exact ⟨_, rfl, rfl⟩)
  refine ⟨d, ?_, h2⟩
  refine run_a (os := [.dct (kv_counter)]) (ρ := [some (.int size), some (.ref st.length)]) (fn_counter _ _ _) ?_ rfl (h2.bel _)
  simp [N_counter, kv_counter] at h1 ⊢
  simp [d_counter, startE]
  rw [mergeD_new _ _ (by simp)]
  simp [h1, gc_len]
def N_toggle (size : Int) : Net := ⟨size, [w_x], [(w_come, .there w_x), (w_next, .when w_turned w_come), (w_on, .held w_next 0), (w_one, .worth 1), (w_past, .late w_on (some 0)), (w_turned, .turn w_past ([1, 0] ++ List.replicate (size - 2).toNat 1))]⟩
def kv_toggle (r1 : D) : List (D × D) := [(.str w_come, .tup [.str w_there, .str w_x]), (.str w_one, .tup [.str w_worth, .int 1]), (.str w_turned, .tup [.str w_turn, .str w_past, r1]), (.str w_next, .tup [.str w_when, .str w_turned, .str w_come]), (.str w_on, .tup [.str w_held, .str w_next, .int 0]), (.str w_past, .tup [.str w_late, .str w_on, .int 0])]
theorem toggle_fine : ∀ s : Nat, s < 4 → (N_toggle (s + 2)).fineB = true := by decide +kernel
theorem toggle_ok (size : Int) (h : 2 ≤ size ∧ size ≤ 5) : ∃ d, fun_ defs (k + 8) ix_toggle [.int size] st = .ok (.v d) st ∧ NetD d (N_toggle size) := by
  have hfine : (N_toggle size).fineB = true := by
    have := toggle_fine (size - 2).toNat (by omega)
    rwa [show ((size - 2).toNat : Int) + 2 = size from by omega] at this
  have hn : (size - 2).toNat ≤ 5 := by omega
  have lcE : ∀ S, lcLoop [] (lcB (fun_ defs (k + 7)) (.nm 2) [2] .nil (.cst (.int 1)) [some (.int size), none, none]) (ranN (size - 2).toNat) [] S = .ok (.tl ((ranN (size - 2).toNat).map fun _ => .int 1)) S := fun S =>
    lc_const _ _ (by simp; omega) _ _ rfl (fun c hc => by simp [lcB])
  obtain ⟨r1, rE, rT⟩ := p_add_T (a := .tup [.int 1, .int 0]) (b := .ktp ((ranN (size - 2).toNat).map fun _ => .int 1)) rfl rfl (by simp; omega)
  have rT2 : IsT r1 (iD ([1, 0] ++ List.replicate (size - 2).toNat 1)) := by
    have : (ranN (size - 2).toNat).map (fun _ => D.int 1) = List.replicate (size - 2).toNat (.int 1) := by rw [List.map_const']; simp
    rw [this] at rT
    simpa [IsT, iD] using rT
  have hb62 : -big62 ≤ size - 2 ∧ size - 2 < big62 := by unfold big62; omega
  obtain ⟨d, h1, h2⟩ := draft_ok (N := N_toggle size) (k := k) (st := st ++ [.dct (kv_toggle r1)]) hfine (.tup [.str w_x]) [w_x] [w_come, w_one, w_turned, w_next, w_on, w_past] st.length (kv_toggle r1) rfl rfl (by simp) (by rw [getK_new0]; rfl) rfl rfl (by simp) (by
      intro p hp
      simp only [N_toggle, List.mem_cons, List.not_mem_nil, or_false] at hp
      rcases hp with rfl | rfl | rfl | rfl | rfl | rfl
      · exact ⟨_, rfl, rfl⟩
      · exact ⟨_, rfl, rfl⟩
      · exact ⟨_, rfl, rfl⟩
      · exact ⟨_, rfl, rfl⟩
      · exact ⟨_, rfl, rfl⟩
      · exact ⟨_, rfl, _, rfl, rT2⟩)
  refine ⟨d, ?_, h2⟩
  refine run_a (os := [.dct (kv_toggle r1)]) (ρ := [some (.int size), some (.ref st.length), none]) (fn_toggle _ _ _) ?_ rfl (h2.bel _)
  simp [N_toggle, kv_toggle] at h1 ⊢
  simp [d_toggle, startE, lcE, rE, hb62]
  rw [mergeD_new _ _ (by simp)]
  simp [h1, gc_len]
def N_edges (size : Int) : Net := ⟨size, [w_x], [(w_low, .turn w_was ([1] ++ List.replicate (size - 1).toNat 0)), (w_one, .worth 1), (w_rise, .when w_up w_low), (w_up, .when w_one w_x), (w_was, .before w_x 0)]⟩
def kv_edges (r0 : D) : List (D × D) := [(.str w_was, .tup [.str w_before, .str w_x, .int 0]), (.str w_low, .tup [.str w_turn, .str w_was, r0]), (.str w_one, .tup [.str w_worth, .int 1]), (.str w_up, .tup [.str w_when, .str w_one, .str w_x]), (.str w_rise, .tup [.str w_when, .str w_up, .str w_low])]
theorem edges_fine : ∀ s : Nat, s < 4 → (N_edges (s + 2)).fineB = true := by decide +kernel
theorem edges_ok (size : Int) (h : 2 ≤ size ∧ size ≤ 5) : ∃ d, fun_ defs (k + 8) ix_edges [.int size] st = .ok (.v d) st ∧ NetD d (N_edges size) := by
  have hfine : (N_edges size).fineB = true := by
    have := edges_fine (size - 2).toNat (by omega)
    rwa [show ((size - 2).toNat : Int) + 2 = size from by omega] at this
  have hn : (size.toNat - 1) ≤ 5 := by omega
  have lcE : ∀ S, lcLoop [] (lcB (fun_ defs (k + 7)) (.nm 2) [2] .nil (.cst (.int 0)) [some (.int size), none, none]) (ranN (size.toNat - 1)) [] S = .ok (.tl ((ranN (size.toNat - 1)).map fun _ => .int 0)) S := fun S =>
    lc_const _ _ (by simp; omega) _ _ rfl (fun c hc => by simp [lcB])
  obtain ⟨r0, rE, rT⟩ := p_add_T (a := .tup [.int 1]) (b := .ktp ((ranN (size.toNat - 1)).map fun _ => .int 0)) rfl rfl (by simp; omega)
  have rT2 : IsT r0 (iD ([1] ++ List.replicate (size - 1).toNat 0)) := by
    have : (ranN (size.toNat - 1)).map (fun _ => D.int 0) = List.replicate (size.toNat - 1) (.int 0) := by rw [List.map_const']; simp
    rw [this] at rT
    rw [show (size - 1).toNat = size.toNat - 1 from by omega]
    simpa [IsT, iD] using rT
  have hb62 : -big62 ≤ size - 1 ∧ size - 1 < big62 := by unfold big62; omega
  obtain ⟨d, h1, h2⟩ := draft_ok (N := N_edges size) (k := k) (st := st ++ [.dct (kv_edges r0)]) hfine (.tup [.str w_x]) [w_x] [w_was, w_low, w_one, w_up, w_rise] st.length (kv_edges r0) rfl rfl (by simp) (by rw [getK_new0]; rfl) rfl rfl (by simp) (by
      intro p hp
      simp only [N_edges, List.mem_cons, List.not_mem_nil, or_false] at hp
      rcases hp with rfl | rfl | rfl | rfl | rfl
      · exact ⟨_, rfl, _, rfl, rT2⟩
      · exact ⟨_, rfl, rfl⟩
      · exact ⟨_, rfl, rfl⟩
      · exact ⟨_, rfl, rfl⟩
      · exact ⟨_, rfl, rfl⟩)
  refine ⟨d, ?_, h2⟩
  refine run_a (os := [.dct (kv_edges r0)]) (ρ := [some (.int size), some (.ref st.length), none]) (fn_edges _ _ _) ?_ rfl (h2.bel _)
  simp [N_edges, kv_edges] at h1 ⊢
  simp [d_edges, startE, lcE, rE, hb62]
  rw [mergeD_new _ _ (by simp)]
  simp [h1, gc_len]
def N_latch (size : Int) : Net := ⟨size, [w_x, w_y], [(w_now, .held w_x 0), (w_out, .held w_taken 0), (w_taken, .when w_now w_y)]⟩
def kv_latch : List (D × D) := [(.str w_now, .tup [.str w_held, .str w_x, .int 0]), (.str w_taken, .tup [.str w_when, .str w_now, .str w_y]), (.str w_out, .tup [.str w_held, .str w_taken, .int 0])]
theorem latch_fine : ∀ s : Nat, s < 4 → (N_latch (s + 2)).fineB = true := by decide +kernel
theorem latch_ok (size : Int) (h : 2 ≤ size ∧ size ≤ 5) : ∃ d, fun_ defs (k + 8) ix_latch [.int size] st = .ok (.v d) st ∧ NetD d (N_latch size) := by
  have hfine : (N_latch size).fineB = true := by
    have := latch_fine (size - 2).toNat (by omega)
    rwa [show ((size - 2).toNat : Int) + 2 = size from by omega] at this
  obtain ⟨d, h1, h2⟩ := draft_ok (N := N_latch size) (k := k) (st := st ++ [.dct (kv_latch)]) hfine (.tup [.str w_x, .str w_y]) [w_x, w_y] [w_now, w_taken, w_out] st.length (kv_latch) rfl rfl (by simp) (by rw [getK_new0]; rfl) rfl rfl (by simp) (by
      intro p hp
      simp only [N_latch, List.mem_cons, List.not_mem_nil, or_false] at hp
      rcases hp with rfl | rfl | rfl
      · exact ⟨_, rfl, rfl⟩
      · exact ⟨_, rfl, rfl⟩
      · exact ⟨_, rfl, rfl⟩)
  refine ⟨d, ?_, h2⟩
  refine run_a (os := [.dct (kv_latch)]) (ρ := [some (.int size), some (.ref st.length)]) (fn_latch _ _ _) ?_ rfl (h2.bel _)
  simp [N_latch, kv_latch] at h1 ⊢
  simp [d_latch, startE]
  rw [mergeD_new _ _ (by simp)]
  simp [h1, gc_len]
def N_sums (size : Int) : Net := ⟨size, [w_x], [(w_past, .late w_total (some 0)), (w_sum, .pair .add w_x w_past), (w_total, .held w_sum 0)]⟩
def kv_sums : List (D × D) := [(.str w_sum, .tup [.str w_add, .str w_x, .str w_past]), (.str w_total, .tup [.str w_held, .str w_sum, .int 0]), (.str w_past, .tup [.str w_late, .str w_total, .int 0])]
theorem sums_fine : ∀ s : Nat, s < 4 → (N_sums (s + 2)).fineB = true := by decide +kernel
theorem sums_ok (size : Int) (h : 2 ≤ size ∧ size ≤ 5) : ∃ d, fun_ defs (k + 8) ix_sums [.int size] st = .ok (.v d) st ∧ NetD d (N_sums size) := by
  have hfine : (N_sums size).fineB = true := by
    have := sums_fine (size - 2).toNat (by omega)
    rwa [show ((size - 2).toNat : Int) + 2 = size from by omega] at this
  obtain ⟨d, h1, h2⟩ := draft_ok (N := N_sums size) (k := k) (st := st ++ [.dct (kv_sums)]) hfine (.tup [.str w_x]) [w_x] [w_sum, w_total, w_past] st.length (kv_sums) rfl rfl (by simp) (by rw [getK_new0]; rfl) rfl rfl (by simp) (by
      intro p hp
      simp only [N_sums, List.mem_cons, List.not_mem_nil, or_false] at hp
      rcases hp with rfl | rfl | rfl
      · exact ⟨_, rfl, rfl⟩
      · exact ⟨_, rfl, rfl⟩
      · exact ⟨_, rfl, rfl⟩)
  refine ⟨d, ?_, h2⟩
  refine run_a (os := [.dct (kv_sums)]) (ρ := [some (.int size), some (.ref st.length)]) (fn_sums _ _ _) ?_ rfl (h2.bel _)
  simp [N_sums, kv_sums] at h1 ⊢
  simp [d_sums, startE]
  rw [mergeD_new _ _ (by simp)]
  simp [h1, gc_len]
def N_alternation (size : Int) : Net := ⟨size, [w_x, w_y], [(w_alone, .turn w_twice ([1, 0] ++ List.replicate (size - 2).toNat 0)), (w_any, .pair .most w_cx w_cy), (w_cx, .there w_x), (w_cy, .there w_y), (w_due, .late w_turned (some 1)), (w_fits, .pair .alike w_cx w_due), (w_flip, .turn w_due ([1, 0] ++ List.replicate (size - 2).toNat 0)), (w_judged, .when w_right w_any), (w_moved, .when w_flip w_any), (w_now, .els w_judged w_one), (w_ok, .pair .times w_now w_past), (w_one, .worth 1), (w_past, .late w_ok (some 1)), (w_right, .pair .times w_fits w_alone), (w_turned, .els w_moved w_due), (w_twice, .pair .times w_cx w_cy)]⟩
def kv_alternation (r0 : D) : List (D × D) := [(.str w_cx, .tup [.str w_there, .str w_x]), (.str w_cy, .tup [.str w_there, .str w_y]), (.str w_any, .tup [.str w_most, .str w_cx, .str w_cy]), (.str w_due, .tup [.str w_late, .str w_turned, .int 1]), (.str w_fits, .tup [.str w_alike, .str w_cx, .str w_due]), (.str w_flip, .tup [.str w_turn, .str w_due, r0]), (.str w_moved, .tup [.str w_when, .str w_flip, .str w_any]), (.str w_turned, .tup [.str w_else, .str w_moved, .str w_due]), (.str w_one, .tup [.str w_worth, .int 1]), (.str w_twice, .tup [.str w_times, .str w_cx, .str w_cy]), (.str w_alone, .tup [.str w_turn, .str w_twice, r0]), (.str w_right, .tup [.str w_times, .str w_fits, .str w_alone]), (.str w_judged, .tup [.str w_when, .str w_right, .str w_any]), (.str w_now, .tup [.str w_else, .str w_judged, .str w_one]), (.str w_past, .tup [.str w_late, .str w_ok, .int 1]), (.str w_ok, .tup [.str w_times, .str w_now, .str w_past])]
theorem alternation_fine : ∀ s : Nat, s < 4 → (N_alternation (s + 2)).fineB = true := by decide +kernel
theorem alternation_ok (size : Int) (h : 2 ≤ size ∧ size ≤ 5) : ∃ d, fun_ defs (k + 8) ix_alternation [.int size] st = .ok (.v d) st ∧ NetD d (N_alternation size) := by
  have hfine : (N_alternation size).fineB = true := by
    have := alternation_fine (size - 2).toNat (by omega)
    rwa [show ((size - 2).toNat : Int) + 2 = size from by omega] at this
  have hn : (size - 2).toNat ≤ 5 := by omega
  have lcE : ∀ S, lcLoop [] (lcB (fun_ defs (k + 7)) (.nm 2) [2] .nil (.cst (.int 0)) [some (.int size), none, none]) (ranN (size - 2).toNat) [] S = .ok (.tl ((ranN (size - 2).toNat).map fun _ => .int 0)) S := fun S =>
    lc_const _ _ (by simp; omega) _ _ rfl (fun c hc => by simp [lcB])
  obtain ⟨r0, rE, rT⟩ := p_add_T (a := .tup [.int 1, .int 0]) (b := .ktp ((ranN (size - 2).toNat).map fun _ => .int 0)) rfl rfl (by simp; omega)
  have rT2 : IsT r0 (iD ([1, 0] ++ List.replicate (size - 2).toNat 0)) := by
    have : (ranN (size - 2).toNat).map (fun _ => D.int 0) = List.replicate (size - 2).toNat (.int 0) := by rw [List.map_const']; simp
    rw [this] at rT
    simpa [IsT, iD] using rT
  have hb62 : -big62 ≤ size - 2 ∧ size - 2 < big62 := by unfold big62; omega
  obtain ⟨d, h1, h2⟩ := draft_ok (N := N_alternation size) (k := k) (st := st ++ [.dct (kv_alternation r0)]) hfine (.tup [.str w_x, .str w_y]) [w_x, w_y] [w_cx, w_cy, w_any, w_due, w_fits, w_flip, w_moved, w_turned, w_one, w_twice, w_alone, w_right, w_judged, w_now, w_past, w_ok] st.length (kv_alternation r0) rfl rfl (by simp) (by rw [getK_new0]; rfl) rfl rfl (by simp) (by
      intro p hp
      simp only [N_alternation, List.mem_cons, List.not_mem_nil, or_false] at hp
      rcases hp with rfl | rfl | rfl | rfl | rfl | rfl | rfl | rfl | rfl | rfl | rfl | rfl | rfl | rfl | rfl | rfl
      · exact ⟨_, rfl, _, rfl, rT2⟩
      · exact ⟨_, rfl, rfl⟩
      · exact ⟨_, rfl, rfl⟩
      · exact ⟨_, rfl, rfl⟩
      · exact ⟨_, rfl, rfl⟩
      · exact ⟨_, rfl, rfl⟩
      · exact ⟨_, rfl, _, rfl, rT2⟩
      · exact ⟨_, rfl, rfl⟩
      · exact ⟨_, rfl, rfl⟩
      · exact ⟨_, rfl, rfl⟩
      · exact ⟨_, rfl, rfl⟩
      · exact ⟨_, rfl, rfl⟩
      · exact ⟨_, rfl, rfl⟩
      · exact ⟨_, rfl, rfl⟩
      · exact ⟨_, rfl, rfl⟩
      · exact ⟨_, rfl, rfl⟩)
  refine ⟨d, ?_, h2⟩
  refine run_a (os := [.dct (kv_alternation r0)]) (ρ := [some (.int size), some (.ref st.length), none]) (fn_alternation _ _ _) ?_ rfl (h2.bel _)
  simp [N_alternation, kv_alternation] at h1 ⊢
  simp [d_alternation, startE, lcE, rE, hb62]
  rw [mergeD_new _ _ (by simp)]
  simp [h1, gc_len]
end
end CM
end
section
/-! Q24: pairing, delay_line, and the two nets that the law makes itself. -/
namespace CM
open PM B
section
variable {k : Nat} {st : St}
def N_pairing (size : Int) (w : PW) : Net := ⟨size, [w_x, w_y], [(w_both, .mtch w w_x w_y)]⟩
theorem pairing_fine (w : PW) : ∀ s : Nat, s < 4 → (N_pairing (s + 2) w).fineB = true := by cases w <;> decide +kernel
theorem pairing_ok (size : Int) (w : PW) (h : 2 ≤ size ∧ size ≤ 5) : ∃ d, fun_ defs (k + 8) ix_pairing [.int size, .str w.tx] st = .ok (.v d) st ∧ NetD d (N_pairing size w) := by
  have hfine : (N_pairing size w).fineB = true := by
    have := pairing_fine w (size - 2).toNat (by omega)
    rwa [show ((size - 2).toNat : Int) + 2 = size from by omega] at this
  obtain ⟨d, h1, h2⟩ := draft_ok (N := N_pairing size w) (k := k) (st := st ++ [.dct [(.str w_both, .tup [.str w_match, .str w.tx, .str w_x, .str w_y])]]) hfine (.tup [.str w_x, .str w_y]) [w_x, w_y] [w_both] st.length [(.str w_both, .tup [.str w_match, .str w.tx, .str w_x, .str w_y])] rfl rfl (by simp) (by rw [getK_new0]; rfl) rfl rfl (by simp) (by
      intro p hp
      simp only [N_pairing, List.mem_cons, List.not_mem_nil, or_false] at hp
      subst hp
      exact ⟨_, rfl, rfl⟩)
  refine ⟨d, ?_, h2⟩
  refine run_v (ρ := [some (.int size), some (.str w.tx)]) (fn_pairing _ _ _) ?_ rfl
  have gp := gc_app_v st [.dct [(.str w_both, .tup [.str w_match, .str w.tx, .str w_x, .str w_y])]] d (h2.bel _)
  simp [N_pairing] at h1 gp ⊢
  simp [d_pairing, startE]
  rw [mergeD_new _ _ (by simp)]
  simp [h1, gc_len, gp]
/-- the letters of a delay line -/
def lets : List Tx := (w_abcdefghijklmnopqrstuvwyz).map fun c => [c]
def prevL (i : Nat) : Tx := if i = 0 then w_x else lets.getD (i - 1) []
def N_delay (size : Int) (n : Nat) : Net := ⟨size, [w_x], (List.range n).map fun i => (lets.getD i [], .late (prevL i) none)⟩
theorem delay_fine : ∀ n : Nat, n < 21 → ∀ s : Nat, s < 4 → (N_delay (s + 2) n).fineB = true := by decide +kernel
def kv_delay (n : Nat) : List (D × D) := (List.range n).map fun i => (.str (lets.getD i []), .tup [.str w_late, .str (prevL i), .non])
theorem lets_srt : ∀ n : Nat, n < 21 → sortTx ((List.range n).map fun i => lets.getD i []) = (List.range n).map fun i => lets.getD i [] := by decide +kernel
theorem lets_nd : ∀ n : Nat, n < 21 → ((List.range n).map fun i => lets.getD i []).Nodup := by decide +kernel
theorem lets_take : ∀ n : Nat, n < 21 → (w_abcdefghijklmnopqrstuvwyz.take n).map (fun c => D.str [c]) = (List.range n).map fun i => .str (lets.getD i []) := by
  intro n hn
  have : ∀ m : Nat, m < 21 → (w_abcdefghijklmnopqrstuvwyz.take m).map (fun c => [c]) = (List.range m).map fun i => lets.getD i [] := by decide +kernel
  have h := congrArg (List.map D.str) (this n hn)
  rw [List.map_map, List.map_map] at h
  exact h
theorem delay_ok (size : Int) (n : Nat) (h : 2 ≤ size ∧ size ≤ 5) (hn : n ≤ 20) : ∃ d, fun_ defs (k + 8) ix_delay_line [.int size, .int n] st = .ok (.v d) st ∧ NetD d (N_delay size n) := by
  have hfine : (N_delay size n).fineB = true := by
    have := delay_fine n (by omega) (size - 2).toNat (by omega)
    rwa [show ((size - 2).toNat : Int) + 2 = size from by omega] at this
  have hkeys : ∀ m, (kv_delay m).map (·.1) = sD ((List.range m).map fun i => lets.getD i []) := fun m => by simp [kv_delay, sD]
  have gS : ∀ kv, getK (st ++ [MO.dct kv]) st.length = some kv := fun kv => by rw [getK_new0]; rfl
  have loop := frl_inv (F := fun_ defs (k + 7)) (t := .nm 5) (b := b_delay_line_1) (chk := [])
    (fun j ρ S => ∃ e5, j ≤ n ∧ ρ = [some (.int size), some (.int n), some (.str w_abcdefghijklmnopqrstuvwyz), some (.ref st.length), some (.str (prevL j)), e5] ∧ S = st ++ [MO.dct (kv_delay j)])
    ((List.range n).map fun i => .str (lets.getD i []))
    (by
      rintro j d' ρ S hj ⟨e5, hj1, rfl, rfl⟩
      have hjl : j < n := by simpa using (List.getElem?_eq_some_iff.mp hj).1
      have hd' : d' = .str (lets.getD j []) := by
        rw [List.getElem?_map, List.getElem?_range hjl] at hj
        simpa using hj.symm
      subst hd'
      refine ⟨rfl, _, rfl, _, _, .inl ?_, some (.str (lets.getD j [])), by omega, rfl, rfl⟩
      have fl : flatKeys (kv_delay j) = true := by simp [flatKeys, kv_delay]
      have len : (kv_delay j).length < szMax := by simp [kv_delay]; unfold szMax; omega
      have put : putD (kv_delay j) (.str (lets.getD j [])) (.tup [.str w_late, .str (prevL j), .non]) = kv_delay (j + 1) := by
        rw [putD_new]
        · simp [kv_delay, List.range_succ]
        · intro p hp e
          have h1 := lets_nd (j + 1) (by omega)
          rw [List.range_succ, List.map_append, List.nodup_append] at h1
          obtain ⟨i, hi, rfl⟩ := List.mem_map.mp hp
          refine h1.2.2 (lets.getD i []) (List.mem_map.mpr ⟨i, hi, rfl⟩) (lets.getD j []) (by simp) ?_
          injection e
      have pe : prevL (j + 1) = lets.getD j [] := by simp [prevL]
      rw [pe]
      have gS1 := gS (kv_delay j)
      revert put
      generalize lets.getD j [] = x
      generalize kv_delay (j + 1) = K
      intro put
      simp only [w_late] at put
      simp [b_delay_line_1, gS1, askOk, fl, len, put, setO])
    (fun _ _ _ => rfl)
  obtain ⟨ρ', S', f1, e5, _, rfl, rfl⟩ := loop _ _ ⟨none, by omega, rfl, rfl⟩
  simp only [List.length_map, List.length_range] at f1
  obtain ⟨d, h1, h2⟩ := draft_ok (N := N_delay size n) (k := k) (st := st ++ [.dct (kv_delay n)]) hfine (.tup [.str w_x]) [w_x] ((List.range n).map fun i => lets.getD i []) st.length (kv_delay n) rfl rfl (by simp) (gS _) (hkeys n)
    (by rw [lets_srt n (by omega)]; simp [N_delay, Net.cn]) (by simp; omega) (by
      intro p hp
      obtain ⟨i, hi, rfl⟩ := List.mem_map.mp hp
      refine ⟨.tup [.str w_late, .str (prevL i), .non], ?_, rfl⟩
      have hm : (D.str (lets.getD i []), D.tup [.str w_late, .str (prevL i), .non]) ∈ kv_delay n := List.mem_map.mpr ⟨i, hi, rfl⟩
      have hnd : ((kv_delay n).map (·.1)).Nodup := by
        rw [hkeys]
        exact List.Pairwise.map D.str (fun a b hab x => hab (by cases x; rfl)) (lets_nd n (by omega))
      revert hm hnd
      generalize kv_delay n = l
      intro hm hnd
      induction l with
      | nil => cases hm
      | cons q l ih =>
        rw [List.map_cons, List.nodup_cons] at hnd
        rw [lookD]
        rcases List.mem_cons.mp hm with e | e
        · rw [← e]; simp
        · rw [if_neg (fun e2 => hnd.1 (List.mem_map.mpr ⟨_, e, e2.symm⟩))]
          exact ih e hnd.2)
  refine ⟨d, ?_, h2⟩
  refine run_a (os := [.dct (kv_delay n)]) (ρ := [some (.int size), some (.int n), some (.str w_abcdefghijklmnopqrstuvwyz), some (.ref st.length), some (.str (prevL n)), e5]) (fn_delay_line _ _ _) ?_ rfl (h2.bel _)
  have sl : ∀ S : St, p_slT [.v (.str w_abcdefghijklmnopqrstuvwyz), .v (.int n)] S = .ok (.v (.str (w_abcdefghijklmnopqrstuvwyz.take n))) S := fun S => by
    have h0 : w_abcdefghijklmnopqrstuvwyz.length = 25 := rfl
    have h1 : w_abcdefghijklmnopqrstuvwyz.length ≤ szMax := by rw [h0]; unfold szMax; omega
    have h2 : ¬ ((n : Int) < 0) := by omega
    have h3 : min n 25 = n := by omega
    unfold p_slT cutA
    have h25 : 25 ≤ szMax := by unfold szMax; omega
    simp only [h25, if_true, cut, sIx, h2, if_false, h0, Int.toNat_natCast, List.drop_zero, Nat.sub_zero, h3]
  have lt := lets_take n (by omega)
  have m0 : (st ++ [MO.dct (kv_delay 0)]) = st ++ [MO.dct []] := rfl
  rw [m0, show prevL 0 = w_x from rfl, ← lt] at f1
  revert sl f1
  simp only [d_delay_line]
  generalize w_abcdefghijklmnopqrstuvwyz = L
  intro f1 sl
  simp [startE, sl]
  simp [w_x] at f1
  rw [f1]
  have h1' : fun_ defs (k + 7) ix_net_of [D.int size, D.tup [D.str w_x], D.ref (List.length st)] (st ++ [.dct (kv_delay n)]) = .ok (.v d) (st ++ [.dct (kv_delay n)]) := h1
  simp only [w_x] at h1'
  simp [h1', gc_len]
end
end CM
end
section
/-! Q25: what the drafts show. -/
namespace CM
open PM B
theorem ranked_ord {N : Net} {ord : List Tx} (hg : N.Good) (ho : Ord N ord) : Ranked N (fun x => ord.idxOf x) := by
  intro c hc a ha hac
  have hcn : c.1 ∈ N.cn := List.mem_map.mpr ⟨c, hc, rfl⟩
  have hcm := (ho.mem c.1).mpr hcn
  have h1 := idx_get hcm
  rw [form_of hg hc |>.symm] at ha
  rcases ho.top _ _ h1 a ha with h | h
  · exact absurd h (hg.dis a hac)
  · obtain ⟨k, hk, e⟩ := List.mem_iff_getElem.mp h
    have hk2 : k < ord.idxOf c.1 := by simp at hk; omega
    rw [List.getElem_take] at e
    have : ord.idxOf a = k := idx_nd ho.nd (by rw [List.getElem?_eq_getElem (by have := idx_lt hcm; omega), e])
    show ord.idxOf a < ord.idxOf c.1
    omega
/-- what x shows -/
def sg (rows : List Ev) (x : Tx) (i : Nat) : Option Int := evGet (rows.getD i []) x
theorem sg_eq {rows : List Ev} {i : Nat} {e : Ev} (h : rows[i]? = some e) (x : Tx) : sg rows x i = evGet e x := by
  simp [sg, h]
abbrev Tb := List (Tx × Option Int)
/-- a meaning told by a table for each instant -/
def ofTb (t : Nat → Tb) (x : Tx) (i : Nat) : Option Int := ((t i).lookup x).getD none
def cnt (X : Nat → Option Int) : Nat → Nat
  | 0 => if (X 0).isSome then 1 else 0
  | i + 1 => cnt X i + if (X (i + 1)).isSome then 1 else 0
def pre (f : Nat → Int) (v : Int) : Nat → Int
  | 0 => v
  | i + 1 => f i
theorem sem_of (N : Net) (rows : List Ev) (t : Nat → Tb) (hi : ∀ x ∈ N.ins, ∀ i, ofTb t x i = sg rows x i) (hc : ∀ c ∈ N.cells, ∀ i, ofTb t c.1 i = c.2.at N.size (ofTb t) i)
    (hb : ∀ i, ∀ p ∈ t i, bdO N.size p.2) : Sem N rows (ofTb t) where
  inp := fun x hx i e he => by rw [hi x hx i, sg_eq he]
  cel := fun c hcm i _ => hc c hcm i
  bnd := fun x i v _ hv => by
    unfold ofTb at hv
    cases h : (t i).lookup x with
    | none => rw [h] at hv; cases hv
    | some o =>
      rw [h] at hv
      have : (x, o) ∈ t i := by
        revert h
        generalize t i = l
        intro h
        induction l with
        | nil => cases h
        | cons p l ih =>
          obtain ⟨a, b⟩ := p
          rw [List.lookup_cons] at h
          cases e : x == a with
          | true =>
            rw [e] at h
            simp at e h
            subst e h
            exact List.mem_cons_self
          | false =>
            rw [e] at h
            exact List.mem_cons_of_mem _ (ih h)
      exact hb i _ this v hv
def b1 (b : Bool) : Option Int := some (if b then 1 else 0)
/-- the counter -/
def t_counter (size : Int) (X : Nat → Option Int) (i : Nat) : Tb :=
  [(w_x, X i), (w_come, b1 (X i).isSome), (w_one, some 1), (w_past, some (pre (fun j => (cnt X j : Int) % size) 0 i)), (w_step, if (X i).isSome then some 1 else none),
   (w_sum, if (X i).isSome then some ((cnt X i : Int) % size) else none), (w_total, some ((cnt X i : Int) % size))]
theorem counter_held (size : Int) (X : Nat → Option Int) (h : 0 < size) (g : Nat → Option Int) (hg : ∀ i, g i = if (X i).isSome then some ((cnt X i : Int) % size) else none) : ∀ i, lastV g 0 i = (cnt X i : Int) % size
  | 0 => by
    unfold lastV
    rw [hg, cnt]
    cases X 0 <;> simp [cnt]
  | i + 1 => by
    unfold lastV
    rw [hg, counter_held size X h g hg i, cnt]
    cases X (i + 1) <;> simp [cnt]
theorem bd01 {size : Int} (h : 2 ≤ size) (b : Bool) : bdO size (some (if b then 1 else 0)) := fun v hv => by
  cases b <;> simp at hv <;> omega
theorem bdN {size : Int} : bdO size none := fun v hv => by cases hv
theorem bdM {size : Int} (h : 2 ≤ size) (a : Int) : bdO size (some (a % size)) := fun v hv => by
  cases hv; exact ⟨Int.emod_nonneg _ (by omega), Int.emod_lt_of_pos _ (by omega)⟩
theorem bdC {size : Int} (h : 2 ≤ size) (a : Int) (ha : a = 0 ∨ a = 1) : bdO size (some a) := fun v hv => by
  cases hv; omega
theorem bdI {size : Int} {x y : Option Int} {p : Prop} [Decidable p] (hx : bdO size x) (hy : bdO size y) : bdO size (if p then x else y) := by
  split <;> assumption
theorem counter_sem (size : Int) (h : 2 ≤ size) (rows : List Ev) (hX : ∀ i, bdO size (sg rows w_x i)) : Sem (N_counter size) rows (ofTb (t_counter size (sg rows w_x))) := by
  refine sem_of _ _ _ ?_ ?_ ?_
  · intro x hx i
    simp only [N_counter, List.mem_singleton] at hx
    subst hx
    rfl
  · obtain ⟨T, hT⟩ : ∃ T, T = ofTb (t_counter size (sg rows w_x)) := ⟨_, rfl⟩
    rw [← hT]
    have e1 : ∀ i, T w_x i = sg rows w_x i := fun i => by rw [hT]; rfl
    have e2 : ∀ i, T w_come i = some (if (sg rows w_x i).isSome then 1 else 0) := fun i => by rw [hT]; rfl
    have e3 : ∀ i, T w_one i = some 1 := fun i => by rw [hT]; rfl
    have e4 : ∀ i, T w_past i = some (pre (fun j => (cnt (sg rows w_x) j : Int) % size) 0 i) := fun i => by rw [hT]; rfl
    have e5 : ∀ i, T w_step i = if (sg rows w_x i).isSome then some 1 else none := fun i => by rw [hT]; rfl
    have e6 : ∀ i, T w_sum i = if (sg rows w_x i).isSome then some ((cnt (sg rows w_x) i : Int) % size) else none := fun i => by rw [hT]; rfl
    have e7 : ∀ i, T w_total i = some ((cnt (sg rows w_x) i : Int) % size) := fun i => by rw [hT]; rfl
    clear hT
    revert e1 e2 e3 e4 e5 e6 e7
    generalize sg rows w_x = X
    intro e1 e2 e3 e4 e5 e6 e7
    intro c hc i
    simp only [N_counter, List.mem_cons, List.not_mem_nil, or_false] at hc
    rcases hc with rfl | rfl | rfl | rfl | rfl | rfl
    · simp only [Fo.at, Fo.shown, Fo.names, List.map_cons, List.map_nil, e1, e2]
      cases X i <;> rfl
    · simp only [Fo.at, Fo.shown, e3]
    · cases i <;> simp only [Fo.at, e4, e7, pre]
    · simp only [Fo.at, Fo.shown, Fo.names, List.map_cons, List.map_nil, e2, e3, e5]
      cases X i <;> rfl
    · simp only [Fo.at, Fo.names, List.map_cons, List.map_nil, e4, e5, e6]
      cases hx : X i with
      | none => rfl
      | some v =>
        cases i with
        | zero => simp [pre, cnt, hx, Fo.shown, PW.ev, N_counter]
        | succ j =>
          simp [pre, cnt, hx, Fo.shown, PW.ev, N_counter]
          rw [Int.add_comm]
    · have := counter_held size X (by omega) (T w_sum) e6 i
      show _ = some (lastV _ 0 i)
      rw [this, e7]
  · intro i p hp
    have hx := hX i
    simp only [t_counter, List.mem_cons, List.not_mem_nil, or_false] at hp
    have hpre : bdO size (some (pre (fun j => (cnt (sg rows w_x) j : Int) % size) 0 i)) := by
      cases i
      · exact bdC h _ (.inl rfl)
      · exact bdM h _
    rcases hp with rfl | rfl | rfl | rfl | rfl | rfl | rfl
    · exact hx
    · exact bd01 h _
    · exact bdC h _ (.inr rfl)
    · exact hpre
    · exact bdI (bdC h _ (.inr rfl)) bdN
    · exact bdI (bdM h _) bdN
    · exact bdM h _
end CM
end
section
/-! Q26: what the drafts show (printed by sems.py). -/
namespace CM
open PM B

theorem look10 (r : List Int) (v : Int) (h : v = 0 ∨ v = 1) : look ([1, 0] ++ r) v = 1 - v := by
  rcases h with rfl | rfl <;> simp [look]
theorem look1 (n : Nat) (v : Int) (h : 0 ≤ v ∧ v < (n : Int) + 1) : look ([1] ++ List.replicate n 0) v = if v = 0 then 1 else 0 := by
  unfold look
  obtain ⟨m, rfl⟩ : ∃ m : Nat, v = (m : Int) := ⟨v.toNat, by omega⟩
  cases m with
  | zero => simp
  | succ m =>
    have h1 : m < n := by omega
    have h2 : ¬ ((m : Int) + 1 = 0) := by omega
    simp [h1, h2]
theorem lastV_bd {size : Int} (h : 0 < size) (X : Nat → Option Int) (hX : ∀ i, bdO size (X i)) : ∀ i, 0 ≤ lastV X 0 i ∧ lastV X 0 i < size
  | 0 => by
    unfold lastV
    cases e : X 0 with
    | none => simp; omega
    | some v => exact hX 0 v e
  | i + 1 => by
    unfold lastV
    cases e : X (i + 1) with
    | none => exact lastV_bd h X hX i
    | some v => exact hX (i + 1) v e
theorem prevV_bd {size : Int} (h : 0 < size) (X : Nat → Option Int) (hX : ∀ i, bdO size (X i)) (i : Nat) : 0 ≤ prevV X 0 i ∧ prevV X 0 i < size := by
  cases i with
  | zero => simp only [prevV]; omega
  | succ i => exact lastV_bd h X hX i
theorem cnt2 (X : Nat → Option Int) (i : Nat) : ((cnt X i : Int) % 2 = 0 ∨ (cnt X i : Int) % 2 = 1) := by omega
theorem pre2 (X : Nat → Option Int) (i : Nat) : pre (fun j => (cnt X j : Int) % 2) 0 i = 0 ∨ pre (fun j => (cnt X j : Int) % 2) 0 i = 1 := by
  cases i with
  | zero => exact .inl rfl
  | succ i => exact cnt2 X i
def tk (X Y : Nat → Option Int) (i : Nat) : Option Int := if Y i = none ∨ Y i = some 0 then none else some (lastV X 0 i)
def sm (X : Nat → Option Int) : Nat → Int
  | 0 => (X 0).getD 0
  | i + 1 => sm X i + (X (i + 1)).getD 0
theorem sums_held (size : Int) (X : Nat → Option Int) (h : 0 < size) (g : Nat → Option Int) (hg : ∀ i, g i = if (X i).isSome then some (sm X i % size) else none) : ∀ i, lastV g 0 i = sm X i % size
  | 0 => by
    unfold lastV
    rw [hg]
    cases e : X 0 <;> simp [sm, e]
  | i + 1 => by
    unfold lastV
    rw [hg, sums_held size X h g hg i]
    cases e : X (i + 1) <;> simp [sm, e]
def dueB (X Y : Nat → Option Int) : Nat → Bool
  | 0 => true
  | i + 1 => if (X i).isSome || (Y i).isSome then !(dueB X Y i) else dueB X Y i
def nowB (X Y : Nat → Option Int) (i : Nat) : Bool := if (X i).isSome || (Y i).isSome then ((X i).isSome == dueB X Y i) && !((X i).isSome && (Y i).isSome) else true
def okP (X Y : Nat → Option Int) : Nat → Bool
  | 0 => true
  | i + 1 => nowB X Y i && okP X Y i
def bI (b : Bool) : Int := if b then 1 else 0
theorem bI01 (b : Bool) : bI b = 0 ∨ bI b = 1 := by cases b <;> simp [bI]
theorem bdB {size : Int} (h : 2 ≤ size) (b : Bool) : bdO size (some (bI b)) := bdC h _ (bI01 b)

def t_toggle (size : Int) (X : Nat → Option Int) (i : Nat) : Tb := [(w_x, X i), (w_come, some (if (X i).isSome then 1 else 0)), (w_one, some 1), (w_past, some (pre (fun j => (cnt X j : Int) % 2) 0 i)), (w_turned, some (1 - pre (fun j => (cnt X j : Int) % 2) 0 i)), (w_next, if (X i).isSome then some ((cnt X i : Int) % 2) else none), (w_on, some ((cnt X i : Int) % 2))]
theorem toggle_sem (size : Int) (h : 2 ≤ size) (rows : List Ev) (hX : ∀ i, bdO size (sg rows w_x i)) : Sem (N_toggle size) rows (ofTb (t_toggle size (sg rows w_x))) := by
  refine sem_of _ _ _ ?_ ?_ ?_
  · intro x hx i
    simp only [N_toggle, List.mem_singleton] at hx
    subst hx
    rfl
  · obtain ⟨T, hT⟩ : ∃ T, T = ofTb (t_toggle size (sg rows w_x)) := ⟨_, rfl⟩
    rw [← hT]
    have e_x : ∀ i, T w_x i = (sg rows w_x) i := fun i => by rw [hT]; rfl
    have e_come : ∀ i, T w_come i = some (if ((sg rows w_x) i).isSome then 1 else 0) := fun i => by rw [hT]; rfl
    have e_one : ∀ i, T w_one i = some 1 := fun i => by rw [hT]; rfl
    have e_past : ∀ i, T w_past i = some (pre (fun j => (cnt (sg rows w_x) j : Int) % 2) 0 i) := fun i => by rw [hT]; rfl
    have e_turned : ∀ i, T w_turned i = some (1 - pre (fun j => (cnt (sg rows w_x) j : Int) % 2) 0 i) := fun i => by rw [hT]; rfl
    have e_next : ∀ i, T w_next i = if ((sg rows w_x) i).isSome then some ((cnt (sg rows w_x) i : Int) % 2) else none := fun i => by rw [hT]; rfl
    have e_on : ∀ i, T w_on i = some ((cnt (sg rows w_x) i : Int) % 2) := fun i => by rw [hT]; rfl
    clear hT
    revert e_x e_come e_one e_past e_turned e_next e_on hX
    generalize sg rows w_x = X
    intro hX e_x e_come e_one e_past e_turned e_next e_on
    intro c hc i
    simp only [N_toggle, List.mem_cons, List.not_mem_nil, or_false] at hc
    rcases hc with rfl | rfl | rfl | rfl | rfl | rfl
    · simp only [Fo.at, Fo.shown, Fo.names, List.map_cons, List.map_nil, e_x, e_come]
      cases X i <;> rfl
    · simp only [Fo.at, Fo.shown, Fo.names, List.map_cons, List.map_nil, e_turned, e_come, e_next]
      cases hx : X i with
      | none => simp
      | some v =>
        cases i with
        | zero => simp [pre, cnt, hx]
        | succ j =>
          have : ((cnt X j : Int) + 1) % 2 = 1 - (cnt X j : Int) % 2 := by omega
          simp [pre, cnt, hx, this]
    · have := counter_held 2 X (by omega) (T w_next) e_next i
      show _ = some (lastV _ 0 i)
      rw [this, e_on]
    · simp only [Fo.at, Fo.shown, e_one]
    · cases i <;> simp only [Fo.at, e_past, e_on, pre]
    · simp only [Fo.at, Fo.shown, Fo.names, List.map_cons, List.map_nil, e_past, e_turned, Option.map_some]
      rw [look10 _ _ (pre2 X i)]
  · intro i p hp
    have hx := hX i
    simp only [t_toggle, List.mem_cons, List.not_mem_nil, or_false] at hp
    rcases hp with rfl | rfl | rfl | rfl | rfl | rfl | rfl
    · exact hx
    · exact bd01 h _
    · exact bdC h _ (.inr rfl)
    · exact bdC h _ (pre2 _ i)
    · exact bdC h _ (by have := pre2 (sg rows w_x) i; omega)
    · exact bdI (bdC h _ (cnt2 _ i)) bdN
    · exact bdC h _ (cnt2 _ i)
def t_edges (size : Int) (X : Nat → Option Int) (i : Nat) : Tb := [(w_x, X i), (w_was, if X i = none then none else some (prevV X 0 i)), (w_low, if X i = none then none else some (if prevV X 0 i = 0 then 1 else 0)), (w_one, some 1), (w_up, if X i = none ∨ X i = some 0 then none else some 1), (w_rise, if X i = none ∨ X i = some 0 then none else if prevV X 0 i = 0 then some 1 else none)]
theorem edges_sem (size : Int) (h : 2 ≤ size) (rows : List Ev) (hX : ∀ i, bdO size (sg rows w_x i)) : Sem (N_edges size) rows (ofTb (t_edges size (sg rows w_x))) := by
  refine sem_of _ _ _ ?_ ?_ ?_
  · intro x hx i
    simp only [N_edges, List.mem_singleton] at hx
    subst hx
    rfl
  · obtain ⟨T, hT⟩ : ∃ T, T = ofTb (t_edges size (sg rows w_x)) := ⟨_, rfl⟩
    rw [← hT]
    have e_x : ∀ i, T w_x i = (sg rows w_x) i := fun i => by rw [hT]; rfl
    have e_was : ∀ i, T w_was i = if (sg rows w_x) i = none then none else some (prevV (sg rows w_x) 0 i) := fun i => by rw [hT]; rfl
    have e_low : ∀ i, T w_low i = if (sg rows w_x) i = none then none else some (if prevV (sg rows w_x) 0 i = 0 then 1 else 0) := fun i => by rw [hT]; rfl
    have e_one : ∀ i, T w_one i = some 1 := fun i => by rw [hT]; rfl
    have e_up : ∀ i, T w_up i = if (sg rows w_x) i = none ∨ (sg rows w_x) i = some 0 then none else some 1 := fun i => by rw [hT]; rfl
    have e_rise : ∀ i, T w_rise i = if (sg rows w_x) i = none ∨ (sg rows w_x) i = some 0 then none else if prevV (sg rows w_x) 0 i = 0 then some 1 else none := fun i => by rw [hT]; rfl
    clear hT
    revert e_x e_was e_low e_one e_up e_rise hX
    generalize sg rows w_x = X
    intro hX e_x e_was e_low e_one e_up e_rise
    intro c hc i
    simp only [N_edges, List.mem_cons, List.not_mem_nil, or_false] at hc
    rcases hc with rfl | rfl | rfl | rfl | rfl
    · simp only [Fo.at, Fo.shown, Fo.names, List.map_cons, List.map_nil, e_was, e_low]
      have hb := prevV_bd (by omega) X hX i
      cases hx : X i with
      | none => simp
      | some v =>
        simp only [reduceCtorEq, if_false, Option.map_some]
        rw [look1 _ _ (by omega)]
    · simp only [Fo.at, Fo.shown, e_one]
    · simp only [Fo.at, Fo.shown, Fo.names, List.map_cons, List.map_nil, e_up, e_low, e_rise]
      cases hx : X i with
      | none => simp
      | some v =>
        by_cases h0 : v = 0 <;> by_cases h1 : prevV X 0 i = 0 <;> simp [h0, h1]
    · simp only [Fo.at, Fo.shown, Fo.names, List.map_cons, List.map_nil, e_x, e_one, e_up]
    · have hxx : T w_x = X := funext e_x
      simp only [Fo.at, e_was, hxx]
  · intro i p hp
    have hx := hX i
    simp only [t_edges, List.mem_cons, List.not_mem_nil, or_false] at hp
    rcases hp with rfl | rfl | rfl | rfl | rfl | rfl
    · exact hx
    · exact bdI bdN (fun v hv => by cases hv; exact prevV_bd (by omega) _ hX i)
    · exact bdI bdN (bdC h _ (by split <;> simp))
    · exact bdC h _ (.inr rfl)
    · exact bdI bdN (bdC h _ (.inr rfl))
    · exact bdI bdN (bdI (bdC h _ (.inr rfl)) bdN)
def t_latch (size : Int) (X Y : Nat → Option Int) (i : Nat) : Tb := [(w_x, X i), (w_y, Y i), (w_now, some (lastV X 0 i)), (w_taken, tk X Y i), (w_out, some (lastV (tk X Y) 0 i))]
theorem latch_sem (size : Int) (h : 2 ≤ size) (rows : List Ev) (hX : ∀ i, bdO size (sg rows w_x i)) (hY : ∀ i, bdO size (sg rows w_y i)) : Sem (N_latch size) rows (ofTb (t_latch size (sg rows w_x) (sg rows w_y))) := by
  refine sem_of _ _ _ ?_ ?_ ?_
  · intro x hx i
    simp only [N_latch, List.mem_cons, List.not_mem_nil, or_false] at hx
    rcases hx with rfl | rfl <;> rfl
  · obtain ⟨T, hT⟩ : ∃ T, T = ofTb (t_latch size (sg rows w_x) (sg rows w_y)) := ⟨_, rfl⟩
    rw [← hT]
    have e_x : ∀ i, T w_x i = (sg rows w_x) i := fun i => by rw [hT]; rfl
    have e_y : ∀ i, T w_y i = (sg rows w_y) i := fun i => by rw [hT]; rfl
    have e_now : ∀ i, T w_now i = some (lastV (sg rows w_x) 0 i) := fun i => by rw [hT]; rfl
    have e_taken : ∀ i, T w_taken i = tk (sg rows w_x) (sg rows w_y) i := fun i => by rw [hT]; rfl
    have e_out : ∀ i, T w_out i = some (lastV (tk (sg rows w_x) (sg rows w_y)) 0 i) := fun i => by rw [hT]; rfl
    clear hT
    revert e_x e_y e_now e_taken e_out hX hY
    generalize sg rows w_x = X
    generalize sg rows w_y = Y
    intro hX hY e_x e_y e_now e_taken e_out
    intro c hc i
    simp only [N_latch, List.mem_cons, List.not_mem_nil, or_false] at hc
    rcases hc with rfl | rfl | rfl
    · have hxx : T w_x = X := funext e_x
      simp only [Fo.at, e_now, hxx]
    · have hxx : T w_taken = tk X Y := funext e_taken
      simp only [Fo.at, e_out, hxx]
    · simp only [Fo.at, Fo.shown, Fo.names, List.map_cons, List.map_nil, e_now, e_y, e_taken, tk]
  · intro i p hp
    have hx := hX i
    have hy := hY i
    simp only [t_latch, List.mem_cons, List.not_mem_nil, or_false] at hp
    have htk : ∀ i, bdO size (tk (sg rows w_x) (sg rows w_y) i) := fun i => by
      unfold tk
      exact bdI bdN (fun v hv => by cases hv; exact lastV_bd (by omega) _ hX i)
    rcases hp with rfl | rfl | rfl | rfl | rfl
    · exact hx
    · exact hy
    · exact fun v hv => by cases hv; exact lastV_bd (by omega) _ hX i
    · exact htk i
    · exact fun v hv => by cases hv; exact lastV_bd (by omega) _ htk i
def t_sums (size : Int) (X : Nat → Option Int) (i : Nat) : Tb := [(w_x, X i), (w_past, some (pre (fun j => sm X j % size) 0 i)), (w_sum, if (X i).isSome then some (sm X i % size) else none), (w_total, some (sm X i % size))]
theorem sums_sem (size : Int) (h : 2 ≤ size) (rows : List Ev) (hX : ∀ i, bdO size (sg rows w_x i)) : Sem (N_sums size) rows (ofTb (t_sums size (sg rows w_x))) := by
  refine sem_of _ _ _ ?_ ?_ ?_
  · intro x hx i
    simp only [N_sums, List.mem_singleton] at hx
    subst hx
    rfl
  · obtain ⟨T, hT⟩ : ∃ T, T = ofTb (t_sums size (sg rows w_x)) := ⟨_, rfl⟩
    rw [← hT]
    have e_x : ∀ i, T w_x i = (sg rows w_x) i := fun i => by rw [hT]; rfl
    have e_past : ∀ i, T w_past i = some (pre (fun j => sm (sg rows w_x) j % size) 0 i) := fun i => by rw [hT]; rfl
    have e_sum : ∀ i, T w_sum i = if ((sg rows w_x) i).isSome then some (sm (sg rows w_x) i % size) else none := fun i => by rw [hT]; rfl
    have e_total : ∀ i, T w_total i = some (sm (sg rows w_x) i % size) := fun i => by rw [hT]; rfl
    clear hT
    revert e_x e_past e_sum e_total hX
    generalize sg rows w_x = X
    intro hX e_x e_past e_sum e_total
    intro c hc i
    simp only [N_sums, List.mem_cons, List.not_mem_nil, or_false] at hc
    rcases hc with rfl | rfl | rfl
    · cases i <;> simp only [Fo.at, e_past, e_total, pre]
    · simp only [Fo.at, Fo.names, List.map_cons, List.map_nil, e_x, e_past, e_sum]
      cases hx : X i with
      | none => rfl
      | some v =>
        cases i with
        | zero => simp [pre, sm, hx, Fo.shown, PW.ev, N_sums]
        | succ j =>
          simp [pre, sm, hx, Fo.shown, PW.ev, N_sums]
          rw [Int.add_comm]
    · have := sums_held size X (by omega) (T w_sum) e_sum i
      show _ = some (lastV _ 0 i)
      rw [this, e_total]
  · intro i p hp
    have hx := hX i
    simp only [t_sums, List.mem_cons, List.not_mem_nil, or_false] at hp
    rcases hp with rfl | rfl | rfl | rfl
    · exact hx
    · cases i
      · exact bdC h _ (.inl rfl)
      · exact bdM h _
    · exact bdI (bdM h _) bdN
    · exact bdM h _
theorem atM_bd {size : Int} (h : 2 ≤ size) (w : PW) (X Y : Nat → Option Int) (hX : ∀ i, bdO size (X i)) (hY : ∀ i, bdO size (Y i)) (i : Nat) : bdO size (atM size w X Y i) := by
  intro v hv
  simp only [atM] at hv
  split at hv
  · rename_i hlt
    have g : ∀ (Z : Nat → Option Int), (∀ i, bdO size (Z i)) → ∀ m, m < (vals Z (i + 1)).length → 0 ≤ (vals Z (i + 1)).getD m 0 ∧ (vals Z (i + 1)).getD m 0 < size := by
      intro Z hZ m hm
      have e : (vals Z (i + 1)).getD m 0 ∈ vals Z (i + 1) := by
        rw [List.getD_eq_getElem?_getD, List.getElem?_eq_getElem hm]
        exact List.getElem_mem hm
      obtain ⟨j, _, hj⟩ := List.mem_filterMap.mp e
      exact hZ j _ hj
    cases hv
    exact ev_bd w _ _ size h (g X hX _ (by omega)) (g Y hY _ (by omega))
  · cases hv
def t_pairing (size : Int) (w : PW) (X Y : Nat → Option Int) (i : Nat) : Tb := [(w_x, X i), (w_y, Y i), (w_both, atM size w X Y i)]
theorem pairing_sem (size : Int) (w : PW) (h : 2 ≤ size) (rows : List Ev) (hX : ∀ i, bdO size (sg rows w_x i)) (hY : ∀ i, bdO size (sg rows w_y i)) : Sem (N_pairing size w) rows (ofTb (t_pairing size w (sg rows w_x) (sg rows w_y))) := by
  refine sem_of _ _ _ ?_ ?_ ?_
  · intro x hx i
    simp only [N_pairing, List.mem_cons, List.not_mem_nil, or_false] at hx
    rcases hx with rfl | rfl <;> rfl
  · obtain ⟨T, hT⟩ : ∃ T, T = ofTb (t_pairing size w (sg rows w_x) (sg rows w_y)) := ⟨_, rfl⟩
    rw [← hT]
    have e_x : ∀ i, T w_x i = (sg rows w_x) i := fun i => by rw [hT]; rfl
    have e_y : ∀ i, T w_y i = (sg rows w_y) i := fun i => by rw [hT]; rfl
    have e_both : ∀ i, T w_both i = atM size w (sg rows w_x) (sg rows w_y) i := fun i => by rw [hT]; rfl
    clear hT
    revert e_x e_y e_both hX hY
    generalize sg rows w_x = X
    generalize sg rows w_y = Y
    intro hX hY e_x e_y e_both
    intro c hc i
    simp only [N_pairing, List.mem_cons, List.not_mem_nil, or_false] at hc
    subst hc
    · have hxx : T w_x = X := funext e_x
      have hyy : T w_y = Y := funext e_y
      simp only [Fo.at, e_both, hxx, hyy, N_pairing]
  · intro i p hp
    have hx := hX i
    have hy := hY i
    simp only [t_pairing, List.mem_cons, List.not_mem_nil, or_false] at hp
    rcases hp with rfl | rfl | rfl
    · exact hx
    · exact hy
    · exact atM_bd h w _ _ hX hY i
def t_alternation (size : Int) (X Y : Nat → Option Int) (i : Nat) : Tb := [(w_x, X i), (w_y, Y i), (w_cx, some (bI (X i).isSome)), (w_cy, some (bI (Y i).isSome)), (w_any, some (bI ((X i).isSome || (Y i).isSome))), (w_due, some (bI (dueB X Y i))), (w_fits, some (bI ((X i).isSome == dueB X Y i))), (w_flip, some (bI (!(dueB X Y i)))), (w_moved, if (X i).isSome || (Y i).isSome then some (bI (!(dueB X Y i))) else none), (w_turned, some (bI (dueB X Y (i + 1)))), (w_one, some 1), (w_twice, some (bI ((X i).isSome && (Y i).isSome))), (w_alone, some (bI (!((X i).isSome && (Y i).isSome)))), (w_right, some (bI (((X i).isSome == dueB X Y i) && !((X i).isSome && (Y i).isSome)))), (w_judged, if (X i).isSome || (Y i).isSome then some (bI (((X i).isSome == dueB X Y i) && !((X i).isSome && (Y i).isSome))) else none), (w_now, some (bI (nowB X Y i))), (w_past, some (bI (okP X Y i))), (w_ok, some (bI (okP X Y (i + 1))))]
theorem alternation_sem (size : Int) (h : 2 ≤ size) (rows : List Ev) (hX : ∀ i, bdO size (sg rows w_x i)) (hY : ∀ i, bdO size (sg rows w_y i)) : Sem (N_alternation size) rows (ofTb (t_alternation size (sg rows w_x) (sg rows w_y))) := by
  refine sem_of _ _ _ ?_ ?_ ?_
  · intro x hx i
    simp only [N_alternation, List.mem_cons, List.not_mem_nil, or_false] at hx
    rcases hx with rfl | rfl <;> rfl
  · obtain ⟨T, hT⟩ : ∃ T, T = ofTb (t_alternation size (sg rows w_x) (sg rows w_y)) := ⟨_, rfl⟩
    rw [← hT]
    have e_x : ∀ i, T w_x i = (sg rows w_x) i := fun i => by rw [hT]; rfl
    have e_y : ∀ i, T w_y i = (sg rows w_y) i := fun i => by rw [hT]; rfl
    have e_cx : ∀ i, T w_cx i = some (bI ((sg rows w_x) i).isSome) := fun i => by rw [hT]; rfl
    have e_cy : ∀ i, T w_cy i = some (bI ((sg rows w_y) i).isSome) := fun i => by rw [hT]; rfl
    have e_any : ∀ i, T w_any i = some (bI (((sg rows w_x) i).isSome || ((sg rows w_y) i).isSome)) := fun i => by rw [hT]; rfl
    have e_due : ∀ i, T w_due i = some (bI (dueB (sg rows w_x) (sg rows w_y) i)) := fun i => by rw [hT]; rfl
    have e_fits : ∀ i, T w_fits i = some (bI (((sg rows w_x) i).isSome == dueB (sg rows w_x) (sg rows w_y) i)) := fun i => by rw [hT]; rfl
    have e_flip : ∀ i, T w_flip i = some (bI (!(dueB (sg rows w_x) (sg rows w_y) i))) := fun i => by rw [hT]; rfl
    have e_moved : ∀ i, T w_moved i = if ((sg rows w_x) i).isSome || ((sg rows w_y) i).isSome then some (bI (!(dueB (sg rows w_x) (sg rows w_y) i))) else none := fun i => by rw [hT]; rfl
    have e_turned : ∀ i, T w_turned i = some (bI (dueB (sg rows w_x) (sg rows w_y) (i + 1))) := fun i => by rw [hT]; rfl
    have e_one : ∀ i, T w_one i = some 1 := fun i => by rw [hT]; rfl
    have e_twice : ∀ i, T w_twice i = some (bI (((sg rows w_x) i).isSome && ((sg rows w_y) i).isSome)) := fun i => by rw [hT]; rfl
    have e_alone : ∀ i, T w_alone i = some (bI (!(((sg rows w_x) i).isSome && ((sg rows w_y) i).isSome))) := fun i => by rw [hT]; rfl
    have e_right : ∀ i, T w_right i = some (bI ((((sg rows w_x) i).isSome == dueB (sg rows w_x) (sg rows w_y) i) && !(((sg rows w_x) i).isSome && ((sg rows w_y) i).isSome))) := fun i => by rw [hT]; rfl
    have e_judged : ∀ i, T w_judged i = if ((sg rows w_x) i).isSome || ((sg rows w_y) i).isSome then some (bI ((((sg rows w_x) i).isSome == dueB (sg rows w_x) (sg rows w_y) i) && !(((sg rows w_x) i).isSome && ((sg rows w_y) i).isSome))) else none := fun i => by rw [hT]; rfl
    have e_now : ∀ i, T w_now i = some (bI (nowB (sg rows w_x) (sg rows w_y) i)) := fun i => by rw [hT]; rfl
    have e_past : ∀ i, T w_past i = some (bI (okP (sg rows w_x) (sg rows w_y) i)) := fun i => by rw [hT]; rfl
    have e_ok : ∀ i, T w_ok i = some (bI (okP (sg rows w_x) (sg rows w_y) (i + 1))) := fun i => by rw [hT]; rfl
    clear hT
    revert e_x e_y e_cx e_cy e_any e_due e_fits e_flip e_moved e_turned e_one e_twice e_alone e_right e_judged e_now e_past e_ok hX hY
    generalize sg rows w_x = X
    generalize sg rows w_y = Y
    intro hX hY e_x e_y e_cx e_cy e_any e_due e_fits e_flip e_moved e_turned e_one e_twice e_alone e_right e_judged e_now e_past e_ok
    intro c hc i
    simp only [N_alternation, List.mem_cons, List.not_mem_nil, or_false] at hc
    rcases hc with rfl | rfl | rfl | rfl | rfl | rfl | rfl | rfl | rfl | rfl | rfl | rfl | rfl | rfl | rfl | rfl
    · simp only [Fo.at, Fo.shown, Fo.names, List.map_cons, List.map_nil, e_twice, e_alone, Option.map_some]
      rw [look10 _ _ (bI01 _)]
      cases (X i).isSome <;> cases (Y i).isSome <;> rfl
    · simp only [Fo.at, Fo.shown, Fo.names, List.map_cons, List.map_nil, e_cx, e_cy, e_any]
      cases (X i).isSome <;> cases (Y i).isSome <;> rfl
    · simp only [Fo.at, Fo.shown, Fo.names, List.map_cons, List.map_nil, e_x, e_cx]
      cases X i <;> rfl
    · simp only [Fo.at, Fo.shown, Fo.names, List.map_cons, List.map_nil, e_y, e_cy]
      cases Y i <;> rfl
    · cases i <;> simp only [Fo.at, e_due, e_turned]
      rfl
    · simp only [Fo.at, Fo.shown, Fo.names, List.map_cons, List.map_nil, e_cx, e_due, e_fits]
      cases (X i).isSome <;> cases dueB X Y i <;> rfl
    · simp only [Fo.at, Fo.shown, Fo.names, List.map_cons, List.map_nil, e_due, e_flip, Option.map_some]
      rw [look10 _ _ (bI01 _)]
      cases dueB X Y i <;> rfl
    · simp only [Fo.at, Fo.shown, Fo.names, List.map_cons, List.map_nil, e_right, e_any, e_judged]
      cases (X i).isSome <;> cases (Y i).isSome <;> rfl
    · simp only [Fo.at, Fo.shown, Fo.names, List.map_cons, List.map_nil, e_flip, e_any, e_moved]
      cases (X i).isSome <;> cases (Y i).isSome <;> rfl
    · simp only [Fo.at, Fo.shown, Fo.names, List.map_cons, List.map_nil, e_judged, e_one, e_now, nowB]
      cases (X i).isSome <;> cases (Y i).isSome <;> rfl
    · simp only [Fo.at, Fo.shown, Fo.names, List.map_cons, List.map_nil, e_now, e_past, e_ok, okP]
      cases nowB X Y i <;> cases okP X Y i
      all_goals
        show _ = some (_ % size)
        simp only [bI]
        rw [Int.emod_eq_of_lt (by simp) (by simp; omega)]
        rfl
    · simp only [Fo.at, Fo.shown, e_one]
    · cases i <;> simp only [Fo.at, e_past, e_ok]
      rfl
    · simp only [Fo.at, Fo.shown, Fo.names, List.map_cons, List.map_nil, e_fits, e_alone, e_right]
      cases (X i).isSome <;> cases (Y i).isSome <;> cases dueB X Y i
      all_goals
        show _ = some (_ % size)
        simp only [bI]
        rw [Int.emod_eq_of_lt (by simp) (by simp; omega)]
        rfl
    · simp only [Fo.at, Fo.shown, Fo.names, List.map_cons, List.map_nil, e_moved, e_due, e_turned, dueB]
      cases (X i).isSome <;> cases (Y i).isSome <;> cases dueB X Y i <;> rfl
    · simp only [Fo.at, Fo.shown, Fo.names, List.map_cons, List.map_nil, e_cx, e_cy, e_twice]
      cases (X i).isSome <;> cases (Y i).isSome
      all_goals
        show _ = some (_ % size)
        simp only [bI]
        rw [Int.emod_eq_of_lt (by simp) (by simp; omega)]
        rfl
  · intro i p hp
    have hx := hX i
    have hy := hY i
    simp only [t_alternation, List.mem_cons, List.not_mem_nil, or_false] at hp
    rcases hp with rfl | rfl | rfl | rfl | rfl | rfl | rfl | rfl | rfl | rfl | rfl | rfl | rfl | rfl | rfl | rfl | rfl | rfl
    · exact hx
    · exact hy
    · exact bdB h _
    · exact bdB h _
    · exact bdB h _
    · exact bdB h _
    · exact bdB h _
    · exact bdB h _
    · exact bdI (bdB h _) bdN
    · exact bdB h _
    · exact bdC h _ (.inr rfl)
    · exact bdB h _
    · exact bdB h _
    · exact bdB h _
    · exact bdI (bdB h _) bdN
    · exact bdB h _
    · exact bdB h _
    · exact bdB h _
end CM
end
section
namespace CM
open PM B
def dl (X : Nat → Option Int) (j i : Nat) : Option Int := if j < i then X (i - j - 1) else none
def T_delay (X : Nat → Option Int) (x : Tx) (i : Nat) : Option Int := if x = w_x then X i else dl X (lets.idxOf x) i
theorem lets_x : ∀ j : Nat, j < 25 → lets.getD j [] ≠ w_x ∧ lets.idxOf (lets.getD j []) = j := by decide +kernel
theorem T_delay_let (X : Nat → Option Int) (j : Nat) (hj : j < 25) (i : Nat) : T_delay X (lets.getD j []) i = dl X j i := by
  have := lets_x j hj
  rw [T_delay, if_neg this.1, this.2]
theorem delay_sem (size : Int) (n : Nat) (hn : n ≤ 20) (h : 2 ≤ size) (rows : List Ev) (hX : ∀ i, bdO size (sg rows w_x i)) : Sem (N_delay size n) rows (T_delay (sg rows w_x)) where
  inp := fun x hx i e he => by
    simp only [N_delay, List.mem_singleton] at hx
    subst hx
    rw [T_delay, if_pos rfl, sg_eq he]
  cel := fun c hc i _ => by
    obtain ⟨j, hj, rfl⟩ := List.mem_map.mp hc
    have hj := List.mem_range.mp hj
    show T_delay _ (lets.getD j []) i = _
    rw [T_delay_let _ j (by omega)]
    cases i with
    | zero => rfl
    | succ i =>
      show _ = T_delay _ (prevL j) i
      cases j with
      | zero => simp [prevL, T_delay, dl]
      | succ j =>
        have : prevL (j + 1) = lets.getD j [] := by simp [prevL]
        rw [this, T_delay_let _ j (by omega)]
        unfold dl
        by_cases e : j < i
        · rw [if_pos (by omega), if_pos e]
          congr 1
          omega
        · rw [if_neg (by omega), if_neg e]
  bnd := fun x i v _ hv => by
    unfold T_delay dl at hv
    split at hv
    · exact hX i v hv
    · split at hv
      · exact hX _ v hv
      · cases hv
end CM
end
section
/-! Q28: the law's draws. -/
namespace CM
open PM B
section
variable {k : Nat} {st : St}
def dig (l : List Int) : Prop := ∀ v ∈ l, 0 ≤ v ∧ v < 1000003
theorem dig_app {l : List Int} (h : dig l) (a : Int) : dig (l ++ [a % 1000003]) := fun v hv => by
  rcases List.mem_append.mp hv with h1 | h1
  · exact h v h1
  · simp at h1; omega
theorem digits1 (F : FT) (e0 e1 : Option D) : ∀ (ds : List D) (num : Int) (row : List Int) (e4 e5 : Option D), (∀ d ∈ ds, ∃ i : Nat, d = .int i) → dig row → row.length + ds.length ≤ 100 →
    ∃ num' row' e4', frl F (.nm 4) b__law_digits_1 [] ds [e0, e1, some (.int num), some (.ref st.length), e4, e5] (st ++ [MO.lst (iD row)]) = .ok .nx [e0, e1, some (.int num'), some (.ref st.length), e4', e5] (st ++ [MO.lst (iD row')]) ∧ dig row' ∧ row.length ≤ row'.length ∧ row'.length ≤ row.length + ds.length ∧ (ds ≠ [] → row.length < row'.length)
  | [], num, row, e4, e5, _, hr, _ => ⟨num, row, e4, frl_nil rfl, hr, Nat.le_refl _, by simp, fun h => absurd rfl h⟩
  | d :: ds, num, row, e4, e5, hd, hr, hl => by
    obtain ⟨i, rfl⟩ := hd d (by simp)
    have g : getL (st ++ [MO.lst (iD row)]) st.length = some (iD row) := by rw [getL_new0]; rfl
    have hl2 : row.length ≤ 100000 := by simp at hl; omega
    have app : iD row ++ [.int (num % 1000003)] = iD (row ++ [num % 1000003]) := by simp [iD]
    rw [frl_cons (ρ2 := [e0, e1, some (.int num), some (.ref st.length), some (.int i), e5]) rfl rfl]
    by_cases h0 : num / 1000003 = 0
    · refine ⟨num / 1000003, row ++ [num % 1000003], some (.int i), ?_, dig_app hr _, by simp, by simp, fun _ => by simp⟩
      simp [b__law_digits_1, g, hl2, app, h0]
    · obtain ⟨n', r', e', h1, h2, h3, h4, h5⟩ := digits1 F e0 e1 ds (num / 1000003) (row ++ [num % 1000003]) (some (.int i)) e5 (fun d hd' => hd d (by simp [hd'])) (dig_app hr _) (by simp at hl ⊢; omega)
      refine ⟨n', r', e', ?_, h2, by simp at h3; omega, by simp at h4 ⊢; omega, fun _ => by simp at h3; omega⟩
      rw [← h1]
      simp [b__law_digits_1, g, hl2, app, h0]
theorem digits2 (F : FT) (e0 e1 : Option D) (num : Int) : ∀ (ds : List D) (row : List Int) (e4 e5 : Option D), (∀ d ∈ ds, ∃ i : Nat, d = .int i) → dig row → row.length + ds.length ≤ 100 →
    ∃ row' e4' e5', frl F (.nm 4) b__law_digits_2 [] ds [e0, e1, some (.int num), some (.ref st.length), e4, e5] (st ++ [MO.lst (iD row)]) = .ok .nx [e0, e1, some (.int num), some (.ref st.length), e4', e5'] (st ++ [MO.lst (iD row')]) ∧ dig row' ∧ row.length ≤ row'.length ∧ row'.length ≤ row.length + ds.length ∧ (ds ≠ [] → row.length < row'.length)
  | [], row, e4, e5, _, hr, _ => ⟨row, e4, e5, frl_nil rfl, hr, Nat.le_refl _, by simp, fun h => absurd rfl h⟩
  | d :: ds, row, e4, e5, hd, hr, hl => by
    obtain ⟨i, rfl⟩ := hd d (by simp)
    have g : getL (st ++ [MO.lst (iD row)]) st.length = some (iD row) := by rw [getL_new0]; rfl
    have hl2 : row.length ≤ 100000 := by simp at hl; omega
    rw [frl_cons (ρ2 := [e0, e1, some (.int num), some (.ref st.length), some (.int i), e5]) rfl rfl]
    have hm : ∃ m : Int, evSs F b__law_digits_2 [e0, e1, some (.int num), some (.ref st.length), some (.int i), e5] (st ++ [MO.lst (iD row)]) = .ok .nx [e0, e1, some (.int num), some (.ref st.length), some (.int i), some (.int m)] (st ++ [MO.lst (iD (row ++ [(m / 5) % 1000003]))]) := by
      refine ⟨((((num + 11 * i + 3) * 48271) % 2147483647) * 69621 + 37 * i + 5) % 2147483629, ?_⟩
      have app : ∀ m : Int, iD (row ++ [m]) = iD row ++ [.int m] := fun m => by simp [iD]
      rw [app]
      have hRl : (iD row).length ≤ 100000 := by simp; omega
      revert g hRl
      generalize iD row = R
      intro g hRl
      simp [b__law_digits_2, g, hRl]
    obtain ⟨m, hm⟩ := hm
    obtain ⟨r', e4', e5', h1, h2, h3, h4, h5⟩ := digits2 F e0 e1 num ds (row ++ [(m / 5) % 1000003]) (some (.int i)) (some (.int m)) (fun d hd' => hd d (by simp [hd'])) (dig_app hr _) (by simp at hl ⊢; omega)
    refine ⟨r', e4', e5', ?_, h2, by simp at h3; omega, by simp at h4 ⊢; omega, fun _ => by simp at h3; omega⟩
    rw [hm, RS.lp_nx, h1]
theorem digits_ok (c : Int) : ∃ l : List Int, fun_ defs (k + 1) ix__law_digits [.int c, .int 6] st = .ok (.tl (iD l)) st ∧ dig l ∧ 1 ≤ l.length ∧ l.length ≤ 6 := by
  have ran : ∀ d ∈ ranN 6, ∃ i : Nat, d = .int i := fun d hd => by
    obtain ⟨i, _, rfl⟩ := List.mem_map.mp hd
    exact ⟨i, rfl⟩
  have hne : ranN 6 ≠ [] := fun h => by have := congrArg List.length h; simp at this
  have b62 : -big62 ≤ (6 : Int) ∧ (6 : Int) < big62 := by unfold big62; omega
  have pw : p_pow [.v (.int 10), .v (.int 18)] = fun st => .ok (.v (.int 1000000000000000000)) st := by
    funext st
    simp [p_pow, big64]
  obtain ⟨num, hnum⟩ : ∃ num : Int, (if c < 0 then (0 - 1 - c) else c) = num := ⟨_, rfl⟩
  obtain ⟨n1, r1, x1, h1, h2, h3, h4, h5⟩ := digits1 (st := st) (fun_ defs k) (some (.int c)) (some (.int 6)) (ranN 6) num [] none none ran (by intro v hv; cases hv) (by simp)
  obtain ⟨r2, x2, y2, q1, q2, q3, q4, q5⟩ := digits2 (st := st) (fun_ defs k) (some (.int c)) (some (.int 6)) num (ranN 6) [] none none ran (by intro v hv; cases hv) (by simp)
  have mt : (st ++ [MO.lst (iD [])]) = st ++ [MO.lst []] := rfl
  rw [mt] at h1 q1
  by_cases hb : (1000000000000000000 : Int) ≤ num
  · refine ⟨r1, ?_, h2, by have := h5 hne; simp at this; omega, by simpa using h4⟩
    refine run_l (n := 0) (l := iD r1) (os := [MO.lst (iD r1)]) (ρ := [some (.int c), some (.int 6), some (.int n1), some (.ref st.length), x1, none]) (fn__law_digits _ _ _) ?_ rfl rfl (bels_iD _ _)
    by_cases hc : c < 0
    · rw [if_pos hc] at hnum
      simp [d__law_digits, startE, hc, pw]
      have : (-1 - c) = num := by omega
      rw [this]
      simp [hb, b62, h1]
    · rw [if_neg hc] at hnum
      subst hnum
      simp [d__law_digits, startE, hc, pw, hb, b62, h1]
  · refine ⟨r2, ?_, q2, by have := q5 hne; simp at this; omega, by simpa using q4⟩
    refine run_l (n := 0) (l := iD r2) (os := [MO.lst (iD r2)]) (ρ := [some (.int c), some (.int 6), some (.int num), some (.ref st.length), x2, y2]) (fn__law_digits _ _ _) ?_ rfl rfl (bels_iD _ _)
    by_cases hc : c < 0
    · rw [if_pos hc] at hnum
      simp [d__law_digits, startE, hc, pw]
      have : (-1 - c) = num := by omega
      rw [this]
      simp [hb, b62, q1]
    · rw [if_neg hc] at hnum
      subst hnum
      simp [d__law_digits, startE, hc, pw, hb, b62, q1]
/-- the box: what is drawn from, and how far -/
def boxD (r : Nat) (n : Nat) : List (D × D) := [(.str w_row, .ref r), (.str w_at, .int n)]
structure Box (S : St) (b r : Nat) (row : List Int) (n : Nat) : Prop where
  k : getK S b = some (boxD r n)
  r : getL S r = some (iD row)
  ne : 0 < row.length
  le : row.length ≤ 1000
  wf : Wf S
theorem Box.lt {S : St} {b r : Nat} {row : List Int} {n : Nat} (h : Box S b r row n) : r < S.length ∧ b < S.length ∧ b ≠ r := ⟨getL_lt h.r, getK_lt h.k, fun e => by
  have := getL_of_getK h.k
  rw [e, h.r] at this; cases this⟩
theorem boxD_bel {S : St} {b r : Nat} {row : List Int} {n : Nat} (h : Box S b r row n) (m : Nat) : MO.bel S.length (.dct (boxD r m)) = true := by
  simp [MO.bel, kvBelow, boxD, D.bel, h.lt.1]
theorem Box.set {S : St} {b r : Nat} {row : List Int} {n : Nat} (h : Box S b r row n) (m : Nat) : Box (S.set b (.dct (boxD r m))) b r row m where
  k := by rw [getK_set, if_pos ⟨rfl, h.lt.2.1⟩]
  r := by rw [getL_set, if_neg (fun e => h.lt.2.2 e.1)]; exact h.r
  ne := h.ne
  le := h.le
  wf := h.wf.set (boxD_bel h m)
theorem take_ok {S : St} {b r : Nat} {row : List Int} {n : Nat} (h : Box S b r row n) (many : Int) (hm : 0 < many) : ∃ v : Int, 0 ≤ v ∧ v < many ∧ fun_ defs (k + 1) ix__law_take [.ref b, .int many] S = .ok (.v (.int v)) (S.set b (.dct (boxD r (n + 1)))) := by
  have hb := h.k
  have hr := h.r
  have h2 := (h.set (n + 1)).r
  have h3 := (h.set (n + 1)).k
  have hne := h.ne
  have hlen : 0 < (row.length : Int) := by omega
  have hle : (row.length : Int) < 1073741824 := by have := h.le; omega
  have hleN : row.length < 1073741824 := by have := h.le; omega
  obtain ⟨x, hx⟩ : ∃ x : Int, atI (iD row) ((n : Int) % (row.length : Int)) = some (.int x) := by
    have e : (n : Int) % (row.length : Int) = ((n % row.length : Nat) : Int) := by omega
    rw [e]
    exact ⟨_, atI_iD row _ (Nat.mod_lt _ hne)⟩
  refine ⟨(x + 104729 * ((n : Int) / row.length)) % many, Int.emod_nonneg _ (by omega), Int.emod_lt_of_pos _ hm, ?_⟩
  refine run_s (ρ := [some (.ref b), some (.int many), some (.int n), some (.int x)]) (fn__law_take _ _ _) ?_ rfl (by simp)
  have a1 : lookD (boxD r n) (.str w_at) = some (.int n) := by simp [boxD, lookD]
  have a2 : ∀ n, lookD (boxD r n) (.str w_row) = some (.ref r) := fun n => by simp [boxD, lookD]
  have a3 : ∀ n, flatKeys (boxD r n) = true := fun n => by simp [boxD, flatKeys]
  have a4 : putD (boxD r n) (.str w_at) (.int ((n : Int) + 1)) = boxD r (n + 1) := by simp [boxD, putD]
  have a5 : (boxD r n).length < szMax := by simp [boxD, szMax]
  simp only [w_at, w_row] at a1 a2 a4
  simp [d__law_take, startE, hb, askOk, a1, a2, a3, a4, a5, setO, h2, h3, hlen, hle, hx, hm, hne, hleN]
end
end CM
end
section
namespace CM
open PM B
section
variable {k : Nat} {st : St}
theorem add_ref {S : St} {r : Nat} {a b : List D} (h : getL S r = some a) (hl : a.length + b.length ≤ 100000) : p_add [.v (.ref r), .tl b] S = .ok (.tl (a ++ b)) S := by
  have : a.length + b.length ≤ szMax := by unfold szMax; omega
  simp [p_add, addA, tupOf, h, this]
theorem wf_snoc {S : St} (h : Wf S) {o : MO} (ho : ∀ n, MO.bel n o = true) : Wf (S ++ [o]) := h.app (fun x hx => by
  simp only [List.mem_singleton] at hx; subst hx; exact ho _)
theorem box_ok (ns : List Int) (hl : ns.length ≤ 63) : ∃ gs r row, fun_ defs (k + 2) ix__law_box [.fls (ns.map .int)] [] = .ok (.td (boxD r 0)) gs ∧ getL gs r = some (iD row) ∧ 0 < row.length ∧ row.length ≤ 1000 ∧ Wf gs := by
  have loop := frl_inv (F := fun_ defs (k + 1)) (t := .nm 2) (b := b__law_box_1) (chk := [])
    (fun j ρ S => ∃ r row e2, j ≤ ns.length ∧ ρ = [some (.fls (ns.map .int)), some (.ref r), e2] ∧ getL S r = some (iD row) ∧ Wf S ∧ row.length ≤ 6 * j ∧ (0 < j → 0 < row.length))
    (ns.map .int)
    (by
      rintro j d' ρ S hj ⟨r, row, e2, hj1, rfl, hr, hw, h1, h2⟩
      have hjl : j < ns.length := by simpa using (List.getElem?_eq_some_iff.mp hj).1
      obtain ⟨c, rfl⟩ : ∃ c, d' = .int c := by
        obtain ⟨c, _, h⟩ := List.mem_map.mp (List.mem_of_getElem? hj)
        exact ⟨c, h.symm⟩
      refine ⟨rfl, _, rfl, ?_⟩
      obtain ⟨l, d1, d2, d3, d4⟩ := digits_ok (k := k) (st := S) c
      have ad := add_ref (b := iD l) hr (by simp; omega)
      have e : iD row ++ iD l = iD (row ++ l) := by simp [iD]
      rw [e] at ad
      refine ⟨[some (.fls (ns.map .int)), some (.ref S.length), some (.int c)], S ++ [MO.lst (iD (row ++ l))], .inl ?_, S.length, row ++ l, some (.int c), by omega, rfl, by rw [getL_new0]; rfl, wf_snoc hw (fun n => bels_iD _ _), by simp; omega, fun _ => by simp; omega⟩
      revert ad
      generalize iD (row ++ l) = R
      intro ad
      simp [b__law_box_1, d1, gc_len, ad])
    (fun _ _ _ => rfl)
  obtain ⟨ρ', S', f1, r, row, e2, _, rfl, hr, hw, h1, h2⟩ := loop [some (.fls (ns.map .int)), some (.ref 0), none] [MO.lst []] ⟨0, [], none, by omega, rfl, rfl, rfl, by simp, fun h => by omega⟩
  simp only [List.length_map] at h1 h2
  have fin : ∀ (S : St) (r : Nat) (ρ : Env), evSs (fun_ defs (k + 1)) d__law_box.body (startE d__law_box.slots [.fls (ns.map .int)]) [] = .ok (.rt (.td (boxD r 0))) ρ S → r < S.length → fun_ defs (k + 2) ix__law_box [.fls (ns.map .int)] [] = .ok (.td (boxD r 0)) S := fun S r ρ e hlt => by
    rw [fn__law_box, runDf, if_pos (show [D.fls (ns.map .int)].length = d__law_box.pars from rfl), e]
    have : gc [] (.td (boxD r 0)) S = (.td (boxD r 0), S) := by
      unfold gc
      split
      · rfl
      · simp [kvBelow, boxD, D.bel]
    simp [this]
  have it : itemsOf [MO.lst []] (.v (.fls (ns.map .int))) = some (ns.map .int) := rfl
  have ch : chkOf [MO.lst []] (.v (.fls (ns.map .int))) = [] := rfl
  by_cases hz : row.length = 0
  · refine ⟨S' ++ [MO.lst (iD [5, 77, 1031, 40009, 3, 900001, 12])], S'.length, [5, 77, 1031, 40009, 3, 900001, 12], fin _ _ [some (.fls (ns.map .int)), some (.ref S'.length), e2] ?_ (by simp), by rw [getL_new0]; rfl, by simp, by simp, wf_snoc hw (fun n => rfl)⟩
    have hz' : row = [] := List.length_eq_zero_iff.mp hz
    subst hz'
    simp [d__law_box, startE, it, ch]
    rw [f1]
    simp [hr]
    exact ⟨rfl, rfl⟩
  · refine ⟨S', r, row, fin _ _ [some (.fls (ns.map .int)), some (.ref r), e2] ?_ (getL_lt hr), hr, by omega, by omega, hw⟩
    have hz2 : ¬ row = [] := fun h => hz (by rw [h]; rfl)
    simp [d__law_box, startE, it, ch]
    rw [f1]
    simp [hr, hz2]
    rfl
/-- behind a draw -/
def drawn (S : St) (b r m : Nat) : St := S.set b (.dct (boxD r m))
theorem Box.app {S : St} {b r : Nat} {row : List Int} {n : Nat} (h : Box S b r row n) (os : St) (hw : Wf (S ++ os)) : Box (S ++ os) b r row n where
  k := by rw [getK_app h.lt.2.1]; exact h.k
  r := by rw [getL_app h.lt.1]; exact h.r
  ne := h.ne
  le := h.le
  wf := hw
theorem pick_ok {S : St} {b r : Nat} {row : List Int} {n : Nat} (h : Box S b r row n) (rr : Nat) (l : List D) (hl : getL S rr = some l) (hb : b ≠ rr) (h0 : 0 < l.length) : ∃ x ∈ l, fun_ defs (k + 2) ix__law_pick [.ref b, .ref rr] S = .ok (.v x) (drawn S b r (n + 1)) := by
  obtain ⟨v, v1, v2, v3⟩ := take_ok (k := k) h (l.length : Int) (by omega)
  obtain ⟨m, rfl⟩ : ∃ m : Nat, v = (m : Int) := ⟨v.toNat, by omega⟩
  have hm : m < l.length := by omega
  refine ⟨l[m], List.getElem_mem hm, ?_⟩
  have hx := atI_some (List.getElem?_eq_getElem hm)
  have hl2 : getL (S.set b (.dct (boxD r (n + 1)))) rr = some l := by rw [getL_set, if_neg (fun e => hb e.1)]; exact hl
  refine run_s (ρ := [some (.ref b), some (.ref rr)]) (fn__law_pick _ _ _) ?_ rfl (by simp [drawn])
  revert hx
  generalize l[m] = x
  intro hx
  simp [d__law_pick, startE, hl, v3, gc_len, hl2, hx, drawn]
theorem drawn_twice (S : St) (b r m m' : Nat) : drawn (drawn S b r m) b r m' = drawn S b r m' := by simp [drawn]
theorem drawn_self {S : St} {b r : Nat} {row : List Int} {n : Nat} (h : Box S b r row n) : drawn S b r n = S := set_keep (getK_at h.k)
structure EvOk (size : Int) (ins : List Tx) (e : Ev) : Prop where
  sub : List.Sublist (e.map (·.1)) ins
  bd : ∀ p ∈ e, 0 ≤ p.2 ∧ p.2 < size
theorem event_loop {b r : Nat} {row : List Int} (F : FT) (dN di dc : D) (size : Int) (hF : F = fun_ defs (k + 1)) (hs : 0 < size) (hN : tupOf (.v dN) = some [.int size, di, dc]) : ∀ (ins : List Tx) (S : St) (n : Nat) (acc : List D), Box S b r row n → acc.length + ins.length ≤ 100 →
    ∃ (e : Ev) (n' : Nat), lcLoop [] (lcB F (.nm 2) [2] (.cons (.p .gt (.cons (.call ix__law_take (.cons (.var 0) (.cons (.cst (.int 5)) .nil))) (.cons (.cst (.int 1)) .nil))) .nil) (.tup (.cons (.var 2) (.cons (.call ix__law_take (.cons (.var 0) (.cons (.p .ix (.cons (.var 1) (.cons (.cst (.int 0)) .nil))) .nil))) .nil)))
      [some (.ref b), some dN, none]) (sD ins) acc S = .ok (.tl (acc ++ e.map fun p => .tup [.str p.1, .int p.2])) (drawn S b r n') ∧ EvOk size ins e
  | [], S, n, acc, hb, _ => ⟨[], n, by rw [drawn_self hb]; simp [sD, lcLoop], ⟨by simp, by simp⟩⟩
  | x :: ins, S, n, acc, hb, hl => by
    obtain ⟨v, v1, v2, v3⟩ := take_ok (k := k) hb 5 (by omega)
    rw [← hF] at v3
    have hb2 := hb.set (n + 1)
    have hsz : acc.length < szMax := by unfold szMax; simp at hl; omega
    by_cases hv : 1 < v
    · obtain ⟨u, u1, u2, u3⟩ := take_ok (k := k) hb2 size hs
      rw [← hF] at u3
      have hb3 := hb2.set (n + 1 + 1)
      obtain ⟨e, n', q1, q2⟩ := event_loop F dN di dc size hF hs hN ins _ (n + 1 + 1) (acc ++ [.tup [.str x, .int u]]) hb3 (by simp at hl ⊢; omega)
      refine ⟨(x, u) :: e, n', ?_, ⟨by simpa using q2.sub, fun p hp => ?_⟩⟩
      · show lcLoop [] _ (.str x :: sD ins) acc S = _
        rw [lcLoop, if_pos alive_nil]
        have hbd : lcB F (.nm 2) [2] (.cons (.p .gt (.cons (.call ix__law_take (.cons (.var 0) (.cons (.cst (.int 5)) .nil))) (.cons (.cst (.int 1)) .nil))) .nil) (.tup (.cons (.var 2) (.cons (.call ix__law_take (.cons (.var 0) (.cons (.p .ix (.cons (.var 1) (.cons (.cst (.int 0)) .nil))) .nil))) .nil)))
            [some (.ref b), some dN, none] (.str x) S = .ok (some (.tup [.str x, .int u])) ((S.set b (.dct (boxD r (n + 1)))).set b (.dct (boxD r (n + 1 + 1)))) := by
          simp [lcB, v3, gc_len, hv, hN, u3]
        rw [hbd]
        simp only [R.cut_ok, R.bi_ok, hsz, if_true]
        rw [q1]
        simp [drawn]
      · rcases List.mem_cons.mp hp with rfl | hp
        · exact ⟨u1, u2⟩
        · exact q2.bd p hp
    · obtain ⟨e, n', q1, q2⟩ := event_loop F dN di dc size hF hs hN ins _ (n + 1) acc hb2 (by simp at hl ⊢; omega)
      refine ⟨e, n', ?_, ⟨q2.sub.cons _, q2.bd⟩⟩
      show lcLoop [] _ (.str x :: sD ins) acc S = _
      rw [lcLoop, if_pos alive_nil]
      have hbd : lcB F (.nm 2) [2] (.cons (.p .gt (.cons (.call ix__law_take (.cons (.var 0) (.cons (.cst (.int 5)) .nil))) (.cons (.cst (.int 1)) .nil))) .nil) (.tup (.cons (.var 2) (.cons (.call ix__law_take (.cons (.var 0) (.cons (.p .ix (.cons (.var 1) (.cons (.cst (.int 0)) .nil))) .nil))) .nil)))
          [some (.ref b), some dN, none] (.str x) S = .ok none (S.set b (.dct (boxD r (n + 1)))) := by
        simp [lcB, v3, gc_len, hv]
      rw [hbd]
      simp only [R.cut_ok, R.bi_ok]
      rw [q1]
      simp [drawn]
theorem event_ok {S : St} {b r : Nat} {row : List Int} {n : Nat} (h : Box S b r row n) (dN : D) (N : Net) (hN : NetD dN N) (hs : 0 < N.size) (hi : N.ins.length ≤ 100) :
    ∃ e n', fun_ defs (k + 2) ix__law_event [.ref b, dN] S = .ok (.v (evD e)) (drawn S b r n') ∧ EvOk N.size N.ins e := by
  obtain ⟨di, dc, cs, e1, e2, e3, _⟩ := hN
  obtain ⟨e, n', q1, q2⟩ := event_loop (k := k) _ dN di dc N.size rfl hs e1 N.ins S n [] h (by simp; omega)
  refine ⟨e, n', ?_, q2⟩
  refine run_s (ρ := [some (.ref b), some dN, none]) (fn__law_event _ _ _) ?_ rfl (by simp [drawn])
  simp [d__law_event, startE, e1, e2, q1, evD]
theorem rows_loop {b r : Nat} {row : List Int} (dN : D) (N : Net) (hN : NetD dN N) (hs : 0 < N.size) (hi : N.ins.length ≤ 100) (many : D) : ∀ (ds : List D) (S : St) (n : Nat) (acc : List D), Box S b r row n → acc.length + ds.length ≤ 1000 →
    ∃ (rows : List Ev) (n' : Nat), lcLoop [] (lcB (fun_ defs (k + 2)) (.nm 3) [3] .nil (.call ix__law_event (.cons (.var 0) (.cons (.var 1) .nil))) [some (.ref b), some dN, some many, none]) ds acc S = .ok (.tl (acc ++ rows.map evD)) (drawn S b r n') ∧ rows.length = ds.length ∧ ∀ e ∈ rows, EvOk N.size N.ins e
  | [], S, n, acc, hb, _ => ⟨[], n, by rw [drawn_self hb]; simp [lcLoop], rfl, by simp⟩
  | d :: ds, S, n, acc, hb, hl => by
    obtain ⟨e, n1, q1, q2⟩ := event_ok (k := k) hb dN N hN hs hi
    have hsz : acc.length < szMax := by unfold szMax; simp at hl; omega
    obtain ⟨rows, n2, p1, p2, p3⟩ := rows_loop dN N hN hs hi many ds (drawn S b r n1) n1 (acc ++ [evD e]) (hb.set n1) (by simp at hl ⊢; omega)
    refine ⟨e :: rows, n2, ?_, by simp [p2], fun x hx => ?_⟩
    · rw [lcLoop, if_pos alive_nil]
      have hbd : lcB (fun_ defs (k + 2)) (.nm 3) [3] .nil (.call ix__law_event (.cons (.var 0) (.cons (.var 1) .nil))) [some (.ref b), some dN, some many, none] d S = .ok (some (evD e)) (drawn S b r n1) := by
        simp [lcB, q1, gc_len, drawn]
      rw [hbd]
      simp only [R.cut_ok, R.bi_ok, hsz, if_true]
      rw [p1, drawn_twice]
      simp
    · rcases List.mem_cons.mp hx with rfl | hx
      · exact q2
      · exact p3 x hx
theorem rows_ok {S : St} {b r : Nat} {row : List Int} {n : Nat} (h : Box S b r row n) (dN : D) (N : Net) (hN : NetD dN N) (hs : 0 < N.size) (hi : N.ins.length ≤ 100) (many : Nat) (hm : many ≤ 1000) :
    ∃ (rows : List Ev) (n' : Nat), fun_ defs (k + 3) ix__law_rows [.ref b, dN, .int many] S = .ok (.v (.ktp (rows.map evD))) (drawn S b r n') ∧ rows.length = many ∧ ∀ e ∈ rows, EvOk N.size N.ins e := by
  obtain ⟨rows, n', p1, p2, p3⟩ := rows_loop (k := k) dN N hN hs hi (.int many) (ranN many) S n [] h (by simp; omega)
  refine ⟨rows, n', ?_, by simpa using p2, p3⟩
  have b62 : -big62 ≤ (many : Int) ∧ (many : Int) < big62 := by unfold big62; omega
  refine run_s (ρ := [some (.ref b), some dN, some (.int many), none]) (fn__law_rows _ _ _) ?_ rfl (by simp [drawn])
  simp only [List.nil_append] at p1
  generalize rows.map evD = R at p1
  simp [d__law_rows, startE, b62, p1]
theorem lpaired_ok (w : PW) (x y size : Int) (h : 0 < size) (hx : 0 ≤ x ∧ x < 5) : fun_ defs (k + 1) ix__law_paired [.str w.tx, .int x, .int y, .int size] st = .ok (.v (.int (w.ev x y size))) st := by
  have hm : -1000000 < x ∧ x < 1000000 := by omega
  refine run_v (ρ := [some (.str w.tx), some (.int x), some (.int y), some (.int size)]) (fn__law_paired _ _ _) ?_ rfl
  cases w <;> simp [d__law_paired, startE, PW.tx, h, PW.ev, hm]
end
end CM
end
section
/-! Q30: the law, statement by statement (printed by law1.py). -/
namespace CM
open PM B
section

theorem lc_fn {α : Type} (f g : α → D) (S : St) (chk : Chk) (hc : alive chk S = true) (body : D → St → R (Option D)) : ∀ (l : List α) (acc : List D), (∀ a ∈ l, body (f a) S = .ok (some (g a)) S) → acc.length + l.length ≤ 10000 →
    lcLoop chk body (l.map f) acc S = .ok (.tl (acc ++ l.map g)) S
  | [], acc, _, _ => by simp [lcLoop, hc]
  | a :: l, acc, h, hl => by
    have hs : acc.length < szMax := by unfold szMax; simp at hl; omega
    rw [List.map_cons, lcLoop, if_pos hc, h a (by simp)]
    simp only [R.cut_ok, R.bi_ok, hs, if_true]
    rw [lc_fn f g S chk hc body l _ (fun b hb => h b (by simp [hb])) (by simp at hl ⊢; omega)]
    simp
theorem lc_ran (m : Nat) (g : Nat → D) (S : St) (body : D → St → R (Option D)) (hb : ∀ i, i < m → body (.int (i : Int)) S = .ok (some (g i)) S) (hm : m ≤ 1000) : lcLoop [] body (ranN m) [] S = .ok (.tl ((List.range m).map g)) S := by
  unfold ranN
  rw [lc_fn (fun (i : Nat) => D.int (i : Int)) g S [] rfl body _ [] (fun i hi => hb i (List.mem_range.mp hi)) (by simp; omega)]
  rfl
theorem toPs_refl {st : St} {n : Nat} {l : List D} (h : ∀ d ∈ l, ∃ p, toP st n d = some p) : ∃ ps, toPs (toP st n) l = some ps := by
  induction l with
  | nil => exact ⟨[], rfl⟩
  | cons d l ih =>
    obtain ⟨p, hp⟩ := h d (by simp)
    obtain ⟨ps, hps⟩ := ih fun e he => h e (by simp [he])
    exact ⟨p :: ps, by simp [toPs, hp, hps]⟩
mutual
theorem P.eqv_refl : ∀ p : P, P.eqv p p = true
  | .non => rfl
  | .bl b => by simp [P.eqv]
  | .int i => by simp [P.eqv]
  | .str s => by simp [P.eqv]
  | .lst l => by simp only [P.eqv]; exact P.eqvs_refl l
  | .tup l => by simp only [P.eqv]; exact P.eqvs_refl l
theorem P.eqvs_refl : ∀ l : List P, P.eqvs l l = true
  | [] => rfl
  | p :: l => by simp only [P.eqvs, P.eqv_refl p, P.eqvs_refl l, Bool.and_self]
end
theorem toP_oD (st : St) (n : Nat) (x : Option Int) : ∃ p, toP st n (oD x) = some p := by
  cases x with
  | none => cases n <;> exact ⟨_, rfl⟩
  | some v => cases n <;> exact ⟨_, rfl⟩
/-- == of what is shown -/
theorem eq_shown (st : St) (l : List (Option Int)) : eqA st (.v (.ktp (l.map oD))) (.v (.ktp (l.map oD))) = some true := by
  obtain ⟨ps, h⟩ := toPs_refl (st := st) (n := 39) (l := l.map oD) (fun d hd => by obtain ⟨x, _, rfl⟩ := List.mem_map.mp hd; exact toP_oD _ _ _)
  have e : toP st eqN (.ktp (l.map oD)) = some (.tup ps) := by simp [toP, eqN, h]
  simp [eqA, toPA, e, P.eqv_refl]
theorem eq_moms (st : St) (N : Net) (T : Tx → Nat → Option Int) (m : Nat) : eqA st (.v (momsD N T m)) (.v (momsD N T m)) = some true := by
  have h1 : ∀ j, ∃ p, toP st 39 (momD N T j) = some p := fun j => by
    obtain ⟨ps, h⟩ := toPs_refl (st := st) (n := 38) (l := N.cn.map fun n => oD (T n j)) (fun d hd => by obtain ⟨x, _, rfl⟩ := List.mem_map.mp hd; exact toP_oD _ _ _)
    exact ⟨.tup ps, by simp [momD, toP, h]⟩
  obtain ⟨ps, h⟩ := toPs_refl (st := st) (n := 39) (l := (List.range m).map (momD N T)) (fun d hd => by obtain ⟨x, _, rfl⟩ := List.mem_map.mp hd; exact h1 x)
  have e : toP st eqN (momsD N T m) = some (.tup ps) := by simp [momsD, toP, eqN, h]
  simp [eqA, toPA, e, P.eqv_refl]
theorem hist_eq (T : Tx → Nat → Option Int) (x : Tx) (m : Nat) : histD T x m = .ktp (((List.range m).map (T x)).map oD) := by simp [histD]
theorem tupOf_evD (e : Ev) : tupOf (.v (evD e)) = some (e.map fun p => .tup [.str p.1, .int p.2]) := (rfl)
/-- only what x shows -/
def onlyX (e : Ev) : Ev := e.filter fun p => decide (p.1 = w_x)
theorem onlyX_get (e : Ev) : evGet (onlyX e) w_x = evGet e w_x := by
  unfold evGet onlyX
  induction e with
  | nil => rfl
  | cons p e ih =>
    obtain ⟨a, c⟩ := p
    rw [List.filter_cons, List.lookup_cons]
    by_cases h : a = w_x
    · subst h; simp
    · have h1 : (w_x == a) = false := by simp; intro e2; exact h e2.symm
      simp only [h, decide_false, h1]
      exact ih
theorem evOk_nd {size : Int} {ins : List Tx} {e : Ev} (h : EvOk size ins e) (hn : ins.Nodup) : (e.map (·.1)).Nodup := h.sub.nodup hn
theorem evOk_get {size : Int} {ins : List Tx} {e : Ev} (h : EvOk size ins e) (x : Tx) : bdO size (evGet e x) := by
  intro v hv
  unfold evGet at hv
  have : (x, v) ∈ e := by
    revert hv
    generalize e = l
    intro hv
    induction l with
    | nil => cases hv
    | cons p l ih =>
      obtain ⟨a, c⟩ := p
      rw [List.lookup_cons] at hv
      cases e2 : x == a with
      | true =>
        rw [e2] at hv
        simp at e2 hv
        subst e2 hv
        exact List.mem_cons_self
      | false =>
        rw [e2] at hv
        exact List.mem_cons_of_mem _ (ih hv)
  exact h.bd _ this
end
section
variable {k : Nat} {st : St} {sc dr d1 : D} {xs ys cs ds : List D} {b : Nat} {size : Int} {w : PW} {n : Nat} {rows : List Ev}

theorem law_8 (S : St) (hdr : IsT dr (rows.map evD)) (hr : rows.length ≤ 100) (hlen : ∀ e ∈ rows, e.length ≤ 100) (hxy : ∀ e ∈ rows, ∀ p ∈ e, p.1 = w_x ∨ p.1 = w_y) : evS (fun_ defs (k + 100)) s_law_8 [some sc, some (.ref b), some (.int size), some (.str w.tx), some (.int n), some (.ref st.length), none, some dr, none, none, none, none, none, none, none, none, none, none, none, none, none, none, none, none, none, none, none, none, none, none, none, none, none] S = .ok .nx [some sc, some (.ref b), some (.int size), some (.str w.tx), some (.int n), some (.ref st.length), none, some dr, some (.ktp ((rows.map onlyX).map evD)), none, none, none, none, none, none, none, none, none, none, none, none, none, none, none, none, none, none, none, none, none, none, none, none] S := by
  have inner : ∀ (e : Ev) (body : D → St → R (Option D)), e.length ≤ 100 → (∀ p ∈ e, body (.tup [.str p.1, .int p.2]) S = .ok (if p.1 = w_x then some (.tup [.str p.1, .int p.2]) else none) S) →
      lcLoop [] body (e.map fun p => .tup [.str p.1, .int p.2]) [] S = .ok (.tl ((onlyX e).map fun p => .tup [.str p.1, .int p.2])) S := fun e body hl hb => by
    have gen : ∀ (l : Ev) (acc : List D), (∀ p ∈ l, p ∈ e) → acc.length + l.length ≤ 100 → lcLoop [] body (l.map fun p => .tup [.str p.1, .int p.2]) acc S = .ok (.tl (acc ++ (onlyX l).map fun p => .tup [.str p.1, .int p.2])) S := by
      intro l
      induction l with
      | nil => intro acc _ _; simp [lcLoop, onlyX]
      | cons p l ih =>
        intro acc h1 h2
        have hs : acc.length < szMax := by unfold szMax; simp at h2; omega
        rw [List.map_cons, lcLoop, if_pos alive_nil, hb p (h1 p (by simp))]
        by_cases hx : p.1 = w_x
        · simp only [R.cut_ok, R.bi_ok, hx, if_true, hs]
          rw [← hx, ih _ (fun q hq => h1 q (by simp [hq])) (by simp at h2 ⊢; omega)]
          simp [onlyX, hx]
        · simp only [R.cut_ok, R.bi_ok, hx, if_false]
          rw [ih _ (fun q hq => h1 q (by simp [hq])) (by simp at h2 ⊢; omega)]
          have hx' : ¬ p.1 = [120] := hx
          simp [onlyX, hx']
    have := gen e [] (fun _ h => h) (by simpa using hl)
    simpa using this
  simp [s_law_8, hdr]
  rw [lc_fn evD (fun e => evD (onlyX e)) S [] rfl _ rows [] (fun e he => by
    simp [lcB, tupOf_evD]
    rw [inner e _ (hlen e he) (fun p hp => by
      rcases hxy e he p hp with h | h <;> simp [lcB, h])]
    simp [evD]) (by simp; omega)]
  simp

def sgD (rows : List Ev) (x : Tx) : List D := ((List.range rows.length).map (sg rows x)).map oD
theorem sgD_eq (rows : List Ev) (x : Tx) : sgD rows x = rows.map fun e => oD (evGet e x) := by
  unfold sgD
  rw [List.map_map]
  exact (map_range rows (fun e => oD (evGet e x)) _ fun i e he => by simp [sg_eq he]).symm
theorem law_9 (hdr : IsT dr (rows.map evD)) (hr : rows.length ≤ 100) (hnd : ∀ e ∈ rows, (e.map (·.1)).Nodup) : evS (fun_ defs (k + 100)) s_law_9 [some sc, some (.ref b), some (.int size), some (.str w.tx), some (.int n), some (.ref st.length), none, some dr, some d1, none, none, none, none, none, none, none, none, none, none, none, none, none, none, none, none, none, none, none, none, none, none, none, none] (st ++ [MO.lst ds]) = .ok .nx [some sc, some (.ref b), some (.int size), some (.str w.tx), some (.int n), some (.ref st.length), none, some dr, some d1, some (.ref (st.length + 1)), some (.ref (st.length + 2)), none, none, none, none, none, none, none, none, none, none, none, none, none, none, none, none, none, none, none, none, none, none] (st ++ [MO.lst ds, MO.lst (sgD rows w_x), MO.lst (sgD rows w_y)]) := by
  have lc : ∀ (S : St) (x : Tx) (body : D → St → R (Option D)), (∀ e ∈ rows, body (evD e) S = .ok (some (oD (evGet e x))) S) → lcLoop [] body (rows.map evD) [] S = .ok (.tl (sgD rows x)) S := fun S x body hb => by
    rw [lc_fn evD (fun e => oD (evGet e x)) S [] rfl body rows [] hb (by simp; omega), sgD_eq]; rfl
  simp [s_law_9, hdr, -w_x, -w_y]
  rw [lc _ w_x _ (fun e he => by simp [lcB, dct_ev e (hnd e he), evK_flat, evK_look, -w_x, -w_y])]
  simp [hdr, -w_x, -w_y]
  rw [lc _ w_y _ (fun e he => by simp [lcB, dct_ev e (hnd e he), evK_flat, evK_look, -w_x, -w_y])]
  simp [-w_x, -w_y]
theorem cut_take (l : List D) (m : Nat) (h : m ≤ l.length) : cut l none (some (m : Int)) = l.take m := by
  have : ¬ ((m : Int) < 0) := by omega
  simp [cut, sIx, this]
theorem cnt_take (X : Nat → Option Int) (m i : Nat) (h : i < m) : ((((List.range m).map X).map oD).take (i + 1)).filter (fun d => !decide (d = .non)) = iD (((List.range (i + 1)).filterMap X)) := by
  rw [← List.map_take, ← List.map_take, List.take_range, Nat.min_eq_left (by omega)]
  generalize List.range (i + 1) = l
  induction l with
  | nil => rfl
  | cons a l ih =>
    simp only [List.map_map] at ih
    simp only [List.map_cons, List.filterMap_cons]
    cases h : X a with
    | none => simpa using ih
    | some v => simpa [iD] using ih
theorem cnt_len (X : Nat → Option Int) : ∀ i, ((List.range (i + 1)).filterMap X).length = cnt X i
  | 0 => by cases h : X 0 <;> simp [cnt, h]
  | i + 1 => by
    rw [List.range_succ, List.filterMap_append, List.length_append, cnt_len X i, cnt]
    cases h : X (i + 1) <;> simp [h]
theorem filt_ok (l : List D) (S : St) (F : FT) (ρ : Env) (hl : l.length ≤ 1000) (h12 : 12 < ρ.length) : lcLoop [] (lcB F (.nm 12) [12] (.cons (.p .ntN (.cons (.var 12) .nil)) .nil) (.var 12) ρ) l [] S = .ok (.tl (l.filter fun d => !decide (d = .non))) S := by
  have gen : ∀ (m : List D) (acc : List D), acc.length + m.length ≤ 1000 → lcLoop [] (lcB F (.nm 12) [12] (.cons (.p .ntN (.cons (.var 12) .nil)) .nil) (.var 12) ρ) m acc S = .ok (.tl (acc ++ m.filter fun d => !decide (d = .non))) S := by
    intro m
    induction m with
    | nil => intro acc _; simp [lcLoop]
    | cons d m ih =>
      intro acc h
      have hs : acc.length < szMax := by unfold szMax; simp at h; omega
      have e : ((ρ.set 12 none).set 12 (some d))[12]? = some (some d) := by simp [h12]
      rw [lcLoop, if_pos alive_nil]
      have hb : lcB F (.nm 12) [12] (.cons (.p .ntN (.cons (.var 12) .nil)) .nil) (.var 12) ρ d S = .ok (if d = .non then none else some d) S := by
        simp only [lcB, wipeE_cons, wipeE_nil, assignP_nm, evTs_cons, evE_p, evEs_cons, evEs_nil]
        rw [evE_var 12 _ e]
        by_cases hd : d = .non
        · simp [hd]
        · simp [hd]
          rw [evE_var 12 _ (by simpa using e)]
          simp
      rw [hb]
      by_cases hd : d = .non
      · simp only [hd, if_true, R.cut_ok, R.bi_ok]
        rw [ih acc (by simp at h ⊢; omega)]
        simp
      · simp only [hd, if_false, R.cut_ok, R.bi_ok, hs, if_true]
        rw [ih _ (by simp at h ⊢; omega)]
        simp [hd]
  simpa using gen l [] (by simpa using hl)
theorem law_10 (hr : rows.length ≤ 100) (hx : xs = sgD rows w_x) : evS (fun_ defs (k + 100)) s_law_10 [some sc, some (.ref b), some (.int size), some (.str w.tx), some (.int n), some (.ref st.length), none, some dr, some d1, some (.ref (st.length + 1)), some (.ref (st.length + 2)), none, none, none, none, none, none, none, none, none, none, none, none, none, none, none, none, none, none, none, none, none, none] (st ++ [MO.lst ds, MO.lst xs, MO.lst ys]) = .ok .nx [some sc, some (.ref b), some (.int size), some (.str w.tx), some (.int n), some (.ref st.length), none, some dr, some d1, some (.ref (st.length + 1)), some (.ref (st.length + 2)), none, none, some (.ref (st.length + 3)), none, none, none, none, none, none, none, none, none, none, none, none, none, none, none, none, none, none, none] (st ++ [MO.lst ds, MO.lst xs, MO.lst ys, MO.lst ((List.range rows.length).map fun i => .int (cnt (sg rows w_x) i : Int))]) := by
  have g1 : getL (st ++ [MO.lst ds, MO.lst xs, MO.lst ys]) (st.length + 1) = some xs := by rw [getL_new]; rfl
  have hl : xs.length = rows.length := by rw [hx]; simp [sgD]
  have b62 : -big62 ≤ (rows.length : Int) ∧ (rows.length : Int) < big62 := by unfold big62; omega
  simp [s_law_10, g1, hl, b62]
  rw [lc_ran rows.length (fun i => .int (cnt (sg rows w_x) i : Int)) _ _ (fun i hi => by
    have hc := cut_take xs (i + 1) (by omega)
    have h3 : ((i + 1 : Nat) : Int) = (i : Int) + 1 := by omega
    rw [h3] at hc
    have h4 := cnt_take (sg rows w_x) rows.length i hi
    have h5 := cnt_len (sg rows w_x) i
    have h6 : xs = ((List.range rows.length).map (sg rows w_x)).map oD := hx
    rw [← h6] at h4
    simp [lcB, g1, hc, -w_x]
    rw [filt_ok _ _ _ _ (by simp; omega) (by simp), h4]
    simp [h5, -w_x]) (by omega)]
  simp
end
end CM
end
section
/-! Q31: the law, statement by statement (printed by law2.py). -/
namespace CM
open PM B
section
variable {k : Nat} {st : St} {sc dr d1 n0 n1 n2 n3 n4 n5 n6 n7 : D} {xs ys cs : List D} {b : Nat} {size : Int} {w : PW} {n : Nat} {rows : List Ev}
/-- what a call of history gives -/
def His (k : Nat) (d r : D) (x : Tx) (m : Nat) (g : Nat → Option Int) : Prop := ∀ S, Wf S → fun_ defs (k + 100) ix_history [d, r, .str x] S = .ok (.v (.ktp (((List.range m).map g).map oD))) S
theorem law_11 (hw : Wf (st ++ [MO.lst [n0, n1, n2, n3, n4, n5, n6, n7], MO.lst xs, MO.lst ys, MO.lst cs])) (hm : rows.length ≤ 100) (hcs : cs = (List.range rows.length).map fun i => .int (cnt (sg rows w_x) i : Int)) (hsz : 0 < size)
    (h0 : His k n0 d1 w_total rows.length fun j => some ((cnt (sg rows w_x) j : Int) % size)) (h1 : His k n1 d1 w_on rows.length fun j => some ((cnt (sg rows w_x) j : Int) % 2)) :
    evS (fun_ defs (k + 100)) s_law_11 [some sc, some (.ref b), some (.int size), some (.str w.tx), some (.int n), some (.ref st.length), none, some dr, some d1, some (.ref (st.length + 1)), some (.ref (st.length + 2)), none, none, some (.ref (st.length + 3)), none, none, none, none, none, none, none, none, none, none, none, none, none, none, none, none, none, none, none] (st ++ [MO.lst [n0, n1, n2, n3, n4, n5, n6, n7], MO.lst xs, MO.lst ys, MO.lst cs]) = .ok .nx [some sc, some (.ref b), some (.int size), some (.str w.tx), some (.int n), some (.ref st.length), none, some dr, some d1, some (.ref (st.length + 1)), some (.ref (st.length + 2)), none, none, some (.ref (st.length + 3)), none, none, none, none, none, none, none, none, none, none, none, none, none, none, none, none, none, none, none] (st ++ [MO.lst [n0, n1, n2, n3, n4, n5, n6, n7], MO.lst xs, MO.lst ys, MO.lst cs]) := by
  have g0 : getL (st ++ [MO.lst [n0, n1, n2, n3, n4, n5, n6, n7], MO.lst xs, MO.lst ys, MO.lst cs]) st.length = some [n0, n1, n2, n3, n4, n5, n6, n7] := by rw [getL_new0]; rfl
  have g3 : getL (st ++ [MO.lst [n0, n1, n2, n3, n4, n5, n6, n7], MO.lst xs, MO.lst ys, MO.lst cs]) (st.length + 3) = some cs := by rw [getL_new]; rfl
  have ch := chkOf_lst g3
  have lc : ∀ (q : Int), 0 < q → ∀ body : D → St → R (Option D), (∀ i : Nat, body (.int (i : Int)) (st ++ [MO.lst [n0, n1, n2, n3, n4, n5, n6, n7], MO.lst xs, MO.lst ys, MO.lst cs]) = .ok (some (.int ((i : Int) % q))) (st ++ [MO.lst [n0, n1, n2, n3, n4, n5, n6, n7], MO.lst xs, MO.lst ys, MO.lst cs])) → lcLoop [(st.length + 3, .lst cs)] body cs [] (st ++ [MO.lst [n0, n1, n2, n3, n4, n5, n6, n7], MO.lst xs, MO.lst ys, MO.lst cs]) = .ok (.tl (((List.range rows.length).map fun j => some ((cnt (sg rows w_x) j : Int) % q)).map oD)) (st ++ [MO.lst [n0, n1, n2, n3, n4, n5, n6, n7], MO.lst xs, MO.lst ys, MO.lst cs]) := fun q hq body hb => by
    conv => lhs; arg 3; rw [hcs]
    rw [lc_fn (fun i => D.int (cnt (sg rows w_x) i : Int)) (fun i => .int ((cnt (sg rows w_x) i : Int) % q)) _ _ (alive_lst g3) body _ [] (fun i hi => hb _) (by simp; omega)]
    simp
  have r0 := h0 _ hw
  have r1 := h1 _ hw
  have q0 := eq_shown (st ++ [MO.lst [n0, n1, n2, n3, n4, n5, n6, n7], MO.lst xs, MO.lst ys, MO.lst cs]) ((List.range rows.length).map fun j => some ((cnt (sg rows w_x) j : Int) % size))
  have q1 := eq_shown (st ++ [MO.lst [n0, n1, n2, n3, n4, n5, n6, n7], MO.lst xs, MO.lst ys, MO.lst cs]) ((List.range rows.length).map fun j => some ((cnt (sg rows w_x) j : Int) % 2))
  have l0 := lc size hsz
  have l1 := lc 2 (by omega)
  revert r0 r1 q0 q1 l0 l1
  generalize ((List.range rows.length).map fun j => some ((cnt (sg rows w_x) j : Int) % size)).map oD = A
  generalize ((List.range rows.length).map fun j => some ((cnt (sg rows w_x) j : Int) % 2)).map oD = C
  intro r0 r1 q0 q1 l0 l1
  simp [s_law_11, g0, g3, ch]
  simp at r0 r1
  simp [r0, gc_len, ch, g3]
  rw [l0 _ (fun i => by simp [lcB, hsz])]
  simp [q0, g0, r1, gc_len, g3, ch]
  rw [l1 _ (fun i => by simp [lcB])]
  simp [q1]
theorem law_12 : evS (fun_ defs (k + 100)) s_law_12 [some sc, some (.ref b), some (.int size), some (.str w.tx), some (.int n), some (.ref st.length), none, some dr, some d1, some (.ref (st.length + 1)), some (.ref (st.length + 2)), none, none, some (.ref (st.length + 3)), none, none, none, none, none, none, none, none, none, none, none, none, none, none, none, none, none, none, none] (st ++ [MO.lst [n0, n1, n2, n3, n4, n5, n6, n7], MO.lst xs, MO.lst ys, MO.lst cs]) = .ok .nx [some sc, some (.ref b), some (.int size), some (.str w.tx), some (.int n), some (.ref st.length), none, some dr, some d1, some (.ref (st.length + 1)), some (.ref (st.length + 2)), none, none, some (.ref (st.length + 3)), some (.ref (st.length + 4)), some (.ref (st.length + 5)), some (.ref (st.length + 6)), some (.ref (st.length + 7)), none, none, none, none, none, none, none, none, none, none, none, none, none, none, none] (st ++ [MO.lst [n0, n1, n2, n3, n4, n5, n6, n7], MO.lst xs, MO.lst ys, MO.lst cs, MO.lst [], MO.lst [], MO.lst [], MO.lst []]) := by
  simp [s_law_12]
theorem law_13 (S : St) : evS (fun_ defs (k + 100)) s_law_13 [some sc, some (.ref b), some (.int size), some (.str w.tx), some (.int n), some (.ref st.length), none, some dr, some d1, some (.ref (st.length + 1)), some (.ref (st.length + 2)), none, none, some (.ref (st.length + 3)), some (.ref (st.length + 4)), some (.ref (st.length + 5)), some (.ref (st.length + 6)), some (.ref (st.length + 7)), none, none, none, none, none, none, none, none, none, none, none, none, none, none, none] S = .ok .nx [some sc, some (.ref b), some (.int size), some (.str w.tx), some (.int n), some (.ref st.length), none, some dr, some d1, some (.ref (st.length + 1)), some (.ref (st.length + 2)), none, none, some (.ref (st.length + 3)), some (.ref (st.length + 4)), some (.ref (st.length + 5)), some (.ref (st.length + 6)), some (.ref (st.length + 7)), some (.int 0), some (.int 0), some (.int 0), some (.str w_x), some (.bl true), none, none, none, none, none, none, none, none, none, none] S := by
  simp [s_law_13]
theorem law_14 : evS (fun_ defs (k + 100)) s_law_14 [some sc, some (.ref b), some (.int size), some (.str w.tx), some (.int n), some (.ref st.length), none, some dr, some d1, some (.ref (st.length + 1)), some (.ref (st.length + 2)), none, none, some (.ref (st.length + 3)), some (.ref (st.length + 4)), some (.ref (st.length + 5)), some (.ref (st.length + 6)), some (.ref (st.length + 7)), some (.int 0), some (.int 0), some (.int 0), some (.str w_x), some (.bl true), none, none, none, none, none, none, none, none, none, none] (st ++ [MO.lst [n0, n1, n2, n3, n4, n5, n6, n7], MO.lst xs, MO.lst ys, MO.lst cs, MO.lst [], MO.lst [], MO.lst [], MO.lst []]) = .ok .nx [some sc, some (.ref b), some (.int size), some (.str w.tx), some (.int n), some (.ref st.length), none, some dr, some d1, some (.ref (st.length + 1)), some (.ref (st.length + 2)), none, none, some (.ref (st.length + 3)), some (.ref (st.length + 4)), some (.ref (st.length + 5)), some (.ref (st.length + 6)), some (.ref (st.length + 7)), some (.int 0), some (.int 0), some (.int 0), some (.str w_x), some (.bl true), some (.ref (st.length + 8)), some (.ref (st.length + 9)), none, none, none, none, none, none, none, none] (st ++ [MO.lst [n0, n1, n2, n3, n4, n5, n6, n7], MO.lst xs, MO.lst ys, MO.lst cs, MO.lst [], MO.lst [], MO.lst [], MO.lst [], MO.lst [], MO.lst []]) := by
  simp [s_law_14]
end
end CM
end
section
/-! Q32: one round of the loop of the law (printed by law3.py). -/
namespace CM
open PM B
section
variable {k : Nat} {st : St} {sc dr d1 n0 n1 n2 n3 n4 n5 n6 n7 : D} {xs ys cs A4 A5 A6 A7 A8 A9 : List D} {b : Nat} {size last now taken : Int} {w : PW} {n : Nat} {rows : List Ev} {e11 e12 e25 : Option D} {due : Tx} {fine : Bool} {x y : Option Int} {l r : List Int}
theorem round_1 (j : Nat) (hx : xs[j]? = some (oD x)) (hy : ys[j]? = some (oD y)) : evS (fun_ defs (k + 100)) t_law_1_1 [some sc, some (.ref b), some (.int size), some (.str w.tx), some (.int n), some (.ref st.length), none, some dr, some d1, some (.ref (st.length + 1)), some (.ref (st.length + 2)), some (.int (j : Int)), e12, some (.ref (st.length + 3)), some (.ref (st.length + 4)), some (.ref (st.length + 5)), some (.ref (st.length + 6)), some (.ref (st.length + 7)), some (.int last), some (.int now), some (.int taken), some (.str due), some (.bl fine), some (.ref (st.length + 8)), some (.ref (st.length + 9)), e25, none, none, none, none, none, none, none] (st ++ [MO.lst [n0, n1, n2, n3, n4, n5, n6, n7], MO.lst xs, MO.lst ys, MO.lst cs, MO.lst A4, MO.lst A5, MO.lst A6, MO.lst A7, MO.lst A8, MO.lst A9]) = .ok .nx [some sc, some (.ref b), some (.int size), some (.str w.tx), some (.int n), some (.ref st.length), none, some dr, some d1, some (.ref (st.length + 1)), some (.ref (st.length + 2)), some (.int (j : Int)), some (oD x), some (.ref (st.length + 3)), some (.ref (st.length + 4)), some (.ref (st.length + 5)), some (.ref (st.length + 6)), some (.ref (st.length + 7)), some (.int last), some (.int now), some (.int taken), some (.str due), some (.bl fine), some (.ref (st.length + 8)), some (.ref (st.length + 9)), some (oD y), none, none, none, none, none, none, none] (st ++ [MO.lst [n0, n1, n2, n3, n4, n5, n6, n7], MO.lst xs, MO.lst ys, MO.lst cs, MO.lst A4, MO.lst A5, MO.lst A6, MO.lst A7, MO.lst A8, MO.lst A9]) := by
  have gx : getL (st ++ [MO.lst [n0, n1, n2, n3, n4, n5, n6, n7], MO.lst xs, MO.lst ys, MO.lst cs, MO.lst A4, MO.lst A5, MO.lst A6, MO.lst A7, MO.lst A8, MO.lst A9]) (st.length + 1) = some xs := by rw [getL_new]; rfl
  have gy : getL (st ++ [MO.lst [n0, n1, n2, n3, n4, n5, n6, n7], MO.lst xs, MO.lst ys, MO.lst cs, MO.lst A4, MO.lst A5, MO.lst A6, MO.lst A7, MO.lst A8, MO.lst A9]) (st.length + 2) = some ys := by rw [getL_new]; rfl
  simp [t_law_1_1, gx, gy, atI_some hx, atI_some hy]
theorem round_2 (hl : A4.length ≤ 100000) : evS (fun_ defs (k + 100)) t_law_1_2 [some sc, some (.ref b), some (.int size), some (.str w.tx), some (.int n), some (.ref st.length), none, some dr, some d1, some (.ref (st.length + 1)), some (.ref (st.length + 2)), e11, some (oD x), some (.ref (st.length + 3)), some (.ref (st.length + 4)), some (.ref (st.length + 5)), some (.ref (st.length + 6)), some (.ref (st.length + 7)), some (.int last), some (.int now), some (.int taken), some (.str due), some (.bl fine), some (.ref (st.length + 8)), some (.ref (st.length + 9)), some (oD y), none, none, none, none, none, none, none] (st ++ [MO.lst [n0, n1, n2, n3, n4, n5, n6, n7], MO.lst xs, MO.lst ys, MO.lst cs, MO.lst A4, MO.lst A5, MO.lst A6, MO.lst A7, MO.lst A8, MO.lst A9]) = .ok .nx [some sc, some (.ref b), some (.int size), some (.str w.tx), some (.int n), some (.ref st.length), none, some dr, some d1, some (.ref (st.length + 1)), some (.ref (st.length + 2)), e11, some (oD x), some (.ref (st.length + 3)), some (.ref (st.length + 4)), some (.ref (st.length + 5)), some (.ref (st.length + 6)), some (.ref (st.length + 7)), some (.int last), some (.int now), some (.int taken), some (.str due), some (.bl fine), some (.ref (st.length + 8)), some (.ref (st.length + 9)), some (oD y), none, none, none, none, none, none, none] (st ++ [MO.lst [n0, n1, n2, n3, n4, n5, n6, n7], MO.lst xs, MO.lst ys, MO.lst cs, MO.lst (A4 ++ [oD (if x = none ∨ x = some 0 then none else if last = 0 then some 1 else none)]), MO.lst A5, MO.lst A6, MO.lst A7, MO.lst A8, MO.lst A9]) := by
  have g4 : getL (st ++ [MO.lst [n0, n1, n2, n3, n4, n5, n6, n7], MO.lst xs, MO.lst ys, MO.lst cs, MO.lst A4, MO.lst A5, MO.lst A6, MO.lst A7, MO.lst A8, MO.lst A9]) (st.length + 4) = some A4 := by rw [getL_new]; rfl
  cases x with
  | none => simp [t_law_1_2, g4, hl]
  | some v => by_cases h1 : v = 0 <;> by_cases h2 : last = 0 <;> simp [t_law_1_2, g4, hl, h1, h2]
theorem round_3 (hl : A8.length ≤ 100000) : evS (fun_ defs (k + 100)) t_law_1_3 [some sc, some (.ref b), some (.int size), some (.str w.tx), some (.int n), some (.ref st.length), none, some dr, some d1, some (.ref (st.length + 1)), some (.ref (st.length + 2)), e11, some (oD x), some (.ref (st.length + 3)), some (.ref (st.length + 4)), some (.ref (st.length + 5)), some (.ref (st.length + 6)), some (.ref (st.length + 7)), some (.int last), some (.int now), some (.int taken), some (.str due), some (.bl fine), some (.ref (st.length + 8)), some (.ref (st.length + 9)), some (oD y), none, none, none, none, none, none, none] (st ++ [MO.lst [n0, n1, n2, n3, n4, n5, n6, n7], MO.lst xs, MO.lst ys, MO.lst cs, MO.lst A4, MO.lst A5, MO.lst A6, MO.lst A7, MO.lst A8, MO.lst A9]) = .ok .nx [some sc, some (.ref b), some (.int size), some (.str w.tx), some (.int n), some (.ref st.length), none, some dr, some d1, some (.ref (st.length + 1)), some (.ref (st.length + 2)), e11, some (oD x), some (.ref (st.length + 3)), some (.ref (st.length + 4)), some (.ref (st.length + 5)), some (.ref (st.length + 6)), some (.ref (st.length + 7)), some (.int (x.getD last)), some (.int (x.getD now)), some (.int taken), some (.str due), some (.bl fine), some (.ref (st.length + 8)), some (.ref (st.length + 9)), some (oD y), none, none, none, none, none, none, none] (st ++ [MO.lst [n0, n1, n2, n3, n4, n5, n6, n7], MO.lst xs, MO.lst ys, MO.lst cs, MO.lst A4, MO.lst A5, MO.lst A6, MO.lst A7, MO.lst (A8 ++ iD x.toList), MO.lst A9]) := by
  have g8 : getL (st ++ [MO.lst [n0, n1, n2, n3, n4, n5, n6, n7], MO.lst xs, MO.lst ys, MO.lst cs, MO.lst A4, MO.lst A5, MO.lst A6, MO.lst A7, MO.lst A8, MO.lst A9]) (st.length + 8) = some A8 := by rw [getL_new]; rfl
  cases x with
  | none => simp [t_law_1_3, iD]
  | some v => simp [t_law_1_3, g8, hl, iD]
theorem round_4 (hl : A9.length ≤ 100000) : evS (fun_ defs (k + 100)) t_law_1_4 [some sc, some (.ref b), some (.int size), some (.str w.tx), some (.int n), some (.ref st.length), none, some dr, some d1, some (.ref (st.length + 1)), some (.ref (st.length + 2)), e11, some (oD x), some (.ref (st.length + 3)), some (.ref (st.length + 4)), some (.ref (st.length + 5)), some (.ref (st.length + 6)), some (.ref (st.length + 7)), some (.int last), some (.int now), some (.int taken), some (.str due), some (.bl fine), some (.ref (st.length + 8)), some (.ref (st.length + 9)), some (oD y), none, none, none, none, none, none, none] (st ++ [MO.lst [n0, n1, n2, n3, n4, n5, n6, n7], MO.lst xs, MO.lst ys, MO.lst cs, MO.lst A4, MO.lst A5, MO.lst A6, MO.lst A7, MO.lst A8, MO.lst A9]) = .ok .nx [some sc, some (.ref b), some (.int size), some (.str w.tx), some (.int n), some (.ref st.length), none, some dr, some d1, some (.ref (st.length + 1)), some (.ref (st.length + 2)), e11, some (oD x), some (.ref (st.length + 3)), some (.ref (st.length + 4)), some (.ref (st.length + 5)), some (.ref (st.length + 6)), some (.ref (st.length + 7)), some (.int last), some (.int now), some (.int taken), some (.str due), some (.bl fine), some (.ref (st.length + 8)), some (.ref (st.length + 9)), some (oD y), none, none, none, none, none, none, none] (st ++ [MO.lst [n0, n1, n2, n3, n4, n5, n6, n7], MO.lst xs, MO.lst ys, MO.lst cs, MO.lst A4, MO.lst A5, MO.lst A6, MO.lst A7, MO.lst A8, MO.lst (A9 ++ iD y.toList)]) := by
  have g9 : getL (st ++ [MO.lst [n0, n1, n2, n3, n4, n5, n6, n7], MO.lst xs, MO.lst ys, MO.lst cs, MO.lst A4, MO.lst A5, MO.lst A6, MO.lst A7, MO.lst A8, MO.lst A9]) (st.length + 9) = some A9 := by rw [getL_new]; rfl
  cases y with
  | none => simp [t_law_1_4, iD]
  | some v => simp [t_law_1_4, g9, hl, iD]
theorem round_5  : evS (fun_ defs (k + 100)) t_law_1_5 [some sc, some (.ref b), some (.int size), some (.str w.tx), some (.int n), some (.ref st.length), none, some dr, some d1, some (.ref (st.length + 1)), some (.ref (st.length + 2)), e11, some (oD x), some (.ref (st.length + 3)), some (.ref (st.length + 4)), some (.ref (st.length + 5)), some (.ref (st.length + 6)), some (.ref (st.length + 7)), some (.int last), some (.int now), some (.int taken), some (.str due), some (.bl fine), some (.ref (st.length + 8)), some (.ref (st.length + 9)), some (oD y), none, none, none, none, none, none, none] (st ++ [MO.lst [n0, n1, n2, n3, n4, n5, n6, n7], MO.lst xs, MO.lst ys, MO.lst cs, MO.lst A4, MO.lst A5, MO.lst A6, MO.lst A7, MO.lst A8, MO.lst A9]) = .ok .nx [some sc, some (.ref b), some (.int size), some (.str w.tx), some (.int n), some (.ref st.length), none, some dr, some d1, some (.ref (st.length + 1)), some (.ref (st.length + 2)), e11, some (oD x), some (.ref (st.length + 3)), some (.ref (st.length + 4)), some (.ref (st.length + 5)), some (.ref (st.length + 6)), some (.ref (st.length + 7)), some (.int last), some (.int now), some (.int (if y = none ∨ y = some 0 then taken else now)), some (.str due), some (.bl fine), some (.ref (st.length + 8)), some (.ref (st.length + 9)), some (oD y), none, none, none, none, none, none, none] (st ++ [MO.lst [n0, n1, n2, n3, n4, n5, n6, n7], MO.lst xs, MO.lst ys, MO.lst cs, MO.lst A4, MO.lst A5, MO.lst A6, MO.lst A7, MO.lst A8, MO.lst A9]) := by
  cases y with
  | none => simp [t_law_1_5]
  | some v => by_cases h : v = 0 <;> simp [t_law_1_5, h]
theorem round_6 (hl : A5.length ≤ 100000) : evS (fun_ defs (k + 100)) t_law_1_6 [some sc, some (.ref b), some (.int size), some (.str w.tx), some (.int n), some (.ref st.length), none, some dr, some d1, some (.ref (st.length + 1)), some (.ref (st.length + 2)), e11, some (oD x), some (.ref (st.length + 3)), some (.ref (st.length + 4)), some (.ref (st.length + 5)), some (.ref (st.length + 6)), some (.ref (st.length + 7)), some (.int last), some (.int now), some (.int taken), some (.str due), some (.bl fine), some (.ref (st.length + 8)), some (.ref (st.length + 9)), some (oD y), none, none, none, none, none, none, none] (st ++ [MO.lst [n0, n1, n2, n3, n4, n5, n6, n7], MO.lst xs, MO.lst ys, MO.lst cs, MO.lst A4, MO.lst A5, MO.lst A6, MO.lst A7, MO.lst A8, MO.lst A9]) = .ok .nx [some sc, some (.ref b), some (.int size), some (.str w.tx), some (.int n), some (.ref st.length), none, some dr, some d1, some (.ref (st.length + 1)), some (.ref (st.length + 2)), e11, some (oD x), some (.ref (st.length + 3)), some (.ref (st.length + 4)), some (.ref (st.length + 5)), some (.ref (st.length + 6)), some (.ref (st.length + 7)), some (.int last), some (.int now), some (.int taken), some (.str due), some (.bl fine), some (.ref (st.length + 8)), some (.ref (st.length + 9)), some (oD y), none, none, none, none, none, none, none] (st ++ [MO.lst [n0, n1, n2, n3, n4, n5, n6, n7], MO.lst xs, MO.lst ys, MO.lst cs, MO.lst A4, MO.lst (A5 ++ [.int taken]), MO.lst A6, MO.lst A7, MO.lst A8, MO.lst A9]) := by
  have g5 : getL (st ++ [MO.lst [n0, n1, n2, n3, n4, n5, n6, n7], MO.lst xs, MO.lst ys, MO.lst cs, MO.lst A4, MO.lst A5, MO.lst A6, MO.lst A7, MO.lst A8, MO.lst A9]) (st.length + 5) = some A5 := by rw [getL_new]; rfl
  simp [t_law_1_6, g5, hl]
theorem round_7 (hl : A6.length ≤ 100000) (h8 : A8 = iD l) (h9 : A9 = iD r) (hb : ∀ v ∈ l, 0 ≤ v ∧ v < 5) (h0 : 0 < size) : evS (fun_ defs (k + 100)) t_law_1_7 [some sc, some (.ref b), some (.int size), some (.str w.tx), some (.int n), some (.ref st.length), none, some dr, some d1, some (.ref (st.length + 1)), some (.ref (st.length + 2)), e11, some (oD x), some (.ref (st.length + 3)), some (.ref (st.length + 4)), some (.ref (st.length + 5)), some (.ref (st.length + 6)), some (.ref (st.length + 7)), some (.int last), some (.int now), some (.int taken), some (.str due), some (.bl fine), some (.ref (st.length + 8)), some (.ref (st.length + 9)), some (oD y), none, none, none, none, none, none, none] (st ++ [MO.lst [n0, n1, n2, n3, n4, n5, n6, n7], MO.lst xs, MO.lst ys, MO.lst cs, MO.lst A4, MO.lst A5, MO.lst A6, MO.lst A7, MO.lst A8, MO.lst A9]) = .ok .nx [some sc, some (.ref b), some (.int size), some (.str w.tx), some (.int n), some (.ref st.length), none, some dr, some d1, some (.ref (st.length + 1)), some (.ref (st.length + 2)), e11, some (oD x), some (.ref (st.length + 3)), some (.ref (st.length + 4)), some (.ref (st.length + 5)), some (.ref (st.length + 6)), some (.ref (st.length + 7)), some (.int last), some (.int now), some (.int taken), some (.str due), some (.bl fine), some (.ref (st.length + 8)), some (.ref (st.length + 9)), some (oD y), none, none, none, none, none, none, none] (st ++ [MO.lst [n0, n1, n2, n3, n4, n5, n6, n7], MO.lst xs, MO.lst ys, MO.lst cs, MO.lst A4, MO.lst A5, MO.lst (A6 ++ [oD (pairL size w l r).1]), MO.lst A7, MO.lst (iD (pairL size w l r).2.l), MO.lst (iD (pairL size w l r).2.r)]) := by
  have g6 : getL (st ++ [MO.lst [n0, n1, n2, n3, n4, n5, n6, n7], MO.lst xs, MO.lst ys, MO.lst cs, MO.lst A4, MO.lst A5, MO.lst A6, MO.lst A7, MO.lst A8, MO.lst A9]) (st.length + 6) = some A6 := by rw [getL_new]; rfl
  have g8 : getL (st ++ [MO.lst [n0, n1, n2, n3, n4, n5, n6, n7], MO.lst xs, MO.lst ys, MO.lst cs, MO.lst A4, MO.lst A5, MO.lst A6, MO.lst A7, MO.lst A8, MO.lst A9]) (st.length + 8) = some A8 := by rw [getL_new]; rfl
  have g9 : getL (st ++ [MO.lst [n0, n1, n2, n3, n4, n5, n6, n7], MO.lst xs, MO.lst ys, MO.lst cs, MO.lst A4, MO.lst A5, MO.lst A6, MO.lst A7, MO.lst A8, MO.lst A9]) (st.length + 9) = some A9 := by rw [getL_new]; rfl
  subst h8 h9
  cases l with
  | nil =>
    have e : pairL size w [] r = (none, .two [] r) := pairL_nil _ _ (.inl rfl)
    simp [t_law_1_7, g8, g6, hl, e, Kp.l, Kp.r]
  | cons a l =>
    cases r with
    | nil =>
      have e : pairL size w (a :: l) [] = (none, .two (a :: l) []) := pairL_nil _ _ (.inr rfl)
      simp [t_law_1_7, g8, g9, g6, hl, e, Kp.l, Kp.r]
    | cons c r =>
      have e : pairL size w (a :: l) (c :: r) = (some (w.ev a c size), .two l r) := rfl
      have ha := hb a (by simp)
      have p8 : ∀ A B : List D, p_popI [.v (.ref (st.length + 8)), .v (.int 0)] (st ++ [MO.lst [n0, n1, n2, n3, n4, n5, n6, n7], MO.lst xs, MO.lst ys, MO.lst cs, MO.lst A4, MO.lst A5, MO.lst A, MO.lst A7, MO.lst (iD (a :: l)), MO.lst B]) = .ok (.v (.int a)) (st ++ [MO.lst [n0, n1, n2, n3, n4, n5, n6, n7], MO.lst xs, MO.lst ys, MO.lst cs, MO.lst A4, MO.lst A5, MO.lst A, MO.lst A7, MO.lst (iD l), MO.lst B]) := fun A B => by
        have g : getL (st ++ [MO.lst [n0, n1, n2, n3, n4, n5, n6, n7], MO.lst xs, MO.lst ys, MO.lst cs, MO.lst A4, MO.lst A5, MO.lst A, MO.lst A7, MO.lst (iD (a :: l)), MO.lst B]) (st.length + 8) = some (iD (a :: l)) := by rw [getL_new]; rfl
        have i0 : ixN (l.length + 1) 0 = some 0 := by simp [ixN]
        simp [p_popI, g, i0, setO]
        simp [iD]
      have p9 : ∀ A B : List D, p_popI [.v (.ref (st.length + 9)), .v (.int 0)] (st ++ [MO.lst [n0, n1, n2, n3, n4, n5, n6, n7], MO.lst xs, MO.lst ys, MO.lst cs, MO.lst A4, MO.lst A5, MO.lst A, MO.lst A7, MO.lst B, MO.lst (iD (c :: r))]) = .ok (.v (.int c)) (st ++ [MO.lst [n0, n1, n2, n3, n4, n5, n6, n7], MO.lst xs, MO.lst ys, MO.lst cs, MO.lst A4, MO.lst A5, MO.lst A, MO.lst A7, MO.lst B, MO.lst (iD r)]) := fun A B => by
        have g : getL (st ++ [MO.lst [n0, n1, n2, n3, n4, n5, n6, n7], MO.lst xs, MO.lst ys, MO.lst cs, MO.lst A4, MO.lst A5, MO.lst A, MO.lst A7, MO.lst B, MO.lst (iD (c :: r))]) (st.length + 9) = some (iD (c :: r)) := by rw [getL_new]; rfl
        have i0 : ixN (r.length + 1) 0 = some 0 := by simp [ixN]
        simp [p_popI, g, i0, setO]
        simp [iD]
      have g9' : getL (st ++ [MO.lst [n0, n1, n2, n3, n4, n5, n6, n7], MO.lst xs, MO.lst ys, MO.lst cs, MO.lst A4, MO.lst A5, MO.lst A6, MO.lst A7, MO.lst (iD l), MO.lst (iD (c :: r))]) (st.length + 9) = some (iD (c :: r)) := by rw [getL_new]; rfl
      have g6' : getL (st ++ [MO.lst [n0, n1, n2, n3, n4, n5, n6, n7], MO.lst xs, MO.lst ys, MO.lst cs, MO.lst A4, MO.lst A5, MO.lst A6, MO.lst A7, MO.lst (iD l), MO.lst (iD r)]) (st.length + 6) = some A6 := by rw [getL_new]; rfl
      simp [t_law_1_7, g8, g9, g6, hl, e, Kp.l, Kp.r, p8, g9', p9, lpaired_ok, h0, ha, gc_len, g6']
theorem round_8  : evS (fun_ defs (k + 100)) t_law_1_8 [some sc, some (.ref b), some (.int size), some (.str w.tx), some (.int n), some (.ref st.length), none, some dr, some d1, some (.ref (st.length + 1)), some (.ref (st.length + 2)), e11, some (oD x), some (.ref (st.length + 3)), some (.ref (st.length + 4)), some (.ref (st.length + 5)), some (.ref (st.length + 6)), some (.ref (st.length + 7)), some (.int last), some (.int now), some (.int taken), some (.str due), some (.bl fine), some (.ref (st.length + 8)), some (.ref (st.length + 9)), some (oD y), none, none, none, none, none, none, none] (st ++ [MO.lst [n0, n1, n2, n3, n4, n5, n6, n7], MO.lst xs, MO.lst ys, MO.lst cs, MO.lst A4, MO.lst A5, MO.lst A6, MO.lst A7, MO.lst A8, MO.lst A9]) = .ok .nx [some sc, some (.ref b), some (.int size), some (.str w.tx), some (.int n), some (.ref st.length), none, some dr, some d1, some (.ref (st.length + 1)), some (.ref (st.length + 2)), e11, some (oD x), some (.ref (st.length + 3)), some (.ref (st.length + 4)), some (.ref (st.length + 5)), some (.ref (st.length + 6)), some (.ref (st.length + 7)), some (.int last), some (.int now), some (.int taken), some (.str due), some (.bl (if x.isSome && y.isSome then false else fine)), some (.ref (st.length + 8)), some (.ref (st.length + 9)), some (oD y), none, none, none, none, none, none, none] (st ++ [MO.lst [n0, n1, n2, n3, n4, n5, n6, n7], MO.lst xs, MO.lst ys, MO.lst cs, MO.lst A4, MO.lst A5, MO.lst A6, MO.lst A7, MO.lst A8, MO.lst A9]) := by
  cases x <;> cases y <;> simp [t_law_1_8]
theorem round_9 (hd : due = w_x ∨ due = w_y) : evS (fun_ defs (k + 100)) t_law_1_9 [some sc, some (.ref b), some (.int size), some (.str w.tx), some (.int n), some (.ref st.length), none, some dr, some d1, some (.ref (st.length + 1)), some (.ref (st.length + 2)), e11, some (oD x), some (.ref (st.length + 3)), some (.ref (st.length + 4)), some (.ref (st.length + 5)), some (.ref (st.length + 6)), some (.ref (st.length + 7)), some (.int last), some (.int now), some (.int taken), some (.str due), some (.bl fine), some (.ref (st.length + 8)), some (.ref (st.length + 9)), some (oD y), none, none, none, none, none, none, none] (st ++ [MO.lst [n0, n1, n2, n3, n4, n5, n6, n7], MO.lst xs, MO.lst ys, MO.lst cs, MO.lst A4, MO.lst A5, MO.lst A6, MO.lst A7, MO.lst A8, MO.lst A9]) = .ok .nx [some sc, some (.ref b), some (.int size), some (.str w.tx), some (.int n), some (.ref st.length), none, some dr, some d1, some (.ref (st.length + 1)), some (.ref (st.length + 2)), e11, some (oD x), some (.ref (st.length + 3)), some (.ref (st.length + 4)), some (.ref (st.length + 5)), some (.ref (st.length + 6)), some (.ref (st.length + 7)), some (.int last), some (.int now), some (.int taken), some (.str due), some (.bl (if (x.isSome && due != w_x) || (y.isSome && due != w_y) then false else fine)), some (.ref (st.length + 8)), some (.ref (st.length + 9)), some (oD y), none, none, none, none, none, none, none] (st ++ [MO.lst [n0, n1, n2, n3, n4, n5, n6, n7], MO.lst xs, MO.lst ys, MO.lst cs, MO.lst A4, MO.lst A5, MO.lst A6, MO.lst A7, MO.lst A8, MO.lst A9]) := by
  rcases hd with rfl | rfl <;> cases x <;> cases y <;> simp [t_law_1_9]
theorem round_10 (hd : due = w_x ∨ due = w_y) : evS (fun_ defs (k + 100)) t_law_1_10 [some sc, some (.ref b), some (.int size), some (.str w.tx), some (.int n), some (.ref st.length), none, some dr, some d1, some (.ref (st.length + 1)), some (.ref (st.length + 2)), e11, some (oD x), some (.ref (st.length + 3)), some (.ref (st.length + 4)), some (.ref (st.length + 5)), some (.ref (st.length + 6)), some (.ref (st.length + 7)), some (.int last), some (.int now), some (.int taken), some (.str due), some (.bl fine), some (.ref (st.length + 8)), some (.ref (st.length + 9)), some (oD y), none, none, none, none, none, none, none] (st ++ [MO.lst [n0, n1, n2, n3, n4, n5, n6, n7], MO.lst xs, MO.lst ys, MO.lst cs, MO.lst A4, MO.lst A5, MO.lst A6, MO.lst A7, MO.lst A8, MO.lst A9]) = .ok .nx [some sc, some (.ref b), some (.int size), some (.str w.tx), some (.int n), some (.ref st.length), none, some dr, some d1, some (.ref (st.length + 1)), some (.ref (st.length + 2)), e11, some (oD x), some (.ref (st.length + 3)), some (.ref (st.length + 4)), some (.ref (st.length + 5)), some (.ref (st.length + 6)), some (.ref (st.length + 7)), some (.int last), some (.int now), some (.int taken), some (.str (if x.isSome || y.isSome then (if due = w_x then w_y else w_x) else due)), some (.bl fine), some (.ref (st.length + 8)), some (.ref (st.length + 9)), some (oD y), none, none, none, none, none, none, none] (st ++ [MO.lst [n0, n1, n2, n3, n4, n5, n6, n7], MO.lst xs, MO.lst ys, MO.lst cs, MO.lst A4, MO.lst A5, MO.lst A6, MO.lst A7, MO.lst A8, MO.lst A9]) := by
  rcases hd with rfl | rfl <;> cases x <;> cases y <;> simp [t_law_1_10]
theorem round_11 (hl : A7.length ≤ 100000) : evS (fun_ defs (k + 100)) t_law_1_11 [some sc, some (.ref b), some (.int size), some (.str w.tx), some (.int n), some (.ref st.length), none, some dr, some d1, some (.ref (st.length + 1)), some (.ref (st.length + 2)), e11, some (oD x), some (.ref (st.length + 3)), some (.ref (st.length + 4)), some (.ref (st.length + 5)), some (.ref (st.length + 6)), some (.ref (st.length + 7)), some (.int last), some (.int now), some (.int taken), some (.str due), some (.bl fine), some (.ref (st.length + 8)), some (.ref (st.length + 9)), some (oD y), none, none, none, none, none, none, none] (st ++ [MO.lst [n0, n1, n2, n3, n4, n5, n6, n7], MO.lst xs, MO.lst ys, MO.lst cs, MO.lst A4, MO.lst A5, MO.lst A6, MO.lst A7, MO.lst A8, MO.lst A9]) = .ok .nx [some sc, some (.ref b), some (.int size), some (.str w.tx), some (.int n), some (.ref st.length), none, some dr, some d1, some (.ref (st.length + 1)), some (.ref (st.length + 2)), e11, some (oD x), some (.ref (st.length + 3)), some (.ref (st.length + 4)), some (.ref (st.length + 5)), some (.ref (st.length + 6)), some (.ref (st.length + 7)), some (.int last), some (.int now), some (.int taken), some (.str due), some (.bl fine), some (.ref (st.length + 8)), some (.ref (st.length + 9)), some (oD y), none, none, none, none, none, none, none] (st ++ [MO.lst [n0, n1, n2, n3, n4, n5, n6, n7], MO.lst xs, MO.lst ys, MO.lst cs, MO.lst A4, MO.lst A5, MO.lst A6, MO.lst (A7 ++ [.int (bI fine)]), MO.lst A8, MO.lst A9]) := by
  have g7 : getL (st ++ [MO.lst [n0, n1, n2, n3, n4, n5, n6, n7], MO.lst xs, MO.lst ys, MO.lst cs, MO.lst A4, MO.lst A5, MO.lst A6, MO.lst A7, MO.lst A8, MO.lst A9]) (st.length + 7) = some A7 := by rw [getL_new]; rfl
  cases fine <;> simp [t_law_1_11, g7, hl, bI]
end
end CM
end
section
/-! Q33: the loop of the law (printed by law4.py). -/
namespace CM
open PM B
section
variable {k : Nat} {st : St} {sc dr d1 n0 n1 n2 n3 n4 n5 n6 n7 : D} {xs ys cs : List D} {b : Nat} {size : Int} {w : PW} {n : Nat} {rows : List Ev}
theorem lastV_prev (g : Nat → Option Int) (v : Int) (j : Nat) : lastV g v j = (g j).getD (prevV g v j) := by cases j <;> rfl
def riseF (X : Nat → Option Int) (i : Nat) : Option Int := if X i = none ∨ X i = some 0 then none else if prevV X 0 i = 0 then some 1 else none
def dueT (b : Bool) : Tx := if b then w_x else w_y
theorem dueT_or (b : Bool) : dueT b = w_x ∨ dueT b = w_y := by cases b <;> simp [dueT]
theorem fine_step (X Y : Nat → Option Int) (j : Nat) : (if ((X j).isSome && dueT (dueB X Y j) != w_x) || ((Y j).isSome && dueT (dueB X Y j) != w_y) then false else if (X j).isSome && (Y j).isSome then false else okP X Y j) = okP X Y (j + 1) := by
  simp only [okP, nowB]
  cases (X j).isSome <;> cases (Y j).isSome <;> cases dueB X Y j <;> cases okP X Y j <;> decide
theorem due_step (X Y : Nat → Option Int) (j : Nat) : (if (X j).isSome || (Y j).isSome then (if dueT (dueB X Y j) = w_x then w_y else w_x) else dueT (dueB X Y j)) = dueT (dueB X Y (j + 1)) := by
  simp only [dueB]
  cases (X j).isSome <;> cases (Y j).isSome <;> cases dueB X Y j <;> decide
theorem taken_step (X Y : Nat → Option Int) (j : Nat) : (if Y j = none ∨ Y j = some 0 then prevV (tk X Y) 0 j else (X j).getD (prevV X 0 j)) = lastV (tk X Y) 0 j := by
  rw [lastV_prev, tk, lastV_prev]
  by_cases h : Y j = none ∨ Y j = some 0 <;> simp [h]
abbrev sqL (X Y : Nat → Option Int) (j : Nat) : List Int := (vals X j).drop (min (vals X j).length (vals Y j).length)
abbrev sqR (X Y : Nat → Option Int) (j : Nat) : List Int := (vals Y j).drop (min (vals X j).length (vals Y j).length)
def L4 (X : Nat → Option Int) (j : Nat) : List D := ((List.range j).map (riseF X)).map oD
def L5 (X Y : Nat → Option Int) (j : Nat) : List D := ((List.range j).map fun i => some (lastV (tk X Y) 0 i)).map oD
def L6 (size : Int) (w : PW) (X Y : Nat → Option Int) (j : Nat) : List D := ((List.range j).map (atM size w X Y)).map oD
def L7 (X Y : Nat → Option Int) (j : Nat) : List D := ((List.range j).map fun i => some (bI (okP X Y (i + 1)))).map oD
theorem law_15 (hm : rows.length ≤ 100) (hx : xs = sgD rows w_x) (hy : ys = sgD rows w_y) (hdr : IsT dr (rows.map evD)) (h0 : 0 < size) (h5 : size ≤ 5) (hX : ∀ i, bdO size (sg rows w_x i)) :
    ∃ e11 e12 e25, evS (fun_ defs (k + 100)) s_law_15 [some sc, some (.ref b), some (.int size), some (.str w.tx), some (.int n), some (.ref st.length), none, some dr, some d1, some (.ref (st.length + 1)), some (.ref (st.length + 2)), none, none, some (.ref (st.length + 3)), some (.ref (st.length + 4)), some (.ref (st.length + 5)), some (.ref (st.length + 6)), some (.ref (st.length + 7)), some (.int 0), some (.int 0), some (.int 0), some (.str w_x), some (.bl true), some (.ref (st.length + 8)), some (.ref (st.length + 9)), none, none, none, none, none, none, none, none] (st ++ [MO.lst [n0, n1, n2, n3, n4, n5, n6, n7], MO.lst xs, MO.lst ys, MO.lst cs, MO.lst [], MO.lst [], MO.lst [], MO.lst [], MO.lst [], MO.lst []]) = .ok .nx [some sc, some (.ref b), some (.int size), some (.str w.tx), some (.int n), some (.ref st.length), none, some dr, some d1, some (.ref (st.length + 1)), some (.ref (st.length + 2)), e11, e12, some (.ref (st.length + 3)), some (.ref (st.length + 4)), some (.ref (st.length + 5)), some (.ref (st.length + 6)), some (.ref (st.length + 7)), some (.int (prevV (sg rows w_x) 0 rows.length)), some (.int (prevV (sg rows w_x) 0 rows.length)), some (.int (prevV (tk (sg rows w_x) (sg rows w_y)) 0 rows.length)), some (.str (dueT (dueB (sg rows w_x) (sg rows w_y) rows.length))), some (.bl (okP (sg rows w_x) (sg rows w_y) rows.length)), some (.ref (st.length + 8)), some (.ref (st.length + 9)), e25, none, none, none, none, none, none, none] (st ++ [MO.lst [n0, n1, n2, n3, n4, n5, n6, n7], MO.lst xs, MO.lst ys, MO.lst cs, MO.lst (L4 (sg rows w_x) rows.length), MO.lst (L5 (sg rows w_x) (sg rows w_y) rows.length), MO.lst (L6 size w (sg rows w_x) (sg rows w_y) rows.length), MO.lst (L7 (sg rows w_x) (sg rows w_y) rows.length), MO.lst (iD (sqL (sg rows w_x) (sg rows w_y) rows.length)), MO.lst (iD (sqR (sg rows w_x) (sg rows w_y) rows.length))]) := by
  have loop := frl_inv (F := (fun_ defs (k + 100))) (t := .nm 11) (b := b_law_1) (chk := [])
    (fun j ρ T => ∃ e11 e12 e25, j ≤ rows.length ∧ ρ = [some sc, some (.ref b), some (.int size), some (.str w.tx), some (.int n), some (.ref st.length), none, some dr, some d1, some (.ref (st.length + 1)), some (.ref (st.length + 2)), e11, e12, some (.ref (st.length + 3)), some (.ref (st.length + 4)), some (.ref (st.length + 5)), some (.ref (st.length + 6)), some (.ref (st.length + 7)), some (.int (prevV (sg rows w_x) 0 j)), some (.int (prevV (sg rows w_x) 0 j)), some (.int (prevV (tk (sg rows w_x) (sg rows w_y)) 0 j)), some (.str (dueT (dueB (sg rows w_x) (sg rows w_y) j))), some (.bl (okP (sg rows w_x) (sg rows w_y) j)), some (.ref (st.length + 8)), some (.ref (st.length + 9)), e25, none, none, none, none, none, none, none] ∧ T = st ++ [MO.lst [n0, n1, n2, n3, n4, n5, n6, n7], MO.lst xs, MO.lst ys, MO.lst cs, MO.lst (L4 (sg rows w_x) j), MO.lst (L5 (sg rows w_x) (sg rows w_y) j), MO.lst (L6 size w (sg rows w_x) (sg rows w_y) j), MO.lst (L7 (sg rows w_x) (sg rows w_y) j), MO.lst (iD (sqL (sg rows w_x) (sg rows w_y) j)), MO.lst (iD (sqR (sg rows w_x) (sg rows w_y) j))])
    (ranN rows.length)
    (by
      rintro j d' ρ T hj ⟨e11, e12, e25, hj1, rfl, rfl⟩
      obtain ⟨hjl, hd'⟩ := ranN_get hj
      subst hd'
      refine ⟨rfl, _, rfl, ?_⟩
      have gx : xs[j]? = some (oD (sg rows w_x j)) := by rw [hx]; simp [sgD, hjl]
      have gy : ys[j]? = some (oD (sg rows w_y j)) := by rw [hy]; simp [sgD, hjl]
      have ll : ∀ l : List D, l.length = j → l.length ≤ 100000 := fun l h => by omega
      have vl : ∀ Z : Nat → Option Int, (vals Z j).length ≤ j := fun Z => vals_len Z j
      have lq : (iD (sqL (sg rows w_x) (sg rows w_y) j)).length ≤ 100000 := by have := vl (sg rows w_x); simp [-w_x, -w_y]; omega
      have lr : (iD (sqR (sg rows w_x) (sg rows w_y) j)).length ≤ 100000 := by have := vl (sg rows w_y); simp [-w_x, -w_y]; omega
      have bq : ∀ v ∈ sqL (sg rows w_x) (sg rows w_y) j ++ (sg rows w_x j).toList, 0 ≤ v ∧ v < 5 := fun v hv => by
        have : ∃ i, sg rows w_x i = some v := by
          rcases List.mem_append.mp hv with h | h
          · obtain ⟨i, _, hi⟩ := List.mem_filterMap.mp (List.mem_of_mem_drop h)
            exact ⟨i, hi⟩
          · exact ⟨j, by simpa using h⟩
        obtain ⟨i, hi⟩ := this
        have := hX i v hi
        omega
      have t1 := round_1 (k := k) (st := st) (sc := sc) (dr := dr) (d1 := d1) (n0 := n0) (n1 := n1) (n2 := n2) (n3 := n3) (n4 := n4) (n5 := n5) (n6 := n6) (n7 := n7) (xs := xs) (ys := ys) (cs := cs) (A4 := L4 (sg rows w_x) j) (A5 := L5 (sg rows w_x) (sg rows w_y) j) (A6 := L6 size w (sg rows w_x) (sg rows w_y) j) (A7 := L7 (sg rows w_x) (sg rows w_y) j) (A8 := iD (sqL (sg rows w_x) (sg rows w_y) j)) (A9 := iD (sqR (sg rows w_x) (sg rows w_y) j)) (b := b) (size := size) (w := w) (n := n) (e12 := e12) (e25 := e25)
        (last := prevV (sg rows w_x) 0 j) (now := prevV (sg rows w_x) 0 j) (taken := prevV (tk (sg rows w_x) (sg rows w_y)) 0 j) (due := dueT (dueB (sg rows w_x) (sg rows w_y) j)) (fine := okP (sg rows w_x) (sg rows w_y) j) j gx gy
      refine ⟨_, _, .inl ?_, some (.int j), some (oD (sg rows w_x j)), some (oD (sg rows w_y j)), by omega, rfl, rfl⟩
      simp only [b_law_1]
      rw [evSs_cons]
      refine (congrArg (fun r => RS.bind r _) t1).trans ?_
      rw [RS.bind_nx, kSs_ap, evSs_cons]
      rw [round_2 (by simp [L4]; omega), RS.bind_nx, kSs_ap, evSs_cons]
      rw [round_3 lq, RS.bind_nx, kSs_ap, evSs_cons]
      rw [round_4 lr, RS.bind_nx, kSs_ap, evSs_cons]
      rw [round_5, RS.bind_nx, kSs_ap, evSs_cons]
      rw [round_6 (by simp [L5]; omega), RS.bind_nx, kSs_ap, evSs_cons]
      rw [round_7 (l := sqL (sg rows w_x) (sg rows w_y) j ++ (sg rows w_x j).toList) (r := sqR (sg rows w_x) (sg rows w_y) j ++ (sg rows w_y j).toList) (by simp [L6]; omega) (by simp [iD]) (by simp [iD]) bq h0, RS.bind_nx, kSs_ap, evSs_cons]
      rw [round_8, RS.bind_nx, kSs_ap, evSs_cons]
      rw [round_9 (dueT_or _), RS.bind_nx, kSs_ap, evSs_cons]
      rw [round_10 (dueT_or _), RS.bind_nx, kSs_ap, evSs_cons]
      rw [round_11 (by simp [L7]; omega), RS.bind_nx, kSs_ap, evSs_nil]
      rw [push_atM, taken_step, fine_step, due_step, ← lastV_prev]
      have s4 : ∀ Z : Nat → Option Int, L4 Z j ++ [oD (if Z j = none ∨ Z j = some 0 then none else if prevV Z 0 j = 0 then some 1 else none)] = L4 Z (j + 1) := fun Z => by simp only [L4, List.range_succ, List.map_append, List.map_cons, List.map_nil, riseF]
      have s5 : ∀ Z Z' : Nat → Option Int, L5 Z Z' j ++ [.int (lastV (tk Z Z') 0 j)] = L5 Z Z' (j + 1) := fun Z Z' => by simp only [L5, List.range_succ, List.map_append, List.map_cons, List.map_nil, oD]
      have s6 : ∀ Z Z' : Nat → Option Int, L6 size w Z Z' j ++ [oD (atM size w Z Z' j)] = L6 size w Z Z' (j + 1) := fun Z Z' => by simp only [L6, List.range_succ, List.map_append, List.map_cons, List.map_nil]
      have s7 : ∀ Z Z' : Nat → Option Int, L7 Z Z' j ++ [.int (bI (okP Z Z' (j + 1)))] = L7 Z Z' (j + 1) := fun Z Z' => by simp only [L7, List.range_succ, List.map_append, List.map_cons, List.map_nil, oD]
      rw [s4, s5, s6, s7]
      rfl)
    (fun _ _ _ => rfl)
  obtain ⟨ρ', S', f1, e11, e12, e25, _, rfl, rfl⟩ := loop _ _ ⟨none, none, none, by omega, rfl, rfl⟩
  refine ⟨e11, e12, e25, ?_⟩
  have b62 : -big62 ≤ (rows.length : Int) ∧ (rows.length : Int) < big62 := by unfold big62; omega
  simp only [ranN_len] at f1
  simp only [s_law_15, evS_forr]
  refine Eq.trans ?_ f1
  simp [hdr, b62, -w_x, -w_y]
  rfl
end
end CM
end
section
/-! Q34: the law, statement by statement (printed by law5.py). -/
namespace CM
open PM B
section
variable {k : Nat} {st : St} {sc dr d1 n0 n1 n2 n3 n4 n5 n6 n7 : D} {xs ys cs A4 A5 A6 A7 A8 A9 : List D} {b : Nat} {size : Int} {w : PW} {n : Nat} {rows : List Ev} {e6 e11 e12 e18 e19 e20 e21 e22 e25 e27 : Option D}
theorem atI_n (i : Nat) (d : D) (l : List D) (h : l[i]? = some d) : atI l (i : Int) = some d := atI_some h
theorem at4 (a b c d e f g h : D) : atI [a, b, c, d, e, f, g, h] 4 = some e ∧ atI [a, b, c, d, e, f, g, h] 5 = some f ∧ atI [a, b, c, d, e, f, g, h] 6 = some g ∧ atI [a, b, c, d, e, f, g, h] 7 = some h := ⟨atI_some (m := 4) rfl, atI_some (m := 5) rfl, atI_some (m := 6) rfl, atI_some (m := 7) rfl⟩
theorem law_16 (hw : Wf (st ++ [MO.lst [n0, n1, n2, n3, n4, n5, n6, n7], MO.lst xs, MO.lst ys, MO.lst cs, MO.lst A4, MO.lst A5, MO.lst A6, MO.lst A7, MO.lst A8, MO.lst A9])) (h4 : A4 = L4 (sg rows w_x) rows.length) (h5 : A5 = L5 (sg rows w_x) (sg rows w_y) rows.length) (h6 : A6 = L6 size w (sg rows w_x) (sg rows w_y) rows.length) (h7 : A7 = L7 (sg rows w_x) (sg rows w_y) rows.length)
    (q2 : His k n2 d1 w_rise rows.length (riseF (sg rows w_x))) (q3 : His k n3 dr w_out rows.length fun i => some (lastV (tk (sg rows w_x) (sg rows w_y)) 0 i)) (q5 : His k n5 dr w_both rows.length (atM size w (sg rows w_x) (sg rows w_y))) (q7 : His k n7 dr w_ok rows.length fun i => some (bI (okP (sg rows w_x) (sg rows w_y) (i + 1)))) :
    evS (fun_ defs (k + 100)) s_law_16 [some sc, some (.ref b), some (.int size), some (.str w.tx), some (.int n), some (.ref st.length), none, some dr, some d1, some (.ref (st.length + 1)), some (.ref (st.length + 2)), e11, e12, some (.ref (st.length + 3)), some (.ref (st.length + 4)), some (.ref (st.length + 5)), some (.ref (st.length + 6)), some (.ref (st.length + 7)), e18, e19, e20, e21, e22, some (.ref (st.length + 8)), some (.ref (st.length + 9)), e25, none, none, none, none, none, none, none] (st ++ [MO.lst [n0, n1, n2, n3, n4, n5, n6, n7], MO.lst xs, MO.lst ys, MO.lst cs, MO.lst A4, MO.lst A5, MO.lst A6, MO.lst A7, MO.lst A8, MO.lst A9]) = .ok .nx [some sc, some (.ref b), some (.int size), some (.str w.tx), some (.int n), some (.ref st.length), none, some dr, some d1, some (.ref (st.length + 1)), some (.ref (st.length + 2)), e11, e12, some (.ref (st.length + 3)), some (.ref (st.length + 4)), some (.ref (st.length + 5)), some (.ref (st.length + 6)), some (.ref (st.length + 7)), e18, e19, e20, e21, e22, some (.ref (st.length + 8)), some (.ref (st.length + 9)), e25, none, none, none, none, none, none, none] (st ++ [MO.lst [n0, n1, n2, n3, n4, n5, n6, n7], MO.lst xs, MO.lst ys, MO.lst cs, MO.lst A4, MO.lst A5, MO.lst A6, MO.lst A7, MO.lst A8, MO.lst A9]) := by
  have g0 : getL (st ++ [MO.lst [n0, n1, n2, n3, n4, n5, n6, n7], MO.lst xs, MO.lst ys, MO.lst cs, MO.lst A4, MO.lst A5, MO.lst A6, MO.lst A7, MO.lst A8, MO.lst A9]) st.length = some [n0, n1, n2, n3, n4, n5, n6, n7] := by rw [getL_new0]; rfl
  have g4 : getL (st ++ [MO.lst [n0, n1, n2, n3, n4, n5, n6, n7], MO.lst xs, MO.lst ys, MO.lst cs, MO.lst A4, MO.lst A5, MO.lst A6, MO.lst A7, MO.lst A8, MO.lst A9]) (st.length + 4) = some A4 := by rw [getL_new]; rfl
  have g5 : getL (st ++ [MO.lst [n0, n1, n2, n3, n4, n5, n6, n7], MO.lst xs, MO.lst ys, MO.lst cs, MO.lst A4, MO.lst A5, MO.lst A6, MO.lst A7, MO.lst A8, MO.lst A9]) (st.length + 5) = some A5 := by rw [getL_new]; rfl
  have g6 : getL (st ++ [MO.lst [n0, n1, n2, n3, n4, n5, n6, n7], MO.lst xs, MO.lst ys, MO.lst cs, MO.lst A4, MO.lst A5, MO.lst A6, MO.lst A7, MO.lst A8, MO.lst A9]) (st.length + 6) = some A6 := by rw [getL_new]; rfl
  have g7 : getL (st ++ [MO.lst [n0, n1, n2, n3, n4, n5, n6, n7], MO.lst xs, MO.lst ys, MO.lst cs, MO.lst A4, MO.lst A5, MO.lst A6, MO.lst A7, MO.lst A8, MO.lst A9]) (st.length + 7) = some A7 := by rw [getL_new]; rfl
  have r2 := q2 _ hw
  have r3 := q3 _ hw
  have r5 := q5 _ hw
  have r7 := q7 _ hw
  have c2 := eq_shown (st ++ [MO.lst [n0, n1, n2, n3, n4, n5, n6, n7], MO.lst xs, MO.lst ys, MO.lst cs, MO.lst A4, MO.lst A5, MO.lst A6, MO.lst A7, MO.lst A8, MO.lst A9]) ((List.range rows.length).map (riseF (sg rows w_x)))
  have c3 := eq_shown (st ++ [MO.lst [n0, n1, n2, n3, n4, n5, n6, n7], MO.lst xs, MO.lst ys, MO.lst cs, MO.lst A4, MO.lst A5, MO.lst A6, MO.lst A7, MO.lst A8, MO.lst A9]) ((List.range rows.length).map fun i => some (lastV (tk (sg rows w_x) (sg rows w_y)) 0 i))
  have c5 := eq_shown (st ++ [MO.lst [n0, n1, n2, n3, n4, n5, n6, n7], MO.lst xs, MO.lst ys, MO.lst cs, MO.lst A4, MO.lst A5, MO.lst A6, MO.lst A7, MO.lst A8, MO.lst A9]) ((List.range rows.length).map (atM size w (sg rows w_x) (sg rows w_y)))
  have c7 := eq_shown (st ++ [MO.lst [n0, n1, n2, n3, n4, n5, n6, n7], MO.lst xs, MO.lst ys, MO.lst cs, MO.lst A4, MO.lst A5, MO.lst A6, MO.lst A7, MO.lst A8, MO.lst A9]) ((List.range rows.length).map fun i => some (bI (okP (sg rows w_x) (sg rows w_y) (i + 1))))
  have k4 := h4
  have k5 := h5
  have k6 := h6
  have k7 := h7
  unfold L4 at k4
  unfold L5 at k5
  unfold L6 at k6
  unfold L7 at k7
  rw [← k4] at r2 c2
  rw [← k5] at r3 c3
  rw [← k6] at r5 c5
  rw [← k7] at r7 c7
  clear h4 h5 h6 h7 k4 k5 k6 k7
  simp at r2 r3 r5 r7
  have a := at4 n0 n1 n2 n3 n4 n5 n6 n7
  simp [s_law_16, g0, g4, g5, g6, g7, r2, r3, r5, r7, gc_len, c2, c3, c5, c7, a.2.1, a.2.2.2]
theorem intsOf_iD (l : List Int) : intsOf (iD l) = some l := by
  induction l with
  | nil => rfl
  | cons a l ih =>
    show intsOf (.int a :: iD l) = _
    simp [intsOf, ih]
theorem sm_sum (X : Nat → Option Int) : ∀ i, ((List.range (i + 1)).filterMap X).sum = sm X i
  | 0 => by cases h : X 0 <;> simp [sm, h]
  | i + 1 => by
    rw [List.range_succ, List.filterMap_append, List.sum_append, sm_sum X i, sm]
    cases h : X (i + 1) <;> simp [h]
theorem p_sum_tl (l : List Int) (T : St) : p_sum [.tl (iD l)] T = .ok (.v (.int l.sum)) T := by simp [p_sum, intsOf_iD]
theorem law_17 (hw : Wf (st ++ [MO.lst [n0, n1, n2, n3, n4, n5, n6, n7], MO.lst xs, MO.lst ys, MO.lst cs, MO.lst A4, MO.lst A5, MO.lst A6, MO.lst A7, MO.lst A8, MO.lst A9])) (hm : rows.length ≤ 100) (hx : xs = sgD rows w_x) (hsz : 0 < size) (q4 : His k n4 d1 w_total rows.length fun i => some (sm (sg rows w_x) i % size)) :
    evS (fun_ defs (k + 100)) s_law_17 [some sc, some (.ref b), some (.int size), some (.str w.tx), some (.int n), some (.ref st.length), none, some dr, some d1, some (.ref (st.length + 1)), some (.ref (st.length + 2)), e11, e12, some (.ref (st.length + 3)), some (.ref (st.length + 4)), some (.ref (st.length + 5)), some (.ref (st.length + 6)), some (.ref (st.length + 7)), e18, e19, e20, e21, e22, some (.ref (st.length + 8)), some (.ref (st.length + 9)), e25, none, none, none, none, none, none, none] (st ++ [MO.lst [n0, n1, n2, n3, n4, n5, n6, n7], MO.lst xs, MO.lst ys, MO.lst cs, MO.lst A4, MO.lst A5, MO.lst A6, MO.lst A7, MO.lst A8, MO.lst A9]) = .ok .nx [some sc, some (.ref b), some (.int size), some (.str w.tx), some (.int n), some (.ref st.length), none, some dr, some d1, some (.ref (st.length + 1)), some (.ref (st.length + 2)), e11, e12, some (.ref (st.length + 3)), some (.ref (st.length + 4)), some (.ref (st.length + 5)), some (.ref (st.length + 6)), some (.ref (st.length + 7)), e18, e19, e20, e21, e22, some (.ref (st.length + 8)), some (.ref (st.length + 9)), e25, none, none, none, none, none, none, none] (st ++ [MO.lst [n0, n1, n2, n3, n4, n5, n6, n7], MO.lst xs, MO.lst ys, MO.lst cs, MO.lst A4, MO.lst A5, MO.lst A6, MO.lst A7, MO.lst A8, MO.lst A9]) := by
  have g0 : getL (st ++ [MO.lst [n0, n1, n2, n3, n4, n5, n6, n7], MO.lst xs, MO.lst ys, MO.lst cs, MO.lst A4, MO.lst A5, MO.lst A6, MO.lst A7, MO.lst A8, MO.lst A9]) st.length = some [n0, n1, n2, n3, n4, n5, n6, n7] := by rw [getL_new0]; rfl
  have g1 : getL (st ++ [MO.lst [n0, n1, n2, n3, n4, n5, n6, n7], MO.lst xs, MO.lst ys, MO.lst cs, MO.lst A4, MO.lst A5, MO.lst A6, MO.lst A7, MO.lst A8, MO.lst A9]) (st.length + 1) = some xs := by rw [getL_new]; rfl
  have r4 := q4 _ hw
  have c4 := eq_shown (st ++ [MO.lst [n0, n1, n2, n3, n4, n5, n6, n7], MO.lst xs, MO.lst ys, MO.lst cs, MO.lst A4, MO.lst A5, MO.lst A6, MO.lst A7, MO.lst A8, MO.lst A9]) ((List.range rows.length).map fun i => some (sm (sg rows w_x) i % size))
  have hl : xs.length = rows.length := by rw [hx]; simp [sgD]
  have b62 : -big62 ≤ (rows.length : Int) ∧ (rows.length : Int) < big62 := by unfold big62; omega
  have a := at4 n0 n1 n2 n3 n4 n5 n6 n7
  have e0 : ((List.range rows.length).map fun i => some (sm (sg rows w_x) i % size)).map oD = (List.range rows.length).map fun i => .int (sm (sg rows w_x) i % size) := by simp
  rw [e0] at r4 c4
  have lc : ∀ body : D → St → R (Option D), (∀ i, i < rows.length → body (.int (i : Int)) (st ++ [MO.lst [n0, n1, n2, n3, n4, n5, n6, n7], MO.lst xs, MO.lst ys, MO.lst cs, MO.lst A4, MO.lst A5, MO.lst A6, MO.lst A7, MO.lst A8, MO.lst A9]) = .ok (some (.int (sm (sg rows w_x) i % size))) (st ++ [MO.lst [n0, n1, n2, n3, n4, n5, n6, n7], MO.lst xs, MO.lst ys, MO.lst cs, MO.lst A4, MO.lst A5, MO.lst A6, MO.lst A7, MO.lst A8, MO.lst A9])) → lcLoop [] body (ranN rows.length) [] (st ++ [MO.lst [n0, n1, n2, n3, n4, n5, n6, n7], MO.lst xs, MO.lst ys, MO.lst cs, MO.lst A4, MO.lst A5, MO.lst A6, MO.lst A7, MO.lst A8, MO.lst A9]) = .ok (.tl ((List.range rows.length).map fun i => .int (sm (sg rows w_x) i % size))) (st ++ [MO.lst [n0, n1, n2, n3, n4, n5, n6, n7], MO.lst xs, MO.lst ys, MO.lst cs, MO.lst A4, MO.lst A5, MO.lst A6, MO.lst A7, MO.lst A8, MO.lst A9]) := fun body hb =>
    lc_ran rows.length (fun i => .int (sm (sg rows w_x) i % size)) _ _ hb (by omega)
  have hbody : ∀ i, i < rows.length → cut xs none (some ((i : Int) + 1)) = xs.take (i + 1) ∧ (xs.take (i + 1)).filter (fun d => !decide (d = .non)) = iD ((List.range (i + 1)).filterMap (sg rows w_x)) := fun i hi => by
    have hc := cut_take xs (i + 1) (by omega)
    have h3 : ((i + 1 : Nat) : Int) = (i : Int) + 1 := by omega
    rw [h3] at hc
    have h4 := cnt_take (sg rows w_x) rows.length i hi
    have h6 : xs = ((List.range rows.length).map (sg rows w_x)).map oD := hx
    rw [← h6] at h4
    exact ⟨hc, h4⟩
  revert r4 c4 lc
  generalize ((List.range rows.length).map fun i => D.int (sm (sg rows w_x) i % size)) = M
  intro r4 c4 lc
  simp at r4
  simp [s_law_17, g0, g1, r4, gc_len, a.1, hl, b62]
  rw [lc _ (fun i hi => by
    obtain ⟨q1, q2⟩ := hbody i hi
    simp [lcB, g1, q1]
    rw [filt_ok _ _ _ _ (by simp; omega) (by simp), q2]
    have := sm_sum (sg rows w_x) i
    simp [p_sum_tl, hsz, this, -w_x]
    rfl)]
  simp [c4]
theorem law_18 (T : St) (hn : n ≤ 20) : evS (fun_ defs (k + 100)) s_law_18 [some sc, some (.ref b), some (.int size), some (.str w.tx), some (.int n), some (.ref st.length), none, some dr, some d1, some (.ref (st.length + 1)), some (.ref (st.length + 2)), e11, e12, some (.ref (st.length + 3)), some (.ref (st.length + 4)), some (.ref (st.length + 5)), some (.ref (st.length + 6)), some (.ref (st.length + 7)), e18, e19, e20, e21, e22, some (.ref (st.length + 8)), some (.ref (st.length + 9)), e25, none, none, none, none, none, none, none] T = .ok .nx [some sc, some (.ref b), some (.int size), some (.str w.tx), some (.int n), some (.ref st.length), none, some dr, some d1, some (.ref (st.length + 1)), some (.ref (st.length + 2)), e11, e12, some (.ref (st.length + 3)), some (.ref (st.length + 4)), some (.ref (st.length + 5)), some (.ref (st.length + 6)), some (.ref (st.length + 7)), e18, e19, e20, e21, e22, some (.ref (st.length + 8)), some (.ref (st.length + 9)), e25, some (.str (w_abcdefghijklmnopqrstuvwyz.take n)), none, none, none, none, none, none] T := by
  have sl : p_slT [.v (.str w_abcdefghijklmnopqrstuvwyz), .v (.int n)] T = .ok (.v (.str (w_abcdefghijklmnopqrstuvwyz.take n))) T := by
    have h0 : w_abcdefghijklmnopqrstuvwyz.length = 25 := rfl
    have h25 : 25 ≤ szMax := by unfold szMax; omega
    have h2 : ¬ ((n : Int) < 0) := by omega
    have h3 : min n 25 = n := by omega
    unfold p_slT cutA
    simp only [h25, if_true, cut, sIx, h2, if_false, h0, Int.toNat_natCast, List.drop_zero, Nat.sub_zero, h3]
  simp only [s_law_18]
  revert sl
  generalize w_abcdefghijklmnopqrstuvwyz = LL
  intro sl
  simp [sl, -w_x]
theorem eq_strs (T : St) (l : List Tx) (h : ∀ x ∈ l, okTx x = true) : eqA T (.tl (sD l)) (.tl (sD l)) = some true := by
  have e : toPs (toP T eqN) (sD l) = some (l.map P.str) := by
    induction l with
    | nil => rfl
    | cons a l ih =>
      have ha := h a (by simp)
      show toPs _ (.str a :: sD l) = _
      simp [toPs, toP, ha, ih (fun x hx => h x (by simp [hx]))]
  simp [eqA, toPA, e, P.eqv_refl]
theorem lets_take2 : ∀ m : Nat, m < 21 → (w_abcdefghijklmnopqrstuvwyz.take m).map (fun c => [c]) = (List.range m).map fun i => lets.getD i [] := by decide +kernel
theorem lets_ok : ∀ i : Nat, i < 25 → okTx (lets.getD i []) = true := by decide +kernel
theorem law_19 (hn : n ≤ 20) (hs : 0 < size) (hN : NetD n6 (N_delay size n)) : evS (fun_ defs (k + 100)) s_law_19 [some sc, some (.ref b), some (.int size), some (.str w.tx), some (.int n), some (.ref st.length), none, some dr, some d1, some (.ref (st.length + 1)), some (.ref (st.length + 2)), e11, e12, some (.ref (st.length + 3)), some (.ref (st.length + 4)), some (.ref (st.length + 5)), some (.ref (st.length + 6)), some (.ref (st.length + 7)), e18, e19, e20, e21, e22, some (.ref (st.length + 8)), some (.ref (st.length + 9)), e25, some (.str (w_abcdefghijklmnopqrstuvwyz.take n)), none, none, none, none, none, none] (st ++ [MO.lst [n0, n1, n2, n3, n4, n5, n6, n7], MO.lst xs, MO.lst ys, MO.lst cs, MO.lst A4, MO.lst A5, MO.lst A6, MO.lst A7, MO.lst A8, MO.lst A9]) = .ok .nx [some sc, some (.ref b), some (.int size), some (.str w.tx), some (.int n), some (.ref st.length), none, some dr, some d1, some (.ref (st.length + 1)), some (.ref (st.length + 2)), e11, e12, some (.ref (st.length + 3)), some (.ref (st.length + 4)), some (.ref (st.length + 5)), some (.ref (st.length + 6)), some (.ref (st.length + 7)), e18, e19, e20, e21, e22, some (.ref (st.length + 8)), some (.ref (st.length + 9)), e25, some (.str (w_abcdefghijklmnopqrstuvwyz.take n)), none, none, none, none, none, none] (st ++ [MO.lst [n0, n1, n2, n3, n4, n5, n6, n7], MO.lst xs, MO.lst ys, MO.lst cs, MO.lst A4, MO.lst A5, MO.lst A6, MO.lst A7, MO.lst A8, MO.lst A9]) := by
  have g0 : getL (st ++ [MO.lst [n0, n1, n2, n3, n4, n5, n6, n7], MO.lst xs, MO.lst ys, MO.lst cs, MO.lst A4, MO.lst A5, MO.lst A6, MO.lst A7, MO.lst A8, MO.lst A9]) st.length = some [n0, n1, n2, n3, n4, n5, n6, n7] := by rw [getL_new0]; rfl
  obtain ⟨di, dc, ns, e1, e2, e3, h⟩ := hN
  have a := at4 n0 n1 n2 n3 n4 n5 n6 n7
  have hcn : (N_delay size n).cn = (List.range n).map fun i => lets.getD i [] := by simp [N_delay, Net.cn]
  have srt : p_srt [.v (.str (w_abcdefghijklmnopqrstuvwyz.take n))] (st ++ [MO.lst [n0, n1, n2, n3, n4, n5, n6, n7], MO.lst xs, MO.lst ys, MO.lst cs, MO.lst A4, MO.lst A5, MO.lst A6, MO.lst A7, MO.lst A8, MO.lst A9]) = .ok (.tl (sD (N_delay size n).cn)) (st ++ [MO.lst [n0, n1, n2, n3, n4, n5, n6, n7], MO.lst xs, MO.lst ys, MO.lst cs, MO.lst A4, MO.lst A5, MO.lst A6, MO.lst A7, MO.lst A8, MO.lst A9]) := by
    have hl : (w_abcdefghijklmnopqrstuvwyz.take n).length < 64 := by
      have h0 : w_abcdefghijklmnopqrstuvwyz.length = 25 := rfl
      rw [List.length_take]; omega
    unfold p_srt
    simp only [hl, if_true]
    rw [lets_take2 n (by omega), lets_srt n (by omega), hcn]
    rfl
  have lc : ∀ T body, (∀ c ∈ ns, ∀ x fd, tupOf (.v c) = some [.str x, fd] → x ∈ (N_delay size n).cn → body c T = .ok (some (.str x)) T) → lcLoop [] body ns [] T = .ok (.tl ((N_delay size n).cn.map .str)) T := fun T body hb =>
    lc_cells h (by simp [N_delay]; omega) T D.str body hb
  have q := eq_strs (st ++ [MO.lst [n0, n1, n2, n3, n4, n5, n6, n7], MO.lst xs, MO.lst ys, MO.lst cs, MO.lst A4, MO.lst A5, MO.lst A6, MO.lst A7, MO.lst A8, MO.lst A9]) (N_delay size n).cn (fun x hx => by
    rw [hcn] at hx
    obtain ⟨i, hi, rfl⟩ := List.mem_map.mp hx
    exact lets_ok i (by have := List.mem_range.mp hi; omega))
  have e4 : (N_delay size n).cn.map D.str = sD (N_delay size n).cn := rfl
  rw [e4] at lc
  revert srt lc q
  generalize sD (N_delay size n).cn = M
  generalize w_abcdefghijklmnopqrstuvwyz.take n = LL
  intro srt lc q
  simp [s_law_19, g0, a.2.2.1, e1, e3]
  rw [lc _ _ (fun c hc x fd hx _ => by simp [lcB, hx])]
  simp [srt, q]
/-- what the letters of the delay line show -/
theorem law_20 (hw : Wf (st ++ [MO.lst [n0, n1, n2, n3, n4, n5, n6, n7], MO.lst xs, MO.lst ys, MO.lst cs, MO.lst A4, MO.lst A5, MO.lst A6, MO.lst A7, MO.lst A8, MO.lst A9])) (hn : n ≤ 20) (hm : rows.length ≤ 100) (hx : xs = sgD rows w_x) (q6 : ∀ i, i < n → His k n6 d1 (lets.getD i []) rows.length (dl (sg rows w_x) i)) :
    ∀ e0, ∃ e11, evS (fun_ defs (k + 100)) s_law_20 [some sc, some (.ref b), some (.int size), some (.str w.tx), some (.int n), some (.ref st.length), none, some dr, some d1, some (.ref (st.length + 1)), some (.ref (st.length + 2)), e0, e12, some (.ref (st.length + 3)), some (.ref (st.length + 4)), some (.ref (st.length + 5)), some (.ref (st.length + 6)), some (.ref (st.length + 7)), e18, e19, e20, e21, e22, some (.ref (st.length + 8)), some (.ref (st.length + 9)), e25, some (.str (w_abcdefghijklmnopqrstuvwyz.take n)), none, none, none, none, none, none] (st ++ [MO.lst [n0, n1, n2, n3, n4, n5, n6, n7], MO.lst xs, MO.lst ys, MO.lst cs, MO.lst A4, MO.lst A5, MO.lst A6, MO.lst A7, MO.lst A8, MO.lst A9]) = .ok .nx [some sc, some (.ref b), some (.int size), some (.str w.tx), some (.int n), some (.ref st.length), none, some dr, some d1, some (.ref (st.length + 1)), some (.ref (st.length + 2)), e11, e12, some (.ref (st.length + 3)), some (.ref (st.length + 4)), some (.ref (st.length + 5)), some (.ref (st.length + 6)), some (.ref (st.length + 7)), e18, e19, e20, e21, e22, some (.ref (st.length + 8)), some (.ref (st.length + 9)), e25, some (.str (w_abcdefghijklmnopqrstuvwyz.take n)), none, none, none, none, none, none] (st ++ [MO.lst [n0, n1, n2, n3, n4, n5, n6, n7], MO.lst xs, MO.lst ys, MO.lst cs, MO.lst A4, MO.lst A5, MO.lst A6, MO.lst A7, MO.lst A8, MO.lst A9]) := by
  intro e0
  have g0 : getL (st ++ [MO.lst [n0, n1, n2, n3, n4, n5, n6, n7], MO.lst xs, MO.lst ys, MO.lst cs, MO.lst A4, MO.lst A5, MO.lst A6, MO.lst A7, MO.lst A8, MO.lst A9]) st.length = some [n0, n1, n2, n3, n4, n5, n6, n7] := by rw [getL_new0]; rfl
  have g1 : getL (st ++ [MO.lst [n0, n1, n2, n3, n4, n5, n6, n7], MO.lst xs, MO.lst ys, MO.lst cs, MO.lst A4, MO.lst A5, MO.lst A6, MO.lst A7, MO.lst A8, MO.lst A9]) (st.length + 1) = some xs := by rw [getL_new]; rfl
  have a := at4 n0 n1 n2 n3 n4 n5 n6 n7
  have hl : xs.length = rows.length := by rw [hx]; simp [sgD]
  have b62 : -big62 ≤ (rows.length : Int) ∧ (rows.length : Int) < big62 := by unfold big62; omega
  have b62n : -big62 ≤ (n : Int) ∧ (n : Int) < big62 := by unfold big62; omega
  have loop := frl_inv (F := (fun_ defs (k + 100))) (t := .nm 11) (b := b_law_2) (chk := [])
    (fun j ρ T => ∃ e11, ρ = [some sc, some (.ref b), some (.int size), some (.str w.tx), some (.int n), some (.ref st.length), none, some dr, some d1, some (.ref (st.length + 1)), some (.ref (st.length + 2)), e11, e12, some (.ref (st.length + 3)), some (.ref (st.length + 4)), some (.ref (st.length + 5)), some (.ref (st.length + 6)), some (.ref (st.length + 7)), e18, e19, e20, e21, e22, some (.ref (st.length + 8)), some (.ref (st.length + 9)), e25, some (.str (w_abcdefghijklmnopqrstuvwyz.take n)), none, none, none, none, none, none] ∧ T = st ++ [MO.lst [n0, n1, n2, n3, n4, n5, n6, n7], MO.lst xs, MO.lst ys, MO.lst cs, MO.lst A4, MO.lst A5, MO.lst A6, MO.lst A7, MO.lst A8, MO.lst A9]) (ranN n)
    (by
      rintro j d' ρ T hj ⟨e11, rfl, rfl⟩
      obtain ⟨hjl, hd'⟩ := ranN_get hj
      subst hd'
      refine ⟨rfl, _, rfl, _, _, .inl ?_, some (.int j), rfl, rfl⟩
      have r6 := q6 j hjl _ hw
      have c6 := eq_shown (st ++ [MO.lst [n0, n1, n2, n3, n4, n5, n6, n7], MO.lst xs, MO.lst ys, MO.lst cs, MO.lst A4, MO.lst A5, MO.lst A6, MO.lst A7, MO.lst A8, MO.lst A9]) ((List.range rows.length).map (dl (sg rows w_x) j))
      have e0 : ((List.range rows.length).map (dl (sg rows w_x) j)).map oD = (List.range rows.length).map fun i => oD (dl (sg rows w_x) j i) := by simp
      rw [e0] at r6 c6
      have hix : ixA (.v (.str (w_abcdefghijklmnopqrstuvwyz.take n))) (.int (j : Int)) (st ++ [MO.lst [n0, n1, n2, n3, n4, n5, n6, n7], MO.lst xs, MO.lst ys, MO.lst cs, MO.lst A4, MO.lst A5, MO.lst A6, MO.lst A7, MO.lst A8, MO.lst A9]) = some (.str (lets.getD j [])) := by
        have h0 : w_abcdefghijklmnopqrstuvwyz.length = 25 := rfl
        have h1 : (w_abcdefghijklmnopqrstuvwyz.take n).length = n := by rw [List.length_take]; omega
        have h2 : n ≤ szMax := by unfold szMax; omega
        have h3 := congrArg (fun l => l[j]?) (lets_take2 n (by omega))
        simp only [List.getElem?_map, List.getElem?_range hjl, Option.map_some] at h3
        unfold ixA
        simp only [h1, h2, if_true, ixN_nat hjl]
        cases hg : (w_abcdefghijklmnopqrstuvwyz.take n)[j]? with
        | none => rw [hg] at h3; cases h3
        | some c =>
          rw [hg] at h3
          simp only [Option.map_some, Option.some.injEq] at h3
          simp [h3]
      have lc : ∀ body : D → St → R (Option D), (∀ i, i < rows.length → body (.int (i : Int)) (st ++ [MO.lst [n0, n1, n2, n3, n4, n5, n6, n7], MO.lst xs, MO.lst ys, MO.lst cs, MO.lst A4, MO.lst A5, MO.lst A6, MO.lst A7, MO.lst A8, MO.lst A9]) = .ok (some (oD (dl (sg rows w_x) j i))) (st ++ [MO.lst [n0, n1, n2, n3, n4, n5, n6, n7], MO.lst xs, MO.lst ys, MO.lst cs, MO.lst A4, MO.lst A5, MO.lst A6, MO.lst A7, MO.lst A8, MO.lst A9])) → lcLoop [] body (ranN rows.length) [] (st ++ [MO.lst [n0, n1, n2, n3, n4, n5, n6, n7], MO.lst xs, MO.lst ys, MO.lst cs, MO.lst A4, MO.lst A5, MO.lst A6, MO.lst A7, MO.lst A8, MO.lst A9]) = .ok (.tl ((List.range rows.length).map fun i => oD (dl (sg rows w_x) j i))) (st ++ [MO.lst [n0, n1, n2, n3, n4, n5, n6, n7], MO.lst xs, MO.lst ys, MO.lst cs, MO.lst A4, MO.lst A5, MO.lst A6, MO.lst A7, MO.lst A8, MO.lst A9]) := fun body hb =>
        lc_ran rows.length (fun i => oD (dl (sg rows w_x) j i)) _ _ hb (by omega)
      have hbody : ∀ i, i < rows.length → j < i → atI xs ((i : Int) - (j : Int) - 1) = some (oD (dl (sg rows w_x) j i)) := fun i hi hji => by
        have e1 : (i : Int) - (j : Int) - 1 = ((i - j - 1 : Nat) : Int) := by omega
        rw [e1]
        refine atI_some ?_
        rw [hx]
        have : i - j - 1 < rows.length := by omega
        simp [sgD, this, dl, hji, -w_x]
      have hno : ∀ i, ¬ (j < i) → dl (sg rows w_x) j i = none := fun i hji => by simp [dl, hji]
      revert r6 c6 lc hix hbody hno
      generalize ((List.range rows.length).map fun i => oD (dl (sg rows w_x) j i)) = M
      generalize w_abcdefghijklmnopqrstuvwyz.take n = LL
      generalize lets.getD j [] = LJ
      generalize dl (sg rows w_x) j = DJ
      intro r6 c6 hix lc hbody hno
      simp [b_law_2, t_law_2_1, g0, g1, a.2.2.1, hix, r6, gc_len, hl, b62]
      rw [lc _ (fun i hi => by
        by_cases hji : j < i
        · have := hbody i hi hji
          simp [lcB, hji, g1, this]
        · have := hno i hji
          simp [lcB, hji, this])]
      simp [c6])
    (fun _ _ _ => rfl)
  obtain ⟨ρ', S', f1, e11', rfl, rfl⟩ := loop _ _ ⟨e0, rfl, rfl⟩
  refine ⟨e11', ?_⟩
  simp only [s_law_20, evS_forr]
  refine Eq.trans ?_ f1
  simp [b62n, -w_abcdefghijklmnopqrstuvwyz]
end
end CM
end
section
/-! Q35: the end of the law (printed by law6.py). -/
namespace CM
open PM B
section
variable {k : Nat} {st : St} {sc dr d1 n0 n1 n2 n3 n4 n5 n6 n7 : D} {xs ys cs A4 A5 A6 A7 A8 A9 : List D} {b : Nat} {size : Int} {w : PW} {n : Nat} {rows : List Ev} {e6 e11 e12 e18 e19 e20 e21 e22 e25 e26 e27 : Option D}
/-- what is known of a net of the law -/
structure Fac (d ev : D) (N : Net) : Prop where
  net : NetD d N
  fine : N.fineB = true
  ins : N.ins.length ≤ 4
  sem : ∃ rows T, Sem N rows T ∧ Rows N rows ∧ IsT ev (rows.map evD)
theorem Fac.ord {d ev : D} {N : Net} (h : Fac d ev N) : N.Good ∧ N.ins.Nodup ∧ Ord N N.ord := by
  have hg := good_of h.fine
  have h1 := h.fine
  simp only [Net.fineB, Bool.and_eq_true, decide_eq_true_eq, Net.soundB] at h1
  exact ⟨hg, h1.2, ord_ord hg h1.1.1.2.1⟩
theorem Fac.same {d ev : D} {N : Net} (h : Fac d ev N) (S : St) (hw : Wf S) : ∃ dP M, fun_ defs (k + 100) ix_compiled [d] S = .ok (.v dP) S ∧ fun_ defs (k + 100) ix_executed_all [dP, ev] S = .ok (.v M) S ∧ fun_ defs (k + 100) ix_meaning [d, ev] S = .ok (.v M) S ∧ eqA S (.v M) (.v M) = some true := by
  obtain ⟨hg, hni, ho⟩ := h.ord
  obtain ⟨rows, T, h1, h2, h3⟩ := h.sem
  have hin := h.ins
  obtain ⟨dP, c1, c2⟩ := compiled_ok (k := k + 95) (st := S) hg h.net (by omega) hni ho
  have ex := exec_net_ok (k := k + 94) (st := S) hg h2 h1 (by omega) ho dP ev c2 h3 hw
  have hb : ∀ x ∈ N.cn, N.ord.idxOf x < 20 := fun x hx => by
    have := idx_lt ((ho.mem x).mpr hx)
    have h4 := len_le_of_nodup N.ord N.cn ho.nd (fun x hx => (ho.mem x).mp hx)
    have h5 : N.cn.length ≤ 20 := by have := hg.len; simpa [Net.cn] using this
    omega
  have me := meaning_ok (k := k + 99) (st := S) hg h2 h1 h.net h3 (ranked_ord hg ho) hb hw (by omega)
  exact ⟨dP, _, c1, ex, me, eq_moms S N T rows.length⟩
theorem fac_his {d ev : D} {N : Net} {T : Tx → Nat → Option Int} {rows : List Ev} (h : Fac d ev N) (h1 : Sem N rows T) (h2 : Rows N rows) (h3 : IsT ev (rows.map evD)) (x : Tx) (hx : x ∈ N.cn) (m : Nat) (hm : rows.length = m) (g : Nat → Option Int) (hT : ∀ i, T x i = g i) : His k d ev x m g := by
  obtain ⟨hg, hni, ho⟩ := h.ord
  intro S hw
  have hb : ∀ x ∈ N.cn, N.ord.idxOf x < 20 := fun x hx => by
    have := idx_lt ((ho.mem x).mpr hx)
    have h4 := len_le_of_nodup N.ord N.cn ho.nd (fun x hx => (ho.mem x).mp hx)
    have h5 : N.cn.length ≤ 20 := by have := hg.len; simpa [Net.cn] using this
    omega
  have := history_ok (k := k + 99) (st := S) hg h2 h1 h.net h3 (ranked_ord hg ho) hb hw (by omega) x (.inr hx)
  rw [hist_eq, hm] at this
  have e : T x = g := funext hT
  rw [e] at this
  exact this
theorem law_21_body (hw : Wf (st ++ [MO.lst [n0, n1, n2, n3, n4, n5, n6, n7], MO.lst xs, MO.lst ys, MO.lst cs, MO.lst A4, MO.lst A5, MO.lst A6, MO.lst A7, MO.lst A8, MO.lst A9])) (d : D) (N : Net) (h : Fac d (if N.ins.length = 2 then dr else d1) N) : evSs (fun_ defs (k + 100)) b_law_3 [some sc, some (.ref b), some (.int size), some (.str w.tx), some (.int n), some (.ref st.length), some d, some dr, some d1, some (.ref (st.length + 1)), some (.ref (st.length + 2)), e11, e12, some (.ref (st.length + 3)), some (.ref (st.length + 4)), some (.ref (st.length + 5)), some (.ref (st.length + 6)), some (.ref (st.length + 7)), e18, e19, e20, e21, e22, some (.ref (st.length + 8)), some (.ref (st.length + 9)), e25, e26, e27, none, none, none, none, none] (st ++ [MO.lst [n0, n1, n2, n3, n4, n5, n6, n7], MO.lst xs, MO.lst ys, MO.lst cs, MO.lst A4, MO.lst A5, MO.lst A6, MO.lst A7, MO.lst A8, MO.lst A9]) = .ok .nx [some sc, some (.ref b), some (.int size), some (.str w.tx), some (.int n), some (.ref st.length), some d, some dr, some d1, some (.ref (st.length + 1)), some (.ref (st.length + 2)), e11, e12, some (.ref (st.length + 3)), some (.ref (st.length + 4)), some (.ref (st.length + 5)), some (.ref (st.length + 6)), some (.ref (st.length + 7)), e18, e19, e20, e21, e22, some (.ref (st.length + 8)), some (.ref (st.length + 9)), e25, e26, some (if N.ins.length = 2 then dr else d1), none, none, none, none, none] (st ++ [MO.lst [n0, n1, n2, n3, n4, n5, n6, n7], MO.lst xs, MO.lst ys, MO.lst cs, MO.lst A4, MO.lst A5, MO.lst A6, MO.lst A7, MO.lst A8, MO.lst A9]) := by
  obtain ⟨dP, M, q1, q2, q3, q4⟩ := h.same (k := k) _ hw
  obtain ⟨di, dc, ns, i1, i2, i3, _⟩ := h.net
  by_cases hi : N.ins.length = 2
  · rw [if_pos hi] at q2 q3 ⊢
    simp [b_law_3, t_law_3_1, t_law_3_2, i1, i2, hi, q1, q2, q3, gc_len, q4]
  · rw [if_neg hi] at q2 q3 ⊢
    have hi2 : ¬ ((N.ins.length : Int) = 2) := by omega
    simp [b_law_3, t_law_3_1, t_law_3_2, i1, i2, hi2, q1, q2, q3, gc_len, q4]
theorem law_21 (hw : Wf (st ++ [MO.lst [n0, n1, n2, n3, n4, n5, n6, n7], MO.lst xs, MO.lst ys, MO.lst cs, MO.lst A4, MO.lst A5, MO.lst A6, MO.lst A7, MO.lst A8, MO.lst A9])) (hf : ∀ d ∈ [n0, n1, n2, n3, n4, n5, n6, n7], ∃ N : Net, Fac d (if N.ins.length = 2 then dr else d1) N) : ∃ e6' e27', evS (fun_ defs (k + 100)) s_law_21 [some sc, some (.ref b), some (.int size), some (.str w.tx), some (.int n), some (.ref st.length), none, some dr, some d1, some (.ref (st.length + 1)), some (.ref (st.length + 2)), e11, e12, some (.ref (st.length + 3)), some (.ref (st.length + 4)), some (.ref (st.length + 5)), some (.ref (st.length + 6)), some (.ref (st.length + 7)), e18, e19, e20, e21, e22, some (.ref (st.length + 8)), some (.ref (st.length + 9)), e25, e26, none, none, none, none, none, none] (st ++ [MO.lst [n0, n1, n2, n3, n4, n5, n6, n7], MO.lst xs, MO.lst ys, MO.lst cs, MO.lst A4, MO.lst A5, MO.lst A6, MO.lst A7, MO.lst A8, MO.lst A9]) = .ok .nx [some sc, some (.ref b), some (.int size), some (.str w.tx), some (.int n), some (.ref st.length), e6', some dr, some d1, some (.ref (st.length + 1)), some (.ref (st.length + 2)), e11, e12, some (.ref (st.length + 3)), some (.ref (st.length + 4)), some (.ref (st.length + 5)), some (.ref (st.length + 6)), some (.ref (st.length + 7)), e18, e19, e20, e21, e22, some (.ref (st.length + 8)), some (.ref (st.length + 9)), e25, e26, e27', none, none, none, none, none] (st ++ [MO.lst [n0, n1, n2, n3, n4, n5, n6, n7], MO.lst xs, MO.lst ys, MO.lst cs, MO.lst A4, MO.lst A5, MO.lst A6, MO.lst A7, MO.lst A8, MO.lst A9]) := by
  have g0 : getL (st ++ [MO.lst [n0, n1, n2, n3, n4, n5, n6, n7], MO.lst xs, MO.lst ys, MO.lst cs, MO.lst A4, MO.lst A5, MO.lst A6, MO.lst A7, MO.lst A8, MO.lst A9]) st.length = some [n0, n1, n2, n3, n4, n5, n6, n7] := by rw [getL_new0]; rfl
  have ch := chkOf_lst g0
  have loop := frl_inv (F := (fun_ defs (k + 100))) (t := .nm 6) (b := b_law_3) (chk := [(st.length, .lst [n0, n1, n2, n3, n4, n5, n6, n7])])
    (fun j ρ T => ∃ e6 e27, ρ = [some sc, some (.ref b), some (.int size), some (.str w.tx), some (.int n), some (.ref st.length), e6, some dr, some d1, some (.ref (st.length + 1)), some (.ref (st.length + 2)), e11, e12, some (.ref (st.length + 3)), some (.ref (st.length + 4)), some (.ref (st.length + 5)), some (.ref (st.length + 6)), some (.ref (st.length + 7)), e18, e19, e20, e21, e22, some (.ref (st.length + 8)), some (.ref (st.length + 9)), e25, e26, e27, none, none, none, none, none] ∧ T = st ++ [MO.lst [n0, n1, n2, n3, n4, n5, n6, n7], MO.lst xs, MO.lst ys, MO.lst cs, MO.lst A4, MO.lst A5, MO.lst A6, MO.lst A7, MO.lst A8, MO.lst A9]) [n0, n1, n2, n3, n4, n5, n6, n7]
    (by
      rintro j d ρ T hj ⟨e6, e27, rfl, rfl⟩
      obtain ⟨N, hN⟩ := hf d (List.mem_of_getElem? hj)
      exact ⟨alive_lst g0, _, rfl, _, _, .inl (law_21_body hw d N hN), _, _, rfl, rfl⟩)
    (fun ρ T ⟨_, _, _, hT⟩ => by rw [hT]; exact alive_lst g0)
  obtain ⟨ρ', S', f1, e6', e27', rfl, rfl⟩ := loop _ _ ⟨none, none, rfl, rfl⟩
  refine ⟨e6', e27', ?_⟩
  simp only [s_law_21, evS_forr]
  refine Eq.trans ?_ f1
  simp [g0, ch]
theorem toP_T {T : St} {m : Nat} {d : D} {l : List D} (h : tupOf (.v d) = some l) : toP T (m + 1) d = (toPs (toP T m) l).map .tup := by
  rcases IsT.cases h with rfl | rfl <;> rfl
def N_x1 : Net := ⟨2, [w_x], [(w_a, .copy w_b)]⟩
def N_x2 : Net := ⟨2, [w_x, w_y], [(w_a, .worth 1), (w_b, .copy w_x)]⟩
theorem x1_facts : N_x1.okB = true ∧ N_x1.knownB = false := by decide +kernel
theorem x2_fine : N_x2.fineB = true := by decide +kernel
theorem eq_x2 (T : St) (d : D) (h : NetD d N_x2) : eqA T (.v d) (.v (.tup [.int 2, .tup [.str w_x, .str w_y], .tup [.tup [.str w_a, .tup [.str w_worth, .int 1]], .tup [.str w_b, .tup [.str w_copy, .str w_x]]]])) = some true := by
  obtain ⟨di, dc, ns, i1, i2, i3, h⟩ := h
  unfold N_x2 at h i1 i2
  simp only at h i1 i2
  cases h with
  | cons r1 h =>
    cases h with
    | cons r2 h =>
      cases h
      obtain ⟨f1, a1, b1⟩ := r1
      obtain ⟨f2, a2, b2⟩ := r2
      simp only [FoD] at b1 b2 a1 a2
      have p1 : ∀ m, toP T (m + 1) f1 = some (.tup [.str w_worth, .int 1]) := fun m => by rw [toP_T b1]; cases m <;> simp [toPs, toP]
      have p2 : ∀ m, toP T (m + 1) f2 = some (.tup [.str w_copy, .str w_x]) := fun m => by rw [toP_T b2]; cases m <;> simp [toPs, toP]
      have e1 : toP T eqN d = some (.tup [.int 2, .tup [.str w_x, .str w_y], .tup [.tup [.str w_a, .tup [.str w_worth, .int 1]], .tup [.str w_b, .tup [.str w_copy, .str w_x]]]]) := by
        unfold eqN
        rw [toP_T i1]
        simp only [toPs]
        rw [toP_T i2, toP_T i3]
        simp only [toPs, sD, List.map_cons, List.map_nil]
        rw [toP_T a1, toP_T a2]
        simp only [toPs]
        rw [p1, p2]
        simp [toP]
      have e2 : toP T eqN (.tup [.int 2, .tup [.str w_x, .str w_y], .tup [.tup [.str w_a, .tup [.str w_worth, .int 1]], .tup [.str w_b, .tup [.str w_copy, .str w_x]]]]) = some (.tup [.int 2, .tup [.str w_x, .str w_y], .tup [.tup [.str w_a, .tup [.str w_worth, .int 1]], .tup [.str w_b, .tup [.str w_copy, .str w_x]]]]) := by
        simp [eqN, toP, toPs]
      simp only [eqA, toPA, e1, e2, P.eqv_refl]
theorem law_22 (T : St) (ρ : Env) : evS (fun_ defs (k + 100)) s_law_22 ρ T = .ok (.rt (.v (.bl true))) ρ T := by
  have h1 := net_of_ok (N := N_x1) (k := k + 93) (st := T ++ [.dct [(.str w_a, .tup [.str w_copy, .str w_b])]]) (.tup [.str w_x]) [w_x] [w_a] T.length [(.str w_a, .tup [.str w_copy, .str w_b])] rfl rfl (by simp) (by rw [getK_new0]; rfl) rfl rfl (by simp) (by
    intro p hp
    simp only [N_x1, List.mem_cons, List.not_mem_nil, or_false] at hp
    subst hp
    exact ⟨_, rfl, rfl⟩) x1_facts.1 (fun h => by rw [x1_facts.2] at h; cases h)
  rw [x1_facts.2] at h1
  simp only [Bool.false_eq_true, if_false] at h1
  obtain ⟨d, h2, h3⟩ := draft_ok (N := N_x2) (k := k + 93) (st := T ++ [.dct [(.str w_b, .tup [.str w_copy, .str w_x]), (.str w_a, .tup [.str w_worth, .int 1])]]) x2_fine (.tup [.str w_y, .str w_x]) [w_y, w_x] [w_b, w_a] T.length _ rfl rfl (by simp) (by rw [getK_new0]; rfl) rfl rfl (by simp) (by
    intro p hp
    simp only [N_x2, List.mem_cons, List.not_mem_nil, or_false] at hp
    rcases hp with rfl | rfl <;> exact ⟨_, rfl, rfl⟩)
  have q := eq_x2 T d h3
  have gd := fun o => gc_app_v T [o] d (h3.bel _)
  have gn := fun o => gc_app_v T [o] .non rfl
  simp [N_x1, N_x2] at h1 h2
  simp at q
  simp [s_law_22]
  rw [mergeD_new _ _ (by simp)]
  simp [h1, gn]
  rw [mergeD_new _ _ (by simp)]
  simp [h2, gd, q]
end
end CM
end
section
/-! Q36: the beginning of the law (printed by law7.py). -/
namespace CM
open PM B
section
variable {k : Nat} {st : St} {sc dr d1 n0 n1 n2 n3 n4 n5 n6 n7 : D} {b r : Nat} {size : Int} {w : PW} {n m : Nat} {row : List Int}
theorem law_1 (ns : List Int) (hl : ns.length ≤ 63) : ∃ B b r row, Box B b r row 0 ∧ evS (fun_ defs (k + 100)) s_law_1 [some (.fls (ns.map .int)), none, none, none, none, none, none, none, none, none, none, none, none, none, none, none, none, none, none, none, none, none, none, none, none, none, none, none, none, none, none, none, none] [] = .ok .nx [some (.fls (ns.map .int)), some (.ref b), none, none, none, none, none, none, none, none, none, none, none, none, none, none, none, none, none, none, none, none, none, none, none, none, none, none, none, none, none, none, none] B := by
  obtain ⟨gs, r, row, h1, h2, h3, h4, h5⟩ := box_ok (k := k + 98) ns hl
  have hlt := getL_lt h2
  refine ⟨gs ++ [.dct (boxD r 0)], gs.length, r, row, ?_, ?_⟩
  · exact
    { k := by rw [getK_new0]; rfl
      r := by rw [getL_app hlt]; exact h2
      ne := h3
      le := h4
      wf := h5.app (fun x hx => by
        simp only [List.mem_singleton] at hx
        subst hx
        simp [MO.bel, kvBelow, boxD, D.bel]; omega) }
  · have g : gc [] (.td (boxD r 0)) gs = (.td (boxD r 0), gs) := by
      unfold gc
      split
      · rfl
      · simp [kvBelow, boxD, D.bel]
    simp [s_law_1, h1, g]
theorem law_2 (h : Box st b r row m) : ∃ size : Int, 2 ≤ size ∧ size ≤ 5 ∧ evS (fun_ defs (k + 100)) s_law_2 [some sc, some (.ref b), none, none, none, none, none, none, none, none, none, none, none, none, none, none, none, none, none, none, none, none, none, none, none, none, none, none, none, none, none, none, none] st = .ok .nx [some sc, some (.ref b), some (.int size), none, none, none, none, none, none, none, none, none, none, none, none, none, none, none, none, none, none, none, none, none, none, none, none, none, none, none, none, none, none] (drawn st b r (m + 1)) := by
  obtain ⟨v, v1, v2, v3⟩ := take_ok (k := k + 99) h 4 (by omega)
  refine ⟨2 + v, by omega, by omega, ?_⟩
  simp [s_law_2, v3, gc_len, drawn]
theorem law_3 (h : Box st b r row m) : ∃ w : PW, evS (fun_ defs (k + 100)) s_law_3 [some sc, some (.ref b), some (.int size), none, none, none, none, none, none, none, none, none, none, none, none, none, none, none, none, none, none, none, none, none, none, none, none, none, none, none, none, none, none] st = .ok .nx [some sc, some (.ref b), some (.int size), some (.str w.tx), none, none, none, none, none, none, none, none, none, none, none, none, none, none, none, none, none, none, none, none, none, none, none, none, none, none, none, none, none] (drawn st b r (m + 1)) := by
  have hw : ∀ os : St, (∀ x ∈ os, ∀ n, MO.bel n x = true) → Wf (st ++ os) := fun os ho => h.wf.app (fun x hx => ho x hx _)
  have hb := h.app [.lst [.str w_add, .str w_times, .str w_least, .str w_most, .str w_alike, .str w_less]] (hw _ (fun x hx n => by simp only [List.mem_singleton] at hx; subst hx; rfl))
  have hne : b ≠ st.length := by have := h.lt; omega
  obtain ⟨x, x1, x2⟩ := pick_ok (k := k + 98) hb st.length _ (by rw [getL_new0]; rfl) hne (by simp)
  have hx : ∃ w : PW, x = .str w.tx := by
    simp only [List.mem_cons, List.not_mem_nil, or_false] at x1
    rcases x1 with rfl | rfl | rfl | rfl | rfl | rfl
    · exact ⟨.add, rfl⟩
    · exact ⟨.times, rfl⟩
    · exact ⟨.least, rfl⟩
    · exact ⟨.most, rfl⟩
    · exact ⟨.alike, rfl⟩
    · exact ⟨.less, rfl⟩
  obtain ⟨w, rfl⟩ := hx
  refine ⟨w, ?_⟩
  have dE : drawn (st ++ [MO.lst [.str w_add, .str w_times, .str w_least, .str w_most, .str w_alike, .str w_less]]) b r (m + 1) = st.set b (.dct (boxD r (m + 1))) ++ [MO.lst [.str w_add, .str w_times, .str w_least, .str w_most, .str w_alike, .str w_less]] := by
    unfold drawn
    rw [List.set_append_left _ _ h.lt.2.1]
  rw [dE] at x2
  have g := gc_set_v st [MO.lst [.str w_add, .str w_times, .str w_least, .str w_most, .str w_alike, .str w_less]] (.str w.tx) b (.dct (boxD r (m + 1))) rfl h.wf (boxD_bel h _)
  simp at x2 g
  simp [s_law_3, x2, g, drawn]
theorem law_4 (h : Box st b r row m) : ∃ n : Nat, 1 ≤ n ∧ n ≤ 20 ∧ evS (fun_ defs (k + 100)) s_law_4 [some sc, some (.ref b), some (.int size), some (.str w.tx), none, none, none, none, none, none, none, none, none, none, none, none, none, none, none, none, none, none, none, none, none, none, none, none, none, none, none, none, none] st = .ok .nx [some sc, some (.ref b), some (.int size), some (.str w.tx), some (.int n), none, none, none, none, none, none, none, none, none, none, none, none, none, none, none, none, none, none, none, none, none, none, none, none, none, none, none, none] (drawn st b r (m + 1)) := by
  obtain ⟨v, v1, v2, v3⟩ := take_ok (k := k + 99) h 20 (by omega)
  obtain ⟨u, rfl⟩ : ∃ u : Nat, v = (u : Int) := ⟨v.toNat, by omega⟩
  refine ⟨1 + u, by omega, by omega, ?_⟩
  simp [s_law_4, v3, gc_len, drawn]
/-- the eight nets -/
structure Nets (size : Int) (w : PW) (n : Nat) (n0 n1 n2 n3 n4 n5 n6 n7 : D) : Prop where
  h0 : NetD n0 (N_counter size)
  h1 : NetD n1 (N_toggle size)
  h2 : NetD n2 (N_edges size)
  h3 : NetD n3 (N_latch size)
  h4 : NetD n4 (N_sums size)
  h5 : NetD n5 (N_pairing size w)
  h6 : NetD n6 (N_delay size n)
  h7 : NetD n7 (N_alternation size)
theorem law_5 (hs : 2 ≤ size ∧ size ≤ 5) (hn : n ≤ 20) : ∃ n0 n1 n2 n3 n4 n5 n6 n7, Nets size w n n0 n1 n2 n3 n4 n5 n6 n7 ∧ evS (fun_ defs (k + 100)) s_law_5 [some sc, some (.ref b), some (.int size), some (.str w.tx), some (.int n), none, none, none, none, none, none, none, none, none, none, none, none, none, none, none, none, none, none, none, none, none, none, none, none, none, none, none, none] st = .ok .nx [some sc, some (.ref b), some (.int size), some (.str w.tx), some (.int n), some (.ref st.length), none, none, none, none, none, none, none, none, none, none, none, none, none, none, none, none, none, none, none, none, none, none, none, none, none, none, none] (st ++ [MO.lst [n0, n1, n2, n3, n4, n5, n6, n7]]) := by
  obtain ⟨n0, a0, b0⟩ := counter_ok (k := k + 92) (st := st) size hs
  obtain ⟨n1, a1, b1⟩ := toggle_ok (k := k + 92) (st := st) size hs
  obtain ⟨n2, a2, b2⟩ := edges_ok (k := k + 92) (st := st) size hs
  obtain ⟨n3, a3, b3⟩ := latch_ok (k := k + 92) (st := st) size hs
  obtain ⟨n4, a4, b4⟩ := sums_ok (k := k + 92) (st := st) size hs
  obtain ⟨n5, a5, b5⟩ := pairing_ok (k := k + 92) (st := st) size w hs
  obtain ⟨n6, a6, b6⟩ := delay_ok (k := k + 92) (st := st) size n hs hn
  obtain ⟨n7, a7, b7⟩ := alternation_ok (k := k + 92) (st := st) size hs
  refine ⟨n0, n1, n2, n3, n4, n5, n6, n7, ⟨b0, b1, b2, b3, b4, b5, b6, b7⟩, ?_⟩
  simp [s_law_5, a0, a1, a2, a3, a4, a5, a6, a7, gc_len]
theorem all_fine {size : Int} (h : 2 ≤ size ∧ size ≤ 5) (w : PW) (n : Nat) (hn : n ≤ 20) : (N_counter size).fineB = true ∧ (N_toggle size).fineB = true ∧ (N_edges size).fineB = true ∧ (N_latch size).fineB = true ∧ (N_sums size).fineB = true ∧ (N_pairing size w).fineB = true ∧ (N_delay size n).fineB = true ∧ (N_alternation size).fineB = true := by
  have e : ((size - 2).toNat : Int) + 2 = size := by omega
  have hl : (size - 2).toNat < 4 := by omega
  have h0 := counter_fine _ hl
  have h1 := toggle_fine _ hl
  have h2 := edges_fine _ hl
  have h3 := latch_fine _ hl
  have h4 := sums_fine _ hl
  have h5 := pairing_fine w _ hl
  have h6 := delay_fine n (by omega) _ hl
  have h7 := alternation_fine _ hl
  rw [e] at h0 h1 h2 h3 h4 h5 h6 h7
  exact ⟨h0, h1, h2, h3, h4, h5, h6, h7⟩
theorem no_fault {N : Net} (hf : N.fineB = true) (d : D) (h : NetD d N) : fun_ defs (k + 6) ix_net_fault [d] st = .ok (.v .non) st := by
  have hg := good_of hf
  simp only [Net.fineB, Bool.and_eq_true, decide_eq_true_eq] at hf
  have := fault_ok (k := k) (st := st) h hf.1.1.1.1 (fun _ => ⟨hg, hf.2, hf.1.1.2⟩)
  rw [hf.1.1.1.2] at this
  exact this
theorem toPs_ins (T : St) (m : Nat) : ∀ (ds : List D) (is : List (List Tx)), All2 (fun d i => IsT d (sD i) ∧ ∀ x ∈ i, okTx x = true) ds is → toPs (toP T (m + 1)) ds = some (is.map fun i => .tup (i.map P.str))
  | [], _, .nil => rfl
  | d :: ds, _, .cons (b := i) r h => by
    have h1 : toPs (toP T m) (sD i) = some (i.map P.str) := by
      have h2 := r.2
      clear r
      induction i with
      | nil => rfl
      | cons a l ih =>
        have ha := h2 a (by simp)
        have ih' := ih (fun x hx => h2 x (by simp [hx]))
        show toPs _ (.str a :: sD l) = _
        cases m <;> simp [toPs, toP, ha, ih']
    have h2 := toPs_ins T m ds _ h
    simp [toPs, toP_T r.1, h1, h2]
theorem law_6 (hs : 2 ≤ size ∧ size ≤ 5) (hn : n ≤ 20) (hN : Nets size w n n0 n1 n2 n3 n4 n5 n6 n7) : evS (fun_ defs (k + 100)) s_law_6 [some sc, some (.ref b), some (.int size), some (.str w.tx), some (.int n), some (.ref st.length), none, none, none, none, none, none, none, none, none, none, none, none, none, none, none, none, none, none, none, none, none, none, none, none, none, none, none] (st ++ [MO.lst [n0, n1, n2, n3, n4, n5, n6, n7]]) = .ok .nx [some sc, some (.ref b), some (.int size), some (.str w.tx), some (.int n), some (.ref st.length), none, none, none, none, none, none, none, none, none, none, none, none, none, none, none, none, none, none, none, none, none, none, none, none, none, none, none] (st ++ [MO.lst [n0, n1, n2, n3, n4, n5, n6, n7]]) := by
  have g0 : getL (st ++ [MO.lst [n0, n1, n2, n3, n4, n5, n6, n7]]) st.length = some [n0, n1, n2, n3, n4, n5, n6, n7] := by rw [getL_new0]; rfl
  have ch := chkOf_lst g0
  obtain ⟨f0, f1, f2, f3, f4, f5, f6, f7⟩ := all_fine hs w n hn
  have one : ∀ d ∈ [n0, n1, n2, n3, n4, n5, n6, n7], (∀ T, fun_ defs (k + 100) ix_net_fault [d] T = .ok (.v .non) T) ∧ ∃ i c, tupOf (.v d) = some [.int size, i, c] := fun d hd => by
    have go : ∀ N : Net, N.fineB = true → NetD d N → N.size = size → (∀ T, fun_ defs (k + 100) ix_net_fault [d] T = .ok (.v .non) T) ∧ ∃ i c, tupOf (.v d) = some [.int size, i, c] := fun N h1 h2 h3 => by
      refine ⟨fun T => no_fault (k := k + 94) h1 d h2, ?_⟩
      obtain ⟨di, dc, cs, e1, _⟩ := h2
      rw [h3] at e1
      exact ⟨di, dc, e1⟩
    simp only [List.mem_cons, List.not_mem_nil, or_false] at hd
    rcases hd with rfl | rfl | rfl | rfl | rfl | rfl | rfl | rfl
    · exact go _ f0 hN.h0 rfl
    · exact go _ f1 hN.h1 rfl
    · exact go _ f2 hN.h2 rfl
    · exact go _ f3 hN.h3 rfl
    · exact go _ f4 hN.h4 rfl
    · exact go _ f5 hN.h5 rfl
    · exact go _ f6 hN.h6 rfl
    · exact go _ f7 hN.h7 rfl
  have ins : ∀ (d : D) (N : Net), NetD d N → ∃ i, IsT i (sD N.ins) ∧ ((tupOf (.v d)).getD []).getD 1 .non = i := fun d N h => by
    obtain ⟨di, dc, cs, e1, e2, _⟩ := h
    exact ⟨di, e2, by simp [e1]⟩
  obtain ⟨i0, p0, q0⟩ := ins _ _ hN.h0
  obtain ⟨i1, p1, q1⟩ := ins _ _ hN.h1
  obtain ⟨i2, p2, q2⟩ := ins _ _ hN.h2
  obtain ⟨i3, p3, q3⟩ := ins _ _ hN.h3
  obtain ⟨i4, p4, q4⟩ := ins _ _ hN.h4
  obtain ⟨i5, p5, q5⟩ := ins _ _ hN.h5
  obtain ⟨i6, p6, q6⟩ := ins _ _ hN.h6
  obtain ⟨i7, p7, q7⟩ := ins _ _ hN.h7
  have lcI : ∀ body : D → St → R (Option D), (∀ d ∈ [n0, n1, n2, n3, n4, n5, n6, n7], body d (st ++ [MO.lst [n0, n1, n2, n3, n4, n5, n6, n7]]) = .ok (some (((tupOf (.v d)).getD []).getD 1 .non)) (st ++ [MO.lst [n0, n1, n2, n3, n4, n5, n6, n7]])) → lcLoop [(st.length, .lst [n0, n1, n2, n3, n4, n5, n6, n7])] body [n0, n1, n2, n3, n4, n5, n6, n7] [] (st ++ [MO.lst [n0, n1, n2, n3, n4, n5, n6, n7]]) = .ok (.tl [i0, i1, i2, i3, i4, i5, i6, i7]) (st ++ [MO.lst [n0, n1, n2, n3, n4, n5, n6, n7]]) := fun body hb => by
    rw [lcLoop_map (fun d => ((tupOf (.v d)).getD []).getD 1 .non) (alive_lst g0) _ [] hb (by simp)]
    simp only [List.map_cons, List.map_nil, q0, q1, q2, q3, q4, q5, q6, q7, List.nil_append]
  have ox : ∀ x ∈ [w_x], okTx x = true := by decide
  have oxy : ∀ x ∈ [w_x, w_y], okTx x = true := by decide
  have t1 := toPs_ins (st ++ [MO.lst [n0, n1, n2, n3, n4, n5, n6, n7]]) 39 [i0, i1, i2, i3, i4, i5, i6, i7] [[w_x], [w_x], [w_x], [w_x, w_y], [w_x], [w_x, w_y], [w_x], [w_x, w_y]] (.cons ⟨p0, ox⟩ (.cons ⟨p1, ox⟩ (.cons ⟨p2, ox⟩ (.cons ⟨p3, oxy⟩ (.cons ⟨p4, ox⟩ (.cons ⟨p5, oxy⟩ (.cons ⟨p6, ox⟩ (.cons ⟨p7, oxy⟩ .nil))))))))
  have t2 := toPs_ins (st ++ [MO.lst [n0, n1, n2, n3, n4, n5, n6, n7]]) 39 [.tup [.str w_x], .tup [.str w_x], .tup [.str w_x], .tup [.str w_x, .str w_y], .tup [.str w_x], .tup [.str w_x, .str w_y], .tup [.str w_x], .tup [.str w_x, .str w_y]] [[w_x], [w_x], [w_x], [w_x, w_y], [w_x], [w_x, w_y], [w_x], [w_x, w_y]] (.cons ⟨rfl, ox⟩ (.cons ⟨rfl, ox⟩ (.cons ⟨rfl, ox⟩ (.cons ⟨rfl, oxy⟩ (.cons ⟨rfl, ox⟩ (.cons ⟨rfl, oxy⟩ (.cons ⟨rfl, ox⟩ (.cons ⟨rfl, oxy⟩ .nil))))))))
  have eq : eqA (st ++ [MO.lst [n0, n1, n2, n3, n4, n5, n6, n7]]) (.tl [i0, i1, i2, i3, i4, i5, i6, i7]) (.tl [.tup [.str w_x], .tup [.str w_x], .tup [.str w_x], .tup [.str w_x, .str w_y], .tup [.str w_x], .tup [.str w_x, .str w_y], .tup [.str w_x], .tup [.str w_x, .str w_y]]) = some true := by
    have e1 : toPA (st ++ [MO.lst [n0, n1, n2, n3, n4, n5, n6, n7]]) (.tl [i0, i1, i2, i3, i4, i5, i6, i7]) = some (.lst ([[w_x], [w_x], [w_x], [w_x, w_y], [w_x], [w_x, w_y], [w_x], [w_x, w_y]].map fun i => .tup (i.map P.str))) := by unfold toPA eqN; simp only [t1]; rfl
    have e2 : toPA (st ++ [MO.lst [n0, n1, n2, n3, n4, n5, n6, n7]]) (.tl [.tup [.str w_x], .tup [.str w_x], .tup [.str w_x], .tup [.str w_x, .str w_y], .tup [.str w_x], .tup [.str w_x, .str w_y], .tup [.str w_x], .tup [.str w_x, .str w_y]]) = some (.lst ([[w_x], [w_x], [w_x], [w_x, w_y], [w_x], [w_x, w_y], [w_x], [w_x, w_y]].map fun i => .tup (i.map P.str))) := by unfold toPA eqN; simp only [t2]; rfl
    simp only [eqA, e1, e2, P.eqv_refl]
  simp at eq
  simp [s_law_6, g0, ch]
  rw [lc_const _ [n0, n1, n2, n3, n4, n5, n6, n7] (by simp) (.bl false) _ (alive_lst g0) (fun d hd => by
    obtain ⟨z1, i, c, z2⟩ := one d hd
    simp [lcB, z1, z2, gc_len])]
  simp [blsOf, g0, ch]
  rw [lcI _ (fun d hd => by
    obtain ⟨z1, i, c, z2⟩ := one d hd
    simp [lcB, z2])]
  simp [eq]
theorem law_7 (h : Box st b r row m) (hs : 2 ≤ size ∧ size ≤ 5) (hN : Nets size w n n0 n1 n2 n3 n4 n5 n6 n7) : ∃ (rows : List Ev) (m' : Nat), rows.length ≤ 20 ∧ (∀ e ∈ rows, EvOk size [w_x, w_y] e) ∧
    evS (fun_ defs (k + 100)) s_law_7 [some sc, some (.ref b), some (.int size), some (.str w.tx), some (.int n), some (.ref st.length), none, none, none, none, none, none, none, none, none, none, none, none, none, none, none, none, none, none, none, none, none, none, none, none, none, none, none] (st ++ [MO.lst [n0, n1, n2, n3, n4, n5, n6, n7]]) = .ok .nx [some sc, some (.ref b), some (.int size), some (.str w.tx), some (.int n), some (.ref st.length), none, some (.ktp (rows.map evD)), none, none, none, none, none, none, none, none, none, none, none, none, none, none, none, none, none, none, none, none, none, none, none, none, none] (drawn st b r m' ++ [MO.lst [n0, n1, n2, n3, n4, n5, n6, n7]]) := by
  have hb : Box (st ++ [MO.lst [n0, n1, n2, n3, n4, n5, n6, n7]]) b r row m := h.app _ (h.wf.app (fun x hx => by
    simp only [List.mem_singleton] at hx
    subst hx
    simp [hN.h0.bel, hN.h1.bel, hN.h2.bel, hN.h3.bel, hN.h4.bel, hN.h5.bel, hN.h6.bel, hN.h7.bel]))
  obtain ⟨v, v1, v2, v3⟩ := take_ok (k := k + 99) hb 21 (by omega)
  obtain ⟨u, rfl⟩ : ∃ u : Nat, v = (u : Int) := ⟨v.toNat, by omega⟩
  obtain ⟨rows, m', r1, r2, r3⟩ := rows_ok (k := k + 97) (hb.set (m + 1)) n3 (N_latch size) hN.h3 (by simp only [N_latch]; omega) (by simp [N_latch]) u (by omega)
  refine ⟨rows, m', by omega, r3, ?_⟩
  have g0 : getL (st ++ [MO.lst [n0, n1, n2, n3, n4, n5, n6, n7]]) st.length = some [n0, n1, n2, n3, n4, n5, n6, n7] := by rw [getL_new0]; rfl
  have sE : ∀ q, (st ++ [MO.lst [n0, n1, n2, n3, n4, n5, n6, n7]]).set b (.dct (boxD r q)) = st.set b (.dct (boxD r q)) ++ [MO.lst [n0, n1, n2, n3, n4, n5, n6, n7]] := fun q => List.set_append_left _ _ h.lt.2.1
  have dE : drawn ((st ++ [MO.lst [n0, n1, n2, n3, n4, n5, n6, n7]]).set b (.dct (boxD r (m + 1)))) b r m' = drawn st b r m' ++ [MO.lst [n0, n1, n2, n3, n4, n5, n6, n7]] := by
    unfold drawn
    rw [List.set_set, sE]
  rw [dE] at r1
  rw [sE] at v3 r1
  generalize rows.map evD = RR at r1
  simp [s_law_7, g0, v3, gc_len, r1, drawn]
end
end CM
end
section
/-! Q37: the law is True (printed by law8.py). -/
namespace CM
open PM B
section
variable {k : Nat} {st : St} {sc dr d1 n0 n1 n2 n3 n4 n5 n6 n7 : D} {b r : Nat} {size : Int} {w : PW} {n m : Nat} {row : List Int} {rows : List Ev} {xs ys cs A4 A5 A6 A7 A8 A9 : List D} {e11 e12 e18 e19 e20 e21 e22 e25 : Option D}
theorem third (hw : Wf (st ++ [MO.lst [n0, n1, n2, n3, n4, n5, n6, n7], MO.lst xs, MO.lst ys, MO.lst cs, MO.lst A4, MO.lst A5, MO.lst A6, MO.lst A7, MO.lst A8, MO.lst A9])) (hm : rows.length ≤ 100) (hn : n ≤ 20) (hs : 0 < size) (hN : NetD n6 (N_delay size n)) (hx : xs = sgD rows w_x) (q6 : ∀ i, i < n → His k n6 d1 (lets.getD i []) rows.length (dl (sg rows w_x) i)) (hf : ∀ d ∈ [n0, n1, n2, n3, n4, n5, n6, n7], ∃ N : Net, Fac d (if N.ins.length = 2 then dr else d1) N) :
    ∃ ρ S, evSs (fun_ defs (k + 100)) (.cons s_law_18 (.cons s_law_19 (.cons s_law_20 (.cons s_law_21 (.cons s_law_22 .nil))))) [some sc, some (.ref b), some (.int size), some (.str w.tx), some (.int n), some (.ref st.length), none, some dr, some d1, some (.ref (st.length + 1)), some (.ref (st.length + 2)), e11, e12, some (.ref (st.length + 3)), some (.ref (st.length + 4)), some (.ref (st.length + 5)), some (.ref (st.length + 6)), some (.ref (st.length + 7)), e18, e19, e20, e21, e22, some (.ref (st.length + 8)), some (.ref (st.length + 9)), e25, none, none, none, none, none, none, none] (st ++ [MO.lst [n0, n1, n2, n3, n4, n5, n6, n7], MO.lst xs, MO.lst ys, MO.lst cs, MO.lst A4, MO.lst A5, MO.lst A6, MO.lst A7, MO.lst A8, MO.lst A9]) = .ok (.rt (.v (.bl true))) ρ S := by
  rw [evSs_cons, law_18 _ hn, RS.bind_nx, kSs_ap]
  rw [evSs_cons, law_19 hn hs hN, RS.bind_nx, kSs_ap]
  obtain ⟨e11', l20⟩ := law_20 (k := k) (st := st) (sc := sc) (dr := dr) (d1 := d1) (n0 := n0) (n1 := n1) (n2 := n2) (n3 := n3) (n4 := n4) (n5 := n5) (n6 := n6) (n7 := n7) (xs := xs) (ys := ys) (cs := cs) (A4 := A4) (A5 := A5) (A6 := A6) (A7 := A7) (A8 := A8) (A9 := A9) (b := b) (size := size) (w := w) (n := n) (e12 := e12) (e18 := e18) (e19 := e19) (e20 := e20) (e21 := e21) (e22 := e22) (e25 := e25) hw hn hm hx q6 e11
  rw [evSs_cons, l20, RS.bind_nx, kSs_ap]
  obtain ⟨e6', e27', l21⟩ := law_21 (k := k) (st := st) (sc := sc) (dr := dr) (d1 := d1) (n0 := n0) (n1 := n1) (n2 := n2) (n3 := n3) (n4 := n4) (n5 := n5) (n6 := n6) (n7 := n7) (xs := xs) (ys := ys) (cs := cs) (A4 := A4) (A5 := A5) (A6 := A6) (A7 := A7) (A8 := A8) (A9 := A9) (b := b) (size := size) (w := w) (n := n) (e11 := e11') (e12 := e12) (e18 := e18) (e19 := e19) (e20 := e20) (e21 := e21) (e22 := e22) (e25 := e25) (e26 := some (.str (w_abcdefghijklmnopqrstuvwyz.take n))) hw hf
  rw [evSs_cons, l21, RS.bind_nx, kSs_ap]
  rw [evSs_cons, law_22, RS.bind_rt]
  exact ⟨_, _, rfl⟩
theorem Wf.lsts {S : St} (h : Wf S) (ls : List (List D)) (hl : ∀ l ∈ ls, ∀ n, S.length ≤ n → D.bels n l = true) : Wf (S ++ ls.map MO.lst) := h.app (fun x hx => by
  obtain ⟨l, hl', rfl⟩ := List.mem_map.mp hx
  exact hl l hl' _ (by simp))
theorem bels_oD (n : Nat) (l : List (Option Int)) : D.bels n (l.map oD) = true := bels_map _ _ _ fun _ _ => bel_oD _ _
theorem sg_map (rows : List Ev) (i : Nat) : sg (rows.map onlyX) w_x i = sg rows w_x i := by
  unfold sg
  rw [List.getD_eq_getElem?_getD, List.getD_eq_getElem?_getD, List.getElem?_map]
  cases rows[i]? with
  | none => rfl
  | some e => exact onlyX_get e
theorem second (hw0 : Wf st) (hs : 2 ≤ size ∧ size ≤ 5) (hn1 : 1 ≤ n) (hn : n ≤ 20) (hN : Nets size w n n0 n1 n2 n3 n4 n5 n6 n7) (hrl : rows.length ≤ 20) (hev : ∀ e ∈ rows, EvOk size [w_x, w_y] e) :
    ∃ ρ S, evSs (fun_ defs (k + 100)) (.cons s_law_8 (.cons s_law_9 (.cons s_law_10 (.cons s_law_11 (.cons s_law_12 (.cons s_law_13 (.cons s_law_14 (.cons s_law_15 (.cons s_law_16 (.cons s_law_17 (.cons s_law_18 (.cons s_law_19 (.cons s_law_20 (.cons s_law_21 (.cons s_law_22 .nil))))))))))))))) [some sc, some (.ref b), some (.int size), some (.str w.tx), some (.int n), some (.ref st.length), none, some (.ktp (rows.map evD)), none, none, none, none, none, none, none, none, none, none, none, none, none, none, none, none, none, none, none, none, none, none, none, none, none] (st ++ [MO.lst [n0, n1, n2, n3, n4, n5, n6, n7]]) = .ok (.rt (.v (.bl true))) ρ S := by
  have ndxy : [w_x, w_y].Nodup := by decide
  have hnd : ∀ e ∈ rows, (e.map (·.1)).Nodup := fun e he => evOk_nd (hev e he) ndxy
  have hle : ∀ e ∈ rows, e.length ≤ 100 := fun e he => by
    have := (hev e he).sub.length_le
    simp at this; omega
  have hxy : ∀ e ∈ rows, ∀ p ∈ e, p.1 = w_x ∨ p.1 = w_y := fun e he p hp => by
    have := (hev e he).sub.subset (List.mem_map.mpr ⟨p, hp, rfl⟩)
    simpa using this
  have hX : ∀ i, bdO size (sg rows w_x i) := fun i => by
    unfold sg
    by_cases h : i < rows.length
    · rw [List.getD_eq_getElem?_getD, List.getElem?_eq_getElem h]
      exact evOk_get (hev _ (List.getElem_mem h)) w_x
    · rw [List.getD_eq_getElem?_getD, List.getElem?_eq_none (by omega)]
      intro v hv; cases hv
  have hY : ∀ i, bdO size (sg rows w_y i) := fun i => by
    unfold sg
    by_cases h : i < rows.length
    · rw [List.getD_eq_getElem?_getD, List.getElem?_eq_getElem h]
      exact evOk_get (hev _ (List.getElem_mem h)) w_y
    · rw [List.getD_eq_getElem?_getD, List.getElem?_eq_none (by omega)]
      intro v hv; cases hv
  have hXo : sg (rows.map onlyX) w_x = sg rows w_x := funext (sg_map rows)
  have hX1 : ∀ i, bdO size (sg (rows.map onlyX) w_x i) := fun i => by rw [hXo]; exact hX i
  have rR : ∀ N : Net, Rows N rows := fun N => ⟨by omega, fun e he => ⟨hnd e he, by have := hle e he; omega⟩⟩
  have rO : ∀ N : Net, Rows N (rows.map onlyX) := fun N => ⟨by simp; omega, fun e he => by
    obtain ⟨e0, h0, rfl⟩ := List.mem_map.mp he
    refine ⟨(hnd e0 h0).sublist (List.Sublist.map _ List.filter_sublist), ?_⟩
    have h1 : (onlyX e0).length ≤ e0.length := List.length_filter_le _ _
    have := hle e0 h0
    omega⟩
  obtain ⟨f0, f1, f2, f3, f4, f5, f6, f7⟩ := all_fine hs w n hn
  have h2 : 2 ≤ size := hs.1
  have s0 := counter_sem size h2 (rows.map onlyX) hX1
  have s1 := toggle_sem size h2 (rows.map onlyX) hX1
  have s2 := edges_sem size h2 (rows.map onlyX) hX1
  have s3 := latch_sem size h2 rows hX hY
  have s4 := sums_sem size h2 (rows.map onlyX) hX1
  have s5 := pairing_sem size w h2 rows hX hY
  have s6 := delay_sem size n hn h2 (rows.map onlyX) hX1
  have s7 := alternation_sem size h2 rows hX hY
  rw [hXo] at s0 s1 s2 s4 s6
  have iR : IsT (.ktp (rows.map evD)) (rows.map evD) := rfl
  have iO : IsT (.ktp ((rows.map onlyX).map evD)) ((rows.map onlyX).map evD) := rfl
  have lO : (rows.map onlyX).length = rows.length := by simp
  have c0 : Fac n0 (.ktp ((rows.map onlyX).map evD)) (N_counter size) := ⟨hN.h0, f0, by simp [N_counter], _, _, s0, rO _, iO⟩
  have c1 : Fac n1 (.ktp ((rows.map onlyX).map evD)) (N_toggle size) := ⟨hN.h1, f1, by simp [N_toggle], _, _, s1, rO _, iO⟩
  have c2 : Fac n2 (.ktp ((rows.map onlyX).map evD)) (N_edges size) := ⟨hN.h2, f2, by simp [N_edges], _, _, s2, rO _, iO⟩
  have c3 : Fac n3 (.ktp (rows.map evD)) (N_latch size) := ⟨hN.h3, f3, by simp [N_latch], _, _, s3, rR _, iR⟩
  have c4 : Fac n4 (.ktp ((rows.map onlyX).map evD)) (N_sums size) := ⟨hN.h4, f4, by simp [N_sums], _, _, s4, rO _, iO⟩
  have c5 : Fac n5 (.ktp (rows.map evD)) (N_pairing size w) := ⟨hN.h5, f5, by simp [N_pairing], _, _, s5, rR _, iR⟩
  have c6 : Fac n6 (.ktp ((rows.map onlyX).map evD)) (N_delay size n) := ⟨hN.h6, f6, by simp [N_delay], _, _, s6, rO _, iO⟩
  have c7 : Fac n7 (.ktp (rows.map evD)) (N_alternation size) := ⟨hN.h7, f7, by simp [N_alternation], _, _, s7, rR _, iR⟩
  have i0 : His k n0 (.ktp ((rows.map onlyX).map evD)) w_total rows.length (fun j => some ((cnt (sg rows w_x) j : Int) % size)) := fac_his c0 s0 (rO _) iO w_total (by simp only [N_counter, Net.cn]; simp) _ lO _ (fun i => rfl)
  have i1 : His k n1 (.ktp ((rows.map onlyX).map evD)) w_on rows.length (fun j => some ((cnt (sg rows w_x) j : Int) % 2)) := fac_his c1 s1 (rO _) iO w_on (by simp only [N_toggle, Net.cn]; simp) _ lO _ (fun i => rfl)
  have i2 : His k n2 (.ktp ((rows.map onlyX).map evD)) w_rise rows.length (riseF (sg rows w_x)) := fac_his c2 s2 (rO _) iO w_rise (by simp only [N_edges, Net.cn]; simp) _ lO _ (fun i => rfl)
  have i3 : His k n3 (.ktp (rows.map evD)) w_out rows.length (fun i => some (lastV (tk (sg rows w_x) (sg rows w_y)) 0 i)) := fac_his c3 s3 (rR _) iR w_out (by simp only [N_latch, Net.cn]; simp) _ rfl _ (fun i => rfl)
  have i4 : His k n4 (.ktp ((rows.map onlyX).map evD)) w_total rows.length (fun i => some (sm (sg rows w_x) i % size)) := fac_his c4 s4 (rO _) iO w_total (by simp only [N_sums, Net.cn]; simp) _ lO _ (fun i => rfl)
  have i5 : His k n5 (.ktp (rows.map evD)) w_both rows.length (atM size w (sg rows w_x) (sg rows w_y)) := fac_his c5 s5 (rR _) iR w_both (by simp only [N_pairing, Net.cn]; simp) _ rfl _ (fun i => rfl)
  have i7 : His k n7 (.ktp (rows.map evD)) w_ok rows.length (fun i => some (bI (okP (sg rows w_x) (sg rows w_y) (i + 1)))) := fac_his c7 s7 (rR _) iR w_ok (by simp only [N_alternation, Net.cn]; simp) _ rfl _ (fun i => rfl)
  have i6 : ∀ i, i < n → His k n6 (.ktp ((rows.map onlyX).map evD)) (lets.getD i []) rows.length (dl (sg rows w_x) i) := fun i hi => fac_his c6 s6 (rO _) iO _ (by
    simp only [N_delay, Net.cn, List.map_map]
    exact List.mem_map.mpr ⟨i, List.mem_range.mpr hi, rfl⟩) _ lO _ (fun j => T_delay_let _ i (by omega) j)
  have fac : ∀ d ∈ [n0, n1, n2, n3, n4, n5, n6, n7], ∃ N : Net, Fac d (if N.ins.length = 2 then .ktp (rows.map evD) else .ktp ((rows.map onlyX).map evD)) N := fun d hd => by
    simp only [List.mem_cons, List.not_mem_nil, or_false] at hd
    rcases hd with rfl | rfl | rfl | rfl | rfl | rfl | rfl | rfl
    · exact ⟨N_counter size, c0⟩
    · exact ⟨N_toggle size, c1⟩
    · exact ⟨N_edges size, c2⟩
    · exact ⟨N_latch size, c3⟩
    · exact ⟨N_sums size, c4⟩
    · exact ⟨N_pairing size w, c5⟩
    · exact ⟨N_delay size n, c6⟩
    · exact ⟨N_alternation size, c7⟩
  have bN : ∀ q, D.bels q [n0, n1, n2, n3, n4, n5, n6, n7] = true := fun q => by simp [hN.h0.bel, hN.h1.bel, hN.h2.bel, hN.h3.bel, hN.h4.bel, hN.h5.bel, hN.h6.bel, hN.h7.bel]
  have bS : ∀ x q, D.bels q (sgD rows x) = true := fun x q => bels_oD _ _
  have bC : ∀ q, D.bels q ((List.range rows.length).map fun i => .int (cnt (sg rows w_x) i : Int)) = true := fun q => bels_map _ _ _ fun _ _ => rfl
  have w4 : Wf (st ++ [MO.lst [n0, n1, n2, n3, n4, n5, n6, n7], MO.lst (sgD rows w_x), MO.lst (sgD rows w_y), MO.lst ((List.range rows.length).map fun i => .int (cnt (sg rows w_x) i : Int))]) := Wf.lsts hw0 [[n0, n1, n2, n3, n4, n5, n6, n7], _, _, _] (fun l hl q _ => by
    simp only [List.mem_cons, List.not_mem_nil, or_false] at hl
    rcases hl with rfl | rfl | rfl | rfl
    · exact bN q
    · exact bS _ q
    · exact bS _ q
    · exact bC q)
  have w10 : Wf (st ++ [MO.lst [n0, n1, n2, n3, n4, n5, n6, n7], MO.lst (sgD rows w_x), MO.lst (sgD rows w_y), MO.lst ((List.range rows.length).map fun i => .int (cnt (sg rows w_x) i : Int)), MO.lst (L4 (sg rows w_x) rows.length), MO.lst (L5 (sg rows w_x) (sg rows w_y) rows.length), MO.lst (L6 size w (sg rows w_x) (sg rows w_y) rows.length), MO.lst (L7 (sg rows w_x) (sg rows w_y) rows.length),
      MO.lst (iD (sqL (sg rows w_x) (sg rows w_y) rows.length)), MO.lst (iD (sqR (sg rows w_x) (sg rows w_y) rows.length))]) := Wf.lsts hw0 [[n0, n1, n2, n3, n4, n5, n6, n7], _, _, _, _, _, _, _, _, _] (fun l hl q _ => by
    simp only [List.mem_cons, List.not_mem_nil, or_false] at hl
    rcases hl with rfl | rfl | rfl | rfl | rfl | rfl | rfl | rfl | rfl | rfl
    · exact bN q
    · exact bS _ q
    · exact bS _ q
    · exact bC q
    · exact bels_oD _ _
    · exact bels_oD _ _
    · exact bels_oD _ _
    · exact bels_oD _ _
    · exact bels_iD _ _
    · exact bels_iD _ _)
  obtain ⟨e11, e12, e25, l15⟩ := law_15 (k := k) (st := st) (sc := sc) (dr := .ktp (rows.map evD)) (d1 := .ktp ((rows.map onlyX).map evD)) (n0 := n0) (n1 := n1) (n2 := n2) (n3 := n3) (n4 := n4) (n5 := n5) (n6 := n6) (n7 := n7) (xs := sgD rows w_x) (ys := sgD rows w_y) (cs := (List.range rows.length).map fun i => .int (cnt (sg rows w_x) i : Int)) (b := b) (w := w) (n := n)
    (by omega) rfl rfl iR (by omega) hs.2 hX
  rw [evSs_cons, law_8 _ iR (by omega) hle hxy, RS.bind_nx, kSs_ap]
  rw [evSs_cons, law_9 iR (by omega) hnd, RS.bind_nx, kSs_ap]
  rw [evSs_cons, law_10 (by omega) rfl, RS.bind_nx, kSs_ap]
  rw [evSs_cons, law_11 w4 (by omega) rfl (by omega) i0 i1, RS.bind_nx, kSs_ap]
  rw [evSs_cons, law_12, RS.bind_nx, kSs_ap]
  rw [evSs_cons, law_13, RS.bind_nx, kSs_ap]
  rw [evSs_cons, law_14, RS.bind_nx, kSs_ap]
  rw [evSs_cons, l15, RS.bind_nx, kSs_ap]
  rw [evSs_cons, law_16 w10 rfl rfl rfl rfl i2 i3 i5 i7, RS.bind_nx, kSs_ap]
  rw [evSs_cons, law_17 w10 (by omega) rfl (by omega) i4, RS.bind_nx, kSs_ap]
  exact third w10 (by omega) hn (by omega) hN.h6 rfl i6 fac
end
end CM
end
section
/-! Q38: the law is True at every script. -/
namespace CM
open PM B
theorem Box.draw {S : St} {b r : Nat} {row : List Int} {n : Nat} (h : Box S b r row n) (m : Nat) : Box (drawn S b r m) b r row m := h.set m
theorem law_true (k : Nat) (ns : List Int) (hl : ns.length ≤ 63) : ∃ S, fun_ defs (k + 101) ix_law [.fls (ns.map .int)] [] = .ok (.v (.bl true)) S := by
  obtain ⟨B, b, r, row, hB, l1⟩ := law_1 (k := k) ns hl
  obtain ⟨size, s1, s2, l2⟩ := law_2 (k := k) (sc := .fls (ns.map .int)) hB
  have hB1 := hB.draw 1
  obtain ⟨w, l3⟩ := law_3 (k := k) (sc := .fls (ns.map .int)) (size := size) hB1
  have hB2 := hB1.draw 2
  obtain ⟨n, n1, n2, l4⟩ := law_4 (k := k) (sc := .fls (ns.map .int)) (size := size) (w := w) hB2
  have hB3 := hB2.draw 3
  obtain ⟨m0, m1, m2, m3, m4, m5, m6, m7, hN, l5⟩ := law_5 (k := k) (st := drawn (drawn (drawn B b r 1) b r 2) b r 3) (sc := .fls (ns.map .int)) (b := b) (size := size) (w := w) (n := n) ⟨s1, s2⟩ n2
  have l6 := law_6 (k := k) (st := drawn (drawn (drawn B b r 1) b r 2) b r 3) (sc := .fls (ns.map .int)) (b := b) (size := size) (w := w) (n := n) ⟨s1, s2⟩ n2 hN
  obtain ⟨rows, m', r1, r2, l7⟩ := law_7 (k := k) (sc := .fls (ns.map .int)) (size := size) (w := w) (n := n) hB3 ⟨s1, s2⟩ hN
  have hB4 := hB3.draw m'
  have hlen : ∀ (S : St) m, (drawn S b r m).length = S.length := fun S m => by simp [drawn]
  obtain ⟨ρ, S, l8⟩ := second (k := k) (st := drawn (drawn (drawn (drawn B b r 1) b r 2) b r 3) b r m') (sc := .fls (ns.map .int)) (b := b) (size := size) (w := w) (n := n) (rows := rows) hB4.wf ⟨s1, s2⟩ n1 n2 hN r1 r2
  have key : evSs (fun_ defs (k + 100)) d_law.body (startE d_law.slots [.fls (ns.map .int)]) [] = .ok (.rt (.v (.bl true))) ρ S := by
    have e0 : startE d_law.slots [.fls (ns.map .int)] = [some (.fls (ns.map .int)), none, none, none, none, none, none, none, none, none, none, none, none, none, none, none, none, none, none, none, none, none, none, none, none, none, none, none, none, none, none, none, none] := rfl
    rw [e0]
    show evSs _ (.cons s_law_1 _) _ _ = _
    rw [evSs_cons, l1, RS.bind_nx, kSs_ap, evSs_cons, l2, RS.bind_nx, kSs_ap, evSs_cons, l3, RS.bind_nx, kSs_ap, evSs_cons, l4, RS.bind_nx, kSs_ap, evSs_cons, l5, RS.bind_nx, kSs_ap, evSs_cons, l6, RS.bind_nx, kSs_ap, evSs_cons, l7, RS.bind_nx, kSs_ap]
    rw [← hlen (drawn (drawn (drawn B b r 1) b r 2) b r 3) m']
    exact l8
  rw [fn_law, runDf, if_pos (show [D.fls (ns.map .int)].length = d_law.pars from rfl), key]
  have h1 := gc_app_v [] S (.bl true) rfl
  rw [List.nil_append] at h1
  exact ⟨[], by simp only [gcR_ok, h1]⟩
end CM
end
theorem K45.defs_eq : K45.defs = B.defs := by kernel_rfl
theorem K45.law_ : K45.Law := fun ns hl => by
  rw [K45.defs_eq]
  exact CM.law_true 99 ns hl
theorem PySem.Challenge.cw_cellmoments_k45_drafts_do_what_they_say_holds : PySem.Challenge.rw_cellmoments_k45_drafts_do_what_they_say.Holds := by
  exact K45.holds K45.law_
