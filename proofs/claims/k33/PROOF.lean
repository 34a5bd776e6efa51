import PyProof.Rows.All
import Wide.All
import OpenK.AllK
import Wide.FinOn
import HandS.ForMost
import HandS.TupAny
import HandS.IsInst
import KE.LtData
import HandS.Text
import HandS.ForExc
import HandS.ExcIs
import HandS.ExcField
import HandS.ExcInit
import KE.KExcIs
import PySem.Challenge.RW_copymeet_k33_between
set_option Elab.async false
set_option linter.all false
set_option maxRecDepth 100000
set_option maxHeartbeats 4000000
/-! Cm, part A: data without addresses, a small language, its meaning as plain functions. -/
namespace Cm
open PySem PySem.Spec PyProof.Rows L2
inductive D where
  | non | bl (b : Bool) | int (i : Int) | str (x : Str) | tup (ds : List D) | lst (ds : List D) | ref (n : Nat)
inductive MO where
  | dead | lst (ds : List D) | exn (c : Str) (fs : List (Str × D))
abbrev Mem := List MO
abbrev Slots := List (Option D)
inductive Res (α : Type) where
  | ok (a : α) (M : Mem) | exc (c : Str) (fs : List (Str × D)) (M : Mem) | err
def Res.bind {α β : Type} (r : Res α) (f : α → Mem → Res β) : Res β :=
  match r with
  | .ok a M => f a M
  | .exc c fs M => .exc c fs M
  | .err => .err
@[simp] theorem Res.bind_ok {α β : Type} (a : α) (M : Mem) (f : α → Mem → Res β) : (Res.ok a M).bind f = f a M := rfl
@[simp] theorem Res.bind_exc {α β : Type} (c fs) (M : Mem) (f : α → Mem → Res β) : (Res.exc c fs M : Res α).bind f = .exc c fs M := rfl
@[simp] theorem Res.bind_err {α β : Type} (f : α → Mem → Res β) : (Res.err : Res α).bind f = .err := rfl
def Res.of {α : Type} (o : Option α) (M : Mem) : Res α := match o with | some a => .ok a M | none => .err
@[simp] theorem Res.of_some {α : Type} (a : α) (M : Mem) : Res.of (some a) M = .ok a M := rfl
@[simp] theorem Res.of_none {α : Type} (M : Mem) : (Res.of none M : Res α) = .err := rfl
mutual
def toPy : D → Option PyData
  | .non => some .none
  | .bl b => some (.bool b)
  | .int i => some (.int i)
  | .str x => some (.str x)
  | .tup ds => (toPys ds).map .tuple
  | .lst ds => (toPys ds).map .list
  | .ref _ => none
def toPys : List D → Option (List PyData)
  | [] => some []
  | d :: r => (toPy d).bind fun x => (toPys r).map fun y => x :: y
end
/-- a list of ours is read as it stands -/
def drf (M : Mem) : D → D
  | .ref n => match M[n]? with
    | some (.lst ds) => .lst ds
    | _ => .ref n
  | d => d
def deq (M : Mem) (a b : D) : Option Bool :=
  (toPy (drf M a)).bind fun x => (toPy (drf M b)).bind fun y => if SeqAt.shaped x = true ∧ SeqAt.shaped y = true then some (PyData.eqv x y) else none
def dlt (a b : D) : Option Bool :=
  match a, b with
  | .int i, .int j => some (decide (i < j))
  | .str x, .str y => some (decide (x.cps.toList < y.cps.toList))
  | .tup xs, .tup ys => (toPys xs).bind fun x => (toPys ys).bind fun y =>
      if PySem.W.alikeAll x y = true ∧ (PyData.tuple x).depth ≤ 60 then some (PySem.W.dataLt (.tuple x) (.tuple y)) else none
  | _, _ => none
def dle (a b : D) : Option Bool :=
  match a, b with
  | .int i, .int j => some (decide (i ≤ j))
  | .str x, .str y => some (!decide (y.cps.toList < x.cps.toList))
  | _, _ => none
def dgt (a b : D) : Option Bool :=
  match a, b with
  | .int i, .int j => some (decide (j < i))
  | .str x, .str y => some (decide (y.cps.toList < x.cps.toList))
  | _, _ => none
def dge (a b : D) : Option Bool :=
  match a, b with
  | .int i, .int j => some (decide (j ≤ i))
  | .str x, .str y => some (!decide (x.cps.toList < y.cps.toList))
  | _, _ => none
inductive BOp where
  | add | sub | mul | fdiv | mod | pow
  deriving DecidableEq
inductive COp where
  | eq | ne | lt | le | gt | ge | isN | notN
  deriving DecidableEq
inductive Prim where
  | len | min | max | isa (T : String) | isx (tbl : List (Str × Bool))
def mulOk (i j : Int) : Bool := decide ((-(2 ^ 64) < i ∧ i < 2 ^ 64) ∨ (-(2 ^ 64) < j ∧ j < 2 ^ 64))
def strMulOk (x : Str) (j : Int) : Bool := decide (j < 1000 ∧ -1000 < j ∧ x.length ≤ 1000)
def bop (o : BOp) (a b : D) : Option D :=
  match o, a, b with
  | .add, .int i, .int j => some (.int (i + j))
  | .add, .str x, .str y => if x.length + y.length ≤ sizeLine then some (.str (x ++ y)) else none
  | .add, .tup x, .tup y => if x.length + y.length ≤ sizeLine then some (.tup (x ++ y)) else none
  | .sub, .int i, .int j => some (.int (i - j))
  | .mul, .int i, .int j => if mulOk i j = true then some (.int (i * j)) else none
  | .mul, .str x, .int j => if strMulOk x j = true then some (.str (Txt.mul x j)) else none
  | .fdiv, .int i, .int j => if 0 < j ∧ j < 1073741824 then some (.int (i / j)) else none
  | .mod, .int i, .int j => if 0 < j then some (.int (i % j)) else none
  | .pow, .int i, .int j => if 0 ≤ j ∧ j ≤ 1000000 ∧ i.natAbs < 2 ^ 64 then some (.int (i ^ j.toNat)) else none
  | _, _, _ => none
def ibop (o : BOp) (a b : D) : Option D :=
  match o, a, b with
  | .add, .int i, .int j => some (.int (i + j))
  | .add, .str x, .str y => if x.length + y.length ≤ sizeLine then some (.str (x ++ y)) else none
  | .sub, .int i, .int j => some (.int (i - j))
  | .fdiv, .int i, .int j => if 0 < j ∧ j < 1073741824 then some (.int (i / j)) else none
  | _, _, _ => none
def cop (M : Mem) (o : COp) (a b : D) : Option Bool :=
  match o with
  | .eq => deq M a b
  | .ne => (deq M a b).map (!·)
  | .lt => dlt a b
  | .gt => dgt a b
  | .le => dle a b
  | .ge => dge a b
  | .isN => match b with | .non => (match a with | .non => some true | _ => some false) | _ => none
  | .notN => match b with | .non => (match a with | .non => some false | _ => some true) | _ => none
def tyName : D → Option String
  | .non => some "NoneType"
  | .bl _ => some "bool"
  | .int _ => some "int"
  | .str _ => some "str"
  | .tup _ => some "tuple"
  | .lst _ => some "list"
  | .ref _ => none
def isaD (T : String) (d : D) : Option Bool := (tyName d).bind fun t => kitB t T
def idx (M : Mem) (a i : D) : Option D :=
  match drf M a, i with
  | .tup xs, .int k => atI xs k
  | .lst xs, .int k => atI xs k
  | .str z, .int k => if z.length ≤ sizeLine then (atI z.cps.toList k).map fun c => .str ⟨#[c]⟩ else none
  | _, _ => none
def cutD {α : Type} (xs : List α) (lo hi : Option Int) : List α := (xs.drop (HT.sIx xs.length 0 lo)).take (HT.sIx xs.length xs.length hi - HT.sIx xs.length 0 lo)
def sli (M : Mem) (a : D) (lo hi : Option Int) : Option D :=
  match drf M a with
  | .tup xs => some (.tup (cutD xs lo hi))
  | .lst xs => some (.lst (cutD xs lo hi))
  | .str z => if z.length ≤ sizeLine then some (.str (cutS z lo hi)) else none
  | _ => none
def pev (p : Prim) (as : List D) (M : Mem) : Option D :=
  match p, as with
  | .len, [a] => match drf M a with
    | .tup xs => some (.int xs.length)
    | .lst xs => some (.int xs.length)
    | .str z => if z.length ≤ sizeLine then some (.int z.length) else none
    | _ => none
  | .min, [.int i, .int j] => some (.int (if j < i then j else i))
  | .max, [.int i, .int j] => some (.int (if j > i then j else i))
  | .isa T, [a] => (isaD T a).map .bl
  | .isx tbl, [a] => match a with
    | .ref n => match M[n]? with
      | some (.exn c _) => (tbl.lookup c).map .bl
      | _ => none
    | _ => none
  | _, _ => none
mutual
inductive IE where
  | var (i : Nat)
  | lit (d : D)
  | tup (es : IEs)
  | lst (es : IEs)
  | bin (o : BOp) (a b : IE)
  | cmp (o : COp) (a b : IE)
  | and (a b : IE)
  | or (a b : IE)
  | not (a : IE)
  | neg (a : IE)
  | ite (c a b : IE)
  | idx (a i : IE)
  | sli (a : IE) (lo hi : IO)
  | call (f : Nat) (es : IEs)
  | prim (p : Prim) (es : IEs)
  | attr (e : IE) (f : Str) (cs : List Str)
inductive IEs where
  | nil | cons (e : IE) (es : IEs)
inductive IO where
  | none | some (e : IE)
end
def attrD (M : Mem) (a : D) (f : Str) (cs : List Str) : Option D := match a with
  | .ref n => match M[n]? with
    | some (.exn c fs) => if c ∈ cs then fs.lookup f else none
    | _ => none
  | _ => none
abbrev Fn := Nat → List D → Mem → Res D
def asB {α : Type} (d : D) (f : Bool → Res α) : Res α := match d with | .bl b => f b | _ => .err
@[simp] theorem asB_bl {α : Type} (b : Bool) (f : Bool → Res α) : asB (.bl b) f = f b := rfl
def small (ds : List D) : Bool := decide (ds.length ≤ sizeLine)
def slot (σ : Slots) (i : Nat) (M : Mem) : Res D := match σ[i]? with | some (some d) => .ok d M | _ => .err
mutual
def iev (F : Fn) : IE → Slots → Mem → Res D
  | .var i, σ, M => slot σ i M
  | .lit d, _, M => .ok d M
  | .tup es, σ, M => (ievs F es σ M).bind fun ds M => if small ds = true then .ok (.tup ds) M else .err
  | .lst es, σ, M => (ievs F es σ M).bind fun ds M => if small ds = true then .ok (.lst ds) M else .err
  | .bin o a b, σ, M => (iev F a σ M).bind fun x M => (iev F b σ M).bind fun y M => Res.of (bop o x y) M
  | .cmp o a b, σ, M => (iev F a σ M).bind fun x M => (iev F b σ M).bind fun y M => (Res.of (cop M o x y) M).bind fun b M => .ok (.bl b) M
  | .and a b, σ, M => (iev F a σ M).bind fun x M => asB x fun c => if c = true then iev F b σ M else .ok (.bl false) M
  | .or a b, σ, M => (iev F a σ M).bind fun x M => asB x fun c => if c = true then .ok (.bl true) M else iev F b σ M
  | .not a, σ, M => (iev F a σ M).bind fun x M => asB x fun c => .ok (.bl (!c)) M
  | .neg a, σ, M => (iev F a σ M).bind fun x M => match x with | .int i => .ok (.int (-i)) M | _ => .err
  | .ite c a b, σ, M => (iev F c σ M).bind fun x M => asB x fun c => if c = true then iev F a σ M else iev F b σ M
  | .idx a i, σ, M => (iev F a σ M).bind fun x M => (iev F i σ M).bind fun y M => Res.of (idx M x y) M
  | .sli a lo hi, σ, M => (iev F a σ M).bind fun x M => (ievo F lo σ M).bind fun l M => (ievo F hi σ M).bind fun h M => Res.of (sli M x l h) M
  | .call f es, σ, M => (ievs F es σ M).bind fun ds M => F f ds M
  | .prim p es, σ, M => (ievs F es σ M).bind fun ds M => Res.of (pev p ds M) M
  | .attr e f cs, σ, M => (iev F e σ M).bind fun x M => Res.of (attrD M x f cs) M
def ievs (F : Fn) : IEs → Slots → Mem → Res (List D)
  | .nil, _, M => .ok [] M
  | .cons e es, σ, M => (iev F e σ M).bind fun x M => (ievs F es σ M).bind fun xs M => .ok (x :: xs) M
def ievo (F : Fn) : IO → Slots → Mem → Res (Option Int)
  | .none, _, M => .ok Option.none M
  | .some e, σ, M => (iev F e σ M).bind fun x M => match x with | .int i => .ok (Option.some i) M | _ => .err
end
inductive Tg where
  | name (i : Nat) | tup (is : List Nat)
inductive IT where
  | seq (e : IE) | rng1 (e : IE) | rng2 (a b : IE)
mutual
inductive IS where
  | set (i : Nat) (e : IE)
  | setT (is : List Nat) (e : IE)
  | newl (i : Nat) (es : IEs)
  | app (l x : IE)
  | expr (e : IE)
  | ret (e : IE)
  | retf (e : IE)
  | iff (c : IE) (a b : ISs)
  | forr (t : Tg) (it : IT) (b : ISs)
  | aug (i : Nat) (o : BOp) (e : IE)
  | never
  | rais (c f : Str) (e : IE)
  | tryx (e : IE) (tbl : List (Str × Bool)) (i : Nat) (b : ISs)
  | pass | brk | cont
inductive ISs where
  | nil | cons (s : IS) (r : ISs)
end
inductive Fl where
  | nx (σ : Slots) | ret (d : D) | bk (σ : Slots) | ct (σ : Slots)
def putN (i : Nat) (d : D) (σ : Slots) : Slots := σ.set i (some d)
def putAll : List Nat → List D → Slots → Option Slots
  | [], [], σ => some σ
  | i :: is, d :: ds, σ => putAll is ds (σ.set i (some d))
  | _, _, _ => none
def put (t : Tg) (d : D) (σ : Slots) : Option Slots :=
  match t with
  | .name i => some (σ.set i (some d))
  | .tup is => match d with | .tup ds => putAll is ds σ | _ => none
def forL (B : Slots → Mem → Res Fl) (t : Tg) : List D → Slots → Mem → Res Fl
  | [], σ, M => .ok (.nx σ) M
  | d :: r, σ, M => match put t d σ with
    | none => .err
    | some σ1 => (B σ1 M).bind fun fl M1 => match fl with
      | .nx σ2 => forL B t r σ2 M1
      | .ct σ2 => forL B t r σ2 M1
      | .bk σ2 => .ok (.nx σ2) M1
      | .ret v => .ok (.ret v) M1
def small62 (i : Int) : Bool := decide (-(2 ^ 62) ≤ i ∧ i < 2 ^ 62)
def rngL (lo : Int) (n : Nat) : List D := (List.range n).map fun i => .int (lo + (i : Nat))
def items (F : Fn) (it : IT) (σ : Slots) (M : Mem) : Res (List D) :=
  match it with
  | .seq e => (iev F e σ M).bind fun x M => match x with | .tup ds => .ok ds M | .lst ds => .ok ds M | _ => .err
  | .rng1 e => (iev F e σ M).bind fun x M => match x with | .int i => if small62 i = true then .ok (rngL 0 i.toNat) M else .err | _ => .err
  | .rng2 a b => (iev F a σ M).bind fun x M => (iev F b σ M).bind fun y M => match x, y with
    | .int i, .int j => if small62 i = true ∧ small62 j = true then .ok (rngL i (j - i).toNat) M else .err
    | _, _ => .err
def noExc {α : Type} (r : Res α) : Res α := match r with | .exc _ _ _ => .err | r => r
/-- a list of ours -/
def isLst (M : Mem) (a : D) : Option Nat := match a with
  | .ref n => match M[n]? with | some (.lst _) => some n | _ => none
  | _ => none
mutual
def iex (F : Fn) : IS → Slots → Mem → Res Fl
  | .set i e, σ, M => (iev F e σ M).bind fun d M => .ok (.nx (σ.set i (some d))) M
  | .setT is e, σ, M => (iev F e σ M).bind fun d M => match put (.tup is) d σ with | some σ' => .ok (.nx σ') M | none => .err
  | .newl i es, σ, M => (ievs F es σ M).bind fun ds M => if small ds = true then .ok (.nx (σ.set i (some (.ref M.length)))) (M ++ [.lst ds]) else .err
  | .app l x, σ, M => (iev F l σ M).bind fun a M => (Res.of (isLst M a) M).bind fun n M => (iev F x σ M).bind fun d M => match M[n]? with
    | some (.lst ds) => if ds.length < sizeLine then .ok (.nx σ) (M.set n (.lst (ds ++ [d]))) else .err
    | _ => .err
  | .expr e, σ, M => (iev F e σ M).bind fun _ M => .ok (.nx σ) M
  | .ret e, σ, M => (iev F e σ M).bind fun d M => .ok (.ret d) M
  | .retf e, σ, M => (iev F e σ M).bind fun d M => match d with
    | .ref n => match M[n]? with
      | some (.lst ds) => .ok (.ret (.lst ds)) (M.set n .dead)
      | _ => .err
    | d => .ok (.ret d) M
  | .iff c a b, σ, M => (iev F c σ M).bind fun x M => asB x fun k => if k = true then iexs F a σ M else iexs F b σ M
  | .forr t it b, σ, M => (items F it σ M).bind fun ds M => forL (fun σ M => iexs F b σ M) t ds σ M
  | .aug i o e, σ, M => (slot σ i M).bind fun x M => (iev F e σ M).bind fun y M => (Res.of (ibop o x y) M).bind fun z M => .ok (.nx (σ.set i (some z))) M
  | .never, _, _ => .err
  | .rais c f e, σ, M => (iev F e σ M).bind fun d M => .exc c [(f, d)] M
  | .tryx e tbl i b, σ, M => match iev F e σ M with
    | .ok _ M => .ok (.nx σ) M
    | .exc c fs M => match tbl.lookup c with
      | some true => (noExc (iexs F b (σ.set i (some (.ref M.length))) (M ++ [.exn c fs]))).bind fun fl M => match fl with
        | .nx σ2 => .ok (.nx (σ2.set i none)) M
        | .ret d => .ok (.ret d) M
        | _ => .err
      | some false => .exc c fs M
      | none => .err
    | .err => .err
  | .pass, σ, M => .ok (.nx σ) M
  | .brk, σ, M => .ok (.bk σ) M
  | .cont, σ, M => .ok (.ct σ) M
def iexs (F : Fn) : ISs → Slots → Mem → Res Fl
  | .nil, σ, M => .ok (.nx σ) M
  | .cons s r, σ, M => (iex F s σ M).bind fun fl M => match fl with
    | .nx σ => iexs F r σ M
    | fl => .ok fl M
end
def startD (n : Nat) (as : List D) : Slots := as.map some ++ List.replicate (n - as.length) none
/-- what a def tells: n names, k parameters -/
def run (F : Fn) (n k : Nat) (body : ISs) (as : List D) (M : Mem) : Res D :=
  if as.length = k then (iexs F body (startD n as) M).bind fun fl M => match fl with
    | .nx _ => .ok .non M
    | .ret d => .ok d M
    | _ => .err
  else .err
end Cm
/-! Cm, part B: how data lie in the heap; what steps keep. -/
namespace Cm
open PySem PySem.Spec PyProof.Rows L2
def live (M : Mem) (n : Nat) : Prop := ∃ o, M[n]? = some o ∧ o ≠ .dead
def Lv (as : List Addr) (M : Mem) (a : Addr) : Prop := ∃ n, as[n]? = some a ∧ live M n
def KL (K : PySem.W.Frag) (a : Addr) (xs : List V) : Prop :=
  ∃ (o : Obj) (its : Array Value) (n : Nat), K.lookup a = some o ∧ o.cls = .type "list" ∧ o.dict = none ∧ o.data = .seq its n ∧ its.size ≤ sizeLine ∧ Vals xs its.toList
/-- the world: where the numbered objects stand, what they hold, the tracked heap -/
structure W3 where
  as : List Addr
  M : Mem
  H : Hp
def LS (K : PySem.W.Frag) (s : W3) (a : Addr) (xs : List V) : Prop := (Rd s.H a (.lst xs) ∧ ¬ Lv s.as s.M a) ∨ KL K a xs
theorem LS.sq {K : PySem.W.Frag} {s : W3} {a : Addr} {xs : List V} (h : LS K s a xs) : SqL K s.H a xs := by
  rcases h with h | h
  · exact .inl h.1
  · exact .inr h
mutual
inductive Rp (K : PySem.W.Frag) (s : W3) : V → D → Prop
  | non : Rp K s .non .non
  | bl (b : Bool) : Rp K s (.bl b) (.bl b)
  | int (i : Int) : Rp K s (.int i) (.int i)
  | str (x : Str) : Rp K s (.str x) (.str x)
  | tup {a : Addr} {xs : List V} {ds : List D} : SqT K s.H a xs → RpL K s xs ds → Rp K s (.ref a) (.tup ds)
  | lst {a : Addr} {xs : List V} {ds : List D} : LS K s a xs → RpL K s xs ds → Rp K s (.ref a) (.lst ds)
  | ref {n : Nat} {a : Addr} : s.as[n]? = some a → Rp K s (.ref a) (.ref n)
inductive RpL (K : PySem.W.Frag) (s : W3) : List V → List D → Prop
  | nil : RpL K s [] []
  | cons {v : V} {vs : List V} {d : D} {ds : List D} : Rp K s v d → RpL K s vs ds → RpL K s (v :: vs) (d :: ds)
end
/-- an exception of the class at C, its dict at dd, caught and kept -/
def exk (a C : Addr) (dd : Option Addr) : HO := .ext fun h => ∃ (oe : Obj) (vs : Array Value), h.get? a = some oe ∧ oe.cls = .ref C ∧ oe.dict = dd ∧ oe.data = .fields vs
/-- the fields of an exception, in its dict -/
def XF (K : PySem.W.Frag) (s : W3) (fs : List (Str × D)) (dct : Option Addr) : Prop :=
  (fs = [] ∧ dct = none) ∨ ∃ dd fs', dct = some dd ∧ s.H dd = some (.xd fs') ∧ ∀ f d, fs.lookup f = some d → ∃ v, fs'.lookup f = some v ∧ Rp K s v d
def OR (K : PySem.W.Frag) (s : W3) (a : Addr) : MO → Prop
  | .dead => True
  | .exn c fs => ∃ (C : Addr) (dct : Option Addr), PySem.W.nsIn K mainGlobals c = some (some (.ref C)) ∧ s.H a = some (exk a C dct) ∧ XF K s fs dct
  | .lst ds => ∃ xs, s.H a = some (.lst xs) ∧ RpL K s xs ds
structure SR (K : PySem.W.Frag) (s : W3) : Prop where
  len : s.as.length = s.M.length
  inj : ∀ (m n : Nat) (a : Addr), s.as[m]? = some a → s.as[n]? = some a → live s.M m → live s.M n → m = n
  obj : ∀ (n : Nat) (a : Addr) (o : MO), s.as[n]? = some a → s.M[n]? = some o → OR K s a o
def Stab (K : PySem.W.Frag) (s s' : W3) : Prop := ∀ v d, Rp K s v d → Rp K s' v d
theorem Stab.refl {K : PySem.W.Frag} {s : W3} : Stab K s s := fun _ _ h => h
theorem Stab.trans {K : PySem.W.Frag} {s s1 s2 : W3} (a : Stab K s s1) (b : Stab K s1 s2) : Stab K s s2 := fun v d h => b v d (a v d h)
section
variable {K : PySem.W.Frag} {s s' : W3}
theorem RpL.length : ∀ {xs : List V} {ds : List D}, RpL K s xs ds → xs.length = ds.length
  | _, _, .nil => rfl
  | _, _, .cons _ t => by rw [List.length_cons, List.length_cons, RpL.length t]
theorem RpL.get : ∀ {xs : List V} {ds : List D} {i : Nat} {d : D}, RpL K s xs ds → ds[i]? = some d → ∃ v, xs[i]? = some v ∧ Rp K s v d
  | _, _, _, _, .nil, e => by simp at e
  | _, _, 0, _, .cons r _, e => by simp at e; subst e; exact ⟨_, rfl, r⟩
  | _, _, i + 1, d, .cons _ t, e => by
    obtain ⟨v, h1, h2⟩ := RpL.get (i := i) t (by simpa using e)
    exact ⟨v, by simpa using h1, h2⟩
theorem RpL.append : ∀ {xs ys : List V} {ds es : List D}, RpL K s xs ds → RpL K s ys es → RpL K s (xs ++ ys) (ds ++ es)
  | _, _, _, _, .nil, q => q
  | _, _, _, _, .cons r t, q => .cons r (RpL.append t q)
theorem RpL.take : ∀ {xs : List V} {ds : List D} (n : Nat), RpL K s xs ds → RpL K s (xs.take n) (ds.take n)
  | _, _, 0, _ => .nil
  | _, _, _ + 1, .nil => .nil
  | _, _, n + 1, .cons r t => .cons r (RpL.take n t)
theorem RpL.drop : ∀ {xs : List V} {ds : List D} (n : Nat), RpL K s xs ds → RpL K s (xs.drop n) (ds.drop n)
  | _, _, 0, r => r
  | _, _, _ + 1, .nil => .nil
  | _, _, n + 1, .cons _ t => RpL.drop n t
theorem RpL.stab (k : Stab K s s') : ∀ {xs : List V} {ds : List D}, RpL K s xs ds → RpL K s' xs ds
  | _, _, .nil => .nil
  | _, _, .cons r t => .cons (k _ _ r) (RpL.stab k t)
/-- what the data lean on is kept -/
theorem stab_of (h1 : ∀ a xs, SqT K s.H a xs → SqT K s'.H a xs) (h2 : ∀ a xs, LS K s a xs → LS K s' a xs) (h3 : ∀ (n : Nat) (a : Addr), s.as[n]? = some a → s'.as[n]? = some a) : Stab K s s' := by
  intro v d h
  refine Rp.rec (motive_1 := fun v d _ => Rp K s' v d) (motive_2 := fun vs ds _ => RpL K s' vs ds) ?_ ?_ ?_ ?_ ?_ ?_ ?_ ?_ ?_ h
  · exact .non
  · intro b; exact .bl b
  · intro b; exact .int b
  · intro b; exact .str b
  · intro a xs ds q _ r; exact .tup (h1 _ _ q) r
  · intro a xs ds q _ r; exact .lst (h2 _ _ q) r
  · intro n a q; exact .ref (h3 _ _ q)
  · exact .nil
  · intro v vs d ds _ _ r1 r2; exact .cons r1 r2
theorem XF.keep {fs : List (Str × D)} {dct : Option Addr} (h : XF K s fs dct) (k : Stab K s s') (hH : ∀ b us, s.H b = some (.xd us) → s'.H b = some (.xd us)) : XF K s' fs dct := by
  rcases h with h | ⟨dd, us, e1, e2, e3⟩
  · exact .inl h
  · exact .inr ⟨dd, us, e1, hH _ _ e2, fun f d e => let ⟨v, z1, z2⟩ := e3 f d e; ⟨v, z1, k _ _ z2⟩⟩
theorem OR.keepX {a : Addr} {c : Str} {fs : List (Str × D)} (h : OR K s a (.exn c fs)) (k : Stab K s s') (h1 : ∀ b us, s.H b = some (.xd us) → s'.H b = some (.xd us)) (h2 : ∀ b φ, s.H b = some (.ext φ) → s'.H b = some (.ext φ)) : OR K s' a (.exn c fs) := by
  obtain ⟨C, dct, e1, e2, e3⟩ := h
  exact ⟨C, dct, e1, h2 _ _ e2, e3.keep k h1⟩
theorem OR.stab {a : Addr} {o : MO} (k : Stab K s s') (hH : s.H = s'.H) (h : OR K s a o) : OR K s' a o := by
  cases o with
  | dead => trivial
  | lst ds => obtain ⟨xs, e, r⟩ := h; exact ⟨xs, hH ▸ e, r.stab k⟩
  | exn c fs => exact h.keepX k (fun b us e => hH ▸ e) fun b φ e => hH ▸ e
/-- a live object is tracked -/
theorem SR.tracked (S : SR K s) {a : Addr} (h : Lv s.as s.M a) : ∃ o, s.H a = some o ∧ L2.Mut (some o) := by
  obtain ⟨n, e, o, eo, nd⟩ := h
  have q := S.obj n a o e eo
  cases o with
  | dead => exact absurd rfl nd
  | lst ds => obtain ⟨xs, e, _⟩ := q; exact ⟨_, e, trivial⟩
  | exn c fs => obtain ⟨C, dct, _, e, _⟩ := q; exact ⟨_, e, trivial⟩
/-- a new object, not numbered -/
theorem new_imm (S : SR K s) {p : Addr} {o : HO} (hp : s.H p = none) :
    SR K { s with H := upd s.H p o } ∧ Stab K s { s with H := upd s.H p o } ∧ ¬ Lv s.as s.M p := by
  have sm : ∀ b u, s.H b = some u → upd s.H p o b = some u := fun b u e => by rw [upd_ne (ne_of_none e hp)]; exact e
  have np : ¬ Lv s.as s.M p := fun z => by
    obtain ⟨u, e, _⟩ := S.tracked z
    rw [hp] at e; cases e
  have st : Stab K s { s with H := upd s.H p o } := by
    refine stab_of (fun a xs q => ?_) (fun a xs q => ?_) fun _ _ q => q
    · rcases q with (q | ⟨u, q⟩) | q
      · exact .inl (.inl (sm _ _ q))
      · exact .inl (.inr ⟨u, sm _ _ q⟩)
      · exact .inr q
    · rcases q with ⟨q | ⟨u, q⟩, nl⟩ | q
      · exact .inl ⟨.inl (sm _ _ q), nl⟩
      · exact .inl ⟨.inr ⟨u, sm _ _ q⟩, nl⟩
      · exact .inr q
  refine ⟨⟨S.len, S.inj, fun n a u e1 e2 => ?_⟩, st, np⟩
  have q := S.obj n a u e1 e2
  cases u with
  | dead => trivial
  | lst ds =>
    obtain ⟨xs, e, r⟩ := q
    exact ⟨xs, sm _ _ e, r.stab st⟩
  | exn c fs => exact q.keepX st (fun b us e => sm _ _ e) fun b φ e => sm _ _ e
/-- a new tuple -/
theorem new_tup (S : SR K s) {p : Addr} {xs : List V} {ds : List D} (hp : s.H p = none) (r : RpL K s xs ds) :
    ∃ s', s'.M = s.M ∧ s'.H = upd s.H p (.tup xs) ∧ SR K s' ∧ Stab K s s' ∧ Rp K s' (.ref p) (.tup ds) := by
  obtain ⟨a, b, c⟩ := new_imm (o := .tup xs) S hp
  exact ⟨{ s with H := upd s.H p (.tup xs) }, rfl, rfl, a, b, .tup (SqT.of upd_same) (r.stab b)⟩
/-- a new list that nobody changes -/
theorem new_lst (S : SR K s) {p : Addr} {xs : List V} {ds : List D} (hp : s.H p = none) (r : RpL K s xs ds) :
    ∃ s', s'.M = s.M ∧ s'.H = upd s.H p (.lst xs) ∧ SR K s' ∧ Stab K s s' ∧ Rp K s' (.ref p) (.lst ds) := by
  obtain ⟨a, b, c⟩ := new_imm (o := .lst xs) S hp
  exact ⟨{ s with H := upd s.H p (.lst xs) }, rfl, rfl, a, b, .lst (.inl ⟨.inl upd_same, c⟩) (r.stab b)⟩
/-- a new list of ours -/
theorem new_mut (S : SR K s) {p : Addr} {xs : List V} {ds : List D} (hp : s.H p = none) (r : RpL K s xs ds) :
    ∃ s', s'.M = s.M ++ [.lst ds] ∧ s'.H = upd s.H p (.lst xs) ∧ SR K s' ∧ Stab K s s' ∧ Rp K s' (.ref p) (.ref s.M.length) := by
  have sm : ∀ b u, s.H b = some u → upd s.H p (.lst xs) b = some u := fun b u e => by rw [upd_ne (ne_of_none e hp)]; exact e
  have lt : ∀ n a, s.as[n]? = some a → n < s.M.length := fun n a e => by
    have := (List.getElem?_eq_some_iff.mp e).1
    rw [S.len] at this; exact this
  have asA : ∀ (n : Nat) (a : Addr), s.as[n]? = some a → (s.as ++ [p])[n]? = some a := fun n a e => by
    rw [List.getElem?_append_left (List.getElem?_eq_some_iff.mp e).1]; exact e
  have lvo : ∀ n, n < s.M.length → live (s.M ++ [.lst ds]) n → live s.M n := fun n hn ⟨o, e, d⟩ => ⟨o, by rw [List.getElem?_append_left hn] at e; exact e, d⟩
  have last : ∀ n a, (s.as ++ [p])[n]? = some a → s.as[n]? = some a ∨ (n = s.M.length ∧ a = p) := fun n a e => by
    rcases Nat.lt_or_ge n s.as.length with h | h
    · exact .inl (by rw [List.getElem?_append_left h] at e; exact e)
    · rw [List.getElem?_append_right h] at e
      have h0 : n - s.as.length = 0 := by
        have := (List.getElem?_eq_some_iff.mp e).1
        simp at this; omega
      rw [h0] at e
      have e2 : p = a := Option.some.inj e
      exact .inr ⟨by rw [← S.len]; omega, e2.symm⟩
  have lv : ∀ a, s.H a ≠ none → Lv (s.as ++ [p]) (s.M ++ [.lst ds]) a → Lv s.as s.M a := fun a ha ⟨n, e, l⟩ => by
    rcases last n a e with e | ⟨_, e⟩
    · exact ⟨n, e, lvo n (lt n a e) l⟩
    · exact absurd hp (e ▸ ha)
  have st : Stab K s ⟨s.as ++ [p], s.M ++ [.lst ds], upd s.H p (.lst xs)⟩ := by
    refine stab_of (fun a ys q => ?_) (fun a ys q => ?_) asA
    · rcases q with (q | ⟨u, q⟩) | q
      · exact .inl (.inl (sm _ _ q))
      · exact .inl (.inr ⟨u, sm _ _ q⟩)
      · exact .inr q
    · rcases q with ⟨q | ⟨u, q⟩, nl⟩ | q
      · exact .inl ⟨.inl (sm _ _ q), fun z => nl (lv a (by rw [q]; simp) z)⟩
      · exact .inl ⟨.inr ⟨u, sm _ _ q⟩, fun z => nl (lv a (by rw [q]; simp) z)⟩
      · exact .inr q
  refine ⟨⟨s.as ++ [p], s.M ++ [.lst ds], upd s.H p (.lst xs)⟩, rfl, rfl, ⟨by simp [S.len], fun m n a e1 e2 l1 l2 => ?_, fun n a u e1 e2 => ?_⟩, st, .ref (by rw [← S.len]; simp)⟩
  · rcases last m a e1 with e1 | ⟨i1, rfl⟩ <;> rcases last n a e2 with e2 | ⟨i2, j2⟩
    · exact S.inj m n a e1 e2 (lvo m (lt m a e1) l1) (lvo n (lt n a e2) l2)
    · obtain ⟨u, e, _⟩ := S.tracked ⟨m, e1, lvo m (lt m _ e1) l1⟩
      rw [j2, hp] at e; cases e
    · obtain ⟨u, e, _⟩ := S.tracked ⟨n, e2, lvo n (lt n _ e2) l2⟩
      rw [hp] at e; cases e
    · rw [i1, i2]
  · rcases last n a e1 with e1 | ⟨i1, rfl⟩
    · have e2' : s.M[n]? = some u := by rw [List.getElem?_append_left (lt n a e1)] at e2; exact e2
      have q := S.obj n a u e1 e2'
      cases u with
      | dead => trivial
      | lst es =>
        obtain ⟨ys, e, r⟩ := q
        exact ⟨ys, sm _ _ e, r.stab st⟩
      | exn c fs => exact q.keepX st (fun b us e => sm _ _ e) fun b φ e => sm _ _ e
    · subst i1
      have e3 : (s.M ++ [MO.lst ds])[s.M.length]? = some u := e2
      simp at e3
      subst e3
      exact ⟨xs, upd_same, r.stab st⟩
/-- an exception caught, of ours from now on -/
theorem new_exn (S : SR K s) {p C : Addr} {c : Str} {fs : List (Str × D)} {dct : Option Addr} (hp : s.H p = none) (hc : PySem.W.nsIn K mainGlobals c = some (some (.ref C))) (hx : XF K s fs dct) :
    ∃ s', s'.M = s.M ++ [.exn c fs] ∧ s'.H = upd s.H p (exk p C dct) ∧ SR K s' ∧ Stab K s s' ∧ Rp K s' (.ref p) (.ref s.M.length) := by
  have sm : ∀ b u, s.H b = some u → upd s.H p (exk p C dct) b = some u := fun b u e => by rw [upd_ne (ne_of_none e hp)]; exact e
  have lt : ∀ n a, s.as[n]? = some a → n < s.M.length := fun n a e => by
    have := (List.getElem?_eq_some_iff.mp e).1
    rw [S.len] at this; exact this
  have asA : ∀ (n : Nat) (a : Addr), s.as[n]? = some a → (s.as ++ [p])[n]? = some a := fun n a e => by
    rw [List.getElem?_append_left (List.getElem?_eq_some_iff.mp e).1]; exact e
  have lvo : ∀ n, n < s.M.length → live (s.M ++ [.exn c fs]) n → live s.M n := fun n hn ⟨o, e, d⟩ => ⟨o, by rw [List.getElem?_append_left hn] at e; exact e, d⟩
  have last : ∀ n a, (s.as ++ [p])[n]? = some a → s.as[n]? = some a ∨ (n = s.M.length ∧ a = p) := fun n a e => by
    rcases Nat.lt_or_ge n s.as.length with h | h
    · exact .inl (by rw [List.getElem?_append_left h] at e; exact e)
    · rw [List.getElem?_append_right h] at e
      have h0 : n - s.as.length = 0 := by
        have := (List.getElem?_eq_some_iff.mp e).1
        simp at this; omega
      rw [h0] at e
      have e2 : p = a := Option.some.inj e
      exact .inr ⟨by rw [← S.len]; omega, e2.symm⟩
  have lv : ∀ a, s.H a ≠ none → Lv (s.as ++ [p]) (s.M ++ [.exn c fs]) a → Lv s.as s.M a := fun a ha ⟨n, e, l⟩ => by
    rcases last n a e with e | ⟨_, e⟩
    · exact ⟨n, e, lvo n (lt n a e) l⟩
    · exact absurd hp (e ▸ ha)
  have st : Stab K s ⟨s.as ++ [p], s.M ++ [.exn c fs], upd s.H p (exk p C dct)⟩ := by
    refine stab_of (fun a ys q => ?_) (fun a ys q => ?_) asA
    · rcases q with (q | ⟨u, q⟩) | q
      · exact .inl (.inl (sm _ _ q))
      · exact .inl (.inr ⟨u, sm _ _ q⟩)
      · exact .inr q
    · rcases q with ⟨q | ⟨u, q⟩, nl⟩ | q
      · exact .inl ⟨.inl (sm _ _ q), fun z => nl (lv a (by rw [q]; simp) z)⟩
      · exact .inl ⟨.inr ⟨u, sm _ _ q⟩, fun z => nl (lv a (by rw [q]; simp) z)⟩
      · exact .inr q
  refine ⟨⟨s.as ++ [p], s.M ++ [.exn c fs], upd s.H p (exk p C dct)⟩, rfl, rfl, ⟨by simp [S.len], fun m n a e1 e2 l1 l2 => ?_, fun n a u e1 e2 => ?_⟩, st, .ref (by rw [← S.len]; simp)⟩
  · rcases last m a e1 with e1 | ⟨i1, rfl⟩ <;> rcases last n a e2 with e2 | ⟨i2, j2⟩
    · exact S.inj m n a e1 e2 (lvo m (lt m a e1) l1) (lvo n (lt n a e2) l2)
    · obtain ⟨u, e, _⟩ := S.tracked ⟨m, e1, lvo m (lt m _ e1) l1⟩
      rw [j2, hp] at e; cases e
    · obtain ⟨u, e, _⟩ := S.tracked ⟨n, e2, lvo n (lt n _ e2) l2⟩
      rw [hp] at e; cases e
    · rw [i1, i2]
  · rcases last n a e1 with e1 | ⟨i1, rfl⟩
    · have e2' : s.M[n]? = some u := by rw [List.getElem?_append_left (lt n a e1)] at e2; exact e2
      have q := S.obj n a u e1 e2'
      cases u with
      | dead => trivial
      | lst es =>
        obtain ⟨ys, e, r⟩ := q
        exact ⟨ys, sm _ _ e, r.stab st⟩
      | exn c fs => exact q.keepX st (fun b us e => sm _ _ e) fun b φ e => sm _ _ e
    · subst i1
      have e3 : (s.M ++ [MO.exn c fs])[s.M.length]? = some u := e2
      simp at e3
      subst e3
      exact ⟨C, dct, hc, upd_same, hx.keep st fun b us e => sm _ _ e⟩
/-- a list of ours changed -/
theorem chg_mut (S : SR K s) {n : Nat} {p : Addr} {xs : List V} {ds es : List D} {ys : List V} (e1 : s.as[n]? = some p) (e2 : s.M[n]? = some (.lst es)) (hx : s.H p = some (.lst xs)) (r : RpL K s ys ds) :
    ∃ s', s'.M = s.M.set n (.lst ds) ∧ s'.H = upd s.H p (.lst ys) ∧ SR K s' ∧ Stab K s s' := by
  have hn : n < s.M.length := (List.getElem?_eq_some_iff.mp e2).1
  have ln : live s.M n := ⟨_, e2, by simp⟩
  have lv : ∀ m, live (s.M.set n (.lst ds)) m → live s.M m := fun m ⟨o, e, d⟩ => by
    by_cases h : n = m
    · subst h; exact ln
    · rw [List.getElem?_set_ne h] at e; exact ⟨o, e, d⟩
  have nt : ∀ a ys, s.H a = some (.tup ys) → a ≠ p := fun a ys e z => by rw [z, hx] at e; cases e
  have nf : ∀ a o u, s.H a = some (.frz o u) → a ≠ p := fun a o u e z => by rw [z, hx] at e; cases e
  have st : Stab K s ⟨s.as, s.M.set n (.lst ds), upd s.H p (.lst ys)⟩ := by
    refine stab_of (fun a zs q => ?_) (fun a zs q => ?_) fun _ _ q => q
    · rcases q with (q | ⟨u, q⟩) | q
      · exact .inl (.inl (by show upd _ _ _ _ = _; rw [upd_ne (nt _ _ q)]; exact q))
      · exact .inl (.inr ⟨u, by show upd _ _ _ _ = _; rw [upd_ne (nf _ _ _ q)]; exact q⟩)
      · exact .inr q
    · rcases q with ⟨q | ⟨u, q⟩, nl⟩ | q
      · have na : a ≠ p := fun z => nl ⟨n, z ▸ e1, ln⟩
        exact .inl ⟨.inl (by show upd _ _ _ _ = _; rw [upd_ne na]; exact q), fun ⟨m, z1, z2⟩ => nl ⟨m, z1, lv m z2⟩⟩
      · exact .inl ⟨.inr ⟨u, by show upd _ _ _ _ = _; rw [upd_ne (nf _ _ _ q)]; exact q⟩, fun ⟨m, z1, z2⟩ => nl ⟨m, z1, lv m z2⟩⟩
      · exact .inr q
  refine ⟨⟨s.as, s.M.set n (.lst ds), upd s.H p (.lst ys)⟩, rfl, rfl, ⟨by simp [S.len], fun m k a h1 h2 l1 l2 => S.inj m k a h1 h2 (lv m l1) (lv k l2), fun m a u h1 h2 => ?_⟩, st⟩
  by_cases h : n = m
  · subst h
    have h2' : (s.M.set n (.lst ds))[n]? = some u := h2
    rw [List.getElem?_set_self hn] at h2'
    cases h2'
    have h1' : s.as[n]? = some a := h1
    rw [e1] at h1'; cases h1'
    exact ⟨ys, upd_same, r.stab st⟩
  · have h2' : (s.M.set n (.lst ds))[m]? = some u := h2
    rw [List.getElem?_set_ne h] at h2'
    have q := S.obj m a u h1 h2'
    cases u with
    | dead => trivial
    | lst zs =>
      obtain ⟨us, e, r⟩ := q
      have na : a ≠ p := fun z => h (S.inj n m p e1 (z ▸ h1) ln ⟨_, h2', by simp⟩)
      exact ⟨us, by show upd _ _ _ _ = _; rw [upd_ne na]; exact e, r.stab st⟩
    | exn c fs =>
      refine q.keepX st (fun b us e => ?_) fun b φ e => ?_
      · show upd _ _ _ _ = _
        rw [upd_ne fun z => by rw [z, hx] at e; cases e]; exact e
      · show upd _ _ _ _ = _
        rw [upd_ne fun z => by rw [z, hx] at e; cases e]; exact e
/-- a list of ours is given up: from then on it stays as it is -/
theorem freeze (S : SR K s) {n : Nat} {p : Addr} {es : List D} (e1 : s.as[n]? = some p) (e2 : s.M[n]? = some (.lst es)) :
    ∃ s', s'.M = s.M.set n .dead ∧ s'.H = s.H ∧ SR K s' ∧ Stab K s s' ∧ Rp K s' (.ref p) (.lst es) := by
  have hn : n < s.M.length := (List.getElem?_eq_some_iff.mp e2).1
  have ln : live s.M n := ⟨_, e2, by simp⟩
  have lv : ∀ m, live (s.M.set n .dead) m → live s.M m ∧ m ≠ n := fun m ⟨o, e, d⟩ => by
    by_cases h : n = m
    · subst h
      rw [List.getElem?_set_self hn] at e; cases e; exact absurd rfl d
    · rw [List.getElem?_set_ne h] at e; exact ⟨⟨o, e, d⟩, Ne.symm h⟩
  have st : Stab K s ⟨s.as, s.M.set n .dead, s.H⟩ := by
    refine stab_of (fun a zs q => q) (fun a zs q => ?_) fun _ _ q => q
    rcases q with ⟨q, nl⟩ | q
    · exact .inl ⟨q, fun ⟨m, z1, z2⟩ => nl ⟨m, z1, (lv m z2).1⟩⟩
    · exact .inr q
  obtain ⟨xs, ex, rx⟩ := S.obj n p _ e1 e2
  refine ⟨⟨s.as, s.M.set n .dead, s.H⟩, rfl, rfl, ⟨by simp [S.len], fun m k a h1 h2 l1 l2 => S.inj m k a h1 h2 (lv m l1).1 (lv k l2).1, fun m a u h1 h2 => ?_⟩, st, .lst (.inl ⟨.inl ex, fun ⟨m, z1, z2⟩ => (lv m z2).2 (S.inj m n p z1 e1 (lv m z2).1 ln)⟩) (rx.stab st)⟩
  by_cases h : n = m
  · subst h
    have h2' : (s.M.set n .dead)[n]? = some u := h2
    rw [List.getElem?_set_self hn] at h2'
    cases h2'
    trivial
  · have h2' : (s.M.set n .dead)[m]? = some u := h2
    rw [List.getElem?_set_ne h] at h2'
    have q := S.obj m a u h1 h2'
    exact OR.stab st rfl q
/-- read as the library's data -/
theorem dp_of : ∀ {v : V} {d : D} {x : PyData}, Rp K s v d → toPy d = some x → Dp K s.H v x := by
  intro v d x h
  refine Rp.rec (motive_1 := fun v d _ => ∀ x, toPy d = some x → Dp K s.H v x) (motive_2 := fun vs ds _ => ∀ xs, toPys ds = some xs → DpAll K s.H vs xs) ?_ ?_ ?_ ?_ ?_ ?_ ?_ ?_ ?_ h x
  · intro x e; simp [toPy] at e; subst e; exact .non
  · intro b x e; simp [toPy] at e; subst e; exact .bl b
  · intro b x e; simp [toPy] at e; subst e; exact .int b
  · intro b x e; simp [toPy] at e; subst e; exact .str b
  · intro a xs ds q _ r x e
    simp [toPy] at e
    obtain ⟨ys, e1, rfl⟩ := e
    exact .tup q (r ys e1)
  · intro a xs ds q _ r x e
    simp [toPy] at e
    obtain ⟨ys, e1, rfl⟩ := e
    exact .lst q.sq (r ys e1)
  · intro n a q x e; simp [toPy] at e
  · intro xs e; simp [toPys] at e; subst e; exact .nil
  · intro v vs d ds _ _ r1 r2 xs e
    simp only [toPys, Option.bind_eq_some_iff, Option.map_eq_some_iff] at e
    obtain ⟨x, e1, y, e2, rfl⟩ := e
    exact .cons (r1 x e1) (r2 y e2)
theorem dpl_of : ∀ {vs : List V} {ds : List D} {xs : List PyData}, RpL K s vs ds → toPys ds = some xs → DpAll K s.H vs xs
  | _, _, _, .nil, e => by simp [toPys] at e; subst e; exact .nil
  | _, _, _, .cons r t, e => by
    simp only [toPys, Option.bind_eq_some_iff, Option.map_eq_some_iff] at e
    obtain ⟨x, e1, y, e2, rfl⟩ := e
    exact .cons (dp_of r e1) (dpl_of t e2)
/-- a datum behind its number -/
theorem dp_drf (S : SR K s) {v : V} {d : D} {x : PyData} (h : Rp K s v d) (e : toPy (drf s.M d) = some x) : Dp K s.H v x := by
  cases h with
  | ref q =>
    rename_i n a
    unfold drf at e
    simp only at e
    cases hm : s.M[n]? with
    | none => rw [hm] at e; simp [toPy] at e
    | some o =>
      rw [hm] at e
      cases o with
      | dead => simp [toPy] at e
      | exn c fs => simp [toPy] at e
      | lst ds =>
        simp [toPy] at e
        obtain ⟨ys, e1, rfl⟩ := e
        obtain ⟨xs, ex, rx⟩ := S.obj n a _ q hm
        exact .lst (.inl (.inl ex)) (dpl_of rx e1)
  | non => exact dp_of .non e
  | bl b => exact dp_of (.bl b) e
  | int b => exact dp_of (.int b) e
  | str b => exact dp_of (.str b) e
  | tup h1 h2 => exact dp_of (.tup h1 h2) e
  | lst h1 h2 => exact dp_of (.lst h1 h2) e
/-- a list or tuple behind its number, as it is read -/
theorem seq_drf (S : SR K s) {v : V} {d : D} {ds : List D} (h : Rp K s v d) (e : drf s.M d = .lst ds) : ∃ a xs, v = .ref a ∧ SqL K s.H a xs ∧ RpL K s xs ds := by
  cases h with
  | ref q =>
    rename_i n a
    unfold drf at e
    simp only at e
    cases hm : s.M[n]? with
    | none => rw [hm] at e; simp at e
    | some o =>
      rw [hm] at e
      cases o with
      | dead => simp at e
      | exn c fs => simp at e
      | lst es =>
        simp at e
        subst e
        obtain ⟨xs, ex, rx⟩ := S.obj n a _ q hm
        exact ⟨a, xs, rfl, .inl (.inl ex), rx⟩
  | lst h1 h2 => simp [drf] at e; subst e; exact ⟨_, _, rfl, h1.sq, h2⟩
  | _ => simp [drf] at e
theorem tup_drf {v : V} {d : D} {ds : List D} (h : Rp K s v d) (e : drf s.M d = .tup ds) : ∃ a xs, v = .ref a ∧ SqT K s.H a xs ∧ RpL K s xs ds := by
  cases h with
  | ref q =>
    unfold drf at e
    simp only at e
    split at e <;> simp at e
  | tup h1 h2 => simp [drf] at e; subst e; exact ⟨_, _, rfl, h1, h2⟩
  | _ => simp [drf] at e
theorem str_drf {v : V} {d : D} {x : Str} (h : Rp K s v d) (e : drf s.M d = .str x) : v = .str x := by
  cases h with
  | ref q =>
    unfold drf at e
    simp only at e
    split at e <;> simp at e
  | str b => simp [drf] at e; rw [e]
  | _ => simp [drf] at e
end
end Cm
/-! Cm, part C: operations by data. -/
namespace Cm
open PySem PySem.Spec PyProof.Rows L2
def RS (K : PySem.W.Frag) (s : W3) (σ : L2.St) (σ' : Slots) : Prop :=
  σ.length = σ'.length ∧ ∀ (i : Nat) (d : D), σ'[i]? = some (some d) → ∃ v, σ[i]? = some (some v) ∧ Rp K s v d
theorem RS.stab {K : PySem.W.Frag} {s s' : W3} {σ : L2.St} {σ' : Slots} (h : RS K s σ σ') (k : Stab K s s') : RS K s' σ σ' :=
  ⟨h.1, fun i d e => let ⟨v, a, b⟩ := h.2 i d e; ⟨v, a, k _ _ b⟩⟩
theorem RS.set {K : PySem.W.Frag} {s : W3} {σ : L2.St} {σ' : Slots} {v : V} {d : D} (h : RS K s σ σ') (r : Rp K s v d) (i : Nat) : RS K s (σ.set i (some v)) (σ'.set i (some d)) := by
  refine ⟨by simp [h.1], fun j e hj => ?_⟩
  by_cases q : i = j
  · subst q
    have hl : i < σ'.length := by
      have := (List.getElem?_eq_some_iff.mp hj).1
      simpa using this
    rw [List.getElem?_set_self hl] at hj
    cases hj
    exact ⟨v, by rw [List.getElem?_set_self (h.1 ▸ hl)], r⟩
  · rw [List.getElem?_set_ne q] at hj
    obtain ⟨u, e1, e2⟩ := h.2 j e hj
    exact ⟨u, by rw [List.getElem?_set_ne q]; exact e1, e2⟩
abbrev Ex3 := Str → List (Str × D) → W3 → Prop
/-- what is wanted of an outcome, from the world s on -/
def Post {α : Type} (K : PySem.W.Frag) (Ex : Ex3) (r : Res α) (s : W3) (Q : α → W3 → Prop) : Prop :=
  match r with
  | .ok a M' => ∀ s', s'.M = M' → SR K s' → Stab K s s' → Q a s'
  | .exc c fs M' => ∀ s', s'.M = M' → SR K s' → Stab K s s' → Ex c fs s'
  | .err => False
section
variable {K : PySem.W.Frag} {Ex : Ex3} {s s1 : W3} {α β : Type}
theorem Post.rebase {r : Res α} {Q : α → W3 → Prop} (h : Post K Ex r s Q) (t : Stab K s s1) : Post K Ex r s1 Q := by
  cases r with
  | ok a M => exact fun s' e S k => h s' e S (t.trans k)
  | exc c fs M => exact fun s' e S k => h s' e S (t.trans k)
  | err => exact h
theorem Post.bind {r : Res α} {f : α → Mem → Res β} {Q : β → W3 → Prop} (h : Post K Ex (r.bind f) s Q) : Post K Ex r s fun a s1 => Post K Ex (f a s1.M) s1 Q := by
  cases r with
  | ok a M => exact fun s' e S k => by subst e; exact Post.rebase h k
  | exc c fs M => exact h
  | err => exact h
theorem Post.mono {r : Res α} {Q Q' : α → W3 → Prop} (h : Post K Ex r s Q) (hq : ∀ a s', SR K s' → Stab K s s' → Q a s' → Q' a s') : Post K Ex r s Q' := by
  cases r with
  | ok a M => exact fun s' e S k => hq a s' S k (h s' e S k)
  | exc c fs M => exact h
  | err => exact h
theorem Post.now {a : α} {Q : α → W3 → Prop} (h : Post K Ex (.ok a s.M) s Q) (S : SR K s) : Q a s := h s rfl S .refl
theorem Post.of {o : Option α} {Q : α → W3 → Prop} (h : Post K Ex (Res.of o s.M) s Q) : ∃ a, o = some a ∧ ∀ s', s'.M = s.M → SR K s' → Stab K s s' → Q a s' := by
  cases o with
  | none => exact False.elim h
  | some a => exact ⟨a, rfl, h⟩
end
abbrev Wm3 := Slots → Ex3
def TI (K : PySem.W.Frag) (Wm : Wm3) (F : Fn) (e : IE) : TE := fun σ H Q => ∃ σ' s, s.H = H ∧ SR K s ∧ RS K s σ σ' ∧
  Post K (Wm σ') (iev F e σ' s.M) s fun d s' => ∀ v, Rp K s' v d → Q v s'.H
def TIs (K : PySem.W.Frag) (Wm : Wm3) (F : Fn) (es : IEs) : TA := fun σ H Q => ∃ σ' s, s.H = H ∧ SR K s ∧ RS K s σ σ' ∧
  Post K (Wm σ') (ievs F es σ' s.M) s fun ds s' => ∀ vs, RpL K s' vs ds → Q vs s'.H
def TIo (K : PySem.W.Frag) (Wm : Wm3) (F : Fn) (e : IO) : TO := fun σ H Q => ∃ σ' s, s.H = H ∧ SR K s ∧ RS K s σ σ' ∧
  Post K (Wm σ') (ievo F e σ' s.M) s fun o s' => Q o s'.H
/-- as a test -/
def TIt (K : PySem.W.Frag) (Wm : Wm3) (F : Fn) (e : IE) : TT := fun σ H Q => ∃ σ' s, s.H = H ∧ SR K s ∧ RS K s σ σ' ∧
  Post K (Wm σ') (iev F e σ' s.M) s fun d s' => ∃ b, d = .bl b ∧ Q b s'.H
theorem PE.imp {X : Cx} {e : Expr} {t t' : TE} (h : PE X e t) (k : ∀ σ H Q, t' σ H Q → t σ H Q) : PE X e t' := ⟨fun pins s σ H Q I q => h.run pins s σ H Q I (k σ H Q q)⟩
theorem PT.imp {X : Cx} {e : Expr} {t t' : TT} (h : PT X e t) (k : ∀ σ H Q, t' σ H Q → t σ H Q) : PT X e t' := ⟨fun pins s σ H Q I q => h.run pins s σ H Q I (k σ H Q q)⟩
theorem PW.imp {X : Cx} {e : Expr} {t t' : TT} (h : PW X e t) (k : ∀ σ H Q, t' σ H Q → t σ H Q) : PW X e t' := ⟨fun wh pins s σ H Q I q => h.run wh pins s σ H Q I (k σ H Q q)⟩
theorem PA.imp {X : Cx} {e : List Expr} {t t' : TA} (h : PA X e t) (k : ∀ σ H Q, t' σ H Q → t σ H Q) : PA X e t' := ⟨fun pos pins s σ H Q I q => h.run pos pins s σ H Q I (k σ H Q q)⟩
theorem PO.imp {X : Cx} {e : Option Expr} {t t' : TO} (h : PO X e t) (k : ∀ σ H Q, t' σ H Q → t σ H Q) : PO X e t' := ⟨fun pins s σ H Q I q => h.run pins s σ H Q I (k σ H Q q)⟩
/-- a two-place operation on data -/
def rF (K : PySem.W.Frag) (f : Mem → D → D → Option D) : R2 := fun x y H Q => ∃ (s : W3) (dx dy d : D), s.H = H ∧ SR K s ∧ Rp K s x dx ∧ Rp K s y dy ∧ f s.M dx dy = some d ∧
  ∀ s', s'.M = s.M → SR K s' → Stab K s s' → ∀ v, Rp K s' v d → Q v s'.H
section
variable {X : Cx}
def opOf : BOp → Operator
  | .add => .Add | .sub => .Sub | .mul => .Mult | .fdiv => .FloorDiv | .mod => .Mod | .pow => .Pow
theorem op_bin (o : BOp) : OpR X (binaryOp (opOf o)) (rF X.K fun _ => bop o) := by
  intro pins s σ H x y v u Q I rx ry h
  obtain ⟨w, dx, dy, d, rfl, S, hx, hy, e, q⟩ := h
  have q0 : ∀ v, Rp X.K w v d → Q v w.H := q w rfl S .refl
  cases o with
  | add =>
    cases hx with
    | int i =>
      cases hy <;> simp [bop] at e
      subst e
      exact op_add pins s σ _ _ _ v u Q I rx ry ⟨_, _, rfl, rfl, q0 _ (.int _)⟩
    | str i =>
      cases hy <;> simp [bop] at e
      obtain ⟨l, rfl⟩ := e
      exact op_add_str pins s σ _ _ _ v u Q I rx ry ⟨_, _, rfl, rfl, l, q0 _ (.str _)⟩
    | tup h1 h2 =>
      cases hy <;> simp [bop] at e
      rename_i k1 k2
      obtain ⟨l, rfl⟩ := e
      refine op_catA pins s σ _ _ _ v u Q I rx ry ⟨_, _, _, _, rfl, rfl, h1, k1, by rw [h2.length, k2.length]; exact l, fun z => ?_, fun _ z => ?_, fun _ _ p hp => ?_⟩
      · subst z
        cases h2
        exact q0 _ (.tup k1 k2)
      · subst z
        cases k2
        exact q0 _ (by rw [List.append_nil]; exact .tup h1 h2)
      · obtain ⟨w', m1, m2, m3, m4, m5⟩ := new_tup (p := p) S hp (h2.append k2)
        have := q w' m1 m3 m4 _ m5
        rw [m2] at this; exact this
    | _ => simp [bop] at e
  | sub =>
    cases hx with
    | int i =>
      cases hy <;> simp [bop] at e
      subst e
      exact op_sub pins s σ _ _ _ v u Q I rx ry ⟨_, _, rfl, rfl, q0 _ (.int _)⟩
    | _ => simp [bop] at e
  | mul =>
    cases hx with
    | int i =>
      cases hy with
      | int j =>
      simp [bop] at e
      obtain ⟨l, rfl⟩ := e
      have l' : (-(2 ^ 64) < i ∧ i < 2 ^ 64) ∨ (-(2 ^ 64) < j ∧ j < 2 ^ 64) := of_decide_eq_true l
      exact op_mul pins s σ _ _ _ v u Q I rx ry ⟨_, _, rfl, rfl, l', q0 _ (.int _)⟩
      | _ => simp [bop] at e
    | str i =>
      cases hy with
      | int j =>
        simp [bop] at e
        obtain ⟨l, rfl⟩ := e
        have l' : j < 1000 ∧ -1000 < j ∧ i.length ≤ 1000 := of_decide_eq_true l
        obtain ⟨t, rfl⟩ := rx
        obtain ⟨t', rfl⟩ := ry
        refine SB.mul ⟨?_, fun hn _ => ?_, fun hn _ => ?_⟩ fun t2 k => ⟨.str _, w.H, I.tok _, ⟨t2, rfl⟩, q0 _ (.str _)⟩
        · simp; omega
        · have : (9223372036854775807 : Int) / 1000 ≤ 9223372036854775807 / j := by
            refine Int.le_ediv_of_mul_le (by omega) ?_
            omega
          have e0 : (2 ^ 63 - 1 : Int) = 9223372036854775807 := by decide
          rw [e0]
          omega
        · unfold Builtin.Str.tooLong
          have : i.length * j.toNat ≤ 1000 * 1000 := Nat.mul_le_mul l'.2.2 (by omega)
          have e1 : (1000000 : Nat) ≤ sizeLine := by decide
          simp
          omega
      | _ => simp [bop] at e
    | _ => simp [bop] at e
  | fdiv =>
    cases hx with
    | int i =>
      cases hy <;> simp [bop] at e
      obtain ⟨l, rfl⟩ := e
      exact op_fdiv pins s σ _ _ _ v u Q I rx ry ⟨_, _, rfl, rfl, l, q0 _ (.int _)⟩
    | _ => simp [bop] at e
  | mod =>
    cases hx with
    | int i =>
      cases hy <;> simp [bop] at e
      obtain ⟨l, rfl⟩ := e
      exact op_mod pins s σ _ _ _ v u Q I rx ry ⟨_, _, rfl, rfl, l, q0 _ (.int _)⟩
    | _ => simp [bop] at e
  | pow =>
    cases hx with
    | int i =>
      cases hy <;> simp [bop] at e
      obtain ⟨l, rfl⟩ := e
      exact op_pow pins s σ _ _ _ v u Q I rx ry ⟨_, _, rfl, rfl, l, q0 _ (.int _)⟩
    | _ => simp [bop] at e
/-- < of data -/
theorem lt_dat (hu : X.A.units + 64 < cLine) : OpR X (compareOp .Lt) (rF X.K fun _ a b => (dlt a b).map .bl) := by
  intro pins s σ H x y v u Q I rx ry h
  obtain ⟨w, dx, dy, d, rfl, S, hx, hy, e, q⟩ := h
  have q0 : ∀ v, Rp X.K w v d → Q v w.H := q w rfl S .refl
  cases hx with
  | int i =>
    cases hy <;> simp [dlt] at e
    subst e
    exact op_lt pins s σ _ _ _ v u Q I rx ry ⟨_, _, rfl, rfl, q0 _ (.bl _)⟩
  | str i =>
    cases hy with
    | str j =>
    have e' : d = .bl (decide (i.cps.toList < j.cps.toList)) := (Option.some.inj e).symm
    subst e'
    exact op_lt_str pins s σ _ _ _ v u Q I rx ry ⟨_, _, rfl, rfl, q0 _ (.bl _)⟩
    | _ => simp [dlt] at e
  | tup h1 h2 =>
    cases hy with
    | tup k1 k2 =>
      simp only [dlt, Option.map_eq_some_iff, Option.bind_eq_some_iff] at e
      obtain ⟨b, ⟨px, ex, py, ey, e⟩, rfl⟩ := e
      split at e
      · rename_i hc
        cases e
        obtain ⟨as, r1⟩ := Dp.reads I (.tuple px) _ v (.tup h1 (dpl_of h2 ex)) rx
        obtain ⟨bs, r2⟩ := Dp.reads I (.tuple py) _ u (.tup k1 (dpl_of k2 ey)) ry
        refine PySem.W.rcLt_alike (.tuple px) (.tuple py) X.A s v u as bs r1 r2 (by simpa [PySem.W.alike] using hc.1) (by simp) (by have := hc.2; omega) X.prog X.w X.xe _ ⟨.bl _, w.H, I, rfl, q0 _ (.bl _)⟩
      · cases e
    | _ => simp [dlt] at e
  | _ => simp [dlt] at e
theorem gt_dat : OpR X (compareOp .Gt) (rF X.K fun _ a b => (dgt a b).map .bl) := by
  intro pins s σ H x y v u Q I rx ry h
  obtain ⟨w, dx, dy, d, rfl, S, hx, hy, e, q⟩ := h
  have q0 : ∀ v, Rp X.K w v d → Q v w.H := q w rfl S .refl
  cases hx with
  | int i =>
    cases hy with
    | int j =>
      obtain rfl := Option.some.inj e
      exact op_gt pins s σ _ _ _ v u Q I rx ry ⟨_, _, rfl, rfl, q0 _ (.bl _)⟩
    | _ => simp [dgt] at e
  | str i =>
    cases hy with
    | str j =>
      obtain rfl := Option.some.inj e
      exact op_gt_str pins s σ _ _ _ v u Q I rx ry ⟨_, _, rfl, rfl, q0 _ (.bl _)⟩
    | _ => simp [dgt] at e
  | _ => simp [dgt] at e
theorem le_dat : OpR X (compareOp .LtE) (rF X.K fun _ a b => (dle a b).map .bl) := by
  intro pins s σ H x y v u Q I rx ry h
  obtain ⟨w, dx, dy, d, rfl, S, hx, hy, e, q⟩ := h
  have q0 : ∀ v, Rp X.K w v d → Q v w.H := q w rfl S .refl
  cases hx with
  | int i =>
    cases hy with
    | int j =>
      obtain rfl := Option.some.inj e
      exact op_le pins s σ _ _ _ v u Q I rx ry ⟨_, _, rfl, rfl, q0 _ (.bl _)⟩
    | _ => simp [dle] at e
  | str i =>
    cases hy with
    | str j =>
      obtain rfl := Option.some.inj e
      exact op_le_str pins s σ _ _ _ v u Q I rx ry ⟨_, _, rfl, rfl, q0 _ (.bl _)⟩
    | _ => simp [dle] at e
  | _ => simp [dle] at e
theorem ge_dat : OpR X (compareOp .GtE) (rF X.K fun _ a b => (dge a b).map .bl) := by
  intro pins s σ H x y v u Q I rx ry h
  obtain ⟨w, dx, dy, d, rfl, S, hx, hy, e, q⟩ := h
  have q0 : ∀ v, Rp X.K w v d → Q v w.H := q w rfl S .refl
  cases hx with
  | int i =>
    cases hy with
    | int j =>
      obtain rfl := Option.some.inj e
      exact op_ge pins s σ _ _ _ v u Q I rx ry ⟨_, _, rfl, rfl, q0 _ (.bl _)⟩
    | _ => simp [dge] at e
  | str i =>
    cases hy with
    | str j =>
      obtain rfl := Option.some.inj e
      exact op_ge_str pins s σ _ _ _ v u Q I rx ry ⟨_, _, rfl, rfl, q0 _ (.bl _)⟩
    | _ => simp [dge] at e
  | _ => simp [dge] at e
theorem eq_dat (hu : X.A.units + 64 < cLine) : OpR X (compareOp .Eq) (rF X.K fun M a b => (deq M a b).map .bl) := by
  intro pins s σ H x y v u Q I rx ry h
  obtain ⟨w, dx, dy, d, rfl, S, hx, hy, e, q⟩ := h
  simp only [deq, Option.map_eq_some_iff, Option.bind_eq_some_iff] at e
  obtain ⟨b, ⟨px, ex, py, ey, e⟩, rfl⟩ := e
  split at e
  · rename_i hc
    cases e
    exact op_eqD hu pins s σ _ _ _ v u Q I rx ry ⟨px, py, dp_drf S hx ex, dp_drf S hy ey, hc.1, hc.2, q w rfl S .refl _ (.bl _)⟩
  · cases e
theorem ne_dat (hu : X.A.units + 64 < cLine) : OpR X (compareOp .NotEq) (rF X.K fun M a b => ((deq M a b).map (!·)).map .bl) := by
  intro pins s σ H x y v u Q I rx ry h
  obtain ⟨w, dx, dy, d, rfl, S, hx, hy, e, q⟩ := h
  simp only [deq, Option.map_map, Option.map_eq_some_iff, Option.bind_eq_some_iff] at e
  obtain ⟨b, ⟨px, ex, py, ey, e⟩, rfl⟩ := e
  split at e
  · rename_i hc
    cases e
    exact op_neD hu pins s σ _ _ _ v u Q I rx ry ⟨px, py, dp_drf S hx ex, dp_drf S hy ey, hc.1, hc.2, q w rfl S .refl _ (.bl _)⟩
  · cases e
theorem non_iff {K : PySem.W.Frag} {w : W3} {x : V} {d : D} (h : Rp K w x d) : decide (x = .non) = (match d with | .non => true | _ => false) := by
  cases h <;> simp
theorem is_dat : OpR X (compareOp .Is) (rF X.K fun M a b => (cop M .isN a b).map .bl) := by
  intro pins s σ H x y v u Q I rx ry h
  obtain ⟨w, dx, dy, d, rfl, S, hx, hy, e, q⟩ := h
  cases hy with
  | non =>
    refine op_isN pins s σ _ _ _ v u Q I rx ry ⟨rfl, ?_⟩
    have e' : d = .bl (decide (x = .non)) := by
      rw [non_iff hx]
      cases dx <;> simp [cop] at e <;> exact e.symm
    subst e'
    exact q w rfl S .refl _ (.bl _)
  | _ => simp [cop] at e
theorem isnot_dat : OpR X (compareOp .IsNot) (rF X.K fun M a b => (cop M .notN a b).map .bl) := by
  intro pins s σ H x y v u Q I rx ry h
  obtain ⟨w, dx, dy, d, rfl, S, hx, hy, e, q⟩ := h
  cases hy with
  | non =>
    refine op_notN pins s σ _ _ _ v u Q I rx ry ⟨rfl, ?_⟩
    have e' : d = .bl (!decide (x = .non)) := by
      rw [non_iff hx]
      cases dx <;> simp [cop] at e <;> exact e.symm
    subst e'
    exact q w rfl S .refl _ (.bl _)
  | _ => simp [cop] at e
/-- in place: numbers and texts -/
theorem iop_bin (o : BOp) : OpR X (inplaceOp (opOf o)) (rF X.K fun _ => ibop o) := by
  intro pins s σ H x y v u Q I rx ry h
  obtain ⟨w, dx, dy, d, rfl, S, hx, hy, e, q⟩ := h
  have q0 : ∀ v, Rp X.K w v d → Q v w.H := q w rfl S .refl
  cases o with
  | add =>
    cases hx with
    | int i =>
      cases hy <;> simp [ibop] at e
      subst e
      exact iop_add pins s σ _ _ _ v u Q I rx ry ⟨_, _, rfl, rfl, q0 _ (.int _)⟩
    | str i =>
      cases hy <;> simp [ibop] at e
      obtain ⟨l, rfl⟩ := e
      exact iop_add_str pins s σ _ _ _ v u Q I rx ry ⟨_, _, rfl, rfl, l, q0 _ (.str _)⟩
    | _ => simp [ibop] at e
  | sub =>
    cases hx with
    | int i =>
      cases hy <;> simp [ibop] at e
      subst e
      exact iop_sub pins s σ _ _ _ v u Q I rx ry ⟨_, _, rfl, rfl, q0 _ (.int _)⟩
    | _ => simp [ibop] at e
  | fdiv =>
    cases hx with
    | int i =>
      cases hy <;> simp [ibop] at e
      obtain ⟨l, rfl⟩ := e
      exact iop_fdiv pins s σ _ _ _ v u Q I rx ry ⟨_, _, rfl, rfl, l, q0 _ (.int _)⟩
    | _ => simp [ibop] at e
  | _ => simp [ibop] at e
theorem OpR.imp {f : Value → Value → Sem Value} {r r' : R2} (h : OpR X f r) (k : ∀ x y H Q, r' x y H Q → r x y H Q) : OpR X f r' :=
  fun pins s σ H x y v u Q I rx ry q => h pins s σ H x y v u Q I rx ry (k x y H Q q)
def cmpOf : COp → CmpOp
  | .eq => .Eq | .ne => .NotEq | .lt => .Lt | .le => .LtE | .gt => .Gt | .ge => .GtE | .isN => .Is | .notN => .IsNot
theorem op_cmp (hu : X.A.units + 64 < cLine) (o : COp) : OpR X (compareOp (cmpOf o)) (rF X.K fun M a b => (cop M o a b).map .bl) := by
  cases o with
  | eq => exact eq_dat hu
  | ne => exact ne_dat hu
  | lt => exact lt_dat hu
  | le => exact le_dat
  | gt => exact gt_dat
  | ge => exact ge_dat
  | isN => exact is_dat
  | notN => exact isnot_dat
theorem atI_rp {K : PySem.W.Frag} {w : W3} {xs : List V} {ds : List D} {k : Int} {d : D} (r : RpL K w xs ds) (e : atI ds k = some d) : ∃ v, atI xs k = some v ∧ Rp K w v d := by
  unfold atI at e ⊢
  rw [r.length]
  cases h : ixN ds.length k with
  | none => rw [h] at e; cases e
  | some j =>
    rw [h] at e
    exact r.get e
theorem ix_dat : IxR X (rF X.K idx) := by
  intro value slice pins s σ H x y v u Q I rx ry h hs
  obtain ⟨w, dx, dy, d, rfl, S, hx, hy, e, q⟩ := h
  have q0 : ∀ v, Rp X.K w v d → Q v w.H := q w rfl S .refl
  cases hy with
  | int k =>
    unfold idx at e
    cases hd : drf w.M dx with
    | tup ds =>
      rw [hd] at e
      obtain ⟨a, xs, rfl, h1, h2⟩ := tup_drf hx hd
      obtain ⟨z, e1, e2⟩ := atI_rp h2 e
      exact ix_tup value slice pins s σ _ _ _ v u Q I rx ry ⟨a, xs, k, z, rfl, rfl, h1, e1, q0 _ e2⟩ hs
    | lst ds =>
      rw [hd] at e
      obtain ⟨a, xs, rfl, h1, h2⟩ := seq_drf S hx hd
      obtain ⟨z, e1, e2⟩ := atI_rp h2 e
      exact ix_list value slice pins s σ _ _ _ v u Q I rx ry ⟨a, xs, k, z, rfl, rfl, h1, e1, q0 _ e2⟩ hs
    | str z =>
      rw [hd] at e
      obtain rfl := str_drf hx hd
      simp only at e
      split at e
      · rename_i hz
        obtain ⟨c, e1, rfl⟩ := Option.map_eq_some_iff.mp e
        exact ix_str value slice pins s σ _ _ _ v u Q I rx ry ⟨z, k, c, rfl, rfl, hz, e1, q0 _ (.str _)⟩ hs
      · cases e
    | _ => rw [hd] at e; simp at e
  | _ => unfold idx at e; simp at e
/-- a slice -/
def rS3 (K : PySem.W.Frag) : V → Option Int → Option Int → Hp → VK → Prop := fun x lo hi H Q => ∃ (s : W3) (dx d : D), s.H = H ∧ SR K s ∧ Rp K s x dx ∧ sli s.M dx lo hi = some d ∧
  ∀ s', s'.M = s.M → SR K s' → Stab K s s' → ∀ v, Rp K s' v d → Q v s'.H
theorem cut_rp {K : PySem.W.Frag} {w : W3} {xs : List V} {ds : List D} (r : RpL K w xs ds) (lo hi : Option Int) : RpL K w (cutV xs lo hi) (cutD ds lo hi) := by
  unfold cutV cutD
  rw [r.length]
  exact (r.drop _).take _
theorem cut_all {α : Type} {xs : List α} {lo hi : Option Int} (h : HT.sIx xs.length 0 lo = 0 ∧ HT.sIx xs.length xs.length hi = xs.length) : cutD xs lo hi = xs := by
  unfold cutD
  rw [h.1, h.2]
  simp
theorem sl_dat : SlR X (rS3 X.K) := by
  intro pins s σ H x v vl vu lo hi sl Q I rx hs pl pu h
  obtain ⟨w, dx, d, rfl, S, hx, e, q⟩ := h
  have q0 : ∀ v, Rp X.K w v d → Q v w.H := q w rfl S .refl
  unfold sli at e
  cases hd : drf w.M dx with
  | tup ds =>
    rw [hd] at e
    obtain rfl := Option.some.inj e
    obtain ⟨a, xs, rfl, h1, h2⟩ := tup_drf hx hd
    refine sl_tupA pins s σ _ _ v vl vu lo hi sl Q I rx hs pl pu ⟨a, xs, rfl, h1, fun hw => ?_, fun _ p hp => ?_⟩
    · rw [h2.length] at hw
      rw [cut_all hw] at q0
      exact q0 _ (.tup h1 h2)
    · obtain ⟨w', m1, m2, m3, m4, m5⟩ := new_tup (p := p) S hp (cut_rp h2 lo hi)
      have := q w' m1 m3 m4 _ m5
      rw [m2] at this; exact this
  | lst ds =>
    rw [hd] at e
    obtain rfl := Option.some.inj e
    obtain ⟨a, xs, rfl, h1, h2⟩ := seq_drf S hx hd
    refine sl_list pins s σ _ _ v vl vu lo hi sl Q I rx hs pl pu ⟨a, xs, rfl, h1, fun p hp => ?_⟩
    obtain ⟨w', m1, m2, m3, m4, m5⟩ := new_lst (p := p) S hp (cut_rp h2 lo hi)
    have := q w' m1 m3 m4 _ m5
    rw [m2] at this; exact this
  | str z =>
    rw [hd] at e
    simp only at e
    split at e
    · rename_i hz
      obtain rfl := Option.some.inj e
      obtain rfl := str_drf hx hd
      exact sl_str pins s σ _ _ v vl vu lo hi sl Q I rx hs pl pu ⟨z, rfl, hz, q0 _ (.str _)⟩
    · cases e
  | _ => rw [hd] at e; simp at e
end
end Cm
/-! Cm, part D: from the text to the small language, and back. -/
namespace Cm
open PySem PySem.Spec PyProof.Rows L2
structure Gm where
  N : List Str
  sc : Scope
  fn : List (Str × Nat)
  calm : Bool := true
  isx : List (Str × List (Str × Bool)) := []
  exc : List (Str × Str) := []
  cat : List (Str × List (Str × Bool)) := []
def ixOf (x : Str) : List Str → Option Nat
  | [] => none
  | y :: r => if y = x then some 0 else (ixOf x r).map (· + 1)
theorem ixOf_get {x : Str} : ∀ {l : List Str} {i : Nat}, ixOf x l = some i → l[i]? = some x
  | [], _, h => by simp [ixOf] at h
  | y :: r, i, h => by
    unfold ixOf at h
    split at h
    · rename_i e
      cases h
      simp [e]
    · obtain ⟨j, e, rfl⟩ := Option.map_eq_some_iff.mp h
      simpa using ixOf_get e
def okName (x : Str) : Bool := !(x == ("__debug__" : Str)) && !(x == ("__classdict__" : Str)) && !(x == ("__name__" : Str))
def Gm.loc (Γ : Gm) (x : Str) : Option Nat :=
  if okName x = true then
    match Γ.sc.names.lookup x with
    | some .local => ixOf x Γ.N
    | some .cell => ixOf x Γ.N
    | some .free => ixOf x Γ.N
    | _ => none
  else none
def Gm.glo (Γ : Gm) (x : Str) : Bool := okName x && (Γ.sc.names.lookup x == some .globalImplicit)
def cEs (f : Expr → Option IE) : List Expr → Option IEs
  | [] => some .nil
  | e :: r => (f e).bind fun x => (cEs f r).map fun y => .cons x y
def cBool (f : Expr → Option IE) (op : IE → IE → IE) : List Expr → Option IE
  | [] => none
  | [e] => f e
  | e :: e2 :: r => (f e).bind fun x => (cBool f op (e2 :: r)).map fun y => op x y
def cOpt (f : Expr → Option IE) : Option Expr → Option IO
  | none => some .none
  | some e => (f e).map .some
def cOp : Operator → Option BOp
  | .Add => some .add | .Sub => some .sub | .Mult => some .mul | .FloorDiv => some .fdiv | .Mod => some .mod | .Pow => some .pow
  | _ => none
def cCmp : CmpOp → Option COp
  | .Eq => some .eq | .NotEq => some .ne | .Lt => some .lt | .LtE => some .le | .Gt => some .gt | .GtE => some .ge | .Is => some .isN | .IsNot => some .notN
  | _ => none
def cConst : Const → Option D
  | .none => some .non
  | .bool b => some (.bl b)
  | .int i => some (.int i)
  | .str x => some (.str x)
  | _ => none
def tyOk (T : Str) : Option String :=
  if T = ("tuple" : Str) then some "tuple" else if T = ("str" : Str) then some "str" else if T = ("int" : Str) then some "int" else if T = ("bool" : Str) then some "bool" else if T = ("list" : Str) then some "list" else none
def cPrim (Γ : Gm) (c : Expr → Option IE) (f : Str) (es : List Expr) : Option IE :=
  match es with
  | [a] => if f = ("len" : Str) then (c a).map fun x => .prim .len (.cons x .nil) else none
  | [a, b] =>
    if f = ("min" : Str) ∧ Γ.calm = true then (c a).bind fun x => (c b).map fun y => .prim .min (.cons x (.cons y .nil))
    else if f = ("max" : Str) ∧ Γ.calm = true then (c a).bind fun x => (c b).map fun y => .prim .max (.cons x (.cons y .nil))
    else if f = ("isinstance" : Str) then
      match b with
      | .Name T _ => if Γ.glo T = true then
          match Γ.isx.lookup T with
          | some tbl => (c a).map fun x => .prim (.isx tbl) (.cons x .nil)
          | none => (tyOk T).bind fun t => (c a).map fun x => .prim (.isa t) (.cons x .nil)
        else none
      | _ => none
    else none
  | _ => none
def notIf : Expr → Bool
  | .IfExp _ _ _ _ => false
  | _ => true
def cT (c : Expr → Option IE) (e : Expr) : Option IE := if notIf e = true then c e else none
def recvOk : Expr → Bool
  | .Call (.Name _ _) [] [] _ => false
  | _ => true
def cE (Γ : Gm) : Nat → Expr → Option IE
  | 0, _ => none
  | n + 1, e =>
    match e with
    | .Name x _ => (Γ.loc x).map .var
    | .Constant c _ _ => (cConst c).map .lit
    | .Tuple es _ _ => (cEs (cE Γ n) es).map .tup
    | .List es _ => (cEs (cE Γ n) es).map .lst
    | .BinOp a o b _ => (cOp o).bind fun o => (cE Γ n a).bind fun x => (cE Γ n b).map fun y => .bin o x y
    | .Compare a [o] [b] _ => (cCmp o).bind fun o => (cE Γ n a).bind fun x => (cE Γ n b).map fun y => .cmp o x y
    | .BoolOp .And es _ => cBool (cT (cE Γ n)) .and es
    | .BoolOp .Or es _ => cBool (cT (cE Γ n)) .or es
    | .UnaryOp .Not a _ => (cT (cE Γ n) a).map .not
    | .UnaryOp .USub a _ => (cE Γ n a).map .neg
    | .IfExp c a b _ => (cT (cE Γ n) c).bind fun z => (cE Γ n a).bind fun x => (cE Γ n b).map fun y => .ite z x y
    | .Subscript a (.Slice lo hi none _) _ => (cE Γ n a).bind fun x => (cOpt (cE Γ n) lo).bind fun l => (cOpt (cE Γ n) hi).map fun h => .sli x l h
    | .Subscript a b _ => (cE Γ n a).bind fun x => (cE Γ n b).map fun y => .idx x y
    | .Attribute e f _ => if recvOk e = true then (cE Γ n e).map fun x => .attr x f ((Γ.exc.filter fun p => p.2 = f).map (·.1)) else none
    | .Call (.Name f _) es [] _ => if Γ.glo f = true then
        match Γ.fn.lookup f with
        | some k => (cEs (cE Γ n) es).map (.call k)
        | none => cPrim Γ (cE Γ n) f es
      else none
    | _ => none
/-- an exception, as it lies -/
def XD (K : PySem.W.Frag) (s : W3) (c : Str) (fs : List (Str × D)) (cls : Value) (dct : Option Addr) : Prop :=
  ∃ C : Addr, cls = .ref C ∧ PySem.W.nsIn K mainGlobals c = some (some (.ref C)) ∧ XF K s fs dct
def spD (K : PySem.W.Frag) (den : List D → Mem → Res D) : Sp := fun vs H Q E => ∃ s ds, s.H = H ∧ SR K s ∧ RpL K s vs ds ∧
  Post K (fun c fs s' => ∀ cls dct, XD K s' c fs cls dct → E cls dct s'.H) (den ds s.M) s fun d s' => ∀ v, Rp K s' v d → Q v s'.H
/-- a def that may be called -/
def FnkOk (X : Cx) (den : List D → Mem → Res D) (x : Str) : Prop :=
  ∃ (f : Addr) (fd : FuncData) (ps : List Str) (l : Nat), X.mg x = some (.ref f) ∧ PySem.W.keepIn X.K (.ref f) = true ∧
    FnOk X.prog X.w X.K X.mg X.base (L2.CX X.prog X.w) l f fd ps (spD X.K den) ∧ Room l X.A ∧ Binds X.K fd ps []
def blts : List Str := ["len", "min", "max", "isinstance", "range", "tuple", "str", "int", "bool", "list"]
/-- what isinstance says of our exceptions -/
def IsxOk (X : Cx) (T : Str) (tbl : List (Str × Bool)) : Prop :=
  ∃ (cv : V) (u : Value), ((X.mg T = some u) ∨ (X.mg T = none ∧ bootBuiltins T = some u)) ∧ RelV cv u ∧ (∀ z, RelV cv z → z = u) ∧
    ∀ c b C, tbl.lookup c = some b → PySem.W.nsIn X.K mainGlobals c = some (some (.ref C)) → PySem.W.kitOne X.K (.ref C) u = some b ∧ ExcC X.K C
structure Sd (Γ : Gm) (F : Fn) (Wm : Wm3) (W : WX) (X : Cx) : Prop where
  hN : X.N = Γ.N
  hsc : X.env.scope = Γ.sc
  nd : Γ.N.Nodup
  calm : Γ.calm = true → X.calm = true
  isx : ∀ T tbl, Γ.isx.lookup T = some tbl → IsxOk X T tbl
  exc : ∀ c f, (c, f) ∈ Γ.exc → ∀ C, PySem.W.nsIn X.K mainGlobals c = some (some (.ref C)) → XfC X.K C ∧ PySem.W.findIn X.K (.ref C) f = some none
  un : X.A.units + 64 < cLine
  tk : Takes X W
  hW : ∀ c fs σ' s cls dct σ, Wm σ' c fs s → SR X.K s → RS X.K s σ σ' → XD X.K s c fs cls dct → W cls dct σ s.H
  fns : ∀ x k, Γ.fn.lookup x = some k → FnkOk X (F k) x
  bl : ∀ x ∈ blts, X.mg x = none
section
variable {Γ : Gm} {F : Fn} {Wm : Wm3} {W : WX} {X : Cx}
theorem Post.exm {K : PySem.W.Frag} {Ex Ex' : Ex3} {s : W3} {α : Type} {r : Res α} {Q : α → W3 → Prop} (h : Post K Ex r s Q) (k : ∀ c fs s', SR K s' → Stab K s s' → Ex c fs s' → Ex' c fs s') : Post K Ex' r s Q := by
  cases r with
  | ok a M => exact h
  | exc c fs M => exact fun s' e S t => k c fs s' S t (h s' e S t)
  | err => exact h
theorem okn {x : Str} (h : okName x = true) : (x == ("__debug__" : Str)) = false ∧ (x == ("__classdict__" : Str)) = false ∧ x ≠ "__name__" := by
  unfold okName at h
  simp only [Bool.and_eq_true, Bool.not_eq_true'] at h
  exact ⟨h.1.1, h.1.2, fun z => by subst z; exact absurd h.2 (by simp)⟩
theorem Sd.gl (S : Sd Γ F Wm W X) {x : Str} (h : Γ.glo x = true) : Gl X x ∧ (x == ("__debug__" : Str)) = false ∧ x ≠ "__name__" := by
  unfold Gm.glo at h
  rw [Bool.and_eq_true] at h
  refine ⟨?_, (okn h.1).1, (okn h.1).2.2⟩
  show X.env.scope.names.lookup x = _
  rw [S.hsc]
  exact beq_iff_eq.mp h.2
theorem cT_c {c : Expr → Option IE} {e : Expr} {ie : IE} (h : cT c e = some ie) : c e = some ie ∧ notIf e = true := by
  unfold cT at h
  split at h
  · rename_i q; exact ⟨h, q⟩
  · cases h
def notStar : Expr → Bool
  | .Starred _ _ => false
  | _ => true
theorem cE_star {n : Nat} {e : Expr} {ie : IE} (h : cE Γ n e = some ie) : notStar e = true := by
  cases n with
  | zero => simp [cE] at h
  | succ n => cases e <;> first | rfl | simp [cE] at h
theorem star1 {e : Expr} {es : List Expr} {env : Env} (h : notStar e = true) : starEach (e :: es) env = (false, eval e env) :: starEach es env := by
  cases e <;> first | rfl | simp [notStar] at h
theorem cEs_plain {n : Nat} {pos : Pos} {env : Env} : ∀ {es : List Expr} {ies : IEs}, cEs (cE Γ n) es = some ies → (backTo pos (starEach es env)).any (·.1) = false
  | [], _, _ => rfl
  | e :: r, ies, h => by
    simp only [cEs, Option.bind_eq_some_iff, Option.map_eq_some_iff] at h
    obtain ⟨x, e1, y, e2, rfl⟩ := h
    rw [star1 (cE_star e1)]
    have := cEs_plain (pos := pos) (env := env) e2
    simpa [backTo] using this
theorem se_args (S : Sd Γ F Wm W X) {n : Nat} (ih : ∀ e ie, cE Γ n e = some ie → PE X e (TI X.K Wm F ie)) : ∀ {es : List Expr} {ies : IEs}, cEs (cE Γ n) es = some ies → PA X es (TIs X.K Wm F ies)
  | [], ies, h => by
    simp only [cEs, Option.some.injEq] at h
    subst h
    refine PA.imp pa_nil fun σ H Q ⟨σ', s, e, SS, R, p⟩ => ?_
    subst e
    simp only [ievs] at p
    exact p.now SS _ .nil
  | e :: r, ies, h => by
    simp only [cEs, Option.bind_eq_some_iff, Option.map_eq_some_iff] at h
    obtain ⟨x, e1, y, e2, rfl⟩ := h
    refine PA.imp (pa_cons (ih e x e1) (se_args S ih e2) (star1 (cE_star e1))) fun σ H Q ⟨σ', s, e, SS, R, p⟩ => ?_
    subst e
    simp only [ievs] at p
    refine ⟨σ', s, rfl, SS, R, p.bind.mono fun d s1 S1 t1 p1 v hv => ?_⟩
    refine ⟨σ', s1, rfl, S1, R.stab t1, p1.bind.mono fun ds s2 S2 t2 p2 vs hvs => ?_⟩
    exact p2.now S2 _ (.cons (t2 _ _ hv) hvs)
theorem pe_fn (S : Sd Γ F Wm W X) {x : Str} {k : Nat} {es : List Expr} {ies : IEs} {p pos : Pos} (hx : Γ.fn.lookup x = some k) (hg : Γ.glo x = true) (ha : PA X es (TIs X.K Wm F ies))
    (hst : ∀ e r, es = e :: r → starEach (e :: r) X.env = (false, eval e X.env) :: starEach r X.env) (hpl : ∀ e r, es = e :: r → (backTo pos (starEach r X.env)).any (·.1) = false) (hn : es = [] → ies = .nil) :
    PE X (.Call (.Name x p) es [] pos) (TI X.K Wm F (.call k ies)) := by
  obtain ⟨f, fd, ps, l, hm, hk, ok, hr, hb⟩ := S.fns x k hx
  obtain ⟨g1, g2, g3⟩ := S.gl hg
  have go : ∀ (pins : List (Addr × Obj)) (s1 : Shared) (σ : L2.St) (H : Hp) (Q : VK) (us : List Value) (vs : List V), Inv X pins σ H s1 → Vals vs us →
      spD X.K (F k) vs H Q (fun cls d H' => W cls d σ H') → wpAny (model X.prog X.w) X.A (call (.ref f) us) (EP X pins σ Q) X.xe s1 := by
    intro pins s σ H Q us vs I r h
    have hl : (us ++ []).length = ps.length := by rw [List.append_nil, ← r.length]; exact ok.len _ _ _ _ h
    refine wpAny_call (codeAny_mono (ok.run X.A X.stack s H ⟨us, []⟩ us vs Q _ hr I.env0 (by have := hb s us I.kIn hl; rwa [List.append_nil] at this) r h) fun r s' hq => ?_)
    cases r with
    | error e => exact S.tk e s' (XE.of_call I (fun _ _ _ z => z) hq)
    | ok fl =>
      cases fl with
      | ret u => exact I.after hq
      | next => exact False.elim hq
      | brk => exact False.elim hq
      | cont => exact False.elim hq
  have args : ∀ σ H Q, TI X.K Wm F (.call k ies) σ H Q → TIs X.K Wm F ies σ H fun vs H1 => spD X.K (F k) vs H1 Q (fun cls d H' => W cls d σ H') := by
    rintro σ H Q ⟨σ', s, e, SS, R, q⟩
    subst e
    simp only [iev] at q
    refine ⟨σ', s, rfl, SS, R, q.bind.mono fun ds s1 S1 t1 q1 vs hvs => ⟨s1, ds, rfl, S1, hvs, q1.exm fun c fs s' S' t' z cls dct xd => ?_⟩⟩
    exact S.hW c fs σ' s' cls dct σ z S' ((R.stab t1).stab t') xd
  cases es with
  | nil =>
    refine ⟨fun pins s σ H Q I h => ?_⟩
    refine wpAny_Call_Name_kw (ld_glob I g1 hm ?_ g2)
    refine PySem.W.callWith_K0 I.kIn hk ?_
    obtain rfl := hn rfl
    obtain ⟨σ', s0, e, SS, R, q⟩ := h
    subst e
    simp only [iev, ievs, Res.bind_ok] at q
    exact go pins s σ _ Q [] [] I .nil ⟨s0, [], rfl, SS, .nil, q.exm fun c fs s' S' t' z cls dct xd => S.hW c fs σ' s' cls dct σ z S' (R.stab t') xd⟩
  | cons e r =>
    refine ⟨fun pins s σ H Q I h => ?_⟩
    refine wpAny_Call_Name_kw (ld_glob I g1 hm ?_ g2)
    refine PySem.W.callWith_K (h₀ := X.base) I.ok.mod.kin hk (thn (ha.run pos pins s σ H _ I (args σ H Q h)) fun us s1 ⟨vs, H1, I1, r, q⟩ => ⟨I1.kIn, ?_⟩) (hst e r rfl) (hpl e r rfl)
    exact go pins s1 σ H1 Q us vs I1 r q
theorem rp_bl {K : PySem.W.Frag} {s : W3} {v : V} {b : Bool} (h : Rp K s v (.bl b)) : v = .bl b := by cases h; rfl
theorem rp_int {K : PySem.W.Frag} {s : W3} {v : V} {b : Int} (h : Rp K s v (.int b)) : v = .int b := by cases h; rfl
/-- two expressions and an operation -/
theorem two {f : Mem → D → D → Option D} {ia ib ie : IE} (hev : ∀ σ' M, iev F ie σ' M = (iev F ia σ' M).bind fun x M => (iev F ib σ' M).bind fun y M => Res.of (f M x y) M)
    {σ : L2.St} {H : Hp} {Q : VK} (h : TI X.K Wm F ie σ H Q) : tOp (rF X.K f) (TI X.K Wm F ia) (TI X.K Wm F ib) σ H Q := by
  obtain ⟨σ', s, e, SS, R, q⟩ := h
  subst e
  rw [hev] at q
  refine ⟨σ', s, rfl, SS, R, q.bind.mono fun x s1 S1 t1 q1 vx hx => ?_⟩
  refine ⟨σ', s1, rfl, S1, R.stab t1, q1.bind.mono fun y s2 S2 t2 q2 vy hy => ?_⟩
  obtain ⟨d, ed, qd⟩ := q2.of
  exact ⟨s2, x, y, d, rfl, S2, t2 _ _ hx, hy, ed, fun s' e S t => qd s' e S t⟩
theorem ev_cmp (o : COp) (a b : IE) (σ : Slots) (M : Mem) : iev F (.cmp o a b) σ M = (iev F a σ M).bind fun x M => (iev F b σ M).bind fun y M => Res.of ((cop M o x y).map .bl) M := by
  simp only [iev]
  congr 1
  funext x M
  congr 1
  funext y M
  cases cop M o x y <;> rfl
/-- a bool as a test -/
theorem tit_ti {e : IE} {σ : L2.St} {H : Hp} {Q : Bool → Hp → Prop} (h : TIt X.K Wm F e σ H Q) : TI X.K Wm F e σ H fun x H1 => ∃ c, x = .bl c ∧ Q c H1 := by
  obtain ⟨σ', s, e, SS, R, q⟩ := h
  exact ⟨σ', s, e, SS, R, q.mono fun d s1 S1 t1 ⟨b, eb, qb⟩ v hv => ⟨b, rp_bl (eb ▸ hv), qb⟩⟩
theorem pt_plain {e : Expr} {ie : IE} (h : PE X e (TI X.K Wm F ie)) (he : ∀ whole, isTrue e X.env whole = (do let v ← whole; standAt e.pos; holding [v] (truthy v))) : PT X e (TIt X.K Wm F ie) :=
  PT.imp (pt_val h he) fun σ H Q q => tit_ti q
theorem cBool_get {c : Expr → Option IE} {op : IE → IE → IE} : ∀ {es : List Expr} {ie : IE}, cBool c op es = some ie → ∃ e r, es = e :: r
  | [], _, h => by simp [cBool] at h
  | e :: r, _, _ => ⟨e, r, rfl⟩
theorem and_pe {c : Expr → Option IE} {pos : Pos} (ih : ∀ e ie, c e = some ie → PE X e (TI X.K Wm F ie)) : ∀ {es : List Expr} {ie : IE}, cBool c .and es = some ie → PE X (.BoolOp .And es pos) (TI X.K Wm F ie)
  | [], _, h => by simp [cBool] at h
  | [e], ie, h => pe_one (ih e ie h)
  | e :: e2 :: r, ie, h => by
    simp only [cBool, Option.bind_eq_some_iff, Option.map_eq_some_iff] at h
    obtain ⟨x, e1, y, e2', rfl⟩ := h
    refine PE.imp (pe_and (ih _ _ e1) (and_pe ih e2')) fun σ H Q ⟨σ', s, e, SS, R, q⟩ => ?_
    subst e
    simp only [iev] at q
    refine ⟨σ', s, rfl, SS, R, q.bind.mono fun d s1 S1 t1 q1 v hv => ?_⟩
    cases d with
    | bl b =>
      refine ⟨b, rp_bl hv, ?_⟩
      cases b with
      | true => exact ⟨σ', s1, rfl, S1, R.stab t1, q1⟩
      | false => exact q1.now S1 _ (.bl _)
    | _ => exact False.elim q1
theorem or_pe {c : Expr → Option IE} {pos : Pos} (ih : ∀ e ie, c e = some ie → PE X e (TI X.K Wm F ie)) : ∀ {es : List Expr} {ie : IE}, cBool c .or es = some ie → PE X (.BoolOp .Or es pos) (TI X.K Wm F ie)
  | [], _, h => by simp [cBool] at h
  | [e], ie, h => pe_one (ih e ie h)
  | e :: e2 :: r, ie, h => by
    simp only [cBool, Option.bind_eq_some_iff, Option.map_eq_some_iff] at h
    obtain ⟨x, e1, y, e2', rfl⟩ := h
    refine PE.imp (pe_or (ih _ _ e1) (or_pe ih e2')) fun σ H Q ⟨σ', s, e, SS, R, q⟩ => ?_
    subst e
    simp only [iev] at q
    refine ⟨σ', s, rfl, SS, R, q.bind.mono fun d s1 S1 t1 q1 v hv => ?_⟩
    cases d with
    | bl b =>
      refine ⟨b, rp_bl hv, ?_⟩
      cases b with
      | true => exact q1.now S1 _ (.bl _)
      | false => exact ⟨σ', s1, rfl, S1, R.stab t1, q1⟩
    | _ => exact False.elim q1
theorem and_pw {c : Expr → Option IE} {pos : Pos} (ih : ∀ e ie, c e = some ie → PT X e (TIt X.K Wm F ie)) : ∀ {es : List Expr} {ie : IE}, cBool c .and es = some ie → PW X (.BoolOp .And es pos) (TIt X.K Wm F ie)
  | [], _, h => by simp [cBool] at h
  | [e], ie, h => pw_and1 (ih e ie h)
  | e :: e2 :: r, ie, h => by
    simp only [cBool, Option.bind_eq_some_iff, Option.map_eq_some_iff] at h
    obtain ⟨x, e1, y, e2', rfl⟩ := h
    refine PW.imp (pw_and (ih _ _ e1) (and_pw ih e2')) fun σ H Q ⟨σ', s, e, SS, R, q⟩ => ?_
    subst e
    simp only [iev] at q
    refine ⟨σ', s, rfl, SS, R, q.bind.mono fun d s1 S1 t1 q1 => ?_⟩
    cases d with
    | bl b =>
      refine ⟨b, rfl, ?_⟩
      cases b with
      | true => exact ⟨σ', s1, rfl, S1, R.stab t1, q1⟩
      | false =>
        obtain ⟨b, eb, qb⟩ := q1.now S1
        cases eb
        exact qb
    | _ => exact False.elim q1
theorem or_pw {c : Expr → Option IE} {pos : Pos} (ih : ∀ e ie, c e = some ie → PT X e (TIt X.K Wm F ie)) : ∀ {es : List Expr} {ie : IE}, cBool c .or es = some ie → PW X (.BoolOp .Or es pos) (TIt X.K Wm F ie)
  | [], _, h => by simp [cBool] at h
  | [e], ie, h => pw_or1 (ih e ie h)
  | e :: e2 :: r, ie, h => by
    simp only [cBool, Option.bind_eq_some_iff, Option.map_eq_some_iff] at h
    obtain ⟨x, e1, y, e2', rfl⟩ := h
    refine PW.imp (pw_or (ih _ _ e1) (or_pw ih e2')) fun σ H Q ⟨σ', s, e, SS, R, q⟩ => ?_
    subst e
    simp only [iev] at q
    refine ⟨σ', s, rfl, SS, R, q.bind.mono fun d s1 S1 t1 q1 => ?_⟩
    cases d with
    | bl b =>
      refine ⟨b, rfl, ?_⟩
      cases b with
      | true =>
        obtain ⟨b, eb, qb⟩ := q1.now S1
        cases eb
        exact qb
      | false => exact ⟨σ', s1, rfl, S1, R.stab t1, q1⟩
    | _ => exact False.elim q1
theorem plain_ix {n : Nat} {b : Expr} {ib : IE} (h : cE Γ n b = some ib) : PlainIx b := by
  cases n with
  | zero => simp [cE] at h
  | succ n => cases b <;> first | exact fun _ _ => rfl | simp [cE] at h
theorem vals_rp {K : PySem.W.Frag} {s : W3} {vs : List V} {a : D} (h : RpL K s vs [a]) : ∃ v, vs = [v] ∧ Rp K s v a := by
  cases h with
  | cons r t => cases t; exact ⟨_, rfl, r⟩
theorem vals_rp2 {K : PySem.W.Frag} {s : W3} {vs : List V} {a b : D} (h : RpL K s vs [a, b]) : ∃ v w, vs = [v, w] ∧ Rp K s v a ∧ Rp K s w b := by
  cases h with
  | cons r t =>
    obtain ⟨w, rfl, q⟩ := vals_rp t
    exact ⟨_, w, rfl, r, q⟩
/-- a built-in of the prims, called -/
def rP (K : PySem.W.Frag) (p : Prim) : List V → Hp → VK → Prop := fun vs H Q => ∃ (s : W3) (ds : List D) (d : D), s.H = H ∧ SR K s ∧ RpL K s vs ds ∧ pev p ds s.M = some d ∧
  ∀ s', s'.M = s.M → SR K s' → Stab K s s' → ∀ v, Rp K s' v d → Q v s'.H
theorem tip {p : Prim} {ies : IEs} {σ : L2.St} {H : Hp} {Q : VK} (h : TI X.K Wm F (.prim p ies) σ H Q) : tCB (rP X.K p) (TIs X.K Wm F ies) σ H Q := by
  obtain ⟨σ', s, e, SS, R, q⟩ := h
  subst e
  simp only [iev] at q
  refine ⟨σ', s, rfl, SS, R, q.bind.mono fun ds s1 S1 t1 q1 vs hvs => ?_⟩
  obtain ⟨d, ed, qd⟩ := q1.of
  exact ⟨s1, ds, d, rfl, S1, hvs, ed, fun s' e S t => qd s' e S t⟩
theorem call_lenD : CallR X (.builtin "len") (rP X.K .len) := by
  intro pins s σ H vs us Q I r h
  obtain ⟨w, ds, d, rfl, S, rl, e, q⟩ := h
  have q0 : ∀ v, Rp X.K w v d → Q v w.H := q w rfl S .refl
  match ds, e with
  | [a], e =>
    obtain ⟨v, rfl, rv⟩ := vals_rp rl
    simp only [pev] at e
    cases hd : drf w.M a with
    | tup ds =>
      rw [hd] at e
      obtain rfl := Option.some.inj e
      obtain ⟨a, xs, rfl, h1, h2⟩ := tup_drf rv hd
      exact call_len pins s σ _ _ us Q I r ⟨_, xs.length, rfl, .inr ⟨xs, h1, rfl⟩, q0 _ (by rw [h2.length]; exact .int _)⟩
    | lst ds =>
      rw [hd] at e
      obtain rfl := Option.some.inj e
      obtain ⟨a, xs, rfl, h1, h2⟩ := seq_drf S rv hd
      exact call_len pins s σ _ _ us Q I r ⟨_, xs.length, rfl, .inl ⟨xs, h1, rfl⟩, q0 _ (by rw [h2.length]; exact .int _)⟩
    | str z =>
      rw [hd] at e
      simp only at e
      split at e
      · rename_i hz
        obtain rfl := Option.some.inj e
        obtain rfl := str_drf rv hd
        exact call_len pins s σ _ _ us Q I r ⟨_, z.length, rfl, ⟨hz, rfl⟩, q0 _ (.int _)⟩
      · cases e
    | _ => rw [hd] at e; simp at e
  | [], e => simp [pev] at e
  | _ :: _ :: _, e => simp [pev] at e
theorem call_minD (hc : X.calm = true) : CallR X (.builtin "min") (rP X.K .min) := by
  intro pins s σ H vs us Q I r h
  obtain ⟨w, ds, d, rfl, S, rl, e, q⟩ := h
  have q0 : ∀ v, Rp X.K w v d → Q v w.H := q w rfl S .refl
  match ds, e with
  | [.int i, .int j], e =>
    obtain ⟨v, u, rfl, rv, ru⟩ := vals_rp2 rl
    obtain rfl := rp_int rv
    obtain rfl := rp_int ru
    obtain rfl := Option.some.inj e
    exact call_min2 hc pins s σ _ _ us Q I r ⟨i, j, rfl, q0 _ (.int _)⟩
theorem call_maxD (hc : X.calm = true) : CallR X (.builtin "max") (rP X.K .max) := by
  intro pins s σ H vs us Q I r h
  obtain ⟨w, ds, d, rfl, S, rl, e, q⟩ := h
  have q0 : ∀ v, Rp X.K w v d → Q v w.H := q w rfl S .refl
  match ds, e with
  | [.int i, .int j], e =>
    obtain ⟨v, u, rfl, rv, ru⟩ := vals_rp2 rl
    obtain rfl := rp_int rv
    obtain rfl := rp_int ru
    obtain rfl := Option.some.inj e
    exact call_max2 hc pins s σ _ _ us Q I r ⟨i, j, rfl, q0 _ (.int _)⟩
theorem tyx {K : PySem.W.Frag} {s : W3} {v : V} {d : D} {t : String} (h : Rp K s v d) (e : tyName d = some t) : TyX K s.H v (.type t) := by
  cases h with
  | non => cases e; exact .base .non
  | bl b => cases e; exact .base (.bl b)
  | int b => cases e; exact .base (.int b)
  | str b => cases e; exact .base (.str b)
  | tup h1 _ =>
    cases e
    rcases h1 with (h1 | ⟨o, h1⟩) | ⟨o, its, n, h1, h2, _⟩
    · exact .base (.tup h1)
    · exact .fTuple h1
    · exact .kTuple h1 h2
  | lst h1 _ =>
    cases e
    rcases h1 with ⟨h1 | ⟨o, h1⟩, _⟩ | ⟨o, its, n, h1, h2, _⟩
    · exact .base (.lst h1)
    · exact .base (.frz h1)
    · exact .kList h1 h2
  | ref _ => cases e
/-- isinstance(x, T) by data: the second value is the type -/
theorem call_isaD (T : String) : CallR X (.builtin "isinstance") (fun vs H Q => ∃ v, vs = [v, .ty T] ∧ rP X.K (.isa T) [v] H Q) := by
  intro pins s σ H vs us Q I r h
  obtain ⟨v, rfl, w, ds, d, rfl, S, rl, e, q⟩ := h
  have q0 : ∀ v, Rp X.K w v d → Q v w.H := q w rfl S .refl
  cases rl with
  | cons rv t =>
    cases t
    rename_i a
    simp only [pev, isaD, Option.map_eq_some_iff, Option.bind_eq_some_iff] at e
    obtain ⟨b, ⟨t, e1, e2⟩, rfl⟩ := e
    exact call_isi pins s σ _ _ us Q I r ⟨v, .ty T, .type t, .type T, b, rfl, .ty T, tyx rv e1, kit_ty e2, q0 _ (.bl _)⟩
/-- a kept exception in the heap -/
theorem exk_at {P : Program} {w : World} {K : PySem.W.Frag} {H : Hp} {h : Heap} {a C : Addr} {dct : Option Addr} (hok : HOk P w H h) (e : H a = some (exk a C dct)) : ∃ (oe : Obj) (vs : Array Value), h.get? a = some oe ∧ oe.cls = .ref C ∧ oe.dict = dct ∧ oe.data = .fields vs := by
  obtain ⟨z, _⟩ := hok a _ e
  exact z
theorem exk_inst {X : Cx} {pins : List (Addr × Obj)} {σ : L2.St} {w : W3} {s : Shared} {a C : Addr} {fs : List (Str × D)} {dct : Option Addr} (I : Inv X pins σ w.H s) (e : w.H a = some (exk a C dct)) (hx : XF X.K w fs dct) :
    ∃ oe od, PySem.W.InstAt s.heap a oe C od := by
  obtain ⟨oe, vs, h1, h2, h3, h4⟩ := exk_at (K := X.K) I.hok e
  rcases hx with ⟨_, rfl⟩ | ⟨dd, us, rfl, e2, _⟩
  · obtain ⟨oc, od, oda, osl⟩ := oe
    dsimp only at h2 h3 h4
    subst h2 h3 h4
    exact ⟨_, none, h1, rfl, rfl, trivial⟩
  · obtain ⟨mA, hns, hr⟩ : ObjOk X.prog X.w w.H s.heap dd (.xd us) := I.hok dd _ e2
    obtain ⟨od, ho, hl⟩ := lookIn_ns hns
    exact ⟨oe, some od, h1, h2, by unfold PySem.W.notCls; rw [h4] <;> rfl, by rw [h3]; exact ho⟩
theorem call_isxD {T : Str} {tbl : List (Str × Bool)} {cv : V} {u : Value} (hu : ∀ z, RelV cv z → z = u) (hk : ∀ c b C, tbl.lookup c = some b → PySem.W.nsIn X.K mainGlobals c = some (some (.ref C)) → PySem.W.kitOne X.K (.ref C) u = some b ∧ ExcC X.K C) :
    CallR X (.builtin "isinstance") (fun vs H Q => ∃ v, vs = [v, cv] ∧ rP X.K (.isx tbl) [v] H Q) := by
  intro pins s σ H vs us Q I r h
  obtain ⟨v, rfl, w, ds, d, rfl, S, rl, e, q⟩ := h
  have q0 : ∀ v, Rp X.K w v d → Q v w.H := q w rfl S .refl
  cases rl with
  | cons rv t =>
    cases t
    rename_i a
    obtain ⟨u1, u2, rfl, r1, r2⟩ := vals2 r
    cases a with
    | ref n =>
      simp only [pev] at e
      split at e
      · rename_i c fs hm
        obtain ⟨b, eb, rfl⟩ := Option.map_eq_some_iff.mp e
        cases rv with
        | ref hn =>
          rename_i a
          obtain ⟨C, dct, e1, e2, e3⟩ := S.obj n a _ hn hm
          obtain ⟨k1, k2⟩ := hk c b C eb e1
          obtain ⟨oe, od, J⟩ := exk_inst I e2 e3
          have hc : (PySem.W.clsIn X.K C).isSome = true := by
            obtain ⟨cd, hcd, _⟩ := PySem.W.any_some k2.hd
            rw [hcd]; rfl
          have eu := hu _ r2
          subst eu
          obtain rfl : u1 = Value.ref a := r1
          exact PySem.W.kia_one (PySem.W.kitx_exc hc k2.hg k2.hk k2.hs k2.ha k2.hn k2.ht k2.hm) I.kIn J k1 (fun z => nomatch z) fun tk => ⟨.bl b, w.H, I.kept (t' := tk) fun _ _ z => z, rfl, q0 _ (.bl _)⟩
      · cases e
    | _ => simp [pev] at e
theorem se_attr (S : Sd Γ F Wm W X) {e : Expr} {ie : IE} {f : Str} {pos : Pos} (he : PE X e (TI X.K Wm F ie)) (hr : recvOk e = true) :
    PE X (.Attribute e f pos) (TI X.K Wm F (.attr ie f ((Γ.exc.filter fun p => p.2 = f).map (·.1)))) := by
  have hb : attributeBase e f X.env (eval e X.env) = eval e X.env := by
    cases e with
    | Call g es ks p =>
      cases g with
      | Name y p2 =>
        cases es with
        | nil => cases ks with
          | nil => simp [recvOk] at hr
          | cons _ _ => rfl
        | cons _ _ => rfl
      | _ => rfl
    | _ => rfl
  refine ⟨fun pins s σ H Q I h => ?_⟩
  obtain ⟨σ', w, eH, SS, R, q⟩ := h
  subst eH
  simp only [iev] at q
  refine attr_of hb (thn (he.run pins s σ w.H (fun v H1 => ∃ w1 d z, w1.H = H1 ∧ SR X.K w1 ∧ Rp X.K w1 v d ∧ attrD w1.M d f ((Γ.exc.filter fun p => p.2 = f).map (·.1)) = some z ∧ ∀ u, Rp X.K w1 u z → Q u w1.H) I
    ⟨σ', w, rfl, SS, R, q.bind.mono fun d w1 S1 t1 q1 v hv => ?_⟩) fun u s1 hh => ?_)
  · obtain ⟨z, ez, qz⟩ := q1.of
    exact ⟨w1, d, z, rfl, S1, hv, ez, qz w1 rfl S1 .refl⟩
  · obtain ⟨v, H1, I1, rv, w1, d, z, rfl, S1, hv, ez, qz⟩ := hh
    unfold attrD at ez
    cases hv with
    | ref hn =>
      rename_i n a
      simp only at ez
      split at ez
      · rename_i c fs hm
        split at ez
        · rename_i hc
          obtain ⟨C, dct, e1, e2, e3⟩ := S1.obj n a _ hn hm
          obtain ⟨⟨c', f'⟩, hp, rfl⟩ := List.mem_map.mp hc
          obtain ⟨hp1, hp2⟩ := List.mem_filter.mp hp
          have hp2 : f' = f := of_decide_eq_true hp2
          subst hp2
          obtain ⟨k1, k2⟩ := S.exc _ _ hp1 C e1
          rcases e3 with ⟨rfl, _⟩ | ⟨dd, us, rfl, e4, e5⟩
          · cases ez
          · obtain ⟨y, y1, y2⟩ := e5 _ _ ez
            obtain ⟨oe, vs, h1, h2, h3, h4⟩ := exk_at (K := X.K) I1.hok e2
            obtain ⟨mA, hns, hr⟩ : ObjOk X.prog X.w w1.H s1.heap dd (.xd us) := I1.hok dd _ e4
            obtain ⟨od, ho, hl⟩ := lookIn_ns hns
            obtain ⟨u', hu, ru⟩ := RelO.some_of (v := y) (o := mA f') (by rw [← y1]; exact hr f')
            obtain rfl : u = Value.ref a := rv
            have J : PySem.W.InstAt s1.heap a oe C (some od) := ⟨h1, h2, by unfold PySem.W.notCls; rw [h4] <;> rfl, by rw [h3]; exact ho⟩
            exact HandSPX.exc_get I1.kIn J k1.ga k1.gg k1.exC (PySem.W.findObj_own k1.hdC k2 rfl (by rw [hl, hu])) (handed_of ru) ⟨y, w1.H, I1.tok _, ru, qz y y2⟩
        · cases ez
      · cases ez
    | _ => simp at ez
theorem ty_blt {T : Str} {t : String} (h : tyOk T = some t) : bootBuiltins T = some (.type t) ∧ T ∈ blts := by
  unfold tyOk at h
  repeat (first | (split at h; · rename_i e; subst e; cases h; exact ⟨by decide +kernel, by decide⟩) | cases h)
end
end Cm
/-! Cm, part E: expressions: what the small language tells holds. -/
namespace Cm
open PySem PySem.Spec PyProof.Rows L2
section
variable {Γ : Gm} {F : Fn} {Wm : Wm3} {W : WX} {X : Cx}
theorem se_name (S : Sd Γ F Wm W X) {x : Str} {i : Nat} {pos : Pos} (h : Γ.loc x = some i) : PE X (.Name x pos) (TI X.K Wm F (.var i)) := by
  unfold Gm.loc at h
  split at h
  · rename_i ok
    obtain ⟨d1, d2, _⟩ := okn ok
    have key : X.N[i]? = some x ∧ Vis X.env.scope x := by
      unfold Vis
      rw [S.hsc, S.hN]
      split at h
      · rename_i e; exact ⟨ixOf_get h, .inl e⟩
      · rename_i e; exact ⟨ixOf_get h, .inr (.inl e)⟩
      · rename_i e; exact ⟨ixOf_get h, .inr (.inr e)⟩
      · cases h
    refine PE.imp (pe_var key.1 key.2 d1 d2) fun σ H Q ⟨σ', s, e, SS, R, q⟩ => ?_
    subst e
    simp only [iev, slot] at q
    split at q
    · rename_i d hd
      obtain ⟨v, e1, e2⟩ := R.2 i d hd
      exact ⟨v, e1, q.now SS v e2⟩
    · exact q.elim
  · cases h
theorem se_const {c : Const} {d : D} {k : Nat} {pos : Pos} (h : cConst c = some d) : PE X (.Constant c k pos) (TI X.K Wm F (.lit d)) := by
  cases c <;> simp [cConst] at h
  all_goals subst h
  · exact PE.imp pe_non fun σ H Q ⟨σ', s, e, SS, R, q⟩ => by subst e; exact Post.now (show Post _ _ (.ok _ s.M) s _ from q) SS _ .non
  · exact PE.imp pe_bl fun σ H Q ⟨σ', s, e, SS, R, q⟩ => by subst e; exact Post.now (show Post _ _ (.ok _ s.M) s _ from q) SS _ (.bl _)
  · exact PE.imp pe_int fun σ H Q ⟨σ', s, e, SS, R, q⟩ => by subst e; exact Post.now (show Post _ _ (.ok _ s.M) s _ from q) SS _ (.int _)
  · exact PE.imp pe_str fun σ H Q ⟨σ', s, e, SS, R, q⟩ => by subst e; exact Post.now (show Post _ _ (.ok _ s.M) s _ from q) SS _ (.str _)
theorem se_tup {es : List Expr} {ies : IEs} {k : Nat} {pos : Pos} (ha : PA X es (TIs X.K Wm F ies)) : PE X (.Tuple es k pos) (TI X.K Wm F (.tup ies)) := by
  refine PE.imp (pe_tup ha) fun σ H Q ⟨σ', s, e, SS, R, q⟩ => ?_
  subst e
  simp only [iev] at q
  refine ⟨σ', s, rfl, SS, R, q.bind.mono fun ds s1 S1 t1 q1 vs hvs => ?_⟩
  split at q1
  · rename_i hz
    refine ⟨by rw [hvs.length]; exact of_decide_eq_true hz, fun p hp => ?_⟩
    obtain ⟨w', m1, m2, m3, m4, m5⟩ := new_tup (p := p) S1 hp hvs
    have := q1 w' m1 m3 m4 _ m5
    rw [m2] at this; exact this
  · exact q1.elim
theorem se_lst {es : List Expr} {ies : IEs} {pos : Pos} (ha : PA X es (TIs X.K Wm F ies)) : PE X (.List es pos) (TI X.K Wm F (.lst ies)) := by
  refine PE.imp (pe_lst ha) fun σ H Q ⟨σ', s, e, SS, R, q⟩ => ?_
  subst e
  simp only [iev] at q
  refine ⟨σ', s, rfl, SS, R, q.bind.mono fun ds s1 S1 t1 q1 vs hvs => ?_⟩
  split at q1
  · rename_i hz
    refine ⟨by rw [hvs.length]; exact of_decide_eq_true hz, fun p hp => ?_⟩
    obtain ⟨w', m1, m2, m3, m4, m5⟩ := new_lst (p := p) S1 hp hvs
    have := q1 w' m1 m3 m4 _ m5
    rw [m2] at this; exact this
  · exact q1.elim
theorem se_not {e : Expr} {ie : IE} {pos : Pos} (h : PE X e (TI X.K Wm F ie)) : PE X (.UnaryOp .Not e pos) (TI X.K Wm F (.not ie)) := by
  refine PE.imp (pe_not h) fun σ H Q ⟨σ', s, e, SS, R, q⟩ => ?_
  subst e
  simp only [iev] at q
  refine ⟨σ', s, rfl, SS, R, q.bind.mono fun d s1 S1 t1 q1 v hv => ?_⟩
  cases d with
  | bl b => exact ⟨b, rp_bl hv, q1.now S1 _ (.bl _)⟩
  | _ => exact q1.elim
theorem st_not {e : Expr} {ie : IE} {pos : Pos} (h : PT X e (TIt X.K Wm F ie)) : PT X (.UnaryOp .Not e pos) (TIt X.K Wm F (.not ie)) := by
  refine PT.imp (pt_not h) fun σ H Q ⟨σ', s, e, SS, R, q⟩ => ?_
  subst e
  simp only [iev] at q
  refine ⟨σ', s, rfl, SS, R, q.bind.mono fun d s1 S1 t1 q1 => ?_⟩
  cases d with
  | bl b =>
    obtain ⟨c, e, z⟩ := q1.now S1
    cases e
    exact ⟨b, rfl, z⟩
  | _ => exact q1.elim
theorem se_neg {e : Expr} {ie : IE} {pos : Pos} (h : PE X e (TI X.K Wm F ie)) : PE X (.UnaryOp .USub e pos) (TI X.K Wm F (.neg ie)) := by
  refine PE.imp (pe_un un_neg h) fun σ H Q ⟨σ', s, e, SS, R, q⟩ => ?_
  subst e
  simp only [iev] at q
  refine ⟨σ', s, rfl, SS, R, q.bind.mono fun d s1 S1 t1 q1 v hv => ?_⟩
  cases d with
  | int b => exact ⟨b, rp_int hv, q1.now S1 _ (.int _)⟩
  | _ => exact q1.elim
theorem se_ite {c a b : Expr} {ic ia ib : IE} {pos : Pos} (hc : PT X c (TIt X.K Wm F ic)) (ha : PE X a (TI X.K Wm F ia)) (hb : PE X b (TI X.K Wm F ib)) : PE X (.IfExp c a b pos) (TI X.K Wm F (.ite ic ia ib)) := by
  refine PE.imp (pe_ifExp hc ha hb) fun σ H Q ⟨σ', s, e, SS, R, q⟩ => ?_
  subst e
  simp only [iev] at q
  refine ⟨σ', s, rfl, SS, R, q.bind.mono fun d s1 S1 t1 q1 => ?_⟩
  cases d with
  | bl b =>
    refine ⟨b, rfl, ?_⟩
    cases b with
    | true => exact ⟨σ', s1, rfl, S1, R.stab t1, q1⟩
    | false => exact ⟨σ', s1, rfl, S1, R.stab t1, q1⟩
  | _ => exact q1.elim
theorem se_part {c : Expr → Option IE} (ih : ∀ e ie, c e = some ie → PE X e (TI X.K Wm F ie)) {o : Option Expr} {io : IO} (h : cOpt c o = some io) : PO X o (TIo X.K Wm F io) := by
  cases o with
  | none =>
    simp only [cOpt, Option.some.injEq] at h
    subst h
    exact PO.imp po_none fun σ H Q ⟨σ', s, e, SS, R, q⟩ => by
      subst e
      simp only [ievo] at q
      exact q.now SS
  | some e =>
    simp only [cOpt, Option.map_eq_some_iff] at h
    obtain ⟨x, e1, rfl⟩ := h
    refine PO.imp (po_some (ih _ _ e1)) fun σ H Q ⟨σ', s, e, SS, R, q⟩ => ?_
    subst e
    simp only [ievo] at q
    refine ⟨σ', s, rfl, SS, R, q.bind.mono fun d s1 S1 t1 q1 v hv => ?_⟩
    cases d with
    | int i => exact ⟨i, rp_int hv, q1.now S1⟩
    | _ => exact q1.elim
theorem se_sli {a : Expr} {lo hi : Option Expr} {ia : IE} {il ih : IO} {p2 pos : Pos} (ha : PE X a (TI X.K Wm F ia)) (hl : PO X lo (TIo X.K Wm F il)) (hh : PO X hi (TIo X.K Wm F ih)) :
    PE X (.Subscript a (.Slice lo hi none p2) pos) (TI X.K Wm F (.sli ia il ih)) := by
  refine PE.imp (pe_slice sl_dat ha hl hh) fun σ H Q ⟨σ', s, e, SS, R, q⟩ => ?_
  subst e
  simp only [iev] at q
  refine ⟨σ', s, rfl, SS, R, q.bind.mono fun d s1 S1 t1 q1 v hv => ?_⟩
  refine ⟨σ', s1, rfl, S1, R.stab t1, q1.bind.mono fun l s2 S2 t2 q2 => ?_⟩
  refine ⟨σ', s2, rfl, S2, (R.stab t1).stab t2, q2.bind.mono fun u s3 S3 t3 q3 => ?_⟩
  obtain ⟨z, ez, qz⟩ := q3.of
  exact ⟨s3, d, z, rfl, S3, t3 _ _ (t2 _ _ hv), ez, fun s' e S t => qz s' e S t⟩
theorem se_prim (S : Sd Γ F Wm W X) {n : Nat} {f : Str} {es : List Expr} {ie : IE} {p pos : Pos} (ih : ∀ e ie, cE Γ n e = some ie → PE X e (TI X.K Wm F ie)) (hg : Γ.glo f = true)
    (h : cPrim Γ (cE Γ n) f es = some ie) : PE X (.Call (.Name f p) es [] pos) (TI X.K Wm F ie) := by
  obtain ⟨g1, g2, g3⟩ := S.gl hg
  have args : ∀ {es ies}, cEs (cE Γ n) es = some ies → PA X es (TIs X.K Wm F ies) := fun h => se_args S ih h
  unfold cPrim at h
  split at h
  · rename_i a
    split at h
    · rename_i ef
      subst ef
      obtain ⟨x, e1, rfl⟩ := Option.map_eq_some_iff.mp h
      have e2 : cEs (cE Γ n) [a] = some (.cons x .nil) := by simp [cEs, e1]
      exact PE.imp (pe_callB call_lenD g1 (S.bl _ (by decide)) (by decide +kernel) (args e2) g3 g2 (star1 (cE_star e1)) rfl) fun σ H Q q => tip q
    · cases h
  · rename_i a b
    split at h
    · rename_i ef
      obtain ⟨rfl, hcalm⟩ := ef
      simp only [Option.bind_eq_some_iff, Option.map_eq_some_iff] at h
      obtain ⟨x, e1, y, e2, rfl⟩ := h
      have e3 : cEs (cE Γ n) [a, b] = some (.cons x (.cons y .nil)) := by simp [cEs, e1, e2]
      have e4 : cEs (cE Γ n) [b] = some (.cons y .nil) := by simp [cEs, e2]
      exact PE.imp (pe_callB (call_minD (S.calm hcalm)) g1 (S.bl _ (by decide)) (by decide +kernel) (args e3) g3 g2 (star1 (cE_star e1)) (cEs_plain e4)) fun σ H Q q => tip q
    · split at h
      · rename_i ef
        obtain ⟨rfl, hcalm⟩ := ef
        simp only [Option.bind_eq_some_iff, Option.map_eq_some_iff] at h
        obtain ⟨x, e1, y, e2, rfl⟩ := h
        have e3 : cEs (cE Γ n) [a, b] = some (.cons x (.cons y .nil)) := by simp [cEs, e1, e2]
        have e4 : cEs (cE Γ n) [b] = some (.cons y .nil) := by simp [cEs, e2]
        exact PE.imp (pe_callB (call_maxD (S.calm hcalm)) g1 (S.bl _ (by decide)) (by decide +kernel) (args e3) g3 g2 (star1 (cE_star e1)) (cEs_plain e4)) fun σ H Q q => tip q
      · split at h
        · rename_i ef
          subst ef
          split at h
          · rename_i T p2
            split at h
            · rename_i hT
              obtain ⟨k1, k2, k3⟩ := S.gl hT
              split at h
              · rename_i tbl htbl
                obtain ⟨x, e2, rfl⟩ := Option.map_eq_some_iff.mp h
                obtain ⟨cv, u, j1, j2, j3, j4⟩ := S.isx _ _ htbl
                have eT : PE X (.Name T p2) (tC cv) := by
                  rcases j1 with j1 | ⟨j1, j5⟩
                  · exact pe_glob k1 j1 j2 k2
                  · exact pe_bltn k1 j1 j5 j2 k3 k2
                refine PE.imp (pe_callB (call_isxD (T := T) j3 j4) g1 (S.bl _ (by decide)) (by decide +kernel) (pa_cons (ih _ _ e2) (pa_cons eT pa_nil rfl) (star1 (cE_star e2))) g3 g2 (star1 (cE_star e2)) rfl) fun σ H Q ⟨σ', s, e, SS, R, q⟩ => ?_
                subst e
                simp only [iev, ievs] at q
                refine ⟨σ', s, rfl, SS, R, q.bind.bind.mono fun d s1 S1 t1 q1 v hv => ?_⟩
                obtain ⟨z, ez, qz⟩ := (show Post _ _ (Res.of (pev (.isx tbl) [d] s1.M) s1.M) s1 _ from q1.now S1).of
                exact ⟨v, rfl, s1, [d], z, rfl, S1, .cons hv .nil, ez, fun s' e S t => qz s' e S t⟩
              · simp only [Option.bind_eq_some_iff, Option.map_eq_some_iff] at h
                obtain ⟨t, e1, x, e2, rfl⟩ := h
                obtain ⟨b1, b2⟩ := ty_blt e1
                have eT : PE X (.Name T p2) (tC (.ty t)) := pe_bltn k1 (S.bl _ b2) b1 rfl k3 k2
                refine PE.imp (pe_callB (call_isaD t) g1 (S.bl _ (by decide)) (by decide +kernel) (pa_cons (ih _ _ e2) (pa_cons eT pa_nil rfl) (star1 (cE_star e2))) g3 g2 (star1 (cE_star e2)) rfl) fun σ H Q ⟨σ', s, e, SS, R, q⟩ => ?_
                subst e
                simp only [iev, ievs] at q
                refine ⟨σ', s, rfl, SS, R, q.bind.bind.mono fun d s1 S1 t1 q1 v hv => ?_⟩
                obtain ⟨z, ez, qz⟩ := (show Post _ _ (Res.of (pev (.isa t) [d] s1.M) s1.M) s1 _ from q1.now S1).of
                exact ⟨v, rfl, s1, [d], z, rfl, S1, .cons hv .nil, ez, fun s' e S t => qz s' e S t⟩
            · cases h
          · cases h
        · cases h
  · cases h
end
end Cm
/-! Cm, part F: all expressions; statements. -/
namespace Cm
open PySem PySem.Spec PyProof.Rows L2
section
variable {Γ : Gm} {F : Fn} {Wm : Wm3} {W : WX} {X : Cx}
theorem cCmp_of {op : CmpOp} {o : COp} (h : cCmp op = some o) : cmpOf o = op ∧ op ≠ .In ∧ op ≠ .NotIn := by
  cases op <;> simp [cCmp] at h <;> subst h <;> simp [cmpOf]
theorem cOp_of {op : Operator} {o : BOp} (h : cOp op = some o) : opOf o = op := by
  cases op <;> simp [cOp] at h <;> subst h <;> rfl
theorem se_all (S : Sd Γ F Wm W X) : ∀ n, (∀ e ie, cE Γ n e = some ie → PE X e (TI X.K Wm F ie)) ∧ (∀ e ie, cT (cE Γ n) e = some ie → PT X e (TIt X.K Wm F ie))
  | 0 => ⟨fun e ie h => by simp [cE] at h, fun e ie h => by have := (cT_c h).1; simp [cE] at this⟩
  | n + 1 => by
    obtain ⟨ih, iht⟩ := se_all S n
    have args : ∀ {es ies}, cEs (cE Γ n) es = some ies → PA X es (TIs X.K Wm F ies) := fun h => se_args S ih h
    have cmp : ∀ {a b : Expr} {op : CmpOp} {ie : IE}, ((cCmp op).bind fun o => (cE Γ n a).bind fun x => (cE Γ n b).map fun y => IE.cmp o x y) = some ie →
        ∃ o x y, ie = .cmp o x y ∧ PE X a (TI X.K Wm F x) ∧ PE X b (TI X.K Wm F y) ∧ OpR X (compareOp op) (rF X.K fun M a b => (cop M o a b).map .bl) ∧ op ≠ .In ∧ op ≠ .NotIn := by
      intro a b op ie h
      simp only [Option.bind_eq_some_iff, Option.map_eq_some_iff] at h
      obtain ⟨o, e1, x, e2, y, e3, rfl⟩ := h
      obtain ⟨c1, c2, c3⟩ := cCmp_of e1
      have := op_cmp (X := X) S.un o
      rw [c1] at this
      exact ⟨o, x, y, rfl, ih _ _ e2, ih _ _ e3, this, c2, c3⟩
    have pe : ∀ e ie, cE Γ (n + 1) e = some ie → PE X e (TI X.K Wm F ie) := by
      intro e ie h
      unfold cE at h
      split at h
      · obtain ⟨i, e1, rfl⟩ := Option.map_eq_some_iff.mp h
        exact se_name S e1
      · obtain ⟨i, e1, rfl⟩ := Option.map_eq_some_iff.mp h
        exact se_const e1
      · obtain ⟨i, e1, rfl⟩ := Option.map_eq_some_iff.mp h
        exact se_tup (args e1)
      · obtain ⟨i, e1, rfl⟩ := Option.map_eq_some_iff.mp h
        exact se_lst (args e1)
      · simp only [Option.bind_eq_some_iff, Option.map_eq_some_iff] at h
        obtain ⟨o, e1, x, e2, y, e3, rfl⟩ := h
        have := op_bin (X := X) o
        rw [cOp_of e1] at this
        exact PE.imp (pe_op this (ih _ _ e2) (ih _ _ e3)) fun σ H Q q => two (fun σ' M => by simp only [iev]) q
      · obtain ⟨o, x, y, rfl, h1, h2, h3, h4, h5⟩ := cmp h
        exact PE.imp (pe_cmpR h3 h1 h2 (nobehind _ h4 h5)) fun σ H Q q => two (fun σ' M => ev_cmp o x y σ' M) q
      · exact and_pe (fun e ie h => ih _ _ (cT_c h).1) h
      · exact or_pe (fun e ie h => ih _ _ (cT_c h).1) h
      · obtain ⟨i, e1, rfl⟩ := Option.map_eq_some_iff.mp h
        exact se_not (ih _ _ (cT_c e1).1)
      · obtain ⟨i, e1, rfl⟩ := Option.map_eq_some_iff.mp h
        exact se_neg (ih _ _ e1)
      · simp only [Option.bind_eq_some_iff, Option.map_eq_some_iff] at h
        obtain ⟨z, e1, x, e2, y, e3, rfl⟩ := h
        exact se_ite (iht _ _ e1) (ih _ _ e2) (ih _ _ e3)
      · simp only [Option.bind_eq_some_iff, Option.map_eq_some_iff] at h
        obtain ⟨x, e1, l, e2, u, e3, rfl⟩ := h
        exact se_sli (ih _ _ e1) (se_part ih e2) (se_part ih e3)
      · simp only [Option.bind_eq_some_iff, Option.map_eq_some_iff] at h
        obtain ⟨x, e1, y, e2, rfl⟩ := h
        exact PE.imp (pe_ix ix_dat (ih _ _ e1) (ih _ _ e2) (plain_ix e2)) fun σ H Q q => two (fun σ' M => by simp only [iev]) q
      · split at h
        · rename_i hr
          obtain ⟨x, e1, rfl⟩ := Option.map_eq_some_iff.mp h
          exact se_attr S (ih _ _ e1) hr
        · cases h
      · split at h
        · rename_i hg
          split at h
          · rename_i k hk
            obtain ⟨i, e1, rfl⟩ := Option.map_eq_some_iff.mp h
            refine pe_fn S hk hg (args e1) (fun e r q => ?_) (fun e r q => ?_) (fun q => ?_)
            · subst q
              simp only [cEs, Option.bind_eq_some_iff] at e1
              obtain ⟨x, e2, _⟩ := e1
              exact star1 (cE_star e2)
            · subst q
              simp only [cEs, Option.bind_eq_some_iff, Option.map_eq_some_iff] at e1
              obtain ⟨x, e2, y, e3, _⟩ := e1
              exact cEs_plain e3
            · subst q
              simp only [cEs, Option.some.injEq] at e1
              exact e1.symm
          · exact se_prim S ih hg h
        · cases h
      · cases h
    refine ⟨pe, fun e ie h => ?_⟩
    obtain ⟨h, hn⟩ := cT_c h
    have p := pe e ie h
    cases e with
    | IfExp _ _ _ _ => simp [notIf] at hn
    | UnaryOp op a pos =>
      cases op with
      | Not =>
        unfold cE at h
        obtain ⟨i, e1, rfl⟩ := Option.map_eq_some_iff.mp h
        exact st_not (iht _ _ e1)
      | _ => exact pt_plain p fun _ => rfl
    | BoolOp op es pos =>
      cases op with
      | And =>
        unfold cE at h
        exact PW.pt (and_pw iht h)
      | Or =>
        unfold cE at h
        exact PW.pt (or_pw iht h)
    | Compare a ops bs pos =>
      match ops, bs, h, p with
      | [op], [b], h, p =>
        unfold cE at h
        obtain ⟨o, x, y, rfl, h1, h2, h3, h4, h5⟩ := cmp h
        refine PT.imp (pt_cmpR h3 h1 h2 (nobehind _ h4 h5)) fun σ H Q q => ?_
        exact two (fun σ' M => ev_cmp o x y σ' M) (tit_ti q)
      | [], _, h, _ => simp [cE] at h
      | [_], [], h, _ => simp [cE] at h
      | [_], _ :: _ :: _, h, _ => simp [cE] at h
      | _ :: _ :: _, _, h, _ => simp [cE] at h
    | _ => exact pt_plain p fun _ => rfl
theorem se (S : Sd Γ F Wm W X) {n : Nat} {e : Expr} {ie : IE} (h : cE Γ n e = some ie) : PE X e (TI X.K Wm F ie) := (se_all S n).1 e ie h
theorem ste (S : Sd Γ F Wm W X) {n : Nat} {e : Expr} {ie : IE} (h : cT (cE Γ n) e = some ie) : PT X e (TIt X.K Wm F ie) := (se_all S n).2 e ie h
end
end Cm
/-! Cm, part G: statements. -/
namespace Cm
open PySem PySem.Spec PyProof.Rows L2
def FlP (K : PySem.W.Frag) (D' : Ends) (fl : Fl) (s : W3) : Prop :=
  match fl with
  | .nx σ' => ∀ σ, RS K s σ σ' → D'.nx σ s.H
  | .ret d => ∀ v, Rp K s v d → D'.rt v s.H
  | .bk σ' => ∀ σ, RS K s σ σ' → D'.bk σ s.H
  | .ct σ' => ∀ σ, RS K s σ σ' → D'.ct σ s.H
def TS1 (K : PySem.W.Frag) (Wd : Ex3) (F : Fn) (i : IS) : TS := fun D' σ H => ∃ σ' s, s.H = H ∧ SR K s ∧ RS K s σ σ' ∧ Post K Wd (iex F i σ' s.M) s (FlP K D')
def TSs (K : PySem.W.Frag) (Wd : Ex3) (F : Fn) (i : ISs) : TS := fun D' σ H => ∃ σ' s, s.H = H ∧ SR K s ∧ RS K s σ σ' ∧ Post K Wd (iexs F i σ' s.M) s (FlP K D')
theorem PS.imp {X : Cx} {e : Stmt} {t t' : TS} (h : PS X e t) (k : ∀ D σ H, t' D σ H → t D σ H) : PS X e t' := ⟨fun pins s σ H D I q => h.run pins s σ H D I (k D σ H q)⟩
theorem PSs.imp {X : Cx} {e : List Stmt} {t t' : TS} (h : PSs X e t) (k : ∀ D σ H, t' D σ H → t D σ H) : PSs X e t' := ⟨fun pins s σ H D I q => h.run pins s σ H D I (k D σ H q)⟩
theorem PG.imp {X : Cx} {e : Expr} {t t' : TG} (h : PG X e t) (k : ∀ v σ H Q, t' v σ H Q → t v σ H Q) : PG X e t' := ⟨fun pins s σ H v u Q I r q => h.run pins s σ H v u Q I r (k v σ H Q q)⟩
/-- what an error's __init__ does: its one field is stored -/
def spInit (C : Addr) (f : Str) : Sp := fun vs H Q _ => ∃ a y, vs = [.ref a, y] ∧ H a = some (exo a C none) ∧ ∀ dx, H dx = none → dx ≠ a → Q .non (upd (upd H dx (exd dx [(f, y)])) a (exo a C (some dx)))
/-! the text -/
def cNames (Γ : Gm) : List Expr → Option (List Nat)
  | [] => some []
  | .Name x _ :: r => (Γ.loc x).bind fun i => (cNames Γ r).map fun is => i :: is
  | _ => none
def cTg (Γ : Gm) : Expr → Option Tg
  | .Name x _ => (Γ.loc x).map .name
  | .Tuple es _ _ => (cNames Γ es).map .tup
  | _ => none
def cIt (Γ : Gm) (c : Expr → Option IE) : Expr → Option IT
  | .Call (.Name f p) es [] q =>
    if Γ.glo f = true ∧ f = ("range" : Str) ∧ Γ.fn.lookup f = none then
      match es with
      | [a] => (c a).map .rng1
      | [a, b] => (c a).bind fun x => (c b).map fun y => .rng2 x y
      | _ => none
    else (c (.Call (.Name f p) es [] q)).map .seq
  | e => (c e).map .seq
def notTup : Expr → Bool
  | .Tuple _ _ _ => false
  | _ => true
def isLoc (Γ : Gm) (x : Str) : Bool := match Γ.sc.names.lookup x with | some .local => true | some .cell => true | _ => false
/-- within an except suite: nothing is called -/
def Gm.suite (Γ : Gm) : Gm := { Γ with calm := false, fn := [] }
def tgLoc (Γ : Gm) (t : Expr) : Bool := match t with | .Name x _ => isLoc Γ x | .Tuple es _ _ => (es.all fun | .Name x _ => isLoc Γ x | _ => false) | _ => false
def cS (Γ : Gm) (fz : Bool) : Nat → Stmt → Option IS
  | 0, _ => none
  | n + 1, st =>
    match st with
    | .Assign [.Name x _] (.List es _) _ => if isLoc Γ x = true then (Γ.loc x).bind fun i => (cEs (cE Γ n) es).map fun ies => .newl i ies else none
    | .Assign [.Name x _] e _ => if isLoc Γ x = true then (Γ.loc x).bind fun i => (cE Γ n e).map fun ie => .set i ie else none
    | .Assign [.Tuple es k p] e _ => if notTup e = true ∧ Γ.calm = true then match cTg Γ (.Tuple es k p) with
      | some (.tup is) => if (es.all fun | .Name x _ => isLoc Γ x | _ => false) = true then (cE Γ n e).map fun ie => .setT is ie else none
      | _ => none
      else none
    | .AugAssign (.Name x _) o e _ => if isLoc Γ x = true then (Γ.loc x).bind fun i => (cOp o).bind fun o => (cE Γ n e).map fun ie => .aug i o ie else none
    | .Expr (.Call (.Attribute l m ap) [x] [] cp) _ =>
      if m = ("append" : Str) ∧ (ap.endLine == cp.line) = true ∧ recvOk l = true then (cE Γ n l).bind fun il => (cE Γ n x).map fun ix => .app il ix else none
    | .Expr e _ => (cE Γ n e).map .expr
    | .Return (some e) _ => (cE Γ n e).map fun ie => if fz = true then .retf ie else .ret ie
    | .Return none _ => some (.ret (.lit .non))
    | .If c a b _ => (cT (cE Γ n) c).bind fun ic => (cSl (cS Γ fz n) a).bind fun ia => (cSl (cS Γ fz n) b).map fun ib => .iff ic ia ib
    | .For t it b [] _ => (cTg Γ t).bind fun ti => if tgLoc Γ t = true ∧ Γ.calm = true then
        (cIt Γ (cE Γ n) it).bind fun ii => (cSl (cS Γ fz n) b).map fun ib => .forr ti ii ib else none
    | .Raise (some (.Call (.Name c _) [e] [] _)) none _ => if Γ.calm = true ∧ Γ.glo c = true then
        match Γ.exc.lookup c with
        | some f => (cE Γ n e).map (.rais c f)
        | none => some .never
      else some .never
    | .Raise _ _ _ => some .never
    | .Try [.Expr e _] [.ExceptHandler (some (.Name T _)) (some m) (b₀ :: b) _] [] [] _ =>
      if Γ.calm = true ∧ Γ.glo T = true ∧ Γ.sc.names.lookup m = some .local then
        (Γ.cat.lookup T).bind fun tbl => (Γ.loc m).bind fun i => (cE Γ n e).bind fun ie => (cSl (cS Γ.suite fz n) (b₀ :: b)).map fun ib => .tryx ie tbl i ib
      else none
    | .Pass _ => some .pass
    | .Break _ => some .brk
    | .Continue _ => some .cont
    | _ => none
where
  cSl (f : Stmt → Option IS) : List Stmt → Option ISs
    | [] => some .nil
    | s :: r => (f s).bind fun x => (cSl f r).map fun y => .cons x y
/-- an error that may be raised -/
def RaiseOk (X : Cx) (c f : Str) : Prop :=
  ∃ (C fI : Addr) (fd : FuncData) (ps : List Str) (k : Nat), X.mg c = some (.ref C) ∧ PySem.W.nsIn X.K mainGlobals c = some (some (.ref C)) ∧ OexC X.K C ∧ PySem.W.findIn X.K (.ref C) "__init__" = some (some (.ref fI)) ∧
    PySem.W.typeIn X.K (.ref fI) = some (.type "function") ∧ FnOk X.prog X.w X.K X.mg X.base (L2.CX X.prog X.w) k fI fd ps (spInit C f) ∧ Room (k + 1) X.A ∧ Binds X.K fd ps []
/-- a class that an except clause names -/
def CatOk (X : Cx) (T : Str) (tbl : List (Str × Bool)) : Prop :=
  ∃ cv : Value, (X.mg T = some cv ∨ (X.mg T = none ∧ bootBuiltins T = some cv)) ∧ ∀ c b C, tbl.lookup c = some b → PySem.W.nsIn X.K mainGlobals c = some (some (.ref C)) → PySem.W.exmOne X.K (.ref C) cv = some b
structure Ss (Γ : Gm) (F : Fn) (Wd : Ex3) (W : WX) (X : Cx) : Prop where
  sd : Sd Γ F (fun _ => Wd) W X
  po : PassesOwn (model X.prog X.w) X.A X.env X.xe
  fnT : ∀ x, X.fn x = true
  stk : Γ.calm = true → X.stack = X.env :: X.outer ∧ X.env.frame = some X.env.locals ∧ X.ex = []
  rs : Γ.calm = true → ∀ c f, (c, f) ∈ Γ.exc → RaiseOk X c f
  cat : ∀ T tbl, Γ.cat.lookup T = some tbl → CatOk X T tbl
section
variable {Γ : Gm} {F : Fn} {Wd : Ex3} {W : WX} {X : Cx}
def notComp : Expr → Bool
  | .ListComp _ _ _ _ => false
  | .SetComp _ _ _ _ => false
  | .DictComp _ _ _ _ _ => false
  | _ => true
theorem cE_comp {n : Nat} {e : Expr} {ie : IE} (h : cE Γ n e = some ie) : notComp e = true := by
  cases n with
  | zero => simp [cE] at h
  | succ n => cases e <;> first | rfl | simp [cE] at h
theorem swp {e : Expr} {t : Option Expr} {l : Nat} {env : Env} (h : notComp e = true) : swapsWith e t l env = pure false := by
  cases e <;> first | rfl | simp [notComp] at h
theorem isLoc_of (S : Sd Γ F (fun _ => Wd) W X) {x : Str} (h : isLoc Γ x = true) : L2.Loc X.env.scope x := by
  unfold isLoc at h
  unfold L2.Loc
  rw [S.hsc]
  split at h
  · rename_i e; exact .inl e
  · rename_i e; exact .inr e
  · cases h
theorem loc_get (S : Sd Γ F (fun _ => Wd) W X) {x : Str} {i : Nat} (h : Γ.loc x = some i) : X.N[i]? = some x := by
  unfold Gm.loc at h
  rw [S.hN]
  split at h
  · split at h
    · exact ixOf_get h
    · exact ixOf_get h
    · exact ixOf_get h
    · cases h
  · cases h
/-- a target by data -/
def gD (K : PySem.W.Frag) (t : Tg) : TG := fun v σ H Q => ∃ (σ' σ1 : Slots) (s : W3) (d : D), s.H = H ∧ SR K s ∧ RS K s σ σ' ∧ Rp K s v d ∧ put t d σ' = some σ1 ∧ ∀ σ2, RS K s σ2 σ1 → Q σ2 H
theorem pg_nm (S : Ss Γ F Wd W X) {x : Str} {i : Nat} {p : Pos} (h : Γ.loc x = some i) (hl : isLoc Γ x = true) : PG X (.Name x p) (gName i) :=
  pg_name (S.sd.hN ▸ S.sd.nd) (loc_get S.sd h) (isLoc_of S.sd hl) (.inl (S.fnT x))
/-- names from the left -/
def gAll (K : PySem.W.Frag) (is : List Nat) : TGs := fun vs σ H Q => ∃ (σ' σ1 : Slots) (s : W3) (ds : List D), s.H = H ∧ RS K s σ σ' ∧ RpL K s vs ds ∧ putAll is ds σ' = some σ1 ∧ ∀ σ2, RS K s σ2 σ1 → Q σ2 H
theorem pg_nms (S : Ss Γ F Wd W X) : ∀ {es : List Expr} {is : List Nat}, cNames Γ es = some is → (es.all fun | .Name x _ => isLoc Γ x | _ => false) = true →
    PGs X es (gAll X.K is) ∧ (assignEach es X.env).length = is.length ∧ (assignEach es X.env).findIdx? (·.1) = none
  | [], is, h, _ => by
    simp only [cNames, Option.some.injEq] at h
    subst h
    refine ⟨⟨fun pins s σ H vs us Q I r q => pgs_nil.run pins s σ H vs us Q I r ?_⟩, rfl, rfl⟩
    obtain ⟨σ', σ1, w, ds, rfl, R, hv, e, k⟩ := q
    cases hv with
    | nil =>
      simp only [putAll, Option.some.injEq] at e
      subst e
      exact ⟨rfl, k _ R⟩
    | cons a b => simp [putAll] at e
  | e :: r, is, h, hl => by
    cases e with
    | Name x p =>
      simp only [cNames, Option.bind_eq_some_iff, Option.map_eq_some_iff] at h
      obtain ⟨i, e1, js, e2, rfl⟩ := h
      simp only [List.all_cons, Bool.and_eq_true] at hl
      obtain ⟨k1, k2, k3⟩ := pg_nms S e2 hl.2
      refine ⟨⟨fun pins s σ H vs us Q I rr q => (pgs_cons (pg_nm S e1 hl.1) k1 rfl).run pins s σ H vs us Q I rr ?_⟩, ?_, ?_⟩
      · obtain ⟨σ', σ1, w, ds, rfl, R, hv, e, k⟩ := q
        cases hv with
        | nil => simp [putAll] at e
        | cons a b =>
          simp only [putAll] at e
          exact ⟨_, _, rfl, _, σ1, w, _, rfl, R.set a i, b, e, k⟩
      · show (assignEach r X.env).length + 1 = _
        rw [k2]; rfl
      · show List.findIdx? _ ((false, assign (.Name x p) X.env) :: assignEach r X.env) = none
        rw [List.findIdx?_cons, k3]
        rfl
    | _ => simp [cNames] at h
theorem pg_tg (S : Ss Γ F Wd W X) {t : Expr} {ti : Tg} (h : cTg Γ t = some ti) (hcm : Γ.calm = true)
    (hl : tgLoc Γ t = true) : PG X t (gD X.K ti) := by
  cases t with
  | Name x p =>
    simp only [cTg, Option.map_eq_some_iff] at h
    obtain ⟨i, e, rfl⟩ := h
    refine PG.imp (pg_nm S e hl) fun v σ H Q ⟨σ', σ1, s, d, e1, SS, R, hv, ep, k⟩ => ?_
    subst e1
    simp only [put, Option.some.injEq] at ep
    subst ep
    exact k _ (R.set hv i)
  | Tuple es k p =>
    simp only [cTg, Option.map_eq_some_iff] at h
    obtain ⟨is, e, rfl⟩ := h
    obtain ⟨k1, k2, k3⟩ := pg_nms S e hl
    refine PG.imp (pg_tup (S.sd.calm hcm) k1 k2 k3) fun v σ H Q ⟨σ', σ1, s, d, e1, SS, R, hv, ep, k⟩ => ?_
    subst e1
    cases hv with
    | tup h1 h2 =>
      simp only [put] at ep
      refine ⟨_, _, rfl, h1, ?_, σ', σ1, s, _, rfl, R, h2, ep, k⟩
      rw [h2.length]
      have pl : ∀ (is : List Nat) (ds : List D) (σ σ1 : Slots), putAll is ds σ = some σ1 → ds.length = is.length := by
        intro is
        induction is with
        | nil => intro ds σ σ1 h; cases ds with | nil => rfl | cons _ _ => simp [putAll] at h
        | cons i is ih => intro ds σ σ1 h; cases ds with | nil => simp [putAll] at h | cons d ds => simp only [putAll] at h; simp [ih _ _ _ h]
      exact pl _ _ _ _ ep
    | _ => simp [put] at ep
  | _ => simp [cTg] at h
/-! what a for walks -/
inductive JOk (K : PySem.W.Frag) (s : W3) (J : It) (ds : List D) : Prop
  | l (a : Addr) (h : Rp K s (.ref a) (.lst ds)) (e : J = Itl K a)
  | t (a : Addr) (h : Rp K s (.ref a) (.tup ds)) (e : J = Itt K a)
  | r (lo : Int) (n : Nat) (h : ds = rngL lo n) (e : J = Itr lo n)
theorem JOk.stab {K : PySem.W.Frag} {s s' : W3} {J : It} {ds : List D} (h : JOk K s J ds) (k : Stab K s s') : JOk K s' J ds := by
  cases h with
  | l a h e => exact .l a (k _ _ h) e
  | t a h e => exact .t a (k _ _ h) e
  | r lo n h e => exact .r lo n h e
theorem JOk.stop {K : PySem.W.Frag} {s : W3} {J : It} {ds : List D} (h : JOk K s J ds) : J.stop ds.length s.H := by
  cases h with
  | l a h e =>
    subst e
    cases h with
    | lst h1 h2 => exact ⟨_, h1.sq, by rw [h2.length]; exact Nat.le_refl _⟩
  | t a h e =>
    subst e
    cases h with
    | tup h1 h2 => exact ⟨_, h1, by rw [h2.length]; exact Nat.le_refl _⟩
  | r lo n h e =>
    subst e
    subst h
    show n ≤ _
    simp [rngL]
theorem JOk.go {K : PySem.W.Frag} {s : W3} {J : It} {ds : List D} (h : JOk K s J ds) {i : Nat} {d : D} (hd : ds[i]? = some d) :
    J.go i s.H ∧ ∀ x H', J.yld i s.H x H' → H' = s.H ∧ Rp K s x d := by
  cases h with
  | l a h e =>
    subst e
    cases h with
    | lst h1 h2 =>
      obtain ⟨v, e1, e2⟩ := h2.get hd
      exact ⟨⟨_, v, h1.sq, e1⟩, fun x H' ⟨q1, q2⟩ => ⟨q1, by have := q2 _ h1.sq; rw [e1] at this; cases this; exact e2⟩⟩
  | t a h e =>
    subst e
    cases h with
    | tup h1 h2 =>
      obtain ⟨v, e1, e2⟩ := h2.get hd
      exact ⟨⟨_, v, h1, e1⟩, fun x H' ⟨q1, q2⟩ => ⟨q1, by have := q2 _ h1; rw [e1] at this; cases this; exact e2⟩⟩
  | r lo n h e =>
    subst e
    subst h
    unfold rngL at hd
    rw [List.getElem?_map] at hd
    obtain ⟨j, e1, rfl⟩ := Option.map_eq_some_iff.mp hd
    obtain ⟨hj, e2⟩ := List.getElem?_eq_some_iff.mp e1
    simp at hj e2
    subst e2
    refine ⟨hj, fun x H' ⟨q1, q2⟩ => ⟨q1, ?_⟩⟩
    subst q2
    exact .int _
def iD (K : PySem.W.Frag) (Wd : Ex3) (F : Fn) (it : IT) : L2.TI := fun σ H R => ∃ σ' s, s.H = H ∧ SR K s ∧ RS K s σ σ' ∧ Post K Wd (items F it σ' s.M) s fun ds s' => ∀ J, JOk K s' J ds → R J s'.H
theorem pi_seqD {tg e : Expr} {ie : IE} (h : PE X e (TI X.K (fun _ => Wd) F ie)) : PI X tg e (iD X.K Wd F (.seq ie)) := by
  refine ⟨fun pins s σ H R I q => ?_⟩
  obtain ⟨σ', w, eH, SS, RR, q⟩ := q
  subst eH
  simp only [items] at q
  cases hr : iev F ie σ' w.M with
  | err => rw [hr] at q; exact q.elim
  | exc c fs M =>
    refine (pi_list h).run pins s σ w.H R I ⟨σ', w, rfl, SS, RR, ?_⟩
    rw [hr] at q ⊢
    exact q
  | ok d M =>
    rw [hr] at q
    simp only [Res.bind_ok] at q
    cases d with
    | tup ds =>
      refine (pi_tup h).run pins s σ w.H R I ⟨σ', w, rfl, SS, RR, ?_⟩
      rw [hr]
      intro w' e S' t' v hv
      have q' := q w' e S' t'
      cases hv with
      | tup h1 h2 => exact ⟨_, rfl, ⟨_, h1⟩, q' _ (.t _ (.tup h1 h2) rfl)⟩
    | lst ds =>
      refine (pi_list h).run pins s σ w.H R I ⟨σ', w, rfl, SS, RR, ?_⟩
      rw [hr]
      intro w' e S' t' v hv
      have q' := q w' e S' t'
      cases hv with
      | lst h1 h2 => exact ⟨_, rfl, ⟨_, h1.sq⟩, q' _ (.l _ (.lst h1 h2) rfl)⟩
    | _ => exact q.elim
theorem pi_all (S : Sd Γ F (fun _ => Wd) W X) {n : Nat} {tg e : Expr} {it : IT} (h : cIt Γ (cE Γ n) e = some it) : PI X tg e (iD X.K Wd F it) := by
  have gen : ∀ {e it}, (cE Γ n e).map IT.seq = some it → PI X tg e (iD X.K Wd F it) := fun h => by
    obtain ⟨x, e1, rfl⟩ := Option.map_eq_some_iff.mp h
    exact pi_seqD (se S e1)
  unfold cIt at h
  split at h
  · split at h
    · rename_i hc
      obtain ⟨c1, rfl, c3⟩ := hc
      obtain ⟨g1, g2, g3⟩ := S.gl c1
      split at h
      · rename_i a
        obtain ⟨x, e1, rfl⟩ := Option.map_eq_some_iff.mp h
        have pa := pa_cons (se S e1) pa_nil (star1 (cE_star e1))
        refine ⟨fun pins s σ H R I q => (pi_range1 g1 (S.bl _ (by decide)) pa (star1 (cE_star e1))).run pins s σ H R I ?_⟩
        obtain ⟨σ', w, eH, SS, RR, q⟩ := q
        subst eH
        simp only [items] at q
        refine ⟨σ', w, rfl, SS, RR, q.bind.mono fun d s1 S1 t1 q1 v hv => ?_⟩
        cases d with
        | int i =>
          simp only at q1
          split at q1
          · rename_i hs
            obtain ⟨z1, z2⟩ := (of_decide_eq_true hs : -(2 ^ 62) ≤ i ∧ i < 2 ^ 62)
            exact ⟨i, by rw [rp_int hv], z1, z2, q1.now S1 _ (.r 0 i.toNat rfl rfl)⟩
          · exact q1.elim
        | _ => exact q1.elim
      · rename_i a b
        simp only [Option.bind_eq_some_iff, Option.map_eq_some_iff] at h
        obtain ⟨x, e1, y, e2, rfl⟩ := h
        have pa := pa_cons (se S e1) (pa_cons (se S e2) pa_nil (star1 (cE_star e2))) (star1 (cE_star e1))
        have st2 : starEach [b] X.env = [(false, eval b X.env)] := star1 (cE_star e2)
        refine ⟨fun pins s σ H R I q => (pi_range2 g1 (S.bl _ (by decide)) pa (by rw [star1 (cE_star e1), st2]) st2).run pins s σ H R I ?_⟩
        obtain ⟨σ', w, eH, SS, RR, q⟩ := q
        subst eH
        simp only [items] at q
        refine ⟨σ', w, rfl, SS, RR, q.bind.mono fun d s1 S1 t1 q1 v hv => ?_⟩
        refine ⟨σ', s1, rfl, S1, RR.stab t1, q1.bind.mono fun d2 s2 S2 t2 q2 v2 hv2 => ?_⟩
        cases d with
        | int i =>
          cases d2 with
          | int j =>
            simp only at q2
            split at q2
            · rename_i hs
              obtain ⟨z1, z2⟩ := (of_decide_eq_true hs.1 : -(2 ^ 62) ≤ i ∧ i < 2 ^ 62)
              obtain ⟨z3, z4⟩ := (of_decide_eq_true hs.2 : -(2 ^ 62) ≤ j ∧ j < 2 ^ 62)
              exact ⟨i, j, by rw [rp_int hv, rp_int hv2], ⟨z1, z2, z3, z4⟩, q2.now S2 _ (.r i _ rfl rfl)⟩
            · exact q2.elim
          | _ => exact q2.elim
        | _ => exact q2.elim
      · cases h
    · exact gen h
  · exact gen h
theorem fold_it {n : Nat} {e : Expr} {it : IT} {env : Env} (h : cIt Γ (cE Γ n) e = some it) : ∀ x, foldedSetIterable e env x = pure x := by
  cases e with
  | Set _ _ _ =>
    unfold cIt at h
    simp only [Option.map_eq_some_iff] at h
    obtain ⟨x, e1, _⟩ := h
    cases n <;> simp [cE] at e1
  | _ => exact fun _ => rfl
end
end Cm
/-! Cm, part J: errors of the program's own classes: made, raised. -/
namespace Cm
abbrev W0 (Wd : Ex3) : Wm3 := fun _ => Wd
open PySem PySem.Spec PyProof.Rows L2
/-- the base class of the program's errors, read for its __init__ -/
structure BaseC (K : PySem.W.Frag) (mg : Str → Option Value) (x : Str) (C : Addr) : Prop where
  gC : mg x = some (.ref C)
  ga : PySem.W.specialIn K (.ref C) "__getattribute__" = some (some (.builtin "type.__getattribute__"))
  rd : PySem.W.readsIn K C (.type "type") = true
  vi : PySem.W.findCls K (.ref C) (.type "type") "__init__" = some (.val (.builtin "ValueError.__init__"))
section
variable {X : Cx} {e : Expr} {es : List Expr} {ta : TA} {p1 p2 pos : Pos} {x : Str} {B : Addr}
theorem pe_minit {pl : Sem Bool} (hg : Gl X x) (T : BaseC X.K X.mg x B) (ha : PA X (e :: es) ta) (hd : (x == ("__debug__" : Str)) = false)
    (hc : eval (.Call (.Attribute (.Name x p1) "__init__" p2) (e :: es) [] pos) X.env = (do
      let ov ← eval (.Name x p1) X.env
      standAt p2.atName
      let (f, first) ← holding [ov] (getMethod ov "__init__" pl)
      callWith pos f first (backTo pos (starEach (e :: es) X.env)) (backToKw pos (keywordEach [] X.env))) := by rfl)
    (he : starEach (e :: es) X.env = (false, eval e X.env) :: starEach es X.env := by rfl) (hpl : (backTo pos (starEach es X.env)).any (·.1) = false := by rfl) :
    PE X (.Call (.Attribute (.Name x p1) "__init__" p2) (e :: es) [] pos) (tVeI X.K ta) := by
  refine ⟨fun pins s σ H Q I hq => ?_⟩
  refine PySem.W.methodCall_KW (ld_glob I hg T.gC ?_ hd) hc
  refine PySem.W.method_cls I.kIn T.ga (PySem.W.cls_value I.kIn T.rd T.vi (by decide +kernel) ?_)
  show wpAny _ _ (callWith pos (Value.builtin "ValueError.__init__") [] (backTo pos (starEach (e :: es) X.env)) []) _ _ _
  refine PyProof.Rows.callWith_method1 (thn (ha.run pos pins _ σ H _ (I.tok _) hq) fun us s1 ⟨ys, H1, J, rr, a, C, ws, ey, hl, T', ea, q⟩ => ?_) he hpl
  subst ey
  cases rr with
  | @cons _ u0 _ ur ra rw' =>
    obtain rfl : u0 = Value.ref a := ra
    have hz : ur.length ≤ sizeLine := by
      have := Paired.length rw'
      rw [sizeLine_eq]
      omega
    exact oinit_ok T' J ea hz fun s' J' => ⟨.non, H1, J', rfl, q⟩
end
/-- .. a def of just that form -/
theorem init_ok {P : Program} {w : World} {K : PySem.W.Frag} {mg : Str → Option Value} {base : Heap} {q x f msg : Str} {st : Stmt} {g C B : Addr} {fd : FuncData} {k : Nat} {p1 p2 p3 p4 p5 p6 p7 p8 p9 p10 : Pos}
    (Fu : Fun K "__init__" q st g fd) (S : FnScope ["self", f] ["self", f] (defScope st))
    (hb : defBody st = [.Expr (.Call (.Attribute (.Name x p1) "__init__" p2) [.Name "self" p3, .Constant (.str msg) 0 p4] [] p5) p6, .Assign [.Attribute (.Name "self" p7) f p8] (.Name f p9) p10])
    (hs1 : (defScope st).names.lookup ("self" : Str) = some .local) (hs2 : (defScope st).names.lookup f = some .local) (hg : (defScope st).names.lookup x = some .globalImplicit) (hd : okName x = true) (hdf : okName f = true)
    (hc : ∀ env : Env, ∃ pl : Sem Bool, eval (.Call (.Attribute (.Name x p1) "__init__" p2) [.Name "self" p3, .Constant (.str msg) 0 p4] [] p5) env = (do
      let ov ← eval (.Name x p1) env
      standAt p2.atName
      let (f, first) ← holding [ov] (getMethod ov "__init__" pl)
      callWith p5 f first (backTo p5 (starEach [.Name "self" p3, .Constant (.str msg) 0 p4] env)) (backToKw p5 (keywordEach [] env))))
    (T : BaseC K mg x B) (TC : OexC K C) (hno : PySem.W.findIn K (.ref C) f = some none) : FnOk P w K mg base (L2.CX P w) (k + 1) g fd ["self", f] (spInit C f) := by
  refine Fu.okX S (fun vs H Q E ⟨a, y, e, _⟩ => by subst e; rfl) fun cdv A outer s0 H vs Q E hr ⟨a, y, e, ha, hq⟩ => ?_
  subst e
  rw [hb]
  have vS : PE (cxOf (L2.CX P w) P w K mg base ["self", f] q (defScope st) g cdv A outer s0 H E) (.Name "self" p3) (tVar 0) := pe_var rfl (.inl hs1)
  have vS' : PE (cxOf (L2.CX P w) P w K mg base ["self", f] q (defScope st) g cdv A outer s0 H E) (.Name "self" p7) (tVar 0) := pe_var rfl (.inl hs1)
  have vF : PE (cxOf (L2.CX P w) P w K mg base ["self", f] q (defScope st) g cdv A outer s0 H E) (.Name f p9) (tVar 1) := pe_var rfl (.inl hs2) (okn hdf).1 (okn hdf).2.1
  obtain ⟨pl, hc⟩ := hc (cxOf (L2.CX P w) P w K mg base ["self", f] q (defScope st) g cdv A outer s0 H E).env
  refine ⟨_, pss_cons (ps_expr (pe_minit (B := B) (pl := pl) hg T (pa_cons vS (pa_cons pe_str pa_nil)) (okn hd).1 hc)) (pss_one (ps_ost vS' vF)), ?_⟩
  refine ⟨_, rfl, a, C, [.str msg], rfl, (by show 1 ≤ 1000; decide), TC, ha, ?_⟩
  exact ⟨_, rfl, _, rfl, a, C, rfl, TC, hno, .inl ⟨ha, fun dx h1 h2 => hq dx h1 h2⟩⟩
section
variable {Γ : Gm} {F : Fn} {Wd : Ex3} {W : WX} {X : Cx}
theorem ss_rais (S : Ss Γ F Wd W X) {c f : Str} {e : Expr} {ie : IE} {p q r : Pos} (hc : X.calm = true) (hg : Γ.glo c = true) (R : RaiseOk X c f) (he : PE X e (TI X.K (W0 Wd) F ie)) (hst : notStar e = true) :
    PS X (.Raise (some (.Call (.Name c p) [e] [] q)) none r) (TS1 X.K Wd F (.rais c f ie)) := by
  obtain ⟨C, fI, fd, ps, k, h1, h2, T, h3, h4, ok, hr, hb⟩ := R
  obtain ⟨g1, g2, g3⟩ := S.sd.gl hg
  have st := star1 (es := []) (env := X.env) hst
  refine PS.imp (ps_raise hc S.sd.tk (pmk_oex (dvs := []) T h3 h4 ok hr hb .nil passL g1 h1 (pa_cons he pa_nil st) g2 st rfl)) fun D' σ H ⟨σ', s, eH, SS, RR, q⟩ => ?_
  subst eH
  simp only [iex] at q
  refine ⟨σ', s, rfl, SS, RR, q.bind.mono fun d s1 S1 t1 q1 v hv => ⟨(by show 1 ≤ 1000; decide), fun a ha => ⟨a, v, rfl, upd_same, fun dx h5 h6 => ⟨rfl, dx, [(f, v)], upd_same, ?_, ?_, ?_⟩⟩⟩⟩
  · rw [upd_ne h6]; exact upd_same
  · rw [upd_ne h6] at h5; exact h5
  · have h5' : s1.H dx = none := by rw [upd_ne h6] at h5; exact h5
    have eh : upd (del (upd (upd (upd s1.H a (exo a C none)) dx (exd dx [(f, v)])) a (exo a C (some dx))) a) dx (.xd [(f, v)]) = upd s1.H dx (.xd [(f, v)]) := by
      funext b
      by_cases hb1 : b = dx
      · subst hb1; rw [upd_same, upd_same]
      · rw [upd_ne hb1, upd_ne hb1]
        by_cases hb2 : b = a
        · subst hb2; rw [del_same, ha]
        · rw [del_ne hb2, upd_ne hb2, upd_ne hb1, upd_ne hb2]
    rw [eh]
    obtain ⟨z1, z2, z3⟩ := new_imm (o := .xd [(f, v)]) S1 h5'
    have x1 : XF X.K { s1 with H := upd s1.H dx (.xd [(f, v)]) } [(f, d)] (some dx) := .inr ⟨dx, [(f, v)], rfl, upd_same, fun g z e => by
      simp only [List.lookup] at e ⊢
      split at e
      · cases e; exact ⟨v, rfl, z2 _ _ hv⟩
      · cases e⟩
    exact S.sd.hW c [(f, d)] σ' _ _ _ σ (q1 { s1 with H := upd s1.H dx (.xd [(f, v)]) } rfl z1 z2) z1 ((RR.stab t1).stab z2) ⟨C, rfl, h2, x1⟩
end
end Cm
/-! Cm, part K: an error caught and kept. -/
namespace Cm
open PySem PySem.Spec PyProof.Rows L2
section
variable {X : Cx} {pins : List (Addr × Obj)} {σ : L2.St} {H : Hp} {s : Shared}
/-- an object that was not there at the entry is tracked from now on -/
theorem inv_track {a : Addr} {o : HO} (I : Inv X pins σ H s) (hn : H a = none) (h0 : X.s_0.heap.get? a = none) (ho : ObjOk X.prog X.w (upd H a o) s.heap a o) (hL : a ≠ X.env.locals)
    (hC : ∀ y c, X.env.cells.lookup y = some c → c ≠ a) (hp : ∀ p ∈ X.pn ++ pins, p.1 ≠ a) : Inv X pins σ (upd H a o) s := by
  have old : ∀ {b : Addr} {u : HO}, H b = some u → upd H a o b = some u := fun {b u} e => by rw [upd_ne (ne_of_none e hn)]; exact e
  have oth : ∀ {b : Addr}, b ≠ a → upd H a o b = H b := fun {b} e => upd_ne e
  refine ⟨I.ok, I.os, I.bare, ⟨I.base.keep, I.base.slot, fun b ob e n hx => ?_, I.base.there, fun b xs e => old (I.base.tups b xs e), fun b ob u e => old (I.base.frzs b ob u e), fun b ps e => ?_⟩, I.loc, I.cell, ?_, fun y c e => ?_, fun p hq => ?_, fun b u e => ?_, I.len⟩
  · rw [oth fun z => by rw [z, h0] at e; cases e]
    exact I.base.free b ob e n hx
  · obtain ⟨more, e1⟩ := I.base.tbls b ps e
    exact ⟨more, old e1⟩
  · rw [oth (Ne.symm hL)]
    exact I.free
  · rw [oth (hC y c e)]
    exact I.freeC y c e
  · obtain ⟨e1, e2, e3⟩ := I.pin p hq
    exact ⟨e1, by rw [oth (hp p hq)]; exact e2, e3⟩
  · by_cases hb : b = a
    · subst hb
      rw [upd_same] at e
      cases e
      exact ho
    · rw [oth hb] at e
      exact (I.hok b u e).stay (fun _ _ _ z => z) (fun _ z => old z) fun _ _ z => old z
/-- into an except suite -/
theorem inv_suite (I : Inv X pins σ H s) (a : Addr) : Inv (X.suite a (X.pn ++ pins)) [] σ H s :=
  ⟨I.ok.suite a _, I.os, I.bare, I.base, I.loc, I.cell, I.free, I.freeC, fun p hp => I.pin p (by rw [List.append_nil] at hp; exact hp), I.hok, I.len⟩
theorem inv_unsuite {pn : List (Addr × Obj)} {a : Addr} (I : Inv (X.suite a (X.pn ++ pins)) pn σ H s) (ok : X.Ok) : Inv X pins σ H s :=
  ⟨ok, I.os, I.bare, I.base, I.loc, I.cell, I.free, I.freeC, fun p hp => I.pin p (List.mem_append.mpr (.inl hp)), I.hok, I.len⟩
end
/-- what the clause wishes -/
def wAsD (K : PySem.W.Frag) (c : Value) (i : Nat) (ts : TS) (Wout : WX) (D' : Ends) : WX := fun cls d σ H =>
  ∃ (C : Addr) (b : Bool), cls = .ref C ∧ PySem.W.exmOne K cls c = some b ∧
    (b = true → ∀ a, H a = none → ts { nx := fun σ' H' => D'.nx (σ'.set i none) H', rt := D'.rt, bk := fun σ' H' => D'.bk (σ'.set i none) H', ct := fun σ' H' => D'.ct (σ'.set i none) H' } (σ.set i (some (.ref a))) (upd H a (exk a C d))) ∧
    (b = false → Wout cls d σ H)
section
variable {X : Cx} {x n : Str} {c : Value} {i : Nat} {body suite : List Stmt} {b₀ : Stmt} {np pos pos' : Pos} {tb : WX → TS} {ts : TS} {Wout : WX}
theorem ps_tryD (hs : X.stack = X.env :: X.outer) (hf : X.env.frame = some X.env.locals) (hN : X.N.Nodup) (hi : X.N[i]? = some n) (hln : X.env.kindOf n = some .local) (hc : Names X x c) (tk : Takes X Wout) (hex : X.ex = [])
    (hb : ∀ (W : WX) (pn : List (Addr × Obj)) (xe : Value → Shared → Prop), Takes (X.tr pn xe) W → PassesOwn (model X.prog X.w) X.A X.env xe → PSs (X.tr pn xe) body (tb W))
    (hsu : ∀ (a : Addr) (pn : List (Addr × Obj)), PSs (X.suite a pn) (b₀ :: suite) ts) :
    PS X (.Try body [.ExceptHandler (some (.Name x np)) (some n) (b₀ :: suite) pos'] [] [] pos) (fun D' σ H => tb (wAsD X.K c i ts Wout D') D' σ H) := by
  refine ⟨fun pins s σ H D' I h => ?_⟩
  have okX := I.ok
  have hfr : X.A.frames = some (X.env :: X.outer) := by
    rw [okX.frames, hs]
  refine wpAny_Try_except ?_
  let xe' : Value → Shared → Prop := fun e s₁ => wpAny (model X.prog X.w) X.A (noteFrame e X.env) (fun _ s₂ => wpAny (model X.prog X.w) X.A (setFlight e none) (fun _ s₃ =>
    wpAny (model X.prog X.w) X.A (handleBy e X.env [.ExceptHandler (some (.Name x np)) (some n) (b₀ :: suite) pos']) (SP X pins D') X.xe s₃) X.xe s₂) X.xe s₁
  have bodyRun := (hb (wAsD X.K c i ts Wout D') (X.pn ++ pins) xe' (fun u s' xx => ?_) PassesOwn.looking).run [] s σ H D' (I.toTry xe') h
  · refine wpAny_mono bodyRun (fun fl s1 hsp => ?_) (fun _ _ z => z)
    cases fl with
    | next => obtain ⟨σ1, H1, J1, q1⟩ := hsp; exact wpAny_execs_nil ⟨σ1, H1, J1.ofTry okX, q1⟩
    | brk => obtain ⟨σ1, H1, J1, q1⟩ := hsp; exact ⟨σ1, H1, J1.ofTry okX, q1⟩
    | cont => obtain ⟨σ1, H1, J1, q1⟩ := hsp; exact ⟨σ1, H1, J1.ofTry okX, q1⟩
    | ret u => obtain ⟨v1, σ1, H1, J1, r1, q1⟩ := hsp; exact ⟨v1, σ1, H1, J1.ofTry okX, r1, q1⟩
  · obtain ⟨a, B, sI, pins1, σ1, H1, cls, d, rfl, J1, gr, up1, sk, na, hos, hag, C, b, rfl, hb1, yes, no⟩ := xx
    have J : Inv X pins σ1 H1 sI := J1.ofTry okX
    have sk' : Sky B (X.env :: X.outer) a (Zc (.ref C) d) X.env.locals s'.heap := by
      rw [← hs]
      exact sk
    show wpAny (model X.prog X.w) X.A (noteFrame (.ref a) X.env) _ _ _
    refine Sky.land Zc.steady hfr hf sk' fun h3 fl3 up3 => ?_
    have J3 : Inv X pins σ1 H1 { s' with heap := h3 } := J.landed gr fl3.1 (up1.trans up3) hos hag
    obtain ⟨oe3, vs3, he3, hz3, hd3⟩ := fl3.there
    have nfr : a ∉ frs (X.env :: X.outer) := fun hm => by
      obtain ⟨_, o', e', hnf⟩ := fl3.2.2.1.mem hm
      rw [he3] at e'
      cases e'
      exact hnf _ hd3
    have nL : a ≠ X.env.locals := fun z => nfr (List.mem_filterMap.mpr ⟨X.env, List.mem_cons_self, by rw [hf, z]⟩)
    have nF : a ∉ X.fs := fun hm => by
      obtain ⟨e, he, q⟩ := List.mem_filterMap.mp hm
      exact nfr (List.mem_filterMap.mpr ⟨e, List.mem_cons_of_mem _ he, q⟩)
    -- it was not there before
    have nSI : sI.heap.get? a = none := by
      cases e : sI.heap.get? a with
      | none => rfl
      | some o =>
        have := gr a o e (by rw [show frs X.stack = frs (X.env :: X.outer) by rw [hs]]; exact nfr)
        rw [fl3.2.1] at this
        cases this
    have n0 : X.s_0.heap.get? a = none := by
      cases e : X.s_0.heap.get? a with
      | none => rfl
      | some o =>
        obtain ⟨o', e'⟩ := J.base.there a o e (by rw [hex]; exact fun z => nomatch z)
        rw [nSI] at e'
        cases e'
    have nC : ∀ y c, X.env.cells.lookup y = some c → c ≠ a := fun y c e z => by
      obtain ⟨v, o, ho, _⟩ := J.cell y c e
      rw [z, nSI] at ho
      cases ho
    have nP : ∀ p ∈ X.pn ++ pins, p.1 ≠ a := fun p hp z => by
      have := (J.pin p hp).1
      rw [z, nSI] at this
      cases this
    have S3 := inv_suite J3 a
    refine wpAny_handleBy_cons (codeAny_handlers_test ?_) (by intro q; cases q)
    have looksT : PySem.W.Looks (model X.prog X.w) h3 (typeOf (.ref a)) (.ref C) := fun A Q E s k q => wpAny_typeOf_ref (k _ _ he3) (by rw [hz3.1]; exact q)
    have looksM := PySem.W.exm_one (M := model X.prog X.w) (J3.kIn) looksT hb1
    have theClass : ∀ {Q : Value → Shared → Prop} {E : Value → Shared → Prop}, Q c { s' with heap := h3 } → wpAny (model X.prog X.w) (X.A.mark (some (.ref a))) (eval (.Name x np) X.env) Q E { s' with heap := h3 } := fun {Q E} q => by
      obtain ⟨hg, hdbg, hm | ⟨hm, hv, hnn⟩⟩ := hc
      · exact ld_glob (X := X.suite a (X.pn ++ pins)) S3 hg hm q hdbg
      · exact ld_blt (X := X.suite a (X.pn ++ pins)) S3 hg hm hv q hnn hdbg
    refine theClass (looksM.here ?_)
    cases b with
    | true =>
      refine codeAny_handlers_suite_as ?_
      refine HandSPX.lands_againZ fl3 fun h4 fl4 up4 => ?_
      have J4 : Inv X pins σ1 H1 { s' with heap := h4 } := J.landed gr fl4.1 ((up1.trans up3).trans up4) hos hag
      obtain ⟨oe4, vs4, he4, hz4, hd4⟩ := fl4.there
      have K4 : Inv X pins σ1 (upd H1 a (exk a C d)) { s' with heap := h4 } :=
        inv_track J4 na n0 ⟨⟨oe4, vs4, he4, hz4.1, hz4.2, hd4⟩, ⟨oe4, he4⟩, fun k1 k2 ⟨o1, v1, z1, z2, z3, z4⟩ kk => ⟨o1, v1, kk _ z1, z2, z3, z4⟩⟩ nL nC nP
      have S4 := inv_suite K4 a
      refine store_ok (X := X.suite a (X.pn ++ pins)) (v := .ref a) S4 hN hi (.inl hln) rfl (fun s5 S5 => ?_) (.inr hln)
      refine wpAny_mono ((hsu a (X.pn ++ pins)).run [] s5 _ _ _ S5 (yes rfl a na)) (fun fl s6 hsp => ?_) (fun _ _ z => False.elim z)
      have fin6 : ∀ {σ6 : L2.St} {H6 : Hp} {Q : Shared → Prop}, Inv (X.suite a (X.pn ++ pins)) [] σ6 H6 s6 → (∀ s7, Inv X pins (σ6.set i none) H6 s7 → Q s7) →
          wpAny (model X.prog X.w) X.A (do bindName X.env n .none; unbindBehindTheSuite X.env n pos') (fun _ s7 => Q s7) X.xe s6 := fun {σ6 H6 Q} S6 hq => gone_ok (inv_unsuite S6 okX) hN hi hln hq
      cases fl with
      | next => obtain ⟨σ6, H6, S6, q6⟩ := hsp; exact fin6 S6 fun s7 J7 => ⟨_, _, J7, q6⟩
      | brk => obtain ⟨σ6, H6, S6, q6⟩ := hsp; exact fin6 S6 fun s7 J7 => ⟨_, _, J7, q6⟩
      | cont => obtain ⟨σ6, H6, S6, q6⟩ := hsp; exact fin6 S6 fun s7 J7 => ⟨_, _, J7, q6⟩
      | ret u => obtain ⟨v6, σ6, H6, S6, r6, q6⟩ := hsp; exact fin6 S6 fun s7 J7 => ⟨_, _, _, J7, r6, q6⟩
    | false =>
      show wpAny _ X.A (handleBy (.ref a) X.env []) _ _ _
      refine wpAny_handleBy_nil ?_
      obtain ⟨k1, k2, k3, oe, vs, T, oT, ts', he, hz, hd, h1, hr⟩ := id fl3
      unfold PySem.passOn
      refine wpAny_bind (wpAny_field he hd h1 ?_)
      rw [if_neg (show ¬ ((Value.ref T == Value.none) = true) from by simp)]
      have on : wpAny (model X.prog X.w) X.A (setFlight (.ref a) X.env.frame) (fun _ s4 => wpAny (model X.prog X.w) X.A (throw (.ref a) : Sem Flow) (SP X pins D') X.xe s4) X.xe { s' with heap := h3 } := by
        rw [hf]
        refine HandSPX.setFlight_upZ fl3 fun h4 hh4 up4 => wpAny_throw (tk _ _ ?_)
        exact ⟨a, B, sI, pins, σ1, H1, .ref C, d, rfl, J, gr, (up1.trans up3).trans up4, .inr (.inr (by rw [hs]; exact hh4)), na, hos, hag, no rfl⟩
      first
        | exact wpAny_bind (wpAny_pure (wpAny_bind on))
        | exact wpAny_bind on
end
end Cm
/-! Cm, part H: statements hold; a def by its body. -/
namespace Cm
open PySem PySem.Spec PyProof.Rows L2
section
variable {Γ : Gm} {F : Fn} {Wd : Ex3} {W : WX} {X : Cx}
theorem ss_set (S : Ss Γ F Wd W X) {x : Str} {e : Expr} {ie : IE} {i : Nat} {p q : Pos} (hi : Γ.loc x = some i) (hl : isLoc Γ x = true) (he : PE X e (TI X.K (W0 Wd) F ie)) (hc : notComp e = true) :
    PS X (.Assign [.Name x p] e q) (TS1 X.K Wd F (.set i ie)) := by
  refine PS.imp (ps_set (S.sd.hN ▸ S.sd.nd) (loc_get S.sd hi) (isLoc_of S.sd hl) he (swp hc) (.inl (S.fnT x))) fun D' σ H ⟨σ', s, e, SS, R, q⟩ => ?_
  subst e
  simp only [iex] at q
  exact ⟨σ', s, rfl, SS, R, q.bind.mono fun d s1 S1 t1 q1 v hv => q1.now S1 _ ((R.stab t1).set hv i)⟩
theorem ss_newl (S : Ss Γ F Wd W X) {x : Str} {es : List Expr} {ies : IEs} {i : Nat} {p q q2 : Pos} (hi : Γ.loc x = some i) (hl : isLoc Γ x = true) (he : PA X es (TIs X.K (W0 Wd) F ies)) :
    PS X (.Assign [.Name x p] (.List es q2) q) (TS1 X.K Wd F (.newl i ies)) := by
  refine PS.imp (ps_set (S.sd.hN ▸ S.sd.nd) (loc_get S.sd hi) (isLoc_of S.sd hl) (pe_lst he) (swp rfl) (.inl (S.fnT x))) fun D' σ H ⟨σ', s, e, SS, R, q⟩ => ?_
  subst e
  simp only [iex] at q
  refine ⟨σ', s, rfl, SS, R, q.bind.mono fun ds s1 S1 t1 q1 vs hvs => ?_⟩
  split at q1
  · rename_i hz
    refine ⟨by rw [hvs.length]; exact of_decide_eq_true hz, fun a ha => ?_⟩
    obtain ⟨w', m1, m2, m3, m4, m5⟩ := new_mut (p := a) S1 ha hvs
    have := q1 w' m1 m3 m4 (σ.set i (some (.ref a))) (((R.stab t1).stab m4).set m5 i)
    rw [m2] at this; exact this
  · exact q1.elim
theorem ss_setT (S : Ss Γ F Wd W X) {t e : Expr} {ie : IE} {is : List Nat} {p : Pos} (ht : PG X t (gD X.K (.tup is))) (he : PE X e (TI X.K (W0 Wd) F ie)) (hc : notComp e = true) (hn : notTup e = true)
    (hs : (assignEach [t] X.env).map (·.2) = [assign t X.env]) (hx : ∀ y p, t ≠ .Name y p) : PS X (.Assign [t] e p) (TS1 X.K Wd F (.setT is ie)) := by
  refine PS.imp (ps_asg he ht (swp hc) ?_ hs) fun D' σ H ⟨σ', s, e, SS, R, q⟩ => ?_
  · cases e <;> first | rfl | (cases t <;> first | rfl | simp [notTup] at hn) | simp [notTup] at hn
  subst e
  simp only [iex] at q
  refine ⟨σ', s, rfl, SS, R, q.bind.mono fun d s1 S1 t1 q1 v hv => ?_⟩
  cases hp : put (.tup is) d σ' with
  | none => rw [hp] at q1; exact q1.elim
  | some σ1 =>
    rw [hp] at q1
    exact ⟨σ', σ1, s1, d, rfl, S1, R.stab t1, hv, hp, fun σ2 r2 => q1.now S1 σ2 r2⟩
theorem ss_aug (S : Ss Γ F Wd W X) {x : Str} {e : Expr} {ie : IE} {i : Nat} {o : BOp} {p q : Pos} (hi : Γ.loc x = some i) (hl : isLoc Γ x = true) (he : PE X e (TI X.K (W0 Wd) F ie)) :
    PS X (.AugAssign (.Name x p) (opOf o) e q) (TS1 X.K Wd F (.aug i o ie)) := by
  refine PS.imp (ps_aug (S.sd.hN ▸ S.sd.nd) (loc_get S.sd hi) (isLoc_of S.sd hl) he (iop_bin o) (.inl (S.fnT x))) fun D' σ H ⟨σ', s, e, SS, R, q⟩ => ?_
  subst e
  simp only [iex, slot] at q
  split at q
  · rename_i d hd
    obtain ⟨v, e1, e2⟩ := R.2 i d hd
    simp only [Res.bind_ok] at q
    refine ⟨v, e1, σ', s, rfl, SS, R, q.bind.mono fun y s1 S1 t1 q1 w hw => ?_⟩
    obtain ⟨z, ez, qz⟩ := q1.bind.of
    exact ⟨s1, d, y, z, rfl, S1, t1 _ _ e2, hw, ez, fun s' e' S' t' u hu => (qz s' e' S' t').now S' _ (((R.stab t1).stab t').set hu i)⟩
  · exact q.elim
theorem ss_app (S : Ss Γ F Wd W X) {l x : Expr} {il ix : IE} {ap cp q : Pos} (hl : PE X l (TI X.K (W0 Wd) F il)) (hx : PE X x (TI X.K (W0 Wd) F ix)) (hs : notStar x = true) (hr : recvOk l = true) (ha : (ap.endLine == cp.line) = true) :
    PS X (.Expr (.Call (.Attribute l "append" ap) [x] [] cp) q) (TS1 X.K Wd F (.app il ix)) := by
  have hb : attributeBase l "append" X.env (eval l X.env) = eval l X.env := by
    cases l with
    | Call f es ks p =>
      cases f with
      | Name y p2 =>
        cases es with
        | nil => cases ks with
          | nil => simp [recvOk] at hr
          | cons _ _ => rfl
        | cons _ _ => rfl
      | _ => rfl
    | _ => rfl
  have st := star1 (es := []) (env := X.env) hs
  refine PS.imp (ps_expr (pe_bm PySem.F.plainAttrs_list PySem.F.slot_list_append PySem.F.type_list_append mt_append hl (pa_cons hx pa_nil st) hb (by rw [st]; rfl) ha st rfl) rfl) fun D' σ H ⟨σ', s, e, SS, R, q⟩ => ?_
  subst e
  simp only [iex] at q
  refine ⟨σ', s, rfl, SS, R, q.bind.mono fun a s1 S1 t1 q1 v hv => ?_⟩
  obtain ⟨n, en, q2⟩ := q1.bind.of
  have q2 := (q2 s1 rfl S1 .refl).bind
  unfold isLst at en
  cases hv with
  | ref hn =>
    rename_i n p
    simp only at en
    split at en
    · rename_i es1 hm1
      cases en
      obtain ⟨xs1, ex1, _⟩ := S1.obj n p _ hn hm1
      refine ⟨.inl ⟨rfl, xs1, .inl (.inl ex1)⟩, σ', s1, rfl, S1, R.stab t1, q2.mono fun d s2 S2 t2 q3 w hw => ?_⟩
      have hn2 : s2.as[n]? = some p := by cases t2 _ _ (.ref hn) with | ref z => exact z
      split at q3
      · rename_i ds hm
        split at q3
        · rename_i hz
          obtain ⟨xs, ex, rx⟩ := S2.obj n p _ hn2 hm
          obtain ⟨w', m1, m2, m3, m4⟩ := chg_mut S2 hn2 hm ex (rx.append (.cons hw .nil))
          refine ⟨p, xs, w, rfl, rfl, ex, by rw [rx.length]; exact hz, ?_⟩
          have := q3 w' m1 m3 m4 σ (((R.stab t1).stab t2).stab m4)
          rw [m2] at this; exact this
        · exact q3.elim
      · exact q3.elim
    · cases en
  | _ => simp at en
theorem ss_expr {e : Expr} {ie : IE} {q : Pos} (he : PE X e (TI X.K (W0 Wd) F ie)) (hc : notComp e = true) : PS X (.Expr e q) (TS1 X.K Wd F (.expr ie)) := by
  refine PS.imp (ps_expr he (swp hc)) fun D' σ H ⟨σ', s, e, SS, R, q⟩ => ?_
  subst e
  simp only [iex] at q
  exact ⟨σ', s, rfl, SS, R, q.bind.mono fun d s1 S1 t1 q1 v hv => q1.now S1 _ (R.stab t1)⟩
theorem ss_ret {e : Expr} {ie : IE} {q : Pos} (he : PE X e (TI X.K (W0 Wd) F ie)) : PS X (.Return (some e) q) (TS1 X.K Wd F (.ret ie)) := by
  refine PS.imp (ps_ret he) fun D' σ H ⟨σ', s, e, SS, R, q⟩ => ?_
  subst e
  simp only [iex] at q
  exact ⟨σ', s, rfl, SS, R, q.bind.mono fun d s1 S1 t1 q1 v hv => q1.now S1 _ hv⟩
theorem ss_retf {e : Expr} {ie : IE} {q : Pos} (he : PE X e (TI X.K (W0 Wd) F ie)) : PS X (.Return (some e) q) (TS1 X.K Wd F (.retf ie)) := by
  refine PS.imp (ps_ret he) fun D' σ H ⟨σ', s, e, SS, R, q⟩ => ?_
  subst e
  simp only [iex] at q
  refine ⟨σ', s, rfl, SS, R, q.bind.mono fun d s1 S1 t1 q1 v hv => ?_⟩
  cases d with
  | ref n =>
    cases hv with
    | ref hn =>
      simp only at q1
      split at q1
      · rename_i ds hm
        obtain ⟨w', m1, m2, m3, m4, m5⟩ := freeze S1 hn hm
        have := q1 w' m1 m3 m4 _ m5
        rw [m2] at this; exact this
      · exact q1.elim
  | _ => exact q1.now S1 _ hv
theorem ss_retN {q : Pos} : PS X (.Return none q) (TS1 X.K Wd F (.ret (.lit .non))) := by
  refine PS.imp ps_retN fun D' σ H ⟨σ', s, e, SS, R, q⟩ => ?_
  subst e
  simp only [iex, iev, Res.bind_ok] at q
  exact q.now SS _ .non
theorem ss_if {c : Expr} {a b : List Stmt} {ic : IE} {ia ib : ISs} {q : Pos} (hc : PT X c (TIt X.K (W0 Wd) F ic)) (ha : PSs X a (TSs X.K Wd F ia)) (hb : PSs X b (TSs X.K Wd F ib)) :
    PS X (.If c a b q) (TS1 X.K Wd F (.iff ic ia ib)) := by
  refine PS.imp (ps_if hc ha hb) fun D' σ H ⟨σ', s, e, SS, R, q⟩ => ?_
  subst e
  simp only [iex] at q
  refine ⟨σ', s, rfl, SS, R, q.bind.mono fun d s1 S1 t1 q1 => ?_⟩
  cases d with
  | bl b =>
    refine ⟨b, rfl, ?_⟩
    cases b with
    | true => exact ⟨σ', s1, rfl, S1, R.stab t1, q1⟩
    | false => exact ⟨σ', s1, rfl, S1, R.stab t1, q1⟩
  | _ => exact q1.elim
theorem ss_for (S : Ss Γ F Wd W X) {t it : Expr} {b : List Stmt} {ti : Tg} {ii : IT} {ib : ISs} {q : Pos} (ht : PG X t (gD X.K ti)) (hi : PI X t it (iD X.K Wd F ii)) (hb : PSs X b (TSs X.K Wd F ib)) (hf : ∀ x, foldedSetIterable it X.env x = pure x) (hcm : X.calm = true) :
    PS X (.For t it b [] q) (TS1 X.K Wd F (.forr ti ii ib)) := by
  refine PS.imp (ps_for S.po hcm hi ht hb hf) fun D' σ H ⟨σ', s, e, SS, R, q⟩ => ?_
  subst e
  simp only [iex] at q
  refine ⟨σ', s, rfl, SS, R, q.bind.mono fun ds s1 S1 t1 q1 J hJ => ?_⟩
  refine ⟨fun i m σ H => ∃ σ' s2, s2.H = H ∧ SR X.K s2 ∧ RS X.K s2 σ σ' ∧ Stab X.K s1 s2 ∧ m = ds.length - i ∧ i ≤ ds.length ∧
      Post X.K Wd (forL (fun σ M => iexs F ib σ M) ti (ds.drop i) σ' s2.M) s2 (FlP X.K D'), ⟨ds.length, σ', s1, rfl, S1, R.stab t1, .refl, rfl, Nat.zero_le _, q1⟩, ?_⟩
  rintro i m σ H ⟨σ', s2, rfl, S2, R2, t2, rfl, hi, q2⟩
  have J2 := hJ.stab t2
  by_cases hlt : i < ds.length
  · right
    have hd : ds[i]? = some ds[i] := List.getElem?_eq_getElem hlt
    obtain ⟨g1, g2⟩ := J2.go hd
    refine ⟨g1, fun σ' H' => ∃ σ2 s3, s3.H = H' ∧ SR X.K s3 ∧ RS X.K s3 σ' σ2 ∧ Stab X.K s1 s3 ∧ Post X.K Wd (forL (fun σ M => iexs F ib σ M) ti (ds.drop (i + 1)) σ2 s3.M) s3 (FlP X.K D'), ?_, fun x H' hy => ?_⟩
    · rintro σ' H' ⟨σ2, s3, rfl, S3, R3, t3, q3⟩
      exact ⟨ds.length - (i + 1), by omega, σ2, s3, rfl, S3, R3, t3, rfl, hlt, q3⟩
    · obtain ⟨rfl, hx⟩ := g2 x H' hy
      rw [List.drop_eq_getElem_cons hlt] at q2
      simp only [forL] at q2
      cases hp : put ti ds[i] σ' with
      | none => rw [hp] at q2; exact q2.elim
      | some σ1 =>
        rw [hp] at q2
        simp only at q2
        refine ⟨σ', σ1, s2, ds[i], rfl, S2, R2, hx, hp, fun σ2 r2 => ⟨σ1, s2, rfl, S2, r2, q2.bind.mono fun fl s3 S3 t3 q3 => ?_⟩⟩
        cases fl with
        | nx σ3 => exact fun σ4 r4 => ⟨σ3, s3, rfl, S3, r4, t2.trans t3, q3⟩
        | ct σ3 => exact fun σ4 r4 => ⟨σ3, s3, rfl, S3, r4, t2.trans t3, q3⟩
        | bk σ3 => exact fun σ4 r4 => q3.now S3 σ4 r4
        | ret v => exact fun u hu => q3.now S3 u hu
  · left
    have e : i = ds.length := by omega
    subst e
    refine ⟨J2.stop, ?_⟩
    rw [List.drop_length] at q2
    simp only [forL] at q2
    exact q2.now S2 σ R2
theorem ss_never {st : Stmt} : PS X st (TS1 X.K Wd F .never) := PS.imp ps_never fun D' σ H ⟨σ', s, e, SS, R, q⟩ => by
  simp only [iex] at q
  exact q
theorem ss_pass {q : Pos} : PS X (.Pass q) (TS1 X.K Wd F .pass) := PS.imp ps_pass fun D' σ H ⟨σ', s, e, SS, R, q⟩ => by
  subst e
  simp only [iex] at q
  exact q.now SS _ R
theorem ss_brk {q : Pos} : PS X (.Break q) (TS1 X.K Wd F .brk) := PS.imp ps_break fun D' σ H ⟨σ', s, e, SS, R, q⟩ => by
  subst e
  simp only [iex] at q
  exact q.now SS _ R
theorem ss_cont {q : Pos} : PS X (.Continue q) (TS1 X.K Wd F .cont) := PS.imp ps_continue fun D' σ H ⟨σ', s, e, SS, R, q⟩ => by
  subst e
  simp only [iex] at q
  exact q.now SS _ R
theorem ss_list {f : Stmt → Option IS} (ih : ∀ st is, f st = some is → PS X st (TS1 X.K Wd F is)) : ∀ {sts : List Stmt} {is : ISs}, cS.cSl f sts = some is → PSs X sts (TSs X.K Wd F is)
  | [], is, h => by
    simp only [cS.cSl, Option.some.injEq] at h
    subst h
    refine PSs.imp pss_nil fun D' σ H ⟨σ', s, e, SS, R, q⟩ => ?_
    subst e
    simp only [iexs] at q
    exact q.now SS _ R
  | st :: r, is, h => by
    simp only [cS.cSl, Option.bind_eq_some_iff, Option.map_eq_some_iff] at h
    obtain ⟨x, e1, y, e2, rfl⟩ := h
    refine PSs.imp (pss_cons (ih _ _ e1) (ss_list ih e2)) fun D' σ H ⟨σ', s, e, SS, R, q⟩ => ?_
    subst e
    simp only [iexs] at q
    refine ⟨σ', s, rfl, SS, R, q.bind.mono fun fl s1 S1 t1 q1 => ?_⟩
    cases fl with
    | nx σ1 => exact fun σ2 r2 => ⟨σ1, s1, rfl, S1, r2, q1⟩
    | ret d => exact q1.now S1
    | bk σ1 => exact q1.now S1
    | ct σ1 => exact q1.now S1
theorem asg_one {t : Expr} (h : notStar t = true) : (assignEach [t] X.env).map (·.2) = [assign t X.env] := by
  cases t <;> first | rfl | simp [notStar] at h
theorem post_noExc {K : PySem.W.Frag} {Ex Ex' : Ex3} {s : W3} {α : Type} {r : Res α} {Q : α → W3 → Prop} (h : Post K Ex (noExc r) s Q) : Post K Ex' r s Q := by
  cases r with
  | ok a M => exact h
  | exc c fs M => exact False.elim h
  | err => exact False.elim h
theorem RS.setN {K : PySem.W.Frag} {s : W3} {σ : L2.St} {σ' : Slots} (h : RS K s σ σ') (i : Nat) : RS K s (σ.set i none) (σ'.set i none) := by
  refine ⟨by simp [h.1], fun j e hj => ?_⟩
  by_cases q : i = j
  · subst q
    have hl : i < σ'.length := by
      have := (List.getElem?_eq_some_iff.mp hj).1
      simpa using this
    rw [List.getElem?_set_self hl] at hj
    cases hj
  · rw [List.getElem?_set_ne q] at hj
    obtain ⟨u, e1, e2⟩ := h.2 j e hj
    exact ⟨u, by rw [List.getElem?_set_ne q]; exact e1, e2⟩
theorem Sd.suite (S : Ss Γ F Wd W X) (a : Addr) (pn : List (Addr × Obj)) : Ss Γ.suite F (fun _ _ _ => False) (fun _ _ _ _ => False) (X.suite a pn) where
  sd := { hN := S.sd.hN, hsc := S.sd.hsc, nd := S.sd.nd, calm := fun h => (nomatch h), isx := S.sd.isx, exc := S.sd.exc, un := S.sd.un, tk := fun u s' ⟨_, _, _, _, _, _, _, _, _, _, _, _, _, _, _, _, z⟩ => z,
          hW := fun _ _ _ _ _ _ _ z _ _ _ => z, fns := fun _ _ h => (nomatch h), bl := S.sd.bl }
  po := PassesOwn.never
  fnT := S.fnT
  stk := fun h => (nomatch h)
  rs := fun h => (nomatch h)
  cat := S.cat
def wmOf (K : PySem.W.Frag) (W : WX) : Wm3 := fun σ' c fs s => SR K s → ∀ σ cls dct, RS K s σ σ' → XD K s c fs cls dct → W cls dct σ s.H
theorem Sd.tr (S : Ss Γ F Wd W X) {W' : WX} {pn : List (Addr × Obj)} {xe : Value → Shared → Prop} (tk : Takes (X.tr pn xe) W') : Sd Γ F (wmOf X.K W') W' (X.tr pn xe) where
  hN := S.sd.hN
  hsc := S.sd.hsc
  nd := S.sd.nd
  calm := S.sd.calm
  isx := S.sd.isx
  exc := S.sd.exc
  un := S.sd.un
  tk := tk
  hW := fun c fs σ' s cls dct σ z SS R xd => z SS σ cls dct R xd
  fns := S.sd.fns
  bl := S.sd.bl
theorem ss_try (S : Ss Γ F Wd W X) {n : Nat} {e : Expr} {T nm : Str} {b₀ : Stmt} {b : List Stmt} {tbl : List (Str × Bool)} {i : Nat} {ie : IE} {ib : ISs} {p1 p2 p3 p4 : Pos}
    (hcm : Γ.calm = true) (hT : Γ.glo T = true) (hl : Γ.sc.names.lookup nm = some .local) (ht : Γ.cat.lookup T = some tbl) (hi : Γ.loc nm = some i) (he : cE Γ n e = some ie)
    (hb : ∀ (a : Addr) (pn : List (Addr × Obj)), PSs (X.suite a pn) (b₀ :: b) (TSs X.K (fun _ _ _ => False) F ib)) :
    PS X (.Try [.Expr e p1] [.ExceptHandler (some (.Name T p2)) (some nm) (b₀ :: b) p3] [] [] p4) (TS1 X.K Wd F (.tryx ie tbl i ib)) := by
  obtain ⟨cv, hcv, hx⟩ := S.cat T tbl ht
  obtain ⟨g1, g2, g3⟩ := S.sd.gl hT
  obtain ⟨k1, k2, k3⟩ := S.stk hcm
  have nm : Names X T cv := ⟨g1, g2, hcv.elim .inl fun z => .inr ⟨z.1, z.2, g3⟩⟩
  refine PS.imp (ps_tryD (tb := fun W' => tDrop (TI X.K (wmOf X.K W') F ie)) k1 k2 (S.sd.hN ▸ S.sd.nd) (loc_get S.sd hi) (by show X.env.scope.names.lookup _ = _; rw [S.sd.hsc]; exact hl) nm S.sd.tk k3
    (fun W' pn xe tk _ => pss_one (ps_expr (se (Sd.tr S tk) he) (swp (cE_comp he)))) hb) fun D' σ H ⟨σ', s, eH, SS, R, q⟩ => ?_
  subst eH
  simp only [iex] at q
  refine ⟨σ', s, rfl, SS, R, ?_⟩
  cases hr : iev F ie σ' s.M with
  | err => rw [hr] at q; exact q.elim
  | ok d M =>
    rw [hr] at q
    exact fun s' e' S' t' v _ => q s' e' S' t' σ (R.stab t')
  | exc c fs M =>
    rw [hr] at q
    simp only at q
    intro s' e' S' t' _ σ2 cls dct R2 xd
    obtain ⟨C, rfl, hC, xf⟩ := xd
    split at q
    · rename_i hlk
      refine ⟨C, true, rfl, hx c true C hlk hC, fun _ a ha => ?_, fun z => absurd z (by decide)⟩
      subst e'
      obtain ⟨w, m1, m2, m3, m4, m5⟩ := new_exn (p := a) S' ha hC xf
      refine ⟨_, w, m2, m3, (R2.stab m4).set m5 i, ?_⟩
      rw [m1]
      refine (post_noExc (q.bind.rebase (t'.trans m4))).mono fun fl s1 S1 t1 q1 => ?_
      cases fl with
      | nx σ3 => exact fun σ4 r4 => q1.now S1 _ (r4.setN i)
      | ret d => exact fun v hv => q1.now S1 v hv
      | bk _ => exact q1.elim
      | ct _ => exact q1.elim
    · rename_i hlk
      refine ⟨C, false, rfl, hx c false C hlk hC, fun z => absurd z (by decide), fun _ => S.sd.hW c fs σ' s' _ _ σ2 (q s' e' S' t') S' R2 ⟨C, rfl, hC, xf⟩⟩
    · exact q.elim
theorem ss_all {fz : Bool} : ∀ n, ∀ {Γ : Gm} {Wd : Ex3} {W : WX} {X : Cx} (S : Ss Γ F Wd W X) st is, cS Γ fz n st = some is → PS X st (TS1 X.K Wd F is)
  | 0, _, _, _, _, S, st, is, h => by simp [cS] at h
  | n + 1, Γ, Wd, W, X, S, st, is, h => by
    have ih := fun st is => ss_all (fz := fz) n S st is
    unfold cS at h
    split at h
    · split at h
      · rename_i hl
        simp only [Option.bind_eq_some_iff, Option.map_eq_some_iff] at h
        obtain ⟨i, e1, x, e2, rfl⟩ := h
        exact ss_newl S e1 hl (se_args S.sd (fun e ie h => se S.sd h) e2)
      · cases h
    · split at h
      · rename_i hl
        simp only [Option.bind_eq_some_iff, Option.map_eq_some_iff] at h
        obtain ⟨i, e1, x, e2, rfl⟩ := h
        exact ss_set S e1 hl (se S.sd e2) (cE_comp e2)
      · cases h
    · split at h
      · rename_i hn
        split at h
        · rename_i is' ht
          split at h
          · rename_i hl
            obtain ⟨x, e2, rfl⟩ := Option.map_eq_some_iff.mp h
            exact ss_setT S (pg_tg S ht hn.2 hl) (se S.sd e2) (cE_comp e2) hn.1 rfl (fun y p z => nomatch z)
          · cases h
        · cases h
      · cases h
    · split at h
      · rename_i hl
        simp only [Option.bind_eq_some_iff, Option.map_eq_some_iff] at h
        obtain ⟨i, e1, o, e2, x, e3, rfl⟩ := h
        obtain rfl := cOp_of e2
        exact ss_aug S e1 hl (se S.sd e3)
      · cases h
    · split at h
      · rename_i hc
        obtain ⟨rfl, c2, c3⟩ := hc
        simp only [Option.bind_eq_some_iff, Option.map_eq_some_iff] at h
        obtain ⟨x, e1, y, e2, rfl⟩ := h
        exact ss_app S (se S.sd e1) (se S.sd e2) (cE_star e2) c3 c2
      · cases h
    · obtain ⟨x, e2, rfl⟩ := Option.map_eq_some_iff.mp h
      exact ss_expr (se S.sd e2) (cE_comp e2)
    · obtain ⟨x, e2, e3⟩ := Option.map_eq_some_iff.mp h
      cases fz with
      | true => subst e3; exact ss_retf (se S.sd e2)
      | false => subst e3; exact ss_ret (se S.sd e2)
    · cases h
      exact ss_retN
    · simp only [Option.bind_eq_some_iff, Option.map_eq_some_iff] at h
      obtain ⟨c, e1, a, e2, b, e3, rfl⟩ := h
      exact ss_if (ste S.sd e1) (ss_list ih e2) (ss_list ih e3)
    · simp only [Option.bind_eq_some_iff] at h
      obtain ⟨ti, e1, h⟩ := h
      split at h
      · rename_i hl
        simp only [Option.bind_eq_some_iff, Option.map_eq_some_iff] at h
        obtain ⟨ii, e2, ib, e3, rfl⟩ := h
        exact ss_for S (pg_tg S e1 hl.2 hl.1) (pi_all S.sd e2) (ss_list ih e3) (fold_it e2) (S.sd.calm hl.2)
      · cases h
    · split at h
      · rename_i hc
        split at h
        · rename_i f hf
          obtain ⟨x, e1, rfl⟩ := Option.map_eq_some_iff.mp h
          exact ss_rais S (S.sd.calm hc.1) hc.2 (S.rs hc.1 _ _ (PySem.mem_of_lookup hf)) (se S.sd e1) (cE_star e1)
        · cases h; exact ss_never
      · cases h; exact ss_never
    · cases h; exact ss_never
    · split at h
      · rename_i hc
        simp only [Option.bind_eq_some_iff, Option.map_eq_some_iff] at h
        obtain ⟨tbl, e1, i, e2, ie, e3, ib, e4, rfl⟩ := h
        exact ss_try S hc.1 hc.2.1 hc.2.2 e1 e2 e3 fun a pn => ss_list (fun st is h => ss_all (fz := fz) n (Sd.suite S a pn) st is h) e4
      · cases h
    · cases h; exact ss_pass
    · cases h; exact ss_brk
    · cases h; exact ss_cont
    · cases h
end
end Cm
/-! Cm, part I: a def by its body; the law's end. -/
namespace Cm
open PySem PySem.Spec PyProof.Rows L2
section
variable {P : Program} {w : World} {K : PySem.W.Frag} {mg : Str → Option Value} {base : Heap}
/-- a def that may be called from a body of room k -/
def Callee (P : Program) (w : World) (K : PySem.W.Frag) (mg : Str → Option Value) (base : Heap) (k : Nat) (den : List D → Mem → Res D) (x : Str) : Prop :=
  ∃ (f : Addr) (fd : FuncData) (ps : List Str) (l : Nat), l ≤ k ∧ mg x = some (.ref f) ∧ PySem.W.keepIn K (.ref f) = true ∧
    FnOk P w K mg base (L2.CX P w) l f fd ps (spD K den) ∧ Binds K fd ps []
theorem Callee.mono {k j : Nat} {den : List D → Mem → Res D} {x : Str} (c : Callee P w K mg base j den x) (h : j ≤ k) : Callee P w K mg base k den x := by
  obtain ⟨f, fd, ps, l, h1, h2⟩ := c
  exact ⟨f, fd, ps, l, Nat.le_trans h1 h, h2⟩
theorem rs_start {s : W3} {vs : List V} {ds : List D} {N : List Str} (r : RpL K s vs ds) : RS K s (L2.start N vs) (startD N.length ds) := by
  unfold L2.start startD
  refine ⟨by simp [r.length], fun i d h => ?_⟩
  by_cases hi : i < ds.length
  · rw [List.getElem?_append_left (by simpa using hi), List.getElem?_map] at h
    obtain ⟨e, e1, e2⟩ := Option.map_eq_some_iff.mp h
    cases e2
    obtain ⟨v, e3, e4⟩ := r.get e1
    exact ⟨v, by rw [List.getElem?_append_left (by simpa [r.length] using hi), List.getElem?_map, e3]; rfl, e4⟩
  · rw [List.getElem?_append_right (by simpa using hi), List.getElem?_replicate] at h
    split at h <;> cases h
theorem run_len {F : Fn} {n k : Nat} {body : ISs} {s : W3} {vs : List V} {ds : List D} {Ex : Ex3} {Q : D → W3 → Prop} (r : RpL K s vs ds) (h : Post K Ex (run F n k body ds s.M) s Q) : vs.length = k := by
  unfold run at h
  split at h
  · rename_i e; rw [r.length]; exact e
  · exact h.elim
/-- the classes of errors that a text raises, catches and asks for -/
structure Ecs where
  isx : List (Str × List (Str × Bool)) := []
  exc : List (Str × Str) := []
  cat : List (Str × List (Str × Bool)) := []
def gm0 (N : List Str) (sc : Scope) (fns : List (Str × Nat)) (ec : Ecs) : Gm := { N := N, sc := sc, fn := fns, isx := ec.isx, exc := ec.exc, cat := ec.cat }
/-- what the written part says of these -/
structure EcsOk (P : Program) (w : World) (K : PySem.W.Frag) (mg : Str → Option Value) (base : Heap) (k : Nat) (ec : Ecs) : Prop where
  isx : ∀ T tbl, ec.isx.lookup T = some tbl → ∃ (cv : V) (u : Value), ((mg T = some u) ∨ (mg T = none ∧ bootBuiltins T = some u)) ∧ RelV cv u ∧ (∀ z, RelV cv z → z = u) ∧
    ∀ c b C, tbl.lookup c = some b → PySem.W.nsIn K mainGlobals c = some (some (.ref C)) → PySem.W.kitOne K (.ref C) u = some b ∧ ExcC K C
  exc : ∀ c f, (c, f) ∈ ec.exc → ∀ C, PySem.W.nsIn K mainGlobals c = some (some (.ref C)) → XfC K C ∧ PySem.W.findIn K (.ref C) f = some none
  rs : ∀ c f, (c, f) ∈ ec.exc → ∃ (C fI : Addr) (fd : FuncData) (ps : List Str) (j : Nat), j + 1 ≤ k ∧ mg c = some (.ref C) ∧ PySem.W.nsIn K mainGlobals c = some (some (.ref C)) ∧ OexC K C ∧ PySem.W.findIn K (.ref C) "__init__" = some (some (.ref fI)) ∧
    PySem.W.typeIn K (.ref fI) = some (.type "function") ∧ FnOk P w K mg base (L2.CX P w) j fI fd ps (spInit C f) ∧ Binds K fd ps []
  cat : ∀ T tbl, ec.cat.lookup T = some tbl → ∃ cv : Value, (mg T = some cv ∨ (mg T = none ∧ bootBuiltins T = some cv)) ∧ ∀ c b C, tbl.lookup c = some b → PySem.W.nsIn K mainGlobals c = some (some (.ref C)) → PySem.W.exmOne K (.ref C) cv = some b
theorem EcsOk.mono {P : Program} {w : World} {K : PySem.W.Frag} {mg : Str → Option Value} {base : Heap} {j k : Nat} {ec : Ecs} (h : EcsOk P w K mg base j ec) (hk : j ≤ k) : EcsOk P w K mg base k ec :=
  ⟨h.isx, h.exc, fun c f e => by
    obtain ⟨C, fI, fd, ps, i, h1, h2⟩ := h.rs c f e
    exact ⟨C, fI, fd, ps, i, Nat.le_trans h1 hk, h2⟩, h.cat⟩
theorem EcsOk.nil {P : Program} {w : World} {K : PySem.W.Frag} {mg : Str → Option Value} {base : Heap} {k : Nat} : EcsOk P w K mg base k {} :=
  ⟨fun _ _ h => (nomatch h), fun _ _ h => (nomatch h), fun _ _ h => (nomatch h), fun _ _ h => (nomatch h)⟩
/-- THE RULE: a def of the text tells what its body tells -/
theorem def_ok {x qual : Str} {st : Stmt} {f : Addr} {fd : FuncData} {N ps : List Str} {k n : Nat} {fz : Bool} {fns : List (Str × Nat)} {F : Fn} {body : ISs} {ec : Ecs}
    (Fu : Fun K x qual st f fd) (S : FnScope N ps (defScope st)) (hc : cS.cSl (cS (gm0 N (defScope st) fns ec) fz n) (defBody st) = some body)
    (bl : ∀ x ∈ blts, mg x = none) (hf : ∀ x i, fns.lookup x = some i → Callee P w K mg base k (F i) x) (he : EcsOk P w K mg base k ec) :
    FnOk P w K mg base (L2.CX P w) (k + 1) f fd ps (spD K (run F N.length ps.length body)) := by
  refine Fu.okX S (fun vs H Q E ⟨s, ds, _, _, r, h⟩ => run_len r h) fun cdv A outer s0 H vs Q E hr ⟨s, ds, eH, SS, r, h⟩ => ?_
  subst eH
  have Sd' : Sd (gm0 N (defScope st) fns ec) F (W0 fun c fs s' => ∀ cls dct, XD K s' c fs cls dct → E cls dct s'.H) (fun cls d _ H => E cls d H) (cxOf (L2.CX P w) P w K mg base N qual (defScope st) f cdv A outer s0 s.H E) :=
    { hN := rfl, hsc := rfl, nd := S.nd, calm := fun _ => rfl, isx := he.isx, exc := he.exc, un := hr.units, tk := takes_of rfl rfl rfl rfl,
      hW := fun c fs σ' s cls dct σ z _ _ xd => z cls dct xd
      fns := fun y i hy => by
        obtain ⟨g, gd, qs, l, h1, h2, h3, h4, h5⟩ := hf y i hy
        exact ⟨g, gd, qs, l, h2, h3, h4, hr.mono h1, h5⟩
      bl := bl }
  have Ss' : Ss (gm0 N (defScope st) fns ec) F (fun c fs s' => ∀ cls dct, XD K s' c fs cls dct → E cls dct s'.H) (fun cls d _ H => E cls d H) (cxOf (L2.CX P w) P w K mg base N qual (defScope st) f cdv A outer s0 s.H E) :=
    ⟨Sd', passes_of rfl, fun _ => rfl, fun _ => ⟨rfl, rfl, rfl⟩, fun _ c f h => by
      obtain ⟨C, fI, gd, qs, j, h1, h2, h3, h4, h5, h6, h7, h8⟩ := he.rs c f h
      exact ⟨C, fI, gd, qs, j, h2, h3, h4, h5, h6, h7, hr.mono h1, h8⟩, he.cat⟩
  refine ⟨_, ss_list (fun st is h => ss_all n Ss' st is h) hc, startD N.length ds, s, rfl, SS, rs_start r, ?_⟩
  unfold run at h
  split at h
  · refine h.bind.mono fun fl s1 S1 t1 q1 => ?_
    cases fl with
    | nx σ' => exact fun σ _ => q1.now S1 _ .non
    | ret d => exact q1.now S1
    | bk _ => exact q1.elim
    | ct _ => exact q1.elim
  · exact h.elim
/-- what the law's def is asked -/
def spLaw (K : PySem.W.Frag) : Sp := fun vs H Q _ => ∃ (a : Addr) (ns : List Int), vs = [.ref a] ∧ SqL K H a (ns.map V.int) ∧ ns.length ≤ 63 ∧ ∀ H', Q (.bl true) H'
theorem ints_rp {s : W3} : ∀ ns : List Int, RpL K s (ns.map V.int) (ns.map D.int)
  | [] => .nil
  | n :: r => .cons (.int n) (ints_rp r)
theorem law_of {den : List D → Mem → Res D} (main : ∀ ns : List Int, ns.length ≤ 63 → ∃ M, den [.lst (ns.map D.int)] [] = .ok (.bl true) M) {vs : List V} {H : Hp} {Q : VK} {E : XK} (h : spLaw K vs H Q E) : spD K den vs H Q E := by
  obtain ⟨a, ns, rfl, hs, hl, hq⟩ := h
  obtain ⟨M, e⟩ := main ns hl
  refine ⟨⟨[], [], H⟩, [.lst (ns.map D.int)], rfl, ⟨rfl, fun m n a h => by simp at h, fun n a o h => by simp at h⟩, .cons (.lst ?_ (ints_rp ns)) .nil, ?_⟩
  · rcases hs with hs | hs
    · exact .inl ⟨hs, fun ⟨n, z, _⟩ => by simp at z⟩
    · exact .inr hs
  · rw [e]
    intro s' _ _ _ v hv
    rw [rp_bl hv]
    exact hq _
end
end Cm
/-! Cm, part L: defs as they stand behind the top. -/
namespace Cm
open PySem PySem.Spec PyProof.Rows L2
section
variable {P : Program} {w : World} {K : PySem.W.Frag} {mg : Str → Option Value} {base : Heap}
/-- the def st of the text stands under its name x -/
def DefAt (K : PySem.W.Frag) (mg : Str → Option Value) (x : Str) (st : Stmt) (ps : List Str) : Prop :=
  ∃ (f : Addr) (fd : FuncData), Fun K x x st f fd ∧ mg x = some (.ref f) ∧ Binds K fd ps []
theorem def_at {h : Heap} {x : Str} {st : Stmt} {ps : List Str} {f : Addr} {od an : Option Addr} {sl : Array (Option Value)} {oc kV dc pm cd ct : Value} (X : K.In h) (G : h.Ns mainGlobals mg)
    (hb : ∀ (kV dc pm : Value) (an : Option Addr) (cd ct : Value) (us : List Value), us.length = ps.length → bindArgs (PySem.W.fnOf x x (defArgs st) (defBody st) (defScope st) .none kV dc pm an cd ct) ⟨us, []⟩ = pure (ps.zip us))
    (a : PySem.W.nsIn K mainGlobals x = some (some (.ref f))) (l : K.lookup f = some ⟨oc, od, .func (PySem.W.fnOf x x (defArgs st) (defBody st) (defScope st) .none kV dc pm an cd ct), sl⟩)
    (c : PySem.W.codeIn K cd x = true) (k : PySem.W.keepIn K (.ref f) = true) : DefAt K mg x st ps := by
  have F := fun_mk (st := st) l c k
  exact ⟨f, _, F, PySem.W.mg_of X G a, F.binds hb⟩
theorem def_callee {x : Str} {st : Stmt} {N ps : List Str} {k n : Nat} {fz : Bool} {fns : List (Str × Nat)} {F : Fn} {body : ISs} {ec : Ecs} (D : DefAt K mg x st ps) (S : FnScope N ps (defScope st))
    (hc : cS.cSl (cS (gm0 N (defScope st) fns ec) fz n) (defBody st) = some body) (bl : ∀ x ∈ blts, mg x = none) (hf : ∀ p ∈ fns, Callee P w K mg base k (F p.2) p.1) (he : EcsOk P w K mg base k ec) :
    Callee P w K mg base (k + 1) (run F N.length ps.length body) x := by
  obtain ⟨f, fd, Fu, g, b⟩ := D
  exact ⟨f, fd, ps, k + 1, Nat.le_refl _, g, Fu.kp, def_ok Fu S hc bl (fun x i h => hf (x, i) (PySem.mem_of_lookup h)) he, b⟩
theorem call2 {C : Str × Nat → Prop} {p : Str × Nat} {l : List (Str × Nat)} (h : C p) (t : ∀ q ∈ l, C q) : ∀ q ∈ p :: l, C q := fun q hq => (List.mem_cons.mp hq).elim (fun e => e ▸ h) (t q)
theorem call0 {C : Str × Nat → Prop} : ∀ q ∈ ([] : List (Str × Nat)), C q := fun _ h => nomatch h
/-- the law's def, for the end -/
theorem law_end {st : Stmt} {y : Str} {k : Nat} {fa : Addr} {den : List D → Mem → Res D} (main : ∀ ns : List Int, ns.length ≤ 63 → ∃ M, den [.lst (ns.map D.int)] [] = .ok (.bl true) M)
    (hb : ∀ (kV dc pm : Value) (an : Option Addr) (cd ct : Value) (us : List Value), us.length = 1 → bindArgs (PySem.W.fnOf "law" "law" (defArgs st) (defBody st) (defScope st) .none kV dc pm an cd ct) ⟨us, []⟩ = pure ([y].zip us))
    (D : DefAt K mg "law" st [y]) (hfa : mg "law" = some (.ref fa))
    (ok : ∀ base : Heap, K.In base → base.Ns mainGlobals mg → ∀ (f : Addr) (fd : FuncData), Fun K "law" "law" st f fd → FnOk P w K mg base (L2.CX P w) k f fd [y] (spD K den)) :
    ∃ fd : FuncData, (∀ (s : Shared) (u : Value), BindsTo s fd ⟨[u], []⟩ [(y, u)]) ∧ ∀ base : Heap, K.In base → base.Ns mainGlobals mg → FnOk P w K mg base (L2.CX P w) k fa fd [y] (spLaw K) := by
  obtain ⟨f, fd, Fu, g, b⟩ := D
  rw [hfa] at g
  cases g
  refine ⟨fd, fun s u => ?_, fun base h1 h2 => (ok base h1 h2 _ _ Fu).imp fun vs H Q E q => law_of main q⟩
  obtain ⟨oc, od, kV, doc, pm, an, cdv, ct, osl, rfl, lk, hcd⟩ := Fu.ex
  exact .of_eq (hb kV doc pm an cdv ct [u] rfl)
end
end Cm
/-! Cm, part M: the error classes as they stand behind the top. -/
namespace Cm
open PySem PySem.Spec PyProof.Rows L2
section
variable {P : Program} {w : World} {K : PySem.W.Frag} {mg : Str → Option Value} {base : Heap}
/-- an error class c with one field f, its __init__ the def st -/
structure ErrAt (K : PySem.W.Frag) (mg : Str → Option Value) (c f : Str) (C : Addr) : Prop where
  ns : PySem.W.nsIn K mainGlobals c = some (some (.ref C))
  gC : mg c = some (.ref C)
  ox : OexC K C
  no : PySem.W.findIn K (.ref C) f = some none
  ec : ExcC K C
theorem ErrAt.xf {c f : Str} {C : Addr} (h : ErrAt K mg c f C) : XfC K C := ⟨h.ec.hg, h.ec.hk, h.ec.hs, h.ec.hd⟩
/-- .. and may be raised -/
def InitAt (P : Program) (w : World) (K : PySem.W.Frag) (mg : Str → Option Value) (base : Heap) (f : Str) (C : Addr) : Prop :=
  ∃ (fI : Addr) (fd : FuncData) (ps : List Str), PySem.W.findIn K (.ref C) "__init__" = some (some (.ref fI)) ∧ PySem.W.typeIn K (.ref fI) = some (.type "function") ∧ FnOk P w K mg base (L2.CX P w) 1 fI fd ps (spInit C f) ∧ Binds K fd ps []
theorem ErrAt.only {c f : Str} {C C' : Addr} (h : ErrAt K mg c f C) (e : PySem.W.nsIn K mainGlobals c = some (some (.ref C'))) : C' = C := by
  rw [h.ns] at e
  cases e
  rfl
/-- one class of errors -/
theorem ecs_one {c f : Str} {C : Addr} {ec : Ecs} (h : ErrAt K mg c f C) (hi : InitAt P w K mg base f C) (he : ec.exc = [(c, f)])
    (hx : ∀ T tbl, (T, tbl) ∈ ec.isx → ∃ (cv : V) (u : Value), ((mg T = some u) ∨ (mg T = none ∧ bootBuiltins T = some u)) ∧ RelV cv u ∧ (∀ z, RelV cv z → z = u) ∧ ∃ b, tbl = [(c, b)] ∧ PySem.W.kitOne K (.ref C) u = some b)
    (hc : ∀ T tbl, (T, tbl) ∈ ec.cat → ∃ cv : Value, (mg T = some cv ∨ (mg T = none ∧ bootBuiltins T = some cv)) ∧ ∃ b, tbl = [(c, b)] ∧ PySem.W.exmOne K (.ref C) cv = some b) : EcsOk P w K mg base 2 ec where
  isx := fun T tbl hT => by
    obtain ⟨cv, u, h1, h2, h3, b, rfl, h4⟩ := hx T tbl (PySem.mem_of_lookup hT)
    refine ⟨cv, u, h1, h2, h3, fun c' b' C' hl hn => ?_⟩
    have hm := PySem.mem_of_lookup hl
    simp at hm
    obtain ⟨rfl, rfl⟩ := hm
    obtain rfl := h.only hn
    exact ⟨h4, h.ec⟩
  exc := fun c' f' hm C' hn => by
    rw [he] at hm
    simp at hm
    obtain ⟨rfl, rfl⟩ := hm
    obtain rfl := h.only hn
    exact ⟨h.xf, h.no⟩
  rs := fun c' f' hm => by
    rw [he] at hm
    simp at hm
    obtain ⟨rfl, rfl⟩ := hm
    obtain ⟨fI, fd, ps, h1, h2, h3, h4⟩ := hi
    exact ⟨C, fI, fd, ps, 1, Nat.le_refl _, h.gC, h.ns, h.ox, h1, h2, h3, h4⟩
  cat := fun T tbl hT => by
    obtain ⟨cv, h1, b, rfl, h4⟩ := hc T tbl (PySem.mem_of_lookup hT)
    refine ⟨cv, h1, fun c' b' C' hl hn => ?_⟩
    have hm := PySem.mem_of_lookup hl
    simp at hm
    obtain ⟨rfl, rfl⟩ := hm
    obtain rfl := h.only hn
    exact h4
theorem kit_own {K : PySem.W.Frag} {C T : Addr} {b : Bool} (h0 : (Value.ref C == Value.ref T) = false) (h1 : PySem.W.isClsIn K T = true) (h2 : PySem.W.typeIn K (.ref T) = some (.type "type")) (h3 : PySem.W.subIn K (.ref C) (.ref T) = some b) :
    PySem.W.kitOne K (.ref C) (.ref T) = some b := by
  have e1 : ((PySem.W.clsIn K T).isSome && PySem.W.typeIn K (.ref T) == some (.type "type")) = true := by
    have h1' : (PySem.W.clsIn K T).isSome = true := h1
    rw [h1', h2] <;> rfl
  unfold PySem.W.kitOne
  rw [h0, if_neg (by decide)]
  show (if _ then _ else _) = _
  rw [if_pos e1]
  exact h3
theorem kit_self {K : PySem.W.Frag} {C : Addr} : PySem.W.kitOne K (.ref C) (.ref C) = some true := by
  unfold PySem.W.kitOne
  rw [if_pos (by simp)]
theorem kit_blt {K : PySem.W.Frag} {C : Addr} {T : String} {b : Bool} (h1 : PySem.W.kitMeta T = true) (h3 : PySem.W.subIn K (.ref C) (.type T) = some b) : PySem.W.kitOne K (.ref C) (.type T) = some b := by
  unfold PySem.W.kitOne
  rw [if_neg (by simp)]
  show (if _ then _ else _) = _
  rw [if_pos h1]
  exact h3
theorem init_at {q f x msg : Str} {st : Stmt} {fI C B : Addr} {od an : Option Addr} {sl : Array (Option Value)} {oc kV dc pm cd ct : Value} {p1 p2 p3 p4 p5 p6 p7 p8 p9 p10 : Pos}
    (l : K.lookup fI = some ⟨oc, od, .func (PySem.W.fnOf "__init__" q (defArgs st) (defBody st) (defScope st) .none kV dc pm an cd ct), sl⟩) (c : PySem.W.codeIn K cd q = true) (k : PySem.W.keepIn K (.ref fI) = true)
    (iC : PySem.W.findIn K (.ref C) "__init__" = some (some (.ref fI))) (tI : PySem.W.typeIn K (.ref fI) = some (.type "function"))
    (hbd : ∀ (kV dc pm : Value) (an : Option Addr) (cd ct : Value) (us : List Value), us.length = (["self", f] : List Str).length → bindArgs (PySem.W.fnOf "__init__" q (defArgs st) (defBody st) (defScope st) .none kV dc pm an cd ct) ⟨us, []⟩ = pure ((["self", f] : List Str).zip us))
    (S : FnScope ["self", f] ["self", f] (defScope st))
    (hb : defBody st = [.Expr (.Call (.Attribute (.Name x p1) "__init__" p2) [.Name "self" p3, .Constant (.str msg) 0 p4] [] p5) p6, .Assign [.Attribute (.Name "self" p7) f p8] (.Name f p9) p10])
    (hs1 : (defScope st).names.lookup ("self" : Str) = some .local) (hs2 : (defScope st).names.lookup f = some .local) (hg : (defScope st).names.lookup x = some .globalImplicit) (hd : okName x = true) (hdf : okName f = true)
    (hc : ∀ env : Env, ∃ pl : Sem Bool, eval (.Call (.Attribute (.Name x p1) "__init__" p2) [.Name "self" p3, .Constant (.str msg) 0 p4] [] p5) env = (do
      let ov ← eval (.Name x p1) env
      standAt p2.atName
      let (f, first) ← holding [ov] (getMethod ov "__init__" pl)
      callWith p5 f first (backTo p5 (starEach [.Name "self" p3, .Constant (.str msg) 0 p4] env)) (backToKw p5 (keywordEach [] env))))
    (T : BaseC K mg x B) (TC : OexC K C) (hno : PySem.W.findIn K (.ref C) f = some none) : InitAt P w K mg base f C := by
  have Fu : Fun K "__init__" q st fI _ := fun_mk (st := st) l c k
  exact ⟨fI, _, ["self", f], iC, tI, init_ok Fu S hb hs1 hs2 hg hd hdf hc T TC hno, Fu.binds hbd⟩
end
end Cm
/-! Cm, part N: reckoning with the small language. -/
namespace Cm
open PySem PySem.Spec PyProof.Rows L2
theorem bop_add_int (i j : Int) : bop .add (.int i) (.int j) = some (.int (i + j)) := rfl
theorem bop_sub_int (i j : Int) : bop .sub (.int i) (.int j) = some (.int (i - j)) := rfl
theorem bop_add_tup {x y : List D} (h : x.length + y.length ≤ 16777216) : bop .add (.tup x) (.tup y) = some (.tup (x ++ y)) := by
  simp only [bop]; rw [if_pos (by rw [sizeLine_eq]; exact h)]
theorem bop_add_str {x y : Str} (h : x.length + y.length ≤ 16777216) : bop .add (.str x) (.str y) = some (.str (x ++ y)) := by
  simp only [bop]; rw [if_pos (by rw [sizeLine_eq]; exact h)]
theorem bop_mul_r {i j : Int} (h1 : -18446744073709551616 < j) (h2 : j < 18446744073709551616) : bop .mul (.int i) (.int j) = some (.int (i * j)) := by
  have e : mulOk i j = true := decide_eq_true (.inr ⟨h1, h2⟩)
  simp only [bop]; rw [if_pos e]
theorem bop_mul_l {i j : Int} (h1 : -18446744073709551616 < i) (h2 : i < 18446744073709551616) : bop .mul (.int i) (.int j) = some (.int (i * j)) := by
  have e : mulOk i j = true := decide_eq_true (.inl ⟨h1, h2⟩)
  simp only [bop]; rw [if_pos e]
theorem bop_fdiv {i j : Int} (h1 : 0 < j) (h2 : j < 1073741824) : bop .fdiv (.int i) (.int j) = some (.int (i / j)) := by
  simp only [bop]; rw [if_pos ⟨h1, h2⟩]
theorem bop_mod {i j : Int} (h1 : 0 < j) : bop .mod (.int i) (.int j) = some (.int (i % j)) := by
  simp only [bop]; rw [if_pos h1]
theorem bop_pow {i j : Int} (h1 : 0 ≤ j) (h2 : j ≤ 1000000) (h3 : i.natAbs < 18446744073709551616) : bop .pow (.int i) (.int j) = some (.int (i ^ j.toNat)) := by
  simp only [bop]; rw [if_pos ⟨h1, h2, h3⟩]
theorem slot_zero {d : D} {σ : Slots} {M : Mem} : slot (some d :: σ) 0 M = .ok d M := rfl
theorem slot_succ {x : Option D} {σ : Slots} {i : Nat} {M : Mem} : slot (x :: σ) (i + 1) M = slot σ i M := by
  unfold slot
  rw [List.getElem?_cons_succ]
theorem set_zero {x : Option D} {y : Option D} {σ : Slots} : (x :: σ : List (Option D)).set 0 y = y :: σ := rfl
theorem set_succ {x : Option D} {y : Option D} {σ : Slots} {i : Nat} : (x :: σ : List (Option D)).set (i + 1) y = x :: σ.set i y := rfl
theorem cop_lt (M : Mem) (a b : D) : cop M .lt a b = dlt a b := rfl
theorem cop_le (M : Mem) (a b : D) : cop M .le a b = dle a b := rfl
theorem cop_gt (M : Mem) (a b : D) : cop M .gt a b = dgt a b := rfl
theorem cop_ge (M : Mem) (a b : D) : cop M .ge a b = dge a b := rfl
theorem dlt_int (i j : Int) : dlt (.int i) (.int j) = some (decide (i < j)) := rfl
theorem dle_int (i j : Int) : dle (.int i) (.int j) = some (decide (i ≤ j)) := rfl
theorem dgt_int (i j : Int) : dgt (.int i) (.int j) = some (decide (j < i)) := rfl
theorem dge_int (i j : Int) : dge (.int i) (.int j) = some (decide (j ≤ i)) := rfl
theorem cop_isN (M : Mem) (a : D) : cop M .isN a .non = some (match a with | .non => true | _ => false) := by cases a <;> rfl
theorem cop_notN (M : Mem) (a : D) : cop M .notN a .non = some (match a with | .non => false | _ => true) := by cases a <;> rfl
theorem drf_tup (M : Mem) (x : List D) : drf M (.tup x) = .tup x := rfl
theorem drf_lst (M : Mem) (x : List D) : drf M (.lst x) = .lst x := rfl
theorem drf_int (M : Mem) (x : Int) : drf M (.int x) = .int x := rfl
theorem drf_str (M : Mem) (x : Str) : drf M (.str x) = .str x := rfl
theorem drf_ref {M : Mem} {n : Nat} {x : List D} (h : M[n]? = some (.lst x)) : drf M (.ref n) = .lst x := by
  simp only [drf, h]
theorem cop_eq_int (M : Mem) (i j : Int) : cop M .eq (.int i) (.int j) = some (decide (i = j)) := by
  simp [cop, deq, drf, toPy, SeqAt.shaped, PyData.canLay0, PyData.depth, PyData.eqv]
  rfl
theorem cop_ne_int (M : Mem) (i j : Int) : cop M .ne (.int i) (.int j) = some (!decide (i = j)) := by
  have := cop_eq_int M i j
  simp only [cop] at this ⊢
  rw [this]; rfl
theorem len_tup (M : Mem) (x : List D) : pev .len [.tup x] M = some (.int x.length) := rfl
theorem len_lst (M : Mem) (x : List D) : pev .len [.lst x] M = some (.int x.length) := rfl
theorem len_ref {M : Mem} {n : Nat} {x : List D} (h : M[n]? = some (.lst x)) : pev .len [.ref n] M = some (.int x.length) := by
  simp only [pev, drf_ref h]
theorem len_str {M : Mem} {x : Str} (h : x.length ≤ 16777216) : pev .len [.str x] M = some (.int x.length) := by
  simp only [pev, drf_str]
  rw [if_pos (by rw [sizeLine_eq]; exact h)]
theorem min_int (M : Mem) (i j : Int) : pev .min [.int i, .int j] M = some (.int (if j < i then j else i)) := rfl
theorem max_int (M : Mem) (i j : Int) : pev .max [.int i, .int j] M = some (.int (if j > i then j else i)) := rfl
theorem idx_tup (M : Mem) (x : List D) (k : Int) : idx M (.tup x) (.int k) = atI x k := rfl
theorem idx_lst (M : Mem) (x : List D) (k : Int) : idx M (.lst x) (.int k) = atI x k := rfl
theorem idx_ref {M : Mem} {n : Nat} {x : List D} (h : M[n]? = some (.lst x)) (k : Int) : idx M (.ref n) (.int k) = atI x k := by
  simp only [idx, drf_ref h]
theorem idx_str {M : Mem} {x : Str} (h : x.length ≤ 16777216) (k : Int) : idx M (.str x) (.int k) = (atI x.cps.toList k).map fun c => .str ⟨#[c]⟩ := by
  simp only [idx, drf_str]
  rw [if_pos (by rw [sizeLine_eq]; exact h)]
theorem atI_pos {α : Type} {x : List α} {k : Int} (h0 : 0 ≤ k) (h : k < 2 ^ 62) : atI x k = x[k.toNat]? := by
  by_cases hk : k.toNat < x.length
  · have e : k = ((k.toNat : Nat) : Int) := by omega
    rw [List.getElem?_eq_getElem hk]
    conv => lhs; rw [e]
    exact atI_nat (List.getElem?_eq_getElem hk)
  · rw [List.getElem?_eq_none_iff.mpr (by omega)]
    cases q : atI x k with
    | none => rfl
    | some v =>
      obtain ⟨j, e1, e2, e3, e4, e5⟩ := atI_get q
      omega
theorem sli_tup (M : Mem) (x : List D) (lo hi : Option Int) : sli M (.tup x) lo hi = some (.tup (cutD x lo hi)) := rfl
theorem sli_lst (M : Mem) (x : List D) (lo hi : Option Int) : sli M (.lst x) lo hi = some (.lst (cutD x lo hi)) := rfl
theorem sli_str {M : Mem} {x : Str} (h : x.length ≤ 16777216) (lo hi : Option Int) : sli M (.str x) lo hi = some (.str (cutS x lo hi)) := by
  simp only [sli, drf_str]
  rw [if_pos (by rw [sizeLine_eq]; exact h)]
theorem cut_to {α : Type} (x : List α) (k : Nat) : cutD x none (some (k : Int)) = x.take k := by
  unfold cutD
  rw [HT.sIx_none, HT.sIx_nat]
  simp only [List.drop_zero, Nat.sub_zero]
  by_cases h : k ≤ x.length
  · rw [Nat.min_eq_left h]
  · rw [Nat.min_eq_right (by omega), List.take_of_length_le (Nat.le_refl _), List.take_of_length_le (by omega)]
theorem cut_from {α : Type} (x : List α) (k : Nat) : cutD x (some (k : Int)) none = x.drop k := by
  unfold cutD
  rw [HT.sIx_none, HT.sIx_nat]
  by_cases h : k ≤ x.length
  · rw [Nat.min_eq_left h]
    exact List.take_of_length_le (by simp)
  · rw [Nat.min_eq_right (by omega), List.drop_of_length_le (Nat.le_refl _), List.drop_of_length_le (by omega)]
    simp
theorem small_ok {l : List D} (h : l.length ≤ 16777216) : small l = true := decide_eq_true (by rw [sizeLine_eq]; exact h)
def bodyOf (F : Fn) (b : ISs) : Slots → Mem → Res Fl := fun σ M => iexs F b σ M
section
variable (F : Fn) (σ : Slots) (M : Mem)
theorem ix_set (i : Nat) (e : IE) : iex F (.set i e) σ M = (iev F e σ M).bind fun d M => .ok (.nx (σ.set i (some d))) M := by simp only [iex]
theorem ix_setT (is : List Nat) (e : IE) : iex F (.setT is e) σ M = (iev F e σ M).bind fun d M => match put (.tup is) d σ with | some σ' => .ok (.nx σ') M | none => .err := by simp only [iex] <;> rfl
theorem ix_newl (i : Nat) (es : IEs) : iex F (.newl i es) σ M = (ievs F es σ M).bind fun ds M => if small ds = true then .ok (.nx (σ.set i (some (.ref M.length)))) (M ++ [.lst ds]) else .err := by simp only [iex]
theorem ix_app (l x : IE) : iex F (.app l x) σ M = (iev F l σ M).bind fun a M => (Res.of (isLst M a) M).bind fun n M => (iev F x σ M).bind fun d M => match M[n]? with
    | some (.lst ds) => if ds.length < sizeLine then .ok (.nx σ) (M.set n (.lst (ds ++ [d]))) else .err
    | _ => .err := by simp only [iex] <;> rfl
theorem ix_expr (e : IE) : iex F (.expr e) σ M = (iev F e σ M).bind fun _ M => .ok (.nx σ) M := by simp only [iex]
theorem ix_ret (e : IE) : iex F (.ret e) σ M = (iev F e σ M).bind fun d M => .ok (.ret d) M := by simp only [iex]
theorem ix_iff (c : IE) (a b : ISs) : iex F (.iff c a b) σ M = (iev F c σ M).bind fun x M => asB x fun k => if k = true then iexs F a σ M else iexs F b σ M := by simp only [iex]
theorem ix_for (t : Tg) (it : IT) (b : ISs) : iex F (.forr t it b) σ M = (items F it σ M).bind fun ds M => forL (bodyOf F b) t ds σ M := by simp only [iex]; rfl
theorem ix_aug (i : Nat) (o : BOp) (e : IE) : iex F (.aug i o e) σ M = (slot σ i M).bind fun x M => (iev F e σ M).bind fun y M => (Res.of (ibop o x y) M).bind fun z M => .ok (.nx (σ.set i (some z))) M := by simp only [iex]
theorem ix_rais (c f : Str) (e : IE) : iex F (.rais c f e) σ M = (iev F e σ M).bind fun d M => .exc c [(f, d)] M := by simp only [iex]
end
theorem if_t {α : Type} (a b : α) : (if true = true then a else b) = a := rfl
theorem if_f {α : Type} (a b : α) : (if false = true then a else b) = b := rfl
/-- a list that is built and put away stays out of the way -/
def Ext (M M' : Mem) : Prop := ∃ J, M' = M ++ J
theorem Ext.refl (M : Mem) : Ext M M := ⟨[], by simp⟩
theorem Ext.trans {M M1 M2 : Mem} (a : Ext M M1) (b : Ext M1 M2) : Ext M M2 := by
  obtain ⟨J, rfl⟩ := a; obtain ⟨J', rfl⟩ := b; exact ⟨J ++ J', by simp⟩
theorem Ext.get {M M' : Mem} (a : Ext M M') {n : Nat} {o : MO} (h : M[n]? = some o) : M'[n]? = some o := by
  obtain ⟨J, rfl⟩ := a
  rw [List.getElem?_append_left (List.getElem?_eq_some_iff.mp h).1]; exact h
/-- a loop by its invariant -/
theorem forL_inv {B : Slots → Mem → Res Fl} {t : Tg} (I : Nat → Slots → Mem → Prop) {ds : List D} {σ : Slots} {M : Mem} (h0 : I 0 σ M)
    (hs : ∀ i d σ M, ds[i]? = some d → I i σ M → ∃ σ1, put t d σ = some σ1 ∧ ∃ σ2 M2, (B σ1 M = .ok (.nx σ2) M2 ∨ B σ1 M = .ok (.ct σ2) M2) ∧ I (i + 1) σ2 M2) :
    ∃ σ' M', forL B t ds σ M = .ok (.nx σ') M' ∧ I ds.length σ' M' := by
  have key : ∀ (r : List D) (i : Nat) (σ : Slots) (M : Mem), r = ds.drop i → i ≤ ds.length → I i σ M → ∃ σ' M', forL B t r σ M = .ok (.nx σ') M' ∧ I ds.length σ' M' := by
    intro r
    induction r with
    | nil =>
      intro i σ M e hi hI
      have : i = ds.length := by
        have := congrArg List.length e
        simp at this
        omega
      subst this
      exact ⟨σ, M, rfl, hI⟩
    | cons d r ih =>
      intro i σ M e hi hI
      have hd : ds[i]? = some d := by
        have := congrArg (·[0]?) e
        simp at this
        exact this.symm
      have hlt : i < ds.length := (List.getElem?_eq_some_iff.mp hd).1
      have er : r = ds.drop (i + 1) := by
        have := congrArg List.tail e
        simpa using this
      obtain ⟨σ1, e1, σ2, M2, e2, hI2⟩ := hs i d σ M hd hI
      obtain ⟨σ', M', e3, e4⟩ := ih (i + 1) σ2 M2 er hlt hI2
      refine ⟨σ', M', ?_, e4⟩
      simp only [forL, e1]
      rcases e2 with e2 | e2 <;> rw [e2] <;> exact e3
  exact key ds 0 σ M rfl (Nat.zero_le _) h0
theorem rng_get {lo : Int} {n i : Nat} {d : D} (h : (rngL lo n)[i]? = some d) : i < n ∧ d = .int (lo + (i : Nat)) := by
  unfold rngL at h
  rw [List.getElem?_map] at h
  obtain ⟨j, e1, rfl⟩ := Option.map_eq_some_iff.mp h
  obtain ⟨hj, e2⟩ := List.getElem?_eq_some_iff.mp e1
  simp at hj e2
  subst e2
  exact ⟨hj, rfl⟩
theorem rng_len (lo : Int) (n : Nat) : (rngL lo n).length = n := by simp [rngL]
theorem small62_ok {i : Int} (h1 : -4611686018427387904 ≤ i) (h2 : i < 4611686018427387904) : small62 i = true := decide_eq_true ⟨h1, h2⟩
end Cm
namespace K33
open PySem PySem.Spec PyProof.Rows L2 Cm
def topS (i : Nat) : Stmt := PySem.Challenge.pw_copymeet_k33_between.main.body.getD i (.Pass ⟨0, 0, 0, 0⟩)
def ec : Ecs := { isx := [("NoPlace", [("NoPlace", true)]), ("ValueError", [("NoPlace", true)]), ("NoThing", [("NoPlace", false)]), ("Ring", [("NoPlace", false)]), ("Swept", [("NoPlace", false)])], exc := [("NoPlace", "place")], cat := [("MeetError", [("NoPlace", true)])] }
/-! ### place_key -/
abbrev s_place_key : Stmt := topS 7
abbrev n_place_key : List Str := ["place"]
abbrev p_place_key : List Str := ["place"]
theorem sc_place_key : FnScope n_place_key p_place_key (defScope s_place_key) := ⟨rfl, rfl, rfl, by decide +kernel, rfl, by decide +kernel, by decide +kernel⟩
def b_place_key : ISs :=
  (.cons (.ret (.bin .add (.var 0) (.tup (.cons (.tup (.cons (.lit (.int 0)) .nil)) .nil))))
  .nil)
abbrev f_place_key : List (Str × Nat) := []
theorem c_place_key : cS.cSl (cS (gm0 n_place_key (defScope s_place_key) f_place_key {}) false 60) (defBody s_place_key) = some b_place_key := by kernel_rfl
def F_place_key : Fn := fun i => match i with
  | _ => fun _ _ => .err
def d_place_key : List D → Mem → Res D := run F_place_key n_place_key.length p_place_key.length b_place_key
/-! ### before -/
abbrev s_before : Stmt := topS 8
abbrev n_before : List Str := ["one", "other"]
abbrev p_before : List Str := ["one", "other"]
theorem sc_before : FnScope n_before p_before (defScope s_before) := ⟨rfl, rfl, rfl, by decide +kernel, rfl, by decide +kernel, by decide +kernel⟩
def b_before : ISs :=
  (.cons (.ret (.cmp .lt (.call 0 (.cons (.var 0) .nil)) (.call 0 (.cons (.var 1) .nil))))
  .nil)
abbrev f_before : List (Str × Nat) := [("place_key", 0)]
theorem c_before : cS.cSl (cS (gm0 n_before (defScope s_before) f_before {}) false 60) (defBody s_before) = some b_before := by kernel_rfl
def F_before : Fn := fun i => match i with
  | 0 => d_place_key
  | _ => fun _ _ => .err
def d_before : List D → Mem → Res D := run F_before n_before.length p_before.length b_before
/-! ### gap -/
abbrev s_gap : Stmt := topS 9
abbrev n_gap : List Str := ["left", "right"]
abbrev p_gap : List Str := ["left", "right"]
theorem sc_gap : FnScope n_gap p_gap (defScope s_gap) := ⟨rfl, rfl, rfl, by decide +kernel, rfl, by decide +kernel, by decide +kernel⟩
def b_gap : ISs :=
  (.cons (.iff (.cmp .isN (.var 1) (.lit .non))
    (.cons (.ret (.tup (.cons (.var 0) (.cons (.lit (.int 1)) .nil))))
    .nil)
    .nil)
  (.cons (.iff (.not (.call 1 (.cons (.var 0) (.cons (.var 1) .nil))))
    (.cons (.rais "NoPlace" "place" (.var 0))
    .nil)
    .nil)
  (.cons (.iff (.cmp .eq (.sli (.var 1) .none (.some (.prim .len (.cons (.var 0) .nil)))) (.var 0))
    (.cons (.ret (.tup (.cons (.var 1) (.cons (.neg (.lit (.int 1))) .nil))))
    .nil)
    .nil)
  (.cons (.ret (.tup (.cons (.var 0) (.cons (.lit (.int 1)) .nil))))
  .nil))))
abbrev f_gap : List (Str × Nat) := [("before", 1)]
theorem c_gap : cS.cSl (cS (gm0 n_gap (defScope s_gap) f_gap ec) false 60) (defBody s_gap) = some b_gap := by kernel_rfl
def F_gap : Fn := fun i => match i with
  | 1 => d_before
  | _ => fun _ _ => .err
def d_gap : List D → Mem → Res D := run F_gap n_gap.length p_gap.length b_gap
/-! ### mixed -/
abbrev s_mixed : Stmt := topS 11
abbrev n_mixed : List Str := ["_law_cell", "_law_k", "_law_number"]
abbrev p_mixed : List Str := ["_law_cell", "_law_k"]
theorem sc_mixed : FnScope n_mixed p_mixed (defScope s_mixed) := ⟨rfl, rfl, rfl, by decide +kernel, rfl, by decide +kernel, by decide +kernel⟩
def b_mixed : ISs :=
  (.cons (.set 2 (.bin .mod (.bin .mul (.bin .add (.bin .add (.var 0) (.bin .mul (.lit (.int 7919)) (.var 1))) (.lit (.int 1))) (.lit (.int 48271))) (.lit (.int 2147483647))))
  (.cons (.ret (.bin .mod (.bin .mul (.var 2) (.bin .add (.bin .fdiv (.var 2) (.lit (.int 1009))) (.lit (.int 69621)))) (.lit (.int 2147483647))))
  .nil))
abbrev f_mixed : List (Str × Nat) := []
theorem c_mixed : cS.cSl (cS (gm0 n_mixed (defScope s_mixed) f_mixed {}) false 60) (defBody s_mixed) = some b_mixed := by kernel_rfl
def F_mixed : Fn := fun i => match i with
  | _ => fun _ _ => .err
def d_mixed : List D → Mem → Res D := run F_mixed n_mixed.length p_mixed.length b_mixed
/-! ### hand -/
abbrev s_hand : Stmt := topS 12
abbrev n_hand : List Str := ["_law_number", "_law_some", "_law_word", "_law_rest", "_law_k"]
abbrev p_hand : List Str := ["_law_number"]
theorem sc_hand : FnScope n_hand p_hand (defScope s_hand) := ⟨rfl, rfl, rfl, by decide +kernel, rfl, by decide +kernel, by decide +kernel⟩
def w_hand_0 : ISs :=
  (.cons (.set 2 (.bin .add (.var 2) (.idx (.var 1) (.bin .mod (.var 3) (.lit (.int 26))))))
  (.cons (.set 3 (.bin .fdiv (.var 3) (.lit (.int 26))))
  .nil))
def b_hand : ISs :=
  (.cons (.set 1 (.lit (.str "abcdefghijklmnopqrstuvwxyz")))
  (.cons (.iff (.cmp .lt (.bin .mod (.var 0) (.lit (.int 4))) (.lit (.int 2)))
    (.cons (.ret (.idx (.var 1) (.bin .mod (.bin .fdiv (.var 0) (.lit (.int 4))) (.lit (.int 3)))))
    .nil)
    .nil)
  (.cons (.iff (.cmp .eq (.bin .mod (.var 0) (.lit (.int 4))) (.lit (.int 2)))
    (.cons (.ret (.bin .mul (.lit (.str "a")) (.bin .add (.lit (.int 1)) (.bin .mod (.bin .fdiv (.var 0) (.lit (.int 4))) (.lit (.int 8))))))
    .nil)
    .nil)
  (.cons (.set 2 (.lit (.str "")))
  (.cons (.set 3 (.bin .fdiv (.var 0) (.lit (.int 32))))
  (.cons (.forr (.name 4) (.rng1 (.bin .add (.lit (.int 1)) (.bin .mod (.bin .fdiv (.var 0) (.lit (.int 4))) (.lit (.int 8))))) w_hand_0)
  (.cons (.ret (.var 2))
  .nil)))))))
abbrev f_hand : List (Str × Nat) := []
theorem c_hand : cS.cSl (cS (gm0 n_hand (defScope s_hand) f_hand {}) false 60) (defBody s_hand) = some b_hand := by kernel_rfl
def F_hand : Fn := fun i => match i with
  | _ => fun _ _ => .err
def d_hand : List D → Mem → Res D := run F_hand n_hand.length p_hand.length b_hand
/-! ### step -/
abbrev s_step : Stmt := topS 13
abbrev n_step : List Str := ["_law_cell", "_law_n"]
abbrev p_step : List Str := ["_law_cell"]
theorem sc_step : FnScope n_step p_step (defScope s_step) := ⟨rfl, rfl, rfl, by decide +kernel, rfl, by decide +kernel, by decide +kernel⟩
def b_step : ISs :=
  (.cons (.set 1 (.bin .add (.lit (.int 1)) (.bin .mod (.call 3 (.cons (.var 0) (.cons (.lit (.int 3)) .nil))) (.lit (.int 3)))))
  (.cons (.iff (.cmp .eq (.bin .mod (.bin .fdiv (.var 0) (.lit (.int 2))) (.lit (.int 4))) (.lit (.int 3)))
    (.cons (.set 1 (.bin .add (.bin .add (.lit (.int 1)) (.bin .mul (.call 3 (.cons (.var 0) (.cons (.lit (.int 5)) .nil))) (.lit (.int 461)))) (.bin .mod (.var 0) (.lit (.int 461)))))
    .nil)
    .nil)
  (.cons (.ret (.tup (.cons (.bin .sub (.bin .mul (.bin .mod (.var 0) (.lit (.int 2))) (.lit (.int 2))) (.lit (.int 1))) (.cons (.call 4 (.cons (.call 3 (.cons (.var 0) (.cons (.lit (.int 2)) .nil))) .nil)) (.cons (.var 1) (.cons (.bin .mod (.call 3 (.cons (.var 0) (.cons (.lit (.int 4)) .nil))) (.lit (.int 12))) .nil))))))
  .nil)))
abbrev f_step : List (Str × Nat) := [("_law_mixed", 3), ("_law_hand", 4)]
theorem c_step : cS.cSl (cS (gm0 n_step (defScope s_step) f_step {}) false 60) (defBody s_step) = some b_step := by kernel_rfl
def F_step : Fn := fun i => match i with
  | 3 => d_mixed
  | 4 => d_hand
  | _ => fun _ _ => .err
def d_step : List D → Mem → Res D := run F_step n_step.length p_step.length b_step
/-! ### changed -/
abbrev s_changed : Stmt := topS 14
abbrev n_changed : List Str := ["_law_step_here", "_law_cell", "_law_side", "_law_hand_here", "_law_n", "_law_k", "_law_way"]
abbrev p_changed : List Str := ["_law_step_here", "_law_cell"]
theorem sc_changed : FnScope n_changed p_changed (defScope s_changed) := ⟨rfl, rfl, rfl, by decide +kernel, rfl, by decide +kernel, by decide +kernel⟩
def b_changed : ISs :=
  (.cons (.setT [2, 3, 4, 5] (.var 0))
  (.cons (.set 6 (.bin .mod (.var 1) (.lit (.int 5))))
  (.cons (.iff (.cmp .eq (.var 6) (.lit (.int 0)))
    (.cons (.ret (.tup (.cons (.bin .sub (.lit (.int 0)) (.var 2)) (.cons (.var 3) (.cons (.var 4) (.cons (.var 5) .nil))))))
    .nil)
    .nil)
  (.cons (.iff (.and (.cmp .eq (.var 6) (.lit (.int 1))) (.cmp .eq (.prim .len (.cons (.var 3) .nil)) (.lit (.int 8))))
    (.cons (.ret (.tup (.cons (.var 2) (.cons (.sli (.var 3) .none (.some (.lit (.int 7)))) (.cons (.var 4) (.cons (.var 5) .nil))))))
    .nil)
    .nil)
  (.cons (.iff (.cmp .eq (.var 6) (.lit (.int 1)))
    (.cons (.ret (.tup (.cons (.var 2) (.cons (.bin .add (.var 3) (.idx (.lit (.str "abz")) (.bin .mod (.bin .fdiv (.var 1) (.lit (.int 5))) (.lit (.int 3))))) (.cons (.var 4) (.cons (.var 5) .nil))))))
    .nil)
    .nil)
  (.cons (.iff (.cmp .eq (.var 6) (.lit (.int 2)))
    (.cons (.ret (.tup (.cons (.var 2) (.cons (.var 3) (.cons (.bin .add (.bin .mod (.var 4) (.lit (.int 999999999999))) (.lit (.int 1))) (.cons (.var 5) .nil))))))
    .nil)
    .nil)
  (.cons (.iff (.cmp .eq (.var 6) (.lit (.int 3)))
    (.cons (.ret (.tup (.cons (.var 2) (.cons (.var 3) (.cons (.var 4) (.cons (.bin .mod (.bin .add (.bin .add (.var 5) (.lit (.int 1))) (.bin .mod (.bin .fdiv (.var 1) (.lit (.int 5))) (.lit (.int 11)))) (.lit (.int 12))) .nil))))))
    .nil)
    .nil)
  (.cons (.ret (.call 5 (.cons (.bin .fdiv (.var 1) (.lit (.int 5))) .nil)))
  .nil))))))))
abbrev f_changed : List (Str × Nat) := [("_law_step", 5)]
theorem c_changed : cS.cSl (cS (gm0 n_changed (defScope s_changed) f_changed {}) false 60) (defBody s_changed) = some b_changed := by kernel_rfl
def F_changed : Fn := fun i => match i with
  | 5 => d_step
  | _ => fun _ _ => .err
def d_changed : List D → Mem → Res D := run F_changed n_changed.length p_changed.length b_changed
/-! ### next -/
abbrev s_next : Stmt := topS 15
abbrev n_next : List Str := ["_law_met", "_law_cell", "_law_way", "_law_one", "_law_number", "_law_at", "_law_step_here"]
abbrev p_next : List Str := ["_law_met", "_law_cell"]
theorem sc_next : FnScope n_next p_next (defScope s_next) := ⟨rfl, rfl, rfl, by decide +kernel, rfl, by decide +kernel, by decide +kernel⟩
def b_next : ISs :=
  (.cons (.set 2 (.bin .mod (.var 1) (.lit (.int 7))))
  (.cons (.iff (.or (.cmp .eq (.var 0) (.lst .nil)) (.cmp .eq (.var 2) (.lit (.int 0))))
    (.cons (.ret (.tup (.cons (.bin .add (.tup (.cons (.lit (.int 1)) .nil)) (.sli (.call 5 (.cons (.bin .fdiv (.var 1) (.lit (.int 7))) .nil)) (.some (.lit (.int 1))) .none)) .nil)))
    .nil)
    .nil)
  (.cons (.set 3 (.idx (.var 0) (.bin .mod (.bin .fdiv (.var 1) (.lit (.int 7))) (.prim .len (.cons (.var 0) .nil)))))
  (.cons (.set 4 (.call 3 (.cons (.var 1) (.cons (.lit (.int 3)) .nil))))
  (.cons (.set 5 (.bin .mod (.bin .fdiv (.var 4) (.lit (.int 7))) (.prim .len (.cons (.var 3) .nil))))
  (.cons (.iff (.cmp .lt (.var 2) (.lit (.int 4)))
    (.cons (.ret (.bin .add (.var 3) (.tup (.cons (.call 5 (.cons (.var 4) .nil)) .nil))))
    .nil)
    .nil)
  (.cons (.iff (.cmp .eq (.var 2) (.lit (.int 4)))
    (.cons (.ret (.sli (.var 3) .none (.some (.bin .add (.lit (.int 1)) (.var 5)))))
    .nil)
    .nil)
  (.cons (.iff (.cmp .eq (.var 2) (.lit (.int 5)))
    (.cons (.set 6 (.call 6 (.cons (.idx (.var 3) (.var 5)) (.cons (.var 4) .nil))))
    (.cons (.iff (.cmp .eq (.var 5) (.lit (.int 0)))
      (.cons (.set 6 (.bin .add (.tup (.cons (.lit (.int 1)) .nil)) (.sli (.var 6) (.some (.lit (.int 1))) .none)))
      .nil)
      .nil)
    (.cons (.ret (.bin .add (.bin .add (.sli (.var 3) .none (.some (.var 5))) (.tup (.cons (.var 6) .nil))) (.sli (.var 3) (.some (.bin .add (.var 5) (.lit (.int 1)))) .none)))
    .nil)))
    .nil)
  (.cons (.ret (.var 3))
  .nil)))))))))
abbrev f_next : List (Str × Nat) := [("_law_step", 5), ("_law_mixed", 3), ("_law_changed", 6)]
theorem c_next : cS.cSl (cS (gm0 n_next (defScope s_next) f_next {}) false 60) (defBody s_next) = some b_next := by kernel_rfl
def F_next : Fn := fun i => match i with
  | 5 => d_step
  | 3 => d_mixed
  | 6 => d_changed
  | _ => fun _ _ => .err
def d_next : List D → Mem → Res D := run F_next n_next.length p_next.length b_next
/-! ### is_before -/
abbrev s_is_before : Stmt := topS 16
abbrev n_is_before : List Str := ["_law_one", "_law_other", "_law_k"]
abbrev p_is_before : List Str := ["_law_one", "_law_other"]
theorem sc_is_before : FnScope n_is_before p_is_before (defScope s_is_before) := ⟨rfl, rfl, rfl, by decide +kernel, rfl, by decide +kernel, by decide +kernel⟩
def w_is_before_0 : ISs :=
  (.cons (.iff (.cmp .ne (.idx (.var 0) (.var 2)) (.idx (.var 1) (.var 2)))
    (.cons (.ret (.cmp .lt (.idx (.var 0) (.var 2)) (.idx (.var 1) (.var 2))))
    .nil)
    .nil)
  .nil)
def b_is_before : ISs :=
  (.cons (.forr (.name 2) (.rng1 (.prim .min (.cons (.prim .len (.cons (.var 0) .nil)) (.cons (.prim .len (.cons (.var 1) .nil)) .nil)))) w_is_before_0)
  (.cons (.iff (.cmp .lt (.prim .len (.cons (.var 0) .nil)) (.prim .len (.cons (.var 1) .nil)))
    (.cons (.ret (.cmp .eq (.idx (.idx (.var 1) (.prim .len (.cons (.var 0) .nil))) (.lit (.int 0))) (.lit (.int 1))))
    .nil)
    .nil)
  (.cons (.ret (.and (.cmp .gt (.prim .len (.cons (.var 0) .nil)) (.prim .len (.cons (.var 1) .nil))) (.cmp .eq (.idx (.idx (.var 0) (.prim .len (.cons (.var 1) .nil))) (.lit (.int 0))) (.neg (.lit (.int 1))))))
  .nil)))
abbrev f_is_before : List (Str × Nat) := []
theorem c_is_before : cS.cSl (cS (gm0 n_is_before (defScope s_is_before) f_is_before {}) false 60) (defBody s_is_before) = some b_is_before := by kernel_rfl
def F_is_before : Fn := fun i => match i with
  | _ => fun _ _ => .err
def d_is_before : List D → Mem → Res D := run F_is_before n_is_before.length p_is_before.length b_is_before
/-! ### refused -/
abbrev s_refused : Stmt := topS 17
abbrev n_refused : List Str := ["_law_left", "_law_right", "_law_fault", "e"]
abbrev p_refused : List Str := ["_law_left", "_law_right"]
theorem sc_refused : FnScope n_refused p_refused (defScope s_refused) := ⟨rfl, rfl, rfl, by decide +kernel, rfl, by decide +kernel, by decide +kernel⟩
def b_refused : ISs :=
  (.cons (.set 2 (.lit .non))
  (.cons (.tryx (.call 2 (.cons (.var 0) (.cons (.var 1) .nil))) [("NoPlace", true)] 3
    (.cons (.set 2 (.var 3))
    .nil))
  (.cons (.iff (.or (.not (.prim (.isx [("NoPlace", true)]) (.cons (.var 2) .nil))) (.not (.prim (.isx [("NoPlace", true)]) (.cons (.var 2) .nil))))
    (.cons (.ret (.lit (.bl false)))
    .nil)
    .nil)
  (.cons (.iff (.or (.prim (.isx [("NoPlace", false)]) (.cons (.var 2) .nil)) (.or (.prim (.isx [("NoPlace", false)]) (.cons (.var 2) .nil)) (.prim (.isx [("NoPlace", false)]) (.cons (.var 2) .nil))))
    (.cons (.ret (.lit (.bl false)))
    .nil)
    .nil)
  (.cons (.ret (.and (.cmp .eq (.attr (.var 2) "place" ["NoPlace"]) (.var 0)) (.prim (.isa "tuple") (.cons (.attr (.var 2) "place" ["NoPlace"]) .nil))))
  .nil)))))
abbrev f_refused : List (Str × Nat) := [("gap", 2)]
theorem c_refused : cS.cSl (cS (gm0 n_refused (defScope s_refused) f_refused ec) false 60) (defBody s_refused) = some b_refused := by kernel_rfl
def F_refused : Fn := fun i => match i with
  | 2 => d_gap
  | _ => fun _ _ => .err
def d_refused : List D → Mem → Res D := run F_refused n_refused.length p_refused.length b_refused
/-! ### given -/
abbrev s_given : Stmt := topS 18
abbrev n_given : List Str := ["_law_left", "_law_right", "_law_name", "_law_found", "_law_due", "_law_place", "_law_k"]
abbrev p_given : List Str := ["_law_left", "_law_right", "_law_name"]
theorem sc_given : FnScope n_given p_given (defScope s_given) := ⟨rfl, rfl, rfl, by decide +kernel, rfl, by decide +kernel, by decide +kernel⟩
def w_given_0 : ISs :=
  (.cons (.iff (.or (.not (.call 8 (.cons (.var 0) (.cons (.var 5) .nil)))) (.not (.call 1 (.cons (.var 0) (.cons (.var 5) .nil)))))
    (.cons (.ret (.lit (.bl false)))
    .nil)
    .nil)
  (.cons (.iff (.and (.cmp .notN (.var 1) (.lit .non)) (.not (.and (.call 8 (.cons (.var 5) (.cons (.var 1) .nil))) (.call 1 (.cons (.var 5) (.cons (.var 1) .nil))))))
    (.cons (.ret (.lit (.bl false)))
    .nil)
    .nil)
  (.cons (.set 0 (.var 5))
  (.cons (.set 5 (.bin .add (.var 5) (.tup (.cons (.tup (.cons (.lit (.int 1)) (.cons (.idx (.var 2) (.lit (.int 0))) (.cons (.idx (.var 2) (.lit (.int 1))) (.cons (.bin .add (.var 6) (.lit (.int 1))) .nil))))) .nil))))
  .nil))))
def b_given : ISs :=
  (.cons (.iff (.and (.cmp .notN (.var 1) (.lit .non)) (.not (.call 8 (.cons (.var 0) (.cons (.var 1) .nil)))))
    (.cons (.ret (.call 9 (.cons (.var 0) (.cons (.var 1) .nil))))
    .nil)
    .nil)
  (.cons (.set 3 (.call 2 (.cons (.var 0) (.cons (.var 1) .nil))))
  (.cons (.set 4 (.tup (.cons (.var 0) (.cons (.lit (.int 1)) .nil))))
  (.cons (.iff (.and (.cmp .notN (.var 1) (.lit .non)) (.cmp .eq (.sli (.var 1) .none (.some (.prim .len (.cons (.var 0) .nil)))) (.var 0)))
    (.cons (.set 4 (.tup (.cons (.var 1) (.cons (.neg (.lit (.int 1))) .nil))))
    .nil)
    .nil)
  (.cons (.iff (.or (.not (.prim (.isa "tuple") (.cons (.var 3) .nil))) (.or (.cmp .ne (.var 3) (.var 4)) (.prim (.isa "bool") (.cons (.idx (.var 3) (.lit (.int 1))) .nil))))
    (.cons (.ret (.lit (.bl false)))
    .nil)
    .nil)
  (.cons (.set 5 (.bin .add (.idx (.var 4) (.lit (.int 0))) (.tup (.cons (.tup (.cons (.idx (.var 4) (.lit (.int 1))) (.cons (.idx (.var 2) (.lit (.int 0))) (.cons (.idx (.var 2) (.lit (.int 1))) (.cons (.lit (.int 0)) .nil))))) .nil))))
  (.cons (.forr (.name 6) (.rng1 (.lit (.int 3))) w_given_0)
  (.cons (.ret (.lit (.bl true)))
  .nil))))))))
abbrev f_given : List (Str × Nat) := [("_law_is_before", 8), ("_law_refused", 9), ("gap", 2), ("before", 1)]
theorem c_given : cS.cSl (cS (gm0 n_given (defScope s_given) f_given {}) false 60) (defBody s_given) = some b_given := by kernel_rfl
def F_given : Fn := fun i => match i with
  | 8 => d_is_before
  | 9 => d_refused
  | 2 => d_gap
  | 1 => d_before
  | _ => fun _ _ => .err
def d_given : List D → Mem → Res D := run F_given n_given.length p_given.length b_given
/-! ### law -/
abbrev s_law : Stmt := topS 19
abbrev n_law : List Str := ["_law_script", "_law_met", "_law_cell", "_law_k", "_law_number", "_law_left", "_law_right"]
abbrev p_law : List Str := ["_law_script"]
theorem sc_law : FnScope n_law p_law (defScope s_law) := ⟨rfl, rfl, rfl, by decide +kernel, rfl, by decide +kernel, by decide +kernel⟩
def w_law_1 : ISs :=
  (.cons (.set 4 (.call 3 (.cons (.idx (.var 0) (.var 3)) (.cons (.lit (.int 1)) .nil))))
  (.cons (.set 5 (.idx (.var 1) (.var 3)))
  (.cons (.set 6 (.idx (.var 1) (.bin .mod (.bin .add (.bin .fdiv (.var 4) (.lit (.int 12))) (.var 3)) (.prim .len (.cons (.var 1) .nil)))))
  (.cons (.iff (.cmp .eq (.bin .mod (.var 4) (.lit (.int 2))) (.lit (.int 1)))
    (.cons (.set 5 (.idx (.var 1) (.bin .mod (.bin .add (.bin .fdiv (.var 4) (.lit (.int 12))) (.var 3)) (.prim .len (.cons (.var 1) .nil)))))
    (.cons (.set 6 (.idx (.var 1) (.var 3)))
    .nil))
    .nil)
  (.cons (.iff (.cmp .eq (.bin .mod (.bin .fdiv (.var 4) (.lit (.int 2))) (.lit (.int 6))) (.lit (.int 4)))
    (.cons (.set 5 (.tup .nil))
    .nil)
    .nil)
  (.cons (.iff (.or (.cmp .eq (.bin .mod (.bin .fdiv (.var 4) (.lit (.int 2))) (.lit (.int 6))) (.lit (.int 5))) (.cmp .eq (.bin .mod (.bin .mod (.var 4) (.lit (.int 2000003))) (.lit (.int 36))) (.lit (.int 7))))
    (.cons (.set 6 (.lit .non))
    .nil)
    .nil)
  (.cons (.iff (.not (.call 10 (.cons (.var 5) (.cons (.var 6) (.cons (.tup (.cons (.call 4 (.cons (.var 4) .nil)) (.cons (.bin .add (.lit (.int 1)) (.bin .fdiv (.var 4) (.lit (.int 5)))) .nil))) .nil)))))
    (.cons (.ret (.lit (.bl false)))
    .nil)
    .nil)
  .nil)))))))
def w_law_0 : ISs :=
  (.cons (.app (.var 1) (.call 7 (.cons (.var 1) (.cons (.var 2) .nil))))
  .nil)
def b_law : ISs :=
  (.cons (.newl 1 .nil)
  (.cons (.forr (.name 2) (.seq (.sli (.var 0) .none (.some (.lit (.int 40))))) w_law_0)
  (.cons (.forr (.name 3) (.rng1 (.prim .len (.cons (.var 1) .nil))) w_law_1)
  (.cons (.ret (.cmp .eq (.call 2 (.cons (.tup .nil) (.cons (.lit .non) .nil))) (.tup (.cons (.tup .nil) (.cons (.lit (.int 1)) .nil)))))
  .nil))))
abbrev f_law : List (Str × Nat) := [("_law_next", 7), ("_law_mixed", 3), ("_law_given", 10), ("_law_hand", 4), ("gap", 2)]
theorem c_law : cS.cSl (cS (gm0 n_law (defScope s_law) f_law {}) false 60) (defBody s_law) = some b_law := by kernel_rfl
def F_law : Fn := fun i => match i with
  | 7 => d_next
  | 3 => d_mixed
  | 10 => d_given
  | 4 => d_hand
  | 2 => d_gap
  | _ => fun _ _ => .err
def d_law : List D → Mem → Res D := run F_law n_law.length p_law.length b_law
/-! ### all of them -/
section
variable {P : Program} {w : World} {K : PySem.W.Frag} {mg : Str → Option Value} {base : Heap}
structure Txt (P : Program) (w : World) (K : PySem.W.Frag) (mg : Str → Option Value) : Prop where
  bl : ∀ x ∈ blts, mg x = none
  a_place_key : DefAt K mg "place_key" s_place_key p_place_key
  a_before : DefAt K mg "before" s_before p_before
  a_gap : DefAt K mg "gap" s_gap p_gap
  a_mixed : DefAt K mg "_law_mixed" s_mixed p_mixed
  a_hand : DefAt K mg "_law_hand" s_hand p_hand
  a_step : DefAt K mg "_law_step" s_step p_step
  a_changed : DefAt K mg "_law_changed" s_changed p_changed
  a_next : DefAt K mg "_law_next" s_next p_next
  a_is_before : DefAt K mg "_law_is_before" s_is_before p_is_before
  a_refused : DefAt K mg "_law_refused" s_refused p_refused
  a_given : DefAt K mg "_law_given" s_given p_given
  a_law : DefAt K mg "law" s_law p_law
  ec : ∀ base : Heap, EcsOk P w K mg base 2 ec
theorem ok_place_key (T : Txt P w K mg) : Callee P w K mg base 1 d_place_key "place_key" := def_callee T.a_place_key sc_place_key c_place_key T.bl call0 .nil
theorem ok_before (T : Txt P w K mg) : Callee P w K mg base 2 d_before "before" := def_callee T.a_before sc_before c_before T.bl (call2 ((ok_place_key T).mono (by decide)) call0) .nil
theorem ok_gap (T : Txt P w K mg) : Callee P w K mg base 3 d_gap "gap" := def_callee T.a_gap sc_gap c_gap T.bl (call2 ((ok_before T).mono (by decide)) call0) (T.ec base)
theorem ok_mixed (T : Txt P w K mg) : Callee P w K mg base 1 d_mixed "_law_mixed" := def_callee T.a_mixed sc_mixed c_mixed T.bl call0 .nil
theorem ok_hand (T : Txt P w K mg) : Callee P w K mg base 1 d_hand "_law_hand" := def_callee T.a_hand sc_hand c_hand T.bl call0 .nil
theorem ok_step (T : Txt P w K mg) : Callee P w K mg base 2 d_step "_law_step" := def_callee T.a_step sc_step c_step T.bl (call2 ((ok_mixed T).mono (by decide)) (call2 ((ok_hand T).mono (by decide)) call0)) .nil
theorem ok_changed (T : Txt P w K mg) : Callee P w K mg base 3 d_changed "_law_changed" := def_callee T.a_changed sc_changed c_changed T.bl (call2 ((ok_step T).mono (by decide)) call0) .nil
theorem ok_next (T : Txt P w K mg) : Callee P w K mg base 4 d_next "_law_next" := def_callee T.a_next sc_next c_next T.bl (call2 ((ok_step T).mono (by decide)) (call2 ((ok_mixed T).mono (by decide)) (call2 ((ok_changed T).mono (by decide)) call0))) .nil
theorem ok_is_before (T : Txt P w K mg) : Callee P w K mg base 1 d_is_before "_law_is_before" := def_callee T.a_is_before sc_is_before c_is_before T.bl call0 .nil
theorem ok_refused (T : Txt P w K mg) : Callee P w K mg base 4 d_refused "_law_refused" := def_callee T.a_refused sc_refused c_refused T.bl (call2 ((ok_gap T).mono (by decide)) call0) ((T.ec base).mono (by decide))
theorem ok_given (T : Txt P w K mg) : Callee P w K mg base 5 d_given "_law_given" := def_callee T.a_given sc_given c_given T.bl (call2 ((ok_is_before T).mono (by decide)) (call2 ((ok_refused T).mono (by decide)) (call2 ((ok_gap T).mono (by decide)) (call2 ((ok_before T).mono (by decide)) call0)))) .nil
theorem ok_law (T : Txt P w K mg) : Callee P w K mg base 6 d_law "law" := def_callee T.a_law sc_law c_law T.bl (call2 ((ok_next T).mono (by decide)) (call2 ((ok_mixed T).mono (by decide)) (call2 ((ok_given T).mono (by decide)) (call2 ((ok_hand T).mono (by decide)) (call2 ((ok_gap T).mono (by decide)) call0))))) .nil
theorem law_fn (T : Txt P w K mg) {f : Addr} {fd : FuncData} (Fu : Fun K "law" "law" s_law f fd) : FnOk P w K mg base (L2.CX P w) 6 f fd p_law (spD K d_law) := def_ok Fu sc_law c_law T.bl (fun x i h => ((call2 ((ok_next T).mono (by decide)) (call2 ((ok_mixed T).mono (by decide)) (call2 ((ok_given T).mono (by decide)) (call2 ((ok_hand T).mono (by decide)) (call2 ((ok_gap T).mono (by decide)) call0))))) : ∀ q ∈ f_law, Callee P w K mg base 5 (F_law q.2) q.1) (x, i) (PySem.mem_of_lookup h)) .nil
end
end K33
namespace K33
open PySem PySem.Spec PyProof.Rows L2 Cm
local macro_rules | `(tactic| walk_at "ev") => `(tactic| simp only [Cm.run, startD, iexs, ix_set, ix_newl, ix_expr, ix_ret, ix_iff, ix_for, ix_aug, ix_rais, iev, ievs, ievo, items, Res.bind_ok, Res.bind_err, Res.bind_exc, Res.of_some, Res.of_none, asB_bl, slot_zero, slot_succ, set_zero, set_succ,
  bop_add_int, bop_sub_int, cop_lt, cop_le, cop_gt, cop_ge, dlt_int, dle_int, dgt_int, dge_int, cop_eq_int, cop_ne_int, cop_isN, cop_notN, min_int, max_int, len_tup, len_lst, idx_tup, idx_lst, sli_tup, sli_lst, if_t, if_f,
  List.length_cons, List.length_nil, List.map_cons, List.map_nil, List.replicate, Nat.reduceAdd, Nat.reduceSub, Nat.zero_add, List.nil_append, List.cons_append, List.append_nil, if_true, reduceIte, Option.map_some, Option.map_none, Int.reduceLT, bop_fdiv, bop_mod, bop_mul_r, Int.reduceNeg, Bool.not_true, Bool.not_false])
abbrev Stp := Int × Str × Int × Int
def dS (s : Stp) : D := .tup [.int s.1, .str s.2.1, .int s.2.2.1, .int s.2.2.2]
def dP (p : List Stp) : D := .tup (p.map dS)
def gS (x : Str) : Prop := x.cps.size ≤ 8 ∧ ∀ c ∈ x.cps.toList, c < 1114112
def gSt (s : Stp) : Prop := (s.1 = 1 ∨ s.1 = -1) ∧ gS s.2.1
def gP (p : List Stp) : Prop := ∀ s ∈ p, gSt s
theorem place_key_ev (p : List Stp) (M : Mem) (h : p.length < 1000) : d_place_key [dP p] M = .ok (.tup (p.map dS ++ [.tup [.int 0]])) M := by
  unfold d_place_key b_place_key dP
  walk_at "ev"
  rw [small_ok (by simp), if_t]
  walk_at "ev"
  rw [small_ok (by simp), if_t]
  walk_at "ev"
  rw [bop_add_tup (by simp; omega)]
  walk_at "ev"
theorem mixed_ev (c k : Int) (hk : 0 ≤ k ∧ k < 100) (M : Mem) : ∃ m, d_mixed [.int c, .int k] M = .ok (.int m) M ∧ 0 ≤ m ∧ m < 2147483647 := by
  unfold d_mixed b_mixed
  walk_at "ev"
  rw [bop_mul_l (by decide) (by decide)]
  walk_at "ev"
  have h1 := Int.emod_nonneg ((c + 7919 * k + 1) * 48271) (b := 2147483647) (by decide)
  have h2 := Int.emod_lt_of_pos ((c + 7919 * k + 1) * 48271) (b := 2147483647) (by decide)
  generalize (c + 7919 * k + 1) * 48271 % 2147483647 = x at *
  rw [bop_mul_l (by omega) (by omega)]
  walk_at "ev"
  exact ⟨_, rfl, Int.emod_nonneg _ (by decide), Int.emod_lt_of_pos _ (by decide)⟩
theorem pick (x : Str) (k : Int) (h0 : 0 ≤ k) (h : k < x.cps.size) (hs : x.cps.size ≤ 1000) (M : Mem) : ∃ c, idx M (.str x) (.int k) = some (.str ⟨#[c]⟩) ∧ c ∈ x.cps.toList := by
  have hl : x.length ≤ 16777216 := by show x.cps.size ≤ _; omega
  rw [idx_str hl, atI_pos h0 (by omega)]
  have hk : k.toNat < x.cps.toList.length := by simp; omega
  exact ⟨x.cps.toList[k.toNat], by rw [List.getElem?_eq_getElem hk]; rfl, List.getElem_mem hk⟩
theorem abc_size : (("abcdefghijklmnopqrstuvwxyz" : Str)).cps.size = 26 := by decide +kernel
theorem abc_ok : ∀ c ∈ (("abcdefghijklmnopqrstuvwxyz" : Str)).cps.toList, c < 1114112 := by decide +kernel
theorem abz_size : (("abz" : Str)).cps.size = 3 := by decide +kernel
theorem abz_ok : ∀ c ∈ (("abz" : Str)).cps.toList, c < 1114112 := by decide +kernel
theorem aaa (n : Int) (h1 : 1 ≤ n) (h2 : n ≤ 8) : gS (Txt.mul ("a" : Str) n) := by
  have : n = 1 ∨ n = 2 ∨ n = 3 ∨ n = 4 ∨ n = 5 ∨ n = 6 ∨ n = 7 ∨ n = 8 := by omega
  unfold gS
  rcases this with rfl | rfl | rfl | rfl | rfl | rfl | rfl | rfl <;> exact ⟨by decide +kernel, by decide +kernel⟩
theorem one_ok {c : Nat} (h : c < 1114112) : gS ⟨#[c]⟩ := ⟨by simp, fun d hd => by simp at hd; omega⟩
theorem hand_ev (c : Int) (hc : 0 ≤ c ∧ c < 4294967296) (M : Mem) : ∃ x, d_hand [.int c] M = .ok (.str x) M ∧ gS x := by
  unfold d_hand b_hand
  walk_at "ev"
  by_cases h1 : c % 4 < 2
  · rw [decide_eq_true h1]
    walk_at "ev"
    obtain ⟨d, e1, e2⟩ := pick "abcdefghijklmnopqrstuvwxyz" (c / 4 % 3) (Int.emod_nonneg _ (by decide)) (by rw [abc_size]; have := Int.emod_lt_of_pos (c / 4) (b := 3) (by decide); omega) (by rw [abc_size]; decide) M
    rw [e1]
    walk_at "ev"
    exact ⟨_, rfl, one_ok (abc_ok d e2)⟩
  · rw [decide_eq_false h1]
    walk_at "ev"
    have h8 := Int.emod_nonneg (c / 4) (b := 8) (by decide)
    have h9 := Int.emod_lt_of_pos (c / 4) (b := 8) (by decide)
    by_cases h2 : c % 4 = 2
    · rw [decide_eq_true h2]
      walk_at "ev"
      have e : bop .mul (.str "a") (.int (1 + c / 4 % 8)) = some (.str (Txt.mul "a" (1 + c / 4 % 8))) := by
        have hm : strMulOk "a" (1 + c / 4 % 8) = true := decide_eq_true ⟨by omega, by omega, by decide +kernel⟩
        simp only [bop]
        rw [if_pos hm]
      rw [e]
      walk_at "ev"
      exact ⟨_, rfl, aaa _ (by omega) (by omega)⟩
    · rw [decide_eq_false h2]
      walk_at "ev"
      rw [small62_ok (by omega) (by omega)]
      walk_at "ev"
      obtain ⟨σ', M', e, hI⟩ := forL_inv (B := bodyOf F_hand w_hand_0) (t := .name 4) (ds := rngL 0 (1 + c / 4 % 8).toNat) (σ := [some (.int c), some (.str "abcdefghijklmnopqrstuvwxyz"), some (.str ""), some (.int (c / 32)), none]) (M := M)
        (fun i σ M' => M' = M ∧ ∃ x r y, σ = [some (.int c), some (.str "abcdefghijklmnopqrstuvwxyz"), some (.str x), some (.int r), y] ∧ x.cps.size ≤ i ∧ ∀ d ∈ x.cps.toList, d < 1114112)
        ⟨rfl, _, _, _, rfl, by decide +kernel, by decide +kernel⟩ (fun i d σ M' hd hI => by
          obtain ⟨rfl, x, r, y, rfl, hx, hx2⟩ := hI
          obtain ⟨hi, rfl⟩ := rng_get hd
          obtain ⟨d, e1, e2⟩ := pick "abcdefghijklmnopqrstuvwxyz" (r % 26) (Int.emod_nonneg _ (by decide)) (by rw [abc_size]; have := Int.emod_lt_of_pos r (b := 26) (by decide); omega) (by rw [abc_size]; decide) M'
          have sz : (x ++ (⟨#[d]⟩ : Str)).cps.size = x.cps.size + 1 := by show (x.cps ++ #[d]).size = _; simp
          have turn : bodyOf F_hand w_hand_0 [some (.int c), some (.str "abcdefghijklmnopqrstuvwxyz"), some (.str x), some (.int r), some (.int (0 + (i : Nat)))] M' =
              .ok (.nx [some (.int c), some (.str "abcdefghijklmnopqrstuvwxyz"), some (.str (x ++ ⟨#[d]⟩)), some (.int (r / 26)), some (.int (0 + (i : Nat)))]) M' := by
            unfold bodyOf w_hand_0
            walk_at "ev"
            rw [e1]
            walk_at "ev"
            rw [bop_add_str (by show x.cps.size + 1 ≤ _; omega)]
            walk_at "ev"
          refine ⟨_, rfl, _, M', .inl turn, rfl, _, _, _, rfl, by omega, fun b hb => ?_⟩
          have hb' : b ∈ (x.cps ++ #[d]).toList := hb
          simp at hb'
          rcases hb' with hb' | rfl
          · exact hx2 b (by simpa using hb')
          · exact abc_ok _ e2)
      rw [e]
      obtain ⟨rfl, x, r, y, rfl, hx, hx2⟩ := hI
      walk_at "ev"
      rw [rng_len] at hx
      exact ⟨x, rfl, by omega, hx2⟩
theorem step_ev (c : Int) (M : Mem) : ∃ st : Stp, d_step [.int c] M = .ok (dS st) M ∧ gSt st := by
  obtain ⟨m3, e3, a3, b3⟩ := mixed_ev c 3 (by decide) M
  obtain ⟨m5, e5, a5, b5⟩ := mixed_ev c 5 (by decide) M
  obtain ⟨m2, e2, a2, b2⟩ := mixed_ev c 2 (by decide) M
  obtain ⟨m4, e4, a4, b4⟩ := mixed_ev c 4 (by decide) M
  obtain ⟨x, ex, gx⟩ := hand_ev m2 ⟨a2, by omega⟩ M
  have side : (c % 2 * 2 - 1 = 1 ∨ c % 2 * 2 - 1 = -1) := by
    have := Int.emod_two_eq c
    omega
  unfold d_step b_step
  walk_at "ev"
  simp only [F_step]
  rw [e3]
  walk_at "ev"
  by_cases h : c / 2 % 4 = 3
  · rw [decide_eq_true h]
    walk_at "ev"
    rw [e5]
    walk_at "ev"
    rw [e2]
    walk_at "ev"
    rw [ex]
    walk_at "ev"
    rw [e4]
    walk_at "ev"
    rw [small_ok (by simp), if_t]
    walk_at "ev"
    exact ⟨(_, x, _, _), rfl, side, gx⟩
  · rw [decide_eq_false h]
    walk_at "ev"
    rw [e2]
    walk_at "ev"
    rw [ex]
    walk_at "ev"
    rw [e4]
    walk_at "ev"
    rw [small_ok (by simp), if_t]
    walk_at "ev"
    exact ⟨(_, x, _, _), rfl, side, gx⟩
theorem put4 (a b c d : D) (x0 x1 x2 x3 x4 x5 x6 : Option D) : put (.tup [2, 3, 4, 5]) (.tup [a, b, c, d]) [x0, x1, x2, x3, x4, x5, x6] = some [x0, x1, some a, some b, some c, some d, x6] := rfl
theorem ix_setT' (F : Fn) (σ : Slots) (M : Mem) (is : List Nat) (e : IE) {d : D} {σ' : Slots} (h1 : iev F e σ M = .ok d M) (h2 : put (.tup is) d σ = some σ') : iex F (.setT is e) σ M = .ok (.nx σ') M := by
  rw [ix_setT, h1, Res.bind_ok, h2]
theorem changed_ev (s : Stp) (hs : gSt s) (c : Int) (M : Mem) : ∃ st : Stp, d_changed [dS s, .int c] M = .ok (dS st) M ∧ gSt st := by
  obtain ⟨sd, x, n, k⟩ := s
  obtain ⟨h1, h2, h3⟩ := hs
  simp only at h1 h2 h3
  have hx : x.length ≤ 16777216 := by show x.cps.size ≤ _; omega
  unfold d_changed b_changed
  simp only [Cm.run, startD, iexs, List.length_cons, List.length_nil, List.map_cons, List.map_nil, List.replicate, Nat.reduceAdd, Nat.reduceSub, List.cons_append, List.nil_append, reduceIte, Nat.zero_add]
  rw [ix_setT' (d := .tup [.int sd, .str x, .int n, .int k]) (σ' := [some (dS (sd, x, n, k)), some (.int c), some (.int sd), some (.str x), some (.int n), some (.int k), none]) F_changed _ M _ _ (by simp only [iev, slot_zero]; rfl) rfl]
  walk_at "ev"
  by_cases w0 : c % 5 = 0
  · rw [decide_eq_true w0]
    walk_at "ev"
    rw [small_ok (by simp), if_t]
    walk_at "ev"
    exact ⟨(0 - sd, x, n, k), rfl, by simp only; omega, h2, h3⟩
  rw [decide_eq_false w0]
  walk_at "ev"
  by_cases w1 : c % 5 = 1
  · rw [decide_eq_true w1]
    walk_at "ev"
    rw [len_str hx]
    walk_at "ev"
    by_cases w8 : (x.length : Int) = 8
    · rw [decide_eq_true w8]
      walk_at "ev"
      rw [sli_str hx]
      walk_at "ev"
      rw [small_ok (by simp), if_t]
      walk_at "ev"
      refine ⟨(sd, cutS x none (some 7), n, k), rfl, h1, ?_, fun d hd => ?_⟩
      · unfold cutS
        simp
        omega
      · unfold cutS at hd
        simp only [List.toList_toArray] at hd
        have := List.mem_of_mem_take hd
        exact h3 d (List.mem_of_mem_drop this)
    · rw [decide_eq_false w8]
      walk_at "ev"
      rw [decide_eq_true w1]
      walk_at "ev"
      obtain ⟨d, e1, e2⟩ := pick "abz" (c / 5 % 3) (Int.emod_nonneg _ (by decide)) (by rw [abz_size]; have := Int.emod_lt_of_pos (c / 5) (b := 3) (by decide); omega) (by rw [abz_size]; decide) M
      rw [e1]
      walk_at "ev"
      rw [bop_add_str (by show x.cps.size + 1 ≤ _; omega)]
      walk_at "ev"
      rw [small_ok (by simp), if_t]
      walk_at "ev"
      refine ⟨(sd, x ++ ⟨#[d]⟩, n, k), rfl, h1, ?_, fun b hb => ?_⟩
      · have : x.length ≠ 8 := by omega
        have w : x.cps.size ≠ 8 := this
        show (x.cps ++ #[d]).size ≤ 8
        simp
        omega
      · have hb' : b ∈ (x.cps ++ #[d]).toList := hb
        simp at hb'
        rcases hb' with hb' | rfl
        · exact h3 b (by simpa using hb')
        · exact abz_ok _ e2
  rw [decide_eq_false w1]
  walk_at "ev"
  rw [decide_eq_false w1]
  walk_at "ev"
  by_cases w2 : c % 5 = 2
  · rw [decide_eq_true w2]
    walk_at "ev"
    rw [small_ok (by simp), if_t]
    walk_at "ev"
    exact ⟨(sd, x, _, k), rfl, h1, h2, h3⟩
  rw [decide_eq_false w2]
  walk_at "ev"
  by_cases w3 : c % 5 = 3
  · rw [decide_eq_true w3]
    walk_at "ev"
    rw [small_ok (by simp), if_t]
    walk_at "ev"
    exact ⟨(sd, x, n, _), rfl, h1, h2, h3⟩
  rw [decide_eq_false w3]
  walk_at "ev"
  simp only [F_changed]
  obtain ⟨st, e, g⟩ := step_ev (c / 5) M
  rw [e]
  walk_at "ev"
  exact ⟨st, rfl, g⟩
end K33
namespace K33
open PySem PySem.Spec PyProof.Rows L2 Cm PySem.W
def pS (s : Stp) : PyData := .tuple [.int s.1, .str s.2.1, .int s.2.2.1, .int s.2.2.2]
def pP (p : List Stp) : PyData := .tuple (p.map pS)
theorem py_S (s : Stp) : toPy (dS s) = some (pS s) := by simp [dS, pS, toPy, toPys]
theorem py_Ss : ∀ p : List Stp, toPys (p.map dS) = some (p.map pS)
  | [] => rfl
  | s :: r => by simp [toPys, py_S, py_Ss r]
theorem py_P (p : List Stp) : toPy (dP p) = some (pP p) := by simp [dP, pP, toPy, py_Ss]
theorem py_Ps : ∀ p : List (List Stp), toPys (p.map dP) = some (p.map pP)
  | [] => rfl
  | s :: r => by simp [toPys, py_P, py_Ps r]
theorem strOk_of {x : Str} (h : gS x) : PyData.strOk x = true := by
  unfold PyData.strOk
  rw [Array.all_eq_true]
  intro i hi
  have := h.2 x.cps[i] (by simp)
  simpa using this
theorem lay_S {s : Stp} (h : gSt s) : (pS s).canLay0 = true := by simp [pS, PyData.canLay0, PyData.canLayAll0, strOk_of h.2]
theorem lay_Ss : ∀ {p : List Stp}, gP p → PyData.canLayAll0 (p.map pS) = true
  | [], _ => rfl
  | s :: r, h => by
    simp only [List.map_cons, PyData.canLayAll0, Bool.and_eq_true]
    exact ⟨lay_S (h s (by simp)), lay_Ss fun t ht => h t (by simp [ht])⟩
theorem lay_P {p : List Stp} (h : gP p) : (pP p).canLay0 = true := by simp [pP, PyData.canLay0, lay_Ss h]
theorem lay_Ps : ∀ {p : List (List Stp)}, (∀ q ∈ p, gP q) → PyData.canLayAll0 (p.map pP) = true
  | [], _ => rfl
  | s :: r, h => by
    simp only [List.map_cons, PyData.canLayAll0, Bool.and_eq_true]
    exact ⟨lay_P (h s (by simp)), lay_Ps fun t ht => h t (by simp [ht])⟩
theorem dep_S (s : Stp) : (pS s).depth = 1 := by simp [pS, PyData.depth, PyData.depthAll]
theorem dep_Ss : ∀ p : List Stp, PyData.depthAll (p.map pS) ≤ 1
  | [] => Nat.zero_le _
  | s :: r => by
    simp only [List.map_cons, PyData.depthAll, dep_S]
    have := dep_Ss r
    omega
theorem dep_P (p : List Stp) : (pP p).depth ≤ 2 := by
  simp only [pP, PyData.depth]
  have := dep_Ss p
  omega
theorem dep_Ps : ∀ p : List (List Stp), PyData.depthAll (p.map pP) ≤ 2
  | [] => Nat.zero_le _
  | s :: r => by
    simp only [List.map_cons, PyData.depthAll]
    have := dep_Ps r
    have := dep_P s
    omega
theorem eqv_S (a b : Stp) : PyData.eqv (pS a) (pS b) = decide (a = b) := by
  obtain ⟨a1, a2, a3, a4⟩ := a
  obtain ⟨b1, b2, b3, b4⟩ := b
  rw [Bool.eq_iff_iff]
  simp [pS, PyData.eqv, PyData.eqvAll]
theorem eqv_Ss : ∀ p q : List Stp, PyData.eqvAll (p.map pS) (q.map pS) = decide (p = q)
  | [], [] => rfl
  | [], _ :: _ => by simp [PyData.eqvAll]
  | _ :: _, [] => by simp [PyData.eqvAll]
  | a :: p, b :: q => by
    rw [Bool.eq_iff_iff]
    simp [PyData.eqvAll, eqv_S, eqv_Ss p q]
theorem shp_P {p : List Stp} (h : gP p) : SeqAt.shaped (pP p) = true := by
  unfold SeqAt.shaped
  rw [lay_P h, decide_eq_true (by have := dep_P p; omega)]
  rfl
theorem shp_S {s : Stp} (h : gSt s) : SeqAt.shaped (pS s) = true := by
  unfold SeqAt.shaped
  rw [lay_S h, decide_eq_true (by rw [dep_S]; omega)]
  rfl
theorem eq_P (M : Mem) {p q : List Stp} (hp : gP p) (hq : gP q) : cop M .eq (dP p) (dP q) = some (decide (p = q)) := by
  have e1 : drf M (dP p) = dP p := rfl
  have e2 : drf M (dP q) = dP q := rfl
  simp only [cop, deq, e1, e2, py_P, Option.bind_some, shp_P hp, shp_P hq, and_self, if_true]
  simp only [pP, PyData.eqv, eqv_Ss]
theorem ne_S (M : Mem) {p q : Stp} (hp : gSt p) (hq : gSt q) : cop M .ne (dS p) (dS q) = some (!decide (p = q)) := by
  have e1 : drf M (dS p) = dS p := rfl
  have e2 : drf M (dS q) = dS q := rfl
  simp only [cop, deq, e1, e2, py_S, Option.bind_some, shp_S hp, shp_S hq, and_self, if_true, eqv_S, Option.map_some]
theorem eq_nil (M : Mem) {n : Nat} {ps : List (List Stp)} (hn : M[n]? = some (.lst (ps.map dP))) (hp : ∀ q ∈ ps, gP q) : cop M .eq (.ref n) (.lst []) = some (decide (ps = [])) := by
  have d1 : (PyData.list (ps.map pP)).depth ≤ 64 := by
    simp only [PyData.depth]
    have := dep_Ps ps
    omega
  have l1 : (PyData.list (ps.map pP)).canLay0 = true := by simp only [PyData.canLay0, lay_Ps hp]
  have s1 : SeqAt.shaped (.list (ps.map pP)) = true := by
    unfold SeqAt.shaped
    rw [l1, decide_eq_true d1]
    rfl
  have s2 : SeqAt.shaped (.list []) = true := by decide +kernel
  have e3 : toPy (.lst (ps.map dP)) = some (.list (ps.map pP)) := by simp [toPy, py_Ps]
  have e4 : toPy (.lst []) = some (.list []) := rfl
  simp only [cop, deq, drf_ref hn, drf_lst, e3, e4, Option.bind_some, s1, s2, and_self, if_true]
  cases ps <;> simp [PyData.eqv, PyData.eqvAll]
/-! the order -/
def slt (a b : Stp) : Bool := dataLt (pS a) (pS b)
def blt : List Stp → List Stp → Bool
  | [], [] => false
  | [], b :: _ => decide (b.1 = 1)
  | a :: _, [] => decide (a.1 = -1)
  | a :: r, b :: q => if a = b then blt r q else slt a b
def pz : PyData := .tuple [.int 0]
theorem al_S (a b : Stp) : alike (pS a) (pS b) = true := by simp [pS, alike, alikeAll]
theorem al_Sz (a : Stp) : alike (pS a) pz = true := by simp [pS, pz, alike, alikeAll]
theorem al_zS (a : Stp) : alike pz (pS a) = true := by simp [pS, pz, alike, alikeAll]
theorem al_zz : alike pz pz = true := by simp [pz, alike, alikeAll]
theorem al_nil (l : List PyData) : alikeAll l [] = true := by cases l <;> simp [alikeAll]
theorem al_K : ∀ p q : List Stp, alikeAll (p.map pS ++ [pz]) (q.map pS ++ [pz]) = true
  | [], [] => by simp [alikeAll, al_zz]
  | [], b :: q => by simp [alikeAll, al_zS, al_nil]
  | a :: p, [] => by simp [alikeAll, al_Sz, al_nil]
  | a :: p, b :: q => by simp [alikeAll, al_S, al_K p q]
theorem lex_K : ∀ p q : List Stp, gP p → gP q → PyProof.Rows.lexLt itemOrd (keyToksAll (p.map pS ++ [pz])) (keyToksAll (q.map pS ++ [pz])) = blt p q
  | [], [], _, _ => by simp [blt, lex_irrefl]
  | [], b :: q, _, hq => by
    have hb := (hq b (by simp)).1
    have e : PyData.eqv pz (pS b) = false := by
      simp only [pz, pS, PyData.eqv, PyData.eqvAll]
      rcases hb with h | h <;> rw [h] <;> rfl
    simp only [List.map_nil, List.nil_append, List.map_cons, List.cons_append]
    rw [dataLt_all_no (al_zS b) e]
    unfold pz pS
    rw [dataLt_tuple, dataLt_all_no (by simp [alike]) (by simp only [PyData.eqv]; rcases hb with h | h <;> rw [h] <;> rfl), dataLt_int]
    simp only [blt]
    rcases hb with h | h <;> rw [h] <;> decide
  | a :: p, [], hp, _ => by
    have ha := (hp a (by simp)).1
    have e : PyData.eqv (pS a) pz = false := by
      simp only [pz, pS, PyData.eqv, PyData.eqvAll]
      rcases ha with h | h <;> rw [h] <;> rfl
    simp only [List.map_nil, List.nil_append, List.map_cons, List.cons_append]
    rw [dataLt_all_no (al_Sz a) e]
    unfold pz pS
    rw [dataLt_tuple, dataLt_all_no (by simp [alike]) (by simp only [PyData.eqv]; rcases ha with h | h <;> rw [h] <;> rfl), dataLt_int]
    simp only [blt]
    rcases ha with h | h <;> rw [h] <;> decide
  | a :: p, b :: q, hp, hq => by
    simp only [List.map_cons, List.cons_append, blt]
    by_cases h : a = b
    · rw [if_pos h, dataLt_all_yes (al_S a b) (by rw [eqv_S]; exact decide_eq_true h)]
      exact lex_K p q (fun t ht => hp t (by simp [ht])) (fun t ht => hq t (by simp [ht]))
    · rw [if_neg h, dataLt_all_no (al_S a b) (by rw [eqv_S]; exact decide_eq_false h)]
      rfl
theorem lt_K {p q : List Stp} (hp : gP p) (hq : gP q) : dlt (.tup (p.map dS ++ [.tup [.int 0]])) (.tup (q.map dS ++ [.tup [.int 0]])) = some (blt p q) := by
  have e : ∀ p : List Stp, toPys (p.map dS ++ [.tup [.int 0]]) = some (p.map pS ++ [pz]) := by
    intro p
    induction p with
    | nil => rfl
    | cons s r ih => simp [toPys, py_S, ih]
  have dz : ∀ p : List Stp, PyData.depthAll (p.map pS ++ [pz]) ≤ 1 := by
    intro p
    induction p with
    | nil => simp [PyData.depthAll, pz, PyData.depth]
    | cons s r ih => simp only [List.map_cons, List.cons_append, PyData.depthAll, dep_S]; omega
  simp only [dlt, e, Option.bind_some, al_K, true_and]
  rw [if_pos (by simp only [PyData.depth]; have := dz p; omega), dataLt_tuple, lex_K p q hp hq]
theorem lt_S (M : Mem) (a b : Stp) : dlt (dS a) (dS b) = some (slt a b) := by
  have e : ∀ a : Stp, toPys [.int a.1, .str a.2.1, .int a.2.2.1, .int a.2.2.2] = some [.int a.1, .str a.2.1, .int a.2.2.1, .int a.2.2.2] := fun a => by simp [toPys, toPy]
  simp only [dS, dlt, e, Option.bind_some]
  rw [if_pos ⟨by simp [alikeAll, alike], by simp [PyData.depth, PyData.depthAll]⟩]
  rfl
theorem blt_app : ∀ (c r q : List Stp), blt (c ++ r) (c ++ q) = blt r q
  | [], _, _ => rfl
  | a :: c, r, q => by
    simp only [List.cons_append, blt, if_true]
    exact blt_app c r q
end K33
namespace K33
open PySem PySem.Spec PyProof.Rows L2 Cm PySem.W
local macro_rules | `(tactic| walk_at "ev") => `(tactic| simp only [Cm.run, startD, iexs, ix_set, ix_newl, ix_expr, ix_ret, ix_iff, ix_for, ix_aug, ix_rais, iev, ievs, ievo, items, Res.bind_ok, Res.bind_err, Res.bind_exc, Res.of_some, Res.of_none, asB_bl, slot_zero, slot_succ, set_zero, set_succ,
  bop_add_int, bop_sub_int, cop_lt, cop_le, cop_gt, cop_ge, dlt_int, dle_int, dgt_int, dge_int, cop_eq_int, cop_ne_int, cop_isN, cop_notN, min_int, max_int, len_tup, len_lst, idx_tup, idx_lst, sli_tup, sli_lst, if_t, if_f,
  List.length_cons, List.length_nil, List.map_cons, List.map_nil, List.replicate, Nat.reduceAdd, Nat.reduceSub, Nat.zero_add, List.nil_append, List.cons_append, List.append_nil, if_true, reduceIte, Option.map_some, Option.map_none, Int.reduceLT, bop_fdiv, bop_mod, bop_mul_r, Int.reduceNeg, Bool.not_true, Bool.not_false])
theorem drop1 (s : Stp) : cutD [D.int s.1, .str s.2.1, .int s.2.2.1, .int s.2.2.2] (some 1) none = [.str s.2.1, .int s.2.2.1, .int s.2.2.2] := by
  have := cut_from [D.int s.1, .str s.2.1, .int s.2.2.1, .int s.2.2.2] 1
  simpa using this
theorem gP_sub {p q : List Stp} (h : gP p) (k : ∀ s ∈ q, s ∈ p) : gP q := fun s hs => h s (k s hs)
theorem len_dP (M : Mem) (p : List Stp) : pev .len [dP p] M = some (.int p.length) := by
  show some (D.int (p.map dS).length) = _
  rw [List.length_map]
theorem idx_dP (M : Mem) (p : List Stp) {k : Nat} {s : Stp} (h : p[k]? = some s) (hk : p.length < 1000) : idx M (dP p) (.int (k : Nat)) = some (dS s) := by
  show atI (p.map dS) ((k : Nat) : Int) = _
  exact atI_nat (by rw [List.getElem?_map, h]; rfl)
theorem next_ev (L : Nat) (hL : L ≤ 100) (ps : List (List Stp)) (hps : ∀ p ∈ ps, p ≠ [] ∧ p.length ≤ L ∧ gP p) (hz : ps.length ≤ 1000) (n : Nat) (M : Mem) (hn : M[n]? = some (.lst (ps.map dP))) (c : Int) :
    ∃ p, d_next [.ref n, .int c] M = .ok (dP p) M ∧ p ≠ [] ∧ p.length ≤ L + 1 ∧ gP p := by
  have hg : ∀ q ∈ ps, gP q := fun q hq => (hps q hq).2.2
  unfold d_next b_next
  walk_at "ev"
  rw [small_ok (by simp), if_t]
  walk_at "ev"
  rw [eq_nil M hn hg]
  walk_at "ev"
  obtain ⟨st, est, gst⟩ := step_ev (c / 7) M
  have gq : gP [((1 : Int), st.2.1, st.2.2.1, st.2.2.2)] := fun s hs => by
    simp at hs
    subst hs
    exact ⟨.inl rfl, gst.2⟩
  have cut1 : sli M (dS st) (some 1) none = some (.tup [.str st.2.1, .int st.2.2.1, .int st.2.2.2]) := by
    unfold dS
    rw [sli_tup, drop1]
  by_cases h0 : ps = []
  · rw [decide_eq_true h0]
    walk_at "ev"
    rw [small_ok (by simp), if_t]
    walk_at "ev"
    simp only [F_next]
    rw [est]
    walk_at "ev"
    rw [cut1]
    walk_at "ev"
    rw [bop_add_tup (by simp)]
    walk_at "ev"
    rw [small_ok (by simp), if_t]
    walk_at "ev"
    exact ⟨_, rfl, by simp, by simp, gq⟩
  rw [decide_eq_false h0]
  walk_at "ev"
  by_cases w0 : c % 7 = 0
  · rw [decide_eq_true w0]
    walk_at "ev"
    rw [small_ok (by simp), if_t]
    walk_at "ev"
    simp only [F_next]
    rw [est]
    walk_at "ev"
    rw [cut1]
    walk_at "ev"
    rw [bop_add_tup (by simp)]
    walk_at "ev"
    rw [small_ok (by simp), if_t]
    walk_at "ev"
    exact ⟨_, rfl, by simp, by simp, gq⟩
  rw [decide_eq_false w0]
  walk_at "ev"
  rw [len_ref hn, List.length_map]
  walk_at "ev"
  have hpos : 0 < ps.length := by
    cases ps with
    | nil => exact absurd rfl h0
    | cons _ _ => simp
  rw [bop_mod (by omega)]
  walk_at "ev"
  have i0 := Int.emod_nonneg (c / 7) (b := (ps.length : Int)) (by omega)
  have i1 := Int.emod_lt_of_pos (c / 7) (b := (ps.length : Int)) (by omega)
  have hk : (c / 7 % (ps.length : Int)).toNat < ps.length := by omega
  obtain ⟨one, e1⟩ : ∃ one, ps[(c / 7 % (ps.length : Int)).toNat]? = some one := ⟨_, List.getElem?_eq_getElem hk⟩
  obtain ⟨o1, o2, o3⟩ := hps one (List.mem_of_getElem? e1)
  rw [idx_ref hn, atI_pos i0 (by omega), List.getElem?_map, e1]
  walk_at "ev"
  simp only [F_next]
  obtain ⟨m, em, m0, m1⟩ := mixed_ev c 3 (by decide) M
  rw [em]
  walk_at "ev"
  rw [len_dP]
  walk_at "ev"
  have opos : 0 < one.length := by
    cases one with
    | nil => exact absurd rfl o1
    | cons _ _ => simp
  rw [bop_mod (by omega)]
  walk_at "ev"
  have j0 := Int.emod_nonneg (m / 7) (b := (one.length : Int)) (by omega)
  have j1 := Int.emod_lt_of_pos (m / 7) (b := (one.length : Int)) (by omega)
  obtain ⟨at', hat⟩ : ∃ k : Nat, m / 7 % (one.length : Int) = (k : Int) := ⟨(m / 7 % (one.length : Int)).toNat, by omega⟩
  rw [hat] at j1 ⊢
  have hat' : at' < one.length := by omega
  by_cases w4 : c % 7 < 4
  · rw [decide_eq_true w4]
    walk_at "ev"
    obtain ⟨s2, es2, gs2⟩ := step_ev m M
    rw [es2]
    walk_at "ev"
    rw [small_ok (by simp), if_t]
    walk_at "ev"
    unfold dP
    rw [bop_add_tup (by simp; omega)]
    walk_at "ev"
    refine ⟨one ++ [s2], by simp, by simp, by simp; omega, fun s hs => ?_⟩
    simp at hs
    rcases hs with hs | rfl
    · exact o3 s hs
    · exact gs2
  rw [decide_eq_false w4]
  walk_at "ev"
  by_cases w5 : c % 7 = 4
  · rw [decide_eq_true w5]
    walk_at "ev"
    unfold dP
    have ek : (1 : Int) + (at' : Nat) = ((at' + 1 : Nat) : Int) := by omega
    rw [sli_tup, ek, cut_to]
    walk_at "ev"
    refine ⟨one.take (at' + 1), by rw [List.map_take], ?_, by simp; omega, gP_sub o3 fun s hs => List.mem_of_mem_take hs⟩
    intro z
    have := congrArg List.length z
    rw [List.length_take, List.length_nil] at this
    omega
  rw [decide_eq_false w5]
  walk_at "ev"
  by_cases w6 : c % 7 = 5
  · rw [decide_eq_true w6]
    walk_at "ev"
    obtain ⟨sx, esx⟩ : ∃ sx, one[at']? = some sx := ⟨_, List.getElem?_eq_getElem hat'⟩
    have gsx := o3 sx (List.mem_of_getElem? esx)
    rw [idx_dP M one esx (by omega)]
    walk_at "ev"
    obtain ⟨s2, es2, gs2⟩ := changed_ev sx gsx m M
    rw [es2]
    walk_at "ev"
    have good : ∀ s3 : Stp, gSt s3 → (one.take at' ++ [s3] ++ one.drop (at' + 1)) ≠ [] ∧ (one.take at' ++ [s3] ++ one.drop (at' + 1)).length ≤ L + 1 ∧ gP (one.take at' ++ [s3] ++ one.drop (at' + 1)) := by
      intro s3 g3
      refine ⟨by simp, by simp; omega, fun s hs => ?_⟩
      simp at hs
      rcases hs with hs | rfl | hs
      · exact o3 s (List.mem_of_mem_take hs)
      · exact g3
      · exact o3 s (List.mem_of_mem_drop hs)
    have ek : (at' : Int) + 1 = ((at' + 1 : Nat) : Int) := by omega
    have sl1 : ∀ M, sli M (dP one) none (some (at' : Nat)) = some (.tup ((one.take at').map dS)) := fun M => by
      show some (D.tup (cutD (one.map dS) none (some ((at' : Nat) : Int)))) = _
      rw [cut_to, List.map_take]
    have sl2 : ∀ M, sli M (dP one) (some ((at' + 1 : Nat) : Int)) none = some (.tup ((one.drop (at' + 1)).map dS)) := fun M => by
      show some (D.tup (cutD (one.map dS) (some ((at' + 1 : Nat) : Int)) none)) = _
      rw [cut_from, List.map_drop]
    by_cases z0 : (at' : Int) = 0
    · rw [decide_eq_true z0]
      walk_at "ev"
      have cut2 : sli M (dS s2) (some 1) none = some (.tup [.str s2.2.1, .int s2.2.2.1, .int s2.2.2.2]) := by
        unfold dS
        rw [sli_tup, drop1]
      rw [small_ok (by simp), if_t]
      walk_at "ev"
      rw [cut2]
      walk_at "ev"
      rw [bop_add_tup (by simp)]
      walk_at "ev"
      rw [sl1]
      walk_at "ev"
      rw [small_ok (by simp), if_t]
      walk_at "ev"
      rw [bop_add_tup (by simp; omega)]
      walk_at "ev"
      rw [ek, sl2]
      walk_at "ev"
      rw [bop_add_tup (by simp; omega)]
      walk_at "ev"
      exact ⟨_, by simp [dP, dS], good (1, s2.2.1, s2.2.2.1, s2.2.2.2) ⟨.inl rfl, gs2.2⟩⟩
    · rw [decide_eq_false z0]
      walk_at "ev"
      rw [sl1]
      walk_at "ev"
      rw [small_ok (by simp), if_t]
      walk_at "ev"
      rw [bop_add_tup (by simp; omega)]
      walk_at "ev"
      rw [ek, sl2]
      walk_at "ev"
      rw [bop_add_tup (by simp; omega)]
      walk_at "ev"
      exact ⟨_, by simp [dP], good s2 gs2⟩
  rw [decide_eq_false w6]
  walk_at "ev"
  exact ⟨one, rfl, o1, by omega, o3⟩
end K33
namespace K33
open PySem PySem.Spec PyProof.Rows L2 Cm PySem.W
local macro_rules | `(tactic| walk_at "ev") => `(tactic| simp only [Cm.run, startD, iexs, ix_set, ix_newl, ix_expr, ix_ret, ix_iff, ix_for, ix_aug, ix_rais, iev, ievs, ievo, items, Res.bind_ok, Res.bind_err, Res.bind_exc, Res.of_some, Res.of_none, asB_bl, slot_zero, slot_succ, set_zero, set_succ,
  bop_add_int, bop_sub_int, cop_lt, cop_le, cop_gt, cop_ge, dlt_int, dle_int, dgt_int, dge_int, cop_eq_int, cop_ne_int, cop_isN, cop_notN, min_int, max_int, len_tup, len_lst, idx_tup, idx_lst, sli_tup, sli_lst, if_t, if_f,
  List.length_cons, List.length_nil, List.map_cons, List.map_nil, List.replicate, Nat.reduceAdd, Nat.reduceSub, Nat.zero_add, List.nil_append, List.cons_append, List.append_nil, if_true, reduceIte, Option.map_some, Option.map_none, Int.reduceLT, bop_fdiv, bop_mod, bop_mul_r, Int.reduceNeg, Bool.not_true, Bool.not_false])
theorem before_ev {p q : List Stp} (hp : gP p) (hq : gP q) (lp : p.length < 1000) (lq : q.length < 1000) (M : Mem) : d_before [dP p, dP q] M = .ok (.bl (blt p q)) M := by
  unfold d_before b_before
  walk_at "ev"
  simp only [F_before]
  rw [place_key_ev p M lp]
  walk_at "ev"
  rw [place_key_ev q M lq]
  walk_at "ev"
  rw [lt_K hp hq]
  walk_at "ev"
/-! is_before: the walk along both -/
theorem blt_pre {p q : List Stp} {s : Stp} (h : q.take p.length = p) (hs : q[p.length]? = some s) : blt p q = decide (s.1 = 1) := by
  have e : q = p ++ s :: q.drop (p.length + 1) := by
    have hl := (List.getElem?_eq_some_iff.mp hs).1
    have := List.take_append_drop p.length q
    rw [h, List.drop_eq_getElem_cons hl] at this
    rw [(List.getElem?_eq_some_iff.mp hs).2] at this
    exact this.symm
  conv => lhs; rw [e]; arg 1; rw [← List.append_nil p]
  rw [blt_app]
  rfl
theorem blt_pre' {p q : List Stp} {s : Stp} (h : p.take q.length = q) (hs : p[q.length]? = some s) : blt p q = decide (s.1 = -1) := by
  have e : p = q ++ s :: p.drop (q.length + 1) := by
    have hl := (List.getElem?_eq_some_iff.mp hs).1
    have := List.take_append_drop q.length p
    rw [h, List.drop_eq_getElem_cons hl] at this
    rw [(List.getElem?_eq_some_iff.mp hs).2] at this
    exact this.symm
  conv => lhs; rw [e]; arg 2; rw [← List.append_nil q]
  rw [blt_app]
  rfl
theorem blt_self (p : List Stp) : blt p p = false := by
  have := blt_app p [] []
  rw [List.append_nil] at this
  rw [this]
  rfl
theorem blt_at {p q : List Stp} {i : Nat} {a b : Stp} (h : p.take i = q.take i) (ha : p[i]? = some a) (hb : q[i]? = some b) (hne : a ≠ b) : blt p q = slt a b := by
  have ep : p = p.take i ++ a :: p.drop (i + 1) := by
    have hl := (List.getElem?_eq_some_iff.mp ha).1
    have := List.take_append_drop i p
    rw [List.drop_eq_getElem_cons hl, (List.getElem?_eq_some_iff.mp ha).2] at this
    exact this.symm
  have eq' : q = p.take i ++ b :: q.drop (i + 1) := by
    have hl := (List.getElem?_eq_some_iff.mp hb).1
    have := List.take_append_drop i q
    rw [List.drop_eq_getElem_cons hl, (List.getElem?_eq_some_iff.mp hb).2, ← h] at this
    exact this.symm
  conv => lhs; rw [ep, eq']
  rw [blt_app]
  simp only [blt, if_neg hne]
theorem loop_ev {p q : List Stp} (hp : gP p) (hq : gP q) (lp : p.length < 1000) (lq : q.length < 1000) (M : Mem) (n : Nat) (hn1 : n ≤ p.length) (hn2 : n ≤ q.length) : ∀ (m i : Nat) (y : Option D), i + m = n → p.take i = q.take i →
    (∃ y', forL (bodyOf F_is_before w_is_before_0) (.name 2) ((rngL 0 n).drop i) [some (dP p), some (dP q), y] M = .ok (.nx [some (dP p), some (dP q), y']) M ∧ p.take n = q.take n) ∨
    forL (bodyOf F_is_before w_is_before_0) (.name 2) ((rngL 0 n).drop i) [some (dP p), some (dP q), y] M = .ok (.ret (.bl (blt p q))) M
  | 0, i, y, e, h => by
    have : i = n := by omega
    subst this
    left
    rw [List.drop_of_length_le (by rw [rng_len]; exact Nat.le_refl _)]
    exact ⟨y, rfl, h⟩
  | m + 1, i, y, e, h => by
    have hi : i < n := by omega
    have hlt : i < (rngL 0 n).length := by rw [rng_len]; exact hi
    have hd : (rngL 0 n)[i] = .int (0 + (i : Nat)) := (rng_get (List.getElem?_eq_getElem hlt)).2
    obtain ⟨a, ea⟩ : ∃ a, p[i]? = some a := ⟨_, List.getElem?_eq_getElem (by omega)⟩
    obtain ⟨b, eb⟩ : ∃ b, q[i]? = some b := ⟨_, List.getElem?_eq_getElem (by omega)⟩
    have ga := hp a (List.mem_of_getElem? ea)
    have gb := hq b (List.mem_of_getElem? eb)
    have turn : bodyOf F_is_before w_is_before_0 [some (dP p), some (dP q), some (.int (0 + (i : Nat)))] M = if a = b then .ok (.nx [some (dP p), some (dP q), some (.int (0 + (i : Nat)))]) M else .ok (.ret (.bl (slt a b))) M := by
      unfold bodyOf w_is_before_0
      walk_at "ev"
      rw [Int.zero_add, idx_dP M p ea lp]
      walk_at "ev"
      rw [idx_dP M q eb lq]
      walk_at "ev"
      rw [ne_S M ga gb]
      walk_at "ev"
      by_cases hab : a = b
      · rw [decide_eq_true hab, if_pos hab]
        walk_at "ev"
      · rw [decide_eq_false hab, if_neg hab]
        walk_at "ev"
        rw [idx_dP M p ea lp]
        walk_at "ev"
        rw [idx_dP M q eb lq]
        walk_at "ev"
        rw [lt_S M]
        walk_at "ev"
    rw [List.drop_eq_getElem_cons hlt, hd]
    simp only [forL, put, set_zero, set_succ, turn]
    by_cases hab : a = b
    · rw [if_pos hab]
      simp only [Res.bind_ok]
      exact loop_ev hp hq lp lq M n hn1 hn2 m (i + 1) _ (by omega) (by rw [List.take_add_one, List.take_add_one, h, ea, eb, hab])
    · right
      rw [if_neg hab, blt_at h ea eb hab]
      rfl
theorem is_before_ev {p q : List Stp} (hp : gP p) (hq : gP q) (lp : p.length < 1000) (lq : q.length < 1000) (M : Mem) : d_is_before [dP p, dP q] M = .ok (.bl (blt p q)) M := by
  unfold d_is_before b_is_before
  walk_at "ev"
  rw [len_dP]
  walk_at "ev"
  rw [len_dP]
  walk_at "ev"
  obtain ⟨n, hn, en⟩ : ∃ n : Nat, n = min p.length q.length ∧ (if (q.length : Int) < (p.length : Int) then (q.length : Int) else (p.length : Int)) = (n : Int) := by
    refine ⟨min p.length q.length, rfl, ?_⟩
    split <;> omega
  rw [en, small62_ok (by omega) (by omega)]
  walk_at "ev"
  rw [Int.toNat_natCast]
  have := loop_ev hp hq lp lq M n (by omega) (by omega) n 0 none (by omega) rfl
  rw [List.drop_zero] at this
  rcases this with ⟨y, e, h⟩ | e
  · rw [e]
    walk_at "ev"
    rw [len_dP]
    walk_at "ev"
    rw [len_dP]
    walk_at "ev"
    by_cases c1 : p.length < q.length
    · rw [decide_eq_true (show (p.length : Int) < (q.length : Int) by omega)]
      walk_at "ev"
      rw [len_dP]
      walk_at "ev"
      obtain ⟨s, es⟩ : ∃ s, q[p.length]? = some s := ⟨_, List.getElem?_eq_getElem c1⟩
      rw [idx_dP M q es lq]
      walk_at "ev"
      have e0 : idx M (dS s) (.int 0) = some (.int s.1) := by
        show atI [D.int s.1, _, _, _] 0 = _
        rw [atI_pos (by decide) (by decide)]
        rfl
      rw [e0]
      walk_at "ev"
      have hpn : n = p.length := by omega
      rw [blt_pre (by rw [hpn, List.take_length] at h; exact h.symm) es]
    · rw [decide_eq_false (show ¬ (p.length : Int) < (q.length : Int) by omega)]
      walk_at "ev"
      rw [len_dP]
      walk_at "ev"
      rw [len_dP]
      walk_at "ev"
      have hqn : n = q.length := by omega
      by_cases c2 : q.length < p.length
      · rw [decide_eq_true (show (q.length : Int) < (p.length : Int) by omega)]
        walk_at "ev"
        rw [len_dP]
        walk_at "ev"
        obtain ⟨s, es⟩ : ∃ s, p[q.length]? = some s := ⟨_, List.getElem?_eq_getElem c2⟩
        rw [idx_dP M p es lp]
        walk_at "ev"
        have e0 : idx M (dS s) (.int 0) = some (.int s.1) := by
          show atI [D.int s.1, _, _, _] 0 = _
          rw [atI_pos (by decide) (by decide)]
          rfl
        rw [e0]
        walk_at "ev"
        rw [blt_pre' (by rw [hqn, List.take_length] at h; exact h) es]
      · rw [decide_eq_false (show ¬ (q.length : Int) < (p.length : Int) by omega)]
        walk_at "ev"
        have el : p.length = q.length := by omega
        have epq : p = q := by
          rw [hqn, List.take_length, ← el, List.take_length] at h
          exact h
        rw [epq, blt_self]
  · rw [e]
    walk_at "ev"
end K33
namespace K33
open PySem PySem.Spec PyProof.Rows L2 Cm PySem.W
local macro_rules | `(tactic| walk_at "ev") => `(tactic| simp only [Cm.run, startD, iexs, ix_set, ix_newl, ix_expr, ix_ret, ix_iff, ix_for, ix_aug, ix_rais, iev, ievs, ievo, items, Res.bind_ok, Res.bind_err, Res.bind_exc, Res.of_some, Res.of_none, asB_bl, slot_zero, slot_succ, set_zero, set_succ,
  bop_add_int, bop_sub_int, cop_lt, cop_le, cop_gt, cop_ge, dlt_int, dle_int, dgt_int, dge_int, cop_eq_int, cop_ne_int, cop_isN, cop_notN, min_int, max_int, len_tup, len_lst, idx_tup, idx_lst, sli_tup, sli_lst, if_t, if_f,
  List.length_cons, List.length_nil, List.map_cons, List.map_nil, List.replicate, Nat.reduceAdd, Nat.reduceSub, Nat.zero_add, List.nil_append, List.cons_append, List.append_nil, if_true, reduceIte, Option.map_some, Option.map_none, Int.reduceLT, bop_fdiv, bop_mod, bop_mul_r, Int.reduceNeg, Bool.not_true, Bool.not_false])
theorem isN_P (M : Mem) (p : List Stp) : cop M .isN (dP p) .non = some false := rfl
theorem notN_P (M : Mem) (p : List Stp) : cop M .notN (dP p) .non = some true := rfl
theorem isN_N (M : Mem) : cop M .isN .non .non = some true := rfl
theorem notN_N (M : Mem) : cop M .notN .non .non = some false := rfl
theorem sli_P (M : Mem) (p : List Stp) (k : Nat) : sli M (dP p) none (some (k : Int)) = some (dP (p.take k)) := by
  show some (D.tup (cutD (p.map dS) none (some (k : Int)))) = _
  rw [cut_to, ← List.map_take]
  rfl
theorem gap_none (l : List Stp) (M : Mem) : d_gap [dP l, .non] M = .ok (.tup [dP l, .int 1]) M := by
  unfold d_gap b_gap
  walk_at "ev"
  rw [small_ok (by simp), if_t]
  walk_at "ev"
theorem gap_ev {l r : List Stp} (gl : gP l) (gr : gP r) (ll : l.length < 1000) (lr : r.length < 1000) (M : Mem) :
    d_gap [dP l, dP r] M = if blt l r = true then (if r.take l.length = l then .ok (.tup [dP r, .int (-1)]) M else .ok (.tup [dP l, .int 1]) M) else .exc "NoPlace" [("place", dP l)] M := by
  unfold d_gap b_gap
  simp only [Cm.run, startD, iexs, ix_iff, iev, ievs, Res.bind_ok, List.length_cons, List.length_nil, List.map_cons, List.map_nil, List.replicate, Nat.reduceAdd, Nat.reduceSub, List.cons_append, List.nil_append, reduceIte, Nat.zero_add, slot_zero, slot_succ, List.append_nil, isN_P, Res.of_some, asB_bl, if_f, F_gap]
  rw [before_ev gl gr ll lr]
  cases hb : blt l r with
  | false =>
    walk_at "ev"
  | true =>
    walk_at "ev"
    rw [len_dP]
    walk_at "ev"
    rw [sli_P]
    walk_at "ev"
    have gt : gP (r.take l.length) := gP_sub gr fun s hs => List.mem_of_mem_take hs
    rw [eq_P M gt gl]
    walk_at "ev"
    by_cases e : r.take l.length = l
    · rw [decide_eq_true e, if_pos e]
      walk_at "ev"
      rw [small_ok (by simp), if_t]
      walk_at "ev"
    · rw [decide_eq_false e, if_neg e]
      walk_at "ev"
      rw [small_ok (by simp), if_t]
      walk_at "ev"
theorem refused_ev {l r : List Stp} (gl : gP l) (gr : gP r) (ll : l.length < 1000) (lr : r.length < 1000) (M : Mem) (h : blt l r = false) :
    d_refused [dP l, dP r] M = .ok (.bl true) (M ++ [.exn "NoPlace" [("place", dP l)]]) := by
  have eg := gap_ev gl gr ll lr M
  rw [h, if_neg (by decide)] at eg
  have hM : (M ++ [MO.exn "NoPlace" [("place", dP l)]])[M.length]? = some (.exn "NoPlace" [("place", dP l)]) := by simp
  have ea : attrD (M ++ [MO.exn "NoPlace" [("place", dP l)]]) (.ref M.length) "place" ["NoPlace"] = some (dP l) := by
    simp only [attrD, hM]
    rw [if_pos (by simp)]
    rfl
  have x1 : pev (.isx [("NoPlace", true)]) [.ref M.length] (M ++ [MO.exn "NoPlace" [("place", dP l)]]) = some (.bl true) := by
    simp only [pev, hM]
    rfl
  have x2 : pev (.isx [("NoPlace", false)]) [.ref M.length] (M ++ [MO.exn "NoPlace" [("place", dP l)]]) = some (.bl false) := by
    simp only [pev, hM]
    rfl
  have x3 : pev (.isa "tuple") [dP l] (M ++ [MO.exn "NoPlace" [("place", dP l)]]) = some (.bl true) := rfl
  have et : iex F_refused (.tryx (.call 2 (.cons (.var 0) (.cons (.var 1) .nil))) [("NoPlace", true)] 3 (.cons (.set 2 (.var 3)) .nil)) [some (dP l), some (dP r), some .non, none] M = .ok (.nx [some (dP l), some (dP r), some (.ref M.length), none]) (M ++ [MO.exn "NoPlace" [("place", dP l)]]) := by
    have ee : iev F_refused (.call 2 (.cons (.var 0) (.cons (.var 1) .nil))) [some (dP l), some (dP r), some .non, none] M = .exc "NoPlace" [("place", dP l)] M := by
      walk_at "ev"
      simp only [F_refused]
      exact eg
    simp only [iex, ee]
    rfl
  unfold d_refused b_refused
  simp only [Cm.run, startD, iexs, ix_set, iev, ievs, Res.bind_ok, List.length_cons, List.length_nil, List.map_cons, List.map_nil, List.replicate, Nat.reduceAdd, Nat.reduceSub, List.cons_append, List.nil_append, reduceIte, Nat.zero_add, slot_zero, slot_succ, set_zero, set_succ]
  rw [et]
  walk_at "ev"
  rw [x1]
  walk_at "ev"
  rw [x1]
  walk_at "ev"
  rw [x2]
  walk_at "ev"
  rw [x2]
  walk_at "ev"
  rw [x2]
  walk_at "ev"
  rw [ea]
  walk_at "ev"
  rw [eq_P _ gl gl]
  walk_at "ev"
  rw [decide_eq_true trivial]
  walk_at "ev"
  rw [ea]
  walk_at "ev"
  rw [x3]
  walk_at "ev"
/-! the order, between -/
theorem blt_ext : ∀ {l r : List Stp} (t : List Stp), blt l r = true → r.take l.length ≠ l → blt (l ++ t) r = true
  | [], r, t, _, h => absurd (by simp) h
  | a :: l, [], t, h, _ => by simpa [blt] using h
  | a :: l, b :: r, t, h, hn => by
    simp only [List.cons_append, blt] at h ⊢
    by_cases e : a = b
    · rw [if_pos e] at h ⊢
      exact blt_ext t h (by
        intro z
        apply hn
        rw [List.length_cons, List.take_succ_cons, z, e])
    · rw [if_neg e] at h ⊢
      exact h
theorem blt_in {l r : List Stp} (t : List Stp) (h : blt l r = true) (e : r.take l.length = l) : blt l (r ++ t) = true := by
  have er : r = l ++ r.drop l.length := by
    have := List.take_append_drop l.length r
    rw [e] at this
    exact this.symm
  generalize r.drop l.length = d at er
  subst er
  cases d with
  | nil =>
    rw [List.append_nil, blt_self] at h
    cases h
  | cons s d =>
    have h' := blt_app l [] (s :: d)
    rw [List.append_nil] at h'
    rw [h'] at h
    have h2 := blt_app l [] (s :: d ++ t)
    rw [List.append_nil] at h2
    rw [List.append_assoc, h2]
    exact h
theorem blt_up (l : List Stp) (s : Stp) (h : s.1 = 1) : blt l (l ++ [s]) = true := by
  have := blt_app l [] [s]
  rw [List.append_nil] at this
  rw [this]
  exact decide_eq_true h
theorem blt_down (r t : List Stp) (s : Stp) (h : s.1 = -1) : blt (r ++ s :: t) r = true := by
  have := blt_app r (s :: t) []
  rw [List.append_nil] at this
  rw [this]
  exact decide_eq_true h
theorem due_eq (M : Mem) {p : List Stp} (hp : gP p) (s : Int) : deq M (.tup [dP p, .int s]) (.tup [dP p, .int s]) = some true := by
  have e1 : toPy (.tup [dP p, .int s]) = some (.tuple [pP p, .int s]) := by simp [toPy, toPys, py_P]
  have sh : SeqAt.shaped (.tuple [pP p, .int s]) = true := by
    unfold SeqAt.shaped
    have : (PyData.tuple [pP p, .int s]).canLay0 = true := by simp [PyData.canLay0, PyData.canLayAll0, lay_P hp]
    rw [this, decide_eq_true (by simp only [PyData.depth, PyData.depthAll]; have := dep_P p; omega)]
    rfl
  have eq : PyData.eqv (.tuple [pP p, .int s]) (.tuple [pP p, .int s]) = true := by
    simp [PyData.eqv, PyData.eqvAll, pP, eqv_Ss]
  simp only [deq, drf_tup, e1, Option.bind_some, sh, and_self, if_true, eq]
end K33
namespace K33
open PySem PySem.Spec PyProof.Rows L2 Cm PySem.W
local macro_rules | `(tactic| walk_at "ev") => `(tactic| simp only [Cm.run, startD, iexs, ix_set, ix_newl, ix_expr, ix_ret, ix_iff, ix_for, ix_aug, ix_rais, iev, ievs, ievo, items, Res.bind_ok, Res.bind_err, Res.bind_exc, Res.of_some, Res.of_none, asB_bl, slot_zero, slot_succ, set_zero, set_succ,
  bop_add_int, bop_sub_int, cop_lt, cop_le, cop_gt, cop_ge, dlt_int, dle_int, dgt_int, dge_int, cop_eq_int, cop_ne_int, cop_isN, cop_notN, min_int, max_int, len_tup, len_lst, idx_tup, idx_lst, sli_tup, sli_lst, if_t, if_f,
  List.length_cons, List.length_nil, List.map_cons, List.map_nil, List.replicate, Nat.reduceAdd, Nat.reduceSub, Nat.zero_add, List.nil_append, List.cons_append, List.append_nil, if_true, reduceIte, Option.map_some, Option.map_none, Int.reduceLT, bop_fdiv, bop_mod, bop_mul_r, Int.reduceNeg, Bool.not_true, Bool.not_false])
theorem fg8 : F_given 8 = d_is_before := rfl
theorem fg9 : F_given 9 = d_refused := rfl
theorem fg2 : F_given 2 = d_gap := rfl
theorem fg1 : F_given 1 = d_before := rfl
theorem at20 (a b : D) : atI [a, b] 0 = some a := by rw [atI_pos (by decide) (by decide)]; rfl
theorem at21 (a b : D) : atI [a, b] 1 = some b := by rw [atI_pos (by decide) (by decide)]; rfl
/-- what stands right of a place: nothing, or a place above all that is put behind it -/
def Rt (R : D) (p : List Stp) : Prop := R = .non ∨ ∃ r, R = dP r ∧ gP r ∧ r.length ≤ 200 ∧ ∀ t, blt (p ++ t) r = true
theorem gP_snoc {p : List Stp} {s : Stp} (h : gP p) (g : gSt s) : gP (p ++ [s]) := fun t ht => by
  simp at ht
  rcases ht with ht | rfl
  · exact h t ht
  · exact g
theorem given_turn (M : Mem) (x : Str) (n : Int) (gx : gS x) (R : D) (f5 f6 : Option D) (i : Nat) (hi : i < 3) (l p : List Stp) (gl : gP l) (gp : gP p) (ll : l.length ≤ 210 + i) (lp : p.length ≤ 210 + i) (hb : blt l p = true) (hR : Rt R p) :
    bodyOf F_given w_given_0 [some (dP l), some R, some (.tup [.str x, .int n]), f5, f6, some (dP p), some (.int (0 + (i : Nat)))] M = .ok (.nx [some (dP p), some R, some (.tup [.str x, .int n]), f5, f6, some (dP (p ++ [((1 : Int), x, n, (0 + (i : Nat) + 1 : Int))])), some (.int (0 + (i : Nat)))]) M := by
  have tail : ∀ M, iexs F_given (.cons (.set 0 (.var 5)) (.cons (.set 5 (.bin .add (.var 5) (.tup (.cons (.tup (.cons (.lit (.int 1)) (.cons (.idx (.var 2) (.lit (.int 0))) (.cons (.idx (.var 2) (.lit (.int 1))) (.cons (.bin .add (.var 6) (.lit (.int 1))) .nil))))) .nil)))) .nil)) [some (dP l), some R, some (.tup [.str x, .int n]), f5, f6, some (dP p), some (.int (0 + (i : Nat)))] M = .ok (.nx [some (dP p), some R, some (.tup [.str x, .int n]), f5, f6, some (dP (p ++ [((1 : Int), x, n, (0 + (i : Nat) + 1 : Int))])), some (.int (0 + (i : Nat)))]) M := by
    intro M
    walk_at "ev"
    rw [at20]
    walk_at "ev"
    rw [at21]
    walk_at "ev"
    rw [small_ok (by simp), if_t]
    walk_at "ev"
    rw [small_ok (by simp), if_t]
    walk_at "ev"
    unfold dP
    rw [bop_add_tup (by simp; omega)]
    walk_at "ev"
    rw [List.map_append]
    rfl
  unfold bodyOf w_given_0
  rw [iexs, ix_iff]
  simp only [iev, ievs, slot_zero, slot_succ, Res.bind_ok, fg8, fg1]
  rw [is_before_ev gl gp (by omega) (by omega)]
  simp only [Res.bind_ok, asB_bl, hb, Bool.not_true, if_f]
  rw [before_ev gl gp (by omega) (by omega)]
  simp only [Res.bind_ok, asB_bl, hb, Bool.not_true, if_f]
  simp only [iexs, Res.bind_ok]
  have mid : iex F_given (.iff (.and (.cmp .notN (.var 1) (.lit .non)) (.not (.and (.call 8 (.cons (.var 5) (.cons (.var 1) .nil))) (.call 1 (.cons (.var 5) (.cons (.var 1) .nil))))))
    (.cons (.ret (.lit (.bl false)))
    .nil)
    .nil) [some (dP l), some R, some (.tup [.str x, .int n]), f5, f6, some (dP p), some (.int (0 + (i : Nat)))] M = .ok (.nx [some (dP l), some R, some (.tup [.str x, .int n]), f5, f6, some (dP p), some (.int (0 + (i : Nat)))]) M := by
    rw [ix_iff]
    rcases hR with rfl | ⟨r, rfl, gr, lr, hr⟩
    · simp only [iev, slot_zero, slot_succ, Res.bind_ok, notN_N, Res.of_some, asB_bl, if_f, iexs]
    · have hr0 := hr []
      rw [List.append_nil] at hr0
      simp only [iev, ievs, slot_zero, slot_succ, Res.bind_ok, notN_P, Res.of_some, asB_bl, if_t, iexs, fg8, fg1]
      rw [is_before_ev gp gr (by omega) (by omega)]
      simp only [Res.bind_ok, asB_bl, hr0, if_t, if_true, reduceIte]
      rw [before_ev gp gr (by omega) (by omega)]
      simp only [Res.bind_ok, asB_bl, hr0, Bool.not_true, if_f, if_true, reduceIte, Bool.false_eq_true, iexs]
  rw [mid]
  simp only [Res.bind_ok]
  have := tail M
  simp only [iexs] at this
  exact this
theorem given_loop (M : Mem) (x : Str) (n : Int) (gx : gS x) (R : D) (f5 f6 : Option D) (l p : List Stp) (gl : gP l) (gp : gP p) (ll : l.length ≤ 210) (lp : p.length ≤ 210) (hb : blt l p = true) (hR : Rt R p) :
    ∃ σ, forL (bodyOf F_given w_given_0) (.name 6) (rngL 0 3) [some (dP l), some R, some (.tup [.str x, .int n]), f5, f6, some (dP p), none] M = .ok (.nx σ) M := by
  obtain ⟨σ', M', e, hI⟩ := forL_inv (B := bodyOf F_given w_given_0) (t := .name 6) (ds := rngL 0 3) (σ := [some (dP l), some R, some (.tup [.str x, .int n]), f5, f6, some (dP p), none]) (M := M)
    (fun i σ M' => M' = M ∧ ∃ l p y, σ = [some (dP l), some R, some (.tup [.str x, .int n]), f5, f6, some (dP p), y] ∧ gP l ∧ gP p ∧ l.length ≤ 210 + i ∧ p.length ≤ 210 + i ∧ blt l p = true ∧ Rt R p)
    ⟨rfl, l, p, none, rfl, gl, gp, ll, lp, hb, hR⟩ (fun i d σ M' hd hI => by
      obtain ⟨rfl, l, p, y, rfl, gl, gp, ll, lp, hb, hR⟩ := hI
      obtain ⟨hi, rfl⟩ := rng_get hd
      refine ⟨_, rfl, _, M', .inl (given_turn M' x n gx R f5 f6 i hi l p gl gp ll lp hb hR), rfl, p, _, _, rfl, gp, gP_snoc gp ⟨.inl rfl, gx⟩, by omega, by simp; omega, blt_up p (1, x, n, (0 + (i : Nat) + 1 : Int)) rfl, ?_⟩
      rcases hR with rfl | ⟨r, rfl, gr, lr, hr⟩
      · exact .inl rfl
      · exact .inr ⟨r, rfl, gr, lr, fun t => by rw [List.append_assoc]; exact hr _⟩)
  obtain ⟨rfl, _⟩ := hI
  exact ⟨σ', e⟩
/-- from the found gap on -/
theorem given_rest (M : Mem) (x : Str) (n : Int) (gx : gS x) (R : D) (l q : List Stp) (s : Int) (hs : s = 1 ∨ s = -1) (gl : gP l) (gq : gP q) (ll : l.length ≤ 200) (lq : q.length ≤ 200) (hb : blt l (q ++ [(s, x, n, 0)]) = true) (hR : Rt R (q ++ [(s, x, n, 0)])) :
    ∃ σ, iexs F_given
  (.cons (.iff (.or (.not (.prim (.isa "tuple") (.cons (.var 3) .nil))) (.or (.cmp .ne (.var 3) (.var 4)) (.prim (.isa "bool") (.cons (.idx (.var 3) (.lit (.int 1))) .nil))))
    (.cons (.ret (.lit (.bl false)))
    .nil)
    .nil)
  (.cons (.set 5 (.bin .add (.idx (.var 4) (.lit (.int 0))) (.tup (.cons (.tup (.cons (.idx (.var 4) (.lit (.int 1))) (.cons (.idx (.var 2) (.lit (.int 0))) (.cons (.idx (.var 2) (.lit (.int 1))) (.cons (.lit (.int 0)) .nil))))) .nil))))
  (.cons (.forr (.name 6) (.rng1 (.lit (.int 3))) w_given_0)
  (.cons (.ret (.lit (.bl true)))
  .nil)))) [some (dP l), some R, some (.tup [.str x, .int n]), some (.tup [dP q, .int s]), some (.tup [dP q, .int s]), none, none] M = .ok σ M ∧ σ = .ret (.bl true) := by
  refine ⟨_, ?_, rfl⟩
  have x3 : pev (.isa "tuple") [.tup [dP q, .int s]] M = some (.bl true) := rfl
  have x4 : pev (.isa "bool") [.int s] M = some (.bl false) := rfl
  have ne : cop M .ne (.tup [dP q, .int s]) (.tup [dP q, .int s]) = some false := by
    simp only [cop, due_eq M gq s]
    rfl
  rw [iexs, ix_iff]
  simp only [iev, ievs, slot_zero, slot_succ, Res.bind_ok, x3, Res.of_some, asB_bl, Bool.not_true, if_f, ne, idx_tup, at21, x4, iexs]
  rw [ix_set]
  have e5 : iev F_given (.bin .add (.idx (.var 4) (.lit (.int 0))) (.tup (.cons (.tup (.cons (.idx (.var 4) (.lit (.int 1))) (.cons (.idx (.var 2) (.lit (.int 0))) (.cons (.idx (.var 2) (.lit (.int 1))) (.cons (.lit (.int 0)) .nil))))) .nil))) [some (dP l), some R, some (.tup [.str x, .int n]), some (.tup [dP q, .int s]), some (.tup [dP q, .int s]), none, none] M = .ok (dP (q ++ [(s, x, n, 0)])) M := by
    simp only [iev, ievs, slot_zero, slot_succ, Res.bind_ok, idx_tup, at20, at21, Res.of_some]
    rw [small_ok (by simp), if_t]
    simp only [Res.bind_ok]
    rw [small_ok (by simp), if_t]
    simp only [Res.bind_ok]
    unfold dP
    rw [bop_add_tup (by simp; omega)]
    simp only [Res.of_some]
    rw [List.map_append]
    rfl
  rw [e5]
  simp only [Res.bind_ok, set_zero, set_succ]
  rw [ix_for]
  simp only [items, iev, Res.bind_ok]
  rw [small62_ok (by decide) (by decide), if_t]
  simp only [Res.bind_ok]
  obtain ⟨σ, e⟩ := given_loop M x n gx R (some (.tup [dP q, .int s])) (some (.tup [dP q, .int s])) l (q ++ [(s, x, n, 0)]) gl (gP_snoc gq ⟨hs, gx⟩) (by omega) (by simp; omega) hb hR
  have e3 : (3 : Int).toNat = 3 := rfl
  rw [e3, e]
  simp only [Res.bind_ok, ix_ret, iev]
theorem iexs_nx {F : Fn} {s : IS} {r : ISs} {σ σ' : Slots} {M M' : Mem} (h : iex F s σ M = .ok (.nx σ') M') : iexs F (.cons s r) σ M = iexs F r σ' M' := by
  rw [iexs, h]
  rfl
theorem iexs_ret {F : Fn} {s : IS} {r : ISs} {σ : Slots} {d : D} {M M' : Mem} (h : iex F s σ M = .ok (.ret d) M') : iexs F (.cons s r) σ M = .ok (.ret d) M' := by
  rw [iexs, h]
  rfl
theorem run_ret {F : Fn} {n k : Nat} {b : ISs} {as : List D} {σ : Slots} {d : D} {M M' : Mem} (hk : as.length = k) (hs : startD n as = σ) (h : iexs F b σ M = .ok (.ret d) M') : Cm.run F n k b as M = .ok d M' := by
  unfold Cm.run
  rw [if_pos hk, hs, h]
  rfl
theorem given_ev (M : Mem) (x : Str) (n : Int) (gx : gS x) (R : D) (l : List Stp) (gl : gP l) (ll : l.length ≤ 200) (hR : R = .non ∨ ∃ r, R = dP r ∧ gP r ∧ r.length ≤ 200) :
    ∃ J, d_given [dP l, R, .tup [.str x, .int n]] M = .ok (.bl true) (M ++ J) := by
  have q3 : ∀ (q : List Stp) (s : Int) (σ1 σ2 : Option D), d_gap [dP l, R] M = .ok (.tup [dP q, .int s]) M → iex F_given (.set 3 (.call 2 (.cons (.var 0) (.cons (.var 1) .nil)))) [some (dP l), some R, some (.tup [.str x, .int n]), none, none, none, none] M = .ok (.nx [some (dP l), some R, some (.tup [.str x, .int n]), some (.tup [dP q, .int s]), none, none, none]) M := by
    intro q s _ _ h
    simp only [ix_set, iev, ievs, slot_zero, slot_succ, Res.bind_ok, fg2]
    rw [h]
    rfl
  have q4 : ∀ (f : Option D), iex F_given (.set 4 (.tup (.cons (.var 0) (.cons (.lit (.int 1)) .nil)))) [some (dP l), some R, some (.tup [.str x, .int n]), f, none, none, none] M = .ok (.nx [some (dP l), some R, some (.tup [.str x, .int n]), f, some (.tup [dP l, .int 1]), none, none]) M := by
    intro f
    simp only [ix_set, iev, ievs, slot_zero, slot_succ, Res.bind_ok]
    rw [small_ok (by simp), if_t]
    rfl
  rcases hR with rfl | ⟨r, rfl, gr, lr⟩
  · obtain ⟨σ, e, rfl⟩ := given_rest M x n gx .non l l 1 (.inl rfl) gl gl ll ll (blt_up l _ rfl) (.inl rfl)
    refine ⟨[], ?_⟩
    rw [List.append_nil]
    refine run_ret (σ := [some (dP l), some .non, some (.tup [.str x, .int n]), none, none, none, none]) rfl rfl ?_
    unfold b_given
    rw [iexs_nx (σ' := [some (dP l), some .non, some (.tup [.str x, .int n]), none, none, none, none]) (M' := M) (by simp only [ix_iff, iev, slot_zero, slot_succ, Res.bind_ok, notN_N, Res.of_some, asB_bl, if_f, iexs]),
      iexs_nx (q3 l 1 none none (gap_none l M)), iexs_nx (q4 _),
      iexs_nx (σ' := [some (dP l), some .non, some (.tup [.str x, .int n]), some (.tup [dP l, .int 1]), some (.tup [dP l, .int 1]), none, none]) (M' := M) (by simp only [ix_iff, iev, slot_zero, slot_succ, Res.bind_ok, notN_N, Res.of_some, asB_bl, if_f, iexs])]
    exact e
  · have hg := gap_ev gl gr (by omega) (by omega) M
    have hib := is_before_ev gl gr (by omega) (by omega) M
    have hc : iev F_given (.and (.cmp .notN (.var 1) (.lit .non)) (.not (.call 8 (.cons (.var 0) (.cons (.var 1) .nil))))) [some (dP l), some (dP r), some (.tup [.str x, .int n]), none, none, none, none] M = .ok (.bl (!(blt l r))) M := by
      simp only [iev, ievs, slot_zero, slot_succ, Res.bind_ok, notN_P, Res.of_some, asB_bl, if_t, fg8]
      rw [hib]
      rfl
    cases hb : blt l r with
    | false =>
      refine ⟨[.exn "NoPlace" [("place", dP l)]], run_ret (σ := [some (dP l), some (dP r), some (.tup [.str x, .int n]), none, none, none, none]) rfl rfl ?_⟩
      unfold b_given
      refine iexs_ret ?_
      rw [ix_iff, hc, hb]
      simp only [Res.bind_ok, asB_bl, Bool.not_false, if_t]
      refine iexs_ret ?_
      simp only [ix_ret, iev, ievs, slot_zero, slot_succ, fg9, Res.bind_ok]
      rw [refused_ev gl gr (by omega) (by omega) M hb]
      rfl
    | true =>
      refine ⟨[], ?_⟩
      rw [List.append_nil]
      refine run_ret (σ := [some (dP l), some (dP r), some (.tup [.str x, .int n]), none, none, none, none]) rfl rfl ?_
      unfold b_given
      rw [iexs_nx (σ' := [some (dP l), some (dP r), some (.tup [.str x, .int n]), none, none, none, none]) (M' := M) (by rw [ix_iff, hc, hb]; rfl)]
      rw [hb, if_t] at hg
      have hk : ∀ f g : Option D, iev F_given (.and (.cmp .notN (.var 1) (.lit .non)) (.cmp .eq (.sli (.var 1) .none (.some (.prim .len (.cons (.var 0) .nil)))) (.var 0))) [some (dP l), some (dP r), some (.tup [.str x, .int n]), f, g, none, none] M = .ok (.bl (decide (r.take l.length = l))) M := by
        intro f g
        simp only [iev, ievs, ievo, slot_zero, slot_succ, Res.bind_ok, notN_P, Res.of_some, asB_bl, if_t, len_dP, sli_P]
        rw [eq_P M (gP_sub gr fun s hs => List.mem_of_mem_take hs) gl]
        rfl
      by_cases e : r.take l.length = l
      · rw [if_pos e] at hg
        obtain ⟨σ, er, rfl⟩ := given_rest M x n gx (dP r) l r (-1) (.inr rfl) gl gr ll lr (blt_in _ hb e) (.inr ⟨r, rfl, gr, lr, fun t => by rw [List.append_assoc]; exact blt_down r t _ rfl⟩)
        rw [iexs_nx (q3 r (-1) none none hg), iexs_nx (q4 _),
          iexs_nx (σ' := [some (dP l), some (dP r), some (.tup [.str x, .int n]), some (.tup [dP r, .int (-1)]), some (.tup [dP r, .int (-1)]), none, none]) (M' := M) (by
            rw [ix_iff, hk, decide_eq_true e]
            simp only [Res.bind_ok, asB_bl, if_t]
            rw [iexs_nx (σ' := [some (dP l), some (dP r), some (.tup [.str x, .int n]), some (.tup [dP r, .int (-1)]), some (.tup [dP r, .int (-1)]), none, none]) (M' := M) (by
              simp only [ix_set, iev, ievs, slot_zero, slot_succ, Res.bind_ok]
              rw [small_ok (by simp), if_t]
              rfl)]
            rfl)]
        exact er
      · rw [if_neg e] at hg
        obtain ⟨σ, er, rfl⟩ := given_rest M x n gx (dP r) l l 1 (.inl rfl) gl gl ll ll (blt_up l _ rfl) (.inr ⟨r, rfl, gr, lr, fun t => by rw [List.append_assoc]; exact blt_ext _ hb e⟩)
        rw [iexs_nx (q3 l 1 none none hg), iexs_nx (q4 _),
          iexs_nx (σ' := [some (dP l), some (dP r), some (.tup [.str x, .int n]), some (.tup [dP l, .int 1]), some (.tup [dP l, .int 1]), none, none]) (M' := M) (by rw [ix_iff, hk, decide_eq_false e]; rfl)]
        exact er
end K33
namespace K33
open PySem PySem.Spec PyProof.Rows L2 Cm PySem.W
local macro_rules | `(tactic| walk_at "ev") => `(tactic| simp only [Cm.run, startD, iexs, ix_set, ix_newl, ix_expr, ix_ret, ix_iff, ix_for, ix_aug, ix_rais, iev, ievs, ievo, items, Res.bind_ok, Res.bind_err, Res.bind_exc, Res.of_some, Res.of_none, asB_bl, slot_zero, slot_succ, set_zero, set_succ,
  bop_add_int, bop_sub_int, cop_lt, cop_le, cop_gt, cop_ge, dlt_int, dle_int, dgt_int, dge_int, cop_eq_int, cop_ne_int, cop_isN, cop_notN, min_int, max_int, len_tup, len_lst, idx_tup, idx_lst, sli_tup, sli_lst, if_t, if_f,
  List.length_cons, List.length_nil, List.map_cons, List.map_nil, List.replicate, Nat.reduceAdd, Nat.reduceSub, Nat.zero_add, List.nil_append, List.cons_append, List.append_nil, if_true, reduceIte, Option.map_some, Option.map_none, Int.reduceLT, bop_fdiv, bop_mod, bop_mul_r, Int.reduceNeg, Bool.not_true, Bool.not_false])
theorem fl7 : F_law 7 = d_next := rfl
theorem fl3 : F_law 3 = d_mixed := rfl
theorem fl10 : F_law 10 = d_given := rfl
theorem fl4 : F_law 4 = d_hand := rfl
theorem fl2 : F_law 2 = d_gap := rfl
def SL (ns : List Int) : D := .lst (ns.map D.int)
def Gd (L : Nat) (ps : List (List Stp)) : Prop := ∀ p ∈ ps, p ≠ [] ∧ p.length ≤ L ∧ gP p
theorem loop_met (ns : List Int) (cs : List Int) (hc : cs.length ≤ 40) :
    ∃ ps y, forL (bodyOf F_law w_law_0) (.name 2) (cs.map D.int) [some (SL ns), some (.ref 0), none, none, none, none, none] [.lst []] = .ok (.nx [some (SL ns), some (.ref 0), y, none, none, none, none]) [.lst (ps.map dP)] ∧ ps.length = cs.length ∧ Gd 40 ps := by
  obtain ⟨σ', M', e, hI⟩ := forL_inv (B := bodyOf F_law w_law_0) (t := .name 2) (ds := cs.map D.int) (σ := [some (SL ns), some (.ref 0), none, none, none, none, none]) (M := [.lst []])
    (fun i σ M' => ∃ ps y, σ = [some (SL ns), some (.ref 0), y, none, none, none, none] ∧ M' = [.lst (ps.map dP)] ∧ ps.length = i ∧ Gd i ps)
    ⟨[], none, rfl, rfl, rfl, fun p h => by cases h⟩ (fun i d σ M' hd hI => by
      obtain ⟨ps, y, rfl, rfl, hl, hg⟩ := hI
      rw [List.getElem?_map] at hd
      obtain ⟨c, ec, rfl⟩ := Option.map_eq_some_iff.mp hd
      have hi : i < cs.length := (List.getElem?_eq_some_iff.mp ec).1
      obtain ⟨p, ep, p0, p1, p2⟩ := next_ev i (by omega) ps hg (by omega) 0 [.lst (ps.map dP)] rfl c
      refine ⟨_, rfl, [some (SL ns), some (.ref 0), some (.int c), none, none, none, none], [.lst ((ps ++ [p]).map dP)], .inl ?_, ps ++ [p], _, rfl, rfl, by simp [hl], fun q hq => ?_⟩
      · have hs : ps.length < 16777216 := by omega
        unfold bodyOf w_law_0
        rw [iexs_nx (σ' := [some (SL ns), some (.ref 0), some (.int c), none, none, none, none]) (M' := [.lst ((ps ++ [p]).map dP)]) (by
          rw [ix_app]
          simp only [iev, ievs, slot_zero, slot_succ, set_zero, set_succ, Res.bind_ok, fl7]
          rw [show isLst [MO.lst (ps.map dP)] (.ref 0) = some 0 from rfl]
          simp only [Res.of_some, Res.bind_ok]
          rw [ep]
          simp only [Res.bind_ok, List.getElem?_cons_zero, List.length_map]
          rw [if_pos (by rw [sizeLine_eq]; exact hs), List.map_append]
          rfl)]
        rfl
      · simp at hq
        rcases hq with hq | rfl
        · obtain ⟨a, b, c⟩ := hg q hq
          exact ⟨a, by omega, c⟩
        · exact ⟨p0, p1, p2⟩)
  obtain ⟨ps, y, rfl, rfl, hl, hg⟩ := hI
  rw [List.length_map] at hl hg
  exact ⟨ps, y, e, hl, fun p hp => ⟨(hg p hp).1, by have := (hg p hp).2.1; omega, (hg p hp).2.2⟩⟩
theorem at_ps (M : Mem) {ps : List (List Stp)} (hM : M[0]? = some (.lst (ps.map dP))) {k : Int} (h0 : 0 ≤ k) (hk : k < ps.length) (hl : ps.length ≤ 1000) : ∃ p ∈ ps, idx M (.ref 0) (.int k) = some (dP p) := by
  have hk' : k.toNat < ps.length := by omega
  refine ⟨ps[k.toNat], List.getElem_mem hk', ?_⟩
  rw [idx_ref hM, atI_pos h0 (by omega), List.getElem?_map, List.getElem?_eq_getElem hk']
  rfl
theorem turn_law (ns : List Int) (ps : List (List Stp)) (hp : Gd 40 ps) (hl : ps.length ≤ ns.length) (h63 : ns.length ≤ 63) (M : Mem) (hM : M[0]? = some (.lst (ps.map dP))) (k : Nat) (hk : k < ps.length) (a b c d : Option D) :
    ∃ b' c' d' J, bodyOf F_law w_law_1 [some (SL ns), some (.ref 0), a, some (.int (0 + (k : Nat))), b, c, d] M = .ok (.nx [some (SL ns), some (.ref 0), a, some (.int (0 + (k : Nat))), b', c', d']) (M ++ J) := by
  obtain ⟨n, en⟩ : ∃ n, ns[k]? = some n := ⟨_, List.getElem?_eq_getElem (by omega)⟩
  obtain ⟨m, em, m0, m1⟩ := mixed_ev n 1 (by decide) M
  have en' : idx M (SL ns) (.int (0 + (k : Nat))) = some (.int n) := by
    unfold SL
    rw [idx_lst, Int.zero_add]
    exact atI_nat (by rw [List.getElem?_map, en]; rfl)
  obtain ⟨p, hpp, ep⟩ := at_ps M hM (k := 0 + (k : Nat)) (by omega) (by omega) (by omega)
  have j0 := Int.emod_nonneg (m / 12 + (0 + (k : Nat))) (b := (ps.length : Int)) (by omega)
  have j1 := Int.emod_lt_of_pos (m / 12 + (0 + (k : Nat))) (b := (ps.length : Int)) (by omega)
  obtain ⟨q, hqq, eq⟩ := at_ps M hM j0 j1 (by omega)
  have lenM : pev .len [.ref 0] M = some (.int ps.length) := by rw [len_ref hM, List.length_map]
  have two : ∀ c d : Option D, iev F_law (.idx (.var 1) (.bin .mod (.bin .add (.bin .fdiv (.var 4) (.lit (.int 12))) (.var 3)) (.prim .len (.cons (.var 1) .nil)))) [some (SL ns), some (.ref 0), a, some (.int (0 + (k : Nat))), some (.int m), c, d] M = .ok (dP q) M := by
    intro c d
    simp only [iev, ievs, slot_zero, slot_succ, Res.bind_ok]
    rw [bop_fdiv (by decide) (by decide)]
    simp only [Res.of_some, Res.bind_ok, bop_add_int, lenM]
    rw [bop_mod (by omega)]
    simp only [Res.of_some, Res.bind_ok, eq]
  have one : ∀ b c d : Option D, iev F_law (.idx (.var 1) (.var 3)) [some (SL ns), some (.ref 0), a, some (.int (0 + (k : Nat))), b, c, d] M = .ok (dP p) M := by
    intro b c d
    simp only [iev, ievs, slot_zero, slot_succ, Res.bind_ok, ep, Res.of_some]
  unfold bodyOf w_law_1
  rw [iexs_nx (σ' := [some (SL ns), some (.ref 0), a, some (.int (0 + (k : Nat))), some (.int m), c, d]) (M' := M) (by
    simp only [ix_set, iev, ievs, slot_zero, slot_succ, Res.bind_ok, en', Res.of_some, fl3]
    rw [em]
    rfl)]
  rw [iexs_nx (σ' := [some (SL ns), some (.ref 0), a, some (.int (0 + (k : Nat))), some (.int m), some (dP p), d]) (M' := M) (by rw [ix_set, one]; rfl)]
  rw [iexs_nx (σ' := [some (SL ns), some (.ref 0), a, some (.int (0 + (k : Nat))), some (.int m), some (dP p), some (dP q)]) (M' := M) (by rw [ix_set, two]; rfl)]
  have w2 := Int.emod_nonneg m (b := 2) (by decide)
  obtain ⟨l, r, hl', hr', e3⟩ : ∃ l r, l ∈ ps ∧ r ∈ ps ∧ iex F_law (.iff (.cmp .eq (.bin .mod (.var 4) (.lit (.int 2))) (.lit (.int 1)))
    (.cons (.set 5 (.idx (.var 1) (.bin .mod (.bin .add (.bin .fdiv (.var 4) (.lit (.int 12))) (.var 3)) (.prim .len (.cons (.var 1) .nil)))))
    (.cons (.set 6 (.idx (.var 1) (.var 3)))
    .nil))
    .nil) [some (SL ns), some (.ref 0), a, some (.int (0 + (k : Nat))), some (.int m), some (dP p), some (dP q)] M = .ok (.nx [some (SL ns), some (.ref 0), a, some (.int (0 + (k : Nat))), some (.int m), some (dP l), some (dP r)]) M := by
    have ec : iev F_law (.cmp .eq (.bin .mod (.var 4) (.lit (.int 2))) (.lit (.int 1))) [some (SL ns), some (.ref 0), a, some (.int (0 + (k : Nat))), some (.int m), some (dP p), some (dP q)] M = .ok (.bl (decide (m % 2 = 1))) M := by
      simp only [iev, slot_zero, slot_succ, Res.bind_ok]
      rw [bop_mod (by decide)]
      simp only [Res.of_some, Res.bind_ok, cop_eq_int]
    by_cases h : m % 2 = 1
    · refine ⟨q, p, hqq, hpp, ?_⟩
      rw [ix_iff, ec, decide_eq_true h]
      simp only [Res.bind_ok, asB_bl, if_t]
      rw [iexs_nx (σ' := [some (SL ns), some (.ref 0), a, some (.int (0 + (k : Nat))), some (.int m), some (dP q), some (dP q)]) (M' := M) (by rw [ix_set, two]; rfl),
        iexs_nx (σ' := [some (SL ns), some (.ref 0), a, some (.int (0 + (k : Nat))), some (.int m), some (dP q), some (dP p)]) (M' := M) (by rw [ix_set, one]; rfl)]
      rfl
    · refine ⟨p, q, hpp, hqq, ?_⟩
      rw [ix_iff, ec, decide_eq_false h]
      rfl
  rw [iexs_nx e3]
  obtain ⟨l2, hl2, e4⟩ : ∃ l2, (l2 ∈ ps ∨ l2 = []) ∧ iex F_law (.iff (.cmp .eq (.bin .mod (.bin .fdiv (.var 4) (.lit (.int 2))) (.lit (.int 6))) (.lit (.int 4)))
    (.cons (.set 5 (.tup .nil))
    .nil)
    .nil) [some (SL ns), some (.ref 0), a, some (.int (0 + (k : Nat))), some (.int m), some (dP l), some (dP r)] M = .ok (.nx [some (SL ns), some (.ref 0), a, some (.int (0 + (k : Nat))), some (.int m), some (dP l2), some (dP r)]) M := by
    have ec : iev F_law (.cmp .eq (.bin .mod (.bin .fdiv (.var 4) (.lit (.int 2))) (.lit (.int 6))) (.lit (.int 4))) [some (SL ns), some (.ref 0), a, some (.int (0 + (k : Nat))), some (.int m), some (dP l), some (dP r)] M = .ok (.bl (decide (m / 2 % 6 = 4))) M := by
      simp only [iev, slot_zero, slot_succ, Res.bind_ok]
      rw [bop_fdiv (by decide) (by decide)]
      simp only [Res.of_some, Res.bind_ok]
      rw [bop_mod (by decide)]
      simp only [Res.of_some, Res.bind_ok, cop_eq_int]
    by_cases h : m / 2 % 6 = 4
    · refine ⟨[], .inr rfl, ?_⟩
      rw [ix_iff, ec, decide_eq_true h]
      simp only [Res.bind_ok, asB_bl, if_t]
      rw [iexs_nx (σ' := [some (SL ns), some (.ref 0), a, some (.int (0 + (k : Nat))), some (.int m), some (dP []), some (dP r)]) (M' := M) (by
        simp only [ix_set, iev, ievs, Res.bind_ok]
        rw [small_ok (by simp), if_t]
        rfl)]
      rfl
    · refine ⟨l, .inl hl', ?_⟩
      rw [ix_iff, ec, decide_eq_false h]
      rfl
  rw [iexs_nx e4]
  obtain ⟨R, hR, e5⟩ : ∃ R, (R = .non ∨ R = dP r) ∧ iex F_law (.iff (.or (.cmp .eq (.bin .mod (.bin .fdiv (.var 4) (.lit (.int 2))) (.lit (.int 6))) (.lit (.int 5))) (.cmp .eq (.bin .mod (.bin .mod (.var 4) (.lit (.int 2000003))) (.lit (.int 36))) (.lit (.int 7))))
    (.cons (.set 6 (.lit .non))
    .nil)
    .nil) [some (SL ns), some (.ref 0), a, some (.int (0 + (k : Nat))), some (.int m), some (dP l2), some (dP r)] M = .ok (.nx [some (SL ns), some (.ref 0), a, some (.int (0 + (k : Nat))), some (.int m), some (dP l2), some R]) M := by
    obtain ⟨B, ec⟩ : ∃ B, iev F_law (.or (.cmp .eq (.bin .mod (.bin .fdiv (.var 4) (.lit (.int 2))) (.lit (.int 6))) (.lit (.int 5))) (.cmp .eq (.bin .mod (.bin .mod (.var 4) (.lit (.int 2000003))) (.lit (.int 36))) (.lit (.int 7)))) [some (SL ns), some (.ref 0), a, some (.int (0 + (k : Nat))), some (.int m), some (dP l2), some (dP r)] M = .ok (.bl B) M := by
      refine ⟨if decide (m / 2 % 6 = 5) = true then true else decide (m % 2000003 % 36 = 7), ?_⟩
      simp only [iev, slot_zero, slot_succ, Res.bind_ok]
      rw [bop_fdiv (by decide) (by decide)]
      simp only [Res.of_some, Res.bind_ok]
      rw [bop_mod (by decide)]
      simp only [Res.of_some, Res.bind_ok, cop_eq_int, asB_bl]
      rw [bop_mod (by decide)]
      simp only [Res.of_some, Res.bind_ok]
      rw [bop_mod (by decide)]
      simp only [Res.of_some, Res.bind_ok, cop_eq_int]
      cases decide (m / 2 % 6 = 5) <;> simp only [if_t, if_f, Bool.false_eq_true, if_false, if_true]
    cases B with
    | true =>
      refine ⟨.non, .inl rfl, ?_⟩
      rw [ix_iff, ec]
      rfl
    | false =>
      refine ⟨dP r, .inr rfl, ?_⟩
      rw [ix_iff, ec]
      rfl
  rw [iexs_nx e5]
  obtain ⟨x, ex, gx⟩ := hand_ev m ⟨m0, by omega⟩ M
  have gl2 : gP l2 ∧ l2.length ≤ 200 := by
    rcases hl2 with h | rfl
    · exact ⟨(hp l2 h).2.2, by have := (hp l2 h).2.1; omega⟩
    · exact ⟨fun s h => (by cases h), (by simp)⟩
  have gR : R = .non ∨ ∃ r, R = dP r ∧ gP r ∧ r.length ≤ 200 := by
    rcases hR with rfl | rfl
    · exact .inl rfl
    · exact .inr ⟨r, rfl, (hp r hr').2.2, by have := (hp r hr').2.1; omega⟩
  obtain ⟨J, eg⟩ := given_ev M x (1 + m / 5) gx R l2 gl2.1 gl2.2 gR
  refine ⟨some (.int m), some (dP l2), some R, J, ?_⟩
  rw [iexs_nx (σ' := [some (SL ns), some (.ref 0), a, some (.int (0 + (k : Nat))), some (.int m), some (dP l2), some R]) (M' := M ++ J) (by
    rw [ix_iff]
    simp only [iev, ievs, slot_zero, slot_succ, Res.bind_ok, fl4]
    rw [ex]
    simp only [Res.bind_ok]
    rw [bop_fdiv (by decide) (by decide)]
    simp only [Res.of_some, Res.bind_ok, bop_add_int]
    rw [small_ok (by simp), if_t]
    simp only [Res.bind_ok, fl10]
    rw [eg]
    rfl)]
  rfl
theorem loop_law (ns : List Int) (ps : List (List Stp)) (hp : Gd 40 ps) (hl : ps.length ≤ ns.length) (h63 : ns.length ≤ 63) (y : Option D) :
    ∃ σ M, forL (bodyOf F_law w_law_1) (.name 3) (rngL 0 ps.length) [some (SL ns), some (.ref 0), y, none, none, none, none] [.lst (ps.map dP)] = .ok (.nx σ) M ∧ σ.length = 7 := by
  obtain ⟨σ', M', e, hI⟩ := forL_inv (B := bodyOf F_law w_law_1) (t := .name 3) (ds := rngL 0 ps.length) (σ := [some (SL ns), some (.ref 0), y, none, none, none, none]) (M := [.lst (ps.map dP)])
    (fun i σ M' => M'[0]? = some (.lst (ps.map dP)) ∧ ∃ a b c d, σ = [some (SL ns), some (.ref 0), y, a, b, c, d])
    ⟨rfl, _, _, _, _, rfl⟩ (fun i d σ M' hd hI => by
      obtain ⟨hM, a, b, c, d, rfl⟩ := hI
      obtain ⟨hi, rfl⟩ := rng_get hd
      obtain ⟨b', c', d', J, e⟩ := turn_law ns ps hp hl h63 M' hM i hi y b c d
      exact ⟨_, rfl, _, _, .inl e, Ext.get ⟨J, rfl⟩ hM, _, _, _, _, rfl⟩)
  obtain ⟨_, a, b, c, d, rfl⟩ := hI
  exact ⟨_, _, e, rfl⟩
theorem sli_S (M : Mem) (ns : List Int) : sli M (SL ns) none (some 40) = some (.lst ((ns.take 40).map D.int)) := by
  have e : (40 : Int) = ((40 : Nat) : Int) := rfl
  unfold SL
  rw [sli_lst, e, cut_to, List.map_take]
theorem main_sli (ns : List Int) : iev F_law (.sli (.var 0) .none (.some (.lit (.int 40)))) [some (SL ns), some (.ref 0), none, none, none, none, none] [.lst []] = .ok (.lst ((ns.take 40).map D.int)) [.lst []] := by
  have e0 : iev F_law (.var 0) [some (SL ns), some (.ref 0), none, none, none, none, none] [.lst []] = .ok (SL ns) [.lst []] := rfl
  have e1 : ievo F_law (.some (.lit (.int 40))) [some (SL ns), some (.ref 0), none, none, none, none, none] [.lst []] = .ok (some 40) [.lst []] := by simp only [ievo, iev, Res.bind_ok]
  have e2 : ievo F_law .none [some (SL ns), some (.ref 0), none, none, none, none, none] [.lst []] = .ok none [.lst []] := by simp only [ievo]
  rw [iev, e0, Res.bind_ok, e2, Res.bind_ok, e1, Res.bind_ok, sli_S, Res.of_some]
theorem main_seq (ns : List Int) : items F_law (.seq (.sli (.var 0) .none (.some (.lit (.int 40))))) [some (SL ns), some (.ref 0), none, none, none, none, none] [.lst []] = .ok ((ns.take 40).map D.int) [.lst []] := by
  rw [items, main_sli, Res.bind_ok]
theorem main_for (ns : List Int) (σ1 : Slots) (M1 : Mem) (e1 : forL (bodyOf F_law w_law_0) (.name 2) ((ns.take 40).map D.int) [some (SL ns), some (.ref 0), none, none, none, none, none] [.lst []] = .ok (.nx σ1) M1) :
    iex F_law (.forr (.name 2) (.seq (.sli (.var 0) .none (.some (.lit (.int 40))))) w_law_0) [some (SL ns), some (.ref 0), none, none, none, none, none] [.lst []] = .ok (.nx σ1) M1 := by
  have e0 := main_seq ns
  rw [ix_for, e0, Res.bind_ok]
  exact e1
theorem main_len (ns : List Int) (ps : List (List Stp)) (y : Option D) : iev F_law (.prim .len (.cons (.var 1) .nil)) [some (SL ns), some (.ref 0), y, none, none, none, none] [.lst (ps.map dP)] = .ok (.int ps.length) [.lst (ps.map dP)] := by
  have hM : ([.lst (ps.map dP)] : Mem)[0]? = some (.lst (ps.map dP)) := rfl
  have e0 : iev F_law (.var 1) [some (SL ns), some (.ref 0), y, none, none, none, none] [.lst (ps.map dP)] = .ok (.ref 0) [.lst (ps.map dP)] := rfl
  rw [iev, ievs, e0, Res.bind_ok, ievs, Res.bind_ok, Res.bind_ok, len_ref hM, List.length_map, Res.of_some]
theorem rng_nat (F : Fn) (e : IE) (σ : Slots) (M M1 : Mem) (n : Nat) (hn : n ≤ 1000) (h : iev F e σ M = .ok (.int n) M1) : items F (.rng1 e) σ M = .ok (rngL 0 n) M1 := by
  rw [items, h, Res.bind_ok]
  exact if_pos (small62_ok (by omega) (by omega))
theorem main_rng (ns : List Int) (ps : List (List Stp)) (hl : ps.length ≤ 63) (y : Option D) : items F_law (.rng1 (.prim .len (.cons (.var 1) .nil))) [some (SL ns), some (.ref 0), y, none, none, none, none] [.lst (ps.map dP)] = .ok (rngL 0 ps.length) [.lst (ps.map dP)] :=
  rng_nat F_law _ _ _ _ ps.length (by omega) (main_len ns ps y)
theorem main_for2 (ns : List Int) (ps : List (List Stp)) (hl : ps.length ≤ 63) (y : Option D) (σ1 : Slots) (M1 : Mem) (e2 : forL (bodyOf F_law w_law_1) (.name 3) (rngL 0 ps.length) [some (SL ns), some (.ref 0), y, none, none, none, none] [.lst (ps.map dP)] = .ok (.nx σ1) M1) :
    iex F_law (.forr (.name 3) (.rng1 (.prim .len (.cons (.var 1) .nil))) w_law_1) [some (SL ns), some (.ref 0), y, none, none, none, none] [.lst (ps.map dP)] = .ok (.nx σ1) M1 := by
  rw [ix_for, main_rng ns ps hl y, Res.bind_ok]
  exact e2
theorem main_end (σ : Slots) (M : Mem) : iex F_law (.ret (.cmp .eq (.call 2 (.cons (.tup .nil) (.cons (.lit .non) .nil))) (.tup (.cons (.tup .nil) (.cons (.lit (.int 1)) .nil))))) σ M = .ok (.ret (.bl true)) M := by
  have g : d_gap [.tup [], .non] M = .ok (.tup [.tup [], .int 1]) M := gap_none [] M
  have q : deq M (.tup [.tup [], .int 1]) (.tup [.tup [], .int 1]) = some true := due_eq M (p := []) (fun s h => by cases h) 1
  have s0 : small [] = true := small_ok (by simp)
  have s2 : small [.tup [], .int 1] = true := small_ok (by simp)
  simp only [ix_ret, iev, ievs, Res.bind_ok, fl2, s0, s2, if_true, g, cop, q, Res.of_some]
theorem main_newl (S : D) : iex F_law (.newl 1 .nil) [some S, none, none, none, none, none, none] [] = .ok (.nx [some S, some (.ref 0), none, none, none, none, none]) [.lst []] := by
  have s0 : small [] = true := small_ok (by simp)
  simp only [ix_newl, ievs, Res.bind_ok, s0, if_true, set_zero, set_succ, List.length_nil, List.nil_append]
theorem main (ns : List Int) (h63 : ns.length ≤ 63) : ∃ M, d_law [.lst (ns.map D.int)] [] = .ok (.bl true) M := by
  obtain ⟨ps, y, e1, hl, hp⟩ := loop_met ns (ns.take 40) (by simp; omega)
  rw [List.length_take] at hl
  obtain ⟨σ, M, e2, hσ⟩ := loop_law ns ps hp (by omega) h63 y
  refine ⟨M, run_ret (σ := [some (SL ns), none, none, none, none, none, none]) rfl rfl ?_⟩
  unfold b_law
  rw [iexs_nx (main_newl _), iexs_nx (main_for ns _ _ e1), iexs_nx (main_for2 ns ps (by omega) y _ _ e2)]
  exact iexs_ret (main_end σ M)
end K33
namespace K33
open PySem PySem.Spec PyProof.Rows L2 Cm
section
variable {P : Program} {w : World} {K : PySem.W.Frag} {mg : Str → Option Value} {h : Heap}
theorem txt (X : K.In h) (G : h.Ns mainGlobals mg)
    {f0 : Addr} {od0 an0 : Option Addr} {sl0 : Array (Option Value)} {oc0 kV0 dc0 pm0 cd0 ct0 : Value}
    {f1 : Addr} {od1 an1 : Option Addr} {sl1 : Array (Option Value)} {oc1 kV1 dc1 pm1 cd1 ct1 : Value}
    {f2 : Addr} {od2 an2 : Option Addr} {sl2 : Array (Option Value)} {oc2 kV2 dc2 pm2 cd2 ct2 : Value}
    {f3 : Addr} {od3 an3 : Option Addr} {sl3 : Array (Option Value)} {oc3 kV3 dc3 pm3 cd3 ct3 : Value}
    {f4 : Addr} {od4 an4 : Option Addr} {sl4 : Array (Option Value)} {oc4 kV4 dc4 pm4 cd4 ct4 : Value}
    {f5 : Addr} {od5 an5 : Option Addr} {sl5 : Array (Option Value)} {oc5 kV5 dc5 pm5 cd5 ct5 : Value}
    {f6 : Addr} {od6 an6 : Option Addr} {sl6 : Array (Option Value)} {oc6 kV6 dc6 pm6 cd6 ct6 : Value}
    {f7 : Addr} {od7 an7 : Option Addr} {sl7 : Array (Option Value)} {oc7 kV7 dc7 pm7 cd7 ct7 : Value}
    {f8 : Addr} {od8 an8 : Option Addr} {sl8 : Array (Option Value)} {oc8 kV8 dc8 pm8 cd8 ct8 : Value}
    {f9 : Addr} {od9 an9 : Option Addr} {sl9 : Array (Option Value)} {oc9 kV9 dc9 pm9 cd9 ct9 : Value}
    {f10 : Addr} {od10 an10 : Option Addr} {sl10 : Array (Option Value)} {oc10 kV10 dc10 pm10 cd10 ct10 : Value}
    {f11 : Addr} {od11 an11 : Option Addr} {sl11 : Array (Option Value)} {oc11 kV11 dc11 pm11 cd11 ct11 : Value}
    (a0 : PySem.W.nsIn K mainGlobals "place_key" = some (some (.ref f0))) (l0 : K.lookup f0 = some ⟨oc0, od0, .func (PySem.W.fnOf "place_key" "place_key" (defArgs s_place_key) (defBody s_place_key) (defScope s_place_key) .none kV0 dc0 pm0 an0 cd0 ct0), sl0⟩) (c0 : PySem.W.codeIn K cd0 "place_key" = true) (k0 : PySem.W.keepIn K (.ref f0) = true)
    (a1 : PySem.W.nsIn K mainGlobals "before" = some (some (.ref f1))) (l1 : K.lookup f1 = some ⟨oc1, od1, .func (PySem.W.fnOf "before" "before" (defArgs s_before) (defBody s_before) (defScope s_before) .none kV1 dc1 pm1 an1 cd1 ct1), sl1⟩) (c1 : PySem.W.codeIn K cd1 "before" = true) (k1 : PySem.W.keepIn K (.ref f1) = true)
    (a2 : PySem.W.nsIn K mainGlobals "gap" = some (some (.ref f2))) (l2 : K.lookup f2 = some ⟨oc2, od2, .func (PySem.W.fnOf "gap" "gap" (defArgs s_gap) (defBody s_gap) (defScope s_gap) .none kV2 dc2 pm2 an2 cd2 ct2), sl2⟩) (c2 : PySem.W.codeIn K cd2 "gap" = true) (k2 : PySem.W.keepIn K (.ref f2) = true)
    (a3 : PySem.W.nsIn K mainGlobals "_law_mixed" = some (some (.ref f3))) (l3 : K.lookup f3 = some ⟨oc3, od3, .func (PySem.W.fnOf "_law_mixed" "_law_mixed" (defArgs s_mixed) (defBody s_mixed) (defScope s_mixed) .none kV3 dc3 pm3 an3 cd3 ct3), sl3⟩) (c3 : PySem.W.codeIn K cd3 "_law_mixed" = true) (k3 : PySem.W.keepIn K (.ref f3) = true)
    (a4 : PySem.W.nsIn K mainGlobals "_law_hand" = some (some (.ref f4))) (l4 : K.lookup f4 = some ⟨oc4, od4, .func (PySem.W.fnOf "_law_hand" "_law_hand" (defArgs s_hand) (defBody s_hand) (defScope s_hand) .none kV4 dc4 pm4 an4 cd4 ct4), sl4⟩) (c4 : PySem.W.codeIn K cd4 "_law_hand" = true) (k4 : PySem.W.keepIn K (.ref f4) = true)
    (a5 : PySem.W.nsIn K mainGlobals "_law_step" = some (some (.ref f5))) (l5 : K.lookup f5 = some ⟨oc5, od5, .func (PySem.W.fnOf "_law_step" "_law_step" (defArgs s_step) (defBody s_step) (defScope s_step) .none kV5 dc5 pm5 an5 cd5 ct5), sl5⟩) (c5 : PySem.W.codeIn K cd5 "_law_step" = true) (k5 : PySem.W.keepIn K (.ref f5) = true)
    (a6 : PySem.W.nsIn K mainGlobals "_law_changed" = some (some (.ref f6))) (l6 : K.lookup f6 = some ⟨oc6, od6, .func (PySem.W.fnOf "_law_changed" "_law_changed" (defArgs s_changed) (defBody s_changed) (defScope s_changed) .none kV6 dc6 pm6 an6 cd6 ct6), sl6⟩) (c6 : PySem.W.codeIn K cd6 "_law_changed" = true) (k6 : PySem.W.keepIn K (.ref f6) = true)
    (a7 : PySem.W.nsIn K mainGlobals "_law_next" = some (some (.ref f7))) (l7 : K.lookup f7 = some ⟨oc7, od7, .func (PySem.W.fnOf "_law_next" "_law_next" (defArgs s_next) (defBody s_next) (defScope s_next) .none kV7 dc7 pm7 an7 cd7 ct7), sl7⟩) (c7 : PySem.W.codeIn K cd7 "_law_next" = true) (k7 : PySem.W.keepIn K (.ref f7) = true)
    (a8 : PySem.W.nsIn K mainGlobals "_law_is_before" = some (some (.ref f8))) (l8 : K.lookup f8 = some ⟨oc8, od8, .func (PySem.W.fnOf "_law_is_before" "_law_is_before" (defArgs s_is_before) (defBody s_is_before) (defScope s_is_before) .none kV8 dc8 pm8 an8 cd8 ct8), sl8⟩) (c8 : PySem.W.codeIn K cd8 "_law_is_before" = true) (k8 : PySem.W.keepIn K (.ref f8) = true)
    (a9 : PySem.W.nsIn K mainGlobals "_law_refused" = some (some (.ref f9))) (l9 : K.lookup f9 = some ⟨oc9, od9, .func (PySem.W.fnOf "_law_refused" "_law_refused" (defArgs s_refused) (defBody s_refused) (defScope s_refused) .none kV9 dc9 pm9 an9 cd9 ct9), sl9⟩) (c9 : PySem.W.codeIn K cd9 "_law_refused" = true) (k9 : PySem.W.keepIn K (.ref f9) = true)
    (a10 : PySem.W.nsIn K mainGlobals "_law_given" = some (some (.ref f10))) (l10 : K.lookup f10 = some ⟨oc10, od10, .func (PySem.W.fnOf "_law_given" "_law_given" (defArgs s_given) (defBody s_given) (defScope s_given) .none kV10 dc10 pm10 an10 cd10 ct10), sl10⟩) (c10 : PySem.W.codeIn K cd10 "_law_given" = true) (k10 : PySem.W.keepIn K (.ref f10) = true)
    (a11 : PySem.W.nsIn K mainGlobals "law" = some (some (.ref f11))) (l11 : K.lookup f11 = some ⟨oc11, od11, .func (PySem.W.fnOf "law" "law" (defArgs s_law) (defBody s_law) (defScope s_law) .none kV11 dc11 pm11 an11 cd11 ct11), sl11⟩) (c11 : PySem.W.codeIn K cd11 "law" = true) (k11 : PySem.W.keepIn K (.ref f11) = true)
    (z0 : PySem.W.nsIn K mainGlobals "len" = some none)
    (z1 : PySem.W.nsIn K mainGlobals "min" = some none)
    (z2 : PySem.W.nsIn K mainGlobals "max" = some none)
    (z3 : PySem.W.nsIn K mainGlobals "isinstance" = some none)
    (z4 : PySem.W.nsIn K mainGlobals "range" = some none)
    (z5 : PySem.W.nsIn K mainGlobals "tuple" = some none)
    (z6 : PySem.W.nsIn K mainGlobals "str" = some none)
    (z7 : PySem.W.nsIn K mainGlobals "int" = some none)
    (z8 : PySem.W.nsIn K mainGlobals "bool" = some none)
    (z9 : PySem.W.nsIn K mainGlobals "list" = some none)
    {C B fI : Addr} {nm q : Str} {N : Addr} {bs bm : List Value} {sn : List Str} {sub : List Value} {ab : Bool} {col : Option Bool} {dd : Option Addr} {m0 m1 m2 m3 m5 : Option Value} {odI anI : Option Addr} {slI : Array (Option Value)} {ocI kVI dcI pmI cdI ctI : Value}
    {T2 : Addr}
    {T3 : Addr}
    {T4 : Addr}
    {T5 : Addr}
    (xn : PySem.W.nsIn K mainGlobals "NoPlace" = some (some (.ref C)))
    (xl : K.lookup C = some (excClassObj nm q C N bs bm true sn sub ab col dd m0 m1 m2 m3 m5 "ValueError.__new__"))
    (xr : PySem.HandSPX.refsVE bm = true)
    (xs : PySem.W.findIn K (.ref C) "__setattr__" = some (some (.builtin "object.__setattr__")))
    (xe : PySem.W.subIn K (.ref C) (.type "BaseException") = some true)
    (xt : PySem.W.typeIn K (.ref C) = some (.type "type"))
    (xk : PySem.W.keepIn K (.ref C) = true)
    (xf : PySem.W.findIn K (.ref C) "place" = some none)
    (y1 : PySem.W.findIn K (.ref C) "__getattribute__" = some (some (.builtin "BaseException.__getattribute__")))
    (y2 : PySem.W.findIn K (.ref C) "__getattr__" = some none)
    (y4 : PySem.W.hasDictIn K C = true)
    (y5 : PySem.W.findIn K (.ref C) "__class__" = some (some (.builtin "object.__class__")))
    (y6 : PySem.W.specialIn K (.builtin "object.__class__") "__get__" = some (some (.builtin "getset_descriptor.__get__")))
    (y7 : PySem.W.takesIn K (.builtin "object.__class__") = some true)
    (y8 : PySem.W.mroIn K C (.type "object") = some true)
    (ii : PySem.W.findIn K (.ref C) "__init__" = some (some (.ref fI)))
    (it : PySem.W.typeIn K (.ref fI) = some (.type "function"))
    (il : K.lookup fI = some ⟨ocI, odI, .func (PySem.W.fnOf "__init__" "NoPlace.__init__" (defArgs (inClass (topS 3) 0)) (defBody (inClass (topS 3) 0)) (defScope (inClass (topS 3) 0)) .none kVI dcI pmI anI cdI ctI), slI⟩)
    (ic : PySem.W.codeIn K cdI "NoPlace.__init__" = true)
    (ik : PySem.W.keepIn K (.ref fI) = true)
    (bn : PySem.W.nsIn K mainGlobals "MeetError" = some (some (.ref B)))
    (bg : PySem.W.specialIn K (.ref B) "__getattribute__" = some (some (.builtin "type.__getattribute__")))
    (br : PySem.W.readsIn K B (.type "type") = true)
    (bv : PySem.W.findCls K (.ref B) (.type "type") "__init__" = some (.val (.builtin "ValueError.__init__")))
    (t1 : PySem.W.nsIn K mainGlobals "ValueError" = some none)
    (t2 : PySem.W.nsIn K mainGlobals "NoThing" = some (some (.ref T2)))
    (t3 : PySem.W.nsIn K mainGlobals "Ring" = some (some (.ref T3)))
    (t4 : PySem.W.nsIn K mainGlobals "Swept" = some (some (.ref T4)))
    (t5 : PySem.W.nsIn K mainGlobals "MeetError" = some (some (.ref T5)))
    (s1 : PySem.W.subIn K (.ref C) (.type "ValueError") = some true)
    (s2 : PySem.W.subIn K (.ref C) (.ref T2) = some false)
    (jt2 : PySem.W.typeIn K (.ref T2) = some (.type "type"))
    (w2 : (Value.ref C == Value.ref T2) = false)
    (j2 : PySem.W.isClsIn K T2 = true)
    (s3 : PySem.W.subIn K (.ref C) (.ref T3) = some false)
    (jt3 : PySem.W.typeIn K (.ref T3) = some (.type "type"))
    (w3 : (Value.ref C == Value.ref T3) = false)
    (j3 : PySem.W.isClsIn K T3 = true)
    (s4 : PySem.W.subIn K (.ref C) (.ref T4) = some false)
    (jt4 : PySem.W.typeIn K (.ref T4) = some (.type "type"))
    (w4 : (Value.ref C == Value.ref T4) = false)
    (j4 : PySem.W.isClsIn K T4 = true)
    (s5 : PySem.W.subIn K (.ref C) (.ref T5) = some true)
    (jt5 : PySem.W.typeIn K (.ref T5) = some (.type "type"))
    (e5 : PySem.W.subIn K (.ref T5) (.type "BaseException") = some true)
    (d5 : PySem.W.hasDictIn K T5 = true) : Txt P w K mg := by
  have ox : OexC K C := ⟨⟨nm, q, N, bs, bm, sn, sub, ab, col, dd, m0, m1, m2, m3, m5, xl, xr⟩, xs, xe, xt, xk⟩
  have ea : ErrAt K mg "NoPlace" "place" C := ⟨xn, PySem.W.mg_of X G xn, ox, xf, ⟨y1, y2, xe, y4, y5, y6, y7, y8⟩⟩
  have bc : BaseC K mg "MeetError" B := ⟨PySem.W.mg_of X G bn, bg, br, bv⟩
  have ia : ∀ base : Heap, InitAt P w K mg base "place" C := fun base => init_at (q := "NoPlace.__init__") (st := inClass (topS 3) 0) il ic ik ii it (fun _ _ _ _ _ _ us hl => match us, hl with | [_, _], _ => rfl) ⟨rfl, rfl, rfl, by decide +kernel, rfl, by decide +kernel, by decide +kernel⟩ rfl (by decide +kernel) (by decide +kernel) (by decide +kernel) (by decide +kernel) (by decide +kernel) (fun _ => ⟨_, rfl⟩) bc ox xf
  exact {
    bl := fun x hx => by
      simp only [blts, List.mem_cons, List.not_mem_nil, or_false] at hx
      rcases hx with rfl | rfl | rfl | rfl | rfl | rfl | rfl | rfl | rfl | rfl
      · exact PySem.W.mg_none_of X G z0
      · exact PySem.W.mg_none_of X G z1
      · exact PySem.W.mg_none_of X G z2
      · exact PySem.W.mg_none_of X G z3
      · exact PySem.W.mg_none_of X G z4
      · exact PySem.W.mg_none_of X G z5
      · exact PySem.W.mg_none_of X G z6
      · exact PySem.W.mg_none_of X G z7
      · exact PySem.W.mg_none_of X G z8
      · exact PySem.W.mg_none_of X G z9
    a_place_key := def_at X G (fun _ _ _ _ _ _ us hl => match us, hl with | [_], _ => rfl) a0 l0 c0 k0
    a_before := def_at X G (fun _ _ _ _ _ _ us hl => match us, hl with | [_, _], _ => rfl) a1 l1 c1 k1
    a_gap := def_at X G (fun _ _ _ _ _ _ us hl => match us, hl with | [_, _], _ => rfl) a2 l2 c2 k2
    a_mixed := def_at X G (fun _ _ _ _ _ _ us hl => match us, hl with | [_, _], _ => rfl) a3 l3 c3 k3
    a_hand := def_at X G (fun _ _ _ _ _ _ us hl => match us, hl with | [_], _ => rfl) a4 l4 c4 k4
    a_step := def_at X G (fun _ _ _ _ _ _ us hl => match us, hl with | [_], _ => rfl) a5 l5 c5 k5
    a_changed := def_at X G (fun _ _ _ _ _ _ us hl => match us, hl with | [_, _], _ => rfl) a6 l6 c6 k6
    a_next := def_at X G (fun _ _ _ _ _ _ us hl => match us, hl with | [_, _], _ => rfl) a7 l7 c7 k7
    a_is_before := def_at X G (fun _ _ _ _ _ _ us hl => match us, hl with | [_, _], _ => rfl) a8 l8 c8 k8
    a_refused := def_at X G (fun _ _ _ _ _ _ us hl => match us, hl with | [_, _], _ => rfl) a9 l9 c9 k9
    a_given := def_at X G (fun _ _ _ _ _ _ us hl => match us, hl with | [_, _, _], _ => rfl) a10 l10 c10 k10
    a_law := def_at X G (fun _ _ _ _ _ _ us hl => match us, hl with | [_], _ => rfl) a11 l11 c11 k11
    ec := fun base => ecs_one ea (ia base) rfl (fun T tbl hm => by
        simp only [ec, List.mem_cons, Prod.mk.injEq, List.not_mem_nil, or_false] at hm
        rcases hm with ⟨rfl, rfl⟩ | ⟨rfl, rfl⟩ | ⟨rfl, rfl⟩ | ⟨rfl, rfl⟩ | ⟨rfl, rfl⟩
        · exact ⟨.ref C, .ref C, .inl (PySem.W.mg_of X G xn), rfl, fun _ z => z, _, rfl, kit_self⟩
        · exact ⟨.ty "ValueError", .type "ValueError", .inr ⟨PySem.W.mg_none_of X G t1, PyProof.Rows.Boot.«ValueError»⟩, rfl, fun _ z => z, _, rfl, kit_blt (by decide +kernel) s1⟩
        · exact ⟨.ref T2, .ref T2, .inl (PySem.W.mg_of X G t2), rfl, fun _ z => z, _, rfl, kit_own w2 j2 jt2 s2⟩
        · exact ⟨.ref T3, .ref T3, .inl (PySem.W.mg_of X G t3), rfl, fun _ z => z, _, rfl, kit_own w3 j3 jt3 s3⟩
        · exact ⟨.ref T4, .ref T4, .inl (PySem.W.mg_of X G t4), rfl, fun _ z => z, _, rfl, kit_own w4 j4 jt4 s4⟩) (fun T tbl hm => by
        simp only [ec, List.mem_cons, Prod.mk.injEq, List.not_mem_nil, or_false] at hm
        rcases hm with ⟨rfl, rfl⟩
        · exact ⟨.ref T5, .inl (PySem.W.mg_of X G t5), _, rfl, PySem.W.exm_ref e5 d5 jt5 s5⟩) }
theorem fin {fa : Addr} (X : K.In h) (G : h.Ns mainGlobals mg) (hfa : mg "law" = some (.ref fa))
    {f0 : Addr} {od0 an0 : Option Addr} {sl0 : Array (Option Value)} {oc0 kV0 dc0 pm0 cd0 ct0 : Value}
    {f1 : Addr} {od1 an1 : Option Addr} {sl1 : Array (Option Value)} {oc1 kV1 dc1 pm1 cd1 ct1 : Value}
    {f2 : Addr} {od2 an2 : Option Addr} {sl2 : Array (Option Value)} {oc2 kV2 dc2 pm2 cd2 ct2 : Value}
    {f3 : Addr} {od3 an3 : Option Addr} {sl3 : Array (Option Value)} {oc3 kV3 dc3 pm3 cd3 ct3 : Value}
    {f4 : Addr} {od4 an4 : Option Addr} {sl4 : Array (Option Value)} {oc4 kV4 dc4 pm4 cd4 ct4 : Value}
    {f5 : Addr} {od5 an5 : Option Addr} {sl5 : Array (Option Value)} {oc5 kV5 dc5 pm5 cd5 ct5 : Value}
    {f6 : Addr} {od6 an6 : Option Addr} {sl6 : Array (Option Value)} {oc6 kV6 dc6 pm6 cd6 ct6 : Value}
    {f7 : Addr} {od7 an7 : Option Addr} {sl7 : Array (Option Value)} {oc7 kV7 dc7 pm7 cd7 ct7 : Value}
    {f8 : Addr} {od8 an8 : Option Addr} {sl8 : Array (Option Value)} {oc8 kV8 dc8 pm8 cd8 ct8 : Value}
    {f9 : Addr} {od9 an9 : Option Addr} {sl9 : Array (Option Value)} {oc9 kV9 dc9 pm9 cd9 ct9 : Value}
    {f10 : Addr} {od10 an10 : Option Addr} {sl10 : Array (Option Value)} {oc10 kV10 dc10 pm10 cd10 ct10 : Value}
    {f11 : Addr} {od11 an11 : Option Addr} {sl11 : Array (Option Value)} {oc11 kV11 dc11 pm11 cd11 ct11 : Value}
    (a0 : PySem.W.nsIn K mainGlobals "place_key" = some (some (.ref f0))) (l0 : K.lookup f0 = some ⟨oc0, od0, .func (PySem.W.fnOf "place_key" "place_key" (defArgs s_place_key) (defBody s_place_key) (defScope s_place_key) .none kV0 dc0 pm0 an0 cd0 ct0), sl0⟩) (c0 : PySem.W.codeIn K cd0 "place_key" = true) (k0 : PySem.W.keepIn K (.ref f0) = true)
    (a1 : PySem.W.nsIn K mainGlobals "before" = some (some (.ref f1))) (l1 : K.lookup f1 = some ⟨oc1, od1, .func (PySem.W.fnOf "before" "before" (defArgs s_before) (defBody s_before) (defScope s_before) .none kV1 dc1 pm1 an1 cd1 ct1), sl1⟩) (c1 : PySem.W.codeIn K cd1 "before" = true) (k1 : PySem.W.keepIn K (.ref f1) = true)
    (a2 : PySem.W.nsIn K mainGlobals "gap" = some (some (.ref f2))) (l2 : K.lookup f2 = some ⟨oc2, od2, .func (PySem.W.fnOf "gap" "gap" (defArgs s_gap) (defBody s_gap) (defScope s_gap) .none kV2 dc2 pm2 an2 cd2 ct2), sl2⟩) (c2 : PySem.W.codeIn K cd2 "gap" = true) (k2 : PySem.W.keepIn K (.ref f2) = true)
    (a3 : PySem.W.nsIn K mainGlobals "_law_mixed" = some (some (.ref f3))) (l3 : K.lookup f3 = some ⟨oc3, od3, .func (PySem.W.fnOf "_law_mixed" "_law_mixed" (defArgs s_mixed) (defBody s_mixed) (defScope s_mixed) .none kV3 dc3 pm3 an3 cd3 ct3), sl3⟩) (c3 : PySem.W.codeIn K cd3 "_law_mixed" = true) (k3 : PySem.W.keepIn K (.ref f3) = true)
    (a4 : PySem.W.nsIn K mainGlobals "_law_hand" = some (some (.ref f4))) (l4 : K.lookup f4 = some ⟨oc4, od4, .func (PySem.W.fnOf "_law_hand" "_law_hand" (defArgs s_hand) (defBody s_hand) (defScope s_hand) .none kV4 dc4 pm4 an4 cd4 ct4), sl4⟩) (c4 : PySem.W.codeIn K cd4 "_law_hand" = true) (k4 : PySem.W.keepIn K (.ref f4) = true)
    (a5 : PySem.W.nsIn K mainGlobals "_law_step" = some (some (.ref f5))) (l5 : K.lookup f5 = some ⟨oc5, od5, .func (PySem.W.fnOf "_law_step" "_law_step" (defArgs s_step) (defBody s_step) (defScope s_step) .none kV5 dc5 pm5 an5 cd5 ct5), sl5⟩) (c5 : PySem.W.codeIn K cd5 "_law_step" = true) (k5 : PySem.W.keepIn K (.ref f5) = true)
    (a6 : PySem.W.nsIn K mainGlobals "_law_changed" = some (some (.ref f6))) (l6 : K.lookup f6 = some ⟨oc6, od6, .func (PySem.W.fnOf "_law_changed" "_law_changed" (defArgs s_changed) (defBody s_changed) (defScope s_changed) .none kV6 dc6 pm6 an6 cd6 ct6), sl6⟩) (c6 : PySem.W.codeIn K cd6 "_law_changed" = true) (k6 : PySem.W.keepIn K (.ref f6) = true)
    (a7 : PySem.W.nsIn K mainGlobals "_law_next" = some (some (.ref f7))) (l7 : K.lookup f7 = some ⟨oc7, od7, .func (PySem.W.fnOf "_law_next" "_law_next" (defArgs s_next) (defBody s_next) (defScope s_next) .none kV7 dc7 pm7 an7 cd7 ct7), sl7⟩) (c7 : PySem.W.codeIn K cd7 "_law_next" = true) (k7 : PySem.W.keepIn K (.ref f7) = true)
    (a8 : PySem.W.nsIn K mainGlobals "_law_is_before" = some (some (.ref f8))) (l8 : K.lookup f8 = some ⟨oc8, od8, .func (PySem.W.fnOf "_law_is_before" "_law_is_before" (defArgs s_is_before) (defBody s_is_before) (defScope s_is_before) .none kV8 dc8 pm8 an8 cd8 ct8), sl8⟩) (c8 : PySem.W.codeIn K cd8 "_law_is_before" = true) (k8 : PySem.W.keepIn K (.ref f8) = true)
    (a9 : PySem.W.nsIn K mainGlobals "_law_refused" = some (some (.ref f9))) (l9 : K.lookup f9 = some ⟨oc9, od9, .func (PySem.W.fnOf "_law_refused" "_law_refused" (defArgs s_refused) (defBody s_refused) (defScope s_refused) .none kV9 dc9 pm9 an9 cd9 ct9), sl9⟩) (c9 : PySem.W.codeIn K cd9 "_law_refused" = true) (k9 : PySem.W.keepIn K (.ref f9) = true)
    (a10 : PySem.W.nsIn K mainGlobals "_law_given" = some (some (.ref f10))) (l10 : K.lookup f10 = some ⟨oc10, od10, .func (PySem.W.fnOf "_law_given" "_law_given" (defArgs s_given) (defBody s_given) (defScope s_given) .none kV10 dc10 pm10 an10 cd10 ct10), sl10⟩) (c10 : PySem.W.codeIn K cd10 "_law_given" = true) (k10 : PySem.W.keepIn K (.ref f10) = true)
    (a11 : PySem.W.nsIn K mainGlobals "law" = some (some (.ref f11))) (l11 : K.lookup f11 = some ⟨oc11, od11, .func (PySem.W.fnOf "law" "law" (defArgs s_law) (defBody s_law) (defScope s_law) .none kV11 dc11 pm11 an11 cd11 ct11), sl11⟩) (c11 : PySem.W.codeIn K cd11 "law" = true) (k11 : PySem.W.keepIn K (.ref f11) = true)
    (z0 : PySem.W.nsIn K mainGlobals "len" = some none)
    (z1 : PySem.W.nsIn K mainGlobals "min" = some none)
    (z2 : PySem.W.nsIn K mainGlobals "max" = some none)
    (z3 : PySem.W.nsIn K mainGlobals "isinstance" = some none)
    (z4 : PySem.W.nsIn K mainGlobals "range" = some none)
    (z5 : PySem.W.nsIn K mainGlobals "tuple" = some none)
    (z6 : PySem.W.nsIn K mainGlobals "str" = some none)
    (z7 : PySem.W.nsIn K mainGlobals "int" = some none)
    (z8 : PySem.W.nsIn K mainGlobals "bool" = some none)
    (z9 : PySem.W.nsIn K mainGlobals "list" = some none)
    {C B fI : Addr} {nm q : Str} {N : Addr} {bs bm : List Value} {sn : List Str} {sub : List Value} {ab : Bool} {col : Option Bool} {dd : Option Addr} {m0 m1 m2 m3 m5 : Option Value} {odI anI : Option Addr} {slI : Array (Option Value)} {ocI kVI dcI pmI cdI ctI : Value}
    {T2 : Addr}
    {T3 : Addr}
    {T4 : Addr}
    {T5 : Addr}
    (xn : PySem.W.nsIn K mainGlobals "NoPlace" = some (some (.ref C)))
    (xl : K.lookup C = some (excClassObj nm q C N bs bm true sn sub ab col dd m0 m1 m2 m3 m5 "ValueError.__new__"))
    (xr : PySem.HandSPX.refsVE bm = true)
    (xs : PySem.W.findIn K (.ref C) "__setattr__" = some (some (.builtin "object.__setattr__")))
    (xe : PySem.W.subIn K (.ref C) (.type "BaseException") = some true)
    (xt : PySem.W.typeIn K (.ref C) = some (.type "type"))
    (xk : PySem.W.keepIn K (.ref C) = true)
    (xf : PySem.W.findIn K (.ref C) "place" = some none)
    (y1 : PySem.W.findIn K (.ref C) "__getattribute__" = some (some (.builtin "BaseException.__getattribute__")))
    (y2 : PySem.W.findIn K (.ref C) "__getattr__" = some none)
    (y4 : PySem.W.hasDictIn K C = true)
    (y5 : PySem.W.findIn K (.ref C) "__class__" = some (some (.builtin "object.__class__")))
    (y6 : PySem.W.specialIn K (.builtin "object.__class__") "__get__" = some (some (.builtin "getset_descriptor.__get__")))
    (y7 : PySem.W.takesIn K (.builtin "object.__class__") = some true)
    (y8 : PySem.W.mroIn K C (.type "object") = some true)
    (ii : PySem.W.findIn K (.ref C) "__init__" = some (some (.ref fI)))
    (it : PySem.W.typeIn K (.ref fI) = some (.type "function"))
    (il : K.lookup fI = some ⟨ocI, odI, .func (PySem.W.fnOf "__init__" "NoPlace.__init__" (defArgs (inClass (topS 3) 0)) (defBody (inClass (topS 3) 0)) (defScope (inClass (topS 3) 0)) .none kVI dcI pmI anI cdI ctI), slI⟩)
    (ic : PySem.W.codeIn K cdI "NoPlace.__init__" = true)
    (ik : PySem.W.keepIn K (.ref fI) = true)
    (bn : PySem.W.nsIn K mainGlobals "MeetError" = some (some (.ref B)))
    (bg : PySem.W.specialIn K (.ref B) "__getattribute__" = some (some (.builtin "type.__getattribute__")))
    (br : PySem.W.readsIn K B (.type "type") = true)
    (bv : PySem.W.findCls K (.ref B) (.type "type") "__init__" = some (.val (.builtin "ValueError.__init__")))
    (t1 : PySem.W.nsIn K mainGlobals "ValueError" = some none)
    (t2 : PySem.W.nsIn K mainGlobals "NoThing" = some (some (.ref T2)))
    (t3 : PySem.W.nsIn K mainGlobals "Ring" = some (some (.ref T3)))
    (t4 : PySem.W.nsIn K mainGlobals "Swept" = some (some (.ref T4)))
    (t5 : PySem.W.nsIn K mainGlobals "MeetError" = some (some (.ref T5)))
    (s1 : PySem.W.subIn K (.ref C) (.type "ValueError") = some true)
    (s2 : PySem.W.subIn K (.ref C) (.ref T2) = some false)
    (jt2 : PySem.W.typeIn K (.ref T2) = some (.type "type"))
    (w2 : (Value.ref C == Value.ref T2) = false)
    (j2 : PySem.W.isClsIn K T2 = true)
    (s3 : PySem.W.subIn K (.ref C) (.ref T3) = some false)
    (jt3 : PySem.W.typeIn K (.ref T3) = some (.type "type"))
    (w3 : (Value.ref C == Value.ref T3) = false)
    (j3 : PySem.W.isClsIn K T3 = true)
    (s4 : PySem.W.subIn K (.ref C) (.ref T4) = some false)
    (jt4 : PySem.W.typeIn K (.ref T4) = some (.type "type"))
    (w4 : (Value.ref C == Value.ref T4) = false)
    (j4 : PySem.W.isClsIn K T4 = true)
    (s5 : PySem.W.subIn K (.ref C) (.ref T5) = some true)
    (jt5 : PySem.W.typeIn K (.ref T5) = some (.type "type"))
    (e5 : PySem.W.subIn K (.ref T5) (.type "BaseException") = some true)
    (d5 : PySem.W.hasDictIn K T5 = true)
    : ∃ fd : FuncData, (∀ (s : Shared) (u : Value), BindsTo s fd ⟨[u], []⟩ [("_law_script", u)]) ∧ ∀ base : Heap, K.In base → base.Ns mainGlobals mg → FnOk P w K mg base (L2.CX P w) 6 fa fd ["_law_script"] (spLaw K) := by
  have T : Txt P w K mg := txt X G a0 l0 c0 k0 a1 l1 c1 k1 a2 l2 c2 k2 a3 l3 c3 k3 a4 l4 c4 k4 a5 l5 c5 k5 a6 l6 c6 k6 a7 l7 c7 k7 a8 l8 c8 k8 a9 l9 c9 k9 a10 l10 c10 k10 a11 l11 c11 k11 z0 z1 z2 z3 z4 z5 z6 z7 z8 z9 xn xl xr xs xe xt xk xf y1 y2 y4 y5 y6 y7 y8 ii it il ic ik bn bg br bv t1 t2 t3 t4 t5 s1 s2 jt2 w2 j2 s3 jt3 w3 j3 s4 jt4 w4 j4 s5 jt5 e5 d5
  exact Cm.law_end main (fun _ _ _ _ _ _ us hl => match us, hl with | [_], _ => rfl) T.a_law hfa fun base _ _ f fd Fu => law_fn T Fu
end
end K33
open PySem PySem.W PyProof.Rows
set_option maxRecDepth 100000 in
set_option maxHeartbeats 0 in
theorem PySem.Challenge.cw_copymeet_k33_between_holds : PySem.Challenge.rw_copymeet_k33_between.Holds := by
  w_on; o_law; k_head; (case hw => w_witness2)
  k_fill
  refine L2.walk_of (l := PySem.Challenge.rw_copymeet_k33_between) (n := 63) (k := 6) (x := "_law_script") (CX := fun w => L2.CX PySem.Challenge.pw_copymeet_k33_between w) (sp := fun w => Cm.spLaw _) rfl (by decide) rfl ⟨rfl, by decide, by decide⟩ (fun w h Y => PySem.W.kIn_of Y) ?F (fun _ _ a ns hl _ hS => ⟨a, ns, rfl, hS, hl, fun _ => rfl⟩) (fun _ _ _ _ _ h => by obtain ⟨_, _, _, _, _, _, _, _, _, _, _, _, z⟩ := h; exact z)
  case F =>
    intro w mg fa h KX G hmg
    refine' K33.fin KX G hmg ?a0 ?l0 ?c0 ?k0 ?a1 ?l1 ?c1 ?k1 ?a2 ?l2 ?c2 ?k2 ?a3 ?l3 ?c3 ?k3 ?a4 ?l4 ?c4 ?k4 ?a5 ?l5 ?c5 ?k5 ?a6 ?l6 ?c6 ?k6 ?a7 ?l7 ?c7 ?k7 ?a8 ?l8 ?c8 ?k8 ?a9 ?l9 ?c9 ?k9 ?a10 ?l10 ?c10 ?k10 ?a11 ?l11 ?c11 ?k11 ?z0 ?z1 ?z2 ?z3 ?z4 ?z5 ?z6 ?z7 ?z8 ?z9 ?xn ?xl ?xr ?xs ?xe ?xt ?xk ?xf ?y1 ?y2 ?y4 ?y5 ?y6 ?y7 ?y8 ?ii ?it ?il ?ic ?ik ?bn ?bg ?br ?bv ?t1 ?t2 ?t3 ?t4 ?t5 ?s1 ?s2 ?jt2 ?w2 ?j2 ?s3 ?jt3 ?w3 ?j3 ?s4 ?jt4 ?w4 ?j4 ?s5 ?jt5 ?e5 ?d5
    (case a0 => k_is); (case l0 => k_is); (case c0 => k_is); (case k0 => k_is)
    (case a1 => k_is); (case l1 => k_is); (case c1 => k_is); (case k1 => k_is)
    (case a2 => k_is); (case l2 => k_is); (case c2 => k_is); (case k2 => k_is)
    (case a3 => k_is); (case l3 => k_is); (case c3 => k_is); (case k3 => k_is)
    (case a4 => k_is); (case l4 => k_is); (case c4 => k_is); (case k4 => k_is)
    (case a5 => k_is); (case l5 => k_is); (case c5 => k_is); (case k5 => k_is)
    (case a6 => k_is); (case l6 => k_is); (case c6 => k_is); (case k6 => k_is)
    (case a7 => k_is); (case l7 => k_is); (case c7 => k_is); (case k7 => k_is)
    (case a8 => k_is); (case l8 => k_is); (case c8 => k_is); (case k8 => k_is)
    (case a9 => k_is); (case l9 => k_is); (case c9 => k_is); (case k9 => k_is)
    (case a10 => k_is); (case l10 => k_is); (case c10 => k_is); (case k10 => k_is)
    (case a11 => k_is); (case l11 => k_is); (case c11 => k_is); (case k11 => k_is)
    (case z0 => k_is); (case z1 => k_is); (case z2 => k_is); (case z3 => k_is)
    (case z4 => k_is); (case z5 => k_is); (case z6 => k_is); (case z7 => k_is)
    (case z8 => k_is); (case z9 => k_is); (case xn => k_is); (case xl => k_is)
    (case xr => first | rfl | decide +kernel); (case xs => k_is); (case xe => k_is); (case xt => k_is)
    (case xk => k_is); (case xf => k_is); (case y1 => k_is); (case y2 => k_is)
    (case y4 => k_is); (case y5 => k_is); (case y6 => k_is); (case y7 => k_is)
    (case y8 => k_is); (case ii => k_is); (case it => k_is); (case il => k_is)
    (case ic => k_is); (case ik => k_is); (case bn => k_is); (case bg => k_is)
    (case br => k_is); (case bv => k_is); (case t1 => k_is); (case t2 => k_is)
    (case t3 => k_is); (case t4 => k_is); (case t5 => k_is); (case s1 => k_is)
    (case s2 => k_is); (case jt2 => k_is); (case w2 => first | rfl | decide +kernel); (case j2 => k_is)
    (case s3 => k_is); (case jt3 => k_is); (case w3 => first | rfl | decide +kernel); (case j3 => k_is)
    (case s4 => k_is); (case jt4 => k_is); (case w4 => first | rfl | decide +kernel); (case j4 => k_is)
    (case s5 => k_is); (case jt5 => k_is); (case e5 => k_is); (case d5 => k_is)
