import PyProof.Rows.All
import Wide.All
import OpenK.AllK
import Wide.FinOn
import PySem.Challenge.RW_og0272_01
set_option Elab.async false

section
open PySem PySem.W PyProof.Rows
namespace Mine
set_option maxRecDepth 100000 in
set_option maxHeartbeats 8000000 in
open_top hd for PySem.Challenge.rw_og0272_01
end Mine

end

section
namespace Mine
open PySem

/-- values: what the law's values tell, without tokens; a mutable object is its address -/
inductive AV where
  | none
  | bool (b : Bool)
  | int (i : Int)
  | str (x : Str)
  | tup (ds : List AV)
  | loc (a : Addr)
  | ro (ds : List AV)

inductive AO where
  | list (ds : List AV)
  | dict (es : List (Str × AV))
  | inst (C d : Addr)

abbrev Sto := Addr → Option AO
abbrev Loc := Nat → Option AV
def upd (st : Sto) (a : Addr) (o : AO) : Sto := fun b => if b = a then some o else st b
def put (l : Loc) (i : Nat) (d : AV) : Loc := fun j => if j = i then some d else l j
def empty : Loc := fun _ => Option.none
def mask (cap : List Nat) (l : Loc) : Loc := fun j => if j ∈ cap then l j else Option.none

inductive BOp where | add | sub | mul | md
inductive COp where | eq | ne | lt | le | gt | ge | is_
inductive Fl where
  | next | cont | brk
  | ret (d : AV)

mutual
inductive ME where
  | lit (d : AV)
  | var (i : Nat)
  | tupE (as : MEs)
  | listE (as : MEs)
  | dictE (ks : List Str) (as : MEs)
  | bin (op : BOp) (a b : ME)
  | fdiv (a b : ME)
  | neg (a : ME)
  | notE (a : ME)
  | andE (a b : ME)
  | orE (a b : ME)
  | ifE (c : MT) (a b : ME)
  | cmp (op : COp) (a b : ME)
  | cmp2 (o1 o2 : COp) (a b c : ME)
  | call (f : Addr) (as : MEs)
  | meth (o : ME) (name : Str) (as : MEs)
  | append (o a : ME)
  | extend (o a : ME)
  | pop (o : ME)
  | attr (o : ME) (name : Str)
  | sub (o i : ME)
  | slice (o lo hi : ME)
  | rev (o : ME)
  | len (a : ME)
  | max (a b : ME)
  | min (a b : ME)
  | listOf (a : ME)
  | intOf (a : ME)
  | allOf (a : ME)
  | comp (elt : ME) (it : MI) (tg cap : List Nat)
inductive MEs where
  | nil
  | cons (a : ME) (r : MEs)
inductive MI where
  | list (e : ME)
  | enum (e : ME)
  | zip (a b : ME)
  | range1 (b : ME)
  | range2 (a b : ME)
inductive MT where
  | val (e : ME)
  | notT (t : MT)
  | andT (a b : MT)
  | orT (a b : MT)
  | ifT (c a b : MT)
end
mutual
inductive MS where
  | expr (e : ME)
  | ret (e : ME)
  | retN
  | asg (i : Nat) (e : ME)
  | asgT (is : List Nat) (e : ME)
  | setattr (o : ME) (name : Str) (e : ME)
  | setsub (o i e : ME)
  | setslice (o lo hi e : ME)
  | aug (i : Nat) (op : BOp) (e : ME)
  | ite (c : MT) (b o : MSs)
  | for_ (it : MI) (tg : List Nat) (b : MSs)
  | while_ (c : MT) (b : MSs)
  | cont
  | stuck
inductive MSs where
  | nil
  | cons (s : MS) (r : MSs)
end

inductive It where
  | list (a : Addr)
  | enum (a : Addr)
  | zip (a b : Addr)
  | range (a b : Int)

def itNext (it : It) (i : Nat) (st : Sto) : Option (Option AV) := match it with
  | .list a => match st a with | some (.list xs) => some xs[i]? | _ => Option.none
  | .enum a => match st a with | some (.list xs) => some (xs[i]?.map fun x => .tup [.int i, x]) | _ => Option.none
  | .zip a b => match st a, st b with
    | some (.list xs), some (.list ys) => some (match xs[i]?, ys[i]? with | some x, some y => some (.tup [x, y]) | _, _ => Option.none)
    | _, _ => Option.none
  | .range a b => some (if a + i < b then some (.int (a + i)) else Option.none)

def putAll : List Nat → List AV → Loc → Option Loc
  | [], [], l => some l
  | i :: is, d :: ds, l => putAll is ds (put l i d)
  | _, _, _ => Option.none
def bindT (tg : List Nat) (d : AV) (l : Loc) : Option Loc := match tg, d with
  | [i], d => some (put l i d)
  | is, .tup ds => putAll is ds l
  | _, _ => Option.none

def LIM : Int := 2 ^ 60
def Small (i : Int) : Prop := -LIM ≤ i ∧ i ≤ LIM

mutual
/-- equality as the language asks it, where both sides are of kinds that the law compares; the number: how deep it goes -/
inductive EqV (st : Sto) : Nat → AV → AV → Bool → Prop
  | none {n : Nat} : EqV st n .none .none true
  | bool {n : Nat} (a b : Bool) : EqV st n (.bool a) (.bool b) (a == b)
  | int {n : Nat} (a b : Int) : EqV st n (.int a) (.int b) (a == b)
  | str {n : Nat} (a b : Str) : EqV st n (.str a) (.str b) (a == b)
  | tup {n : Nat} {ds es : List AV} {bs : List Bool} : EqVs st n ds es bs → EqV st (n + 1) (.tup ds) (.tup es) (bs.all id && ds.length == es.length)
  | list {n : Nat} {a a' : Addr} {ds es : List AV} {bs : List Bool} : st a = some (.list ds) → st a' = some (.list es) → ds.length = es.length → EqVs st n ds es bs → EqV st (n + 1) (.loc a) (.loc a') (bs.all id)
  | listN {n : Nat} {a a' : Addr} {ds es : List AV} : st a = some (.list ds) → st a' = some (.list es) → ds.length ≠ es.length → EqV st (n + 1) (.loc a) (.loc a') false
/-- item by item, over the shorter length -/
inductive EqVs (st : Sto) : Nat → List AV → List AV → List Bool → Prop
  | nilL {n : Nat} (es : List AV) : EqVs st n [] es []
  | nilR {n : Nat} (ds : List AV) : EqVs st n ds [] []
  | cons {n : Nat} {d e : AV} {ds es : List AV} {b : Bool} {bs : List Bool} : EqV st n d e b → EqVs st n ds es bs → EqVs st n (d :: ds) (e :: es) (b :: bs)
end

def cmpP (op : COp) (x y : AV) (st : Sto) (Q : AV → Sto → Prop) : Prop := match op with
  | .eq => ∃ b, EqV st 20 x y b ∧ Q (.bool b) st
  | .ne => ∃ b, EqV st 20 x y b ∧ Q (.bool (!b)) st
  | .lt => ∃ a b, x = .int a ∧ y = .int b ∧ Q (.bool (decide (a < b))) st
  | .le => ∃ a b, x = .int a ∧ y = .int b ∧ Q (.bool (decide (a ≤ b))) st
  | .gt => ∃ a b, x = .int a ∧ y = .int b ∧ Q (.bool (decide (b < a))) st
  | .ge => ∃ a b, x = .int a ∧ y = .int b ∧ Q (.bool (decide (b ≤ a))) st
  | .is_ => (y = .none ∧ ((x = .none ∧ Q (.bool true) st) ∨ (x ≠ .none ∧ Q (.bool false) st))) ∨ (∃ a b, x = .bool a ∧ y = .bool b ∧ Q (.bool (a == b)) st)

def binP (op : BOp) (x y : AV) (st : Sto) (Q : AV → Sto → Prop) : Prop := match op with
  | .add => (∃ a b, x = .int a ∧ y = .int b ∧ Q (.int (a + b)) st) ∨
      (∃ a b ds es, x = .loc a ∧ y = .loc b ∧ st a = some (.list ds) ∧ st b = some (.list es) ∧ ds.length + es.length ≤ 1000 ∧ ∀ n, st n = Option.none → Q (.loc n) (upd st n (.list (ds ++ es))))
  | .sub => ∃ a b, x = .int a ∧ y = .int b ∧ Q (.int (a - b)) st
  | .mul => (∃ a b, x = .int a ∧ y = .int b ∧ Small a ∧ Q (.int (a * b)) st) ∨
      (∃ a d b, x = .loc a ∧ y = .int b ∧ st a = some (.list [d]) ∧ -1000 ≤ b ∧ b ≤ 1000 ∧ ∀ n, st n = Option.none → Q (.loc n) (upd st n (.list (List.replicate b.toNat d))))
  | .md => ∃ a b, x = .int a ∧ y = .int b ∧ 0 < b ∧ b ≤ LIM ∧ Q (.int (a % b)) st

def truthP (x : AV) (Q : Bool → Prop) : Prop := ∃ b, x = .bool b ∧ Q b

def clip (n : Nat) (i : Int) : Nat := (Max.max 0 (Min.min (if i < 0 then i + n else i) n)).toNat
def cutBounds (lo hi : AV) (n : Nat) : Option (Nat × Nat) := match lo, hi with
  | .none, .none => some (0, n)
  | .none, .int h => some (0, clip n h)
  | .int l, .none => some (clip n l, n)
  | .int l, .int h => some (clip n l, clip n h)
  | _, _ => Option.none
def cut (ds : List AV) (l h : Nat) : List AV := (ds.drop l).take (h - l)

structure Tab where
  meth : Addr → Str → Option Addr
  prop : Addr → Str → Option Addr
  field : Addr → Str → Bool

abbrev CallT := Addr → List AV → Sto → (AV → Sto → Prop) → Prop

mutual
def evP (T : Tab) (C : CallT) : ME → Loc → Sto → (AV → Sto → Prop) → Prop
  | .lit d, _, st, Q => Q d st
  | .var i, l, st, Q => ∃ d, l i = some d ∧ Q d st
  | .tupE as, l, st, Q => evPs T C as l st fun ds st => ds.length ≤ 1000 ∧ Q (.tup ds) st
  | .listE as, l, st, Q => evPs T C as l st fun ds st => ds.length ≤ 1000 ∧ ∀ n, st n = Option.none → Q (.loc n) (upd st n (.list ds))
  | .dictE ks as, l, st, Q => evPs T C as l st fun ds st => ks.length = ds.length ∧ ks.Nodup ∧ ks.length ≤ 10 ∧ ∀ n, st n = Option.none → Q (.loc n) (upd st n (.dict (ks.zip ds)))
  | .bin op a b, l, st, Q => evP T C a l st fun x st => evP T C b l st fun y st => binP op x y st Q
  | .fdiv a b, l, st, Q => evP T C a l st fun x st => evP T C b l st fun y st => ∃ i j, x = .int i ∧ y = .int j ∧ 0 < j ∧ j ≤ LIM ∧ Small i ∧ Q (.int (i / j)) st
  | .neg a, l, st, Q => evP T C a l st fun x st => ∃ i, x = .int i ∧ Q (.int (-i)) st
  | .notE a, l, st, Q => evP T C a l st fun x st => truthP x fun b => Q (.bool (!b)) st
  | .andE a b, l, st, Q => evP T C a l st fun x st => truthP x fun c => (c = true → evP T C b l st Q) ∧ (c = false → Q (.bool false) st)
  | .orE a b, l, st, Q => evP T C a l st fun x st => truthP x fun c => (c = true → Q (.bool true) st) ∧ (c = false → evP T C b l st Q)
  | .ifE c a b, l, st, Q => tsP T C c l st fun t st => (t = true → evP T C a l st Q) ∧ (t = false → evP T C b l st Q)
  | .cmp op a b, l, st, Q => evP T C a l st fun x st => evP T C b l st fun y st => cmpP op x y st Q
  | .cmp2 o1 o2 a b c, l, st, Q => evP T C a l st fun x st => evP T C b l st fun y st => cmpP o1 x y st fun r st => truthP r fun t => (t = true → evP T C c l st fun z st => cmpP o2 y z st Q) ∧ (t = false → Q (.bool false) st)
  | .call f as, l, st, Q => evPs T C as l st fun ds st => C f ds st Q
  | .meth o name as, l, st, Q => evP T C o l st fun x st => ∃ a cl d es f, x = .loc a ∧ st a = some (.inst cl d) ∧ st d = some (.dict es) ∧ es.lookup name = Option.none ∧ T.meth cl name = some f ∧
      evPs T C as l st fun ds st => C f (x :: ds) st Q
  | .append o a, l, st, Q => evP T C o l st fun x st => ∃ n ds0, x = .loc n ∧ st n = some (.list ds0) ∧ evP T C a l st fun y st => ∃ ds, st n = some (.list ds) ∧ ds.length ≤ 1000 ∧ Q .none (upd st n (.list (ds ++ [y])))
  | .extend o a, l, st, Q => evP T C o l st fun x st => ∃ n ds0, x = .loc n ∧ st n = some (.list ds0) ∧ evP T C a l st fun y st => ∃ ds es, st n = some (.list ds) ∧ ((∃ m, y = .loc m ∧ m ≠ n ∧ st m = some (.list es)) ∨ y = .tup es) ∧ ds.length ≤ 1000 ∧ es.length ≤ 1000 ∧
      Q .none (upd st n (.list (ds ++ es)))
  | .pop o, l, st, Q => evP T C o l st fun x st => ∃ n ds y, x = .loc n ∧ st n = some (.list (ds ++ [y])) ∧ ds.length ≤ 1000 ∧ Q y (upd st n (.list ds))
  | .attr o name, l, st, Q => evP T C o l st fun x st => ∃ a cl d es, x = .loc a ∧ st a = some (.inst cl d) ∧ st d = some (.dict es) ∧ (match T.prop cl name with | some f => C f [x] st Q | Option.none => T.field cl name = true ∧ ∃ v, es.lookup name = some v ∧ Q v st)
  | .sub o i, l, st, Q => evP T C o l st fun x st => evP T C i l st fun y st =>
      (∃ ds j v, x = .tup ds ∧ y = .int j ∧ 0 ≤ j ∧ j < 1000 ∧ ds[j.toNat]? = some v ∧ Q v st) ∨
      (∃ a ds j v, x = .loc a ∧ y = .int j ∧ st a = some (.list ds) ∧ 0 ≤ j ∧ j < 1000 ∧ ds[j.toNat]? = some v ∧ Q v st) ∨
      (∃ a ds v, x = .loc a ∧ y = .int (-1) ∧ st a = some (.list (ds ++ [v])) ∧ ds.length ≤ 1000 ∧ Q v st) ∨
      (∃ a es k v, x = .loc a ∧ y = .str k ∧ st a = some (.dict es) ∧ es.lookup k = some v ∧ Q v st)
  | .slice o lo hi, l, st, Q => evP T C o l st fun x st => evP T C lo l st fun y st => evP T C hi l st fun z st =>
      ∃ ds i j, ((∃ a, x = .loc a ∧ st a = some (.list ds)) ∨ x = .ro ds) ∧ cutBounds y z ds.length = some (i, j) ∧ ds.length ≤ 1000 ∧ ∀ n, st n = Option.none → Q (.loc n) (upd st n (.list (cut ds i j)))
  | .rev o, l, st, Q => evP T C o l st fun x st => ∃ a ds, x = .loc a ∧ st a = some (.list ds) ∧ ds.length ≤ 1000 ∧ ∀ n, st n = Option.none → Q (.loc n) (upd st n (.list ds.reverse))
  | .len a, l, st, Q => evP T C a l st fun x st => ∃ ds, ((∃ n, x = .loc n ∧ st n = some (.list ds)) ∨ x = .tup ds) ∧ ds.length ≤ 2000 ∧ Q (.int ds.length) st
  | .max a b, l, st, Q => evP T C a l st fun x st => evP T C b l st fun y st => ∃ i j, x = .int i ∧ y = .int j ∧ Q (.int (if i < j then j else i)) st
  | .min a b, l, st, Q => evP T C a l st fun x st => evP T C b l st fun y st => ∃ i j, x = .int i ∧ y = .int j ∧ Q (.int (if j < i then j else i)) st
  | .listOf a, l, st, Q => evP T C a l st fun x st => ∃ m ds, x = .loc m ∧ st m = some (.list ds) ∧ ds.length ≤ 1000 ∧ ∀ n, st n = Option.none → Q (.loc n) (upd st n (.list ds))
  | .intOf a, l, st, Q => evP T C a l st fun x st => ∃ i, x = .int i ∧ Q (.int i) st
  | .allOf a, l, st, Q => evP T C a l st fun x st => ∃ (m : Addr) (bs : List Bool), x = .loc m ∧ st m = some (.list (bs.map AV.bool)) ∧ bs.length ≤ 1000 ∧ Q (.bool (bs.all id)) st
  | .comp elt it tg cap, l, st, Q => itP T C it l st fun r st => ∃ (I : Nat → List AV → Sto → Prop) (N : Nat), I 0 [] st ∧ ∀ i acc st, I i acc st → i ≤ N ∧ acc.length ≤ 1000 ∧ ∃ x, itNext r i st = some x ∧
      (match x with
        | Option.none => ∀ n, st n = Option.none → Q (.loc n) (upd st n (.list acc))
        | some d => ∃ l', bindT tg d (mask cap l) = some l' ∧ evP T C elt l' st fun v st => I (i + 1) (acc ++ [v]) st)
def evPs (T : Tab) (C : CallT) : MEs → Loc → Sto → (List AV → Sto → Prop) → Prop
  | .nil, _, st, Q => Q [] st
  | .cons a r, l, st, Q => evP T C a l st fun x st => evPs T C r l st fun xs st => Q (x :: xs) st
def itP (T : Tab) (C : CallT) : MI → Loc → Sto → (It → Sto → Prop) → Prop
  | .list e, l, st, Q => evP T C e l st fun x st => ∃ a ds, x = .loc a ∧ st a = some (.list ds) ∧ Q (.list a) st
  | .enum e, l, st, Q => evP T C e l st fun x st => ∃ a ds, x = .loc a ∧ st a = some (.list ds) ∧ Q (.enum a) st
  | .zip e f, l, st, Q => evP T C e l st fun x st => evP T C f l st fun y st => ∃ a b ds es, x = .loc a ∧ y = .loc b ∧ st a = some (.list ds) ∧ st b = some (.list es) ∧ Q (.zip a b) st
  | .range1 e, l, st, Q => evP T C e l st fun x st => ∃ i, x = .int i ∧ -1000 ≤ i ∧ i ≤ 1000 ∧ Q (.range 0 i) st
  | .range2 e f, l, st, Q => evP T C e l st fun x st => evP T C f l st fun y st => ∃ i j, x = .int i ∧ y = .int j ∧ -1000 ≤ i ∧ i ≤ 1000 ∧ -1000 ≤ j ∧ j ≤ 1000 ∧ Q (.range i j) st
def tsP (T : Tab) (C : CallT) : MT → Loc → Sto → (Bool → Sto → Prop) → Prop
  | .val e, l, st, Q => evP T C e l st fun x st => truthP x fun b => Q b st
  | .notT t, l, st, Q => tsP T C t l st fun b st => Q (!b) st
  | .andT a b, l, st, Q => tsP T C a l st fun c st => (c = true → tsP T C b l st Q) ∧ (c = false → Q false st)
  | .orT a b, l, st, Q => tsP T C a l st fun c st => (c = true → Q true st) ∧ (c = false → tsP T C b l st Q)
  | .ifT c a b, l, st, Q => tsP T C c l st fun t st => (t = true → tsP T C a l st Q) ∧ (t = false → tsP T C b l st Q)
end

/-- what a turn of a loop must bring -/
def turnQ (again : Loc → Sto → Prop) (Q : Fl → Loc → Sto → Prop) (f : Fl) (l : Loc) (st : Sto) : Prop := match f with
  | .next => again l st
  | .cont => again l st
  | .brk => Q .next l st
  | .ret d => Q (.ret d) l st
def seqQ (rest : Loc → Sto → Prop) (Q : Fl → Loc → Sto → Prop) (f : Fl) (l : Loc) (st : Sto) : Prop := match f with
  | .next => rest l st
  | .cont => Q .cont l st
  | .brk => Q .brk l st
  | .ret d => Q (.ret d) l st

mutual
def exP (T : Tab) (C : CallT) : MS → Loc → Sto → (Fl → Loc → Sto → Prop) → Prop
  | .expr e, l, st, Q => evP T C e l st fun _ st => Q .next l st
  | .ret e, l, st, Q => evP T C e l st fun d st => Q (.ret d) l st
  | .retN, l, st, Q => Q (.ret .none) l st
  | .asg i e, l, st, Q => evP T C e l st fun d st => Q .next (put l i d) st
  | .asgT is e, l, st, Q => evP T C e l st fun d st => ∃ ds l', d = .tup ds ∧ putAll is ds l = some l' ∧ Q .next l' st
  | .setattr o name e, l, st, Q => evP T C e l st fun v st => evP T C o l st fun x st => ∃ a cl d es, x = .loc a ∧ st a = some (.inst cl d) ∧ st d = some (.dict es) ∧ T.field cl name = true ∧ es.length ≤ 100 ∧
      Q .next l (upd st d (.dict (if (es.lookup name).isSome then es.map (fun p => if p.1 = name then (p.1, v) else p) else es ++ [(name, v)])))
  | .setsub o i e, l, st, Q => evP T C e l st fun v st => evP T C o l st fun x st => evP T C i l st fun y st =>
      (∃ a ds j, x = .loc a ∧ y = .int j ∧ st a = some (.list ds) ∧ 0 ≤ j ∧ j < 1000 ∧ j.toNat < ds.length ∧ Q .next l (upd st a (.list (ds.set j.toNat v)))) ∨
      (∃ a ds w, x = .loc a ∧ y = .int (-1) ∧ st a = some (.list (ds ++ [w])) ∧ ds.length ≤ 1000 ∧ Q .next l (upd st a (.list (ds ++ [v])))) ∨
      (∃ a es k, x = .loc a ∧ y = .str k ∧ st a = some (.dict es) ∧ (es.lookup k).isSome = true ∧ es.length ≤ 100 ∧ Q .next l (upd st a (.dict (es.map (fun p => if p.1 = k then (p.1, v) else p)))))
  | .setslice o lo hi e, l, st, Q => evP T C e l st fun v st => evP T C o l st fun x st => evP T C lo l st fun y st => evP T C hi l st fun z st =>
      ∃ a ds b es i j, x = .loc a ∧ st a = some (.list ds) ∧ v = .loc b ∧ b ≠ a ∧ st b = some (.list es) ∧ y = .int i ∧ z = .int j ∧ 0 ≤ i ∧ i ≤ j ∧ j ≤ ds.length ∧ ds.length ≤ 1000 ∧ es.length ≤ 1000 ∧
        Q .next l (upd st a (.list (ds.take i.toNat ++ es ++ ds.drop j.toNat)))
  | .aug i op e, l, st, Q => ∃ x, l i = some x ∧ evP T C e l st fun y st => ∃ a b, x = .int a ∧ y = .int b ∧ (match op with | .add => Q .next (put l i (.int (a + b))) st | .sub => Q .next (put l i (.int (a - b))) st | _ => False)
  | .ite c b o, l, st, Q => tsP T C c l st fun t st => (t = true → exPs T C b l st Q) ∧ (t = false → exPs T C o l st Q)
  | .for_ it tg b, l, st, Q => itP T C it l st fun r st => ∃ (I : Nat → Loc → Sto → Prop) (N : Nat), I 0 l st ∧ ∀ i l st, I i l st → i ≤ N ∧ ∃ x, itNext r i st = some x ∧
      (match x with
        | Option.none => Q .next l st
        | some d => ∃ l', bindT tg d l = some l' ∧ exPs T C b l' st (turnQ (fun l st => I (i + 1) l st) Q))
  | .while_ c b, l, st, Q => ∃ (I : Nat → Loc → Sto → Prop) (n₀ : Nat), I n₀ l st ∧ ∀ n l st, I n l st → tsP T C c l st fun t st =>
      (t = true → exPs T C b l st (turnQ (fun l st => ∃ m, m < n ∧ I m l st) Q)) ∧ (t = false → Q .next l st)
  | .cont, l, st, Q => Q .cont l st
  | .stuck, _, _, _ => False
def exPs (T : Tab) (C : CallT) : MSs → Loc → Sto → (Fl → Loc → Sto → Prop) → Prop
  | .nil, l, st, Q => Q .next l st
  | .cons s r, l, st, Q => exP T C s l st (seqQ (fun l st => exPs T C r l st Q) Q)
end
end Mine

end

section
set_option linter.unusedVariables false
namespace Mine
open PySem PySem.W PySem.Calls PyProof.Rows

/-- what stood before the call; tuples that are not to be leant on (a zip's own) -/
structure Bs where
  heap : Heap
  bad : Addr → Prop

abbrev tupObj (vs : List Value) (n : Nat) : Obj := { cls := .type "tuple", dict := none, data := .seq vs.toArray n, slots := #[] }

mutual
/-- a value tells a datum in a heap -/
inductive VR (base : Bs) (h : Heap) : Value → AV → Prop
  | none : VR base h .none .none
  | bool (b : Bool) : VR base h (.bool b) (.bool b)
  | int (i : Int) (t : Tok) : VR base h (.int i t) (.int i)
  | str (x : Str) (t : Tok) : VR base h (.str x t) (.str x)
  | tup {a : Addr} {vs : List Value} {n : Nat} {ds : List AV} : ¬ base.bad a → h.get? a = some (tupObj vs n) → VRs base h vs ds → VR base h (.ref a) (.tup ds)
  | loc (a : Addr) : VR base h (.ref a) (.loc a)
  | ro {a : Addr} {vs : List Value} {ds : List AV} : base.heap.IsList a vs.toArray → VRs base h vs ds → VR base h (.ref a) (.ro ds)
inductive VRs (base : Bs) (h : Heap) : List Value → List AV → Prop
  | nil : VRs base h [] []
  | cons {v : Value} {d : AV} {vs : List Value} {ds : List AV} : VR base h v d → VRs base h vs ds → VRs base h (v :: vs) (d :: ds)
end
def TupKeep (base : Bs) (h h' : Heap) : Prop := ∀ a vs n, ¬ base.bad a → h.get? a = some (tupObj vs n) → h'.get? a = some (tupObj vs n)
mutual
theorem VR.keep {base : Bs} {h h' : Heap} (k : TupKeep base h h') : ∀ {v : Value} {d : AV}, VR base h v d → VR base h' v d
  | _, _, .none => .none
  | _, _, .bool b => .bool b
  | _, _, .int i t => .int i t
  | _, _, .str x t => .str x t
  | _, _, .tup hb ha r => .tup hb (k _ _ _ hb ha) (VRs.keep k r)
  | _, _, .loc a => .loc a
  | _, _, .ro ha r => .ro ha (VRs.keep k r)
theorem VRs.keep {base : Bs} {h h' : Heap} (k : TupKeep base h h') : ∀ {vs : List Value} {ds : List AV}, VRs base h vs ds → VRs base h' vs ds
  | _, _, .nil => .nil
  | _, _, .cons a r => .cons (VR.keep k a) (VRs.keep k r)
end
theorem TupKeep.refl (base : Bs) (h : Heap) : TupKeep base h h := fun _ _ _ _ e => e
theorem TupKeep.trans {base : Bs} {a b c : Heap} (x : TupKeep base a b) (y : TupKeep base b c) : TupKeep base a c := fun _ _ _ n e => y _ _ _ n (x _ _ _ n e)
theorem TupKeep.of {base : Bs} {h h' : Heap} (x : ∀ b o, h.get? b = some o → h'.get? b = some o) : TupKeep base h h' := fun _ _ _ _ e => x _ _ e

section
variable {base : Bs} {h : Heap}
theorem VRs.length : ∀ {vs : List Value} {ds : List AV}, VRs base h vs ds → vs.length = ds.length
  | _, _, .nil => rfl
  | _, _, .cons _ r => by rw [List.length_cons, List.length_cons, VRs.length r]
theorem VRs.append : ∀ {vs ws : List Value} {ds es : List AV}, VRs base h vs ds → VRs base h ws es → VRs base h (vs ++ ws) (ds ++ es)
  | _, _, _, _, .nil, k => k
  | _, _, _, _, .cons a r, k => .cons a (VRs.append r k)
theorem VRs.get : ∀ {vs : List Value} {ds : List AV} {k : Nat} {d : AV}, VRs base h vs ds → ds[k]? = some d → ∃ v, vs[k]? = some v ∧ VR base h v d
  | _, _, _, _, .nil, e => by simp at e
  | _, _, 0, _, .cons a _, e => by simp at e; subst e; exact ⟨_, rfl, a⟩
  | _, _, k + 1, _, .cons _ r, e => by simp at e; simpa using VRs.get r e
theorem VRs.drop : ∀ {vs : List Value} {ds : List AV} (k : Nat), VRs base h vs ds → VRs base h (vs.drop k) (ds.drop k)
  | _, _, 0, r => r
  | _, _, _ + 1, .nil => .nil
  | _, _, k + 1, .cons _ r => VRs.drop k r
theorem VRs.take : ∀ {vs : List Value} {ds : List AV} (k : Nat), VRs base h vs ds → VRs base h (vs.take k) (ds.take k)
  | _, _, 0, _ => .nil
  | _, _, _ + 1, .nil => .nil
  | _, _, k + 1, .cons a r => .cons a (VRs.take k r)
theorem VRs.set : ∀ {vs : List Value} {ds : List AV} {v : Value} {d : AV} (k : Nat), VRs base h vs ds → VR base h v d → VRs base h (vs.set k v) (ds.set k d)
  | _, _, _, _, _, .nil, _ => .nil
  | _, _, _, _, 0, .cons _ r, x => .cons x r
  | _, _, _, _, k + 1, .cons a r, x => .cons a (VRs.set k r x)
theorem VRs.one {v : Value} {d : AV} (x : VR base h v d) : VRs base h [v] [d] := .cons x .nil
theorem VRs.snoc : ∀ {vs : List Value} {ds : List AV} {d : AV}, VRs base h vs (ds ++ [d]) → ∃ ws v, vs = ws ++ [v] ∧ VRs base h ws ds ∧ VR base h v d
  | _, [], _, .cons a .nil => ⟨[], _, rfl, .nil, a⟩
  | _, _ :: ds, _, .cons a r => by
    obtain ⟨ws, v, rfl, x, y⟩ := VRs.snoc (ds := ds) r
    exact ⟨_ :: ws, v, rfl, .cons a x, y⟩
theorem VRs.reverse {vs : List Value} {ds : List AV} (r : VRs base h vs ds) : VRs base h vs.reverse ds.reverse := by
  induction ds generalizing vs with
  | nil => cases r; exact .nil
  | cons d ds ih =>
    cases r with
    | cons a r => rw [List.reverse_cons, List.reverse_cons]; exact (ih r).append (.one a)
theorem VRs.replicate {v : Value} {d : AV} (x : VR base h v d) : ∀ n, VRs base h (List.replicate n v) (List.replicate n d)
  | 0 => .nil
  | n + 1 => .cons x (VRs.replicate x n)
end

def OR (prog : Program) (w : World) (base : Bs) (h : Heap) (a : Addr) : AO → Prop
  | .list ds => ∃ vs n, IsL h a vs.toArray n ∧ VRs base h vs ds
  | .dict es => ∃ kvs : List (Str × Value), h.DictOf (strKind prog w) a kvs ∧ kvs.map (·.1) = es.map (·.1) ∧ VRs base h (kvs.map (·.2)) (es.map (·.2))
  | .inst C d => h.get? a = some (instObj C d)

/-- the heap tells the store -/
structure Rel (prog : Program) (w : World) (base : Bs) (st : Sto) (h : Heap) : Prop where
  obj : ∀ a o, st a = some o → OR prog w base h a o
  new : ∀ a, st a ≠ none → base.heap.get? a = none
  keep : ∀ a o, base.heap.get? a = some o → h.get? a = some o
  bad : ∀ a, base.bad a → base.heap.get? a = none ∧ h.get? a ≠ none

/-- a step: nothing but the store's objects (and X) is turned -/
structure Go (X : Addr → Prop) (st st' : Sto) (s s' : Shared) : Prop where
  eq : ∃ h tk, s' = { s with heap := h, toks := tk }
  pres : ∀ a o, st a = none → ¬ X a → s.heap.get? a = some o → s'.heap.get? a = some o
  live : ∀ a, s.heap.get? a ≠ none → s'.heap.get? a ≠ none
  grow : ∀ a, st a ≠ none → st' a ≠ none
  fresh : ∀ a, st a = none → st' a ≠ none → s.heap.get? a = none
def noX : Addr → Prop := fun _ => False
theorem Go.refl (X : Addr → Prop) (st : Sto) (s : Shared) : Go X st st s s := ⟨⟨s.heap, s.toks, rfl⟩, fun _ _ _ _ e => e, fun _ e => e, fun _ e => e, fun _ e e' => absurd e e'⟩
theorem Go.trans {X : Addr → Prop} {st st₁ st₂ : Sto} {s s₁ s₂ : Shared} (x : Go X st st₁ s s₁) (y : Go X st₁ st₂ s₁ s₂) : Go X st st₂ s s₂ := by
  obtain ⟨h, tk, rfl⟩ := x.eq
  obtain ⟨h', tk', rfl⟩ := y.eq
  refine ⟨⟨h', tk', rfl⟩, fun a o e n g => ?_, fun a e => y.live a (x.live a e), fun a e => y.grow a (x.grow a e), fun a e e' => ?_⟩
  · refine y.pres a o ?_ n (x.pres a o e n g)
    cases q : st₁ a with
    | none => rfl
    | some p =>
      have := x.fresh a e (by rw [q]; exact nofun)
      rw [this] at g; cases g
  · cases q : st₁ a with
    | none =>
      have h1 := y.fresh a q e'
      cases q' : s.heap.get? a with
      | none => rfl
      | some p => exact absurd h1 (x.live a (by rw [q']; exact nofun))
    | some p => exact x.fresh a e (by rw [q]; exact nofun)
theorem Go.weaken {X Y : Addr → Prop} {st st' : Sto} {s s' : Shared} (x : Go X st st' s s') (h : ∀ a, X a → Y a) : Go Y st st' s s' := ⟨x.eq, fun a o e n g => x.pres a o e (fun q => n (h a q)) g, x.live, x.grow, x.fresh⟩
/-- only tokens, or new objects -/
theorem Go.ext {X : Addr → Prop} {st : Sto} {s : Shared} {h : Heap} {tk : Nat} (k : ∀ b o, s.heap.get? b = some o → h.get? b = some o) : Go X st st s { s with heap := h, toks := tk } :=
  ⟨⟨h, tk, rfl⟩, fun a o _ _ e => k a o e, fun a e => by
    cases q : s.heap.get? a with
    | none => exact absurd q e
    | some o => rw [k a o q]; exact nofun, fun _ e => e, fun _ e e' => absurd e e'⟩
/-- one store object turned -/
theorem Go.turn {X : Addr → Prop} {st : Sto} {s : Shared} {h : Heap} {tk : Nat} {a : Addr} {o o' : AO} (ha : st a = some o) (k : ∀ b p, b ≠ a → s.heap.get? b = some p → h.get? b = some p) (l : h.get? a ≠ none) : Go X st (upd st a o') s { s with heap := h, toks := tk } := by
  refine ⟨⟨h, tk, rfl⟩, fun b p e _ g => k b p (fun q => by subst q; rw [ha] at e; cases e) g, fun b e => ?_, fun b e => ?_, fun b e e' => ?_⟩
  · by_cases q : b = a
    · subst q; exact l
    · cases q' : s.heap.get? b with
      | none => exact absurd q' e
      | some p => rw [k b p q q']; exact nofun
  · unfold upd; split
    · exact nofun
    · exact e
  · unfold upd at e'
    split at e'
    · rename_i q; subst q; rw [ha] at e; cases e
    · exact absurd e e'
/-- a new store object -/
theorem Go.alloc {X : Addr → Prop} {st : Sto} {s : Shared} {h : Heap} {tk : Nat} {a : Addr} {o : AO} (ha : s.heap.get? a = none) (k : ∀ b p, s.heap.get? b = some p → h.get? b = some p) : Go X st (upd st a o) s { s with heap := h, toks := tk } := by
  refine ⟨⟨h, tk, rfl⟩, fun b p e _ g => k b p g, fun b e => ?_, fun b e => ?_, fun b e e' => ?_⟩
  · cases q' : s.heap.get? b with
    | none => exact absurd q' e
    | some p => rw [k b p q']; exact nofun
  · unfold upd; split
    · exact nofun
    · exact e
  · unfold upd at e'
    split at e'
    · rename_i q; subst q; exact ha
    · exact absurd e e'

section
variable {prog : Program} {w : World} {base : Bs} {h : Heap} {st : Sto}
theorem OR.data {a : Addr} {o : AO} (x : OR prog w base h a o) : ∃ p, h.get? a = some p ∧ (∀ vs n, p ≠ tupObj vs n) := by
  cases o with
  | list ds => obtain ⟨vs, n, e, _⟩ := x; exact ⟨_, e, fun _ _ q => by have := congrArg Obj.cls q; exact absurd this (by simp [tupObj])⟩
  | dict es =>
    obtain ⟨kvs, ⟨o, es, ep, e, _, hd, _⟩, _⟩ := x
    exact ⟨o, e, fun _ _ q => by rw [q] at hd; cases hd⟩
  | inst C d => exact ⟨_, x, fun _ _ q => by have := congrArg Obj.data q; cases this⟩
theorem Rel.notTup (R : Rel prog w base st h) {a : Addr} {vs : List Value} {n : Nat} (e : h.get? a = some (tupObj vs n)) : st a = none := by
  cases q : st a with
  | none => rfl
  | some o =>
    obtain ⟨p, hp, hn⟩ := (R.obj a o q).data
    rw [e] at hp; cases hp
    exact absurd rfl (hn vs n)
theorem Rel.live (R : Rel prog w base st h) {a : Addr} (e : st a ≠ none) : h.get? a ≠ none := by
  cases q : st a with
  | none => exact absurd q e
  | some o => obtain ⟨p, hp, _⟩ := (R.obj a o q).data; rw [hp]; exact nofun
theorem Rel.out (R : Rel prog w base st h) {a : Addr} (e : h.get? a = none) : st a = none := by
  cases q : st a with
  | none => rfl
  | some o => exact absurd e (R.live (by rw [q]; exact nofun))
theorem Rel.outBase (R : Rel prog w base st h) {a : Addr} {o : Obj} (e : base.heap.get? a = some o) : st a = none := by
  cases q : st a with
  | none => rfl
  | some p => have := R.new a (by rw [q]; exact nofun); rw [this] at e; cases e
theorem OR.keep {h' : Heap} {a : Addr} {o : AO} (x : OR prog w base h a o) (k : TupKeep base h h') (e : h'.get? a = h.get? a) : OR prog w base h' a o := by
  cases o with
  | list ds => obtain ⟨vs, n, q, r⟩ := x; exact ⟨vs, n, e.trans q, r.keep k⟩
  | dict es =>
    obtain ⟨kvs, ⟨o, es', ep, q, r⟩, t, u⟩ := x
    exact ⟨kvs, ⟨o, es', ep, e.trans q, r⟩, t, u.keep k⟩
  | inst C d => exact e.trans x
/-- new objects alone -/
theorem Rel.ext {h' : Heap} (R : Rel prog w base st h) (k : ∀ b o, h.get? b = some o → h'.get? b = some o) : Rel prog w base st h' := by
  refine ⟨fun a o e => ?_, R.new, fun a o e => k _ _ (R.keep _ _ e), fun a e => ⟨(R.bad a e).1, fun q => ?_⟩⟩
  · have x := R.obj a o e
    obtain ⟨p, hp, _⟩ := x.data
    exact x.keep (TupKeep.of k) (by rw [k _ _ hp, hp])
  · cases z : h.get? a with
    | none => exact (R.bad a e).2 z
    | some p => rw [k _ _ z] at q; cases q
/-- one object turned or new -/
theorem Rel.at {h' : Heap} {a : Addr} {o : AO} (R : Rel prog w base st h) (ha : base.heap.get? a = none) (k : ∀ b p, b ≠ a → h.get? b = some p → h'.get? b = some p) (t : TupKeep base h h') (x : OR prog w base h' a o) : Rel prog w base (upd st a o) h' := by
  refine ⟨fun b p e => ?_, fun b e => ?_, fun b p e => ?_, fun b e => ⟨(R.bad b e).1, fun q => ?_⟩⟩
  · unfold upd at e
    split at e
    · rename_i q; subst q; cases e; exact x
    · rename_i q
      have y := R.obj b p e
      obtain ⟨r, hr, _⟩ := y.data
      exact y.keep t (by rw [k b r q hr, hr])
  · unfold upd at e
    split at e
    · rename_i q; subst q; exact ha
    · exact R.new b e
  · exact k b p (fun q => by subst q; rw [ha] at e; cases e) (R.keep _ _ e)
  · by_cases z : b = a
    · subst z; obtain ⟨p, hp, _⟩ := x.data; rw [hp] at q; cases q
    · cases y : h.get? b with
      | none => exact (R.bad b e).2 y
      | some p => rw [k _ _ z y] at q; cases q
theorem Go.tup {X : Addr → Prop} {st' : Sto} {s s' : Shared} (R : Rel prog w base st s.heap) (g : Go X st st' s s') (hX : ∀ a vs n, X a → s.heap.get? a ≠ some (tupObj vs n)) : TupKeep base s.heap s'.heap :=
  fun a vs n _ e => g.pres a _ (R.notTup e) (fun q => hX a vs n q e) e
theorem Go.tup0 {st' : Sto} {s s' : Shared} (R : Rel prog w base st s.heap) (g : Go noX st st' s s') : TupKeep base s.heap s'.heap := g.tup R fun _ _ _ q => q.elim
end

/-- a frame: its names' values -/
structure Fra (ns : List Str) (env : Env) (base : Bs) (l : Loc) (st : Sto) (h : Heap) : Prop where
  kind : env.scope.kind = .function
  glob : env.globals = mainGlobals
  blt : env.builtins = builtinsNs
  locs : ∃ m, h.Ns env.locals m ∧ ∀ i x d, ns[i]? = some x → env.kindOf x = some .local → l i = some d → ∃ v, m x = some v ∧ VR base h v d
  cells : ∀ i x, ns[i]? = some x → env.kindOf x = some .cell → ∃ c cv, env.cells.lookup x = some c ∧ h.IsCell c cv ∧ ∀ d, l i = some d → ∃ v, cv = some v ∧ VR base h v d
  apart : st env.locals = none ∧ base.heap.get? env.locals = none
  capart : ∀ x c, env.cells.lookup x = some c → st c = none ∧ base.heap.get? c = none ∧ ∃ cv, h.IsCell c cv
  cinj : ∀ x y c, env.cells.lookup x = some c → env.cells.lookup y = some c → x = y
/-- the frame's own places -/
def frX (env : Env) : Addr → Prop := fun a => a = env.locals ∨ ∃ x, env.cells.lookup x = some a

theorem fr_notTup {ns : List Str} {env : Env} {base : Bs} {l : Loc} {st : Sto} {h : Heap} (F : Fra ns env base l st h) : ∀ a vs n, frX env a → h.get? a ≠ some (tupObj vs n) := by
  rintro a vs n (rfl | ⟨x, hx⟩) e
  · obtain ⟨m, ⟨o, es, ep, ho, hd, _⟩, _⟩ := F.locs
    rw [e] at ho; cases ho; cases hd
  · obtain ⟨_, _, cv, o, ho, hd⟩ := F.capart x a hx
    rw [e] at ho; cases ho; cases hd
/-- a step that leaves the frame's own places -/
theorem Fra.go {prog : Program} {w : World} {ns : List Str} {env : Env} {base : Bs} {l : Loc} {st st' : Sto} {s s' : Shared} (F : Fra ns env base l st s.heap) (R : Rel prog w base st s.heap) (g : Go noX st st' s s') : Fra ns env base l st' s'.heap := by
  have tk := g.tup0 R
  have out : ∀ a o, st a = none → s.heap.get? a = some o → st' a = none := fun a o e e' => by
    cases q : st' a with
    | none => rfl
    | some p => have := g.fresh a e (by rw [q]; exact nofun); rw [this] at e'; cases e'
  obtain ⟨m, hm, hl⟩ := F.locs
  obtain ⟨oL, es, ep, ho, hd, hk, hf⟩ := hm
  refine ⟨F.kind, F.glob, F.blt, ⟨m, ⟨oL, es, ep, g.pres _ _ F.apart.1 id ho, hd, hk, hf⟩, fun i x d a b c => ?_⟩, fun i x a b => ?_, ⟨out _ _ F.apart.1 ho, F.apart.2⟩, fun x c e => ?_, F.cinj⟩
  · obtain ⟨v, h1, h2⟩ := hl i x d a b c
    exact ⟨v, h1, h2.keep tk⟩
  · obtain ⟨c, cv, h1, ⟨o, ho, hd⟩, h3⟩ := F.cells i x a b
    refine ⟨c, cv, h1, ⟨o, g.pres _ _ (F.capart x c h1).1 id ho, hd⟩, fun d e => ?_⟩
    obtain ⟨v, q1, q2⟩ := h3 d e
    exact ⟨v, q1, q2.keep tk⟩
  · obtain ⟨h1, h2, cv, o, ho, hd⟩ := F.capart x c e
    exact ⟨out _ _ h1 ho, h2, cv, o, g.pres _ _ h1 id ho, hd⟩
end Mine

end

section
set_option linter.unusedVariables false
namespace Mine
open PySem

/-- what a global name stands for -/
inductive GV where
  | fn (a : Addr)
  | cls (a : Addr)
  | data (d : AV)
  | blt (x : Str)
structure Ctx where
  ns : List Str
  names : List (Str × NameKind)
  gl : Str → Option GV
def Ctx.kind (c : Ctx) (x : Str) : Option NameKind := c.names.lookup x
def Ctx.var (c : Ctx) (x : Str) : Option Nat := match c.kind x with
  | some .local => c.ns.findIdx? (· == x)
  | some .cell => c.ns.findIdx? (· == x)
  | _ => none
def Ctx.glob (c : Ctx) (x : Str) : Option GV := match c.kind x with
  | some .globalImplicit => if x == ("__debug__" : Str) then none else c.gl x
  | _ => none
def Ctx.blt (c : Ctx) (x : Str) : Option Str := match c.glob x with
  | some (.blt y) => some y
  | _ => none
def relabelN (c : Ctx) (names : List (Str × NameKind)) : List (Str × NameKind) :=
  names.map fun (n, k) => if (k == .free && c.kind n == some .cell) then (n, .cell) else (n, k)
def lookedUp (e : Expr) : Bool := match e with
  | .Call (.Name _ _) [] [] _ => true
  | _ => false
def nameIs (e : Expr) : Option Str := match e with
  | .Name x _ => some x
  | _ => none
def namesIn : List Expr → Option (List Str)
  | [] => some []
  | .Name x _ :: r => (namesIn r).map (x :: ·)
  | _ :: _ => none
def varsIn (c : Ctx) : List Str → Option (List Nat)
  | [] => some []
  | x :: r => match c.var x, varsIn c r with
    | some i, some is => some (i :: is)
    | _, _ => none
/-- the targets of a loop -/
def targets (c : Ctx) : Expr → Option (List Nat)
  | .Name x _ => (c.var x).map fun i => [i]
  | .Tuple es _ _ => match namesIn es with
    | some [x, y] => if x == y then none else varsIn c [x, y]
    | _ => none
  | _ => none
def keysIn : List (Option Expr) → Option (List Str)
  | [] => some []
  | some (.Constant (.str k) _ _) :: r => (keysIn r).map (k :: ·)
  | _ :: _ => none
def isSet : Expr → Bool
  | .Set .. => true
  | _ => false
def tgNames : Expr → List Str
  | .Name x _ => [x]
  | .Tuple es _ _ => (namesIn es).getD []
  | _ => []
def pairsMI : MI → Bool
  | .enum _ => true
  | .zip _ _ => true
  | _ => false
/-- the outer names that a comprehension's frame sees -/
def seen (c : Ctx) (names : List (Str × NameKind)) : List Nat :=
  (List.range c.ns.length).filter fun i => match c.ns[i]? with
    | some x => c.kind x == some .cell && names.lookup x == some .free
    | none => false

mutual
def comp : Nat → Ctx → Expr → Option ME
  | 0, _, _ => none
  | n + 1, c, e => match e with
    | .Constant .none _ _ => some (.lit .none)
    | .Constant (.bool b) _ _ => some (.lit (.bool b))
    | .Constant (.int i) _ _ => some (.lit (.int i))
    | .Constant (.str s) _ _ => some (.lit (.str s))
    | .Name x _ => if x == ("__debug__" : Str) then none else match c.var x with
      | some i => some (.var i)
      | none => match c.glob x with
        | some (.data d) => some (.lit d)
        | _ => none
    | .Tuple es _ _ => (comps n c es).map .tupE
    | .List es _ => (comps n c es).map .listE
    | .Dict ks vs _ => match keysIn ks, comps n c vs with
      | some ks, some as => if ks.Nodup && ks.length == vs.length && ks.length ≤ 10 && ks.length != 0 then some (.dictE ks as) else none
      | _, _ => none
    | .BinOp a op b _ => match comp n c a, comp n c b with
      | some x, some y => match op with
        | .Add => some (.bin .add x y)
        | .Sub => some (.bin .sub x y)
        | .Mult => some (.bin .mul x y)
        | .Mod => some (.bin .md x y)
        | .FloorDiv => some (.fdiv x y)
        | _ => none
      | _, _ => none
    | .UnaryOp .USub a _ => (comp n c a).map .neg
    | .UnaryOp .Not a _ => (comp n c a).map .notE
    | .BoolOp op vs _ => compB n c op vs
    | .IfExp t a b _ => match compT n c t, comp n c a, comp n c b with
      | some t, some x, some y => some (.ifE t x y)
      | _, _, _ => none
    | .Compare a [op] [b] _ => match comp n c a, comp n c b, compO op with
      | some x, some y, some o => some (.cmp o x y)
      | _, _, _ => none
    | .Compare a [o1, o2] [b, d] _ => match comp n c a, comp n c b, comp n c d, compO o1, compO o2 with
      | some x, some y, some z, some o1, some o2 => some (.cmp2 o1 o2 x y z)
      | _, _, _, _, _ => none
    | .Call (.Attribute o name apos) as [] pos => if apos.endLine == pos.line && !lookedUp o && as.length < 20 then
        match comp n c o with
        | some x =>
          if name == ("append" : Str) then (match as with | [a] => (comp n c a).map (.append x) | _ => none)
          else if name == ("extend" : Str) then (match as with | [a] => (comp n c a).map (.extend x) | _ => none)
          else if name == ("pop" : Str) then (match as with | [] => some (.pop x) | _ => none)
          else (comps n c as).map (.meth x name)
        | none => none
      else none
    | .Call (.Name f _) as [] _ => match c.glob f with
      | some (.fn a) => if as.length < 20 then (comps n c as).map (.call a) else none
      | some (.cls a) => if as.length < 20 then (comps n c as).map (.call a) else none
      | some (.blt y) =>
        if y == ("len" : Str) then (match as with | [a] => (comp n c a).map .len | _ => none)
        else if y == ("list" : Str) then (match as with | [a] => (comp n c a).map .listOf | _ => none)
        else if y == ("int" : Str) then (match as with | [a] => (comp n c a).map .intOf | _ => none)
        else if y == ("all" : Str) then (match as with | [a] => (comp n c a).map .allOf | _ => none)
        else if y == ("max" : Str) then (match as with | [a, b] => (match comp n c a, comp n c b with | some x, some y => some (.max x y) | _, _ => none) | _ => none)
        else if y == ("min" : Str) then (match as with | [a, b] => (match comp n c a, comp n c b with | some x, some y => some (.min x y) | _, _ => none) | _ => none)
        else none
      | _ => none
    | .Attribute o name _ => if lookedUp o then none else (comp n c o).map fun x => .attr x name
    | .Subscript o (.Slice none none (some (.UnaryOp .USub (.Constant (.int 1) _ _) _)) _) _ => (comp n c o).map .rev
    | .Subscript o (.Slice lo hi none _) _ => match comp n c o, compOpt n c lo, compOpt n c hi with
      | some x, some y, some z => some (.slice x y z)
      | _, _, _ => none
    | .Subscript o i _ => match comp n c o, comp n c i with
      | some x, some y => some (.sub x y)
      | _, _ => none
    | .ListComp elt [⟨tg, it, [], 0⟩] scope _ =>
      let c' : Ctx := { c with names := relabelN c scope.names }
      if scope.kind == .function && !isSet it && scope.names.all (fun x => x.2 != .cell && (x.2 != .local || scope.names.lookup x.1 == some .local)) && scope.names.all (fun x => x.2 != .free || (c.kind x.1 == some .cell && c.ns.contains x.1)) then
        match compI n c it, targets c' tg, comp n c' elt with
        | some i, some t, some x => if pairsMI i == (t.length == 2) && (tgNames tg).all (fun y => scope.names.lookup y == some .local) then some (.comp x i t (seen c scope.names)) else none
        | _, _, _ => none
      else none
    | _ => none
def compOpt : Nat → Ctx → Option Expr → Option ME
  | 0, _, _ => none
  | n + 1, c, e => match e with
    | none => some (.lit .none)
    | some e => comp n c e
def comps : Nat → Ctx → List Expr → Option MEs
  | 0, _, _ => none
  | n + 1, c, es => match es with
    | [] => some .nil
    | e :: r => match comp n c e, comps n c r with
      | some x, some xs => some (.cons x xs)
      | _, _ => none
def compB : Nat → Ctx → BoolOp → List Expr → Option ME
  | 0, _, _, _ => none
  | n + 1, c, op, vs => match vs with
    | [] => none
    | [v] => comp n c v
    | v :: r => match comp n c v, compB n c op r with
      | some x, some y => some (match op with | .And => .andE x y | .Or => .orE x y)
      | _, _ => none
def compT : Nat → Ctx → Expr → Option MT
  | 0, _, _ => none
  | n + 1, c, e => match e with
    | .UnaryOp .Not a _ => (compT n c a).map .notT
    | .BoolOp op vs _ => compTB n c op vs
    | .IfExp t a b _ => match compT n c t, compT n c a, compT n c b with
      | some t, some x, some y => some (.ifT t x y)
      | _, _, _ => none
    | e => (comp n c e).map .val
def compTB : Nat → Ctx → BoolOp → List Expr → Option MT
  | 0, _, _, _ => none
  | n + 1, c, op, vs => match vs with
    | [] => none
    | [v] => compT n c v
    | v :: r => match compT n c v, compTB n c op r with
      | some x, some y => some (match op with | .And => .andT x y | .Or => .orT x y)
      | _, _ => none
def compI : Nat → Ctx → Expr → Option MI
  | 0, _, _ => none
  | n + 1, c, e => match e with
    | .Call (.Name f _) as [] _ => match c.blt f with
      | some y =>
        if y == ("enumerate" : Str) then (match as with | [a] => (comp n c a).map .enum | _ => none)
        else if y == ("zip" : Str) then (match as with | [a, b] => (match comp n c a, comp n c b with | some x, some y => some (.zip x y) | _, _ => none) | _ => none)
        else if y == ("range" : Str) then (match as with
          | [a] => (comp n c a).map .range1
          | [a, b] => (match comp n c a, comp n c b with | some x, some y => some (.range2 x y) | _, _ => none)
          | _ => none)
        else none
      | none => (comp n c e).map .list
    | e => (comp n c e).map .list
def compO : CmpOp → Option COp
  | .Eq => some .eq
  | .NotEq => some .ne
  | .Lt => some .lt
  | .LtE => some .le
  | .Gt => some .gt
  | .GtE => some .ge
  | .Is => some .is_
  | _ => none
end

def compAug : Operator → Option BOp
  | .Add => some .add
  | .Sub => some .sub
  | _ => none
def isComp : Expr → Bool
  | .ListComp .. => true
  | .SetComp .. => true
  | .DictComp .. => true
  | _ => false
def constTup : Expr → Bool
  | .Tuple vs _ _ => vs.all (constantsAlone 8)
  | _ => false
mutual
def compS : Nat → Ctx → Stmt → Option MS
  | 0, _, _ => none
  | n + 1, c, s => match s with
    | .Expr v _ => if isComp v then none else (comp n c v).map .expr
    | .Return (some v) _ => (comp n c v).map .ret
    | .Return none _ => some .retN
    | .Assign [.Name x _] v _ => match c.var x, comp n c v with
      | some i, some e => some (.asg i e)
      | _, _ => none
    | .Assign [.Tuple es _ _] v _ => if isComp v then none else match namesIn es with
      | some xs => if xs.Nodup && !constTup v then (match varsIn c xs, comp n c v with | some is, some e => some (.asgT is e) | _, _ => none) else none
      | none => none
    | .Assign [.Attribute o name _] v _ => match comp n c o, comp n c v with
      | some x, some e => some (.setattr x name e)
      | _, _ => none
    | .Assign [.Subscript o (.Slice (some lo) (some hi) none _) _] v _ => if isComp v then none else match comp n c o, comp n c lo, comp n c hi, comp n c v with
      | some x, some y, some z, some e => some (.setslice x y z e)
      | _, _, _, _ => none
    | .Assign [.Subscript o i _] v _ => if isComp v then none else match comp n c o, comp n c i, comp n c v with
      | some x, some y, some e => some (.setsub x y e)
      | _, _, _ => none
    | .AugAssign (.Name x _) op v _ => match c.var x, compAug op, comp n c v with
      | some i, some o, some e => some (.aug i o e)
      | _, _, _ => none
    | .If t b o _ => match compT n c t, compSs n c b, compSs n c o with
      | some t, some b, some o => some (.ite t b o)
      | _, _, _ => none
    | .For tg it b [] _ => if isSet it then none else match compI n c it, targets c tg, compSs n c b with
      | some i, some t, some b => if pairsMI i == (t.length == 2) then some (.for_ i t b) else none
      | _, _, _ => none
    | .While t b [] _ => match compT n c t, compSs n c b with
      | some t, some b => some (.while_ t b)
      | _, _ => none
    | .Continue _ => some .cont
    | .Raise _ _ _ => some .stuck
    | _ => none
def compSs : Nat → Ctx → List Stmt → Option MSs
  | 0, _, _ => none
  | n + 1, c, ss => match ss with
    | [] => some .nil
    | s :: r => match compS n c s, compSs n c r with
      | some x, some xs => some (.cons x xs)
      | _, _ => none
end
end Mine

end

section
set_option linter.unusedVariables false
set_option linter.unusedSimpArgs false
namespace Mine
open PySem PySem.W PySem.Calls PyProof.Rows PySem.SeqAt

structure Room (k : Nat) (A : Around) : Prop where
  hd : A.handled = none
  dp : A.depth + 10 * k + 20 < 900
  un : A.units + 100 * k + 100 < 9000
theorem Room.line {k : Nat} {A : Around} (r : Room k A) : A.units + 50 < cLine := by have := r.un; rw [show cLine = 9900 from rfl]; omega
theorem Room.mark {k : Nat} {A : Around} (r : Room k A) : A.mark none = A := rfl
theorem Room.mono {k j : Nat} {A : Around} (r : Room k A) (h : j ≤ k) : Room j A := ⟨r.hd, by have := r.dp; omega, by have := r.un; omega⟩

section
variable (prog : Program) (w : World) (base : Bs)
/-- what is behind an operation -/
def Out (Q : AV → Sto → Prop) (QQ : Value → Shared → Prop) (st : Sto) (s : Shared) : Prop :=
  ∀ v d st' s', Q d st' → VR base s'.heap v d → Rel prog w base st' s'.heap → Go noX st st' s s' → QQ v s'
def OutU (Q : Sto → Prop) (QQ : Unit → Shared → Prop) (st : Sto) (s : Shared) : Prop :=
  ∀ st' s', Q st' → Rel prog w base st' s'.heap → Go noX st st' s s' → QQ () s'
end
section
variable {prog : Program} {w : World} {base : Bs} {st : Sto} {s : Shared} {A : Around} {Q : AV → Sto → Prop} {QQ : Value → Shared → Prop} {EE : Value → Shared → Prop}

theorem Out.tok (o : Out prog w base Q QQ st s) (R : Rel prog w base st s.heap) {v : Value} {d : AV} (tk : Nat) (q : Q d st) (x : VR base s.heap v d) : QQ v { s with toks := tk } :=
  o v d st _ q x R (Go.ext (h := s.heap) (tk := tk) fun _ _ e => e)
theorem Out.now (o : Out prog w base Q QQ st s) (R : Rel prog w base st s.heap) {v : Value} {d : AV} (q : Q d st) (x : VR base s.heap v d) : QQ v s := o.tok R s.toks q x
theorem Out.ext (o : Out prog w base Q QQ st s) (R : Rel prog w base st s.heap) {v : Value} {d : AV} {h : Heap} (tk : Nat) (k : ∀ b p, s.heap.get? b = some p → h.get? b = some p) (q : Q d st) (x : VR base h v d) : QQ v { s with heap := h, toks := tk } :=
  o v d st _ q x (R.ext k) (Go.ext k)
theorem size_free (h : Heap) : h.get? h.objs.size = none := by
  cases q : h.get? h.objs.size with
  | none => rfl
  | some o => exact absurd (Heap.lt_size q) (Nat.lt_irrefl _)
theorem Rel.free (R : Rel prog w base st s.heap) {a : Addr} (e : s.heap.get? a = none) : base.heap.get? a = none := by
  cases q : base.heap.get? a with
  | none => rfl
  | some o => rw [R.keep _ _ q] at e; cases e
theorem Rel.fresh {h : Heap} {a : Addr} {o : AO} (R : Rel prog w base st s.heap) (e : s.heap.get? a = none) (k : ∀ b p, s.heap.get? b = some p → h.get? b = some p) (x : OR prog w base h a o) : Rel prog w base (upd st a o) h :=
  R.at (R.free e) (fun b p _ g => k b p g) (TupKeep.of k) x
/-- a new list -/
theorem Out.list (o : Out prog w base Q QQ st s) (R : Rel prog w base st s.heap) {h : Heap} (tk : Nat) {a : Addr} {vs : List Value} {ds : List AV} {n : Nat} (e : s.heap.get? a = none) (k : ∀ b p, s.heap.get? b = some p → h.get? b = some p)
    (x : IsL h a vs.toArray n) (r : VRs base s.heap vs ds) (q : ∀ m, st m = none → Q (.loc m) (upd st m (.list ds))) : QQ (.ref a) { s with heap := h, toks := tk } :=
  o _ _ _ _ (q a (R.out e)) (.loc a) (R.fresh e k ⟨vs, n, x, r.keep (TupKeep.of k)⟩) (Go.alloc e k)
theorem Out.pushList (o : Out prog w base Q QQ st s) (R : Rel prog w base st s.heap) (tk : Nat) {vs : List Value} {ds : List AV} (r : VRs base s.heap vs ds)
    (q : ∀ m, st m = none → Q (.loc m) (upd st m (.list ds))) : QQ (.ref s.heap.objs.size) { s with heap := s.heap.push { cls := .type "list", data := .seq vs.toArray }, toks := tk } :=
  o.list R tk (size_free _) (fun _ _ e => Heap.get?_push_of_some _ e) (IsL.new _ _) r q

theorem toL (items : Array Value) : items = items.toList.toArray := by simp
theorem VR.list {h : Heap} {ds : List AV} {a : Addr} (R : Rel prog w base st h) (e : st a = some (.list ds)) : ∃ vs n, IsL h a vs.toArray n ∧ VRs base h vs ds := R.obj _ _ e
theorem VR.ofTup {h : Heap} {v : Value} {ds : List AV} (x : VR base h v (.tup ds)) : ∃ a vs n, v = .ref a ∧ IsT h a vs.toArray n ∧ VRs base h vs ds := by
  cases x with | tup _ e r => exact ⟨_, _, _, rfl, e, r⟩
theorem VR.ofLoc {h : Heap} {v : Value} {a : Addr} (x : VR base h v (.loc a)) : v = .ref a := by cases x; rfl
theorem VR.ofInt {h : Heap} {v : Value} {i : Int} (x : VR base h v (.int i)) : ∃ t, v = .int i t := by cases x; exact ⟨_, rfl⟩
theorem VR.ofBool {h : Heap} {v : Value} {b : Bool} (x : VR base h v (.bool b)) : v = .bool b := by cases x; rfl
theorem VR.ofStr {h : Heap} {v : Value} {y : Str} (x : VR base h v (.str y)) : ∃ t, v = .str y t := by cases x; exact ⟨_, rfl⟩
theorem VR.ofNone {h : Heap} {v : Value} (x : VR base h v .none) : v = .none := by cases x; rfl

theorem bits_small {a : Int} (h : Small a) : Builtin.Int.intBits a ≤ 64 := by
  obtain ⟨h1, h2⟩ := h
  unfold Builtin.Int.intBits
  unfold LIM at h1 h2
  split
  · omega
  · rename_i hz
    have hn : a.natAbs < 2 ^ 61 := by omega
    have : a.natAbs.log2 < 61 := (Nat.log2_lt (by intro q; apply hz; simp [q] <;> omega)).mpr hn
    omega

theorem fold_rep (v : Value) : ∀ (n : Nat) (acc : Array Value), (List.replicate n #[v]).foldl (fun x y => x ++ y) acc = acc ++ (List.replicate n v).toArray
  | 0, acc => by simp
  | n + 1, acc => by
    rw [List.replicate_succ, List.foldl_cons, fold_rep v n]
    apply Array.ext'
    simp [List.replicate_succ]

def opB : BOp → Operator
  | .add => .Add
  | .sub => .Sub
  | .mul => .Mult
  | .md => .Mod
/-- two-placed operators -/
theorem binop_ok {op : BOp} {x y : AV} {v u : Value} (R : Rel prog w base st s.heap) (hx : VR base s.heap v x) (hy : VR base s.heap u y) (h : binP op x y st Q) (o : Out prog w base Q QQ st s) :
    wpAny (model prog w) A (binaryOp (opB op) v u) QQ EE s := by
  cases op with
  | add =>
    rcases h with ⟨a, b, rfl, rfl, q⟩ | ⟨a, b, ds, es, rfl, rfl, ha, hb, hz, q⟩
    · obtain ⟨t, rfl⟩ := hx.ofInt
      obtain ⟨t', rfl⟩ := hy.ofInt
      exact P.add_int (o.tok R _ q (.int _ _))
    · cases hx; cases hy
      obtain ⟨vs, n, h1, r1⟩ := R.obj _ _ ha
      obtain ⟨us, m, h2, r2⟩ := R.obj _ _ hb
      have e1 := r1.length
      have e2 := r2.length
      refine P.add_list h1 h2 ?_ (by simp only [List.size_toArray]; rw [sizeLine_eq]; omega)
      have := o.pushList R s.toks (r1.append r2) q
      rw [← List.append_toArray] at this
      exact this
  | sub =>
    obtain ⟨a, b, rfl, rfl, q⟩ := h
    obtain ⟨t, rfl⟩ := hx.ofInt
    obtain ⟨t', rfl⟩ := hy.ofInt
    exact P.sub_int (o.tok R _ q (.int _ _))
  | mul =>
    rcases h with ⟨a, b, rfl, rfl, ha, q⟩ | ⟨a, d, b, rfl, rfl, ha, hb0, hb, q⟩
    · obtain ⟨t, rfl⟩ := hx.ofInt
      obtain ⟨t', rfl⟩ := hy.ofInt
      exact P.mul_int (o.tok R _ q (.int _ _)) (IntMulOk.of_left (bits_small ha))
    · cases hx
      obtain ⟨t', rfl⟩ := hy.ofInt
      obtain ⟨vs, n, h1, r1⟩ := R.obj _ _ ha
      cases r1 with
      | cons r1 r2 =>
        cases r2
        rename_i v
        refine wpAny_binaryOp_repeat_ref (T := "list") (U := "int") (by decide) ⟨_, h1, rfl⟩ (fun s' => typeIs_int s' b t') noFill_list_mul F.fills_int_mul F.slot_int_rmul repeat_list F.slot_int_index.lookup
          (call_meets F.slot_int_rmul (typeIs_int s b t') F.entry_int_rmul (F.args_int_rmul_2 _ _) (int___rmul___int_list b t' a _ n)
            ⟨h1, rfl, ⟨_, h1, rfl⟩, call_meets F.slot_list_mul ⟨_, h1, rfl⟩ F.entry_list_mul (F.args_list_mul_2 _ _)
              (AutoListH.list___mul___list_int_3 a _ n b t' (by simp [Builtin.List.listFitsIndex]; omega) (by simp; omega) (by simp [Builtin.List.listTooLong, sizeLine]; omega))
              ⟨h1, ?_⟩⟩)
        have := o.pushList R s.toks (VRs.replicate r1 b.toNat) q
        have e : (List.replicate b.toNat v).toArray = List.foldl (fun x1 x2 => x1 ++ x2) #[] (List.replicate (if ([v].toArray : Array Value).isEmpty = true then 0 else b.toNat) [v].toArray) := by
          rw [if_neg (by simp), fold_rep]; simp
        rw [e] at this
        exact this
  | md =>
    obtain ⟨a, b, rfl, rfl, hb, _, q⟩ := h
    obtain ⟨t, rfl⟩ := hx.ofInt
    obtain ⟨t', rfl⟩ := hy.ofInt
    refine PyProof.Rows.mod_int' (by omega) ?_
    rw [Int.fmod_eq_emod_of_nonneg _ (by omega)]
    exact o.tok R _ q (.int _ _)

theorem fdiv_ok {a b : Int} {t u : Tok} (R : Rel prog w base st s.heap) (hb : 0 < b) (hb' : b ≤ LIM) (ha : Small a) (q : Q (.int (a / b)) st) (o : Out prog w base Q QQ st s) :
    wpAny (model prog w) A (binaryOp .FloorDiv (.int a t) (.int b u)) QQ EE s := by
  refine AutoIntOps.floordiv_1 (by simp; omega) ?_ ?_
  · unfold Builtin.divisionGoesByPylong
    have hbz : b ≠ 0 := by omega
    have hn : b.natAbs < 2 ^ 61 := by unfold LIM at hb'; omega
    have : b.natAbs.log2 < 61 := (Nat.log2_lt (by omega)).mpr hn
    simp [hbz]
    intro h
    omega
  · rw [Int.fdiv_eq_ediv_of_nonneg _ (by omega)]
    exact o.tok R _ q (.int _ _)

mutual
theorem eqv_self {h : Heap} (R : Rel prog w base st h) : ∀ {n : Nat} {d e : AV} {b : Bool} {v : Value}, EqV st n d e b → VR base h v d → VR base h v e → b = true
  | _, _, _, _, _, .none, _, _ => rfl
  | _, _, _, _, _, .bool a b, x, y => by cases x; cases y; simp
  | _, _, _, _, _, .int a b, x, y => by cases x; cases y; simp
  | _, _, _, _, _, .str a b, x, y => by cases x; cases y; simp
  | _, _, _, _, _, .tup k, x, y => by
    cases x with
    | tup _ e1 r1 =>
      cases y with
      | tup _ e2 r2 =>
        rw [e1] at e2
        have e3 := congrArg (fun o : Option Obj => o.map Obj.data) e2
        simp only [Option.map_some, tupObj, Option.some.injEq, Data.seq.injEq] at e3
        have e4 : _ = _ := congrArg Array.toList e3.1
        simp only [List.toList_toArray] at e4
        subst e4
        have l1 := r1.length
        have l2 := r2.length
        rw [eqvs_self R k r1 r2]
        simp [← l1, ← l2]
  | _, _, _, _, _, .list a b c k, x, y => by
    cases x; cases y
    rw [a] at b; cases b
    obtain ⟨vs, n, _, r⟩ := R.obj _ _ a
    exact eqvs_self R k r r
  | _, _, _, _, _, .listN a b c, x, y => by
    cases x; cases y
    rw [a] at b; cases b
    exact absurd rfl c
theorem eqvs_self {h : Heap} (R : Rel prog w base st h) : ∀ {n : Nat} {ds es : List AV} {bs : List Bool} {vs : List Value}, EqVs st n ds es bs → VRs base h vs ds → VRs base h vs es → bs.all id = true
  | _, _, _, _, _, .nilL _, _, _ => rfl
  | _, _, _, _, _, .nilR _, _, _ => rfl
  | _, _, _, _, _, .cons k ks, x, y => by
    cases x with
    | cons x1 x2 =>
      cases y with
      | cons y1 y2 =>
        rw [List.all_cons, eqvs_self R ks x2 y2, eqv_self R k x1 y1]; rfl
end
theorem eqvs_len : ∀ {n : Nat} {ds es : List AV} {bs : List Bool}, EqVs st n ds es bs → bs.length = min ds.length es.length
  | _, _, _, _, .nilL _ => by simp
  | _, _, _, _, .nilR _ => by simp
  | _, _, _, _, .cons _ ks => by have := eqvs_len ks; simp [this]
theorem eqvs_at : ∀ {n : Nat} {ds es : List AV} {bs : List Bool} {j : Nat} {d e : AV}, EqVs st n ds es bs → ds[j]? = some d → es[j]? = some e → EqV st n d e (bs.getD j true)
  | _, _, _, _, _, _, _, .nilL _, x, _ => by simp at x
  | _, _, _, _, _, _, _, .nilR _, _, y => by simp at y
  | _, _, _, _, 0, _, _, .cons k _, x, y => by simp at x y; subst x; subst y; simpa using k
  | _, _, _, _, j + 1, _, _, .cons _ ks, x, y => by
    simp at x y
    have := eqvs_at ks x y
    simpa using this
theorem all_range : ∀ (bs : List Bool), (List.range bs.length).all (fun j => bs.getD j true) = bs.all id
  | [] => rfl
  | b :: bs => by
    rw [List.length_cons, List.range_succ_eq_map, List.all_cons, List.all_map, List.all_cons, ← all_range bs]
    simp only [Function.comp_def, List.getD_cons_zero, List.getD_cons_succ, id]
theorem all_min {bs : List Bool} {n : Nat} (h : n = bs.length) : (List.range n).all (fun j => bs.getD j true) = bs.all id := by rw [h, all_range]
theorem eq_at : ∀ (n : Nat) (A : Around) {x y : AV} {b : Bool} {v u : Value}, Rel prog w base st s.heap → EqV st n x y b → VR base s.heap v x → VR base s.heap u y → A.units + n < cLine → EqAt A s v u b := by
  intro n
  induction n with
  | zero =>
    intro A x y b v u R k hx hy hA
    cases k with
    | none => cases hx; cases hy; exact EqAt.same _
    | bool a b => cases hx; cases hy; exact EqAt.bool_bool _ _
    | int a b => cases hx; cases hy; exact EqAt.int_int _ _ _ _
    | str a b => cases hx; cases hy; exact EqAt.str_str _ _ _ _
  | succ n ih =>
    intro A x y b v u R k hx hy hA
    have kk := k
    cases k with
    | none => cases hx; cases hy; exact EqAt.same _
    | bool a b => cases hx; cases hy; exact EqAt.bool_bool _ _
    | int a b => cases hx; cases hy; exact EqAt.int_int _ _ _ _
    | str a b => cases hx; cases hy; exact EqAt.str_str _ _ _ _
    | @tup _ ds es bs k =>
      have hb : ∀ v, VR base s.heap v (.tup ds) → VR base s.heap v (.tup es) → _ := fun v => eqv_self (v := v) R kk
      obtain ⟨a, vs, p, rfl, e1, r1⟩ := hx.ofTup
      obtain ⟨a', us, p', rfl, e2, r2⟩ := hy.ofTup
      by_cases q : a = a'
      · subst q; rw [hb _ hx hy]; exact EqAt.same _
      · refine EqAt.of_refs q ?_
        have := RcAt.tuples (A := A) (s := s) (e := fun j => bs.getD j true) (l := a) (b := a') (items := vs.toArray) (items2 := us.toArray) ⟨_, e1, rfl, _, rfl⟩ ⟨_, e2, rfl, _, rfl⟩ (by omega) (fun j h1 h2 => by
          simp at h1 h2
          have l1 := r1.length
          have l2 := r2.length
          obtain ⟨v1, g1, w1⟩ := r1.get (k := j) (List.getElem?_eq_getElem (by omega))
          obtain ⟨v2, g2, w2⟩ := r2.get (k := j) (List.getElem?_eq_getElem (by omega))
          have g1' : vs[j] = v1 := by rw [List.getElem?_eq_getElem h1] at g1; exact Option.some.inj g1
          have g2' : us[j] = v2 := by rw [List.getElem?_eq_getElem h2] at g2; exact Option.some.inj g2
          simp only [List.getElem_toArray, g1', g2']
          exact ih A.in1 R (eqvs_at k (List.getElem?_eq_getElem (by omega)) (List.getElem?_eq_getElem (by omega))) w1 w2 (by simp; omega))
        have l1 := r1.length
        have l2 := r2.length
        have l3 := eqvs_len k
        simp only [List.size_toArray] at this
        rw [all_min (by omega), l1, l2] at this
        exact this
    | @list _ a a' ds es bs h1 h2 h3 k =>
      have hb : ∀ v, VR base s.heap v (.loc a) → VR base s.heap v (.loc a') → _ := fun v => eqv_self (v := v) R kk
      cases hx; cases hy
      obtain ⟨vs, p, e1, r1⟩ := R.obj _ _ h1
      obtain ⟨us, p', e2, r2⟩ := R.obj _ _ h2
      have l1 := r1.length
      have l2 := r2.length
      have l3 := eqvs_len k
      by_cases q : a = a'
      · subst q; rw [hb _ (.loc _) (.loc _)]; exact EqAt.same _
      · refine EqAt.of_refs q ?_
        have := RcAt.lists (A := A) (s := s) (e := fun j => bs.getD j true) (l := a) (b := a') (items := vs.toArray) (items2 := us.toArray) e1.isList e2.isList (by simp; omega) (by omega) (fun j h1 h2 => by
          simp at h1 h2
          obtain ⟨v1, g1, w1⟩ := r1.get (k := j) (List.getElem?_eq_getElem (by omega))
          obtain ⟨v2, g2, w2⟩ := r2.get (k := j) (List.getElem?_eq_getElem (by omega))
          have g1' : vs[j] = v1 := by rw [List.getElem?_eq_getElem h1] at g1; exact Option.some.inj g1
          have g2' : us[j] = v2 := by rw [List.getElem?_eq_getElem h2] at g2; exact Option.some.inj g2
          simp only [List.getElem_toArray, g1', g2']
          exact ih A.in1 R (eqvs_at k (List.getElem?_eq_getElem (by omega)) (List.getElem?_eq_getElem (by omega))) w1 w2 (by simp; omega))
        simp only [List.size_toArray] at this
        rw [all_min (by omega)] at this
        exact this
    | @listN _ a a' ds es h1 h2 h3 =>
      cases hx; cases hy
      obtain ⟨vs, p, e1, r1⟩ := R.obj _ _ h1
      obtain ⟨us, p', e2, r2⟩ := R.obj _ _ h2
      have l1 := r1.length
      have l2 := r2.length
      by_cases q : a = a'
      · subst q; rw [h1] at h2; cases h2; exact absurd rfl h3
      · exact EqAt.of_refs q (RcAt.lists_lengths e1.isList e2.isList (by simp; omega) (by omega))

/-- «==» and «!=» at the top -/
theorem eq_ok {n : Nat} {x y : AV} {b : Bool} {v u : Value} (R : Rel prog w base st s.heap) (k : EqV st n x y b) (hx : VR base s.heap v x) (hy : VR base s.heap u y) (hA : A.units + n < cLine) : RcAt A s v u b ∧ RcNeAt A s v u (!b) := by
  have items : ∀ {ds es : List AV} {bs : List Bool} {vs us : List Value} {m : Nat}, m < n → EqVs st m ds es bs → VRs base s.heap vs ds → VRs base s.heap us es → ∀ j (h1 : j < vs.toArray.size) (h2 : j < us.toArray.size), EqAt A.in1 s vs.toArray[j] us.toArray[j] (bs.getD j true) := by
    intro ds es bs vs us m hm k r1 r2 j h1 h2
    simp at h1 h2
    have l1 := r1.length
    have l2 := r2.length
    obtain ⟨v1, g1, w1⟩ := r1.get (k := j) (List.getElem?_eq_getElem (by omega))
    obtain ⟨v2, g2, w2⟩ := r2.get (k := j) (List.getElem?_eq_getElem (by omega))
    have g1' : vs[j] = v1 := by rw [List.getElem?_eq_getElem h1] at g1; exact Option.some.inj g1
    have g2' : us[j] = v2 := by rw [List.getElem?_eq_getElem h2] at g2; exact Option.some.inj g2
    simp only [List.getElem_toArray, g1', g2']
    exact eq_at m A.in1 R (eqvs_at k (List.getElem?_eq_getElem (by omega)) (List.getElem?_eq_getElem (by omega))) w1 w2 (by simp; omega)
  cases k with
  | none => cases hx; cases hy; exact ⟨RcAt.none_none, RcNeAt.none_none⟩
  | bool a b => cases hx; cases hy; exact ⟨RcAt.bool_bool _ _, RcNeAt.bool_bool _ _⟩
  | int a b => cases hx; cases hy; exact ⟨RcAt.int_int _ _ _ _, RcNeAt.int_int _ _ _ _⟩
  | str a b => cases hx; cases hy; exact ⟨RcAt.str_str _ _ _ _, RcNeAt.str_str _ _ _ _⟩
  | @tup _ ds es bs k =>
    obtain ⟨a, vs, p, rfl, e1, r1⟩ := hx.ofTup
    obtain ⟨a', us, p', rfl, e2, r2⟩ := hy.ofTup
    have l1 := r1.length
    have l2 := r2.length
    have l3 := eqvs_len k
    have t1 := RcAt.tuples (A := A) (s := s) (e := fun j => bs.getD j true) (l := a) (b := a') (items := vs.toArray) (items2 := us.toArray) ⟨_, e1, rfl, _, rfl⟩ ⟨_, e2, rfl, _, rfl⟩ (by omega) (items (by omega) k r1 r2)
    have t2 := RcNeAt.tuples (A := A) (s := s) (e := fun j => bs.getD j true) (l := a) (b := a') (items := vs.toArray) (items2 := us.toArray) ⟨_, e1, rfl, _, rfl⟩ ⟨_, e2, rfl, _, rfl⟩ (by omega) (items (by omega) k r1 r2)
    simp only [List.size_toArray] at t1 t2
    rw [all_min (by omega), l1, l2] at t1 t2
    exact ⟨t1, t2⟩
  | @list _ a a' ds es bs h1 h2 h3 k =>
    cases hx; cases hy
    obtain ⟨vs, p, e1, r1⟩ := R.obj _ _ h1
    obtain ⟨us, p', e2, r2⟩ := R.obj _ _ h2
    have l1 := r1.length
    have l2 := r2.length
    have l3 := eqvs_len k
    have t1 := RcAt.lists (A := A) (s := s) (e := fun j => bs.getD j true) (l := a) (b := a') (items := vs.toArray) (items2 := us.toArray) e1.isList e2.isList (by simp; omega) (by omega) (items (by omega) k r1 r2)
    have t2 := RcNeAt.lists (A := A) (s := s) (e := fun j => bs.getD j true) (l := a) (b := a') (items := vs.toArray) (items2 := us.toArray) e1.isList e2.isList (by simp; omega) (by omega) (items (by omega) k r1 r2)
    simp only [List.size_toArray] at t1 t2
    rw [all_min (by omega)] at t1 t2
    exact ⟨t1, t2⟩
  | @listN _ a a' ds es h1 h2 h3 =>
    cases hx; cases hy
    obtain ⟨vs, p, e1, r1⟩ := R.obj _ _ h1
    obtain ⟨us, p', e2, r2⟩ := R.obj _ _ h2
    have l1 := r1.length
    have l2 := r2.length
    exact ⟨RcAt.lists_lengths e1.isList e2.isList (by simp; omega) (by omega), RcNeAt.lists_lengths e1.isList e2.isList (by simp; omega) (by omega)⟩

def opOf : COp → CmpOp
  | .eq => .Eq
  | .ne => .NotEq
  | .lt => .Lt
  | .le => .LtE
  | .gt => .Gt
  | .ge => .GtE
  | .is_ => .Is
theorem cmp_ok {op : COp} {x y : AV} {v u : Value} (R : Rel prog w base st s.heap) (hA : A.units + 20 < cLine) (hx : VR base s.heap v x) (hy : VR base s.heap u y) (h : cmpP op x y st Q) (o : Out prog w base Q QQ st s) :
    wpAny (model prog w) A (compareOp (opOf op) v u) QQ EE s := by
  cases op with
  | eq => obtain ⟨b, k, q⟩ := h; exact cmp_ofEq ((eq_ok R k hx hy hA).1 _ _ _ _ (o.now R q (.bool _)))
  | ne => obtain ⟨b, k, q⟩ := h; exact cmp_ofNotEq ((eq_ok R k hx hy hA).2 _ _ _ _ (o.now R q (.bool _)))
  | lt => obtain ⟨a, b, rfl, rfl, q⟩ := h; obtain ⟨t, rfl⟩ := hx.ofInt; obtain ⟨t', rfl⟩ := hy.ofInt; exact P.lt_int (o.now R q (.bool _))
  | le => obtain ⟨a, b, rfl, rfl, q⟩ := h; obtain ⟨t, rfl⟩ := hx.ofInt; obtain ⟨t', rfl⟩ := hy.ofInt; exact P.le_int (o.now R q (.bool _))
  | gt => obtain ⟨a, b, rfl, rfl, q⟩ := h; obtain ⟨t, rfl⟩ := hx.ofInt; obtain ⟨t', rfl⟩ := hy.ofInt; exact P.gt_int (o.now R q (.bool _))
  | ge => obtain ⟨a, b, rfl, rfl, q⟩ := h; obtain ⟨t, rfl⟩ := hx.ofInt; obtain ⟨t', rfl⟩ := hy.ofInt; exact P.ge_int (o.now R q (.bool _))
  | is_ =>
    rcases h with ⟨rfl, ⟨rfl, q⟩ | ⟨hne, q⟩⟩ | ⟨a, b, rfl, rfl, q⟩
    · cases hx; cases hy; exact is_none (o.now R (by simpa using q) (.bool _))
    · cases hy
      refine is_none (o.now R ?_ (.bool _))
      cases hx <;> first | exact absurd rfl hne | exact q
    · cases hx; cases hy
      refine wpAny_is_plain rfl (o.now R (d := .bool (a == b)) q ?_)
      have : ((Value.bool a == Value.bool b) : Bool) = (a == b) := by cases a <;> cases b <;> rfl
      rw [this]; exact .bool _
end
end Mine

end

section
set_option linter.unusedVariables false
set_option linter.unusedSimpArgs false
namespace Mine
open PySem PySem.W PySem.Calls PyProof.Rows PySem.SeqAt
open Sem (wp)

section
variable {prog : Program} {w : World} {A : Around} {E : Value → Shared → Prop} {s : Shared}

theorem mapSeq_list (items : Array Value) (n : Nat) (f : Array Value → Array Value) : ∃ m, Obj.mapSeq f { cls := .type "list", dict := none, data := .seq items n, slots := #[] } = { cls := .type "list", dict := none, data := .seq (f items) m, slots := #[] } := ⟨_, rfl⟩
theorem upd_list {h : Heap} {l : Addr} {items : Array Value} {n : Nat} (hl : IsL h l items n) (f : Array Value → Array Value) : ∃ m, IsL (h.update l (Obj.mapSeq f)) l (f items) m := ⟨_, hl.update f⟩

theorem setItem_pos {l : Addr} {items : Array Value} {n : Nat} {k : Int} {t : Tok} {v : Value} {Q : Unit → Shared → Prop} (hl : IsL s.heap l items n) (h0 : 0 ≤ k) (hfit : k < 2 ^ 63) (hn : k < items.size)
    (hQ : Q () { s with heap := s.heap.update l (Obj.mapSeq (·.setIfInBounds k.toNat v)) }) : wpAny (model prog w) A (setItem (.ref l) (.int k t) v) Q E s := by
  have hL : s.heap.IsList l items := hl.isList
  unfold setItem
  try with_reducible refine wpAny_holding ?_
  first | refine wpAny_bind (wpAny_pure ?_) | skip
  refine wpAny_bind (wpAny_sequenceKey hL.typeIs (by decide) ?_)
  refine wpAny_bind (wpAny_callSpecial?_slot (name := Str.ofString "__setitem__") hL.typeIs slot_list_setitem
    (wpAny_call_entry slot_list_setitem hL.typeIs entry_list_setitem ?_ (args_list_setitem _ _ _)))
  show wpAny _ _ (Builtin.List.listSubscript? (.int k t) >>= _) _ _ s
  refine wpAny_bind (wpAny_listSubscript_int (fitsIndex_of h0 hfit) ?_)
  clear hfit
  obtain ⟨j, rfl⟩ := Int.eq_ofNat_of_zero_le h0
  have hj : j < items.size := by omega
  have hx' : items[j]? = some items[j] := Array.getElem?_eq_getElem hj
  show wpAny _ _ ((seqItemAt l j >>= fun r => pure (r.map (j, ·))) >>= _) _ _ s
  refine wpAny_bind (wpAny_bind (wpAny_seqItemAt hl rfl (wpAny_pure ?_)))
  rw [hx']
  show wpAny _ _ (setSeqItemAt l j v >>= _) _ _ s
  refine wpAny_bind (wpAny_setSeqItemAt hl rfl ?_)
  first
    | exact wpAny_bind (wpAny_pure (wpAny_pure ⟨.none, rfl, wpAny_pure hQ⟩))
    | exact wpAny_pure ⟨.none, rfl, wpAny_pure hQ⟩

theorem setItem_last {l : Addr} {items : Array Value} {n : Nat} {t : Tok} {v : Value} {Q : Unit → Shared → Prop} (hl : IsL s.heap l items n) (hn : 0 < items.size)
    (hQ : Q () { s with heap := s.heap.update l (Obj.mapSeq (·.setIfInBounds (items.size - 1) v)) }) : wpAny (model prog w) A (setItem (.ref l) (.int (-1) t) v) Q E s := by
  have hL : s.heap.IsList l items := hl.isList
  unfold setItem
  try with_reducible refine wpAny_holding ?_
  first | refine wpAny_bind (wpAny_pure ?_) | skip
  refine wpAny_bind (wpAny_sequenceKey hL.typeIs (by decide) ?_)
  refine wpAny_bind (wpAny_callSpecial?_slot (name := Str.ofString "__setitem__") hL.typeIs slot_list_setitem
    (wpAny_call_entry slot_list_setitem hL.typeIs entry_list_setitem ?_ (args_list_setitem _ _ _)))
  show wpAny _ _ (Builtin.List.listSubscript? (.int (-1) t) >>= _) _ _ s
  refine wpAny_bind (wpAny_listSubscript_int (fitsIndex_neg (by decide) (by decide)) ?_)
  have hj : items.size - 1 < items.size := by omega
  have hx' : items[items.size - 1]? = some items[items.size - 1] := Array.getElem?_eq_getElem hj
  have hidx : seqIndex? (Int.negSucc 0) items.size = some (items.size - 1) := by
    have := seqIndex_neg (k := Int.negSucc 0) (n := items.size) (by decide) (by simp only [Int.negSucc_eq]; omega)
    rw [this]; congr 1; simp only [Int.negSucc_eq]; omega
  show wpAny _ _ ((Builtin.List.listItems (.ref l) >>= fun xs => pure ((seqIndex? (Int.negSucc 0) xs.size).bind fun i => xs[i]?.map (i, ·))) >>= _) _ _ s
  refine wpAny_bind (wpAny_bind ?_)
  show wpAny _ _ (seqItems? (.ref l) >>= _) _ _ s
  refine wpAny_bind (wpAny_seqItems hl rfl (wpAny_pure (wpAny_pure ?_)))
  rw [hidx]
  simp only [Option.bind_some, hx', Option.map_some]
  show wpAny _ _ (setSeqItemAt l (items.size - 1) v >>= _) _ _ s
  refine wpAny_bind (wpAny_setSeqItemAt hl rfl ?_)
  first
    | exact wpAny_bind (wpAny_pure (wpAny_pure ⟨.none, rfl, wpAny_pure hQ⟩))
    | exact wpAny_pure ⟨.none, rfl, wpAny_pure hQ⟩

theorem wpAny_letGoL {keep : List Value} {Q : Unit → Shared → Prop} : ∀ (vs : List Value), Q () s → wpAny (model prog w) A (letGo vs keep) Q E s
  | [], h => wpAny_pure h
  | _ :: r, h => wpAny_bind (wpAny_holding (wpAny_point (wpAny_letGoL r h)))

theorem setItem_slice {l sl b : Addr} {items new : Array Value} {n nb : Nat} {i j : Nat} {t u : Tok} {Q : Unit → Shared → Prop} (hl : IsL s.heap l items n) (hb : IsL s.heap b new nb) (hne : b ≠ l)
    (hs : s.heap.IsSliceOf sl (.int i t) (.int j u) .none) (hij : i ≤ j) (hj : j ≤ items.size) (hz : items.size + new.size ≤ 10000)
    (hQ : Q () { s with heap := s.heap.update l (Obj.mapSeq fun xs => xs.extract 0 i ++ new ++ xs.extract j xs.size) }) : wpAny (model prog w) A (setItem (.ref l) (.ref sl) (.ref b)) Q E s := by
  have hL : s.heap.IsList l items := hl.isList
  obtain ⟨os, hos, hcs, hds⟩ := id hs
  have hTs : s.TypeIs (.ref sl) "slice" := ⟨os, hos, hcs⟩
  unfold setItem
  try with_reducible refine wpAny_holding ?_
  first | refine wpAny_bind (wpAny_pure ?_) | skip
  refine wpAny_bind (wpAny_sequenceKey hL.typeIs (by decide) ?_)
  refine wpAny_bind (wpAny_callSpecial?_slot (name := Str.ofString "__setitem__") hL.typeIs slot_list_setitem
    (wpAny_call_entry slot_list_setitem hL.typeIs entry_list_setitem ?_ (args_list_setitem _ _ _)))
  show wpAny _ _ (Builtin.List.listSubscript? (.ref sl) >>= _) _ _ s
  refine wpAny_bind ?_
  unfold Builtin.List.listSubscript?
  refine wpAny_bind (wpAny_specialOf hTs slice_no_index ?_)
  simp only [Option.isNone_none, if_true]
  refine wpAny_pure ?_
  show wpAny _ _ (typeOf (.ref sl) >>= _) _ _ s
  refine wpAny_bind (wpAny_typeOf hTs ?_)
  rw [if_neg (by decide)]
  rw [listSliceParts_eq]
  refine wpAny_bind (wpAny_bind (wpAny_field hos hds (x := .none) rfl (wpAny_bind (wpAny_listPart .none ?_))))
  rw [if_neg (by decide)]
  refine wpAny_bind (wpAny_field hos hds (x := .int i t) rfl (wpAny_bind (wpAny_listPart (.int _ _) ?_)))
  refine wpAny_bind (wpAny_field hos hds (x := .int j u) rfl (wpAny_bind (wpAny_listPart (.int _ _) (wpAny_pure ?_))))
  have hsame : Builtin.List.listSameRef (.ref l) (.ref b) = false := by
    unfold Builtin.List.listSameRef; simp; exact fun q => hne q.symm
  dsimp only
  rw [hsame]
  simp only [Bool.false_eq_true, if_false]
  refine wpAny_bind (m := Builtin.List.listAllItems (.ref b) _) ?_
  unfold Builtin.List.listAllItems
  refine wpAny_bind (wpAny_typeOf ⟨_, hb, rfl⟩ ?_)
  rw [if_pos (by decide)]
  unfold Builtin.List.listItems
  refine wpAny_bind (wpAny_seqItems hb rfl (wpAny_pure ?_))
  refine wpAny_bind (m := Builtin.List.listItems (.ref l)) ?_
  unfold Builtin.List.listItems
  refine wpAny_bind (wpAny_seqItems hl rfl (wpAny_pure ?_))
  refine wpAny_bind (wpAny_of_eq (sliceIndices_raw (some i) (some j) none items.size (by decide)) ?_)
  have hbd : sliceBounds (some (i : Int)) (some (j : Int)) none items.size = ((i : Int), (j : Int), 1) := by
    rw [sliceBounds_plain]
    simp only [Option.elim_some, clipAt_nat]
    rw [Nat.min_eq_left (by omega), Nat.min_eq_left hj]
  rw [hbd]
  dsimp only
  rw [if_pos (by decide)]
  refine wpAny_bind (wpAny_rule ?_)
  have hlong : Builtin.List.listTooLong (items.size + new.size) = false := by unfold Builtin.List.listTooLong; simp [sizeLine]; omega
  rw [hlong]
  simp only [Bool.false_eq_true, if_false]
  have hmax : (max (i : Int) (j : Int)).toNat = j := by omega
  rw [hmax, Int.toNat_natCast]
  show wpAny _ _ (updateSeq l _ >>= _) _ _ s
  refine wpAny_bind (wpAny_updateSeq hl rfl ?_)
  refine wpAny_bind (wpAny_letGoL _ ?_)
  first
    | exact wpAny_bind (wpAny_pure (wpAny_pure ⟨.none, rfl, wpAny_pure hQ⟩))
    | exact wpAny_pure ⟨.none, rfl, wpAny_pure hQ⟩
end
end Mine

end

section
set_option linter.unusedVariables false
set_option linter.unusedSimpArgs false
namespace Mine
open PySem PySem.W PySem.Calls PyProof.Rows PySem.SeqAt
open Sem (wp)

section
variable {prog : Program} {w : World} {base : Bs} {st : Sto} {s : Shared} {A : Around} {Q : AV → Sto → Prop} {QQ : Value → Shared → Prop} {EE : Value → Shared → Prop}

theorem subs_ops (slice : Expr) (o i : Value) : ∃ ops, subscripted slice false o i = operate ops (getItem o i) := by
  unfold subscripted
  split
  · exact ⟨_, rfl⟩
  · rename_i h; cases h
  · exact ⟨_, rfl⟩
theorem tail_ok {value slice : Expr} {o i : Value} {T id : String} (hT : s.TypeIs o T) (hl : typeLookup (.type T) "__getitem__" = pure (some (.builtin id)))
    (h : wpAny (model prog w) A (getItem o i) QQ EE s) : wpAny (model prog w) A (subscriptTail value slice o i) QQ EE s := by
  obtain ⟨ops, e⟩ := subs_ops slice o i
  exact tail_any hT hl h e

theorem lookup_pairs {h : Heap} : ∀ {kvs : List (Str × Value)} {es : List (Str × AV)} {k : Str}, kvs.map (·.1) = es.map (·.1) → VRs base h (kvs.map (·.2)) (es.map (·.2)) →
    (∀ d, es.lookup k = some d → ∃ v, valueAt kvs k = some v ∧ VR base h v d) ∧ (es.lookup k = none → valueAt kvs k = none)
  | [], [], k, _, _ => ⟨fun d e => by simp at e, fun _ => rfl⟩
  | (x, v) :: kvs, (y, d) :: es, k, e, r => by
    simp only [List.map_cons, List.cons.injEq] at e
    obtain ⟨rfl, e⟩ := e
    simp only [List.map_cons] at r
    cases r with
    | cons r1 r2 =>
      obtain ⟨i1, i2⟩ := lookup_pairs (k := k) e r2
      unfold valueAt
      by_cases q : k = x
      · subst q
        refine ⟨fun d' e' => ?_, fun e' => ?_⟩
        · rw [List.lookup_cons_self] at e'; cases e'
          exact ⟨v, by simp, r1⟩
        · rw [List.lookup_cons_self] at e'; cases e'
      · have qb : (k == x) = false := by simpa using q
        have q' : ¬ (x = k) := fun z => q z.symm
        simp only [List.lookup_cons, qb]
        rw [List.find?_cons_of_neg (by simpa using q')]
        exact ⟨i1, i2⟩
  | [], _ :: _, _, e, _ => by simp at e
  | _ :: _, [], _, e, _ => by simp at e

theorem sub_ok {value slice : Expr} {x y : AV} {v u : Value} (R : Rel prog w base st s.heap) (hx : VR base s.heap v x) (hy : VR base s.heap u y)
    (h : (∃ ds j v, x = .tup ds ∧ y = .int j ∧ 0 ≤ j ∧ j < 1000 ∧ ds[j.toNat]? = some v ∧ Q v st) ∨
      (∃ a ds j v, x = .loc a ∧ y = .int j ∧ st a = some (.list ds) ∧ 0 ≤ j ∧ j < 1000 ∧ ds[j.toNat]? = some v ∧ Q v st) ∨
      (∃ a ds v, x = .loc a ∧ y = .int (-1) ∧ st a = some (.list (ds ++ [v])) ∧ ds.length ≤ 1000 ∧ Q v st) ∨
      (∃ a es k v, x = .loc a ∧ y = .str k ∧ st a = some (.dict es) ∧ es.lookup k = some v ∧ Q v st)) (o : Out prog w base Q QQ st s) :
    wpAny (model prog w) A (subscriptTail value slice v u) QQ EE s := by
  rcases h with ⟨ds, j, d, rfl, rfl, h0, h1, e, q⟩ | ⟨a, ds, j, d, rfl, rfl, e, h0, h1, e', q⟩ | ⟨a, ds, d, rfl, rfl, e, hz, q⟩ | ⟨a, es, k, d, rfl, rfl, e, e', q⟩
  · obtain ⟨a, vs, n, rfl, e1, r1⟩ := hx.ofTup
    obtain ⟨t, rfl⟩ := hy.ofInt
    obtain ⟨v, g, x⟩ := r1.get e
    have hlt : j.toNat < vs.length := (List.getElem?_eq_some_iff.mp g).1
    refine tail_ok (T := "tuple") ⟨_, e1, rfl⟩ slot_tuple_getitem.lookup (PyProof.Rows.getItem_tuple (items := vs.toArray) (j := j.toNat) ⟨_, e1, rfl, _, rfl⟩ (by omega) (by omega) ?_ (by simpa using g) (o.now R q x))
    rw [seqIndex_of h0 (by simp; omega)]
  · cases hx
    obtain ⟨t, rfl⟩ := hy.ofInt
    obtain ⟨vs, n, e1, r1⟩ := R.obj _ _ e
    obtain ⟨v, g, x⟩ := r1.get e'
    exact tail_ok e1.isList.typeIs slot_list_getitem.lookup (wpAny_getItem_list e1.isList h0 (by omega) (by simpa using g) (o.now R q x))
  · cases hx
    obtain ⟨t, rfl⟩ := hy.ofInt
    obtain ⟨vs, n, e1, r1⟩ := R.obj _ _ e
    obtain ⟨ws, v, rfl, r2, x⟩ := r1.snoc
    refine tail_ok e1.isList.typeIs slot_list_getitem.lookup (wpAny_getItem_list_neg e1.isList (by decide) (by simp; omega) (by decide) (x := v) ?_ (o.now R q x))
    have : ((-1 : Int) + ((ws ++ [v]).toArray.size : Nat)).toNat = ws.length := by simp; omega
    rw [this]; simp
  · cases hx
    obtain ⟨t, rfl⟩ := hy.ofStr
    obtain ⟨kvs, hd, e1, r1⟩ := R.obj _ _ e
    obtain ⟨v, g, x⟩ := (lookup_pairs (k := k) e1 r1).1 d e'
    exact tail_ok hd.typeIs slot_dict_getitem.lookup (wpAny_getItem_of (strKind_is prog w k t) hd.mapOf g (o.tok R _ q x))

def partOf : AV → Option Int
  | .int i => some i
  | _ => none
theorem isPart_of {h : Heap} {v : Value} {x : AV} (hx : VR base h v x) (e : x = .none ∨ ∃ i, x = .int i) : IsPart v (partOf x) := by
  rcases e with rfl | ⟨i, rfl⟩
  · cases hx; exact .none
  · cases hx; exact .int _ _
theorem clip_eq (n : Nat) (i : Int) : clip n i = clipAt n i := rfl
theorem cut_pick {vs : List Value} {y z : AV} {i j : Nat} (e : cutBounds y z vs.length = some (i, j)) :
    slicePick vs.toArray (partOf y) (partOf z) none = ((vs.drop i).take (j - i)).toArray := by
  rw [slicePick_plain]
  cases y <;> cases z <;> simp only [cutBounds, Option.some.injEq, Prod.mk.injEq, reduceCtorEq] at e <;> (obtain ⟨rfl, rfl⟩ := e; simp [clip_eq, partOf])

/-- a slice of a list: the slice object is there already -/
theorem slice_ok {value slice : Expr} {x y z : AV} {v vl vu : Value} (R : Rel prog w base st s.heap) (hx : VR base s.heap v x) (hy : VR base s.heap vl y) (hz : VR base s.heap vu z)
    (h : ∃ ds i j, ((∃ a, x = .loc a ∧ st a = some (.list ds)) ∨ x = .ro ds) ∧ cutBounds y z ds.length = some (i, j) ∧ ds.length ≤ 1000 ∧ ∀ n, st n = none → Q (.loc n) (upd st n (.list (cut ds i j)))) (o : Out prog w base Q QQ st s) :
    wpAny (model prog w) A (subscriptTail value slice v (.ref s.heap.objs.size)) QQ EE { s with heap := s.heap.push { cls := .type "slice", data := .fields #[vl, vu, .none] } } := by
  obtain ⟨ds, i, j, hs, hb, hl, q⟩ := h
  have parts : (y = .none ∨ ∃ i, y = .int i) ∧ (z = .none ∨ ∃ i, z = .int i) := by
    cases y <;> cases z <;> simp [cutBounds] at hb <;> simp
  have src : ∃ a vs, v = .ref a ∧ s.heap.IsList a vs.toArray ∧ VRs base s.heap vs ds := by
    rcases hs with ⟨a, rfl, e⟩ | rfl
    · cases hx
      obtain ⟨vs, n, e1, r1⟩ := R.obj _ _ e
      exact ⟨_, _, rfl, e1.isList, r1⟩
    · cases hx with
      | ro e1 r1 =>
        obtain ⟨p, hp, r⟩ := e1
        exact ⟨_, _, rfl, ⟨p, R.keep _ _ hp, r⟩, r1⟩
  obtain ⟨a, vs, rfl, e1, r1⟩ := src
  have hlen := r1.length
  rw [← hlen] at hb
  have hpick := cut_pick hb
  have hgo := (e1.push { cls := .type "slice", data := .fields #[vl, vu, .none] })
  refine tail_ok (s := { s with heap := s.heap.push { cls := .type "slice", data := .fields #[vl, vu, .none] } }) (Heap.IsList.typeIs (s := { s with heap := s.heap.push { cls := .type "slice", data := .fields #[vl, vu, .none] } }) hgo) list_getitem_lookup
    (wpAny_getItem_list_slice hgo (Heap.IsSliceOf.new ..) (isPart_of hy parts.1) (isPart_of hz parts.2) .none (by simp) ?_ (by simp; rw [sizeLine_eq]; omega))
  rw [hpick]
  have k : ∀ b p, s.heap.get? b = some p → ((s.heap.push { cls := .type "slice", data := .fields #[vl, vu, .none] }).push { cls := .type "list", data := .seq ((vs.drop i).take (j - i)).toArray }).get? b = some p :=
    fun b p e => Heap.get?_push_of_some _ (Heap.get?_push_of_some _ e)
  refine o.list (h := (s.heap.push _).push _) R s.toks ?_ k (IsL.new _ _) ((r1.drop i).take (j - i)) q
  rw [Heap.size_push]
  cases e : s.heap.get? (s.heap.objs.size + 1) with
  | none => rfl
  | some p => exact absurd (Nat.lt_of_succ_lt (Heap.lt_size e)) (Nat.lt_irrefl _)

theorem rev_ok {value slice : Expr} {x : AV} {v : Value} {t : Tok} (R : Rel prog w base st s.heap) (hx : VR base s.heap v x)
    (h : ∃ a ds, x = .loc a ∧ st a = some (.list ds) ∧ ds.length ≤ 1000 ∧ ∀ n, st n = none → Q (.loc n) (upd st n (.list ds.reverse))) (o : Out prog w base Q QQ st s) :
    wpAny (model prog w) A (subscriptTail value slice v (.ref s.heap.objs.size)) QQ EE { s with heap := s.heap.push { cls := .type "slice", data := .fields #[.none, .none, .int (-1) t] } } := by
  obtain ⟨a, ds, rfl, e, hl, q⟩ := h
  cases hx
  obtain ⟨vs, n, e1, r1⟩ := R.obj _ _ e
  have hlen := r1.length
  have hgo := (e1.isList.push { cls := .type "slice", data := .fields #[.none, .none, .int (-1) t] })
  refine tail_ok (s := { s with heap := s.heap.push { cls := .type "slice", data := .fields #[.none, .none, .int (-1) t] } }) (Heap.IsList.typeIs (s := { s with heap := s.heap.push { cls := .type "slice", data := .fields #[.none, .none, .int (-1) t] } }) hgo) list_getitem_lookup
    (wpAny_getItem_list_slice hgo (Heap.IsSliceOf.new ..) .none .none (.int (-1) t) (by simp) ?_ (by simp; rw [sizeLine_eq]; omega))
  rw [krv_pick]
  have k : ∀ b p, s.heap.get? b = some p → ((s.heap.push { cls := .type "slice", data := .fields #[.none, .none, .int (-1) t] }).push { cls := .type "list", data := .seq vs.toArray.toList.reverse.toArray }).get? b = some p :=
    fun b p e => Heap.get?_push_of_some _ (Heap.get?_push_of_some _ e)
  have r2 : VRs base s.heap vs.toArray.toList.reverse ds.reverse := by simpa using r1.reverse
  refine o.list (h := (s.heap.push _).push _) R s.toks ?_ k (IsL.new _ _) r2 q
  rw [Heap.size_push]
  cases e : s.heap.get? (s.heap.objs.size + 1) with
  | none => rfl
  | some p => exact absurd (Nat.lt_of_succ_lt (Heap.lt_size e)) (Nat.lt_irrefl _)

theorem len_ok {x : AV} {v : Value} (R : Rel prog w base st s.heap) (hx : VR base s.heap v x)
    (h : ∃ ds, ((∃ n, x = .loc n ∧ st n = some (.list ds)) ∨ x = .tup ds) ∧ ds.length ≤ 2000 ∧ Q (.int ds.length) st) (o : Out prog w base Q QQ st s) :
    wpAny (model prog w) A (call (.builtin "len") [v]) QQ EE s := by
  obtain ⟨ds, ⟨n, rfl, e⟩ | rfl, hz, q⟩ := h
  · cases hx
    obtain ⟨vs, n, e1, r1⟩ := R.obj _ _ e
    have hl := r1.length
    refine call_len_list e1.isList (by simp; omega) ?_
    rw [List.size_toArray, hl]
    exact o.tok R _ q (.int _ _)
  · obtain ⟨a, vs, n, rfl, e1, r1⟩ := hx.ofTup
    have hl := r1.length
    refine P.len_tuple e1 (by simp; omega) ?_
    rw [List.size_toArray, hl]
    exact o.tok R _ q (.int _ _)

theorem max_ok {i j : Int} {t u : Tok} (hh : A.handled = none) (R : Rel prog w base st s.heap) (q : Q (.int (if i < j then j else i)) st) (o : Out prog w base Q QQ st s) :
    wpAny (model prog w) A (call (.builtin "max") [.int i t, .int j u]) QQ EE s := by
  refine max_two_ints hh fun h' tk k => ?_
  by_cases c : j > i
  · rw [if_pos c]; rw [if_pos (by omega)] at q; exact o.ext R tk k q (.int _ _)
  · rw [if_neg c]; rw [if_neg (by omega)] at q; exact o.ext R tk k q (.int _ _)
theorem min_ok {i j : Int} {t u : Tok} (hh : A.handled = none) (R : Rel prog w base st s.heap) (q : Q (.int (if j < i then j else i)) st) (o : Out prog w base Q QQ st s) :
    wpAny (model prog w) A (call (.builtin "min") [.int i t, .int j u]) QQ EE s := by
  refine min_two_ints hh fun h' tk k => ?_
  by_cases c : j < i
  · rw [if_pos c]; rw [if_pos c] at q; exact o.ext R tk k q (.int _ _)
  · rw [if_neg c]; rw [if_neg c] at q; exact o.ext R tk k q (.int _ _)
theorem list_ok {m : Addr} {ds : List AV} (R : Rel prog w base st s.heap) (e : st m = some (.list ds)) (hz : ds.length ≤ 1000) (q : ∀ n, st n = none → Q (.loc n) (upd st n (.list ds))) (o : Out prog w base Q QQ st s) :
    wpAny (model prog w) A (call (.type "list") [.ref m]) QQ EE s := by
  obtain ⟨vs, n, e1, r1⟩ := R.obj _ _ e
  have hl := r1.length
  exact call_list_seq (T := "list") m (.inl rfl) e1 rfl rfl (fun h' c' k e2 => o.list R s.toks (size_free _) k e2 r1 q) (by simp; rw [sizeLine_eq]; omega)
theorem all_ok {m : Addr} {bs : List Bool} (hh : A.handled = none) (R : Rel prog w base st s.heap) (e : st m = some (.list (bs.map AV.bool))) (q : Q (.bool (bs.all id)) st) (o : Out prog w base Q QQ st s) :
    wpAny (model prog w) A (call (.builtin "all") [.ref m]) QQ EE s := by
  obtain ⟨vs, n, e1, r1⟩ := R.obj _ _ e
  have hl := r1.length
  have vals : ∀ (i : Nat) (v : Value), vs.toArray[i]? = some v → v = .bool (bs.getD i true) := by
    intro i v g
    simp at g
    have hi : i < vs.length := (List.getElem?_eq_some_iff.mp g).1
    simp at hl
    obtain ⟨v', g', x⟩ := r1.get (k := i) (d := AV.bool (bs.getD i true)) (by simp [List.getD_eq_getElem?_getD, List.getElem?_eq_getElem (show i < bs.length by omega)])
    rw [g] at g'; cases g'
    exact x.ofBool
  refine call_all_walk (wpAny_pyIter_list e1.isList ?_)
  have hne : m ≠ s.heap.objs.size := Nat.ne_of_lt (Heap.lt_size e1)
  have k : ∀ b p, s.heap.get? b = some p → (s.heap.push { cls := .type "list_iterator", data := .fields #[.ref m, .int 0 0] }).get? b = some p := fun b p e => Heap.get?_push_of_some _ e
  refine ⟨s.heap.objs.size, _, _, _, _, _, fun i => bs.getD i true, rfl, Walks.list (A := A.in1) hh s.heap.objs.size m hne vs.toArray, ⟨⟨_, Heap.get?_push_size _ rfl, rfl, rfl⟩, e1.isList.push _⟩, fun i v s' Q' E' hp hq => ?_, fun h' tk hk => ?_⟩
  · rw [vals i v hp]; exact wpAny_truthy_bool hq
  · have : (List.range vs.toArray.size).all (fun i => bs.getD i true) = bs.all id := by
      simp at hl
      rw [List.size_toArray]; exact all_min hl
    rw [this]
    refine o.ext R tk (fun b p e => hk b p ?_ (k b p e)) q (.bool _)
    intro hm
    rw [List.mem_singleton.mp hm] at e
    exact absurd (Heap.lt_size e) (Nat.lt_irrefl _)

theorem notList_dict {h : Heap} {a b : Addr} {vs : List Value} {n : Nat} {p : Obj} (e : h.get? a = some p) (e1 : IsL h b vs.toArray n) (hne : ∀ xs m, p.data ≠ .seq xs m) : a ≠ b := fun q => by
  subst q; rw [e1] at e; cases e; exact hne _ _ rfl
/-- a list of the store turned -/
theorem turn_list {a : Addr} {ds ds' : List AV} {vs vs' : List Value} {n n' : Nat} {h : Heap} {tk : Nat} (R : Rel prog w base st s.heap) (e : st a = some (.list ds)) (e1 : IsL s.heap a vs.toArray n)
    (k : Heap.SameBut a s.heap h) (e2 : IsL h a vs'.toArray n') (r : VRs base s.heap vs' ds') : Rel prog w base (upd st a (.list ds')) h ∧ Go noX st (upd st a (.list ds')) s { s with heap := h, toks := tk } := by
  have kk : ∀ b p, b ≠ a → s.heap.get? b = some p → h.get? b = some p := fun b p hb hp => (k.2 b hb).trans hp
  have tk' : TupKeep base s.heap h := fun b us m _ hb => kk b _ (fun q => by subst q; rw [e1] at hb; have := congrArg (fun o : Option Obj => o.map Obj.cls) hb; simp at this) hb
  exact ⟨R.at (R.new a (by rw [e]; exact nofun)) kk tk' ⟨vs', n', e2, r.keep tk'⟩, Go.turn e kk (by rw [e2]; exact nofun)⟩
end
end Mine

end

section
set_option linter.unusedVariables false
set_option linter.unusedSimpArgs false
namespace Mine
open PySem PySem.W PySem.Calls PyProof.Rows PySem.SeqAt
open Sem (wp)

section
variable {prog : Program} {w : World} {base : Bs} {st : Sto} {s : Shared} {A : Around} {Q : AV → Sto → Prop} {QU : Sto → Prop} {QQ : Value → Shared → Prop} {QR : Unit → Shared → Prop} {EE : Value → Shared → Prop}

/-- store an item -/
theorem setsub_ok {x y z : AV} {v u r : Value} (R : Rel prog w base st s.heap) (hv : VR base s.heap v z) (hx : VR base s.heap u x) (hy : VR base s.heap r y)
    (h : (∃ a ds j, x = .loc a ∧ y = .int j ∧ st a = some (.list ds) ∧ 0 ≤ j ∧ j < 1000 ∧ j.toNat < ds.length ∧ QU (upd st a (.list (ds.set j.toNat z)))) ∨
      (∃ a ds w, x = .loc a ∧ y = .int (-1) ∧ st a = some (.list (ds ++ [w])) ∧ ds.length ≤ 1000 ∧ QU (upd st a (.list (ds ++ [z])))) ∨
      (∃ a es k, x = .loc a ∧ y = .str k ∧ st a = some (.dict es) ∧ (es.lookup k).isSome = true ∧ es.length ≤ 100 ∧ QU (upd st a (.dict (es.map (fun p => if p.1 = k then (p.1, z) else p)))))) (o : OutU prog w base QU QR st s) :
    wpAny (model prog w) A (setItem u r v) QR EE s := by
  rcases h with ⟨a, ds, j, rfl, rfl, e, h0, h1, h2, q⟩ | ⟨a, ds, d, rfl, rfl, e, hz, q⟩ | ⟨a, es, k, rfl, rfl, e, hk, hz, q⟩
  · cases hx
    obtain ⟨t, rfl⟩ := hy.ofInt
    obtain ⟨vs, n, e1, r1⟩ := R.obj _ _ e
    have hl := r1.length
    refine setItem_pos e1 h0 (by omega) (by simp; omega) ?_
    obtain ⟨m, e2⟩ := upd_list e1 (·.setIfInBounds j.toNat v)
    rw [List.setIfInBounds_toArray] at e2
    obtain ⟨g1, g2⟩ := turn_list (tk := s.toks) R e e1 (Heap.SameBut.update ..) e2 (r1.set j.toNat hv)
    exact o _ _ q g1 g2
  · cases hx
    obtain ⟨t, rfl⟩ := hy.ofInt
    obtain ⟨vs, n, e1, r1⟩ := R.obj _ _ e
    obtain ⟨ws, p, rfl, r2, _⟩ := r1.snoc
    refine setItem_last e1 (by simp) ?_
    obtain ⟨m, e2⟩ := upd_list e1 (·.setIfInBounds ((ws ++ [p]).toArray.size - 1) v)
    have : (ws ++ [p]).toArray.setIfInBounds ((ws ++ [p]).toArray.size - 1) v = (ws ++ [v]).toArray := by
      rw [List.setIfInBounds_toArray]; simp
    rw [this] at e2
    obtain ⟨g1, g2⟩ := turn_list (tk := s.toks) R e e1 (Heap.SameBut.update ..) e2 (r2.append (.one hv))
    exact o _ _ q g1 g2
  · cases hx
    obtain ⟨t, rfl⟩ := hy.ofStr
    obtain ⟨kvs, hd, e1, r1⟩ := R.obj _ _ e
    have hlen : kvs.length = es.length := by have := congrArg List.length e1; simpa using this
    refine wpAny_setItem_pairs (strKind_is prog w k t) hd (fun h' hd' hs => ?_) (by rw [sizeLine_eq]; omega)
    have kk : ∀ b p, b ≠ a → s.heap.get? b = some p → h'.get? b = some p := fun b p hb hp => (hs.2 b hb).trans hp
    have tk' : TupKeep base s.heap h' := fun b us m _ hb => kk b _ (fun q => by
      subst q
      obtain ⟨p, es', ep, hp, hx, hdd, _⟩ := hd
      rw [hb] at hp; cases hp; cases hdd) hb
    have hin : kvs.any (fun kv => kv.1 = k) = true := by
      have g := (lookup_pairs (k := k) e1 r1).1
      obtain ⟨d, hd0⟩ := Option.isSome_iff_exists.mp hk
      obtain ⟨v0, g0, _⟩ := g d hd0
      unfold valueAt at g0
      obtain ⟨kv, hkv, _⟩ := Option.map_eq_some_iff.mp g0
      exact List.any_eq_true.mpr ⟨kv, List.mem_of_find?_eq_some hkv, by have := List.find?_some hkv; simpa using this⟩
    have hst : stored kvs k v = kvs.map (fun kv => if kv.1 = k then (kv.1, v) else kv) := by unfold stored; rw [if_pos hin]
    rw [hst] at hd'
    have e2 : (kvs.map (fun kv => if kv.1 = k then (kv.1, v) else kv)).map (·.1) = (es.map (fun p => if p.1 = k then (p.1, z) else p)).map (·.1) := by
      rw [List.map_map, List.map_map]
      have f1 : ((fun x : Str × Value => x.1) ∘ fun kv => if kv.1 = k then (kv.1, v) else kv) = fun x => x.1 := by funext x; simp only [Function.comp]; split <;> rfl
      have f2 : ((fun x : Str × AV => x.1) ∘ fun kv => if kv.1 = k then (kv.1, z) else kv) = fun x => x.1 := by funext x; simp only [Function.comp]; split <;> rfl
      rw [f1, f2]; exact e1
    have r2 : ∀ {kvs : List (Str × Value)} {es : List (Str × AV)}, kvs.map (·.1) = es.map (·.1) → VRs base h' (kvs.map (·.2)) (es.map (·.2)) →
        VRs base h' ((kvs.map (fun kv => if kv.1 = k then (kv.1, v) else kv)).map (·.2)) ((es.map (fun p => if p.1 = k then (p.1, z) else p)).map (·.2)) := by
      intro kvs
      induction kvs with
      | nil => intro es e r; cases es with | nil => exact .nil | cons _ _ => simp at e
      | cons kv kvs ih =>
        intro es e r
        cases es with
        | nil => simp at e
        | cons p es =>
          simp only [List.map_cons, List.cons.injEq] at e r ⊢
          cases r with
          | cons ra rb =>
            rw [e.1]
            refine .cons ?_ (ih e.2 rb)
            split
            · exact hv.keep tk'
            · exact ra
    have G1 : Rel prog w base (upd st a (.dict (es.map (fun p => if p.1 = k then (p.1, z) else p)))) h' := R.at (R.new a (by rw [e]; exact nofun)) kk tk' ⟨_, hd', e2, r2 e1 (r1.keep tk')⟩
    have G2 : Go noX st (upd st a (.dict (es.map (fun p => if p.1 = k then (p.1, z) else p)))) s { s with heap := h', toks := s.toks + 1 } := Go.turn e kk (by
      obtain ⟨p, _, _, hp, _⟩ := hd'
      rw [hp]; exact nofun)
    exact o _ _ q G1 G2

/-- store a slice: the slice object is there already -/
theorem setslice_ok {z : AV} {v : Value} {a b : Addr} {ds es : List AV} {i j : Int} {t u : Tok} (R : Rel prog w base st s.heap) (ha : st a = some (.list ds)) (hb : st b = some (.list es)) (hne : b ≠ a)
    (h0 : 0 ≤ i) (hij : i ≤ j) (hj : j ≤ ds.length) (hz : ds.length ≤ 1000) (hz' : es.length ≤ 1000) (q : QU (upd st a (.list (ds.take i.toNat ++ es ++ ds.drop j.toNat)))) (o : OutU prog w base QU QR st s) :
    wpAny (model prog w) A (setItem (.ref a) (.ref s.heap.objs.size) (.ref b)) QR EE { s with heap := s.heap.push { cls := .type "slice", data := .fields #[.int i t, .int j u, .none] } } := by
  obtain ⟨vs, n, e1, r1⟩ := R.obj _ _ ha
  obtain ⟨us, m, e2, r2⟩ := R.obj _ _ hb
  have l1 := r1.length
  have l2 := r2.length
  obtain ⟨i, rfl⟩ := Int.eq_ofNat_of_zero_le h0
  obtain ⟨j, rfl⟩ := Int.eq_ofNat_of_zero_le (Int.le_trans h0 hij)
  have k0 : ∀ b p, s.heap.get? b = some p → (s.heap.push { cls := .type "slice", data := .fields #[.int i t, .int j u, .none] }).get? b = some p := fun b p e => Heap.get?_push_of_some _ e
  refine setItem_slice (s := { s with heap := s.heap.push { cls := .type "slice", data := .fields #[.int i t, .int j u, .none] } }) (e1.push _) (e2.push _) hne (Heap.IsSliceOf.new ..) (by omega) (by simp; omega) (by simp; omega) ?_
  have R' := R.ext k0
  have G' : Go noX st st s { s with heap := s.heap.push { cls := .type "slice", data := .fields #[.int i t, .int j u, .none] } } := Go.ext (tk := s.toks) k0
  obtain ⟨n', e3⟩ := upd_list (e1.push { cls := .type "slice", data := .fields #[.int i t, .int j u, .none] }) (fun xs => xs.extract 0 i ++ us.toArray ++ xs.extract j xs.size)
  have ex : vs.toArray.extract 0 i ++ us.toArray ++ vs.toArray.extract j vs.toArray.size = (vs.take i ++ us ++ vs.drop j).toArray := by
    apply Array.ext'
    simp
    exact List.take_of_length_le (by simp)
  rw [ex] at e3
  obtain ⟨g1, g2⟩ := turn_list (s := { s with heap := s.heap.push { cls := .type "slice", data := .fields #[.int i t, .int j u, .none] } }) (tk := s.toks) R' ha (e1.push _) (Heap.SameBut.update ..) e3
    (((r1.take i).append r2).append (r1.drop j) |>.keep (TupKeep.of k0))
  exact o _ _ (by simpa using q) g1 (G'.trans g2)
end
end Mine

end

section
set_option linter.unusedVariables false
set_option linter.unusedSimpArgs false
namespace Mine
open PySem PySem.W PySem.Calls PyProof.Rows PySem.SeqAt
open Sem (wp)

/-- what a builtin's name gives -/
def bltV (x : Str) : Option Value :=
  if x == ("len" : Str) then some (.builtin "len") else if x == ("max" : Str) then some (.builtin "max") else if x == ("min" : Str) then some (.builtin "min") else if x == ("all" : Str) then some (.builtin "all")
  else if x == ("list" : Str) then some (.type "list") else if x == ("int" : Str) then some (.type "int") else if x == ("enumerate" : Str) then some (.type "enumerate") else if x == ("zip" : Str) then some (.type "zip")
  else if x == ("range" : Str) then some (.type "range") else none

/-- the ground: what stands before the call -/
structure Gr (prog : Program) (w : World) (base : Heap) (K : Frag) (mg mb : Str → Option Value) (gl : Str → Option GV) (T : Tab) : Prop where
  X : K.In base
  g : base.Ns mainGlobals mg
  b : base.Ns builtinsNs mb
  lim : base.NoLimit
  fn : ∀ x a, gl x = some (.fn a) → mg x = some (.ref a) ∧ keepIn K (.ref a) = true
  cls : ∀ x a, gl x = some (.cls a) → mg x = some (.ref a) ∧ keepIn K (.ref a) = true
  data : ∀ x d, gl x = some (.data d) → ∃ v, mg x = some v ∧ VR ⟨base, fun _ => False⟩ base v d
  blt : ∀ x y, gl x = some (.blt y) → mg x = none ∧ ∃ v, mb x = some v ∧ bltV y = some v
  meth : ∀ C name f, T.meth C name = some f → plainGet K C name = true ∧ findIn K (.ref C) name = some (some (.ref f)) ∧ isFn K (.ref f) = true ∧ keepIn K (.ref f) = true
  prop : ∀ C name f, T.prop C name = some f → plainGet K C name = true ∧ hasDictIn K C = true ∧ ∃ p rest, findIn K (.ref C) name = some (some (.ref p)) ∧ specialIn K (.ref p) "__get__" = some (some (.builtin "property.__get__")) ∧
    takesIn K (.ref p) = some true ∧ recIn K p "property" = some (.ref f :: rest)
  field : ∀ C name, T.field C name = true → plainGet K C name = true ∧ hasDictIn K C = true ∧ findIn K (.ref C) name = some none ∧ findIn K (.ref C) "__setattr__" = some (some (.builtin "object.__setattr__")) ∧ plainOver K C = true

section
variable {prog : Program} {w : World} {base : Bs} {K : Frag} {mg mb : Str → Option Value} {gl : Str → Option GV} {T : Tab} {st : Sto} {s : Shared} {A : Around} {Q : AV → Sto → Prop} {QU : Sto → Prop} {QQ : Value → Shared → Prop} {QR : Unit → Shared → Prop} {EE : Value → Shared → Prop}

theorem Rel.inK (R : Rel prog w base st s.heap) (G : Gr prog w base.heap K mg mb gl T) : K.In s.heap := fun a o e => R.keep _ _ (G.X _ _ e)

/-- the object and its dict -/
theorem inst_of {a C d : Addr} {es : List (Str × AV)} (R : Rel prog w base st s.heap) (e : st a = some (.inst C d)) (e' : st d = some (.dict es)) :
    ∃ (des : List DictEntry) (n : Nat) (kvs : List (Str × Value)), InstAt s.heap a (instObj C d) C (some (dictOf des n)) ∧ s.heap.get? d = some (dictOf des n) ∧ Pairs (strKind prog w) des kvs ∧ KeysOf (strKind prog w) des.toArray ∧ (kvs.map (·.1)).Nodup ∧
      kvs.map (·.1) = es.map (·.1) ∧ VRs base s.heap (kvs.map (·.2)) (es.map (·.2)) := by
  have h1 := R.obj _ _ e
  obtain ⟨kvs, ⟨o, es', ep, ho, hx, hd, hk, hp, hn⟩, h2, h3⟩ := R.obj _ _ e'
  obtain ⟨oc, od, dt, sl⟩ := o
  obtain ⟨q1, q2, q3⟩ := hx
  dsimp only at q1 q2 q3 hd
  subst q1 q2 q3 hd
  refine ⟨es'.toList, ep, kvs, ⟨h1, rfl, rfl, ?_⟩, ?_, hp, by simpa using hk, hn, h2, h3⟩
  · show s.heap.get? d = some _
    rw [ho]
  · rw [ho]
theorem isStr_kind {k : Str} {v : Value} : (strKind prog w).is k v = v.isStr k := by
  cases v <;> rfl
theorem getL_of {des : List DictEntry} {kvs : List (Str × Value)} {name : Str} (hp : Pairs (strKind prog w) des kvs) (hk : KeysOf (strKind prog w) des.toArray) :
    (∀ v, valueAt kvs name = some v → getL name des = some (some v)) ∧ (valueAt kvs name = none → getL name des = some none) := by
  have hf := hp.find name
  have e : (fun e : DictEntry => (strKind prog w).is name e.key) = fun e => e.key.isStr name := funext fun e => isStr_kind
  rw [e] at hf
  unfold getL
  constructor
  · intro v hv
    rw [hv] at hf
    obtain ⟨en, h1, h2⟩ := Option.map_eq_some_iff.mp hf
    rw [h1]; simp [h2]
  · intro hv
    rw [hv] at hf
    have h1 := Option.map_eq_none_iff.mp hf
    rw [h1]
    have : des.any (·.refKey) = false := by
      rw [List.any_eq_false]
      intro en hen
      obtain ⟨k, h2, _⟩ := hk en (by simpa using hen)
      obtain ⟨t, h3⟩ := Value.isStrOf_shape (x := k) (v := en.key) h2
      simp [DictEntry.refKey, h3]
    simp [this]
theorem handed_of {h : Heap} {v : Value} {d : AV} (x : VR base h v d) : handedIn v = true := by cases x <;> rfl

theorem attr_ok {a C d : Addr} {es : List (Str × AV)} {name : Str} {v : AV} (G : Gr prog w base.heap K mg mb gl T) (R : Rel prog w base st s.heap) (e : st a = some (.inst C d)) (e' : st d = some (.dict es)) (hf : T.field C name = true)
    (hv : es.lookup name = some v) (q : Q v st) (o : Out prog w base Q QQ st s) : wpAny (model prog w) A (getAttr (.ref a) name true) QQ EE s := by
  obtain ⟨des, n, kvs, I, hd, hp, hk, hn, h2, h3⟩ := inst_of R e e'
  obtain ⟨f1, f2, f3, f4, f5⟩ := G.field _ _ hf
  obtain ⟨u, g, x⟩ := (lookup_pairs (k := name) h2 h3).1 v hv
  exact get_value (R.inK G) I (plainGet_of f1).1 (findObj_own f2 f3 rfl ((lookIn_dict _ _ _).trans ((getL_of hp hk).1 u g))) (handed_of x) (o.tok R _ q x)

theorem meth_ok {a C d f : Addr} {es : List (Str × AV)} {name : Str} {pl : Sem Bool} {QM : Value × List Value → Shared → Prop} (G : Gr prog w base.heap K mg mb gl T) (R : Rel prog w base st s.heap) (e : st a = some (.inst C d)) (e' : st d = some (.dict es))
    (hv : es.lookup name = none) (hm : T.meth C name = some f) (h : QM (.ref f, [.ref a]) s) : wpAny (model prog w) A (getMethod (.ref a) name pl) QM EE s := by
  obtain ⟨des, n, kvs, I, hd, hp, hk, hn, h2, h3⟩ := inst_of R e e'
  obtain ⟨f1, f2, f3, f4⟩ := G.meth _ _ _ hm
  have g := (lookup_pairs (k := name) h2 h3).2 hv
  exact method_fn (R.inK G) I (plainGet_of f1).1 (plainGet_of f1).2 f2 (beq_iff_eq.mp f3) (by show (lookIn name (dictOf des n)).map _ = _; rw [lookIn_dict, (getL_of hp hk).2 g]; rfl) h

theorem putL_pairs {des : List DictEntry} {kvs : List (Str × Value)} {name : Str} {t : Tok} {v : Value} : Pairs (strKind prog w) des kvs → (kvs.map (·.1)).Nodup →
    Pairs (strKind prog w) (putL name (hashStr w name) (.str name t) v des) (stored kvs name v) := by
  intro hp hn
  rw [← putL_find]
  have e : (fun e : DictEntry => e.key.isStr name) = fun e : DictEntry => (strKind prog w).is name e.key := funext fun e => isStr_kind.symm
  rw [e]
  have hi := hp.findIdx name
  cases q : des.findIdx? (fun e : DictEntry => (strKind prog w).is name e.key) with
  | some i =>
    rw [q] at hi
    have := any_of_findIdx_some (kvs := kvs) (k := name) (i := i) hi.symm
    unfold stored
    rw [if_pos this]
    exact hp.modify hn q v
  | none =>
    rw [q] at hi
    have h2 := not_mem_of_findIdx_none (kvs := kvs) (k := name) hi.symm
    unfold stored
    rw [if_neg (by
      simp only [List.any_eq_true, not_exists, not_and]
      intro x hx hx'
      exact h2 (List.mem_map.mpr ⟨x, hx, by simpa using hx'⟩))]
    exact hp.append (strKind_is prog w name t) _ v
theorem putL_keys {des : List DictEntry} {name : Str} {t : Tok} {v : Value} : KeysOf (strKind prog w) des.toArray → KeysOf (strKind prog w) (putL name (hashStr w name) (.str name t) v des).toArray := by
  intro hk
  induction des with
  | nil =>
    intro e he
    simp [putL] at he
    subst he
    exact ⟨name, strKind_is prog w name t, rfl⟩
  | cons x r ih =>
    intro e he
    unfold putL at he
    split at he
    · simp at he
      rcases he with rfl | he
      · exact hk x (by simp)
      · exact hk e (by simp [he])
    · simp at he
      rcases he with rfl | he
      · exact hk _ (by simp)
      · exact ih (fun y hy => hk y (by simp at hy; simp [hy])) e (by simpa using he)
theorem putL_length (name : Str) (hsh : Int) (key v : Value) : ∀ des : List DictEntry, (putL name hsh key v des).length ≤ des.length + 1
  | [] => by simp [putL]
  | x :: r => by unfold putL; split <;> simp; exact putL_length name hsh key v r
theorem stored_keys (kvs : List (Str × Value)) (k : Str) (v : Value) : (stored kvs k v).map (·.1) = if (kvs.map (·.1)).contains k then kvs.map (·.1) else kvs.map (·.1) ++ [k] := by
  unfold stored
  have : kvs.any (fun kv => decide (kv.1 = k)) = (kvs.map (·.1)).contains k := by
    rw [Bool.eq_iff_iff]; simp
  rw [this]
  split
  · exact keys_map_store _ _ _
  · simp

/-- the datum's own storing -/
def storedA (es : List (Str × AV)) (k : Str) (v : AV) : List (Str × AV) := if (es.lookup k).isSome then es.map (fun p => if p.1 = k then (p.1, v) else p) else es ++ [(k, v)]
theorem lookup_isSome {α : Type} : ∀ (es : List (Str × α)) (k : Str), (es.lookup k).isSome = (es.map (·.1)).contains k
  | [], _ => rfl
  | (x, d) :: r, k => by
    rw [List.lookup_cons]
    cases h : k == x with
    | true => simp [h]
    | false => simp only [lookup_isSome r k, List.map_cons, List.contains_cons, h, Bool.false_or]
theorem stored_same {h : Heap} {v : Value} {z : AV} {k : Str} (x : VR base h v z) : ∀ {kvs : List (Str × Value)} {es : List (Str × AV)}, kvs.map (·.1) = es.map (·.1) → VRs base h (kvs.map (·.2)) (es.map (·.2)) →
    (stored kvs k v).map (·.1) = (storedA es k z).map (·.1) ∧ VRs base h ((stored kvs k v).map (·.2)) ((storedA es k z).map (·.2)) := by
  intro kvs es e r
  have m : ∀ {kvs : List (Str × Value)} {es : List (Str × AV)}, kvs.map (·.1) = es.map (·.1) → VRs base h (kvs.map (·.2)) (es.map (·.2)) →
      (kvs.map (fun kv => if kv.1 = k then (kv.1, v) else kv)).map (·.1) = (es.map (fun p => if p.1 = k then (p.1, z) else p)).map (·.1) ∧
      VRs base h ((kvs.map (fun kv => if kv.1 = k then (kv.1, v) else kv)).map (·.2)) ((es.map (fun p => if p.1 = k then (p.1, z) else p)).map (·.2)) := by
    intro kvs
    induction kvs with
    | nil => intro es e r; cases es with | nil => exact ⟨rfl, .nil⟩ | cons _ _ => simp at e
    | cons kv kvs ih =>
      intro es e r
      cases es with
      | nil => simp at e
      | cons p es =>
        simp only [List.map_cons, List.cons.injEq] at e r ⊢
        cases r with
        | cons ra rb =>
          obtain ⟨i1, i2⟩ := ih e.2 rb
          refine ⟨⟨?_, i1⟩, .cons ?_ i2⟩
          · split <;> split <;> first | exact e.1 | simp_all
          · rw [e.1]
            split
            · exact x
            · exact ra
  unfold stored storedA
  have : kvs.any (fun kv => decide (kv.1 = k)) = (es.lookup k).isSome := by
    rw [lookup_isSome, ← e]; rw [Bool.eq_iff_iff]; simp
  rw [this]
  split
  · exact m e r
  · constructor
    · simp [e]
    · simp only [List.map_append, List.map_cons, List.map_nil]; exact r.append (.one x)

theorem setattr_ok {a C d : Addr} {es : List (Str × AV)} {name : Str} {v : Value} {z : AV} (G : Gr prog w base.heap K mg mb gl T) (R : Rel prog w base st s.heap) (e : st a = some (.inst C d)) (e' : st d = some (.dict es)) (hf : T.field C name = true) (hz : es.length ≤ 100)
    (hv : VR base s.heap v z) (q : QU (upd st d (.dict (storedA es name z)))) (o : OutU prog w base QU QR st s) : wpAny (model prog w) A (setAttr (.ref a) name v) QR EE s := by
  obtain ⟨des, n, kvs, I, hd, hp, hk, hn, h2, h3⟩ := inst_of R e e'
  obtain ⟨f1, f2, f3, f4, f5⟩ := G.field _ _ hf
  have hX := R.inK G
  have hlen : des.length = es.length := by have := congrArg List.length h2; have := hp.length; simp at *; omega
  obtain ⟨cd, hc, hdd⟩ := any_some f2
  refine set_plain hX I f4 (osa_open (s := { s with toks := s.toks + 1 }) hX I f5 (r := none) (by unfold takerIn; rw [f3]; rfl) fun b => ?_)
  have hx := I.at_
  refine wpAny_bind (wpAny_pure (wpAny_bind (wpAny_bind (wpAny_loadPart hx (wpAny_bind ((looks_clsIn (M := model prog w) hX hc).at ?_))))))
  rw [hdd]
  refine wpAny_pure (a := some d) (wpAny_bind (wpAny_pure (wpAny_bind ?_)))
  unfold nsSet
  refine wpAny_bind (wpAny_bind (wpAny_askSetting (wpAny_pure (wpAny_bind (wpAny_mkText (wpAny_bind (wpAny_loadPart hd ?_)))))))
  dsimp only [dictOf]
  have c : (!des.toArray.any (·.key.isStr name) && des.toArray.any (·.refKey)) = false := by
    have : des.toArray.any (·.refKey) = false := by
      rw [← Array.any_toList, List.any_eq_false]
      intro en hen
      obtain ⟨k, h2, _⟩ := hk en (by simpa using hen)
      obtain ⟨t, h3⟩ := Value.isStrOf_shape (x := k) (v := en.key) h2
      simp [DictEntry.refKey, h3]
    rw [this, Bool.and_false]
  rw [aRefKeyMayBeTheName_at, c]
  have put := putName_dict name (PyData.keyHash w.params name) (.str name (s.toks + 1)) v des n
  have hash : PyData.keyHash w.params name = hashStr w name := rfl
  rw [hash] at put
  refine wpAny_updatePart hd ?_
  have D' : (s.heap.update d (Obj.putName name (PyData.keyHash w.params name) (.str name (s.toks + 1)) v)).get? d = some (dictOf (putL name (hashStr w name) (.str name (s.toks + 1)) v des) (putN name des n)) := by
    rw [Heap.get?_update_self _ hd (by rw [hash, put]; rfl), hash, put]
  have hlen' := putL_length name (hashStr w name) (.str name (s.toks + 1)) v des
  refine wpAny_bind (wpAny_lookBehind (s := { s with heap := s.heap.update d (Obj.putName name (PyData.keyHash w.params name) (.str name (s.toks + 1)) v), toks := s.toks + 1 + 1 }) D' (pastItsLine_dict (by rw [List.size_toArray, sizeLine_eq]; omega)) ?_)
  refine wpAny_pure ?_
  have hs : Heap.SameBut d s.heap (s.heap.update d (Obj.putName name (PyData.keyHash w.params name) (.str name (s.toks + 1)) v)) := Heap.SameBut.update ..
  have kk : ∀ b p, b ≠ d → s.heap.get? b = some p → (s.heap.update d (Obj.putName name (PyData.keyHash w.params name) (.str name (s.toks + 1)) v)).get? b = some p := fun b p hb hp => (hs.2 b hb).trans hp
  have tk' : TupKeep base s.heap (s.heap.update d (Obj.putName name (PyData.keyHash w.params name) (.str name (s.toks + 1)) v)) := fun b us m _ hb => kk b _ (fun q => by
    subst q; rw [hd] at hb; have := congrArg (fun o : Option Obj => o.map Obj.data) hb; simp at this) hb
  obtain ⟨s1, s2⟩ := stored_same (k := name) hv h2 h3
  have nd : ((stored kvs name v).map (·.1)).Nodup := by
    rw [stored_keys]
    split
    · exact hn
    · rename_i hc
      rw [List.nodup_append]
      refine ⟨hn, by simp, fun a ha b hb => ?_⟩
      simp at hb; subst hb
      intro q; subst q
      exact hc (by simpa using ha)
  refine o _ _ q (R.at (R.new d (by rw [e']; exact nofun)) kk tk' ⟨stored kvs name v, ⟨_, _, _, D', ⟨rfl, rfl, rfl⟩, rfl, putL_keys hk, by simpa using putL_pairs hp hn, nd⟩, s1, s2.keep tk'⟩) (Go.turn e' kk (by rw [D']; exact nofun))
end
end Mine

end

section
set_option linter.unusedVariables false
set_option linter.unusedSimpArgs false
namespace Mine
open PySem PySem.W PySem.Calls PyProof.Rows PySem.SeqAt
open Sem (wp)

structure Body (k : Nat) (A : Around) : Prop where
  hd : A.handled = none
  dp : A.depth + 10 * k + 25 < 900
  un : A.units + 100 * k + 150 < 9000
theorem Body.room {k : Nat} {A : Around} (b : Body k A) : Room k A := ⟨b.hd, by have := b.dp; omega, by have := b.un; omega⟩
theorem Body.in1 {k : Nat} {A : Around} (b : Body k A) : Room k A.in1 := ⟨b.hd, by have := b.dp; simp; omega, by have := b.un; simp; omega⟩
theorem Body.line {k : Nat} {A : Around} (b : Body k A) : A.units + 50 < cLine := by have := b.un; rw [show cLine = 9900 from rfl]; omega

def CallS (prog : Program) (w : World) (hb : Heap) (k : Nat) : CallT := fun f ds st Q =>
  ∀ (bad : Addr → Prop) (A : Around) (s : Shared) (vs : List Value) (QQ EE : Value → Shared → Prop), Room k A → Rel prog w ⟨hb, bad⟩ st s.heap → VRs ⟨hb, bad⟩ s.heap vs ds → Out prog w ⟨hb, bad⟩ Q QQ st s →
    codeAny (model prog w) A (.call (.ref f) ⟨vs, []⟩) (fun r s' => match r with | .ok (.ret v) => QQ v s' | .ok _ => False | .error e => EE e s') s

section
variable (prog : Program) (w : World) (base : Bs) (k : Nat) (ns : List Str) (env : Env) (l : Loc) (st : Sto)
def TriE (t : Sem Value) (Q : AV → Sto → Prop) : Prop :=
  ∀ (A : Around) (s : Shared) (QQ EE : Value → Shared → Prop), Body k A → Fra ns env base l st s.heap → Rel prog w base st s.heap → Out prog w base Q QQ st s → wpAny (model prog w) A t QQ EE s
def TriL (t : Sem (List Value)) (Q : List AV → Sto → Prop) : Prop :=
  ∀ (A : Around) (s : Shared) (QQ : List Value → Shared → Prop) (EE : Value → Shared → Prop), Body k A → Fra ns env base l st s.heap → Rel prog w base st s.heap →
    (∀ vs ds st' s', Q ds st' → VRs base s'.heap vs ds → Rel prog w base st' s'.heap → Go noX st st' s s' → QQ vs s') → wpAny (model prog w) A t QQ EE s
def TriB (t : Sem Bool) (Q : Bool → Sto → Prop) : Prop :=
  ∀ (A : Around) (s : Shared) (QQ : Bool → Shared → Prop) (EE : Value → Shared → Prop), Body k A → Fra ns env base l st s.heap → Rel prog w base st s.heap →
    (∀ b st' s', Q b st' → Rel prog w base st' s'.heap → Go noX st st' s s' → QQ b s') → wpAny (model prog w) A t QQ EE s
end

section
variable {prog : Program} {w : World} {base : Bs} {k : Nat} {ns : List Str} {env : Env} {l : Loc} {st : Sto} {s : Shared} {A : Around} {EE : Value → Shared → Prop}

theorem TriE.then {t₁ t₂ : Sem Value} {Q₁ : AV → Sto → Prop} {Q₂ : AV → AV → Sto → Prop} {QQ : Value → Value → Shared → Prop} (ha : TriE prog w base k ns env l st t₁ Q₁) (hb : ∀ x st₁, Q₁ x st₁ → TriE prog w base k ns env l st₁ t₂ (Q₂ x))
    (B : Body k A) (F : Fra ns env base l st s.heap) (R : Rel prog w base st s.heap)
    (h : ∀ v₁ v₂ x y st' s', Q₂ x y st' → VR base s'.heap v₁ x → VR base s'.heap v₂ y → Rel prog w base st' s'.heap → Go noX st st' s s' → Fra ns env base l st' s'.heap → QQ v₁ v₂ s') :
    wpAny (model prog w) A t₁ (fun v₁ s₁ => wpAny (model prog w) A t₂ (fun v₂ s₂ => QQ v₁ v₂ s₂) EE s₁) EE s := by
  refine ha A s _ EE B F R fun v₁ x st₁ s₁ q₁ x₁ R₁ g₁ => ?_
  have F₁ := F.go R g₁
  refine hb x st₁ q₁ A s₁ _ EE B F₁ R₁ fun v₂ y st₂ s₂ q₂ x₂ R₂ g₂ => ?_
  exact h v₁ v₂ x y st₂ s₂ q₂ (x₁.keep (g₂.tup0 R₁)) x₂ R₂ (g₁.trans g₂) (F₁.go R₁ g₂)

theorem Out.after {Q : AV → Sto → Prop} {QQ : Value → Shared → Prop} {st' : Sto} {s' : Shared} (o : Out prog w base Q QQ st s) (g : Go noX st st' s s') : Out prog w base Q QQ st' s' :=
  fun v d st₂ s₂ q x R g₂ => o v d st₂ s₂ q x R (g.trans g₂)
theorem OutU.after {Q : Sto → Prop} {QQ : Unit → Shared → Prop} {st' : Sto} {s' : Shared} (o : OutU prog w base Q QQ st s) (g : Go noX st st' s s') : OutU prog w base Q QQ st' s' :=
  fun st₂ s₂ q R g₂ => o st₂ s₂ q R (g.trans g₂)

mutual
theorem VR.bad {hb h : Heap} {bad : Addr → Prop} (k : ∀ a, bad a → h.get? a = none) : ∀ {v : Value} {d : AV}, VR ⟨hb, fun _ => False⟩ h v d → VR ⟨hb, bad⟩ h v d
  | _, _, .none => .none
  | _, _, .bool b => .bool b
  | _, _, .int i t => .int i t
  | _, _, .str x t => .str x t
  | _, _, .tup _ e r => .tup (fun q => by have := k _ q; rw [this] at e; cases e) e (VRs.bad k r)
  | _, _, .loc a => .loc a
  | _, _, .ro e r => .ro e (VRs.bad k r)
theorem VRs.bad {hb h : Heap} {bad : Addr → Prop} (k : ∀ a, bad a → h.get? a = none) : ∀ {vs : List Value} {ds : List AV}, VRs ⟨hb, fun _ => False⟩ h vs ds → VRs ⟨hb, bad⟩ h vs ds
  | _, _, .nil => .nil
  | _, _, .cons a r => .cons (VR.bad k a) (VRs.bad k r)
end

theorem new_tup (R : Rel prog w base st s.heap) {vs : List Value} {ds : List AV} (r : VRs base s.heap vs ds) : VR base (s.heap.push { cls := .type "tuple", data := .seq vs.toArray }) (.ref s.heap.objs.size) (.tup ds) :=
  .tup (fun q => (R.bad _ q).2 (size_free _)) (n := 0) (IsT.new _ _) (r.keep (TupKeep.of fun b p e => Heap.get?_push_of_some _ e))

/-- a name's own value -/
theorem var_ok {x : Str} {i : Nat} {d : AV} {Q : AV → Sto → Prop} {QQ : Value → Shared → Prop} (F : Fra ns env base l st s.heap) (R : Rel prog w base st s.heap) (hi : ns[i]? = some x) (hk : env.kindOf x = some .local ∨ env.kindOf x = some .cell)
    (hd : l i = some d) (q : Q d st) (o : Out prog w base Q QQ st s) : wpAny (model prog w) A (loadName env x) QQ EE s := by
  rcases hk with hk | hk
  · obtain ⟨m, hm, hl⟩ := F.locs
    obtain ⟨v, h1, h2⟩ := hl i x d hi hk hd
    exact wpAny_loadName_local F.kind hk hm h1 (o.now R q h2)
  · obtain ⟨c, cv, h1, h2, h3⟩ := F.cells i x hi hk
    obtain ⟨v, rfl, h4⟩ := h3 d hd
    exact wpAny_loadName_cell F.kind hk h1 h2 (o.now R q h4)

/-- the arguments' trees -/
theorem star_plain {e : Expr} {r : List Expr} (h : ∀ x p, e ≠ .Starred x p) : starEach (e :: r) env = (false, eval e env) :: starEach r env := by
  cases e <;> first | rfl | exact absurd rfl (h _ _)
end
end Mine

end

section
set_option linter.unusedVariables false
set_option linter.unusedSimpArgs false
namespace Mine
open PySem PySem.W PySem.Calls PyProof.Rows PySem.SeqAt
open Sem (wp)

section
variable {prog : Program} {w : World} {base : Bs} {k : Nat} {ns : List Str} {env : Env} {l : Loc} {st : Sto} {s : Shared} {A : Around} {EE : Value → Shared → Prop} {Q : AV → Sto → Prop}

theorem boolOp_link {M : Model} {pos : Pos} {op : BoolOp} {x y : Sem Value} {r : List (Sem Value)} {Q : Value → Shared → Prop}
    (h : wpAny M A x (fun v s₁ => wpAny M A (truthy v) (fun t s₂ => match op, t with | .And, false | .Or, true => Q v s₂ | _, _ => wpAny M A (boolOp pos op (y :: r)) Q EE s₂) EE s₁) EE s) : wpAny M A (boolOp pos op (x :: y :: r)) Q EE s := by
  show wpAny M A (do
    let v ← x
    standAt pos
    let t ← holding [v] (truthy v)
    match op, t with
    | .And, false | .Or, true => pure v
    | _, _ => boolOp pos op (y :: r)) Q EE s
  refine wpAny_bind (wpAny_mono h (fun v s₁ h₁ => wpAny_bind (wpAny_standAt (wpAny_bind (wpAny_holding (wpAny_mono h₁ (fun t s₂ h₂ => ?_) fun _ _ x => x))))) fun _ _ x => x)
  cases op <;> cases t <;> first | exact wpAny_pure h₂ | exact h₂

/-- Q behind a value that is a bool -/
theorem truth_ok {v : Value} {x : AV} {P : Bool → Prop} {QB : Bool → Shared → Prop} (hx : VR base s.heap v x) (h : truthP x P) (o : ∀ b, x = .bool b → P b → QB b s) : wpAny (model prog w) A (truthy v) QB EE s := by
  obtain ⟨b, rfl, p⟩ := h
  cases hx
  exact wpAny_truthy_bool (o b rfl p)

theorem test_link {M : Model} {pos : Pos} {a : Value} {op op' : CmpOp} {ops : List CmpOp} {r r' : Sem Value} {rs : List (Sem Value)} {Q : Bool → Shared → Prop}
    (h : wpAny M A r (fun b s₁ => wpAny M A (compareOp op a b) (fun c s₂ => wpAny M A (truthy c)
      (fun t s₃ => if t then wpAny M A (testChain pos b (op' :: ops) (r' :: rs)) Q EE s₃ else Q false s₃) EE s₂) EE s₁) EE s) :
    wpAny M A (testChain pos a (op :: op' :: ops) (r :: r' :: rs)) Q EE s := by
  show wpAny M A (do
    let rv ← holding [a] r
    standAt pos
    let c ← holding [a, rv] (compareOp op a rv)
    release [a, rv] [c]
    if ← holding [c, rv] (truthy c) then testChain pos rv (op' :: ops) (r' :: rs) else pure false) Q EE s
  refine wpAny_bind (wpAny_holding (wpAny_mono h (fun b s₁ h₁ => wpAny_bind (wpAny_standAt (wpAny_bind (wpAny_holding (wpAny_mono h₁ (fun c s₂ h₂ =>
    wpAny_bind (wpAny_release' (wpAny_bind (wpAny_holding (wpAny_mono h₂ (fun t s₃ h₃ => ?_) fun _ _ x => x))))) fun _ _ x => x))))) fun _ _ x => x))
  cases t with
  | false => exact wpAny_pure h₃
  | true => exact h₃
theorem test_last {M : Model} {pos : Pos} {a : Value} {op : CmpOp} {r : Sem Value} {Q : Bool → Shared → Prop}
    (h : wpAny M A r (fun b s₁ => wpAny M A (compareOp op a b) (fun c s₂ => wpAny M A (truthy c) Q EE s₂) EE s₁) EE s) : wpAny M A (testChain pos a [op] [r]) Q EE s := by
  show wpAny M A (do
    let rv ← holding [a] r
    standAt pos
    let c ← operate [a, rv] (compareOp op a rv)
    holding [c] (truthy c)) Q EE s
  exact wpAny_bind (wpAny_holding (wpAny_mono h (fun b s₁ h₁ => wpAny_bind (wpAny_standAt (wpAny_bind (wpAny_operate' (wpAny_mono h₁ (fun c s₂ h₂ => wpAny_holding h₂) fun _ _ x => x))))) fun _ _ x => x))

theorem marks_no {op : CmpOp} {o : COp} (h : compO op = some o) (e : Expr) : behindInMarks op e = false := by
  cases op <;> simp [compO] at h <;> cases e <;> simp [behindInMarks]
theorem opOf_of {op : CmpOp} {o : COp} (h : compO op = some o) : op = opOf o := by
  cases op <;> simp [compO] at h <;> subst h <;> rfl

theorem evalArgs_nilS {M : Model} {f : Value} {Q : Args → Shared → Prop} (h : wpAny M A (spliced []) (fun vs s' => Q ⟨vs, []⟩ s') EE s) : wpAny M A (evalArgs f true [] []) Q EE s := by
  unfold evalArgs
  show wpAny M A (spliced [] >>= _) Q EE s
  refine wpAny_bind (wpAny_mono h (fun vs s₁ h₁ => ?_) fun _ _ x => x)
  refine wpAny_bind (wpAny_pure ?_)
  refine wpAny_holding ?_
  simp only [List.all_nil, if_true]
  refine wpAny_bind (m := evalAll []) (wpAny_evalAll_nil ?_)
  exact wpAny_bind (wpAny_pure (wpAny_pure h₁))
theorem callWith_plain {f : Value} {first : List Value} {pos : Pos} {args : List (Bool × Sem Value)} {P : Heap → Prop} {QQ : Value → Shared → Prop} (hplain : args.any (·.1) = false)
    (hk : ∀ h, P h → ∃ k, (k = Keeper.frame ∨ k = Keeper.machine ∨ k = Keeper.boundFrame) ∧ Looks (model prog w) h (keeperOf f) k)
    (h : wpAny (model prog w) A (spliced args) (fun vs s₁ => P s₁.heap ∧ wpAny (model prog w) A (call f (first ++ vs) []) QQ EE s₁) EE s) : wpAny (model prog w) A (callWith pos f first args []) QQ EE s := by
  refine callWith_of (P := P) (by simpa using hplain) hk ?_
  cases args with
  | nil => exact evalArgs_nilS h
  | cons a r =>
    obtain ⟨st, x⟩ := a
    simp at hplain
    obtain ⟨rfl, _⟩ := hplain
    exact evalArgs_plain h
theorem keeps_val {f : Value} (hf : ∀ a, f ≠ .ref a) (h : Heap) (_ : True) : ∃ k, (k = Keeper.frame ∨ k = Keeper.machine ∨ k = Keeper.boundFrame) ∧ Looks (model prog w) h (keeperOf f) k := by
  refine ⟨.machine, .inr (.inl rfl), ?_⟩
  have : keeperOf f = pure .machine := by
    unfold keeperOf
    cases f <;> first | rfl | exact absurd rfl (hf _)
  rw [this]; exact Looks.now
end
end Mine

end

section
set_option linter.unusedVariables false
set_option linter.unusedSimpArgs false
set_option maxHeartbeats 1000000
namespace Mine
open PySem PySem.W PySem.Calls PyProof.Rows PySem.SeqAt
open Sem (wp)

structure CtxOk (c : Ctx) (env : Env) (gl : Str → Option GV) : Prop where
  names : c.names = env.scope.names
  gl : c.gl = gl
  nd : c.ns.Nodup
theorem CtxOk.kind {c : Ctx} {env : Env} {gl : Str → Option GV} (h : CtxOk c env gl) (x : Str) : c.kind x = env.kindOf x := by unfold Ctx.kind Env.kindOf; rw [h.names]
theorem var_of {c : Ctx} {env : Env} {gl : Str → Option GV} {x : Str} {i : Nat} (h : CtxOk c env gl) (e : c.var x = some i) : c.ns[i]? = some x ∧ (env.kindOf x = some .local ∨ env.kindOf x = some .cell) := by
  have idx : ∀ {ns : List Str} {i : Nat}, ns.findIdx? (· == x) = some i → ns[i]? = some x := by
    intro ns i e
    obtain ⟨h1, h2, _⟩ := List.findIdx?_eq_some_iff_getElem.mp e
    rw [List.getElem?_eq_getElem h1]
    simpa using h2
  unfold Ctx.var at e
  split at e
  · rename_i q; rw [h.kind] at q; exact ⟨idx e, .inl q⟩
  · rename_i q; rw [h.kind] at q; exact ⟨idx e, .inr q⟩
  · cases e
theorem glob_of {c : Ctx} {env : Env} {gl : Str → Option GV} {x : Str} {g : GV} (h : CtxOk c env gl) (e : c.glob x = some g) : env.kindOf x = some .globalImplicit ∧ (x == ("__debug__" : Str)) = false ∧ gl x = some g := by
  unfold Ctx.glob at e
  split at e
  · rename_i q
    rw [h.kind] at q
    split at e
    · cases e
    · rename_i q2; exact ⟨q, by simpa using q2, by rw [← h.gl]; exact e⟩
  · cases e

section
variable {prog : Program} {w : World} {hb : Heap} {K : Frag} {mg mb : Str → Option Value} {gl : Str → Option GV} {T : Tab} {k : Nat}

/-- what is said of an expression's tree -/
def ExprOk (prog : Program) (w : World) (hb : Heap) (gl : Str → Option GV) (T : Tab) (k : Nat) (n : Nat) : Prop :=
  ∀ (bad : Addr → Prop) (c : Ctx) (env : Env) (e : Expr) (me : ME) (l : Loc) (st : Sto) (Q : AV → Sto → Prop), comp n c e = some me → CtxOk c env gl → evP T (CallS prog w hb k) me l st Q → TriE prog w ⟨hb, bad⟩ k c.ns env l st (eval e env) Q
def OptOk (prog : Program) (w : World) (hb : Heap) (gl : Str → Option GV) (T : Tab) (k : Nat) (n : Nat) : Prop :=
  ∀ (bad : Addr → Prop) (c : Ctx) (env : Env) (e : Option Expr) (me : ME) (l : Loc) (st : Sto) (Q : AV → Sto → Prop), compOpt n c e = some me → CtxOk c env gl → evP T (CallS prog w hb k) me l st Q → TriE prog w ⟨hb, bad⟩ k c.ns env l st (evalPart e env) Q
def ListOk (prog : Program) (w : World) (hb : Heap) (gl : Str → Option GV) (T : Tab) (k : Nat) (n : Nat) : Prop :=
  ∀ (bad : Addr → Prop) (c : Ctx) (env : Env) (es : List Expr) (ms : MEs) (l : Loc) (st : Sto) (Q : List AV → Sto → Prop) (pos : Pos), comps n c es = some ms → CtxOk c env gl → evPs T (CallS prog w hb k) ms l st Q → TriL prog w ⟨hb, bad⟩ k c.ns env l st (spliced (backTo pos (starEach es env))) Q
def BoolOk (prog : Program) (w : World) (hb : Heap) (gl : Str → Option GV) (T : Tab) (k : Nat) (n : Nat) : Prop :=
  ∀ (bad : Addr → Prop) (c : Ctx) (env : Env) (op : BoolOp) (es : List Expr) (me : ME) (l : Loc) (st : Sto) (Q : AV → Sto → Prop) (pos : Pos), compB n c op es = some me → CtxOk c env gl → evP T (CallS prog w hb k) me l st Q → TriE prog w ⟨hb, bad⟩ k c.ns env l st (boolOp pos op (evalEach es env)) Q
def TestOk (prog : Program) (w : World) (hb : Heap) (gl : Str → Option GV) (T : Tab) (k : Nat) (n : Nat) : Prop :=
  ∀ (bad : Addr → Prop) (c : Ctx) (env : Env) (e : Expr) (t : MT) (l : Loc) (st : Sto) (Q : Bool → Sto → Prop), compT n c e = some t → CtxOk c env gl → tsP T (CallS prog w hb k) t l st Q → TriB prog w ⟨hb, bad⟩ k c.ns env l st (isTrue e env (eval e env)) Q
def TestsOk (prog : Program) (w : World) (hb : Heap) (gl : Str → Option GV) (T : Tab) (k : Nat) (n : Nat) : Prop :=
  ∀ (bad : Addr → Prop) (c : Ctx) (env : Env) (op : BoolOp) (es : List Expr) (t : MT) (l : Loc) (st : Sto) (Q : Bool → Sto → Prop), compTB n c op es = some t → CtxOk c env gl → tsP T (CallS prog w hb k) t l st Q → TriB prog w ⟨hb, bad⟩ k c.ns env l st (allTrue op es env) Q

theorem comp_plain {n : Nat} {c : Ctx} {e : Expr} {me : ME} (h : comp n c e = some me) : ∀ x p, e ≠ .Starred x p := by
  intro x p q; subst q
  cases n <;> simp [comp] at h
theorem comps_plain : ∀ {n : Nat} {c : Ctx} {es : List Expr} {ms : MEs} {env : Env} {pos : Pos}, comps n c es = some ms → (backTo pos (starEach es env)).any (·.1) = false
  | 0, _, _, _, _, _, h => by simp [comps] at h
  | n + 1, c, [], _, _, _, _ => rfl
  | n + 1, c, e :: r, ms, env, pos, h => by
    simp only [comps] at h
    split at h
    · rename_i x xs h1 h2
      rw [star_plain (comp_plain h1)]
      have := comps_plain (env := env) (pos := pos) h2
      simpa [backTo] using this
    · cases h

variable {base : Bs} {ns : List Str} {env : Env} {l : Loc} {st : Sto} {s : Shared} {A : Around} {EE : Value → Shared → Prop} {Q : AV → Sto → Prop}

theorem expr_binop {a b : Expr} {op : Operator} {pos : Pos} {bo : BOp} {P : AV → Sto → Prop} {P' : AV → AV → Sto → Prop} (he : op = opB bo)
    (ha : TriE prog w base k ns env l st (eval a env) P) (hb : ∀ x st₁, P x st₁ → TriE prog w base k ns env l st₁ (eval b env) (P' x)) (h : ∀ x y st, P' x y st → binP bo x y st Q) :
    TriE prog w base k ns env l st (eval (.BinOp a op b pos) env) Q := by
  intro A s QQ EE B F R o
  subst he
  exact wpAny_BinOp (TriE.then ha hb B F R fun v₁ v₂ x y st' s' q x₁ x₂ R' g F' => binop_ok R' x₁ x₂ (h _ _ _ q) (o.after g))
theorem expr_fdiv {a b : Expr} {pos : Pos} {P : AV → Sto → Prop} {P' : AV → AV → Sto → Prop}
    (ha : TriE prog w base k ns env l st (eval a env) P) (hb : ∀ x st₁, P x st₁ → TriE prog w base k ns env l st₁ (eval b env) (P' x)) (h : ∀ x y st, P' x y st → ∃ i j, x = .int i ∧ y = .int j ∧ 0 < j ∧ j ≤ LIM ∧ Small i ∧ Q (.int (i / j)) st) :
    TriE prog w base k ns env l st (eval (.BinOp a .FloorDiv b pos) env) Q := by
  intro A s QQ EE B F R o
  refine wpAny_BinOp (TriE.then ha hb B F R fun v₁ v₂ x y st' s' q x₁ x₂ R' g F' => ?_)
  obtain ⟨i, j, rfl, rfl, h1, h2, h3, q⟩ := h _ _ _ q
  obtain ⟨t, rfl⟩ := x₁.ofInt
  obtain ⟨u, rfl⟩ := x₂.ofInt
  exact fdiv_ok R' h1 h2 h3 q (o.after g)
theorem expr_cmp {a b : Expr} {op : CmpOp} {co : COp} {pos : Pos} {P : AV → Sto → Prop} {P' : AV → AV → Sto → Prop} (he : compO op = some co)
    (ha : TriE prog w base k ns env l st (eval a env) P) (hb : ∀ x st₁, P x st₁ → TriE prog w base k ns env l st₁ (eval b env) (P' x)) (h : ∀ x y st, P' x y st → cmpP co x y st Q) :
    TriE prog w base k ns env l st (eval (.Compare a [op] [b] pos) env) Q := by
  intro A s QQ EE B F R o
  refine wpAny_Compare1 (TriE.then ha hb B F R fun v₁ v₂ x y st' s' q x₁ x₂ R' g F' => ?_) (marks_no he b)
  rw [opOf_of he]
  exact cmp_ok R' (by have := B.line; omega) x₁ x₂ (h _ _ _ q) (o.after g)
theorem test_cmp {a b : Expr} {op : CmpOp} {co : COp} {pos : Pos} {P : AV → Sto → Prop} {P' : AV → AV → Sto → Prop} {QB : Bool → Sto → Prop} {whole : Sem Value} (he : compO op = some co)
    (ha : TriE prog w base k ns env l st (eval a env) P) (hb : ∀ x st₁, P x st₁ → TriE prog w base k ns env l st₁ (eval b env) (P' x)) (h : ∀ x y st, P' x y st → cmpP co x y st fun x st => truthP x fun b => QB b st) :
    TriB prog w base k ns env l st (isTrue (.Compare a [op] [b] pos) env whole) QB := by
  intro A s QQ EE B F R o
  refine wpAny_isTrue_Compare1 (TriE.then ha hb B F R fun v₁ v₂ x y st' s' q x₁ x₂ R' g F' => ?_) (marks_no he b)
  rw [opOf_of he]
  refine cmp_ok R' (by have := B.line; omega) x₁ x₂ (h _ _ _ q) fun v d st₂ s₂ q₂ x₃ R₂ g₂ => ?_
  exact truth_ok x₃ q₂ fun b _ p => o b st₂ s₂ p R₂ (g.trans g₂)
theorem expr_chain {a b d : Expr} {o1 o2 : CmpOp} {c1 c2 : COp} {pos : Pos} {P : AV → Sto → Prop} {P' : AV → AV → Sto → Prop} {P₃ : AV → AV → Sto → Prop} (h1 : compO o1 = some c1) (h2 : compO o2 = some c2)
    (ha : TriE prog w base k ns env l st (eval a env) P) (hb : ∀ x st₁, P x st₁ → TriE prog w base k ns env l st₁ (eval b env) (P' x))
    (h : ∀ x y st, P' x y st → cmpP c1 x y st fun r st => truthP r fun t => (t = true → P₃ y .none st) ∧ (t = false → Q (.bool false) st))
    (hd : ∀ y st, P₃ y .none st → TriE prog w base k ns env l st (eval d env) fun z st => cmpP c2 y z st Q) :
    TriE prog w base k ns env l st (eval (.Compare a [o1, o2] [b, d] pos) env) Q := by
  intro A s QQ EE B F R o
  refine Compare_chain (rs := []) (ops := []) (wpAny_mono (ha A s (fun v₁ s₁ => wpAny (model prog w) A (compareChain pos v₁ (o1 :: o2 :: []) (eval b env :: eval d env :: [])) QQ EE s₁) EE B F R ?_) (fun _ _ x => x) fun _ _ x => x) (by
    show behindInMarks o2 d = false
    exact marks_no h2 d)
  intro v₁ x st₁ s₁ q₁ x₁ R₁ g₁
  have F₁ := F.go R g₁
  refine chain_link (hb x st₁ q₁ A s₁ _ EE B F₁ R₁ fun v₂ y st₂ s₂ q₂ x₂ R₂ g₂ => ?_)
  have F₂ := F₁.go R₁ g₂
  rw [opOf_of h1]
  refine cmp_ok R₂ (by have := B.line; omega) (x₁.keep (g₂.tup0 R₁)) x₂ (h _ _ _ q₂) fun v d' st₃ s₃ q₃ x₃ R₃ g₃ => ?_
  have F₃ := F₂.go R₂ g₃
  refine truth_ok x₃ q₃ fun t e p => ?_
  cases t with
  | false => subst e; exact o _ _ _ _ (p.2 rfl) x₃ R₃ ((g₁.trans g₂).trans g₃)
  | true =>
    refine chain_last (hd y st₃ (p.1 rfl) A s₃ _ EE B F₃ R₃ fun v₄ z st₄ s₄ q₄ x₄ R₄ g₄ => ?_)
    rw [opOf_of h2]
    exact cmp_ok R₄ (by have := B.line; omega) ((x₂.keep (g₃.tup0 R₂)).keep (g₄.tup0 R₃)) x₄ q₄ (o.after (((g₁.trans g₂).trans g₃).trans g₄))
end
end Mine

end

section
set_option linter.unusedVariables false
set_option linter.unusedSimpArgs false
set_option maxHeartbeats 1000000
namespace Mine
open PySem PySem.W PySem.Calls PyProof.Rows PySem.SeqAt
open Sem (wp)

section
variable {prog : Program} {w : World} {hb : Heap} {K : Frag} {mg mb : Str → Option Value} {gl : Str → Option GV} {T : Tab} {k : Nat}
variable {base : Bs} {ns : List Str} {env : Env} {l : Loc} {st : Sto} {s : Shared} {A : Around} {EE : Value → Shared → Prop} {Q : AV → Sto → Prop}

theorem expr_tuple {es : List Expr} {kk : Nat} {pos : Pos} (h : TriL prog w base k ns env l st (spliced (backTo pos (starEach es env))) fun ds st => ds.length ≤ 1000 ∧ Q (.tup ds) st) :
    TriE prog w base k ns env l st (eval (.Tuple es kk pos) env) Q := by
  intro A s QQ EE B F R o
  refine wpAny_Tuple (h A s _ EE B F R fun vs ds st' s' q x R' g => ?_)
  have hl := x.length
  refine ⟨by rw [sizeLine_eq]; omega, ?_⟩
  exact (o.after g).ext R' s'.toks (fun b p e => Heap.get?_push_of_some _ e) q.2 (new_tup R' x)
theorem expr_list {es : List Expr} {pos : Pos} (h : TriL prog w base k ns env l st (spliced (backTo pos (starEach es env))) fun ds st => ds.length ≤ 1000 ∧ ∀ n, st n = none → Q (.loc n) (upd st n (.list ds))) :
    TriE prog w base k ns env l st (eval (.List es pos) env) Q := by
  intro A s QQ EE B F R o
  refine wpAny_List (h A s _ EE B F R fun vs ds st' s' q x R' g => ?_)
  have hl := x.length
  exact ⟨by rw [sizeLine_eq]; omega, (o.after g).pushList R' s'.toks x q.2⟩
theorem expr_neg {a : Expr} {pos : Pos} (h : TriE prog w base k ns env l st (eval a env) fun x st => ∃ i, x = .int i ∧ Q (.int (-i)) st) : TriE prog w base k ns env l st (eval (.UnaryOp .USub a pos) env) Q := by
  intro A s QQ EE B F R o
  refine wpAny_UnaryOp (h A s _ EE B F R fun v x st' s' q x₁ R' g => ?_)
  obtain ⟨i, rfl, q⟩ := q
  obtain ⟨t, rfl⟩ := x₁.ofInt
  exact P.neg_int ((o.after g).tok R' _ q (.int _ _))
theorem expr_not {a : Expr} {pos : Pos} (h : TriE prog w base k ns env l st (eval a env) fun x st => truthP x fun b => Q (.bool (!b)) st) : TriE prog w base k ns env l st (eval (.UnaryOp .Not a pos) env) Q := by
  intro A s QQ EE B F R o
  refine wpAny_UnaryOp (h A s _ EE B F R fun v x st' s' q x₁ R' g => ?_)
  exact not_value (truth_ok x₁ q fun b _ p => (o.after g).now R' p (.bool _))
theorem expr_if {t a b : Expr} {pos : Pos} {P₁ P₂ : Sto → Prop} (ht : TriB prog w base k ns env l st (isTrue t env (eval t env)) fun t st => (t = true → P₁ st) ∧ (t = false → P₂ st))
    (h1 : ∀ st, P₁ st → TriE prog w base k ns env l st (eval a env) Q) (h2 : ∀ st, P₂ st → TriE prog w base k ns env l st (eval b env) Q) : TriE prog w base k ns env l st (eval (.IfExp t a b pos) env) Q := by
  intro A s QQ EE B F R o
  refine wpAny_IfExp (ht A s _ EE B F R fun c st' s' q R' g => ?_)
  cases c with
  | true => exact h1 st' (q.1 rfl) A s' _ EE B (F.go R g) R' (o.after g)
  | false => exact h2 st' (q.2 rfl) A s' _ EE B (F.go R g) R' (o.after g)

theorem args_nil {pos : Pos} {Q : List AV → Sto → Prop} (h : Q [] st) : TriL prog w base k ns env l st (spliced (backTo pos (starEach [] env))) Q := by
  intro A s QQ EE B F R o
  exact wpAny_items_nil (o [] [] st s h .nil R (Go.refl _ _ _))
theorem args_cons {e : Expr} {r : List Expr} {pos : Pos} {P : AV → Sto → Prop} {Q : List AV → Sto → Prop} (hp : ∀ x p, e ≠ .Starred x p) (h1 : TriE prog w base k ns env l st (eval e env) P)
    (h2 : ∀ x st, P x st → TriL prog w base k ns env l st (spliced (backTo pos (starEach r env))) fun xs st => Q (x :: xs) st) : TriL prog w base k ns env l st (spliced (backTo pos (starEach (e :: r) env))) Q := by
  intro A s QQ EE B F R o
  refine wpAny_items_cons (h1 A s _ EE B F R fun v x st₁ s₁ q x₁ R₁ g₁ => ?_) (star_plain hp)
  refine h2 x st₁ q A s₁ _ EE B (F.go R g₁) R₁ fun vs ds st₂ s₂ q₂ x₂ R₂ g₂ => ?_
  exact o _ _ _ _ q₂ (.cons (x₁.keep (g₂.tup0 R₁)) x₂) R₂ (g₁.trans g₂)

/-- a global name's value -/
theorem glob_ok {x : Str} {pos : Pos} {v : Value} {QQ : Value → Shared → Prop} (G : Gr prog w base.heap K mg mb gl T) (F : Fra ns env base l st s.heap) (R : Rel prog w base st s.heap) (hk : env.kindOf x = some .globalImplicit) (hd : (x == ("__debug__" : Str)) = false)
    (hv : mg x = some v ∨ (mg x = none ∧ mb x = some v)) (h : QQ v s) : wpAny (model prog w) A (eval (.Name x pos) env) QQ EE s := by
  have hg : s.heap.Ns env.globals mg := by rw [F.glob]; exact G.g.keeps R.keep
  have hbn : s.heap.Ns env.builtins mb := by rw [F.blt]; exact G.b.keeps R.keep
  rcases hv with hv | ⟨h1, h2⟩
  · exact Name_function_global F.kind hk (loadGlobal_global hg hv h) hd
  · exact Name_function_global F.kind hk (loadGlobal_builtin hg h1 hbn h2 h) hd

theorem expr_data {x : Str} {pos : Pos} {d : AV} (G : Gr prog w base.heap K mg mb gl T) (hk : env.kindOf x = some .globalImplicit) (hd : (x == ("__debug__" : Str)) = false) (hg : gl x = some (.data d)) (q : Q d st) : TriE prog w base k ns env l st (eval (.Name x pos) env) Q := by
  intro A s QQ EE B F R o
  obtain ⟨v, h1, h2⟩ := G.data x d hg
  refine glob_ok G F R hk hd (.inl h1) (o.now R q ?_)
  exact (VR.bad (fun a e => (R.bad a e).1) h2).keep (TupKeep.of R.keep)

/-- the call of a function or a class of the text -/
theorem expr_call {x : Str} {p pos : Pos} {a : Addr} {es : List Expr} (G : Gr prog w base.heap K mg mb gl T) (hk : env.kindOf x = some .globalImplicit) (hd : (x == ("__debug__" : Str)) = false) (hg : gl x = some (.fn a) ∨ gl x = some (.cls a)) (hs : (backTo pos (starEach es env)).any (·.1) = false)
    (h : TriL prog w base k ns env l st (spliced (backTo pos (starEach es env))) fun ds st => CallS prog w base.heap k a ds st Q) : TriE prog w base k ns env l st (eval (.Call (.Name x p) es [] pos) env) Q := by
  intro A s QQ EE B F R o
  have hv : mg x = some (.ref a) ∧ keepIn K (.ref a) = true := hg.elim (G.fn x a) (G.cls x a)
  refine wpAny_Call_Name_kw (glob_ok G F R hk hd (.inl hv.1) ?_)
  refine callWith_plain (P := K.In) hs (keeps_K hv.2) (h A s _ EE B F R fun vs ds st' s' q x₁ R' g => ⟨R'.inK G, ?_⟩)
  exact wpAny_call (q base.bad A s' vs QQ EE B.room R' x₁ (o.after g))

/-- a built-in call of one argument -/
theorem expr_blt1 {x y : Str} {p pos : Pos} {v : Value} {e : Expr} {P : AV → Sto → Prop} (G : Gr prog w base.heap K mg mb gl T) (hk : env.kindOf x = some .globalImplicit) (hd : (x == ("__debug__" : Str)) = false) (hg : gl x = some (.blt y)) (hv : bltV y = some v) (hv' : ∀ a, v ≠ .ref a)
    (hp : ∀ x p, e ≠ .Starred x p) (ha : TriE prog w base k ns env l st (eval e env) P)
    (h : ∀ (A : Around) u z st (s : Shared) (QQ EE : Value → Shared → Prop), Body k A → P z st → VR base s.heap u z → Rel prog w base st s.heap → Out prog w base Q QQ st s → wpAny (model prog w) A (call v [u]) QQ EE s) :
    TriE prog w base k ns env l st (eval (.Call (.Name x p) [e] [] pos) env) Q := by
  intro A s QQ EE B F R o
  obtain ⟨h1, v', h2, h3⟩ := G.blt x y hg
  rw [hv] at h3; cases h3
  refine wpAny_Call_Name_kw (glob_ok G F R hk hd (.inr ⟨h1, h2⟩) ?_)
  refine callWith_plain (P := fun _ => True) (by rw [star_plain hp]; rfl) (keeps_val hv') ?_
  refine wpAny_items_cons (ha A s _ EE B F R fun u z st₁ s₁ q x₁ R₁ g₁ => ?_) (star_plain hp)
  exact wpAny_items_nil ⟨trivial, h A u z st₁ s₁ QQ EE B q x₁ R₁ (o.after g₁)⟩
/-- of two -/
theorem expr_blt2 {x y : Str} {p pos : Pos} {v : Value} {e e' : Expr} {P : AV → Sto → Prop} {P' : AV → AV → Sto → Prop} (G : Gr prog w base.heap K mg mb gl T) (hk : env.kindOf x = some .globalImplicit) (hd : (x == ("__debug__" : Str)) = false) (hg : gl x = some (.blt y)) (hv : bltV y = some v) (hv' : ∀ a, v ≠ .ref a)
    (hp : ∀ x p, e ≠ .Starred x p) (hp' : ∀ x p, e' ≠ .Starred x p) (ha : TriE prog w base k ns env l st (eval e env) P) (hb' : ∀ x st₁, P x st₁ → TriE prog w base k ns env l st₁ (eval e' env) (P' x))
    (h : ∀ (A : Around) u u' z z' st (s : Shared) (QQ EE : Value → Shared → Prop), Body k A → P' z z' st → VR base s.heap u z → VR base s.heap u' z' → Rel prog w base st s.heap → Out prog w base Q QQ st s → wpAny (model prog w) A (call v [u, u']) QQ EE s) :
    TriE prog w base k ns env l st (eval (.Call (.Name x p) [e, e'] [] pos) env) Q := by
  intro A s QQ EE B F R o
  obtain ⟨h1, v', h2, h3⟩ := G.blt x y hg
  rw [hv] at h3; cases h3
  refine wpAny_Call_Name_kw (glob_ok G F R hk hd (.inr ⟨h1, h2⟩) ?_)
  refine callWith_plain (P := fun _ => True) (by rw [star_plain hp]; simp only [backTo, List.map_cons, List.any_cons]; rw [star_plain hp']; rfl) (keeps_val hv') ?_
  refine wpAny_items_cons (wpAny_mono (TriE.then ha hb' B F R (EE := EE) (QQ := fun u u' s₂ => True ∧ wpAny (model prog w) A (call v ([] ++ [u, u']) []) QQ EE s₂) fun u u' z z' st₂ s₂ q x₁ x₂ R₂ g F₂ => ⟨trivial, h A u u' z z' st₂ s₂ QQ EE B q x₁ x₂ R₂ (o.after g)⟩) (fun u s₁ h₁ => ?_) fun _ _ x => x) (star_plain hp)
  refine wpAny_items_cons (wpAny_mono h₁ (fun u' s₂ h₂ => ?_) fun _ _ x => x) (star_plain hp')
  exact wpAny_items_nil h₂

theorem base_plain {o : Expr} {name : Str} {whole : Sem Value} (h : lookedUp o = false) : attributeBase o name env whole = whole := by
  unfold attributeBase
  split
  · rename_i id p pos
    simp [lookedUp] at h
  · rfl

theorem expr_attr {o : Expr} {name : Str} {pos : Pos} (G : Gr prog w base.heap K mg mb gl T) (hlu : lookedUp o = false)
    (h : TriE prog w base k ns env l st (eval o env) fun x st => ∃ a cl d es, x = .loc a ∧ st a = some (.inst cl d) ∧ st d = some (.dict es) ∧
      (match T.prop cl name with | some f => CallS prog w base.heap k f [x] st Q | Option.none => T.field cl name = true ∧ ∃ v, es.lookup name = some v ∧ Q v st)) :
    TriE prog w base k ns env l st (eval (.Attribute o name pos) env) Q := by
  intro A s QQ EE B F R oo
  refine Attribute_any_ (h A s _ EE B F R fun v x st' s' q x₁ R' g => ?_) (by rw [arm_eval_Attribute, base_plain hlu])
  obtain ⟨a, cl, d, es, rfl, h1, h2, q⟩ := q
  cases x₁
  split at q
  · rename_i f hp
    obtain ⟨des, n, kvs, I, hd, hp', hk, hn, _, _⟩ := inst_of R' h1 h2
    obtain ⟨p1, p2, p, rest, p3, p4, p5, p6⟩ := G.prop cl name f hp
    refine get_bind (R'.inK G) I (plainGet_of p1).1 (findObj_data (by obtain ⟨cd, hc, _⟩ := any_some p2; rw [hc]; rfl) p3 p4 p5) (plainGet_of p1).2 (wpAny_call (prop_get (s := { s' with toks := s'.toks + 1 }) (R'.inK G) p6 ?_))
    refine codeAny_mono (q base.bad A.in1 { s' with toks := s'.toks + 1 } [.ref a] (fun v s₂ => handedIn v = true ∧ QQ v s₂) (fun e s₂ => wpAny (model prog w) A (noteIf true (.ref a) (.str name s'.toks) e) (fun _ s'' => EE e s'') EE s₂) B.in1 R' (.one (.loc a)) ?_) fun r s₂ hr => ?_
    · intro v d st₂ s₂ q₂ x₂ R₂ g₂
      exact ⟨handed_of x₂, (oo.after g) _ _ _ _ q₂ x₂ R₂ ((Go.ext (h := s'.heap) (tk := s'.toks + 1) fun _ _ e => e).trans g₂)⟩
    · rcases r with e | (v | _ | _ | _) <;> try exact hr
      exact handed_on hr.1 hr.2
  · obtain ⟨f1, v, hv, q⟩ := q
    exact attr_ok G R' h1 h2 f1 hv q (oo.after g)
end
end Mine

end

section
set_option linter.unusedVariables false
set_option linter.unusedSimpArgs false
set_option maxHeartbeats 1000000
namespace Mine
open PySem PySem.W PySem.Calls PyProof.Rows PySem.SeqAt PySem.MeetsSeq
open Sem (wp)

section
variable {prog : Program} {w : World} {hb : Heap} {K : Frag} {mg mb : Str → Option Value} {gl : Str → Option GV} {T : Tab} {k : Nat}
variable {base : Bs} {ns : List Str} {env : Env} {l : Loc} {st : Sto} {s : Shared} {A : Around} {EE : Value → Shared → Prop} {Q : AV → Sto → Prop}

theorem plain_all {es : List Expr} {env : Env} {pos : Pos} (h : (backTo pos (starEach es env)).any (·.1) = false) : (backTo pos (starEach es env)).all (fun x => !x.1) = true := by
  rw [List.all_eq_true]
  intro x hx
  have := List.any_eq_false.mp h x hx
  simpa using this
theorem method_form {o : Expr} {name : Str} {apos pos : Pos} {es : List Expr} {QQ : Value → Shared → Prop} (hlu : lookedUp o = false) (hs : (backTo pos (starEach es env)).any (·.1) = false) (hn : es.length < 20) (hline : (apos.endLine == pos.line) = true)
    (h : wpAny (model prog w) A (eval o env) (fun ov s₁ => wpAny (model prog w) A (getMethod ov name (do return (← importBound o env).getD true)) (fun p s₂ => wpAny (model prog w) A (callWith pos p.1 p.2 (backTo pos (starEach es env)) []) QQ EE s₂) EE s₁) EE s) :
    wpAny (model prog w) A (eval (.Call (.Attribute o name apos) es [] pos) env) QQ EE s := by
  rw [arm_eval_Call, base_plain hlu]
  refine wpAny_bind (wpAny_mono h (fun ov s₁ h₁ => ?_) fun _ _ e => e)
  refine wpAny_bind (wpAny_standAt ?_)
  have hform : methodCallForm (es.length + ([] : List Keyword).length) (backTo pos (starEach es env)) (backToKw pos (keywordEach [] env)) = true := by
    unfold methodCallForm
    rw [plain_all hs]
    simp [keywordEach, backToKw]; omega
  have hpos : methodCallPos true o env apos pos = pure pos := by unfold methodCallPos; simp [hline]
  unfold methodCall
  rw [hform]
  refine wpAny_bind (wpAny_holding (wpAny_mono h₁ (fun p s₂ h₂ => ?_) fun _ _ x => x))
  exact wpAny_bind (wpAny_of_eq hpos h₂)

/-- a method of the text's own -/
theorem expr_meth {o : Expr} {name : Str} {apos pos : Pos} {es : List Expr} {ms : MEs} (G : Gr prog w base.heap K mg mb gl T) (hlu : lookedUp o = false) (hs : (backTo pos (starEach es env)).any (·.1) = false) (hn : es.length < 20) (hline : (apos.endLine == pos.line) = true)
    (h : TriE prog w base k ns env l st (eval o env) fun x st => ∃ a cl d es f, x = .loc a ∧ st a = some (.inst cl d) ∧ st d = some (.dict es) ∧ es.lookup name = none ∧ T.meth cl name = some f ∧
      evPs T (CallS prog w base.heap k) ms l st fun ds st => CallS prog w base.heap k f (x :: ds) st Q)
    (ha : ∀ st P, evPs T (CallS prog w base.heap k) ms l st P → TriL prog w base k ns env l st (spliced (backTo pos (starEach es env))) P) : TriE prog w base k ns env l st (eval (.Call (.Attribute o name apos) es [] pos) env) Q := by
  intro A s QQ EE B F R oo
  refine method_form hlu hs hn hline (h A s _ EE B F R fun v x st' s' q x₁ R' g => ?_)
  obtain ⟨a, cl, d, des, f, rfl, h1, h2, h3, h4, q⟩ := q
  cases x₁
  refine meth_ok G R' h1 h2 h3 h4 ?_
  refine callWith_plain (P := K.In) hs (keeps_K (G.meth _ _ _ h4).2.2.2) (ha st' _ q A s' _ EE B (F.go R g) R' fun vs ds st₂ s₂ q₂ x₂ R₂ g₂ => ⟨R₂.inK G, ?_⟩)
  exact wpAny_call (q₂ base.bad A s₂ _ QQ EE B.room R₂ (.cons (.loc a) x₂) (oo.after (g.trans g₂)))

theorem expr_append {o a : Expr} {apos pos : Pos} {P : Addr → Sto → Prop} (hlu : lookedUp o = false) (hp : ∀ x p, a ≠ .Starred x p) (hline : (apos.endLine == pos.line) = true)
    (h : TriE prog w base k ns env l st (eval o env) fun x st => ∃ n ds0, x = .loc n ∧ st n = some (.list ds0) ∧ P n st)
    (ha : ∀ n st, P n st → TriE prog w base k ns env l st (eval a env) fun y st => ∃ ds, st n = some (.list ds) ∧ ds.length ≤ 1000 ∧ Q .none (upd st n (.list (ds ++ [y])))) :
    TriE prog w base k ns env l st (eval (.Call (.Attribute o "append" apos) [a] [] pos) env) Q := by
  intro A s QQ EE B F R oo
  have hs : (backTo pos (starEach [a] env)).any (·.1) = false := by rw [star_plain hp]; rfl
  refine method_form hlu hs (by simp) hline (h A s _ EE B F R fun v x st' s' q x₁ R' g => ?_)
  obtain ⟨n, ds0, rfl, h1, q⟩ := q
  cases x₁
  obtain ⟨vs, m, e1, r1⟩ := R'.obj _ _ h1
  refine getMethod_list_of PySem.F.slot_list_append PySem.F.type_list_append e1.isList ⟨_, e1, rfl⟩ ?_
  refine callWith_plain (P := fun _ => True) hs (keeps_val (by intro a q; cases q)) ?_
  refine wpAny_items_cons (ha n st' q A s' _ EE B (F.go R g) R' fun u y st₂ s₂ q₂ x₂ R₂ g₂ => ?_) (star_plain hp)
  refine wpAny_items_nil ⟨trivial, ?_⟩
  obtain ⟨ds, e, hz, q⟩ := q₂
  obtain ⟨vs, m, e1, r1⟩ := R₂.obj _ _ e
  have hl := r1.length
  refine call_meets PySem.F.slot_list_append ⟨_, e1, rfl⟩ PySem.F.entry_list_append (PySem.F.args_list_append_2 _ _) (list_append n vs.toArray m u (by simp; rw [sizeLine_eq]; omega)) ⟨e1, ?_⟩
  obtain ⟨m', e2⟩ := upd_list e1 (·.push u)
  rw [List.push_toArray] at e2
  obtain ⟨g1, g2⟩ := turn_list (tk := s₂.toks) R₂ e e1 (Heap.SameBut.update ..) e2 (r1.append (.one x₂))
  exact oo _ _ _ _ q .none g1 ((g.trans g₂).trans g2)

theorem expr_extend {o a : Expr} {apos pos : Pos} {P : Addr → Sto → Prop} (hlu : lookedUp o = false) (hp : ∀ x p, a ≠ .Starred x p) (hline : (apos.endLine == pos.line) = true)
    (h : TriE prog w base k ns env l st (eval o env) fun x st => ∃ n ds0, x = .loc n ∧ st n = some (.list ds0) ∧ P n st)
    (ha : ∀ n st, P n st → TriE prog w base k ns env l st (eval a env) fun y st => ∃ ds es, st n = some (.list ds) ∧ ((∃ m, y = .loc m ∧ m ≠ n ∧ st m = some (.list es)) ∨ y = .tup es) ∧ ds.length ≤ 1000 ∧ es.length ≤ 1000 ∧ Q .none (upd st n (.list (ds ++ es)))) :
    TriE prog w base k ns env l st (eval (.Call (.Attribute o "extend" apos) [a] [] pos) env) Q := by
  intro A s QQ EE B F R oo
  have hs : (backTo pos (starEach [a] env)).any (·.1) = false := by rw [star_plain hp]; rfl
  refine method_form hlu hs (by simp) hline (h A s _ EE B F R fun v x st' s' q x₁ R' g => ?_)
  obtain ⟨n, ds0, rfl, h1, q⟩ := q
  cases x₁
  obtain ⟨vs, m, e1, r1⟩ := R'.obj _ _ h1
  refine getMethod_list_of PySem.F.slot_list_extend PySem.F.type_list_extend e1.isList ⟨_, e1, rfl⟩ ?_
  refine callWith_plain (P := fun _ => True) hs (keeps_val (by intro a q; cases q)) ?_
  refine wpAny_items_cons (ha n st' q A s' _ EE B (F.go R g) R' fun u y st₂ s₂ q₂ x₂ R₂ g₂ => ?_) (star_plain hp)
  refine wpAny_items_nil ⟨trivial, ?_⟩
  obtain ⟨ds, es, e, hy, hz, hz', q⟩ := q₂
  obtain ⟨vs, m, e1, r1⟩ := R₂.obj _ _ e
  have hl := r1.length
  have fin : ∀ (us : List Value), VRs base s₂.heap us es → QQ .none { s₂ with heap := s₂.heap.update n (Obj.mapSeq fun x => x ++ us.toArray) } := by
    intro us r2
    obtain ⟨m', e2⟩ := upd_list e1 (fun x => x ++ us.toArray)
    rw [List.append_toArray] at e2
    obtain ⟨g1, g2⟩ := turn_list (tk := s₂.toks) R₂ e e1 (Heap.SameBut.update ..) e2 (r1.append r2)
    exact oo _ _ _ _ q .none g1 ((g.trans g₂).trans g2)
  have door : ∀ (us : List Value), us.length ≤ 1000 → ¬(!vs.toArray.isEmpty && Builtin.List.listTooLong (vs.toArray.size + us.toArray.size)) = true := fun us hu => extend_door (by simp; rw [sizeLine_eq]; omega)
  rcases hy with ⟨m₂, rfl, hne, em⟩ | rfl
  · cases x₂
    obtain ⟨us, m', e2, r2⟩ := R₂.obj _ _ em
    have hl2 := r2.length
    exact call_meets PySem.F.slot_list_extend ⟨_, e1, rfl⟩ PySem.F.entry_list_extend (PySem.F.args_list_extend_2 _ _) (AutoSeq1.list_extend_list_list_0 n vs.toArray m m₂ us.toArray m' (door us (by omega)) (by simp; rw [sizeLine_eq]; omega) (by simp; rw [sizeLine_eq]; omega)) ⟨e1, e2, fin us r2⟩
  · obtain ⟨a', us, m', rfl, e2, r2⟩ := x₂.ofTup
    have hl2 := r2.length
    exact call_meets PySem.F.slot_list_extend ⟨_, e1, rfl⟩ PySem.F.entry_list_extend (PySem.F.args_list_extend_2 _ _) (AutoSeq1.list_extend_list_tuple_0 n vs.toArray m a' us.toArray m' (door us (by omega)) (by simp; rw [sizeLine_eq]; omega) (by simp; rw [sizeLine_eq]; omega)) ⟨e1, e2, fin us r2⟩

theorem expr_pop {o : Expr} {apos pos : Pos} (hlu : lookedUp o = false) (hline : (apos.endLine == pos.line) = true)
    (h : TriE prog w base k ns env l st (eval o env) fun x st => ∃ n ds y, x = .loc n ∧ st n = some (.list (ds ++ [y])) ∧ ds.length ≤ 1000 ∧ Q y (upd st n (.list ds))) :
    TriE prog w base k ns env l st (eval (.Call (.Attribute o "pop" apos) [] [] pos) env) Q := by
  intro A s QQ EE B F R oo
  refine method_form hlu rfl (by decide) hline (h A s _ EE B F R fun v x st' s' q x₁ R' g => ?_)
  obtain ⟨n, ds, y, rfl, e, hz, q⟩ := q
  cases x₁
  obtain ⟨vs, m, e1, r1⟩ := R'.obj _ _ e
  obtain ⟨ws, u, rfl, r2, x⟩ := r1.snoc
  have hl := r2.length
  refine getMethod_list_of PySem.F.slot_list_pop PySem.F.type_list_pop e1.isList ⟨_, e1, rfl⟩ ?_
  refine callWith_plain (P := fun _ => True) rfl (keeps_val (by intro a q; cases q)) (wpAny_items_nil ⟨trivial, ?_⟩)
  refine call_meets PySem.F.slot_list_pop ⟨_, e1, rfl⟩ PySem.F.entry_list_pop (PySem.F.args_list_pop_1 _) (list_pop_last n (ws ++ [u]).toArray m u (by simp) (by simp; rw [sizeLine_eq]; omega)) ⟨e1, ?_⟩
  obtain ⟨m', e2⟩ := upd_list e1 (fun xs => xs.eraseIdxIfInBounds ((ws ++ [u]).toArray.size - 1))
  have ex : (ws ++ [u]).toArray.eraseIdxIfInBounds ((ws ++ [u]).toArray.size - 1) = ws.toArray := by
    rw [List.eraseIdxIfInBounds_toArray]
    simp [List.eraseIdx_append_of_length_le]
  rw [ex] at e2
  obtain ⟨g1, g2⟩ := turn_list (tk := s'.toks) R' e e1 (Heap.SameBut.update ..) e2 r2
  exact oo _ _ _ _ q (x.keep (g2.tup0 R')) g1 (g.trans g2)

theorem expr_sub {o i : Expr} {pos : Pos} {P : AV → Sto → Prop} {P' : AV → AV → Sto → Prop} (ha : TriE prog w base k ns env l st (eval o env) P) (hb' : ∀ x st₁, P x st₁ → TriE prog w base k ns env l st₁ (eval i env) (P' x))
    (h : ∀ x y st, P' x y st → (∃ ds j v, x = .tup ds ∧ y = .int j ∧ 0 ≤ j ∧ j < 1000 ∧ ds[j.toNat]? = some v ∧ Q v st) ∨
      (∃ a ds j v, x = .loc a ∧ y = .int j ∧ st a = some (.list ds) ∧ 0 ≤ j ∧ j < 1000 ∧ ds[j.toNat]? = some v ∧ Q v st) ∨
      (∃ a ds v, x = .loc a ∧ y = .int (-1) ∧ st a = some (.list (ds ++ [v])) ∧ ds.length ≤ 1000 ∧ Q v st) ∨
      (∃ a es k v, x = .loc a ∧ y = .str k ∧ st a = some (.dict es) ∧ es.lookup k = some v ∧ Q v st)) : TriE prog w base k ns env l st (eval (.Subscript o i pos) env) Q := by
  intro A s QQ EE B F R oo
  exact Subscript_ (TriE.then ha hb' B F R fun v₁ v₂ x y st' s' q x₁ x₂ R' g F' => sub_ok R' x₁ x₂ (h _ _ _ q) (oo.after g))

theorem part_none {st : Sto} {Q : AV → Sto → Prop} (q : Q .none st) : TriE prog w base k ns env l st (evalPart none env) Q := by
  intro A s QQ EE B F R oo
  exact wpAny_pure (oo.now R q .none)

theorem expr_slice {o : Expr} {lo hi : Option Expr} {p pos : Pos} {P : AV → Sto → Prop} {P' : AV → AV → Sto → Prop} {P₃ : AV → AV → AV → Sto → Prop} (ha : TriE prog w base k ns env l st (eval o env) P)
    (hb' : ∀ x st₁, P x st₁ → TriE prog w base k ns env l st₁ (evalPart lo env) (P' x)) (hc : ∀ x y st₁, P' x y st₁ → TriE prog w base k ns env l st₁ (evalPart hi env) (P₃ x y))
    (h : ∀ x y z st, P₃ x y z st → ∃ ds i j, ((∃ a, x = .loc a ∧ st a = some (.list ds)) ∨ x = .ro ds) ∧ cutBounds y z ds.length = some (i, j) ∧ ds.length ≤ 1000 ∧ ∀ n, st n = none → Q (.loc n) (upd st n (.list (cut ds i j)))) :
    TriE prog w base k ns env l st (eval (.Subscript o (.Slice lo hi none p) pos) env) Q := by
  intro A s QQ EE B F R oo
  refine Subscript_ (ha A s _ EE B F R fun v₁ x st₁ s₁ q₁ x₁ R₁ g₁ => ?_)
  have F₁ := F.go R g₁
  refine wpAny_Slice (hb' x st₁ q₁ A s₁ _ EE B F₁ R₁ fun v₂ y st₂ s₂ q₂ x₂ R₂ g₂ => ?_)
  have F₂ := F₁.go R₁ g₂
  refine hc x y st₂ q₂ A s₂ _ EE B F₂ R₂ fun v₃ z st₃ s₃ q₃ x₃ R₃ g₃ => ?_
  refine wpAny_pure (slice_ok R₃ ((x₁.keep (g₂.tup0 R₁)).keep (g₃.tup0 R₂)) (x₂.keep (g₃.tup0 R₂)) x₃ (h x y z st₃ q₃) (oo.after ((g₁.trans g₂).trans g₃)))

theorem expr_rev {o : Expr} {kk : Nat} {p1 p2 p3 pos : Pos} (ha : TriE prog w base k ns env l st (eval o env) fun x st => ∃ a ds, x = .loc a ∧ st a = some (.list ds) ∧ ds.length ≤ 1000 ∧ ∀ n, st n = none → Q (.loc n) (upd st n (.list ds.reverse))) :
    TriE prog w base k ns env l st (eval (.Subscript o (.Slice none none (some (.UnaryOp .USub (.Constant (.int 1) kk p1) p2)) p3) pos) env) Q := by
  intro A s QQ EE B F R oo
  refine Subscript_ (ha A s _ EE B F R fun v₁ x st₁ s₁ q₁ x₁ R₁ g₁ => ?_)
  refine wpAny_Slice (wpAny_pure (wpAny_pure ?_))
  refine wpAny_UnaryOp (wpAny_Constant_int (P.neg_int ?_))
  exact rev_ok (s := { s₁ with toks := s₁.toks + 1 + 1 }) R₁ x₁ q₁ (oo.after (g₁.trans (Go.ext (h := s₁.heap) fun _ _ e => e)))

/-- a dict's display -/
theorem pairs_shape {pos : Pos} : ∀ {ks : List (Option Expr)} {vs : List Expr} {xs : List Str}, keysIn ks = some xs → ks.length = vs.length →
    (evalEachOpt ks env).zip ((evalEach vs env).map fun v => do let x ← v; standAt pos; pure x) = ((xs.map fun x => (mkText x : Sem Value)).zip ((evalEach vs env).map fun v => (do let x ← v; standAt pos; pure x : Sem Value))).map fun p => (some p.1, p.2)
  | [], [], xs, h, _ => by simp [keysIn] at h; subst h; rfl
  | some e :: ks, v :: vs, xs, h, hl => by
    cases e <;> try (simp [keysIn] at h; done)
    rename_i c kk p
    cases c <;> try (simp [keysIn] at h; done)
    rename_i x
    simp only [keysIn, Option.map_eq_some_iff] at h
    obtain ⟨ys, h1, rfl⟩ := h
    have ih := pairs_shape (pos := pos) (vs := vs) h1 (by simpa using hl)
    simp only [arm_evalEachOpt_cons, arm_evalEach_cons, List.map_cons, List.zip_cons_cons]
    rw [ih]; rfl
  | none :: _, _, _, h, _ => by simp [keysIn] at h
  | [], _ :: _, _, _, hl => by simp at hl
  | _ :: _, [], _, _, hl => by simp at hl
theorem keysIn_len : ∀ {ks : List (Option Expr)} {xs : List Str}, keysIn ks = some xs → xs.length = ks.length
  | [], xs, h => by simp [keysIn] at h; subst h; rfl
  | some e :: ks, xs, h => by
    cases e <;> try (simp [keysIn] at h; done)
    rename_i c kk p
    cases c <;> try (simp [keysIn] at h; done)
    simp only [keysIn, Option.map_eq_some_iff] at h
    obtain ⟨ys, h1, rfl⟩ := h
    simp [keysIn_len h1]
  | none :: _, _, h => by simp [keysIn] at h
end
end Mine

end

section
set_option linter.unusedVariables false
set_option linter.unusedSimpArgs false
set_option maxHeartbeats 1000000
namespace Mine
open PySem PySem.W PySem.Calls PyProof.Rows PySem.SeqAt PySem.MeetsSeq
open Sem (wp)

section
variable {prog : Program} {w : World} {hb : Heap} {K : Frag} {mg mb : Str → Option Value} {gl : Str → Option GV} {T : Tab} {k : Nat}
variable {base : Bs} {ns : List Str} {env : Env} {l : Loc} {st : Sto} {s : Shared} {A : Around} {EE : Value → Shared → Prop} {Q : AV → Sto → Prop}

/-- an object that stood beside the store comes into it -/
theorem Go.adopt {X : Addr → Prop} {st st' : Sto} {s s' : Shared} {h : Heap} {tk : Nat} {D : Addr} {o : AO} (g : Go X st st' s s') (hD : s.heap.get? D = none) (k : ∀ b p, b ≠ D → s'.heap.get? b = some p → h.get? b = some p) (hl : h.get? D ≠ none) :
    Go X st (upd st' D o) s { s' with heap := h, toks := tk } := by
  obtain ⟨h', tk', rfl⟩ := g.eq
  have ne : ∀ a, s.heap.get? a ≠ none → a ≠ D := fun a e q => e (by rw [q]; exact hD)
  refine ⟨⟨h, tk, rfl⟩, fun a p e n g' => k a p (ne a (by rw [g']; exact nofun)) (g.pres a p e n g'), fun a e => ?_, fun a e => ?_, fun a e e' => ?_⟩
  · have := g.live a e
    cases q : h'.get? a with
    | none => exact absurd q this
    | some p => rw [k a p (ne a e) q]; exact nofun
  · unfold upd; split
    · exact nofun
    · exact g.grow a e
  · unfold upd at e'
    split at e'
    · rename_i q; subst q; exact hD
    · exact g.fresh a e e'

def PairsOk (prog : Program) (w : World) (hb : Heap) (gl : Str → Option GV) (T : Tab) (k : Nat) (n : Nat) : Prop :=
  ∀ (bad : Addr → Prop) (c : Ctx) (env : Env) (xs : List Str) (es : List Expr) (ms : MEs) (l : Loc) (st : Sto) (Q : List AV → Sto → Prop) (pos : Pos), comps n c es = some ms → CtxOk c env gl → xs.length = es.length → evPs T (CallS prog w hb k) ms l st Q →
    ∀ (A : Around) (s : Shared) (QQ : List (Value × Value) → Shared → Prop) (EE : Value → Shared → Prop), Body k A → Fra c.ns env ⟨hb, bad⟩ l st s.heap → Rel prog w ⟨hb, bad⟩ st s.heap →
      (∀ (vs : List (Value × Value)) ds st' s', Q ds st' → allStrKeys vs = true → (strPairs vs).map (·.1) = xs → VRs ⟨hb, bad⟩ s'.heap ((strPairs vs).map (·.2)) ds → Rel prog w ⟨hb, bad⟩ st' s'.heap → Go noX st st' s s' → QQ vs s') →
      wpAny (model prog w) A (evalPairs ((xs.map fun x => (mkText x : Sem Value)).zip ((evalEach es env).map fun v => (do let x ← v; standAt pos; pure x : Sem Value)))) QQ EE s

theorem evalPairs_cons {M : Model} {a b : Sem Value} {r : List (Sem Value × Sem Value)} {Q : List (Value × Value) → Shared → Prop}
    (h : wpAny M A a (fun x s₁ => wpAny M A b (fun y s₂ => wpAny M A (evalPairs r) (fun vs s₃ => Q ((x, y) :: vs) s₃) EE s₂) EE s₁) EE s) : wpAny M A (evalPairs ((a, b) :: r)) Q EE s := by
  rw [evalPairs]
  first
  | exact wpAny_bind (wpAny_mono h (fun x s₁ h₁ => wpAny_bind (wpAny_holding (wpAny_mono h₁ (fun y s₂ h₂ => wpAny_bind (wpAny_holding (wpAny_mono h₂ (fun vs s₃ h₃ => wpAny_pure h₃) fun _ _ e => e))) fun _ _ e => e))) fun _ _ e => e)

theorem pairs_step {n : Nat} (he : ExprOk prog w hb gl T k n) (hp : PairsOk prog w hb gl T k n) : PairsOk prog w hb gl T k (n + 1) := by
  intro bad c env xs es ms l st Q pos hc ok hl h A s QQ EE B F R o
  cases es with
  | nil =>
    simp only [comps, Option.some.injEq] at hc; subst hc
    cases xs with
    | cons _ _ => simp at hl
    | nil => exact wpAny_pure (o [] [] st s h rfl rfl .nil R (Go.refl _ _ _))
  | cons e r =>
    cases xs with
    | nil => simp at hl
    | cons x xs =>
      simp only [comps] at hc
      split at hc
      · rename_i m ms' h1 h2
        cases hc
        simp only [List.map_cons, arm_evalEach_cons, List.zip_cons_cons]
        refine evalPairs_cons (wpAny_mkText ?_)
        refine wpAny_bind (he bad c env e m l st _ h1 ok h A { s with toks := s.toks + 1 } _ EE B F R fun v d st₁ s₁ q₁ x₁ R₁ g₁ => wpAny_bind (wpAny_standAt (wpAny_pure ?_)))
        have g₁' : Go noX st st₁ s s₁ := (Go.ext (h := s.heap) (tk := s.toks + 1) fun _ _ e => e).trans g₁
        refine hp bad c env xs r ms' l st₁ _ pos h2 ok (by simpa using hl) q₁ A s₁ _ EE B (F.go R g₁') R₁ fun vs ds st₂ s₂ q₂ k1 k2 x₂ R₂ g₂ => ?_
        refine o _ _ _ _ q₂ (by simpa [allStrKeys] using k1) (by simp [strPairs, k2]) ?_ R₂ (g₁'.trans g₂)
        simp only [strPairs, List.map_cons]
        exact .cons (x₁.keep (g₂.tup0 R₁)) x₂
      · cases hc

theorem expr_dict {n : Nat} {c : Ctx} {ks : List (Option Expr)} {vs : List Expr} {xs : List Str} {ms : MEs} {pos : Pos} {bad : Addr → Prop} (hp : PairsOk prog w hb gl T k n) (hk : keysIn ks = some xs) (hc : comps n c vs = some ms) (ok : CtxOk c env gl) 
    (h : evPs T (CallS prog w hb k) ms l st fun ds st => xs.length = ds.length ∧ xs.Nodup ∧ xs.length ≤ 10 ∧ ∀ n, st n = none → Q (.loc n) (upd st n (.dict (xs.zip ds)))) (hlen : xs.length = vs.length) (hne : xs ≠ []) (hten : xs.length ≤ 10) (hnd : xs.Nodup) :
    TriE prog w ⟨hb, bad⟩ k c.ns env l st (eval (.Dict ks vs pos) env) Q := by
  intro A s QQ EE B F R oo
  have hkl := keysIn_len hk
  have hshape := pairs_shape (env := env) (pos := pos) (vs := vs) hk (by omega)
  have zl : ((xs.map fun x => (mkText x : Sem Value)).zip ((evalEach vs env).map fun v => (do let x ← v; standAt pos; pure x : Sem Value))).length ≤ 15 := by
    rw [List.length_zip]; simp; omega
  have evl : ∀ vs : List Expr, (evalEach vs env).length = vs.length := by
    intro vs; induction vs with
    | nil => rfl
    | cons a r ih => simp [arm_evalEach_cons, ih]
  have zne : (xs.map fun x => (mkText x : Sem Value)).zip ((evalEach vs env).map fun v => (do let x ← v; standAt pos; pure x : Sem Value)) ≠ [] := by
    intro q
    have := congrArg List.length q
    rw [List.length_zip] at this
    simp [evl] at this
    rcases this with q | q
    · exact hne q
    · rw [q] at hlen; exact hne (List.eq_nil_of_length_eq_zero (by simpa using hlen))
  refine wpAny_Dict_pairs (knd := strKind prog w) hshape zne zl ?_
  have k0 : ∀ b p, s.heap.get? b = some p → (s.heap.push { cls := .type "dict", data := .dict #[] }).get? b = some p := fun b p e => Heap.get?_push_of_some _ e
  have R0 : Rel prog w ⟨hb, bad⟩ st (s.heap.push { cls := .type "dict", data := .dict #[] }) := R.ext k0
  have g0 : Go noX st st s { s with heap := s.heap.push { cls := .type "dict", data := .dict #[] } } := Go.ext (tk := s.toks) k0
  refine hp bad c env xs vs ms l st _ pos hc ok hlen h A { s with heap := s.heap.push { cls := .type "dict", data := .dict #[] } } _ EE B (F.go (s := s) R g0) R0 fun ps ds st' s' q k1 k2 x R' g => ?_
  obtain ⟨q1, q2, q3, q6⟩ := q
  have dnew : ({ s with heap := s.heap.push { cls := .type "dict", data := .dict #[] } } : Shared).heap.get? s.heap.objs.size = some { cls := .type "dict", data := .dict #[] } := Heap.get?_push_size _ rfl
  have dout : st s.heap.objs.size = none := R.out (size_free _)
  have dnow : s'.heap.get? s.heap.objs.size = some { cls := .type "dict", data := .dict #[] } := g.pres _ _ dout id dnew
  have d0 : s'.heap.DictOf (strKind prog w) s.heap.objs.size [] := ⟨_, #[], 0, dnow, ⟨rfl, rfl, rfl⟩, rfl, fun e he => by simp at he, .nil, List.nodup_nil⟩
  have st'out : st' s.heap.objs.size = none := by
    cases z : st' s.heap.objs.size with
    | none => rfl
    | some p => have := g.fresh _ dout (by rw [z]; exact nofun); rw [this] at dnew; cases dnew
  refine display_done_str k1 (by rw [k2]; exact hnd) d0 fun h' hd' hs => ?_
  have kk : ∀ b p, b ≠ s.heap.objs.size → s'.heap.get? b = some p → h'.get? b = some p := fun b p hb hp => (hs.2 b hb).trans hp
  have tk' : TupKeep ⟨hb, bad⟩ s'.heap h' := fun b us m _ e => kk b _ (fun q => by subst q; rw [dnow] at e; have := congrArg (fun o : Option Obj => o.map Obj.cls) e; simp at this) e
  have hlen2 : xs.length = ds.length := q1
  have e1 : (strPairs ps).map (·.1) = (xs.zip ds).map (·.1) := by rw [k2, List.map_fst_zip (by omega)]
  have e2 : VRs ⟨hb, bad⟩ h' ((strPairs ps).map (·.2)) ((xs.zip ds).map (·.2)) := by rw [List.map_snd_zip (by omega)]; exact x.keep tk'
  refine oo _ _ _ _ (q6 _ st'out) (.loc _) (R'.at (R.free (size_free _)) kk tk' ⟨_, hd', e1, e2⟩) ((g0.trans g).adopt (size_free _) kk ?_)
  obtain ⟨p, _, _, hp', _⟩ := hd'
  rw [hp']; exact nofun
end
end Mine

end

section
set_option linter.unusedVariables false
set_option linter.unusedSimpArgs false
set_option maxHeartbeats 1000000
namespace Mine
open PySem PySem.W PySem.Calls PyProof.Rows PySem.SeqAt PySem.MeetsSeq
open Sem (wp)

section
variable {prog : Program} {w : World} {hb h h' : Heap} {bad W X : Addr → Prop} {st st' : Sto} {ns : List Str} {env : Env} {l : Loc}

/-- what is kept beside W -/
def But (W : Addr → Prop) (h h' : Heap) : Prop := ∀ b o, ¬ W b → h.get? b = some o → h'.get? b = some o
theorem But.of (k : ∀ b o, h.get? b = some o → h'.get? b = some o) : But W h h' := fun b o _ e => k b o e

mutual
theorem VR.widen (k : ∀ a, W a → h.get? a = none) : ∀ {v : Value} {d : AV}, VR ⟨hb, bad⟩ h v d → VR ⟨hb, fun a => bad a ∨ W a⟩ h v d
  | _, _, .none => .none
  | _, _, .bool b => .bool b
  | _, _, .int i t => .int i t
  | _, _, .str x t => .str x t
  | _, _, .tup hn e r => .tup (fun q => q.elim hn fun q => by have := k _ q; rw [this] at e; cases e) e (VRs.widen k r)
  | _, _, .loc a => .loc a
  | _, _, .ro e r => .ro e (VRs.widen k r)
theorem VRs.widen (k : ∀ a, W a → h.get? a = none) : ∀ {vs : List Value} {ds : List AV}, VRs ⟨hb, bad⟩ h vs ds → VRs ⟨hb, fun a => bad a ∨ W a⟩ h vs ds
  | _, _, .nil => .nil
  | _, _, .cons a r => .cons (VR.widen k a) (VRs.widen k r)
end
mutual
theorem VR.leave (k : But W h h') : ∀ {v : Value} {d : AV}, VR ⟨hb, fun a => bad a ∨ W a⟩ h v d → VR ⟨hb, bad⟩ h' v d
  | _, _, .none => .none
  | _, _, .bool b => .bool b
  | _, _, .int i t => .int i t
  | _, _, .str x t => .str x t
  | _, _, .tup hn e r => .tup (fun q => hn (.inl q)) (k _ _ (fun q => hn (.inr q)) e) (VRs.leave k r)
  | _, _, .loc a => .loc a
  | _, _, .ro e r => .ro e (VRs.leave k r)
theorem VRs.leave (k : But W h h') : ∀ {vs : List Value} {ds : List AV}, VRs ⟨hb, fun a => bad a ∨ W a⟩ h vs ds → VRs ⟨hb, bad⟩ h' vs ds
  | _, _, .nil => .nil
  | _, _, .cons a r => .cons (VR.leave k a) (VRs.leave k r)
end
theorem OR.widen (k : ∀ a, W a → h.get? a = none) {a : Addr} {o : AO} (x : OR prog w ⟨hb, bad⟩ h a o) : OR prog w ⟨hb, fun a => bad a ∨ W a⟩ h a o := by
  cases o with
  | list ds => obtain ⟨vs, n, e, r⟩ := x; exact ⟨vs, n, e, r.widen k⟩
  | dict es => obtain ⟨kvs, e, t, r⟩ := x; exact ⟨kvs, e, t, r.widen k⟩
  | inst C d => exact x
theorem OR.leave (k : But W h h') {a : Addr} {o : AO} (hw : ¬ W a) (x : OR prog w ⟨hb, fun a => bad a ∨ W a⟩ h a o) : OR prog w ⟨hb, bad⟩ h' a o := by
  cases o with
  | list ds => obtain ⟨vs, n, e, r⟩ := x; exact ⟨vs, n, k _ _ hw e, r.leave k⟩
  | dict es => obtain ⟨kvs, ⟨o, es', ep, q, rr⟩, t, r⟩ := x; exact ⟨kvs, ⟨o, es', ep, k _ _ hw q, rr⟩, t, r.leave k⟩
  | inst C d => exact k _ _ hw x

theorem Rel.enter (R : Rel prog w ⟨hb, bad⟩ st h) (k : ∀ b o, h.get? b = some o → h'.get? b = some o) (fresh : ∀ a, W a → h.get? a = none) (live : ∀ a, W a → h'.get? a ≠ none) : Rel prog w ⟨hb, fun a => bad a ∨ W a⟩ st h' := by
  have R' := R.ext k
  refine ⟨fun a o e => ?_, R'.new, R'.keep, fun a e => ?_⟩
  · have x := (R.obj a o e).widen fresh
    obtain ⟨p, hp, _⟩ := x.data
    exact x.keep (TupKeep.of k) (by rw [k _ _ hp, hp])
  · rcases e with e | e
    · exact R'.bad a e
    · refine ⟨?_, live a e⟩
      cases q : hb.get? a with
      | none => rfl
      | some o => have := R.keep a o q; rw [fresh a e] at this; cases this
theorem Rel.leave (R : Rel prog w ⟨hb, fun a => bad a ∨ W a⟩ st h) (k : But W h h') (out : ∀ a, W a → st a = none) (dis : ∀ a, bad a → ¬ W a) : Rel prog w ⟨hb, bad⟩ st h' := by
  refine ⟨fun a o e => (R.obj a o e).leave k (fun q => by rw [out a q] at e; cases e), R.new, fun a o e => k _ _ (fun q => by have := (R.bad a (.inr q)).1; rw [this] at e; cases e) (R.keep a o e), fun a e => ⟨(R.bad a (.inl e)).1, fun q => ?_⟩⟩
  cases z : h.get? a with
  | none => exact (R.bad a (.inl e)).2 z
  | some p => rw [k a p (dis a e) z] at q; cases q
theorem Fra.enter (F : Fra ns env ⟨hb, bad⟩ l st h) (k : ∀ b o, h.get? b = some o → h'.get? b = some o) (fresh : ∀ a, W a → h.get? a = none) : Fra ns env ⟨hb, fun a => bad a ∨ W a⟩ l st h' := by
  obtain ⟨m, ⟨oL, es, ep, ho, hd, hk, hf⟩, hl⟩ := F.locs
  have kk : TupKeep ⟨hb, fun a => bad a ∨ W a⟩ h h' := TupKeep.of k
  refine ⟨F.kind, F.glob, F.blt, ⟨m, ⟨oL, es, ep, k _ _ ho, hd, hk, hf⟩, fun i x d a b c => ?_⟩, fun i x a b => ?_, F.apart, fun x c e => ?_, F.cinj⟩
  · obtain ⟨v, h1, h2⟩ := hl i x d a b c
    exact ⟨v, h1, (h2.widen fresh).keep kk⟩
  · obtain ⟨c, cv, h1, ⟨o, ho, hd⟩, h3⟩ := F.cells i x a b
    refine ⟨c, cv, h1, ⟨o, k _ _ ho, hd⟩, fun d e => ?_⟩
    obtain ⟨v, q1, q2⟩ := h3 d e
    exact ⟨v, q1, (q2.widen fresh).keep kk⟩
  · obtain ⟨h1, h2, cv, o, ho, hd⟩ := F.capart x c e
    exact ⟨h1, h2, cv, o, k _ _ ho, hd⟩
theorem Fra.leave (F : Fra ns env ⟨hb, fun a => bad a ∨ W a⟩ l st h) (k : But W h h') (dis : ∀ a, frX env a → ¬ W a) : Fra ns env ⟨hb, bad⟩ l st h' := by
  obtain ⟨m, ⟨oL, es, ep, ho, hd, hk, hf⟩, hl⟩ := F.locs
  refine ⟨F.kind, F.glob, F.blt, ⟨m, ⟨oL, es, ep, k _ _ (dis _ (.inl rfl)) ho, hd, hk, hf⟩, fun i x d a b c => ?_⟩, fun i x a b => ?_, F.apart, fun x c e => ?_, F.cinj⟩
  · obtain ⟨v, h1, h2⟩ := hl i x d a b c
    exact ⟨v, h1, h2.leave k⟩
  · obtain ⟨c, cv, h1, ⟨o, ho, hd⟩, h3⟩ := F.cells i x a b
    refine ⟨c, cv, h1, ⟨o, k _ _ (dis _ (.inr ⟨x, h1⟩)) ho, hd⟩, fun d e => ?_⟩
    obtain ⟨v, q1, q2⟩ := h3 d e
    exact ⟨v, q1, q2.leave k⟩
  · obtain ⟨h1, h2, cv, o, ho, hd⟩ := F.capart x c e
    exact ⟨h1, h2, cv, o, k _ _ (dis _ (.inr ⟨x, e⟩)) ho, hd⟩
/-- the end of a loop: W's objects are nobody's -/
theorem Go.leave {s s' : Shared} {tk : Nat} (g : Go (fun a => X a ∨ W a) st st' s s') (fresh : ∀ a, W a → s.heap.get? a = none) (k : But W s'.heap h') : Go X st st' s { s' with heap := h', toks := tk } := by
  obtain ⟨hh, tk', rfl⟩ := g.eq
  have nw : ∀ a, s.heap.get? a ≠ none → ¬ W a := fun a e q => e (fresh a q)
  refine ⟨⟨h', tk, rfl⟩, fun a o e n q => k a o (nw a (by rw [q]; exact nofun)) (g.pres a o e (fun z => z.elim n (nw a (by rw [q]; exact nofun))) q), fun a e => ?_, g.grow, g.fresh⟩
  cases z : hh.get? a with
  | none => exact absurd z (g.live a e)
  | some p => rw [show ({ s with heap := h', toks := tk } : Shared).heap = h' from rfl, k a p (nw a e) z]; exact nofun
theorem Go.but {s : Shared} {tk : Nat} (k : But W s.heap h') (live : ∀ a, W a → h'.get? a ≠ none) : Go W st st s { s with heap := h', toks := tk } := by
  refine ⟨⟨h', tk, rfl⟩, fun a o _ n e => k a o n e, fun a e => ?_, fun _ e => e, fun _ e e' => absurd e e'⟩
  by_cases q : W a
  · exact live a q
  · cases z : s.heap.get? a with
    | none => exact absurd z e
    | some p => rw [show ({ s with heap := h', toks := tk } : Shared).heap = h' from rfl, k a p q z]; exact nofun
/-- objects beside the store, turned or new -/
theorem Rel.off {base : Bs} (R : Rel prog w base st h) (k : But X h h') (t : TupKeep base h h') (out : ∀ a, X a → st a = none) (nb : ∀ a, X a → base.heap.get? a = none) (live : ∀ a, X a → h'.get? a ≠ none) : Rel prog w base st h' := by
  have ne : ∀ a o, st a = some o → ¬ X a := fun a o e q => by rw [out a q] at e; cases e
  refine ⟨fun a o e => ?_, R.new, fun a o e => k _ _ (fun q => by rw [nb a q] at e; cases e) (R.keep a o e), fun a e => ⟨(R.bad a e).1, fun q => ?_⟩⟩
  · have x := R.obj a o e
    obtain ⟨p, hp, _⟩ := x.data
    exact x.keep t (by rw [k _ _ (ne a o e) hp, hp])
  · by_cases z : X a
    · exact live a z q
    · cases y : h.get? a with
      | none => exact (R.bad a e).2 y
      | some p => rw [k _ _ z y] at q; cases q
theorem Go.tupB {base : Bs} {s s' : Shared} (R : Rel prog w base st s.heap) (g : Go X st st' s s') (hX : ∀ a, X a → base.bad a) : TupKeep base s.heap s'.heap :=
  fun a vs n nb e => g.pres a _ (R.notTup e) (fun q => nb (hX a q)) e
theorem Go.out {s s' : Shared} (g : Go X st st' s s') {a : Addr} {o : Obj} (e : st a = none) (e' : s.heap.get? a = some o) : st' a = none := by
  cases q : st' a with
  | none => rfl
  | some p => have := g.fresh a e (by rw [q]; exact nofun); rw [this] at e'; cases e'
theorem Go.outL {s s' : Shared} (g : Go X st st' s s') {a : Addr} (e : st a = none) (e' : s.heap.get? a ≠ none) : st' a = none := by
  cases q : s.heap.get? a with
  | none => exact absurd q e'
  | some o => exact g.out e q
theorem Fra.goX {base : Bs} {s s' : Shared} (F : Fra ns env base l st s.heap) (R : Rel prog w base st s.heap) (g : Go X st st' s s') (hX : ∀ a, X a → base.bad a) (hd : ∀ a, frX env a → ¬ X a) : Fra ns env base l st' s'.heap := by
  have tk := g.tupB R hX
  obtain ⟨m, hm, hl⟩ := F.locs
  obtain ⟨oL, es, ep, ho, hd', hk, hf⟩ := hm
  refine ⟨F.kind, F.glob, F.blt, ⟨m, ⟨oL, es, ep, g.pres _ _ F.apart.1 (hd _ (.inl rfl)) ho, hd', hk, hf⟩, fun i x d a b c => ?_⟩, fun i x a b => ?_, ⟨g.out F.apart.1 ho, F.apart.2⟩, fun x c e => ?_, F.cinj⟩
  · obtain ⟨v, h1, h2⟩ := hl i x d a b c
    exact ⟨v, h1, h2.keep tk⟩
  · obtain ⟨c, cv, h1, ⟨o, ho, hd'⟩, h3⟩ := F.cells i x a b
    refine ⟨c, cv, h1, ⟨o, g.pres _ _ (F.capart x c h1).1 (hd _ (.inr ⟨x, h1⟩)) ho, hd'⟩, fun d e => ?_⟩
    obtain ⟨v, q1, q2⟩ := h3 d e
    exact ⟨v, q1, q2.keep tk⟩
  · obtain ⟨h1, h2, cv, o, ho, hd'⟩ := F.capart x c e
    exact ⟨g.out h1 ho, h2, cv, o, g.pres _ _ h1 (hd _ (.inr ⟨x, e⟩)) ho, hd'⟩
end

section
variable {prog : Program} {w : World} {base : Bs} {ns : List Str} {env : Env} {l : Loc} {st : Sto} {s : Shared} {A : Around} {EE : Value → Shared → Prop}
/-- where a name's value lies -/
def stX (env : Env) (x : Str) : Addr → Prop := fun a => (env.kindOf x = some .local ∧ a = env.locals) ∨ (env.kindOf x = some .cell ∧ env.cells.lookup x = some a)
theorem stX_frX {x : Str} {a : Addr} (h : stX env x a) : frX env a := h.elim (fun h => .inl h.2) (fun h => .inr ⟨x, h.2⟩)
/-- a local name stored -/
theorem store_ok {x : Str} {i : Nat} {v : Value} {d : AV} {QQ : Unit → Shared → Prop} (F : Fra ns env base l st s.heap) (R : Rel prog w base st s.heap) (nd : ns.Nodup) (hi : ns[i]? = some x) (hk : env.kindOf x = some .local ∨ env.kindOf x = some .cell)
    (hv : VR base s.heap v d) (o : ∀ s', Fra ns env base (put l i d) st s'.heap → Rel prog w base st s'.heap → Go (stX env x) st st s s' → TupKeep base s.heap s'.heap → QQ () s') : wpAny (model prog w) A (storeName env x v) QQ EE s := by
  have inj : ∀ j y, ns[j]? = some y → y = x → j = i := fun j y e q => by
    subst q
    obtain ⟨h1, h2⟩ := List.getElem?_eq_some_iff.mp e
    obtain ⟨h3, h4⟩ := List.getElem?_eq_some_iff.mp hi
    exact (List.getElem_inj nd).mp (h2.trans h4.symm)
  have fin : ∀ (h' : Heap) (a : Addr), frX env a → h'.get? a ≠ none → Heap.SameBut a s.heap h' → But (· = a) s.heap h' ∧ TupKeep base s.heap h' ∧ (∀ b, b = a → h'.get? b ≠ none) := by
    intro h' a ha hl hs
    exact ⟨fun b o hb e => (hs.2 b hb).trans e, fun b us n _ e => (hs.2 b (fun q => fr_notTup F a us n ha (by rw [← q]; exact e))).trans e, fun b hb => by subst hb; exact hl⟩
  have outs : ∀ a, frX env a → st a = none ∧ base.heap.get? a = none := by
    rintro a (rfl | ⟨y, hy⟩)
    · exact F.apart
    · exact ⟨(F.capart y a hy).1, (F.capart y a hy).2.1⟩
  obtain ⟨m, hm, hl⟩ := F.locs
  rcases hk with hk | hk
  · refine wpAny_storeName_local hk hm (fun h' hn hs => ?_) (by simp [F.kind])
    obtain ⟨oL, es, ep, ho, hd, hkk, hf⟩ := id hn
    obtain ⟨k1, k2, k3⟩ := fin h' env.locals (.inl rfl) (by rw [ho]; exact nofun) hs
    have cl : ∀ y c, env.cells.lookup y = some c → c ≠ env.locals := by
      rintro y c hy rfl
      obtain ⟨_, _, cv, o, ho, hd⟩ := F.capart y _ hy
      obtain ⟨o', _, _, ho', hd', _⟩ := hm
      rw [ho] at ho'; cases ho'; rw [hd] at hd'; cases hd'
    refine o _ ⟨F.kind, F.glob, F.blt, ⟨_, hn, fun j y e a b c => ?_⟩, fun j y a b => ?_, F.apart, fun y c e => ?_, F.cinj⟩ (R.off k1 k2 (fun a q => (outs a (q ▸ .inl rfl)).1) (fun a q => (outs a (q ▸ .inl rfl)).2) k3) ((Go.but k1 k3).weaken fun a q => .inl ⟨hk, q⟩) k2
    · by_cases q : y = x
      · have := inj j y a q; subst this
        simp only [put, if_true] at c; cases c
        exact ⟨v, by simp [q], hv.keep k2⟩
      · have hj : j ≠ i := fun z => by subst z; rw [hi] at a; cases a; exact q rfl
        simp only [put, if_neg hj] at c
        obtain ⟨u, h1, h2⟩ := hl j y e a b c
        exact ⟨u, by simp only [if_neg q]; exact h1, h2.keep k2⟩
    · obtain ⟨c, cv, h1, h2, h3⟩ := F.cells j y a b
      have hj : j ≠ i := fun z => by subst z; rw [hi] at a; cases a; rw [hk] at b; cases b
      refine ⟨c, cv, h1, h2.sameBut hs (cl y c h1), fun d' e => ?_⟩
      simp only [put, if_neg hj] at e
      obtain ⟨u, q1, q2⟩ := h3 d' e
      exact ⟨u, q1, q2.keep k2⟩
    · obtain ⟨h1, h2, cv, h3⟩ := F.capart y c e
      exact ⟨h1, h2, cv, h3.sameBut hs (cl y c e)⟩
  · obtain ⟨c, cv, h1, h2, h3⟩ := F.cells i x hi hk
    refine wpAny_storeName_cell F.kind hk h1 h2 (fun h' hc hs => ?_)
    obtain ⟨oc, hoc, hdc⟩ := id hc
    obtain ⟨k1, k2, k3⟩ := fin h' c (.inr ⟨x, h1⟩) (by rw [hoc]; exact nofun) hs
    have cl : env.locals ≠ c := by
      rintro rfl
      obtain ⟨o, ho, hd⟩ := h2
      obtain ⟨o', _, _, ho', hd', _⟩ := hm
      rw [ho] at ho'; cases ho'; rw [hd] at hd'; cases hd'
    refine o { s with heap := h' } ⟨F.kind, F.glob, F.blt, ⟨m, hm.sameBut hs cl, fun j y e a b cc => ?_⟩, fun j y a b => ?_, F.apart, fun y c' e => ?_, F.cinj⟩ (R.off k1 k2 (fun a q => (outs a (q ▸ .inr ⟨x, h1⟩)).1) (fun a q => (outs a (q ▸ .inr ⟨x, h1⟩)).2) k3) ((Go.but (tk := s.toks) k1 k3).weaken fun a q => .inr ⟨hk, q ▸ h1⟩) k2
    · have hj : j ≠ i := fun z => by subst z; rw [hi] at a; cases a; rw [hk] at b; cases b
      simp only [put, if_neg hj] at cc
      obtain ⟨u, h1, h2⟩ := hl j y e a b cc
      exact ⟨u, h1, h2.keep k2⟩
    · by_cases q : y = x
      · have := inj j y a q; subst this
        subst q
        refine ⟨c, some v, h1, hc, fun d' e => ?_⟩
        simp only [put, if_true] at e; cases e
        exact ⟨v, rfl, hv.keep k2⟩
      · have hj : j ≠ i := fun z => by subst z; rw [hi] at a; cases a; exact q rfl
        obtain ⟨c', cv', g1, g2, g3⟩ := F.cells j y a b
        have hcc : c' ≠ c := fun z => q (F.cinj y x c (z ▸ g1) h1)
        refine ⟨c', cv', g1, g2.sameBut hs hcc, fun d' e => ?_⟩
        simp only [put, if_neg hj] at e
        obtain ⟨u, q1, q2⟩ := g3 d' e
        exact ⟨u, q1, q2.keep k2⟩
    · obtain ⟨g1, g2, cv', g3⟩ := F.capart y c' e
      by_cases q : c' = c
      · subst q; exact ⟨g1, g2, _, hc⟩
      · exact ⟨g1, g2, cv', g3.sameBut hs q⟩
end
end Mine

end

section
set_option linter.unusedVariables false
set_option linter.unusedSimpArgs false
set_option maxHeartbeats 1000000
namespace Mine
open PySem PySem.W PySem.Calls PyProof.Rows PySem.SeqAt PySem.MeetsSeq
open Sem (wp)

section
variable {prog : Program} {w : World} {base : Bs} {c : Ctx} {env : Env} {gl : Str → Option GV} {l : Loc} {st : Sto} {s : Shared} {A : Around} {EE : Value → Shared → Prop}

inductive Stores (prog : Program) (w : World) (env : Env) : List (Value → Sem Unit) → List Str → Prop
  | nil : Stores prog w env [] []
  | cons {t : Value → Sem Unit} {x : Str} {ts : List (Value → Sem Unit)} {xs : List Str} (h : ∀ (A : Around) (v : Value) (Q : Unit → Shared → Prop) (E : Value → Shared → Prop) (s : Shared), wpAny (model prog w) A (storeName env x v) Q E s → wpAny (model prog w) A (t v) Q E s) :
      Stores prog w env ts xs → Stores prog w env (t :: ts) (x :: xs)

theorem frX_go {X : Addr → Prop} (h : ∀ a, frX env a → X a) {st st' : Sto} {s s' : Shared} (g : Go (frX env) st st' s s') : Go X st st' s s' := g.weaken h

theorem assign_all {X : Addr → Prop} (ok : CtxOk c env gl) : ∀ {xs : List Str} {is : List Nat} {ds : List AV} {vs : List Value} {ts : List (Value → Sem Unit)} {l l' : Loc} {s : Shared} {QQ : Unit → Shared → Prop},
    varsIn c xs = some is → (∀ y ∈ xs, ∀ a, stX env y a → X a) → Stores prog w env ts xs → putAll is ds l = some l' → VRs base s.heap vs ds → Fra c.ns env base l st s.heap → Rel prog w base st s.heap →
    (∀ s', Fra c.ns env base l' st s'.heap → Rel prog w base st s'.heap → Go X st st s s' → TupKeep base s.heap s'.heap → QQ () s') → wpAny (model prog w) A (assignInOrder ts vs) QQ EE s
  | [], is, ds, vs, ts, l, l', s, QQ, h1, hX, h2, h3, h4, F, R, o => by
    cases h2
    simp only [varsIn, Option.some.injEq] at h1; subst h1
    cases ds with
    | cons _ _ => simp [putAll] at h3
    | nil =>
      simp only [putAll, Option.some.injEq] at h3; subst h3
      cases h4
      exact PyProof.Rows.assignInOrder_nil (o s F R (Go.refl _ _ _) (TupKeep.refl _ _))
  | x :: xs, is, ds, vs, ts, l, l', s, QQ, h1, hX, h2, h3, h4, F, R, o => by
    cases h2 with
    | cons ht h2 =>
      simp only [varsIn] at h1
      split at h1
      · rename_i i is' e1 e2
        cases h1
        cases ds with
        | nil => simp [putAll] at h3
        | cons d ds =>
          simp only [putAll] at h3
          cases h4 with
          | cons hv h4 =>
            obtain ⟨n1, n2⟩ := var_of ok e1
            refine PyProof.Rows.assignInOrder_cons (ht _ _ _ _ _ (store_ok F R ok.nd n1 n2 hv fun s₁ F₁ R₁ g₁ k₁ => ?_))
            exact assign_all ok e2 (fun y hy => hX y (List.mem_cons_of_mem _ hy)) h2 h3 (h4.keep k₁) F₁ R₁ fun s₂ F₂ R₂ g₂ k₂ => o s₂ F₂ R₂ ((g₁.weaken (hX x (List.mem_cons_self ..))).trans g₂) (k₁.trans k₂)
      · cases h1

theorem names_stores : ∀ {es : List Expr} {xs : List Str}, namesIn es = some xs → Stores prog w env ((assignEach es env).map (·.2)) xs ∧ (assignEach es env).length = es.length ∧ (assignEach es env).findIdx? (·.1) = none ∧ xs.length = es.length
  | [], xs, h => by simp [namesIn] at h; subst h; exact ⟨.nil, rfl, rfl, rfl⟩
  | e :: es, xs, h => by
    cases e <;> try (simp [namesIn] at h; done)
    rename_i x p
    simp only [namesIn, Option.map_eq_some_iff] at h
    obtain ⟨ys, h1, rfl⟩ := h
    obtain ⟨i1, i2, i3, i4⟩ := names_stores h1
    have e : assignEach (.Name x p :: es) env = (false, assign (.Name x p) env) :: assignEach es env := rfl
    rw [e]
    refine ⟨.cons (fun A v Q E s h => wpAny_assign_Name h) i1, by simp [i2], ?_, by simp [i4]⟩
    rw [List.findIdx?_cons]; simp [i3]

theorem putAll_len : ∀ {is : List Nat} {ds : List AV} {l l' : Loc}, putAll is ds l = some l' → ds.length = is.length
  | [], [], _, _, _ => rfl
  | [], _ :: _, _, _, h => by simp [putAll] at h
  | _ :: _, [], _, _, h => by simp [putAll] at h
  | i :: is, d :: ds, l, l', h => by simp only [putAll] at h; simp [putAll_len h]
theorem varsIn_len : ∀ {xs : List Str} {is : List Nat}, varsIn c xs = some is → is.length = xs.length
  | [], _, h => by simp [varsIn] at h; subst h; rfl
  | x :: xs, is, h => by
    simp only [varsIn] at h
    split at h
    · rename_i e1 e2; cases h; simp [varsIn_len e2]
    · cases h

/-- a tuple's items into names -/
theorem assign_tup {X : Addr → Prop} {es : List Expr} {xs : List Str} {is : List Nat} {ds : List AV} {v : Value} {k : Nat} {pos : Pos} {l' : Loc} {QQ : Unit → Shared → Prop} (hh : A.handled = none) (ok : CtxOk c env gl) (hn : namesIn es = some xs) (hv : varsIn c xs = some is) (hX : ∀ y ∈ xs, ∀ a, stX env y a → X a)
    (hp : putAll is ds l = some l') (x : VR base s.heap v (.tup ds)) (F : Fra c.ns env base l st s.heap) (R : Rel prog w base st s.heap)
    (o : ∀ s', Fra c.ns env base l' st s'.heap → Rel prog w base st s'.heap → Go X st st s s' → QQ () s') : wpAny (model prog w) A (assign (.Tuple es k pos) env v) QQ EE s := by
  obtain ⟨a, vs, n, rfl, e1, r1⟩ := x.ofTup
  obtain ⟨i1, i2, i3, i4⟩ := names_stores (prog := prog) (w := w) (env := env) hn
  have l1 := putAll_len hp
  have l2 := varsIn_len hv
  have l3 := r1.length
  refine wpAny_assign_Tuple hh (items := vs.toArray) ⟨_, e1, rfl, _, rfl⟩ (by simp; omega) i3 fun h' he => ?_
  have k : ∀ b o, s.heap.get? b = some o → h'.get? b = some o := fun b o e => he b o (Nat.ne_of_lt (Heap.lt_size e)) e
  have g : Go noX st st s { s with heap := h' } := Go.ext (tk := s.toks) k
  refine assign_all ok hv hX i1 hp (by simpa using r1.keep (TupKeep.of k)) (F.go R g) (R.ext k) fun s' F' R' g' _ => o s' F' R' ((g.weaken fun _ q => q.elim).trans g')

/-- a loop's target -/
def tgX (env : Env) (tg : Expr) : Addr → Prop := match tg with
  | .Name x _ => stX env x
  | .Tuple es _ _ => fun a => ∃ xs, namesIn es = some xs ∧ ∃ y ∈ xs, stX env y a
  | _ => fun _ => False
theorem tgX_frX {tg : Expr} {a : Addr} (h : tgX env tg a) : frX env a := by
  cases tg <;> try exact False.elim h
  · exact stX_frX h
  · obtain ⟨_, _, y, _, h⟩ := h; exact stX_frX h
theorem assign_ok {tg : Expr} {is : List Nat} {d : AV} {v : Value} {l' : Loc} {QQ : Unit → Shared → Prop} (hh : A.handled = none) (ok : CtxOk c env gl) (ht : targets c tg = some is)
    (hp : bindT is d l = some l') (x : VR base s.heap v d) (F : Fra c.ns env base l st s.heap) (R : Rel prog w base st s.heap)
    (o : ∀ s', Fra c.ns env base l' st s'.heap → Rel prog w base st s'.heap → Go (tgX env tg) st st s s' → QQ () s') : wpAny (model prog w) A (assign tg env v) QQ EE s := by
  cases tg <;> try (simp [targets] at ht; done)
  · rename_i y p
    simp only [targets, Option.map_eq_some_iff] at ht
    obtain ⟨i, e, rfl⟩ := ht
    simp only [bindT, Option.some.injEq] at hp; subst hp
    obtain ⟨n1, n2⟩ := var_of ok e
    exact wpAny_assign_Name (store_ok F R ok.nd n1 n2 x fun s' F' R' g _ => o s' F' R' g)
  · rename_i es k p
    simp only [targets] at ht
    split at ht
    · rename_i y z e
      split at ht
      · cases ht
      · have hl := varsIn_len ht
        match is, hl, d, hp with
        | [i, j], _, .tup ds, hp => exact assign_tup hh ok e ht (fun u hu a ha => ⟨_, e, u, hu, ha⟩) (by simpa [bindT] using hp) x F R o
        | [i, j], _, .none, hp => simp [bindT] at hp
        | [i, j], _, .bool _, hp => simp [bindT] at hp
        | [i, j], _, .int _, hp => simp [bindT] at hp
        | [i, j], _, .str _, hp => simp [bindT] at hp
        | [i, j], _, .loc _, hp => simp [bindT] at hp
        | [i, j], _, .ro _, hp => simp [bindT] at hp
    · cases ht
theorem target_form {tg : Expr} {is : List Nat} (ht : targets c tg = some is) : (is.length = 1 ∧ ∃ x p, tg = .Name x p) ∨ (is.length = 2 ∧ ∃ es k p, tg = .Tuple es k p) := by
  cases tg <;> try (simp [targets] at ht; done)
  · simp only [targets, Option.map_eq_some_iff] at ht
    obtain ⟨i, e, rfl⟩ := ht
    exact .inl ⟨rfl, _, _, rfl⟩
  · simp only [targets] at ht
    split at ht
    · split at ht
      · cases ht
      · exact .inr ⟨varsIn_len ht, _, _, _, rfl⟩
    · cases ht
end

def pairsR : It → Bool
  | .enum _ => true
  | .zip _ _ => true
  | _ => false
/-- an iterator's objects, all of them W's -/
def ItR (W : Addr → Prop) (r : It) (i : Nat) (v : Value) (h : Heap) : Prop := match r with
  | .list a => ∃ I, v = .ref I ∧ W I ∧ h.IsListIter I a i
  | .enum a => ∃ e J old, v = .ref e ∧ W e ∧ W J ∧ e ≠ J ∧ IsEnum h e J i old ∧ h.IsListIter J a i
  | .zip a b => ∃ z TI TO i1 i2, v = .ref z ∧ (W z ∧ W TI ∧ W TO ∧ W i1 ∧ W i2) ∧ ZipApart z TI TO i1 i2 a b ∧ IsZip h z TI TO .none ∧ IsPair h TI (.ref i1) (.ref i2) ∧ (∃ x y, IsPair h TO x y) ∧ h.IsListIter i1 a i ∧ h.IsListIter i2 b i
  | .range a b => ∃ I, v = .ref I ∧ W I ∧ IsRangeIter h I (a + i) ((if a < b then b - a else 0) - i) 1
theorem ItR.keep {W : Addr → Prop} {r : It} {i : Nat} {v : Value} {h h' : Heap} (x : ItR W r i v h) (k : ∀ a o, W a → h.get? a = some o → h'.get? a = some o) : ItR W r i v h' := by
  cases r with
  | list a => obtain ⟨I, e, hw, hi⟩ := x; exact ⟨I, e, hw, hi.at fun o => k I o hw⟩
  | enum a => obtain ⟨e, J, old, e1, w1, w2, ne, he, hi⟩ := x; exact ⟨e, J, old, e1, w1, w2, ne, k _ _ w1 he, hi.at fun o => k J o w2⟩
  | zip a b =>
    obtain ⟨z, TI, TO, i1, i2, e, ⟨w1, w2, w3, w4, w5⟩, D, hz, h1, ⟨x, y, h2⟩, h3, h4⟩ := x
    exact ⟨z, TI, TO, i1, i2, e, ⟨w1, w2, w3, w4, w5⟩, D, k _ _ w1 hz, k _ _ w2 h1, ⟨x, y, k _ _ w3 h2⟩, h3.at fun o => k i1 o w4, h4.at fun o => k i2 o w5⟩
  | range a b => obtain ⟨I, e, hw, hi⟩ := x; exact ⟨I, e, hw, k _ _ hw hi⟩
end Mine

end

section
set_option linter.unusedVariables false
set_option linter.unusedSimpArgs false
set_option maxHeartbeats 1000000
namespace Mine
open PySem PySem.W PySem.Calls PyProof.Rows PySem.SeqAt PySem.MeetsSeq
open Sem (wp)

section
variable {prog : Program} {w : World} {base : Bs} {W : Addr → Prop} {st : Sto} {s : Shared} {A : Around} {EE : Value → Shared → Prop}

theorem it_live {h : Heap} {o : Obj} {a : Addr} (e : h.get? a = some o) : h.get? a ≠ none := by rw [e]; exact nofun

/-- a turn: the next item, or the end -/
theorem it_turn {tg : Expr} {r : It} {i : Nat} {v : Value} {x : Option AV} {N : Shared → Prop} {P : Value → Shared → Prop} (hh : A.handled = none) (I : ItR W r i v s.heap) (R : Rel prog w base st s.heap) (hWb : ∀ a, W a → base.bad a) (hWo : ∀ a, W a → st a = none)
    (hp : (pairsR r = false ∧ ∃ x p, tg = .Name x p) ∨ (pairsR r = true ∧ ∃ es k p, tg = .Tuple es k p)) (hx : itNext r i st = some x)
    (hend : x = none → ∀ h' tk, But W s.heap h' → N { s with heap := h', toks := tk })
    (hitem : ∀ d u h' tk, x = some d → VR base h' u d → ItR W r (i + 1) v h' → But W s.heap h' → (∀ a, W a → h'.get? a ≠ none) → P u { s with heap := h', toks := tk }) :
    wpAny (model prog w) A (pyNext v) (fun q s₁ => match q with
      | none => N s₁
      | some u => wpAny (model prog w) A (letOwnedTupleGo tg v u) (fun _ s₂ => P u s₂) EE s₁) EE s := by
  have live : ∀ (h' : Heap) (S : Addr → Prop), (∀ b o, ¬ S b → s.heap.get? b = some o → h'.get? b = some o) → (∀ b, S b → h'.get? b ≠ none) → ∀ a, W a → h'.get? a ≠ none := by
    intro h' S k1 k2 a ha
    by_cases q : S a
    · exact k2 a q
    · cases z : s.heap.get? a with
      | none => exact absurd z (R.bad a (hWb a ha)).2
      | some o => rw [k1 a o q z]; exact nofun
  cases r with
  | list a =>
    obtain ⟨J, rfl, hw, hi⟩ := I
    rcases hp with ⟨_, y, p, rfl⟩ | ⟨q, _⟩
    · simp only [itNext] at hx
      split at hx
      · rename_i ds e
        obtain ⟨vs, n, e1, r1⟩ := R.obj _ _ e
        have hl := r1.length
        cases hd : ds[i]? with
        | none =>
          rw [hd] at hx; cases hx
          refine wpAny_pyNext_list_end hh hi e1.isList (by simp at hd ⊢; omega) fun h' k => hend rfl h' s.toks fun b o hb e => k b o (fun q => hb (q ▸ hw)) e
        | some d =>
          rw [hd] at hx; cases hx
          obtain ⟨u, g, x⟩ := r1.get hd
          refine wpAny_pyNext_list_item hi e1.isList (x := u) (by simpa using g) fun h' hi' k => ?_
          have kb : But W s.heap h' := fun b o hb e => (k.2 b (fun q => hb (q ▸ hw))).trans e
          obtain ⟨oJ, hJ, _⟩ := id hi'
          have lv := live h' (· = J) (fun b o hb e => (k.2 b hb).trans e) (fun b q => by subst q; exact it_live hJ)
          refine wpAny_pure ?_
          refine hitem d u h' s.toks rfl (x.keep fun b us m nb e => ?_) ⟨J, rfl, hw, hi'⟩ kb lv
          exact kb b _ (fun q => nb (hWb b q)) e
      · cases hx
    · cases q
  | enum a =>
    obtain ⟨e, J, old, rfl, w1, w2, ne, he, hi⟩ := I
    rcases hp with ⟨q, _⟩ | ⟨_, es, k, p, rfl⟩
    · cases q
    · simp only [itNext] at hx
      split at hx
      · rename_i ds ea
        obtain ⟨vs, n, e1, r1⟩ := R.obj _ _ ea
        have hl := r1.length
        cases hd : ds[i]? with
        | none =>
          rw [hd] at hx; cases hx
          refine wpAny_pyNext_enum_end hh he hi e1.isList (by simp at hd ⊢; omega) fun h' k => hend rfl h' s.toks fun b o hb e => k b o (fun q => hb (q ▸ w2)) e
        | some d =>
          rw [hd] at hx; cases hx
          obtain ⟨u, g, x⟩ := r1.get hd
          refine wpAny_pyNext_enum_item he hi e1.isList (x := u) (by simpa using g) ne fun h' he' hi' ht hsz k => ?_
          refine wpAny_letOwnedTupleGo_enum he' fun h₂ he₂ k₂ => ?_
          have szne : e ≠ s.heap.objs.size := Nat.ne_of_lt (Heap.lt_size he)
          have kb : But W s.heap h₂ := fun b o hb eb => (k₂.2 b (fun q => hb (q ▸ w1))).trans (k b o (fun q => hb (q ▸ w1)) (fun q => hb (q ▸ w2)) eb)
          have hi₂ : h₂.IsListIter J a (i + 1) := hi'.at fun o eo => (k₂.2 J ne.symm).trans eo
          have ht₂ : h₂.get? s.heap.objs.size = some { cls := .type "tuple", data := .seq #[.int i s.toks, u] } := (k₂.2 _ szne.symm).trans ht
          obtain ⟨oJ, hJ, _⟩ := id hi₂
          have lv := live h₂ (fun b => b = e ∨ b = J) (fun b o hb eb => (k₂.2 b (fun q => hb (.inl q))).trans (k b o (fun q => hb (.inl q)) (fun q => hb (.inr q)) eb)) (fun b q => by
            rcases q with rfl | rfl
            · exact it_live he₂
            · exact it_live hJ)
          have tk : TupKeep base s.heap h₂ := fun b us m nb eb => kb b _ (fun q => nb (hWb b q)) eb
          refine hitem (.tup [.int i, d]) (.ref s.heap.objs.size) h₂ (s.toks + 1) rfl (.tup (vs := [.int i s.toks, u]) (n := 0) (fun q => (R.bad _ q).2 (size_free _)) ht₂ (.cons (.int _ _) (.one (x.keep tk)))) ⟨e, J, u, rfl, w1, w2, ne, ?_, hi₂⟩ kb lv
          simpa using he₂
      · cases hx
  | zip a b =>
    obtain ⟨z, TI, TO, i1, i2, rfl, ⟨w1, w2, w3, w4, w5⟩, D, hz, h1, ⟨y₁, y₂, h2⟩, h3, h4⟩ := I
    rcases hp with ⟨q, _⟩ | ⟨_, es, kk, p, rfl⟩
    · cases q
    · simp only [itNext] at hx
      split at hx
      · rename_i ds es' ea eb
        obtain ⟨vs, n, e1, r1⟩ := R.obj _ _ ea
        obtain ⟨us, m, e2, r2⟩ := R.obj _ _ eb
        have hl := r1.length
        have hl2 := r2.length
        have fin : (ds[i]? = none ∨ es'[i]? = none) → x = none → wpAny (model prog w) A (pyNext (.ref z)) (fun q s₁ => match q with
            | none => N s₁
            | some u => wpAny (model prog w) A (letOwnedTupleGo (.Tuple es kk p) (.ref z) u) (fun _ s₂ => P u s₂) EE s₁) EE s := fun hq hxn =>
          wpAny_pyNext_zip_end hh D hz h1 h2 h3 h4 e1.isList e2.isList (by
            rcases hq with hq | hq
            · left; simp at hq ⊢; omega
            · right; simp at hq ⊢; omega) fun h' k => hend hxn h' s.toks fun c o hc e => k c o (fun q => hc (q ▸ w1)) (fun q => hc (q ▸ w3)) (fun q => hc (q ▸ w4)) (fun q => hc (q ▸ w5)) e
        cases hd : ds[i]? with
        | none => rw [hd] at hx; cases hx; exact fin (.inl hd) rfl
        | some d =>
          cases hd2 : es'[i]? with
          | none => rw [hd, hd2] at hx; cases hx; exact fin (.inr hd2) rfl
          | some d2 =>
            rw [hd, hd2] at hx; cases hx
            obtain ⟨u, g, x⟩ := r1.get hd
            obtain ⟨u2, g2, x2⟩ := r2.get hd2
            refine wpAny_pyNext_zip_item D hz h1 h2 h3 h4 e1.isList e2.isList (x := u) (y := u2) (by simpa using g) (by simpa using g2) fun h' hz' hTO hi1 hi2 ht hsz k => ?_
            refine wpAny_letOwnedTupleGo_zip hz' fun h₂ hz₂ k₂ => ?_
            have szne : z ≠ s.heap.objs.size := Nat.ne_of_lt (Heap.lt_size hz)
            have kb : But W s.heap h₂ := fun c o hc e => (k₂.2 c (fun q => hc (q ▸ w1))).trans (k c o (fun q => hc (q ▸ w1)) (fun q => hc (q ▸ w3)) (fun q => hc (q ▸ w4)) (fun q => hc (q ▸ w5)) e)
            have hi1₂ : h₂.IsListIter i1 a (i + 1) := hi1.at fun o eo => (k₂.2 _ D.i1z).trans eo
            have i2z : i2 ≠ z := fun q => by
              subst q
              obtain ⟨o, ho, hc, _⟩ := h4
              rw [hz] at ho; cases ho; exact absurd hc (by simp)
            have hi2₂ : h₂.IsListIter i2 b (i + 1) := hi2.at fun o eo => (k₂.2 _ i2z).trans eo
            have hTO₂ : IsPair h₂ TO u u2 := (k₂.2 _ D.TOz).trans hTO
            have hTI₂ : IsPair h₂ TI (.ref i1) (.ref i2) := (k₂.2 _ D.TIz).trans (k _ _ D.TIz D.TITO D.TIi1 D.TIi2 h1)
            have ht₂ : IsPair h₂ s.heap.objs.size u u2 := (k₂.2 _ szne.symm).trans ht
            obtain ⟨o1, ho1, _⟩ := id hi1₂
            obtain ⟨o2, ho2, _⟩ := id hi2₂
            have lv := live h₂ (fun c => c = z ∨ c = TO ∨ c = i1 ∨ c = i2) (fun c o hc e => (k₂.2 c (fun q => hc (.inl q))).trans (k c o (fun q => hc (.inl q)) (fun q => hc (.inr (.inl q))) (fun q => hc (.inr (.inr (.inl q)))) (fun q => hc (.inr (.inr (.inr q)))) e)) (fun c q => by
              rcases q with rfl | rfl | rfl | rfl
              · exact it_live hz₂
              · exact it_live hTO₂
              · exact it_live ho1
              · exact it_live ho2)
            have tk : TupKeep base s.heap h₂ := fun c us m nb eb => kb c _ (fun q => nb (hWb c q)) eb
            refine hitem (.tup [d, d2]) (.ref s.heap.objs.size) h₂ s.toks rfl (.tup (vs := [u, u2]) (n := 0) (fun q => (R.bad _ q).2 (size_free _)) ht₂ (.cons (x.keep tk) (.one (x2.keep tk)))) ⟨z, TI, TO, i1, i2, rfl, ⟨w1, w2, w3, w4, w5⟩, D, hz₂, hTI₂, ⟨u, u2, hTO₂⟩, hi1₂, hi2₂⟩ kb lv
      · cases hx
  | range a b =>
    obtain ⟨J, rfl, hw, hi⟩ := I
    rcases hp with ⟨_, y, p, rfl⟩ | ⟨q, _⟩
    · simp only [itNext, Option.some.injEq] at hx
      subst hx
      by_cases c : a + i < b
      · rw [if_pos c] at hitem
        have hb : a < b := by omega
        rw [if_pos hb] at hi
        refine wpAny_pyNext_range_item hi (by omega) fun h' hi' k => ?_
        have kb : But W s.heap h' := fun b o hb e => (k.2 b (fun q => hb (q ▸ hw))).trans e
        have lv := live h' (· = J) (fun b o hb e => (k.2 b hb).trans e) (fun b q => by subst q; exact it_live hi')
        refine wpAny_pure ?_
        refine hitem _ _ h' (s.toks + 1) rfl (.int _ _) ⟨J, rfl, hw, ?_⟩ kb lv
        rw [if_pos hb]
        have e1 : a + ((i + 1 : Nat) : Int) = a + i + 1 := by omega
        have e2 : b - a - ((i + 1 : Nat) : Int) = b - a - i - 1 := by omega
        rw [e1, e2]; exact hi'
      · rw [if_neg c] at hend
        refine wpAny_pyNext_range_end hh hi (by split <;> omega) fun h' k => hend rfl h' s.toks fun b o hb e => k b o (fun q => hb (q ▸ hw)) e
    · cases q
end
end Mine

end

section
set_option linter.unusedVariables false
set_option linter.unusedSimpArgs false
set_option maxHeartbeats 1000000
namespace Mine
open PySem PySem.W PySem.Calls PyProof.Rows PySem.SeqAt PySem.MeetsSeq
open Sem (wp)

section
variable {prog : Program} {w : World} {hb : Heap} {K : Frag} {mg mb : Str → Option Value} {gl : Str → Option GV} {T : Tab} {k : Nat}
variable {base : Bs} {ns : List Str} {env : Env} {l : Loc} {st : Sto} {s : Shared} {A : Around} {EE : Value → Shared → Prop}

/-- the iterator is made: its objects W are new -/
def Made (prog : Program) (w : World) (base : Bs) (st : Sto) (s : Shared) (Q : It → Sto → Prop) (QQ : Value → Shared → Prop) : Prop :=
  ∀ (W : Addr → Prop) r st₁ s₁ it h' tk, Q r st₁ → Rel prog w base st₁ s₁.heap → Go noX st st₁ s s₁ → (∀ b o, s₁.heap.get? b = some o → h'.get? b = some o) → (∀ a, W a → s₁.heap.get? a = none) → (∀ a, W a → h'.get? a ≠ none) → ItR W r 0 it h' →
    QQ it { s₁ with heap := h', toks := tk }
def TriI (prog : Program) (w : World) (base : Bs) (k : Nat) (ns : List Str) (env : Env) (l : Loc) (st : Sto) (e : Expr) (Q : It → Sto → Prop) : Prop :=
  ∀ (A : Around) (s : Shared) (QQ EE : Value → Shared → Prop), Body k A → Fra ns env base l st s.heap → Rel prog w base st s.heap → Made prog w base st s Q QQ → wpAny (model prog w) A (eval e env) (fun x s₁ => wpAny (model prog w) A (pyIter x) QQ EE s₁) EE s

theorem over_none {h : Heap} {a : Addr} (ha : h.objs.size ≤ a) : h.get? a = none := by
  cases e : h.get? a with
  | none => rfl
  | some o => exact absurd (Heap.lt_size e) (Nat.not_lt.mpr ha)

theorem iter_list {e : Expr} {Q : It → Sto → Prop} (h : TriE prog w base k ns env l st (eval e env) fun x st => ∃ a ds, x = .loc a ∧ st a = some (.list ds) ∧ Q (.list a) st) : TriI prog w base k ns env l st e Q := by
  intro A s QQ EE B F R o
  refine h A s _ EE B F R fun v x st' s' q x₁ R' g => ?_
  obtain ⟨a, ds, rfl, e1, q⟩ := q
  cases x₁
  obtain ⟨vs, n, e2, r2⟩ := R'.obj _ _ e1
  refine wpAny_pyIter_list e2.isList ?_
  refine o (· = s'.heap.objs.size) _ _ s' _ _ s'.toks q R' g (fun b o e => Heap.get?_push_of_some _ e) (fun a ha => by subst ha; exact size_free _) (fun a ha => ?_) ⟨_, rfl, rfl, ?_⟩
  · subst ha; rw [Heap.get?_push_size _ rfl]; exact nofun
  · exact ⟨_, Heap.get?_push_size _ rfl, rfl, rfl⟩

/-- a call of a type's name -/
theorem iter_blt1 {x y : Str} {p pos : Pos} {v : Value} {e : Expr} {P : AV → Sto → Prop} {Q : It → Sto → Prop} (G : Gr prog w base.heap K mg mb gl T) (hk : env.kindOf x = some .globalImplicit) (hd : (x == ("__debug__" : Str)) = false) (hg : gl x = some (.blt y)) (hv : bltV y = some v) (hv' : ∀ a, v ≠ .ref a)
    (hp : ∀ x p, e ≠ .Starred x p) (ha : TriE prog w base k ns env l st (eval e env) P)
    (h : ∀ (A : Around) u z st₁ (s₁ : Shared) (QQ EE : Value → Shared → Prop), P z st₁ → VR base s₁.heap u z → Rel prog w base st₁ s₁.heap → Made prog w base st₁ s₁ Q QQ → wpAny (model prog w) A (call v [u]) (fun x s₂ => wpAny (model prog w) A (pyIter x) QQ EE s₂) EE s₁) :
    TriI prog w base k ns env l st (.Call (.Name x p) [e] [] pos) Q := by
  intro A s QQ EE B F R o
  obtain ⟨h1, v', h2, h3⟩ := G.blt x y hg
  rw [hv] at h3; cases h3
  refine wpAny_Call_Name_kw (glob_ok G F R hk hd (.inr ⟨h1, h2⟩) ?_)
  refine callWith_plain (P := fun _ => True) (by rw [star_plain hp]; rfl) (keeps_val hv') ?_
  refine wpAny_items_cons (ha A s _ EE B F R fun u z st₁ s₁ q x₁ R₁ g₁ => ?_) (star_plain hp)
  exact wpAny_items_nil ⟨trivial, h A u z st₁ s₁ QQ EE q x₁ R₁ fun W r st₂ s₂ it h' tk q R₂ g₂ => o W r st₂ s₂ it h' tk q R₂ (g₁.trans g₂)⟩
theorem iter_blt2 {x y : Str} {p pos : Pos} {v : Value} {e e' : Expr} {P : AV → Sto → Prop} {P' : AV → AV → Sto → Prop} {Q : It → Sto → Prop} (G : Gr prog w base.heap K mg mb gl T) (hk : env.kindOf x = some .globalImplicit) (hd : (x == ("__debug__" : Str)) = false) (hg : gl x = some (.blt y)) (hv : bltV y = some v) (hv' : ∀ a, v ≠ .ref a)
    (hp : ∀ x p, e ≠ .Starred x p) (hp' : ∀ x p, e' ≠ .Starred x p) (ha : TriE prog w base k ns env l st (eval e env) P) (hb' : ∀ x st₁, P x st₁ → TriE prog w base k ns env l st₁ (eval e' env) (P' x))
    (h : ∀ (A : Around) u u' z z' st₁ (s₁ : Shared) (QQ EE : Value → Shared → Prop), P' z z' st₁ → VR base s₁.heap u z → VR base s₁.heap u' z' → Rel prog w base st₁ s₁.heap → Made prog w base st₁ s₁ Q QQ → wpAny (model prog w) A (call v [u, u']) (fun x s₂ => wpAny (model prog w) A (pyIter x) QQ EE s₂) EE s₁) :
    TriI prog w base k ns env l st (.Call (.Name x p) [e, e'] [] pos) Q := by
  intro A s QQ EE B F R o
  obtain ⟨h1, v', h2, h3⟩ := G.blt x y hg
  rw [hv] at h3; cases h3
  refine wpAny_Call_Name_kw (glob_ok G F R hk hd (.inr ⟨h1, h2⟩) ?_)
  refine callWith_plain (P := fun _ => True) (by rw [star_plain hp]; simp only [backTo, List.map_cons, List.any_cons]; rw [star_plain hp']; rfl) (keeps_val hv') ?_
  refine wpAny_items_cons (wpAny_mono (TriE.then ha hb' B F R (EE := EE) (QQ := fun u u' s₂ => True ∧ wpAny (model prog w) A (call v ([] ++ [u, u']) []) (fun x s₂ => wpAny (model prog w) A (pyIter x) QQ EE s₂) EE s₂) fun u u' z z' st₂ s₂ q x₁ x₂ R₂ g F₂ => ⟨trivial, h A u u' z z' st₂ s₂ QQ EE q x₁ x₂ R₂ fun W r st₂ s₂ it h' tk q R₂ g₂ => o W r st₂ s₂ it h' tk q R₂ (g.trans g₂)⟩) (fun u s₁ h₁ => ?_) fun _ _ x => x) (star_plain hp)
  refine wpAny_items_cons (wpAny_mono h₁ (fun u' s₂ h₂ => ?_) fun _ _ x => x) (star_plain hp')
  exact wpAny_items_nil h₂

theorem made_enum {a : Addr} {ds : List AV} {Q : It → Sto → Prop} {QQ : Value → Shared → Prop} (R : Rel prog w base st s.heap) (e : st a = some (.list ds)) (q : Q (.enum a) st) (o : Made prog w base st s Q QQ) :
    wpAny (model prog w) A (call (.type "enumerate") [.ref a]) (fun x s₂ => wpAny (model prog w) A (pyIter x) QQ EE s₂) EE s := by
  obtain ⟨vs, n, e1, r1⟩ := R.obj _ _ e
  refine call_enumerate_1 e1 fun h' he hi hsz k => wpAny_pyIter_enum he ?_
  refine o (fun b => b = s.heap.objs.size + 1 ∨ b = s.heap.objs.size) _ _ s _ h' s.toks q R (Go.refl _ _ _) k ?_ ?_ ⟨_, _, _, rfl, .inl rfl, .inr rfl, Nat.succ_ne_self _, he, hi⟩
  · rintro b (rfl | rfl)
    · exact over_none (Nat.le_succ _)
    · exact over_none (Nat.le_refl _)
  · obtain ⟨oi, hoi, _⟩ := hi
    rintro b (rfl | rfl)
    · rw [he]; exact nofun
    · rw [hoi]; exact nofun
theorem made_zip {a b : Addr} {ds es : List AV} {Q : It → Sto → Prop} {QQ : Value → Shared → Prop} (R : Rel prog w base st s.heap) (e : st a = some (.list ds)) (e' : st b = some (.list es)) (q : Q (.zip a b) st) (o : Made prog w base st s Q QQ) :
    wpAny (model prog w) A (call (.type "zip") [.ref a, .ref b]) (fun x s₂ => wpAny (model prog w) A (pyIter x) QQ EE s₂) EE s := by
  obtain ⟨vs, n, e1, r1⟩ := R.obj _ _ e
  obtain ⟨us, m, e2, r2⟩ := R.obj _ _ e'
  have la : a < s.heap.objs.size := Heap.lt_size e1
  have lb : b < s.heap.objs.size := Heap.lt_size e2
  generalize hz : s.heap.objs.size = z at *
  refine call_zip_2 e1.isList e2.isList fun h' he h1 h2 hi1 hi2 hsz k => wpAny_pyIter_zip he ?_
  rw [hz] at he h1 h2 hi1 hi2
  rw [hz]
  refine o (fun b => b = z + 4 ∨ b = z + 2 ∨ b = z + 3 ∨ b = z ∨ b = z + 1) _ _ s _ h' s.toks q R (Go.refl _ _ _) k ?_ ?_ ⟨z + 4, z + 2, z + 3, z, z + 1, rfl, ⟨by simp, by simp, by simp, by simp, by simp⟩, ?_, he, h1, ⟨_, _, h2⟩, hi1, hi2⟩
  · intro b hb
    refine over_none ?_
    rw [hz]
    have hb' : @Eq Nat b (z + 4) ∨ @Eq Nat b (z + 2) ∨ @Eq Nat b (z + 3) ∨ @Eq Nat b z ∨ @Eq Nat b (z + 1) := hb
    show @LE.le Nat _ z b
    omega
  · obtain ⟨o1, ho1, _⟩ := hi1
    obtain ⟨o2, ho2, _⟩ := hi2
    rintro b (rfl | rfl | rfl | rfl | rfl)
    · rw [he]; exact nofun
    · rw [h1]; exact nofun
    · rw [h2]; exact nofun
    · rw [ho1]; exact nofun
    · rw [ho2]; exact nofun
  · replace la : @LT.lt Nat _ a z := la
    replace lb : @LT.lt Nat _ b z := lb
    constructor <;> (refine (?_ : @Ne Nat _ _); omega)
theorem made_range {a b : Int} {t u v : Tok} {r : Addr} {Q : It → Sto → Prop} {QQ : Value → Shared → Prop} {h₁ : Heap} {tk : Nat} (R : Rel prog w base st s.heap) (k₁ : ∀ b o, s.heap.get? b = some o → h₁.get? b = some o) (hr : IsRange h₁ r a b 1 t u v) (ha : -1000 ≤ a) (ha' : a ≤ 1000) (hb : -1000 ≤ b) (hb' : b ≤ 1000)
    (q : Q (.range a b) st) (o : Made prog w base st s Q QQ) : wpAny (model prog w) A (pyIter (.ref r)) QQ EE { s with heap := h₁, toks := tk } := by
  have R₁ := R.ext k₁
  refine wpAny_pyIter_range (s := { s with heap := h₁, toks := tk }) hr (small_one (by omega) (by omega) (by omega) (by omega)) ?_
  refine o (· = h₁.objs.size) _ _ { s with heap := h₁, toks := tk } _ _ _ q R₁ (Go.ext k₁) (fun b o e => Heap.get?_push_of_some _ e) (fun a ha => by subst ha; exact size_free _) (fun a ha => ?_) ⟨_, rfl, rfl, ?_⟩
  · subst ha; rw [Heap.get?_push_size _ rfl]; exact nofun
  · have := Heap.get?_push_size h₁ (o := { cls := .type "range_iterator", data := .fields #[rawInt a, rawInt (Builtin.Range.rangeSize a b 1), rawInt 1] }) rfl
    rw [rangeSize_one] at this
    simpa [IsRangeIter, rangeSize_one] using this

/-- the iterators' rule -/
def IterOk (prog : Program) (w : World) (hb : Heap) (gl : Str → Option GV) (T : Tab) (k : Nat) (n : Nat) : Prop :=
  ∀ (bad : Addr → Prop) (c : Ctx) (env : Env) (e : Expr) (mi : MI) (l : Loc) (st : Sto) (Q : It → Sto → Prop), compI n c e = some mi → CtxOk c env gl → itP T (CallS prog w hb k) mi l st Q → TriI prog w ⟨hb, bad⟩ k c.ns env l st e fun r st => Q r st ∧ pairsR r = pairsMI mi

theorem blt_of {c : Ctx} {env : Env} {x y : Str} (h : CtxOk c env gl) (e : c.blt x = some y) : env.kindOf x = some .globalImplicit ∧ (x == ("__debug__" : Str)) = false ∧ gl x = some (.blt y) := by
  unfold Ctx.blt at e
  split at e
  · rename_i z q
    cases e
    exact glob_of h q
  · cases e

theorem TriE.mono {t : Sem Value} {Q Q' : AV → Sto → Prop} (h : TriE prog w base k ns env l st t Q) (q : ∀ x st, Q x st → Q' x st) : TriE prog w base k ns env l st t Q' :=
  fun A s QQ EE B F R o => h A s QQ EE B F R fun v d st' s' q' => o v d st' s' (q _ _ q')

theorem iter_step {n : Nat} (G : Gr prog w hb K mg mb gl T) (he : ExprOk prog w hb gl T k n) : IterOk prog w hb gl T k (n + 1) := by
  intro bad c env e mi l st Q hc ok h
  have plain : (compI (n + 1) c e = (comp n c e).map .list) → TriI prog w ⟨hb, bad⟩ k c.ns env l st e fun r st => Q r st ∧ pairsR r = pairsMI mi := by
    intro hq
    rw [hq] at hc
    obtain ⟨me, h1, rfl⟩ := Option.map_eq_some_iff.mp hc
    simp only [itP] at h
    exact iter_list ((he bad c env e me l st _ h1 ok h).mono fun x st ⟨a, ds, e, e1, q⟩ => ⟨a, ds, e, e1, q, rfl⟩)
  unfold compI at hc
  split at hc
  · rename_i f p as pos
    split at hc
    · rename_i y hy
      obtain ⟨b1, b2, b3⟩ := blt_of ok hy
      split at hc
      · rename_i hn
        have hn' : y = ("enumerate" : Str) := by simpa using hn
        split at hc
        · rename_i a
          obtain ⟨me, h1, rfl⟩ := Option.map_eq_some_iff.mp hc
          simp only [itP] at h
          refine iter_blt1 (base := ⟨hb, bad⟩) G b1 b2 b3 (v := .type "enumerate") (by rw [hn']; rfl) (by intro a q; cases q) (comp_plain h1) (he bad c env a me l st _ h1 ok h) fun A u z st₁ s₁ QQ EE q x R o => ?_
          obtain ⟨a, ds, rfl, e1, q⟩ := q
          cases x
          exact made_enum R e1 ⟨q, rfl⟩ o
        · cases hc
      · split at hc
        · rename_i hn
          have hn' : y = ("zip" : Str) := by simpa using hn
          split at hc
          · rename_i a b
            split at hc
            · rename_i x y' h1 h2
              cases hc
              simp only [itP] at h
              refine iter_blt2 (base := ⟨hb, bad⟩) G b1 b2 b3 (v := .type "zip") (by rw [hn']; rfl) (by intro a q; cases q) (comp_plain h1) (comp_plain h2) (he bad c env a _ l st _ h1 ok h) (fun x st₁ q => he bad c env b _ l st₁ _ h2 ok q) fun A u u' z z' st₁ s₁ QQ EE q x x' R o => ?_
              obtain ⟨a, b, ds, es, rfl, rfl, e1, e2, q⟩ := q
              cases x; cases x'
              exact made_zip R e1 e2 ⟨q, rfl⟩ o
            · cases hc
          · cases hc
        · split at hc
          · rename_i hn
            have hn' : y = ("range" : Str) := by simpa using hn
            split at hc
            · rename_i a
              obtain ⟨me, h1, rfl⟩ := Option.map_eq_some_iff.mp hc
              simp only [itP] at h
              refine iter_blt1 (base := ⟨hb, bad⟩) G b1 b2 b3 (v := .type "range") (by rw [hn']; rfl) (by intro a q; cases q) (comp_plain h1) (he bad c env a me l st _ h1 ok h) fun A u z st₁ s₁ QQ EE q x R o => ?_
              obtain ⟨i, rfl, i1, i2, q⟩ := q
              obtain ⟨t, rfl⟩ := x.ofInt
              exact call_range_1 (made_range R (fun b o e => Heap.get?_push_of_some _ e) (IsRange.new ..) (by omega) (by omega) i1 i2 ⟨q, rfl⟩ o)
            · rename_i a b
              split at hc
              · rename_i x y' h1 h2
                cases hc
                simp only [itP] at h
                refine iter_blt2 (base := ⟨hb, bad⟩) G b1 b2 b3 (v := .type "range") (by rw [hn']; rfl) (by intro a q; cases q) (comp_plain h1) (comp_plain h2) (he bad c env a _ l st _ h1 ok h) (fun x st₁ q => he bad c env b _ l st₁ _ h2 ok q) fun A u u' z z' st₁ s₁ QQ EE q x x' R o => ?_
                obtain ⟨i, j, rfl, rfl, i1, i2, j1, j2, q⟩ := q
                obtain ⟨t, rfl⟩ := x.ofInt
                obtain ⟨t', rfl⟩ := x'.ofInt
                exact call_range_2 (made_range R (fun b o e => Heap.get?_push_of_some _ e) (IsRange.new ..) i1 i2 j1 j2 ⟨q, rfl⟩ o)
              · cases hc
            · cases hc
          · cases hc
    · rename_i hy
      refine plain ?_
      unfold compI
      simp only [hy]
  · rename_i hne
    refine plain ?_
    unfold compI
    split
    · exact absurd rfl (hne _ _ _ _)
    · rfl
end
end Mine

end

section
set_option linter.unusedVariables false
set_option linter.unusedSimpArgs false
set_option maxHeartbeats 1000000
namespace Mine
open PySem PySem.W PySem.Calls PyProof.Rows PySem.SeqAt PySem.MeetsSeq
open Sem (wp)

section
variable {prog : Program} {w : World} {base : Bs} {env : Env} {st : Sto} {s : Shared} {A : Around} {EE : Value → Shared → Prop}

def closL (env : Env) : List (Str × NameKind) → List (Str × Addr) → List (Str × Addr)
  | [], a => a
  | (n, k) :: r, a => closL env r (if k == .free then (match env.cells.lookup n with | some c => (n, c) :: a | none => a) else a)
theorem closL_look : ∀ (ns : List (Str × NameKind)) (a : List (Str × Addr)), (∀ x c, a.lookup x = some c → env.cells.lookup x = some c) → ∀ x c, (closL env ns a).lookup x = some c → env.cells.lookup x = some c
  | [], a, h => h
  | (n, k) :: r, a, h => by
    unfold closL
    refine closL_look r _ fun x c e => ?_
    split at e
    · split at e
      · rename_i c' hc
        rw [List.lookup_cons] at e
        cases q : x == n with
        | true => rw [q] at e; cases e; rw [beq_iff_eq.mp q]; exact hc
        | false => rw [q] at e; exact h x c e
      · exact h x c e
    · exact h x c e
theorem closL_keep : ∀ (ns : List (Str × NameKind)) (a : List (Str × Addr)) (x : Str), a.lookup x = env.cells.lookup x → (closL env ns a).lookup x = env.cells.lookup x
  | [], a, x, h => h
  | (n, k) :: r, a, x, h => by
    unfold closL
    refine closL_keep r _ x ?_
    split
    · split
      · rename_i c' hc
        rw [List.lookup_cons]
        cases q : x == n with
        | true => rw [beq_iff_eq.mp q]; exact hc.symm
        | false => exact h
      · exact h
    · exact h
theorem closL_has : ∀ (ns : List (Str × NameKind)) (a : List (Str × Addr)) (x : Str) (c : Addr), (x, NameKind.free) ∈ ns → env.cells.lookup x = some c → (closL env ns a).lookup x = env.cells.lookup x
  | (n, k) :: r, a, x, c, hm, hc => by
    unfold closL
    rcases List.mem_cons.mp hm with e | hm
    · rw [← (Prod.mk.inj e).1, ← (Prod.mk.inj e).2]
      refine closL_keep r _ x ?_
      simp [hc]
    · exact closL_has r _ x c hm hc
  | [], _, _, _, hm, _ => by simp at hm
theorem closure_of {scope : Scope} (h : ∀ x ∈ scope.names, x.2 = .free → ∃ c, env.cells.lookup x.1 = some c) : closureFor scope env = pure (closL env scope.names []) := by
  unfold closureFor
  have go : ∀ (ns : List (Str × NameKind)) (a : List (Str × Addr)), (∀ x ∈ ns, x.2 = .free → ∃ c, env.cells.lookup x.1 = some c) →
      (forIn ns a fun (y : Str × NameKind) (r : List (Str × Addr)) => (match y with | (name, kind) => if (kind == NameKind.free) = true then (do let c ← cellOf env name; pure (ForInStep.yield ((name, c) :: r)) : Sem (ForInStep (List (Str × Addr)))) else pure (ForInStep.yield r))) = (pure (closL env ns a) : Sem _) := by
    intro ns
    induction ns with
    | nil => intro a _; rfl
    | cons x r ih =>
      intro a hx
      obtain ⟨n, k⟩ := x
      rw [List.forIn_cons]
      have ih' := fun a => ih a (fun y hm => hx y (List.mem_cons_of_mem _ hm))
      cases q : k == NameKind.free with
      | false =>
        simp only [q, Bool.false_eq_true, if_false, pure_bind, closL]
        exact ih' a
      | true =>
        obtain ⟨c, hc⟩ := hx (n, k) (List.mem_cons_self ..) (beq_iff_eq.mp q)
        simp only at hc
        simp only [q, if_true, cellOf, hc, pure_bind, closL]
        exact ih' _
  have := go scope.names [] h
  simp only [bind_pure]
  exact this

theorem codeAny_compLoop_any {elt tg iter : Expr} {scope : Scope} {pos : Pos} {it acc : Value} {R : Result → Shared → Prop} (I : Nat → Shared → Prop)
    (turn : ∀ n s, I n s → wpAny (model prog w) A (pyNext it) (fun r s₁ => match r with
      | none => R (.ok .next) s₁
      | some v => wpAny (model prog w) A (letOwnedTupleGo tg it v) (fun _ s₁' => wpAny (model prog w) A (assign tg env v) (fun _ s₂ =>
          wpAny (model prog w) A (eval elt env) (fun x s₄ =>
              wpAny (model prog w) A (call (.builtin "list.append") [acc, x]) (fun _ s₅ => ∃ m, m < n ∧ I m s₅) (notedBy (model prog w) A env fun e s' => R (.error e) s') s₄) (notedBy (model prog w) A env fun e s' => R (.error e) s') s₂)
          (notedBy (model prog w) A env fun e s' => R (.error e) s') s₁') (notedBy (model prog w) A env fun e s' => R (.error e) s') s₁) (notedBy (model prog w) A env fun e s' => R (.error e) s') s)
    (n : Nat) (h : I n s) : codeAny (model prog w) A (.compLoop (.ListComp elt [⟨tg, iter, [], 0⟩] scope pos) 0 it acc env) R s := by
  refine codeAny_loop rfl I (fun n s hI => ?_) n h
  show wpAny _ A ((compTurn (.ListComp elt [⟨tg, iter, [], 0⟩] scope pos) 0 it acc env).onRaise (fun x => do noteFrame x env; theTreesLotGoes x)) _ _ s
  refine wpAny_noted ?_
  rw [compTurn_list]
  refine wpAny_bind (wpAny_standAt (wpAny_bind (wpAny_mono (turn n s hI) (fun r s₁ h₁ => ?_) fun _ _ h' => h')))
  cases r with
  | none => exact wpAny_pure h₁
  | some v =>
    refine wpAny_bind (wpAny_mono h₁ (fun _ s₁' h₁' => ?_) fun _ _ h' => h')
    refine wpAny_bind (wpAny_mono h₁' (fun _ s₂ h₂ => wpAny_bind (wpAny_mono (wpAny_tests_nil (Q := fun ok s₃ => ok = true ∧ s₃ = s₂) ⟨rfl, rfl⟩) (fun ok s₃ h₃ => ?_) fun _ _ h' => h')) fun _ _ h' => h')
    obtain ⟨rfl, rfl⟩ := h₃
    exact wpAny_bind (wpAny_bind (wpAny_mono h₂ (fun x s₄ h₄ => wpAny_bind (wpAny_mono h₄ (fun _ s₅ h₅ => wpAny_pure (wpAny_pure ⟨rfl, h₅⟩)) fun _ _ h' => h')) fun _ _ h' => h'))

theorem it_self {W : Addr → Prop} {r : It} {i : Nat} {v : Value} {Q : Value → Shared → Prop} (I : ItR W r i v s.heap) (h : Q v s) : wpAny (model prog w) A (pyIter v) Q EE s := by
  cases r with
  | list a => obtain ⟨J, rfl, _, hi⟩ := I; exact wpAny_pyIter_listiter hi h
  | enum a => obtain ⟨e, J, old, rfl, _, _, _, he, _⟩ := I; exact wpAny_pyIter_enum he h
  | zip a b => obtain ⟨z, TI, TO, i1, i2, rfl, _, _, hz, _⟩ := I; exact wpAny_pyIter_zip hz h
  | range a b => obtain ⟨J, rfl, _, hi⟩ := I; exact wpAny_pyIter_rangeiter hi h

theorem Fra.sub {ns : List Str} {l l' : Loc} {h : Heap} (F : Fra ns env base l st h) (k : ∀ i d, l' i = some d → l i = some d) : Fra ns env base l' st h := by
  obtain ⟨m, hm, hl⟩ := F.locs
  refine ⟨F.kind, F.glob, F.blt, ⟨m, hm, fun i x d a b c => hl i x d a b (k _ _ c)⟩, fun i x a b => ?_, F.apart, F.capart, F.cinj⟩
  obtain ⟨c, cv, h1, h2, h3⟩ := F.cells i x a b
  exact ⟨c, cv, h1, h2, fun d e => h3 d (k _ _ e)⟩

theorem folded_plain {it : Expr} (h : isSet it = false) (x : Value) : foldedSetIterable it env x = pure x := by
  cases it <;> first | rfl | simp [isSet] at h

/-- what the compiler asks of a comprehension's scope -/
structure Sco (c : Ctx) (scope : Scope) (tg it : Expr) : Prop where
  kind : scope.kind = .function
  set : isSet it = false
  cell : ∀ x ∈ scope.names, x.2 ≠ .cell
  loc : ∀ x ∈ scope.names, x.2 = .local → scope.names.lookup x.1 = some .local
  free : ∀ x ∈ scope.names, x.2 = .free → c.kind x.1 = some .cell ∧ x.1 ∈ c.ns
  tgs : ∀ y ∈ tgNames tg, scope.names.lookup y = some .local

theorem lookup_mem {α : Type} : ∀ {l : List (Str × α)} {x : Str} {k : α}, l.lookup x = some k → (x, k) ∈ l
  | (y, a) :: r, x, k, h => by
    rw [List.lookup_cons] at h
    cases q : x == y with
    | true => rw [q] at h; cases h; rw [beq_iff_eq.mp q]; exact List.mem_cons_self ..
    | false => rw [q] at h; exact List.mem_cons_of_mem _ (lookup_mem h)
  | [], _, _, h => by simp at h
theorem lookup_map {α : Type} {f : Str → α → α} : ∀ {l : List (Str × α)} {x : Str}, (l.map fun p => (p.1, f p.1 p.2)).lookup x = (l.lookup x).map (f x)
  | (y, a) :: r, x => by
    simp only [List.map_cons, List.lookup_cons]
    cases q : x == y with
    | true => simp [beq_iff_eq.mp q]
    | false => simp only [lookup_map (l := r)]
  | [], _ => rfl
theorem relabel_lookup {scope : Scope} {x : Str} (hk : env.scope.kind = .function) : (relabel scope env).names.lookup x = (scope.names.lookup x).map fun k => if (k == .free && env.kindOf x == some .cell) then .cell else k := by
  have : (relabel scope env).names = scope.names.map fun p => (p.1, (fun n k => if (k == NameKind.free && env.kindOf n == some .cell) then NameKind.cell else k) p.1 p.2) := by
    unfold relabel
    refine List.map_congr_left fun p _ => ?_
    obtain ⟨n, k⟩ := p
    simp only [hk, beq_self_eq_true, Bool.and_true]
    split <;> rfl
  rw [this]
  exact lookup_map (f := fun n k => if (k == NameKind.free && env.kindOf n == some NameKind.cell) then NameKind.cell else k)
theorem relabelN_eq {c : Ctx} {scope : Scope} (hk : env.scope.kind = .function) (h : ∀ x, c.kind x = env.kindOf x) : relabelN c scope.names = (relabel scope env).names := by
  unfold relabelN relabel
  refine List.map_congr_left fun p _ => ?_
  obtain ⟨n, k⟩ := p
  simp only [hk, beq_self_eq_true, Bool.and_true, h]

theorem seen_iff {c : Ctx} {names : List (Str × NameKind)} {i : Nat} : i ∈ seen c names ↔ ∃ x, c.ns[i]? = some x ∧ c.kind x = some .cell ∧ names.lookup x = some .free := by
  unfold seen
  rw [List.mem_filter, List.mem_range]
  constructor
  · rintro ⟨h1, h2⟩
    rw [List.getElem?_eq_getElem h1] at h2 ⊢
    exact ⟨_, rfl, by simpa using h2⟩
  · rintro ⟨x, h1, h2, h3⟩
    refine ⟨(List.getElem?_eq_some_iff.mp h1).1, ?_⟩
    rw [h1]; simp [h2, h3]

/-- the comprehension's own frame -/
theorem fra_comp {hb h h' : Heap} {bad W : Addr → Prop} {c : Ctx} {gl : Str → Option GV} {scope : Scope} {tg it : Expr} {l : Loc} {C : Addr} (ok : CtxOk c env gl) (S : Sco c scope tg it) (F : Fra c.ns env ⟨hb, bad⟩ l st h) (R : Rel prog w ⟨hb, bad⟩ st h)
    (k : ∀ b o, h.get? b = some o → h'.get? b = some o) (fresh : ∀ a, W a → h.get? a = none) (hC : h'.Ns C (fun _ => none)) (hC0 : h.get? C = none) :
    Fra c.ns (compEnvC scope (closL env scope.names []) C env) ⟨hb, fun a => bad a ∨ W a⟩ (mask (seen c scope.names) l) st h' := by
  have look := closL_look (env := env) scope.names [] (fun x c e => by simp at e)
  have hkind : ∀ x, (compEnvC scope (closL env scope.names []) C env).kindOf x = (scope.names.lookup x).map fun k => if (k == .free && env.kindOf x == some .cell) then .cell else k := fun x => relabel_lookup F.kind
  refine ⟨S.kind, F.glob, F.blt, ⟨_, hC, fun i x d a b e => ?_⟩, fun i x a b => ?_, ⟨R.out hC0, ?_⟩, fun x c' e => ?_, fun x y c' e e' => F.cinj x y c' (look _ _ e) (look _ _ e')⟩
  · exfalso
    unfold mask at e
    split at e
    · rename_i hm
      obtain ⟨y, y1, y2, y3⟩ := seen_iff.mp hm
      rw [a] at y1; cases y1
      rw [hkind, y3] at b
      rw [ok.kind] at y2
      simp [y2] at b
    · cases e
  · rw [hkind] at b
    obtain ⟨kk, b1, b2⟩ := Option.map_eq_some_iff.mp b
    split at b2
    · rename_i q
      simp only [Bool.and_eq_true, beq_iff_eq] at q
      obtain ⟨rfl, q2⟩ := q
      obtain ⟨cc, cv, h1, ⟨o, ho, hd⟩, h3⟩ := F.cells i x a q2
      refine ⟨cc, cv, ?_, ⟨o, k _ _ ho, hd⟩, fun d e => ?_⟩
      · show (closL env scope.names []).lookup x = _
        rw [closL_has scope.names [] x cc (lookup_mem b1) h1, h1]
      · unfold mask at e
        split at e
        · obtain ⟨v, v1, v2⟩ := h3 d e
          exact ⟨v, v1, (v2.widen fresh).keep (TupKeep.of k)⟩
        · cases e
    · subst b2; exact absurd rfl (S.cell _ (lookup_mem b1))
  · cases q : hb.get? C with
    | none => exact q
    | some o => have := R.keep C o q; rw [hC0] at this; cases this
  · obtain ⟨h1, h2, cv, o, ho, hd⟩ := F.capart x c' (look _ _ e)
    exact ⟨h1, h2, cv, o, k _ _ ho, hd⟩
end
end Mine

end

section
set_option linter.unusedVariables false
set_option linter.unusedSimpArgs false
set_option maxHeartbeats 1000000
namespace Mine
open PySem PySem.W PySem.Calls PyProof.Rows PySem.SeqAt PySem.MeetsSeq
open Sem (wp)

theorem ItR.wide {W W' : Addr → Prop} {r : It} {i : Nat} {v : Value} {h : Heap} (x : ItR W r i v h) (k : ∀ a, W a → W' a) : ItR W' r i v h := by
  cases r with
  | list a => obtain ⟨I, e, hw, hi⟩ := x; exact ⟨I, e, k _ hw, hi⟩
  | enum a => obtain ⟨e, J, old, e1, w1, w2, r⟩ := x; exact ⟨e, J, old, e1, k _ w1, k _ w2, r⟩
  | zip a b => obtain ⟨z, TI, TO, i1, i2, e, ⟨w1, w2, w3, w4, w5⟩, r⟩ := x; exact ⟨z, TI, TO, i1, i2, e, ⟨k _ w1, k _ w2, k _ w3, k _ w4, k _ w5⟩, r⟩
  | range a b => obtain ⟨I, e, hw, hi⟩ := x; exact ⟨I, e, k _ hw, hi⟩

section
variable {prog : Program} {w : World} {hb : Heap} {K : Frag} {mg mb : Str → Option Value} {gl : Str → Option GV} {T : Tab} {k : Nat}
variable {bad W : Addr → Prop} {ns : List Str} {env : Env} {l : Loc} {st : Sto} {s : Shared} {A : Around} {EE : Value → Shared → Prop}

/-- the loop of a comprehension -/
theorem comp_loop {n : Nat} {c' : Ctx} {env' : Env} {elt tg iter : Expr} {scope : Scope} {pos : Pos} {me : ME} {is : List Nat} {W₀ : Addr → Prop} {r : It} {itv : Value} {st₁ : Sto} {s₁ : Shared} {D : Addr} {lm l : Loc} {N : Nat}
    {Inv : Nat → List AV → Sto → Prop} {Q : AV → Sto → Prop} {RR : Result → Shared → Prop}
    (B : Body k A) (he : ExprOk prog w hb gl T k n) (hce : comp n c' elt = some me) (ok : CtxOk c' env' gl) (htg : targets c' tg = some is) (hpair : pairsR r = (is.length == 2))
    (hW₀ : ∀ a, W₀ a → W a) (hDW : W D) (hCW : W env'.locals) (hD₀ : ¬ W₀ D) (hC₀ : ¬ W₀ env'.locals) (hDC : D ≠ env'.locals)
    (htgX : ∀ a, tgX env' tg a → a = env'.locals) (hcell : ∀ x c, env'.cells.lookup x = some c → ¬ W c) (hsub : ∀ d l', bindT is d lm = some l' → ∀ i v, lm i = some v → l' i = some v)
    (out : ∀ a, W a → st₁ a = none) (live : ∀ a, W a → s₁.heap.get? a ≠ none)
    (h0 : Inv 0 [] st₁) (step : ∀ i acc st, Inv i acc st → i ≤ N ∧ acc.length ≤ 1000 ∧ ∃ x, itNext r i st = some x ∧ (match x with
        | none => ∀ n, st n = none → Q (.loc n) (upd st n (.list acc))
        | some d => ∃ l', bindT is d lm = some l' ∧ evP T (CallS prog w hb k) me l' st fun v st => Inv (i + 1) (acc ++ [v]) st))
    (I₁ : ItR W₀ r 0 itv s₁.heap) (hD : ∃ m, IsL s₁.heap D #[] m) (R : Rel prog w ⟨hb, fun a => bad a ∨ W a⟩ st₁ s₁.heap) (F : Fra c'.ns env' ⟨hb, fun a => bad a ∨ W a⟩ lm st₁ s₁.heap)
    (H : ∀ acc st' s' vs m hE tk, (∀ n, st' n = none → Q (.loc n) (upd st' n (.list acc))) → IsL s'.heap D (List.toArray vs) m → VRs ⟨hb, fun a => bad a ∨ W a⟩ s'.heap vs acc → Rel prog w ⟨hb, fun a => bad a ∨ W a⟩ st' s'.heap → (∃ m, s'.heap.Ns env'.locals m) → Go W st₁ st' s₁ s' → But W₀ s'.heap hE → RR (.ok .next) { s' with heap := hE, toks := tk }) :
    codeAny (model prog w) A (.compLoop (.ListComp elt [⟨tg, iter, [], 0⟩] scope pos) 0 itv (.ref D) env') RR s₁ := by
  have hform := target_form htg
  have hp : (pairsR r = false ∧ ∃ x p, tg = .Name x p) ∨ (pairsR r = true ∧ ∃ es k p, tg = .Tuple es k p) := by
    rcases hform with ⟨h1, h2⟩ | ⟨h1, h2⟩
    · left; exact ⟨by rw [hpair, h1]; rfl, h2⟩
    · right; exact ⟨by rw [hpair, h1]; rfl, h2⟩
  refine codeAny_compLoop_any (fun n' s' => ∃ i acc st' vs nD, n' = N + 1 - i ∧ Inv i acc st' ∧ ItR W₀ r i itv s'.heap ∧ IsL s'.heap D (List.toArray vs) nD ∧ VRs ⟨hb, fun a => bad a ∨ W a⟩ s'.heap vs acc ∧ Rel prog w ⟨hb, fun a => bad a ∨ W a⟩ st' s'.heap ∧
      Fra c'.ns env' ⟨hb, fun a => bad a ∨ W a⟩ lm st' s'.heap ∧ Go W st₁ st' s₁ s') ?_ (N + 1) (by
    obtain ⟨m, hm⟩ := hD
    exact ⟨0, [], st₁, [], m, rfl, h0, I₁, hm, .nil, R, F, Go.refl _ _ _⟩)
  rintro n' s' ⟨i, acc, st', vs, nD, rfl, hI, hIt, hD', hvs, R', F', g'⟩
  obtain ⟨hiN, hacc, x, hx, hm⟩ := step i acc st' hI
  have out' : ∀ a, W a → st' a = none := fun a ha => g'.outL (out a ha) (live a ha)
  refine it_turn (W := W₀) (N := fun s₁ => RR (.ok .next) s₁) B.hd hIt R' (fun a ha => .inr (hW₀ a ha)) (fun a ha => out' a (hW₀ a ha)) hp hx ?_ ?_
  · intro hxn hE tk kE
    subst hxn
    obtain ⟨m, hm', _⟩ := F'.locs
    exact H acc st' s' vs nD hE tk hm hD' hvs R' ⟨m, hm'⟩ g' kE
  · intro d u h₂ tk₂ hxd xu I₂ k₂ lv₂
    subst hxd
    obtain ⟨l', hl', hev⟩ := hm
    have kk₂ : TupKeep ⟨hb, fun a => bad a ∨ W a⟩ s'.heap h₂ := fun b us m nb e => k₂ b _ (fun q => nb (.inr (hW₀ b q))) e
    have R₂ : Rel prog w ⟨hb, fun a => bad a ∨ W a⟩ st' h₂ := R'.off k₂ kk₂ (fun a ha => out' a (hW₀ a ha)) (fun a ha => (R'.bad a (.inr (hW₀ a ha))).1) lv₂
    have g₂ : Go W₀ st' st' s' { s' with heap := h₂, toks := tk₂ } := Go.but k₂ lv₂
    have dis : ∀ a, frX env' a → ¬ W₀ a := by
      rintro a (rfl | ⟨y, hy⟩)
      · exact hC₀
      · exact fun q => hcell y a hy (hW₀ a q)
    have F₂ : Fra c'.ns env' ⟨hb, fun a => bad a ∨ W a⟩ lm st' h₂ := F'.goX R' g₂ (fun a ha => .inr (hW₀ a ha)) dis
    refine assign_ok (s := { s' with heap := h₂, toks := tk₂ }) B.hd ok htg hl' xu F₂ R₂ fun s₃ F₃ R₃ g₃ => ?_
    have g₃' : Go (· = env'.locals) st' st' { s' with heap := h₂, toks := tk₂ } s₃ := g₃.weaken htgX
    have kk₃ : TupKeep ⟨hb, fun a => bad a ∨ W a⟩ h₂ s₃.heap := g₃'.tupB (s := { s' with heap := h₂, toks := tk₂ }) R₂ (fun a ha => by subst ha; exact .inr hCW)
    have nC : ∀ a, W₀ a → a ≠ env'.locals := fun a ha q => hC₀ (q ▸ ha)
    have nD' : ∀ a, W₀ a → a ≠ D := fun a ha q => hD₀ (q ▸ ha)
    have I₃ : ItR W₀ r (i + 1) itv s₃.heap := I₂.keep fun a o ha e => g₃'.pres a o (out' a (hW₀ a ha)) (nC a ha) e
    have D₃ : IsL s₃.heap D vs.toArray nD := g₃'.pres D _ (out' D hDW) hDC (k₂ D _ hD₀ hD')
    refine he (fun a => bad a ∨ W a) c' env' elt me l' st' _ hce ok hev A s₃ _ _ B F₃ R₃ fun v d' st₄ s₄ q₄ x₄ R₄ g₄ => ?_
    have out₄ : ∀ a, W a → st₄ a = none := fun a ha => g₄.outL (out' a ha) (R₃.bad a (.inr ha)).2
    have D₄ : IsL s₄.heap D vs.toArray nD := g₄.pres D _ (out' D hDW) id D₃
    have kk₄ := g₄.tup0 R₃
    have hvs₄ := ((hvs.keep kk₂).keep kk₃).keep kk₄
    have hlen := hvs.length
    refine call_meets PySem.F.slot_list_append ⟨_, D₄, rfl⟩ PySem.F.entry_list_append (PySem.F.args_list_append_2 _ _) (list_append D vs.toArray nD v (by simp; rw [sizeLine_eq]; omega)) ⟨D₄, ?_⟩
    obtain ⟨m', e2⟩ := upd_list D₄ (·.push v)
    rw [List.push_toArray] at e2
    have sb : Heap.SameBut D s₄.heap (s₄.heap.update D (Obj.mapSeq fun xs => xs.push v)) := Heap.SameBut.update ..
    have k₅ : But (· = D) s₄.heap (s₄.heap.update D (Obj.mapSeq fun xs => xs.push v)) := fun b o hb e => (sb.2 b hb).trans e
    have lv₅ : ∀ a, a = D → (s₄.heap.update D (Obj.mapSeq fun xs => xs.push v)).get? a ≠ none := fun a ha => by subst ha; rw [e2]; exact nofun
    have g₅ : Go (· = D) st₄ st₄ s₄ { s₄ with heap := s₄.heap.update D (Obj.mapSeq fun xs => xs.push v) } := Go.but (tk := s₄.toks) k₅ lv₅
    have kk₅ : TupKeep ⟨hb, fun a => bad a ∨ W a⟩ s₄.heap (s₄.heap.update D (Obj.mapSeq fun xs => xs.push v)) := fun b us m nb e => k₅ b _ (fun q => nb (q ▸ .inr hDW)) e
    have R₅ := R₄.off k₅ kk₅ (fun a ha => by subst ha; exact out₄ _ hDW) (fun a ha => by subst ha; exact (R₄.bad _ (.inr hDW)).1) lv₅
    have F₄ := F₃.go R₃ g₄
    have disD : ∀ a, frX env' a → ¬ a = D := by
      rintro a (rfl | ⟨y, hy⟩) q
      · exact hDC q.symm
      · subst q; exact hcell y _ hy hDW
    have F₅ : Fra c'.ns env' ⟨hb, fun a => bad a ∨ W a⟩ l' st₄ (s₄.heap.update D (Obj.mapSeq fun xs => xs.push v)) := F₄.goX R₄ g₅ (fun a ha => by subst ha; exact .inr hDW) disD
    refine ⟨N + 1 - (i + 1), by omega, i + 1, acc ++ [d'], st₄, vs ++ [v], m', rfl, q₄, ?_, e2, ((hvs₄.append (.one x₄)).keep kk₅), R₅, F₅.sub (hsub d l' hl'), ?_⟩
    · exact (I₃.keep fun a o ha e => g₄.pres a o (out' a (hW₀ a ha)) id e).keep fun a o ha e => k₅ a o (nD' a ha) e
    · exact (((g'.trans (g₂.weaken hW₀)).trans (g₃'.weaken fun a ha => by subst ha; exact hCW)).trans (g₄.weaken fun a ha => ha.elim)).trans (g₅.weaken fun a ha => by subst ha; exact hDW)
end
end Mine

end

section
set_option linter.unusedVariables false
set_option linter.unusedSimpArgs false
set_option maxHeartbeats 1000000
namespace Mine
open PySem PySem.W PySem.Calls PyProof.Rows PySem.SeqAt PySem.MeetsSeq
open Sem (wp)

section
variable {prog : Program} {w : World} {hb : Heap} {K : Frag} {mg mb : Str → Option Value} {gl : Str → Option GV} {T : Tab} {k : Nat}
variable {bad W : Addr → Prop} {ns : List Str} {env : Env} {l : Loc} {st : Sto} {s : Shared} {A : Around} {EE : Value → Shared → Prop}

theorem names_all : ∀ {es : List Expr} {xs : List Str}, namesIn es = some xs → (namesIn es).getD [] = xs := fun h => by rw [h]; rfl

theorem ctx_comp {c : Ctx} {scope : Scope} {tg it : Expr} (ok : CtxOk c env gl) (S : Sco c scope tg it) (hk : env.scope.kind = .function) (C : Addr) :
    CtxOk { c with names := relabelN c scope.names } (compEnvC scope (closL env scope.names []) C env) gl :=
  ⟨relabelN_eq hk ok.kind, ok.gl, ok.nd⟩

theorem tgt_local {c : Ctx} {scope : Scope} {tg it : Expr} {C : Addr} (S : Sco c scope tg it) (hk : env.scope.kind = .function) : ∀ y ∈ tgNames tg, (compEnvC scope (closL env scope.names []) C env).kindOf y = some .local := by
  intro y hy
  show (relabel scope env).names.lookup y = _
  rw [relabel_lookup hk, S.tgs y hy]; rfl

theorem tgt_X {c : Ctx} {env' : Env} {tg : Expr} {is : List Nat} (ht : targets c tg = some is) (h : ∀ y ∈ tgNames tg, env'.kindOf y = some .local) : ∀ a, tgX env' tg a → a = env'.locals := by
  have st : ∀ y a, env'.kindOf y = some .local → stX env' y a → a = env'.locals := fun y a hy hx => by
    rcases hx with ⟨_, h⟩ | ⟨h, _⟩
    · exact h
    · rw [hy] at h; cases h
  intro a ha
  cases tg <;> try exact ha.elim
  · exact st _ a (h _ (List.mem_singleton.mpr rfl)) ha
  · obtain ⟨xs, h1, y, hy, h2⟩ := ha
    refine st y a (h y ?_) h2
    show y ∈ (namesIn _).getD []
    rw [h1]; exact hy

/-- the targets' places are not seen from without -/
theorem varsIn_mem {c : Ctx} : ∀ {xs : List Str} {is : List Nat}, varsIn c xs = some is → ∀ i ∈ is, ∃ x ∈ xs, c.var x = some i
  | [], is, h, i, hi => by simp [varsIn] at h; subst h; simp at hi
  | x :: xs, is, h, i, hi => by
    simp only [varsIn] at h
    split at h
    · rename_i i0 is0 e1 e2
      cases h
      rcases List.mem_cons.mp hi with rfl | hi
      · exact ⟨x, List.mem_cons_self .., e1⟩
      · obtain ⟨y, hy, e⟩ := varsIn_mem e2 i hi; exact ⟨y, List.mem_cons_of_mem _ hy, e⟩
    · cases h
theorem targets_mem {c : Ctx} {tg : Expr} {is : List Nat} (ht : targets c tg = some is) : ∀ i ∈ is, ∃ x ∈ tgNames tg, c.var x = some i := by
  intro i hi
  cases tg <;> try (simp [targets] at ht; done)
  · rename_i x p
    simp only [targets, Option.map_eq_some_iff] at ht
    obtain ⟨j, e, rfl⟩ := ht
    simp at hi; subst hi
    exact ⟨x, List.mem_singleton.mpr rfl, e⟩
  · rename_i es kk p
    simp only [targets] at ht
    split at ht
    · rename_i y z e
      split at ht
      · cases ht
      · obtain ⟨x, hx, e'⟩ := varsIn_mem ht i hi
        exact ⟨x, by show x ∈ (namesIn _).getD []; rw [e]; exact hx, e'⟩
    · cases ht
theorem put_other {l : Loc} {i j : Nat} {d : AV} (h : j ≠ i) : put l i d j = l j := by unfold put; rw [if_neg h]
theorem putAll_other : ∀ {is : List Nat} {ds : List AV} {l l' : Loc} {j : Nat}, putAll is ds l = some l' → j ∉ is → l' j = l j
  | [], [], l, l', j, h, _ => by simp [putAll] at h; rw [h]
  | [], _ :: _, _, _, _, h, _ => by simp [putAll] at h
  | _ :: _, [], _, _, _, h, _ => by simp [putAll] at h
  | i :: is, d :: ds, l, l', j, h, hj => by
    simp only [putAll] at h
    rw [putAll_other h (fun q => hj (List.mem_cons_of_mem _ q))]
    exact put_other fun q => hj (q ▸ List.mem_cons_self ..)
theorem bindT_other {is : List Nat} {d : AV} {l l' : Loc} {j : Nat} (h : bindT is d l = some l') (hj : j ∉ is) : l' j = l j := by
  unfold bindT at h
  split at h
  · cases h; exact put_other fun q => hj (by simp [q])
  · exact putAll_other h hj
  · cases h
theorem tgt_sub {c : Ctx} {scope : Scope} {tg it : Expr} {is : List Nat} {C : Addr} (ok : CtxOk c env gl) (S : Sco c scope tg it) (hk : env.scope.kind = .function) (ht : targets { c with names := relabelN c scope.names } tg = some is) :
    ∀ d l', bindT is d (mask (seen c scope.names) l) = some l' → ∀ i v, mask (seen c scope.names) l i = some v → l' i = some v := by
  intro d l' hl i v hv
  rw [bindT_other hl, hv]
  intro hi
  obtain ⟨x, hx, e⟩ := targets_mem ht i hi
  obtain ⟨e1, _⟩ := var_of (ctx_comp ok S hk C) e
  have e1 : c.ns[i]? = some x := e1
  unfold mask at hv
  split at hv
  · rename_i hm
    obtain ⟨y, y1, y2, y3⟩ := seen_iff.mp hm
    rw [e1] at y1; cases y1
    rw [S.tgs x hx] at y3; cases y3
  · cases hv

/-- a comprehension -/
theorem comp_run {n m : Nat} {c : Ctx} {elt tg it : Expr} {scope : Scope} {pos p1 : Pos} {me : ME} {mi : MI} {is : List Nat} {Q : AV → Sto → Prop} {QQ : Value → Shared → Prop} {use : Option (Value → Sem Unit)}
    (he : ExprOk prog w hb gl T k n) (hi : IterOk prog w hb gl T k m) (hci : compI m c it = some mi) (hce : comp n { c with names := relabelN c scope.names } elt = some me) (htg : targets { c with names := relabelN c scope.names } tg = some is) (hpair : pairsMI mi = (is.length == 2))
    (ok : CtxOk c env gl) (S : Sco c scope tg it) (h : evP T (CallS prog w hb k) (.comp me mi is (seen c scope.names)) l st Q) (B : Body k A) (F : Fra c.ns env ⟨hb, bad⟩ l st s.heap) (R : Rel prog w ⟨hb, bad⟩ st s.heap)
    (H : ∀ D C stF s', Q (.loc D) stF → Rel prog w ⟨hb, bad⟩ stF s'.heap → Go noX st stF s s' → s.heap.get? C = none → stF C = none → hb.get? C = none → (∃ m, s'.heap.Ns C m) → compPost (model prog w) A EE use QQ (.ref D) C (.ok .next) s') :
    wpAny (model prog w) A (comprehension (.ListComp elt [⟨tg, it, [], 0⟩] scope pos) scope env p1 (newList []) false (eval it env) use) QQ EE s := by
  simp only [evP] at h
  have hfr : ∀ x ∈ scope.names, x.2 = .free → ∃ c, env.cells.lookup x.1 = some c := by
    intro x hx hf
    obtain ⟨hkx, hmx⟩ := S.free x hx hf
    rw [ok.kind] at hkx
    obtain ⟨i, hi, e⟩ := List.getElem_of_mem hmx
    obtain ⟨c', cv, h1, _⟩ := F.cells i x.1 (by rw [List.getElem?_eq_getElem hi, e]) hkx
    exact ⟨c', h1⟩
  refine wpAny_comprehension_free (g := ⟨tg, it, [], 0⟩) (gs := []) rfl (folded_plain S.set) (closure_of hfr) S.kind S.loc ?_
  refine hi bad c env it mi l st _ hci ok h A s _ EE B F R ?_
  intro W₀ r st₁ s₁ itv h' tk q R₁ g₁ k₁ f₁ l₁ I₁
  obtain ⟨⟨Inv, N, h0, step⟩, hpr⟩ := q
  refine wpAny_newObj_type (wpAny_newFunctionEnv S.cell (by intro y hy; simp at hy) (fun h₁ hns₁ hsb₁ => ?_) S.kind)
  dsimp only at hns₁ hsb₁ ⊢
  have F₁ := F.go R g₁
  generalize hDe : h'.objs.size = D at *
  have fD : h'.get? D = none := by rw [← hDe]; exact size_free _
  generalize hH2 : h'.push { cls := .type "list", dict := none, data := .seq ([] : List Value).toArray } = H2 at hns₁ hsb₁ ⊢
  have hCs : H2.objs.size = D + 1 := by rw [← hH2, Heap.size_push, hDe]
  generalize hCe : H2.objs.size = C at *
  have hCD : D ≠ C := by rw [hCs]; exact Nat.ne_of_lt (Nat.lt_succ_self _)
  have fC : h'.get? C = none := over_none (by rw [hDe, hCs]; exact Nat.le_succ _)
  have k₂ : ∀ b o, h'.get? b = some o → h₁.get? b = some o := fun b o e => hsb₁.extBut b o (fun q => by subst q; rw [fC] at e; cases e) (Heap.get?_push_of_some _ (hH2 ▸ Heap.get?_push_of_some _ e))
  have k₃ : ∀ b o, s₁.heap.get? b = some o → h₁.get? b = some o := fun b o e => k₂ b o (k₁ b o e)
  have D₁ : IsL h₁ D #[] 0 := hsb₁.extBut _ _ hCD (Heap.get?_push_of_some _ (by rw [← hH2, ← hDe]; exact Heap.get?_push_size _ rfl))
  have f₁' : ∀ a, h'.get? a = none → s₁.heap.get? a = none := fun a e => by
    cases q : s₁.heap.get? a with
    | none => rfl
    | some o => rw [k₁ a o q] at e; cases e
  have fresh : ∀ a, (W₀ a ∨ a = D ∨ a = C) → s₁.heap.get? a = none := by
    rintro a (ha | rfl | rfl)
    · exact f₁ a ha
    · exact f₁' _ fD
    · exact f₁' _ fC
  have live : ∀ a, (W₀ a ∨ a = D ∨ a = C) → h₁.get? a ≠ none := by
    rintro a (ha | rfl | rfl)
    · have := l₁ a ha
      cases q : h'.get? a with
      | none => exact absurd q this
      | some o => rw [k₂ a o q]; exact nofun
    · rw [D₁]; exact nofun
    · obtain ⟨o, _, _, ho, _⟩ := hns₁; rw [ho]; exact nofun
  have nD₀ : ¬ W₀ D := fun q => l₁ D q fD
  have nC₀ : ¬ W₀ C := fun q => l₁ C q fC
  have R₂ : Rel prog w ⟨hb, fun a => bad a ∨ (W₀ a ∨ a = D ∨ a = C)⟩ st₁ h₁ := R₁.enter k₃ fresh live
  have F₂ := fra_comp (W := fun a => W₀ a ∨ a = D ∨ a = C) ok S F₁ R₁ k₃ fresh hns₁ (fresh C (.inr (.inr rfl)))
  have out₁ : ∀ a, (W₀ a ∨ a = D ∨ a = C) → st₁ a = none := fun a ha => R₁.out (fresh a ha)
  have I₂ : ItR W₀ r 0 itv h₁ := I₁.keep fun a o _ e => k₂ a o e
  have loop : ∀ s₃ : Shared, s₃ = { s₁ with heap := h₁, toks := tk + ([] : List (Str × Value)).length } →
      codeAny (model prog w) A (.compLoop (.ListComp elt [⟨tg, it, [], 0⟩] scope pos) 0 itv (.ref D) (compEnvC scope (closL env scope.names []) C env)) (compPost (model prog w) A EE use QQ (.ref D) C) s₃ := by
    rintro s₃ rfl
    refine comp_loop (W := fun a => W₀ a ∨ a = D ∨ a = C) (W₀ := W₀) (Inv := Inv) (N := N) (l := l) B he hce (ctx_comp ok S F.kind C) htg (hpr.trans hpair) (fun a ha => .inl ha) (.inr (.inl rfl)) (.inr (.inr rfl)) nD₀ nC₀ hCD
      (tgt_X htg (tgt_local S F.kind)) ?_ (tgt_sub (C := C) ok S F.kind htg) out₁ live h0 step I₂ ⟨0, D₁⟩ R₂ F₂ ?_
    · intro x c' hx hw
      have := closL_look (env := env) scope.names [] (fun x c e => by simp at e) x c' hx
      obtain ⟨_, _, cv, o, ho, _⟩ := F₁.capart x c' this
      rw [fresh c' hw] at ho; cases ho
    · intro acc st' s' vs nD hE tkE q hD hvs R' hns g' kE
      have out' : ∀ a, (W₀ a ∨ a = D ∨ a = C) → st' a = none := fun a ha => g'.outL (out₁ a ha) (live a ha)
      have kE' : But (fun a => W₀ a ∨ a = D ∨ a = C) s'.heap hE := fun b o nb e => kE b o (fun z => nb (.inl z)) e
      have RE : Rel prog w ⟨hb, bad⟩ st' hE := R'.leave kE' out' fun a ha hw => (R₁.bad a ha).2 (fresh a hw)
      have DE : IsL hE D vs.toArray nD := kE D _ nD₀ hD
      have hbD : hb.get? D = none := R₁.free (fresh D (.inr (.inl rfl)))
      have hbC : hb.get? C = none := R₁.free (fresh C (.inr (.inr rfl)))
      have RF : Rel prog w ⟨hb, bad⟩ (upd st' D (.list acc)) hE := RE.at hbD (fun b p _ e => e) (TupKeep.refl _ _) ⟨vs, nD, DE, hvs.leave kE'⟩
      have gX : Go (fun a => noX a ∨ (W₀ a ∨ a = D ∨ a = C)) st₁ st' s₁ s' := (((Go.ext (X := fun a => W₀ a ∨ a = D ∨ a = C) (st := st₁) (s := s₁) (h := h₁) (tk := tk + ([] : List (Str × Value)).length) k₃)).trans g').weaken fun a ha => .inr ha
      have gF : Go noX st₁ st' s₁ { s' with heap := hE, toks := tkE } := gX.leave fresh kE'
      have gA := g₁.trans gF
      have fs : ∀ a, s₁.heap.get? a = none → s.heap.get? a = none := fun a e => by
        cases z : s.heap.get? a with
        | none => rfl
        | some o => exact absurd e (g₁.live a (by rw [z]; exact nofun))
      have gB : Go noX st (upd st' D (.list acc)) s { s' with heap := hE, toks := tkE } := gA.adopt (fs D (fresh D (.inr (.inl rfl)))) (fun b p _ e => e) (by rw [DE]; exact nofun)
      refine H D C _ _ (q D (out' D (.inr (.inl rfl)))) RF gB (fs C (fresh C (.inr (.inr rfl)))) ?_ hbC ?_
      · unfold upd; rw [if_neg hCD.symm]; exact out' C (.inr (.inr rfl))
      · obtain ⟨m, hm⟩ := hns
        exact ⟨m, hm.at' fun o e => kE C o nC₀ e⟩
  exact codeAny_compStart_list (loop _ rfl) (it_self I₂ (loop _ rfl))
end
end Mine

end

section
set_option linter.unusedVariables false
set_option linter.unusedSimpArgs false
set_option maxHeartbeats 4000000
namespace Mine
open PySem PySem.W PySem.Calls PyProof.Rows PySem.SeqAt PySem.MeetsSeq
open Sem (wp)

section
variable {prog : Program} {w : World} {hb : Heap} {K : Frag} {mg mb : Str → Option Value} {gl : Str → Option GV} {T : Tab} {k : Nat}
variable {base : Bs} {ns : List Str} {env : Env} {l : Loc} {st : Sto} {s : Shared} {A : Around} {EE : Value → Shared → Prop}

theorem opt_step {n : Nat} (he : ExprOk prog w hb gl T k n) : OptOk prog w hb gl T k (n + 1) := by
  intro bad c env e me l st Q hc ok h
  cases e with
  | none =>
    simp only [compOpt, Option.some.injEq] at hc; subst hc
    simp only [evP] at h
    exact part_none h
  | some e =>
    simp only [compOpt] at hc
    exact he bad c env e me l st Q hc ok h
theorem list_step {n : Nat} (he : ExprOk prog w hb gl T k n) (hl : ListOk prog w hb gl T k n) : ListOk prog w hb gl T k (n + 1) := by
  intro bad c env es ms l st Q pos hc ok h
  cases es with
  | nil =>
    simp only [comps, Option.some.injEq] at hc; subst hc
    simp only [evPs] at h
    exact args_nil h
  | cons e r =>
    simp only [comps] at hc
    split at hc
    · rename_i x xs h1 h2
      cases hc
      simp only [evPs] at h
      exact args_cons (comp_plain h1) (he bad c env e x l st _ h1 ok h) fun x st q => hl bad c env r xs l st _ pos h2 ok q
    · cases hc
theorem bool_step {n : Nat} (he : ExprOk prog w hb gl T k n) (hl : BoolOk prog w hb gl T k n) : BoolOk prog w hb gl T k (n + 1) := by
  intro bad c env op es me l st Q pos hc ok h
  match es with
  | [] => simp [compB] at hc
  | [v] =>
    simp only [compB] at hc
    exact he bad c env v me l st Q hc ok h
  | v :: y :: r =>
    simp only [compB] at hc
    split at hc
    · rename_i x z h1 h2
      cases op <;> (cases hc; simp only [evP] at h; intro A s QQ EE B F R o)
      · refine boolOp_link (he bad c env v x l st _ h1 ok h A s _ EE B F R fun u d st₁ s₁ q x₁ R₁ g₁ => truth_ok x₁ q fun b hd p => ?_)
        cases b with
        | false => subst hd; exact o _ _ _ _ (p.2 rfl) x₁ R₁ g₁
        | true => exact hl bad c env .And (y :: r) z l st₁ Q pos h2 ok (p.1 rfl) A s₁ QQ EE B (F.go R g₁) R₁ (o.after g₁)
      · refine boolOp_link (he bad c env v x l st _ h1 ok h A s _ EE B F R fun u d st₁ s₁ q x₁ R₁ g₁ => truth_ok x₁ q fun b hd p => ?_)
        cases b with
        | true => subst hd; exact o _ _ _ _ (p.1 rfl) x₁ R₁ g₁
        | false => exact hl bad c env .Or (y :: r) z l st₁ Q pos h2 ok (p.2 rfl) A s₁ QQ EE B (F.go R g₁) R₁ (o.after g₁)
    · cases hc
theorem allTrue_one {M : Model} {op : BoolOp} {x : Expr} {Q : Bool → Shared → Prop} (h : wpAny M A (isTrue x env (eval x env)) Q EE s) : wpAny M A (allTrue op [x] env) Q EE s := by
  cases op
  · refine wpAny_allTrue_And_cons (wpAny_mono h (fun b s₁ q => ?_) fun _ _ e => e)
    cases b
    · exact q
    · exact wpAny_allTrue_And_nil q
  · show wpAny M A (do match BoolOp.Or, ← isTrue x env (eval x env) with | .And, false => pure false | .Or, true => pure true | _, _ => allTrue .Or [] env) Q EE s
    refine wpAny_bind (wpAny_mono h (fun b s₁ q => ?_) fun _ _ e => e)
    cases b
    · exact wpAny_allTrue_Or_nil q
    · exact wpAny_pure q
theorem tests_step {n : Nat} (he : TestOk prog w hb gl T k n) (hl : TestsOk prog w hb gl T k n) : TestsOk prog w hb gl T k (n + 1) := by
  intro bad c env op es t l st Q hc ok h
  match es with
  | [] => simp [compTB] at hc
  | [v] =>
    simp only [compTB] at hc
    intro A s QQ EE B F R o
    exact allTrue_one (he bad c env v t l st Q hc ok h A s QQ EE B F R o)
  | v :: y :: r =>
    simp only [compTB] at hc
    split at hc
    · rename_i x z h1 h2
      cases op <;> (cases hc; simp only [tsP] at h; intro A s QQ EE B F R o)
      · refine wpAny_allTrue_And_cons (he bad c env v x l st _ h1 ok h A s _ EE B F R fun b st₁ s₁ q R₁ g₁ => ?_)
        cases b with
        | false => exact o _ _ _ (q.2 rfl) R₁ g₁
        | true => exact hl bad c env .And (y :: r) z l st₁ Q h2 ok (q.1 rfl) A s₁ QQ EE B (F.go R g₁) R₁ fun b st₂ s₂ q R₂ g₂ => o b st₂ s₂ q R₂ (g₁.trans g₂)
      · show wpAny (model prog w) A (do match BoolOp.Or, ← isTrue v env (eval v env) with | .And, false => pure false | .Or, true => pure true | _, _ => allTrue .Or (y :: r) env) QQ EE s
        refine wpAny_bind (he bad c env v x l st _ h1 ok h A s _ EE B F R fun b st₁ s₁ q R₁ g₁ => ?_)
        cases b with
        | true => exact wpAny_pure (o _ _ _ (q.1 rfl) R₁ g₁)
        | false => exact hl bad c env .Or (y :: r) z l st₁ Q h2 ok (q.2 rfl) A s₁ QQ EE B (F.go R g₁) R₁ fun b st₂ s₂ q R₂ g₂ => o b st₂ s₂ q R₂ (g₁.trans g₂)
    · cases hc

theorem TriB.mono {t : Sem Bool} {Q Q' : Bool → Sto → Prop} (h : TriB prog w base k ns env l st t Q) (q : ∀ x st, Q x st → Q' x st) : TriB prog w base k ns env l st t Q' :=
  fun A s QQ EE B F R o => h A s QQ EE B F R fun b st' s' q' => o b st' s' (q _ _ q')

theorem test_chain {a b d : Expr} {o1 o2 : CmpOp} {c1 c2 : COp} {pos : Pos} {P : AV → Sto → Prop} {P' : AV → AV → Sto → Prop} {P₃ : AV → Sto → Prop} {QB : Bool → Sto → Prop} {whole : Sem Value} (h1 : compO o1 = some c1) (h2 : compO o2 = some c2)
    (ha : TriE prog w base k ns env l st (eval a env) P) (hb : ∀ x st₁, P x st₁ → TriE prog w base k ns env l st₁ (eval b env) (P' x))
    (h : ∀ x y st, P' x y st → cmpP c1 x y st fun r st => truthP r fun t => (t = true → P₃ y st) ∧ (t = false → truthP (.bool false) fun b => QB b st))
    (hd : ∀ y st, P₃ y st → TriE prog w base k ns env l st (eval d env) fun z st => cmpP c2 y z st fun x st => truthP x fun b => QB b st) :
    TriB prog w base k ns env l st (isTrue (.Compare a [o1, o2] [b, d] pos) env whole) QB := by
  intro A s QQ EE B F R o
  refine isTrue_chain (rs := []) (ops := []) (wpAny_mono (ha A s (fun v₁ s₁ => wpAny (model prog w) A (testChain pos v₁ (o1 :: o2 :: []) (eval b env :: eval d env :: [])) QQ EE s₁) EE B F R ?_) (fun _ _ x => x) fun _ _ x => x) (by
    show behindInMarks o2 d = false
    exact marks_no h2 d)
  intro v₁ x st₁ s₁ q₁ x₁ R₁ g₁
  have F₁ := F.go R g₁
  refine test_link (hb x st₁ q₁ A s₁ _ EE B F₁ R₁ fun v₂ y st₂ s₂ q₂ x₂ R₂ g₂ => ?_)
  have F₂ := F₁.go R₁ g₂
  rw [opOf_of h1]
  refine cmp_ok R₂ (by have := B.line; omega) (x₁.keep (g₂.tup0 R₁)) x₂ (h _ _ _ q₂) fun v d' st₃ s₃ q₃ x₃ R₃ g₃ => ?_
  have F₃ := F₂.go R₂ g₃
  refine truth_ok x₃ q₃ fun t e p => ?_
  cases t with
  | false =>
    obtain ⟨b, hb, q⟩ := p.2 rfl
    cases hb
    exact o _ _ _ q R₃ ((g₁.trans g₂).trans g₃)
  | true =>
    refine test_last (hd y st₃ (p.1 rfl) A s₃ _ EE B F₃ R₃ fun v₄ z st₄ s₄ q₄ x₄ R₄ g₄ => ?_)
    rw [opOf_of h2]
    refine cmp_ok R₄ (by have := B.line; omega) ((x₂.keep (g₃.tup0 R₂)).keep (g₄.tup0 R₃)) x₄ q₄ fun v d st₅ s₅ q₅ x₅ R₅ g₅ => ?_
    exact truth_ok x₅ q₅ fun b _ p => o b st₅ s₅ p R₅ ((((g₁.trans g₂).trans g₃).trans g₄).trans g₅)

theorem test_step {n : Nat} (he : ExprOk prog w hb gl T k n) (he' : ∀ m, n = m + 1 → ExprOk prog w hb gl T k m) (ht : TestOk prog w hb gl T k n) (hts : TestsOk prog w hb gl T k n) : TestOk prog w hb gl T k (n + 1) := by
  intro bad c env e t l st Q hc ok h
  have plain : ∀ me, comp n c e = some me → t = .val me → (∀ whole : Sem Value, isTrue e env whole = (do let v ← whole; standAt e.pos; holding [v] (truthy v))) → TriB prog w ⟨hb, bad⟩ k c.ns env l st (isTrue e env (eval e env)) Q := by
    intro me h1 ht he1 A s QQ EE B F R o
    subst ht
    simp only [tsP] at h
    refine isTrue_plain (he bad c env e me l st _ h1 ok h A s _ EE B F R fun v x st' s' q x₁ R' g => ?_) (he1 _)
    exact truth_ok x₁ q fun b _ p => o b st' s' p R' g
  unfold compT at hc
  split at hc
  · obtain ⟨t', h1, rfl⟩ := Option.map_eq_some_iff.mp hc
    simp only [tsP] at h
    intro A s QQ EE B F R o
    exact wpAny_isTrue_Not (ht bad c env _ t' l st _ h1 ok h A s _ EE B F R fun b st' s' q => o _ st' s' q)
  · intro A s QQ EE B F R o
    exact wpAny_isTrue_BoolOp (hts bad c env _ _ t l st Q hc ok h A s QQ EE B F R o)
  · split at hc
    · rename_i ti a b p _ _ _ mt x y h1 h2 h3
      cases hc
      simp only [tsP] at h
      intro A s QQ EE B F R o
      refine isTrue_IfExp (ht bad c env ti mt l st _ h1 ok h A s _ EE B F R fun b' st₁ s₁ q R₁ g₁ => ?_)
      cases b' with
      | true => exact ht bad c env a x l st₁ Q h2 ok (q.1 rfl) A s₁ QQ EE B (F.go R g₁) R₁ fun b st₂ s₂ q R₂ g₂ => o b st₂ s₂ q R₂ (g₁.trans g₂)
      | false => exact ht bad c env b y l st₁ Q h3 ok (q.2 rfl) A s₁ QQ EE B (F.go R g₁) R₁ fun b st₂ s₂ q R₂ g₂ => o b st₂ s₂ q R₂ (g₁.trans g₂)
    · cases hc
  · rename_i hn1 hn2 hn3
    obtain ⟨me, h1, rfl⟩ := Option.map_eq_some_iff.mp hc
    cases e <;> try exact plain me h1 rfl (fun _ => rfl)
    · exact absurd rfl (hn2 _ _ _)
    · rename_i op a p
      cases op <;> first | exact plain me h1 rfl (fun _ => rfl) | exact absurd rfl (hn1 _ _)
    · exact absurd rfl (hn3 _ _ _ _)
    · rename_i a ops bs pos
      simp only [tsP] at h
      cases n with
      | zero => simp [comp] at h1
      | succ m =>
        have he := he' m rfl
        match ops, bs, h1 with
        | [op], [b], h1 =>
          simp only [comp] at h1
          split at h1
          · rename_i x y o e1 e2 e3
            cases h1
            simp only [evP] at h
            exact test_cmp e3 (he bad c env a x l st _ e1 ok h) (fun x st₁ q => he bad c env b y l st₁ _ e2 ok q) fun x y st q => q
          · cases h1
        | [o1, o2], [b, d], h1 =>
          simp only [comp] at h1
          split at h1
          · rename_i x y z c1 c2 e1 e2 e3 e4 e5
            cases h1
            simp only [evP] at h
            refine test_chain e4 e5 (he bad c env a x l st _ e1 ok h) (fun x st₁ q => he bad c env b y l st₁ _ e2 ok q) (fun x y st q => q) fun y' st q => he bad c env d z l st _ e3 ok q
          · cases h1
        | [], _, h1 => simp [comp] at h1
        | _ :: _ :: _ :: _, _, h1 => simp [comp] at h1
        | [_], [], h1 => simp [comp] at h1
        | [_], _ :: _ :: _, h1 => simp [comp] at h1
        | [_, _], [], h1 => simp [comp] at h1
        | [_, _], [_], h1 => simp [comp] at h1
        | [_, _], _ :: _ :: _ :: _, h1 => simp [comp] at h1
end
end Mine

end

section
set_option linter.unusedVariables false
set_option linter.unusedSimpArgs false
set_option maxHeartbeats 4000000
namespace Mine
open PySem PySem.W PySem.Calls PyProof.Rows PySem.SeqAt PySem.MeetsSeq
open Sem (wp)

section
variable {prog : Program} {w : World} {hb : Heap} {K : Frag} {mg mb : Str → Option Value} {gl : Str → Option GV} {T : Tab} {k : Nat}
variable {base : Bs} {ns : List Str} {env : Env} {l : Loc} {st : Sto} {s : Shared} {A : Around} {EE : Value → Shared → Prop}

/-- an object beside the store goes as it likes -/
theorem Rel.drop {st stF : Sto} {s s' : Shared} {C : Addr} {h' : Heap} {m : Str → Option Value} {X : Addr → Prop} (R : Rel prog w base stF s'.heap) (g : Go X st stF s s') (fC : s.heap.get? C = none) (oC : stF C = none) (bC : base.heap.get? C = none) (nC : ¬ base.bad C) (hm : s'.heap.Ns C m) (sb : Heap.SameBut C s'.heap h') :
    Rel prog w base stF h' ∧ Go X st stF s { s' with heap := h' } := by
  have kb : But (· = C) s'.heap h' := fun b o nb e => (sb.2 b nb).trans e
  obtain ⟨oC', es, ep, ho, hd, _⟩ := hm
  have tk : TupKeep base s'.heap h' := fun b us n _ e => kb b _ (fun q => by subst q; rw [e] at ho; cases ho; cases hd) e
  have ne : ∀ a o, stF a = some o → a ≠ C := fun a o e q => by rw [q, oC] at e; cases e
  refine ⟨⟨fun a o e => ?_, R.new, fun a o e => kb _ _ (fun q => by subst q; rw [bC] at e; cases e) (R.keep a o e), fun a e => ⟨(R.bad a e).1, fun q => ?_⟩⟩, ?_⟩
  · have x := R.obj a o e
    obtain ⟨p, hp, _⟩ := x.data
    exact x.keep tk (by rw [kb _ _ (ne a o e) hp, hp])
  · have z : a ≠ C := fun q => nC (q ▸ e)
    cases y : s'.heap.get? a with
    | none => exact (R.bad a e).2 y
    | some p => rw [kb _ _ z y] at q; cases q
  · exact (g.weaken (Y := fun a => X a ∨ a = C) fun a ha => .inl ha).leave (tk := s'.toks) (fun a ha => by subst ha; exact fC) kb

theorem expr_step {n : Nat} (G : Gr prog w hb K mg mb gl T) (he : ExprOk prog w hb gl T k n) (ho : OptOk prog w hb gl T k n) (hl : ListOk prog w hb gl T k n) (hbo : BoolOk prog w hb gl T k n) (ht : TestOk prog w hb gl T k n) (hi : IterOk prog w hb gl T k n) (hp : PairsOk prog w hb gl T k n) :
    ExprOk prog w hb gl T k (n + 1) := by
  intro bad c env e me l st Q hc ok h
  unfold comp at hc
  split at hc
  · cases hc; simp only [evP] at h; intro A s QQ EE B F R o; exact wpAny_Constant_none (o.now R h .none)
  · cases hc; simp only [evP] at h; intro A s QQ EE B F R o; exact wpAny_Constant_bool (o.now R h (.bool _))
  · cases hc; simp only [evP] at h; intro A s QQ EE B F R o; exact wpAny_Constant_int (o.tok R _ h (.int _ _))
  · cases hc; simp only [evP] at h; intro A s QQ EE B F R o; exact wpAny_Constant_str (o.tok R _ h (.str _ _))
  · rename_i x p
    split at hc
    · cases hc
    · rename_i hd
      have hd' : (x == ("__debug__" : Str)) = false := by simpa using hd
      split at hc
      · rename_i i hv
        cases hc
        simp only [evP] at h
        obtain ⟨d, hd1, hq⟩ := h
        obtain ⟨v1, v2⟩ := var_of ok hv
        intro A s QQ EE B F R o
        exact wpAny_Name (var_ok F R v1 v2 hd1 hq o) hd'
      · split at hc
        · rename_i d hg
          cases hc
          simp only [evP] at h
          obtain ⟨g1, g2, g3⟩ := glob_of ok hg
          exact expr_data (base := ⟨hb, bad⟩) G g1 g2 g3 h
        · cases hc
  · obtain ⟨ms, h1, rfl⟩ := Option.map_eq_some_iff.mp hc
    simp only [evP] at h
    exact expr_tuple (hl bad c env _ ms l st _ _ h1 ok h)
  · obtain ⟨ms, h1, rfl⟩ := Option.map_eq_some_iff.mp hc
    simp only [evP] at h
    exact expr_list (hl bad c env _ ms l st _ _ h1 ok h)
  · split at hc
    · rename_i ks ms h1 h2
      split at hc
      · rename_i hcond
        cases hc
        simp only [Bool.and_eq_true, decide_eq_true_eq, beq_iff_eq, bne_iff_ne] at hcond
        simp only [evP] at h
        exact expr_dict (bad := bad) hp h1 h2 ok h hcond.1.1.2 (fun q => hcond.2 (by rw [q]; rfl)) hcond.1.2 hcond.1.1.1
      · cases hc
    · cases hc
  · rename_i a op b p
    split at hc
    · rename_i x y h1 h2
      split at hc <;> try (cases hc; done)
      all_goals (cases hc; simp only [evP] at h)
      · exact expr_binop (bo := .add) rfl (he bad c env a x l st _ h1 ok h) (fun x st₁ q => he bad c env b y l st₁ _ h2 ok q) fun x y st q => q
      · exact expr_binop (bo := .sub) rfl (he bad c env a x l st _ h1 ok h) (fun x st₁ q => he bad c env b y l st₁ _ h2 ok q) fun x y st q => q
      · exact expr_binop (bo := .mul) rfl (he bad c env a x l st _ h1 ok h) (fun x st₁ q => he bad c env b y l st₁ _ h2 ok q) fun x y st q => q
      · exact expr_binop (bo := .md) rfl (he bad c env a x l st _ h1 ok h) (fun x st₁ q => he bad c env b y l st₁ _ h2 ok q) fun x y st q => q
      · exact expr_fdiv (he bad c env a x l st _ h1 ok h) (fun x st₁ q => he bad c env b y l st₁ _ h2 ok q) fun x y st q => q
    · cases hc
  · obtain ⟨x, h1, rfl⟩ := Option.map_eq_some_iff.mp hc
    simp only [evP] at h
    exact expr_neg (he bad c env _ x l st _ h1 ok h)
  · obtain ⟨x, h1, rfl⟩ := Option.map_eq_some_iff.mp hc
    simp only [evP] at h
    exact expr_not (he bad c env _ x l st _ h1 ok h)
  · rename_i op vs p
    intro A s QQ EE B F R o
    rw [arm_eval_BoolOp]
    exact hbo bad c env op vs me l st Q p hc ok h A s QQ EE B F R o
  · rename_i t a b p
    split at hc
    · rename_i mt x y h1 h2 h3
      cases hc
      simp only [evP] at h
      exact expr_if (ht bad c env t mt l st _ h1 ok h) (fun st q => he bad c env a x l st Q h2 ok q) (fun st q => he bad c env b y l st Q h3 ok q)
    · cases hc
  · rename_i a op b p
    split at hc
    · rename_i x y o h1 h2 h3
      cases hc
      simp only [evP] at h
      exact expr_cmp h3 (he bad c env a x l st _ h1 ok h) (fun x st₁ q => he bad c env b y l st₁ _ h2 ok q) fun x y st q => q
    · cases hc
  · rename_i a o1 o2 b d p
    split at hc
    · rename_i x y z c1 c2 h1 h2 h3 h4 h5
      cases hc
      simp only [evP] at h
      exact expr_chain (P₃ := fun y _ st => evP T (CallS prog w hb k) z l st fun z st => cmpP c2 y z st Q) h4 h5 (he bad c env a x l st _ h1 ok h) (fun x st₁ q => he bad c env b y l st₁ _ h2 ok q) (fun x y st q => q) fun y' st q => he bad c env d z l st _ h3 ok q
    · cases hc
  · rename_i o name apos as pos
    split at hc
    · rename_i hcond
      simp only [Bool.and_eq_true, decide_eq_true_eq, Bool.not_eq_true'] at hcond
      obtain ⟨⟨hline, hlu⟩, hlen⟩ := hcond
      split at hc
      · rename_i x h1
        split at hc
        · rename_i hn
          have hn' : name = ("append" : Str) := by simpa using hn
          subst hn'
          split at hc
          · rename_i a
            obtain ⟨y, h2, rfl⟩ := Option.map_eq_some_iff.mp hc
            simp only [evP] at h
            exact expr_append hlu (comp_plain h2) hline (he bad c env o x l st _ h1 ok h) fun n st q => he bad c env a y l st _ h2 ok q
          · cases hc
        · split at hc
          · rename_i hn
            have hn' : name = ("extend" : Str) := by simpa using hn
            subst hn'
            split at hc
            · rename_i a
              obtain ⟨y, h2, rfl⟩ := Option.map_eq_some_iff.mp hc
              simp only [evP] at h
              exact expr_extend hlu (comp_plain h2) hline (he bad c env o x l st _ h1 ok h) fun n st q => he bad c env a y l st _ h2 ok q
            · cases hc
          · split at hc
            · rename_i hn
              have hn' : name = ("pop" : Str) := by simpa using hn
              subst hn'
              split at hc
              · cases hc
                simp only [evP] at h
                exact expr_pop hlu hline (he bad c env o x l st _ h1 ok h)
              · cases hc
            · obtain ⟨ms, h2, rfl⟩ := Option.map_eq_some_iff.mp hc
              simp only [evP] at h
              exact expr_meth (base := ⟨hb, bad⟩) G hlu (comps_plain h2) hlen hline (he bad c env o x l st _ h1 ok h) fun st P q => hl bad c env as ms l st P pos h2 ok q
      · cases hc
    · cases hc
  · rename_i f p as pos
    split at hc
    · rename_i a hg
      obtain ⟨g1, g2, g3⟩ := glob_of ok hg
      split at hc
      · obtain ⟨ms, h2, rfl⟩ := Option.map_eq_some_iff.mp hc
        simp only [evP] at h
        exact expr_call (base := ⟨hb, bad⟩) G g1 g2 (.inl g3) (comps_plain h2) (hl bad c env as ms l st _ pos h2 ok h)
      · cases hc
    · rename_i a hg
      obtain ⟨g1, g2, g3⟩ := glob_of ok hg
      split at hc
      · obtain ⟨ms, h2, rfl⟩ := Option.map_eq_some_iff.mp hc
        simp only [evP] at h
        exact expr_call (base := ⟨hb, bad⟩) G g1 g2 (.inr g3) (comps_plain h2) (hl bad c env as ms l st _ pos h2 ok h)
      · cases hc
    · rename_i y hg
      obtain ⟨g1, g2, g3⟩ := glob_of ok hg
      split at hc
      · rename_i hn
        have hn' : y = ("len" : Str) := by simpa using hn
        split at hc
        · rename_i a
          obtain ⟨x, h2, rfl⟩ := Option.map_eq_some_iff.mp hc
          simp only [evP] at h
          exact expr_blt1 (base := ⟨hb, bad⟩) G g1 g2 g3 (v := .builtin "len") (by rw [hn']; rfl) (by intro a q; cases q) (comp_plain h2) (he bad c env a x l st _ h2 ok h) fun A u z st s QQ EE B q x R o => len_ok R x q o
        · cases hc
      · split at hc
        · rename_i hn
          have hn' : y = ("list" : Str) := by simpa using hn
          split at hc
          · rename_i a
            obtain ⟨x, h2, rfl⟩ := Option.map_eq_some_iff.mp hc
            simp only [evP] at h
            refine expr_blt1 (base := ⟨hb, bad⟩) G g1 g2 g3 (v := .type "list") (by rw [hn']; rfl) (by intro a q; cases q) (comp_plain h2) (he bad c env a x l st _ h2 ok h) fun A u z st s QQ EE B q x R o => ?_
            obtain ⟨m, ds, rfl, e1, e2, q⟩ := q
            cases x
            exact list_ok R e1 e2 q o
          · cases hc
        · split at hc
          · rename_i hn
            have hn' : y = ("int" : Str) := by simpa using hn
            split at hc
            · rename_i a
              obtain ⟨x, h2, rfl⟩ := Option.map_eq_some_iff.mp hc
              simp only [evP] at h
              refine expr_blt1 (base := ⟨hb, bad⟩) G g1 g2 g3 (v := .type "int") (by rw [hn']; rfl) (by intro a q; cases q) (comp_plain h2) (he bad c env a x l st _ h2 ok h) fun A u z st s QQ EE B q x R o => ?_
              obtain ⟨i, rfl, q⟩ := q
              obtain ⟨t, rfl⟩ := x.ofInt
              exact call_int_int (o.now R q (.int _ _))
            · cases hc
          · split at hc
            · rename_i hn
              have hn' : y = ("all" : Str) := by simpa using hn
              split at hc
              · rename_i a
                obtain ⟨x, h2, rfl⟩ := Option.map_eq_some_iff.mp hc
                simp only [evP] at h
                refine expr_blt1 (base := ⟨hb, bad⟩) G g1 g2 g3 (v := .builtin "all") (by rw [hn']; rfl) (by intro a q; cases q) (comp_plain h2) (he bad c env a x l st _ h2 ok h) fun A u z st s QQ EE B q x R o => ?_
                obtain ⟨m, bs, rfl, e1, e2, q⟩ := q
                cases x
                exact all_ok B.hd R e1 q o
              · cases hc
            · split at hc
              · rename_i hn
                have hn' : y = ("max" : Str) := by simpa using hn
                split at hc
                · rename_i a b
                  split at hc
                  · rename_i x z h2 h3
                    cases hc
                    simp only [evP] at h
                    refine expr_blt2 (base := ⟨hb, bad⟩) G g1 g2 g3 (v := .builtin "max") (by rw [hn']; rfl) (by intro a q; cases q) (comp_plain h2) (comp_plain h3) (he bad c env a x l st _ h2 ok h) (fun x st₁ q => he bad c env b z l st₁ _ h3 ok q) fun A u u' z z' st s QQ EE B q x x' R o => ?_
                    obtain ⟨i, j, rfl, rfl, q⟩ := q
                    obtain ⟨t, rfl⟩ := x.ofInt
                    obtain ⟨t', rfl⟩ := x'.ofInt
                    exact max_ok B.hd R q o
                  · cases hc
                · cases hc
              · split at hc
                · rename_i hn
                  have hn' : y = ("min" : Str) := by simpa using hn
                  split at hc
                  · rename_i a b
                    split at hc
                    · rename_i x z h2 h3
                      cases hc
                      simp only [evP] at h
                      refine expr_blt2 (base := ⟨hb, bad⟩) G g1 g2 g3 (v := .builtin "min") (by rw [hn']; rfl) (by intro a q; cases q) (comp_plain h2) (comp_plain h3) (he bad c env a x l st _ h2 ok h) (fun x st₁ q => he bad c env b z l st₁ _ h3 ok q) fun A u u' z z' st s QQ EE B q x x' R o => ?_
                      obtain ⟨i, j, rfl, rfl, q⟩ := q
                      obtain ⟨t, rfl⟩ := x.ofInt
                      obtain ⟨t', rfl⟩ := x'.ofInt
                      exact min_ok B.hd R q o
                    · cases hc
                  · cases hc
                · cases hc
    · cases hc
  · rename_i o name p
    split at hc
    · cases hc
    · rename_i hlu
      obtain ⟨x, h1, rfl⟩ := Option.map_eq_some_iff.mp hc
      simp only [evP] at h
      exact expr_attr (base := ⟨hb, bad⟩) G (by simpa using hlu) (he bad c env o x l st _ h1 ok h)
  · rename_i o k1 p1 p2 p3 p4
    obtain ⟨x, h1, rfl⟩ := Option.map_eq_some_iff.mp hc
    simp only [evP] at h
    exact expr_rev (he bad c env o x l st _ h1 ok h)
  · rename_i o lo hi' p p'
    split at hc
    · rename_i x y z h1 h2 h3
      cases hc
      simp only [evP] at h
      exact expr_slice (he bad c env o x l st _ h1 ok h) (fun x st₁ q => ho bad c env lo y l st₁ _ h2 ok q) (fun x y st₁ q => ho bad c env hi' z l st₁ _ h3 ok q) fun x y z st q => q
    · cases hc
  · rename_i o i p _ _
    split at hc
    · rename_i x y h1 h2
      cases hc
      simp only [evP] at h
      exact expr_sub (he bad c env o x l st _ h1 ok h) (fun x st₁ q => he bad c env i y l st₁ _ h2 ok q) fun x y st q => q
    · cases hc
  · rename_i elt tg it scope pos
    dsimp only at hc
    split at hc
    · rename_i hcond
      split at hc
      · rename_i mi is m h1 h2 h3
        split at hc
        · rename_i hcond2
          cases hc
          simp only [Bool.and_eq_true, beq_iff_eq, Bool.not_eq_true', List.all_eq_true, Bool.or_eq_true, bne_iff_ne] at hcond hcond2
          have S : Sco c scope tg it := ⟨hcond.1.1.1, hcond.1.1.2, fun x hx => (hcond.1.2 x hx).1, fun x hx hxl => ((hcond.1.2 x hx).2).resolve_left (fun q => q hxl), fun x hx hxf => by
            have := ((hcond.2 x hx)).resolve_left (fun q => q hxf)
            exact ⟨this.1, by simpa using this.2⟩, hcond2.2⟩
          intro A s QQ EE B F R o
          rw [eval_ListComp]
          refine comp_run (use := none) he hi h1 h3 h2 hcond2.1 ok S h B F R fun D C stF s' q RF g fC oC bC hm => ?_
          obtain ⟨m, hm⟩ := hm
          refine ⟨m, hm, fun h' sb => ?_⟩
          obtain ⟨r1, r2⟩ := RF.drop g fC oC bC (fun q => (R.bad C q).2 fC) hm sb
          exact o _ _ _ _ q (.loc D) r1 r2
        · cases hc
      · cases hc
    · cases hc
  · cases hc
end
end Mine

end

section
set_option linter.unusedVariables false
set_option linter.unusedSimpArgs false
set_option maxHeartbeats 1000000
namespace Mine
open PySem PySem.W PySem.Calls PyProof.Rows PySem.SeqAt PySem.MeetsSeq
open Sem (wp)

section
variable {prog : Program} {w : World} {hb : Heap} {K : Frag} {mg mb : Str → Option Value} {gl : Str → Option GV} {T : Tab} {k : Nat}

structure Steps (prog : Program) (w : World) (hb : Heap) (gl : Str → Option GV) (T : Tab) (k n : Nat) : Prop where
  e : ExprOk prog w hb gl T k n
  o : OptOk prog w hb gl T k n
  l : ListOk prog w hb gl T k n
  b : BoolOk prog w hb gl T k n
  t : TestOk prog w hb gl T k n
  ts : TestsOk prog w hb gl T k n
  i : IterOk prog w hb gl T k n
  p : PairsOk prog w hb gl T k n
  e' : ∀ m, n = m + 1 → ExprOk prog w hb gl T k m

theorem steps_ok (G : Gr prog w hb K mg mb gl T) : ∀ n , Steps prog w hb gl T k n
  | 0 => ⟨fun _ _ _ _ _ _ _ _ h => by simp [comp] at h, fun _ _ _ _ _ _ _ _ h => by simp [compOpt] at h, fun _ _ _ _ _ _ _ _ _ h => by simp [comps] at h, fun _ _ _ _ _ _ _ _ _ _ h => by simp [compB] at h, fun _ _ _ _ _ _ _ _ h => by simp [compT] at h,
      fun _ _ _ _ _ _ _ _ _ h => by simp [compTB] at h, fun _ _ _ _ _ _ _ _ h => by simp [compI] at h, fun _ _ _ _ _ _ _ _ _ _ h => by simp [comps] at h, fun _ h => by simp at h⟩
  | n + 1 => by
    have a := steps_ok G n
    exact ⟨expr_step G a.e a.o a.l a.b a.t a.i a.p, opt_step a.e, list_step a.e a.l, bool_step a.e a.b, test_step a.e a.e' a.t a.ts, tests_step a.t a.ts, iter_step G a.e, pairs_step a.e a.p, fun m h => by cases h; exact a.e⟩
end
end Mine

end

section
set_option linter.unusedVariables false
set_option linter.unusedSimpArgs false
set_option maxHeartbeats 1000000
namespace Mine
open PySem PySem.W PySem.Calls PyProof.Rows PySem.SeqAt PySem.MeetsSeq
open Sem (wp)

inductive FlR (base : Bs) (h : Heap) : Flow → Fl → Prop
  | next : FlR base h .next .next
  | cont : FlR base h .cont .cont
  | brk : FlR base h .brk .brk
  | ret {v : Value} {d : AV} : VR base h v d → FlR base h (.ret v) (.ret d)

section
variable (prog : Program) (w : World) (base : Bs) (k : Nat) (ns : List Str) (env : Env) (l : Loc) (st : Sto)
def OutS (s : Shared) (Q : Fl → Loc → Sto → Prop) (QQ : Flow → Shared → Prop) : Prop :=
  ∀ f fl l' st' s', Q fl l' st' → FlR base s'.heap f fl → Fra ns env base l' st' s'.heap → Rel prog w base st' s'.heap → Go (frX env) st st' s s' → QQ f s'
def TriS (t : Sem Flow) (Q : Fl → Loc → Sto → Prop) : Prop :=
  ∀ (A : Around) (s : Shared) (QQ : Flow → Shared → Prop) (EE : Value → Shared → Prop), Body k A → Fra ns env base l st s.heap → Rel prog w base st s.heap → OutS prog w base ns env st s Q QQ → wpAny (model prog w) A t QQ EE s
end

section
variable {prog : Program} {w : World} {hb : Heap} {K : Frag} {mg mb : Str → Option Value} {gl : Str → Option GV} {T : Tab} {k : Nat}
variable {base : Bs} {bad W : Addr → Prop} {ns : List Str} {env : Env} {l : Loc} {st : Sto} {s : Shared} {A : Around} {EE : Value → Shared → Prop}

theorem OutS.after {Q : Fl → Loc → Sto → Prop} {QQ : Flow → Shared → Prop} {st' : Sto} {s' : Shared} (o : OutS prog w base ns env st s Q QQ) (g : Go (frX env) st st' s s') : OutS prog w base ns env st' s' Q QQ :=
  fun f fl l₂ st₂ s₂ q x F R g₂ => o f fl l₂ st₂ s₂ q x F R (g.trans g₂)
theorem OutS.after0 {Q : Fl → Loc → Sto → Prop} {QQ : Flow → Shared → Prop} {st' : Sto} {s' : Shared} (o : OutS prog w base ns env st s Q QQ) (g : Go noX st st' s s') : OutS prog w base ns env st' s' Q QQ :=
  o.after (g.weaken fun _ q => q.elim)
theorem OutS.next0 {Q : Fl → Loc → Sto → Prop} {QQ : Flow → Shared → Prop} {st' : Sto} {s' : Shared} (o : OutS prog w base ns env st s Q QQ) (F : Fra ns env base l st s.heap) (R₀ : Rel prog w base st s.heap) (q : Q .next l st') (R : Rel prog w base st' s'.heap) (g : Go noX st st' s s') : QQ .next s' :=
  o .next .next l st' s' q .next (F.go R₀ g) R (g.weaken fun _ q => q.elim)

def StmtOk (prog : Program) (w : World) (hb : Heap) (gl : Str → Option GV) (T : Tab) (k : Nat) (n : Nat) : Prop :=
  ∀ (bad : Addr → Prop) (c : Ctx) (env : Env) (x : Stmt) (ms : MS) (l : Loc) (st : Sto) (Q : Fl → Loc → Sto → Prop), compS n c x = some ms → CtxOk c env gl → exP T (CallS prog w hb k) ms l st Q → TriS prog w ⟨hb, bad⟩ k c.ns env l st (exec x env) Q
def StmtsOk (prog : Program) (w : World) (hb : Heap) (gl : Str → Option GV) (T : Tab) (k : Nat) (n : Nat) : Prop :=
  ∀ (bad : Addr → Prop) (c : Ctx) (env : Env) (x : List Stmt) (ms : MSs) (l : Loc) (st : Sto) (Q : Fl → Loc → Sto → Prop), compSs n c x = some ms → CtxOk c env gl → exPs T (CallS prog w hb k) ms l st Q → TriS prog w ⟨hb, bad⟩ k c.ns env l st (execs x env) Q

theorem stmts_step {n : Nat} (he : StmtOk prog w hb gl T k n) (hl : StmtsOk prog w hb gl T k n) : StmtsOk prog w hb gl T k (n + 1) := by
  intro bad c env xs ms l st Q hc ok h
  cases xs with
  | nil =>
    simp only [compSs, Option.some.injEq] at hc; subst hc
    simp only [exPs] at h
    intro A s QQ EE B F R o
    exact wpAny_execs_nil (o .next .next l st s h .next F R (Go.refl _ _ _))
  | cons x r =>
    simp only [compSs] at hc
    split at hc
    · rename_i m m' h1 h2
      cases hc
      simp only [exPs] at h
      intro A s QQ EE B F R o
      refine wpAny_execs_cons (he bad c env x m l st _ h1 ok h A s _ EE B F R fun f fl l' st' s' q x₁ F' R' g => ?_)
      cases x₁ with
      | next => exact hl bad c env r m' l' st' Q h2 ok q A s' QQ EE B F' R' (o.after g)
      | cont => exact o _ _ _ _ _ q .cont F' R' g
      | brk => exact o _ _ _ _ _ q .brk F' R' g
      | ret x => exact o _ _ _ _ _ q (.ret x) F' R' g
    · cases hc

theorem FlR.leave {h h' : Heap} (k : But W h h') {f : Flow} {fl : Fl} (x : FlR ⟨hb, fun a => bad a ∨ W a⟩ h f fl) : FlR ⟨hb, bad⟩ h' f fl := by
  cases x with
  | next => exact .next
  | cont => exact .cont
  | brk => exact .brk
  | ret x => exact .ret (x.leave k)

/-- a for's loop -/
theorem for_loop {n : Nat} {c : Ctx} {tg : Expr} {body : List Stmt} {mb' : MSs} {is : List Nat} {r : It} {itv : Value} {st₁ : Sto} {s₁ : Shared} {N : Nat} {Inv : Nat → Loc → Sto → Prop} {Q : Fl → Loc → Sto → Prop} {RR : Result → Shared → Prop}
    (B : Body k A) (hss : StmtsOk prog w hb gl T k n) (hcb : compSs n c body = some mb') (ok : CtxOk c env gl) (htg : targets c tg = some is) (hpair : pairsR r = (is.length == 2))
    (out : ∀ a, W a → st₁ a = none) (live : ∀ a, W a → s₁.heap.get? a ≠ none) (dis : ∀ a, frX env a → ¬ W a)
    (h0 : Inv 0 l st₁) (step : ∀ i l st, Inv i l st → i ≤ N ∧ ∃ x, itNext r i st = some x ∧ (match x with
        | none => Q .next l st
        | some d => ∃ l', bindT is d l = some l' ∧ exPs T (CallS prog w hb k) mb' l' st (turnQ (fun l st => Inv (i + 1) l st) Q)))
    (I₁ : ItR W r 0 itv s₁.heap) (R : Rel prog w ⟨hb, fun a => bad a ∨ W a⟩ st₁ s₁.heap) (F : Fra c.ns env ⟨hb, fun a => bad a ∨ W a⟩ l st₁ s₁.heap)
    (H : ∀ f fl l' st' s' hE tk, Q fl l' st' → FlR ⟨hb, fun a => bad a ∨ W a⟩ s'.heap f fl → Fra c.ns env ⟨hb, fun a => bad a ∨ W a⟩ l' st' s'.heap → Rel prog w ⟨hb, fun a => bad a ∨ W a⟩ st' s'.heap → Go (fun a => frX env a ∨ W a) st₁ st' s₁ s' → But W s'.heap hE → RR (.ok f) { s' with heap := hE, toks := tk }) :
    codeAny (model prog w) A (.forLoop tg itv body [] env) RR s₁ := by
  have hform := target_form htg
  have hp : (pairsR r = false ∧ ∃ x p, tg = .Name x p) ∨ (pairsR r = true ∧ ∃ es k p, tg = .Tuple es k p) := by
    rcases hform with ⟨h1, h2⟩ | ⟨h1, h2⟩
    · left; exact ⟨by rw [hpair, h1]; rfl, h2⟩
    · right; exact ⟨by rw [hpair, h1]; rfl, h2⟩
  refine codeAny_forLoop_any (fun n' s' => ∃ i l' st', n' = N + 1 - i ∧ Inv i l' st' ∧ ItR W r i itv s'.heap ∧ Rel prog w ⟨hb, fun a => bad a ∨ W a⟩ st' s'.heap ∧
      Fra c.ns env ⟨hb, fun a => bad a ∨ W a⟩ l' st' s'.heap ∧ Go (fun a => frX env a ∨ W a) st₁ st' s₁ s') ?_ (N + 1) ⟨0, l, st₁, rfl, h0, I₁, R, F, Go.refl _ _ _⟩
  rintro n' s' ⟨i, l', st', rfl, hI, hIt, R', F', g'⟩
  obtain ⟨hiN, x, hx, hm⟩ := step i l' st' hI
  have out' : ∀ a, W a → st' a = none := fun a ha => g'.outL (out a ha) (live a ha)
  refine it_turn (W := W) (N := fun s₁ => wpAny (model prog w) A (execs [] env) (fun f s₃ => RR (.ok f) s₃) (notedBy (model prog w) A env fun e s' => RR (.error e) s') s₁) B.hd hIt R' (fun a ha => .inr ha) out' hp hx ?_ ?_
  · intro hxn hE tk kE
    subst hxn
    exact wpAny_execs_nil (H .next .next l' st' s' hE tk hm .next F' R' g' kE)
  · intro d u h₂ tk₂ hxd xu I₂ k₂ lv₂
    subst hxd
    obtain ⟨l₂, hl₂, hev⟩ := hm
    have kk₂ : TupKeep ⟨hb, fun a => bad a ∨ W a⟩ s'.heap h₂ := fun b us m nb e => k₂ b _ (fun q => nb (.inr q)) e
    have R₂ : Rel prog w ⟨hb, fun a => bad a ∨ W a⟩ st' h₂ := R'.off k₂ kk₂ out' (fun a ha => (R'.bad a (.inr ha)).1) lv₂
    have g₂ : Go W st' st' s' { s' with heap := h₂, toks := tk₂ } := Go.but k₂ lv₂
    have F₂ : Fra c.ns env ⟨hb, fun a => bad a ∨ W a⟩ l' st' h₂ := F'.goX R' g₂ (fun a ha => .inr ha) dis
    refine assign_ok (s := { s' with heap := h₂, toks := tk₂ }) B.hd ok htg hl₂ xu F₂ R₂ fun s₃ F₃ R₃ g₃ => ?_
    have g₃' : Go (frX env) st' st' { s' with heap := h₂, toks := tk₂ } s₃ := g₃.weaken fun a ha => tgX_frX ha
    have nF : ∀ a, W a → ¬ frX env a := fun a ha q => dis a q ha
    have I₃ : ItR W r (i + 1) itv s₃.heap := I₂.keep fun a o ha e => g₃'.pres a o (out' a ha) (nF a ha) e
    refine hss (fun a => bad a ∨ W a) c env body mb' l₂ st' _ hcb ok hev A s₃ _ _ B F₃ R₃ fun f fl l₄ st₄ s₄ q₄ x₄ F₄ R₄ g₄ => ?_
    have I₄ : ItR W r (i + 1) itv s₄.heap := I₃.keep fun a o ha e => g₄.pres a o (out' a ha) (nF a ha) e
    have gT : Go (fun a => frX env a ∨ W a) st₁ st₄ s₁ s₄ := ((g'.trans (g₂.weaken fun a ha => .inr ha)).trans (g₃'.weaken fun a ha => .inl ha)).trans (g₄.weaken fun a ha => .inl ha)
    have gone : ∀ f' fl', Q fl' l₄ st₄ → FlR ⟨hb, fun a => bad a ∨ W a⟩ s₄.heap f' fl' → RR (.ok f') s₄ := fun f' fl' q x => H f' fl' l₄ st₄ s₄ s₄.heap s₄.toks q x F₄ R₄ gT fun _ _ _ e => e
    cases x₄ with
    | next => exact ⟨N + 1 - (i + 1), by omega, i + 1, l₄, st₄, rfl, q₄, I₄, R₄, F₄, gT⟩
    | cont => exact ⟨N + 1 - (i + 1), by omega, i + 1, l₄, st₄, rfl, q₄, I₄, R₄, F₄, gT⟩
    | brk => exact gone .next .next q₄ .next
    | ret x => exact gone _ _ q₄ (.ret x)
theorem stmt_for {n m : Nat} {c : Ctx} {tg it : Expr} {body : List Stmt} {mb' : MSs} {mi : MI} {is : List Nat} {pos : Pos} {Q : Fl → Loc → Sto → Prop} (hi : IterOk prog w hb gl T k m) (hss : StmtsOk prog w hb gl T k n) (hcb : compSs n c body = some mb') (hci : compI m c it = some mi) (ok : CtxOk c env gl)
    (htg : targets c tg = some is) (hpair : pairsMI mi = (is.length == 2)) (hset : isSet it = false) (h : exP T (CallS prog w hb k) (.for_ mi is mb') l st Q) : TriS prog w ⟨hb, bad⟩ k c.ns env l st (exec (.For tg it body [] pos) env) Q := by
  intro A s QQ EE B F R o
  simp only [exP] at h
  refine wpAny_For ?_ (folded_plain hset)
  refine hi bad c env it mi l st _ hci ok h A s _ EE B F R ?_
  intro W r st₁ s₁ itv h' tk q R₁ g₁ k₁ f₁ l₁ I₁
  obtain ⟨⟨Inv, N, h0, step⟩, hpr⟩ := q
  have F₁ := F.go R g₁
  have R₂ : Rel prog w ⟨hb, fun a => bad a ∨ W a⟩ st₁ h' := R₁.enter k₁ f₁ l₁
  have F₂ : Fra c.ns env ⟨hb, fun a => bad a ∨ W a⟩ l st₁ h' := F₁.enter k₁ f₁
  have dis : ∀ a, frX env a → ¬ W a := by
    rintro a (rfl | ⟨y, hy⟩) hw
    · obtain ⟨mm, ⟨o', _, _, ho, _⟩, _⟩ := F₁.locs
      rw [f₁ _ hw] at ho; cases ho
    · obtain ⟨_, _, cv, o', ho, _⟩ := F₁.capart y a hy
      rw [f₁ _ hw] at ho; cases ho
  refine for_loop (s₁ := { s₁ with heap := h', toks := tk }) B hss hcb ok htg (hpr.trans hpair) (fun a ha => R₁.out (f₁ a ha)) l₁ dis h0 step I₁ R₂ F₂ ?_
  intro f fl l' st' s' hE tkE q x F' R' g' kE
  have out' : ∀ a, W a → st' a = none := fun a ha => g'.outL (R₁.out (f₁ a ha)) (l₁ a ha)
  have gX : Go (fun a => frX env a ∨ W a) st₁ st' s₁ s' := (Go.ext (X := fun a => frX env a ∨ W a) (st := st₁) (s := s₁) (h := h') (tk := tk) k₁).trans g'
  have gF : Go (frX env) st₁ st' s₁ { s' with heap := hE, toks := tkE } := gX.leave f₁ kE
  exact o f fl l' st' { s' with heap := hE, toks := tkE } q (x.leave kE) (F'.leave kE dis) (R'.leave kE out' fun a ha hw => (R₁.bad a ha).2 (f₁ a hw)) ((g₁.weaken fun _ q => q.elim).trans gF)

theorem stmt_while {n m : Nat} {c : Ctx} {t : Expr} {body : List Stmt} {mb' : MSs} {mt : MT} {pos : Pos} {Q : Fl → Loc → Sto → Prop} (ht : TestOk prog w hb gl T k m) (hss : StmtsOk prog w hb gl T k n) (hcb : compSs n c body = some mb') (hct : compT m c t = some mt) (ok : CtxOk c env gl)
    (h : exP T (CallS prog w hb k) (.while_ mt mb') l st Q) : TriS prog w ⟨hb, bad⟩ k c.ns env l st (exec (.While t body [] pos) env) Q := by
  intro A s QQ EE B F R o
  simp only [exP] at h
  obtain ⟨Inv, n₀, h0, step⟩ := h
  refine wpAny_While (codeAny_whileLoop (fun n' s' => ∃ l' st', Inv n' l' st' ∧ Rel prog w ⟨hb, bad⟩ st' s'.heap ∧ Fra c.ns env ⟨hb, bad⟩ l' st' s'.heap ∧ Go (frX env) st st' s s') ?_ n₀ ⟨l, st, h0, R, F, Go.refl _ _ _⟩)
  rintro n' s' ⟨l', st', hI, R', F', g'⟩
  refine ht bad c env t mt l' st' _ hct ok (step n' l' st' hI) A s' _ _ B F' R' fun b st₁ s₁ q R₁ g₁ => ?_
  have F₁ := F'.go R' g₁
  have gT := g'.trans (g₁.weaken fun _ q => q.elim)
  cases b with
  | false => exact wpAny_execs_nil (o .next .next l' st₁ s₁ (q.2 rfl) .next F₁ R₁ gT)
  | true =>
    refine hss bad c env body mb' l' st₁ _ hcb ok (q.1 rfl) A s₁ _ _ B F₁ R₁ fun f fl l₂ st₂ s₂ q₂ x₂ F₂ R₂ g₂ => ?_
    have gT₂ := gT.trans g₂
    cases x₂ with
    | next => obtain ⟨m', hm, hI'⟩ := q₂; exact ⟨m', hm, l₂, st₂, hI', R₂, F₂, gT₂⟩
    | cont => obtain ⟨m', hm, hI'⟩ := q₂; exact ⟨m', hm, l₂, st₂, hI', R₂, F₂, gT₂⟩
    | brk => exact o _ _ _ _ _ q₂ .next F₂ R₂ gT₂
    | ret x => exact o _ _ _ _ _ q₂ (.ret x) F₂ R₂ gT₂
end
end Mine

end

section
set_option linter.unusedVariables false
set_option linter.unusedSimpArgs false
set_option maxHeartbeats 1000000
namespace Mine
open PySem PySem.W PySem.Calls PyProof.Rows PySem.SeqAt PySem.MeetsSeq
open Sem (wp)

theorem swaps_no {v : Expr} {t : Option Expr} {line : Nat} {env : Env} (h : isComp v = false) : swapsWith v t line env = pure false := by
  cases v <;> first | rfl | simp [isComp] at h
theorem swaps_sole {v t : Expr} {line : Nat} {env : Env} (h : isComp v = false) : swapsWithSole [t] v line env = pure false := swaps_no (v := v) (t := some t) (line := line) (env := env) h
theorem swaps_attr {v o : Expr} {a : Str} {p : Pos} {line : Nat} {env : Env} : swapsWith v (some (.Attribute o a p)) line env = pure false := by
  cases v <;> rfl
theorem swaps_sub {v o i : Expr} {p : Pos} {line : Nat} {env : Env} : swapsWith v (some (.Subscript o i p)) line env = pure false := by
  cases v <;> rfl
theorem swaps_name {v : Expr} {x : Str} {p : Pos} {line : Nat} {env : Env} : ∃ b, swapsWith v (some (.Name x p)) line env = pure b := by
  cases v <;> exact ⟨_, rfl⟩

theorem names_filter {env : Env} {line : Nat} : ∀ {es : List Expr} {xs : List Str}, namesIn es = some xs →
    (es.filterMap fun t => match t with | .Name id pos => if env.kindOf id == some .local && pos.line == line then some id else none | _ => none).length = es.length →
    (es.filterMap fun t => match t with | .Name id pos => if env.kindOf id == some .local && pos.line == line then some id else none | _ => none) = xs ∧ ∀ x ∈ xs, env.kindOf x = some .local
  | [], xs, h, _ => by simp [namesIn] at h; subst h; exact ⟨rfl, by simp⟩
  | e :: es, xs, h, hl => by
    cases e <;> try (simp [namesIn] at h; done)
    rename_i x p
    simp only [namesIn, Option.map_eq_some_iff] at h
    obtain ⟨ys, h1, rfl⟩ := h
    have le := List.length_filterMap_le (fun t => match t with | Expr.Name id pos => if env.kindOf id == some .local && pos.line == line then some id else none | _ => none) es
    by_cases c : (env.kindOf x == some .local && p.line == line) = true
    · rw [List.filterMap_cons_some (b := x) (by simp only [c, if_true])] at hl ⊢
      simp only [List.length_cons, Nat.add_right_cancel_iff] at hl
      obtain ⟨i1, i2⟩ := names_filter h1 hl
      rw [i1]
      refine ⟨rfl, fun y hy => ?_⟩
      simp only [Bool.and_eq_true, beq_iff_eq] at c
      rcases List.mem_cons.mp hy with rfl | hy
      · exact c.1
      · exact i2 y hy
    · rw [List.filterMap_cons_none (by simp only [c, Bool.false_eq_true, if_false])] at hl
      simp only [List.length_cons] at hl
      omega
theorem swapped_cases {es : List Expr} {xs : List Str} {kk : Nat} {p : Pos} {v : Expr} {env : Env} (hn : namesIn es = some xs) (hv : constTup v = false) :
    swappedStores [.Tuple es kk p] v env = pure none ∨ (swappedStores [.Tuple es kk p] v env = pure (some xs) ∧ ∀ x ∈ xs, env.kindOf x = some .local) := by
  cases v <;> try (left; rfl)
  rename_i vs kv pv
  simp only [constTup] at hv
  unfold swappedStores
  dsimp only
  split
  · left; rfl
  · split
    · left; rfl
    · split
      · left; rfl
      · rename_i h3
        split
        · left; rfl
        · split
          · rename_i h5; rw [hv] at h5; cases h5
          · right
            simp only [Bool.or_eq_true, bne_iff_ne, ne_eq, not_or, Decidable.not_not] at h3
            obtain ⟨i1, i2⟩ := names_filter (env := env) hn h3.1
            exact ⟨congrArg (fun z => pure (some z)) i1, i2⟩

theorem putAll_some : ∀ {is : List Nat} {ds : List AV} (l : Loc), ds.length = is.length → ∃ l', putAll is ds l = some l'
  | [], [], l, _ => ⟨l, rfl⟩
  | [], _ :: _, _, h => by simp at h
  | _ :: _, [], _, h => by simp at h
  | i :: is, d :: ds, l, h => by simp only [putAll]; exact putAll_some _ (by simpa using h)
theorem putAll_at : ∀ {is : List Nat} {ds : List AV} {l l' : Loc} {i : Nat} {d : AV}, is.Nodup → putAll is ds l = some l' → (i, d) ∈ is.zip ds → l' i = some d
  | [], _, _, _, _, _, _, _, h => by simp at h
  | _ :: _, [], _, _, _, _, _, h, _ => by simp [putAll] at h
  | j :: is, e :: ds, l, l', i, d, nd, h, hm => by
    simp only [putAll] at h
    simp only [List.zip_cons_cons, List.mem_cons] at hm
    obtain ⟨n1, n2⟩ := List.nodup_cons.mp nd
    rcases hm with hm | hm
    · cases hm
      rw [putAll_other h n1]
      unfold put; simp
    · exact putAll_at n2 h hm
theorem putAll_append : ∀ {is js : List Nat} {ds es : List AV} (l : Loc), is.length = ds.length → putAll (is ++ js) (ds ++ es) l = (putAll is ds l).bind (putAll js es)
  | [], _, [], _, _, _ => rfl
  | [], _, _ :: _, _, _, h => by simp at h
  | _ :: _, _, [], _, _, h => by simp at h
  | i :: is, js, d :: ds, es, l, h => by
    simp only [List.cons_append, putAll]
    exact putAll_append _ (by simpa using h)
/-- the stores in the other order -/
theorem putAll_rev : ∀ {is : List Nat} {ds : List AV} {l l' : Loc}, is.Nodup → putAll is ds l = some l' → ∃ l₂, putAll is.reverse ds.reverse l = some l₂ ∧ ∀ i, l₂ i = l' i
  | [], [], l, l', _, h => ⟨l', h, fun _ => rfl⟩
  | [], _ :: _, _, _, _, h => by simp [putAll] at h
  | _ :: _, [], _, _, _, h => by simp [putAll] at h
  | i :: is, d :: ds, l, l', nd, h => by
    simp only [putAll] at h
    obtain ⟨n1, n2⟩ := List.nodup_cons.mp nd
    obtain ⟨l₂, h1, h2⟩ := putAll_rev n2 h
    have hl := putAll_len h
    obtain ⟨l₃, h3⟩ := putAll_some (is := is.reverse) (ds := ds.reverse) l (by simp [hl])
    refine ⟨put l₃ i d, ?_, fun j => ?_⟩
    · rw [List.reverse_cons, List.reverse_cons, putAll_append _ (by simp [hl]), h3]; rfl
    · by_cases q : j = i
      · subst q
        rw [← h2, putAll_other h1 (by simpa using n1)]
        unfold put; simp
      · unfold put
        rw [if_neg q, ← h2]
        have same : ∀ {is : List Nat} {ds : List AV} {l l₂ m m₂ : Loc}, putAll is ds l = some m → putAll is ds l₂ = some m₂ → (∀ j, j ≠ i → l j = l₂ j) → ∀ j, j ≠ i → m j = m₂ j := by
          intro is
          induction is with
          | nil => intro ds l l₂ m m₂ a b e; cases ds with
            | nil => simp [putAll] at a b; subst a; subst b; exact e
            | cons _ _ => simp [putAll] at a
          | cons x is ih =>
            intro ds l l₂ m m₂ a b e
            cases ds with
            | nil => simp [putAll] at a
            | cons y ds =>
              simp only [putAll] at a b
              refine ih a b fun j hj => ?_
              unfold put
              split
              · rfl
              · exact e j hj
        exact same h3 h1 (fun j hj => by unfold put; rw [if_neg hj]) j q
theorem varsIn_append {c : Ctx} : ∀ {xs ys : List Str} {is js : List Nat}, varsIn c xs = some is → varsIn c ys = some js → varsIn c (xs ++ ys) = some (is ++ js)
  | [], _, is, _, h, h' => by simp [varsIn] at h; subst h; exact h'
  | x :: xs, ys, is, js, h, h' => by
    simp only [varsIn] at h
    split at h
    · rename_i i is' e1 e2
      cases h
      simp only [List.cons_append, varsIn, e1, varsIn_append e2 h']
    · cases h
theorem varsIn_rev {c : Ctx} : ∀ {xs : List Str} {is : List Nat}, varsIn c xs = some is → varsIn c xs.reverse = some is.reverse
  | [], is, h => by simp [varsIn] at h; subst h; rfl
  | x :: xs, is, h => by
    simp only [varsIn] at h
    split at h
    · rename_i i is' e1 e2
      cases h
      rw [List.reverse_cons, List.reverse_cons]
      exact varsIn_append (varsIn_rev e2) (by simp only [varsIn, e1])
    · cases h
theorem varsIn_nodup {c : Ctx} {env : Env} {gl : Str → Option GV} (ok : CtxOk c env gl) : ∀ {xs : List Str} {is : List Nat}, xs.Nodup → varsIn c xs = some is → is.Nodup
  | [], is, _, h => by simp [varsIn] at h; subst h; exact List.nodup_nil
  | x :: xs, is, nd, h => by
    simp only [varsIn] at h
    obtain ⟨n1, n2⟩ := List.nodup_cons.mp nd
    split at h
    · rename_i i is' e1 e2
      cases h
      refine List.nodup_cons.mpr ⟨fun hm => ?_, varsIn_nodup ok n2 e2⟩
      obtain ⟨y, hy, e⟩ := varsIn_mem e2 i hm
      have a1 := (var_of ok e1).1
      have a2 := (var_of ok e).1
      rw [a1] at a2
      cases a2
      exact n1 hy
    · cases h

section
variable {prog : Program} {w : World} {hb : Heap} {K : Frag} {mg mb : Str → Option Value} {gl : Str → Option GV} {T : Tab} {k : Nat}
variable {base : Bs} {bad W : Addr → Prop} {ns : List Str} {env : Env} {l : Loc} {st : Sto} {s : Shared} {A : Around} {EE : Value → Shared → Prop}

theorem stores_bind : ∀ xs : List Str, Stores prog w env (xs.map fun n => bindName env n) xs
  | [] => .nil
  | x :: xs => .cons (fun A v Q E s h => wpAny_bindName h) (stores_bind xs)

/-- several names at once -/
theorem stmt_asgT {c : Ctx} {es : List Expr} {xs : List Str} {is : List Nat} {kk : Nat} {p pos : Pos} {v : Expr} {Q : Fl → Loc → Sto → Prop} (ok : CtxOk c env gl) (hn : namesIn es = some xs) (hv : constTup v = false) (hcv : isComp v = false) (nd : xs.Nodup) (hi : varsIn c xs = some is)
    (h : TriE prog w base k c.ns env l st (eval v env) fun d st => ∃ ds l', d = .tup ds ∧ putAll is ds l = some l' ∧ Q .next l' st) : TriS prog w base k c.ns env l st (exec (.Assign [.Tuple es kk p] v pos) env) Q := by
  intro A s QQ EE B F R o
  rcases swapped_cases (kk := kk) (p := p) hn hv with hw | ⟨hw, _⟩
  · refine Assign_Tuple (h A s _ EE B F R fun u d st' s' q x R' g => ?_) (swaps_sole hcv) hw
    obtain ⟨ds, l', rfl, hp, q⟩ := q
    refine assign_tup (X := frX env) B.hd ok hn hi (fun y hy a ha => stX_frX ha) hp x (F.go R g) R' fun s₂ F₂ R₂ g₂ => ?_
    exact o .next .next l' st' s₂ q .next F₂ R₂ ((g.weaken fun _ q => q.elim).trans g₂)
  · refine Assign_Tuple_swapped (names := xs) (h A s _ EE B F R fun u d st' s' q x R' g => ?_) (swaps_sole hcv) hw
    obtain ⟨ds, l', rfl, hp, q⟩ := q
    obtain ⟨a, vs, n, rfl, e1, r1⟩ := x.ofTup
    obtain ⟨l₂, hp₂, hsame⟩ := putAll_rev (varsIn_nodup ok nd hi) hp
    have l1 := putAll_len hp
    have l2 := varsIn_len hi
    have l3 := r1.length
    have hsz : xs.length = vs.toArray.size := by simp; omega
    rw [hsz]
    refine wpAny_unpackItems_tuple B.hd (items := vs.toArray) ⟨_, e1, rfl, _, rfl⟩ fun h' he => ?_
    have kk : ∀ b o, s'.heap.get? b = some o → h'.get? b = some o := fun b o e => he b o (Nat.ne_of_lt (Heap.lt_size e)) e
    have g₁ : Go noX st' st' s' { s' with heap := h' } := Go.ext (tk := s'.toks) kk
    have F' := F.go R g
    refine assign_all (X := frX env) (s := { s' with heap := h' }) ok (varsIn_rev hi) (fun y hy a ha => stX_frX ha) (stores_bind xs.reverse) hp₂ (by simpa using (r1.keep (TupKeep.of kk)).reverse) (F'.go R' g₁) (R'.ext kk) fun s₂ F₂ R₂ g₂ _ => ?_
    exact o .next .next l' st' s₂ q .next (F₂.sub fun i d e => (hsame i).trans e) R₂ (((g.trans g₁).weaken fun _ q => q.elim).trans g₂)
end
end Mine

end

section
set_option linter.unusedVariables false
set_option linter.unusedSimpArgs false
set_option maxHeartbeats 1000000
namespace Mine
open PySem PySem.W PySem.Calls PyProof.Rows PySem.SeqAt PySem.MeetsSeq
open Sem (wp)

theorem listcomp_inv {n : Nat} {c : Ctx} {elt : Expr} {gens : List Comprehension} {scope : Scope} {pos : Pos} {me : ME} (h : comp n c (.ListComp elt gens scope pos) = some me) :
    ∃ m tg it mi is x, n = m + 1 ∧ gens = [⟨tg, it, [], 0⟩] ∧ Sco c scope tg it ∧ compI m c it = some mi ∧ targets { c with names := relabelN c scope.names } tg = some is ∧ comp m { c with names := relabelN c scope.names } elt = some x ∧ pairsMI mi = (is.length == 2) ∧
      me = .comp x mi is (seen c scope.names) := by
  cases n with
  | zero => simp [comp] at h
  | succ m =>
    generalize he : Expr.ListComp elt gens scope pos = e at h
    unfold comp at h
    split at h <;> try (cases he; done)
    · rename_i elt' tg it scope' pos'
      cases he
      dsimp only at h
      split at h
      · rename_i hcond
        split at h
        · rename_i mi is x h1 h2 h3
          split at h
          · rename_i hcond2
            cases h
            simp only [Bool.and_eq_true, beq_iff_eq, Bool.not_eq_true', List.all_eq_true, Bool.or_eq_true, bne_iff_ne] at hcond hcond2
            refine ⟨m, tg, it, mi, is, x, rfl, rfl, ⟨hcond.1.1.1, hcond.1.1.2, fun x hx => (hcond.1.2 x hx).1, fun x hx hxl => ((hcond.1.2 x hx).2).resolve_left (fun q => q hxl), fun x hx hxf => by
              have := ((hcond.2 x hx)).resolve_left (fun q => q hxf)
              exact ⟨this.1, by simpa using this.2⟩, hcond2.2⟩, h1, h2, h3, hcond2.1, rfl⟩
          · cases h
        · cases h
      · cases h
    · cases h

section
variable {prog : Program} {w : World} {hb : Heap} {K : Frag} {mg mb : Str → Option Value} {gl : Str → Option GV} {T : Tab} {k : Nat}
variable {base : Bs} {bad W : Addr → Prop} {ns : List Str} {env : Env} {l : Loc} {st : Sto} {s : Shared} {A : Around} {EE : Value → Shared → Prop}

theorem Fra.drop {h h' : Heap} {C : Addr} (F : Fra ns env base l st h) (k : But (· = C) h h') (tk : TupKeep base h h') (ne : ∀ a, frX env a → a ≠ C) : Fra ns env base l st h' := by
  obtain ⟨m, ⟨oL, es, ep, ho, hd, hk, hf⟩, hl⟩ := F.locs
  refine ⟨F.kind, F.glob, F.blt, ⟨m, ⟨oL, es, ep, k _ _ (ne _ (.inl rfl)) ho, hd, hk, hf⟩, fun i x d a b c => ?_⟩, fun i x a b => ?_, F.apart, fun x c e => ?_, F.cinj⟩
  · obtain ⟨v, h1, h2⟩ := hl i x d a b c
    exact ⟨v, h1, h2.keep tk⟩
  · obtain ⟨c, cv, h1, ⟨o, ho, hd⟩, h3⟩ := F.cells i x a b
    refine ⟨c, cv, h1, ⟨o, k _ _ (ne _ (.inr ⟨x, h1⟩)) ho, hd⟩, fun d e => ?_⟩
    obtain ⟨v, q1, q2⟩ := h3 d e
    exact ⟨v, q1, q2.keep tk⟩
  · obtain ⟨h1, h2, cv, o, ho, hd⟩ := F.capart x c e
    exact ⟨h1, h2, cv, o, k _ _ (ne _ (.inr ⟨x, e⟩)) ho, hd⟩
/-- one name -/
theorem stmt_asg {n : Nat} {c : Ctx} {x : Str} {i : Nat} {p pos : Pos} {v : Expr} {me : ME} {Q : Fl → Loc → Sto → Prop} (a : ∀ n, Steps prog w hb gl T k n) (ok : CtxOk c env gl) (hi : c.var x = some i) (hc : comp n c v = some me)
    (h : evP T (CallS prog w hb k) me l st fun d st => Q .next (put l i d) st) : TriS prog w ⟨hb, bad⟩ k c.ns env l st (exec (.Assign [.Name x p] v pos) env) Q := by
  intro A s QQ EE B F R o
  obtain ⟨n1, n2⟩ := var_of ok hi
  obtain ⟨b, hsw⟩ := swaps_name (v := v) (x := x) (p := p) (line := pos.line) (env := env)
  cases b with
  | false =>
    refine wpAny_Assign_Name ((a n).e bad c env v me l st _ hc ok h A s _ EE B F R fun u d st' s' q x' R' g => ?_) hsw
    refine store_ok (F.go R g) R' ok.nd n1 n2 x' fun s₂ F₂ R₂ g₂ _ => ?_
    exact o .next .next _ st' s₂ q .next F₂ R₂ ((g.weaken fun _ q => q.elim).trans (g₂.weaken fun a ha => stX_frX ha))
  | true =>
    cases v <;> try (exfalso; have : (pure false : Sem Bool) = pure true := hsw; cases this; done)
    · rename_i elt gens scope vp
      obtain ⟨m, tg, it, mi, is, me', rfl, rfl, S, h1, h2, h3, hpair, rfl⟩ := listcomp_inv hc
      rw [exec_Assign_Name_used _ _ _ _ hsw]
      refine wpAny_bind (wpAny_standAt (wpAny_bind ?_))
      show wpAny _ A (do let _ ← comprehension (.ListComp elt [⟨tg, it, [], 0⟩] scope vp) scope env _ (newList []) false (eval it env) (some (assign (.Name x p) env))) _ _ s
      refine wpAny_bind (wpAny_mono (comp_run (use := some (assign (.Name x p) env)) (QQ := fun _ s' => QQ .next s') (a m).e (a m).i h1 h3 h2 hpair ok S h B F R fun D C stF s' q RF g fC oC bC hm => ?_) (fun _ s' hq => wpAny_pure (wpAny_pure hq)) fun _ _ e => e)
      obtain ⟨mC, hm⟩ := hm
      have F' := F.go R g
      have neC : ∀ a, frX env a → a ≠ C := by
        rintro a (rfl | ⟨y, hy⟩) q
        · obtain ⟨mm, ⟨o', _, _, ho, _⟩, _⟩ := F.locs
          rw [q, fC] at ho; cases ho
        · obtain ⟨_, _, cv, o', ho, _⟩ := F.capart y a hy
          rw [q, fC] at ho; cases ho
      refine wpAny_assign_Name (store_ok F' RF ok.nd n1 n2 (.loc D) fun s₂ F₂ R₂ g₂ _ => ?_)
      have hm₂ : s₂.heap.Ns C mC := hm.at' fun o e => g₂.pres C o oC (fun z => neC C (stX_frX z) rfl) e
      refine ⟨mC, hm₂, fun h' sb => ?_⟩
      have gT : Go (frX env) st stF s s₂ := (g.weaken fun _ q => q.elim).trans (g₂.weaken fun a ha => stX_frX ha)
      obtain ⟨r1, r2⟩ := R₂.drop gT fC oC bC (fun q => (R.bad C q).2 fC) hm₂ sb
      have kb : But (· = C) s₂.heap h' := fun b o nb e => (sb.2 b nb).trans e
      have tk : TupKeep ⟨hb, bad⟩ s₂.heap h' := fun b us n _ e => kb b _ (fun q => by
        subst q; obtain ⟨o', _, _, ho, hd, _⟩ := hm₂; rw [e] at ho; cases ho; cases hd) e
      have F₃ : Fra c.ns env ⟨hb, bad⟩ (put l i (.loc D)) stF h' := F₂.drop kb tk neC
      exact o .next .next _ stF { s₂ with heap := h' } q .next F₃ r1 r2
    · exact absurd hc (by cases n <;> simp [comp])
    · exact absurd hc (by cases n <;> simp [comp])
end
end Mine

end

section
set_option linter.unusedVariables false
set_option linter.unusedSimpArgs false
set_option maxHeartbeats 4000000
namespace Mine
open PySem PySem.W PySem.Calls PyProof.Rows PySem.SeqAt PySem.MeetsSeq
open Sem (wp)

section
variable {prog : Program} {w : World} {hb : Heap} {K : Frag} {mg mb : Str → Option Value} {gl : Str → Option GV} {T : Tab} {k : Nat}
variable {base : Bs} {bad W : Addr → Prop} {ns : List Str} {env : Env} {l : Loc} {st : Sto} {s : Shared} {A : Around} {EE : Value → Shared → Prop}

theorem not_inter (F : Fra ns env base l st s.heap) : interactive env = false := by
  unfold interactive; rw [F.kind]; rfl

theorem stmt_step {n : Nat} (G : Gr prog w hb K mg mb gl T) (a : ∀ n, Steps prog w hb gl T k n) (hs : StmtOk prog w hb gl T k n) (hss : StmtsOk prog w hb gl T k n) : StmtOk prog w hb gl T k (n + 1) := by
  intro bad c env x ms l st Q hc ok h
  unfold compS at hc
  split at hc
  · rename_i v p
    split at hc
    · cases hc
    · rename_i hcomp
      obtain ⟨me, h1, rfl⟩ := Option.map_eq_some_iff.mp hc
      simp only [exP] at h
      intro A s QQ EE B F R o
      exact wpAny_Expr_any ((a n).e bad c env v me l st _ h1 ok h A s _ EE B F R fun u d st' s' q x' R' g => o.next0 F R q R' g) (not_inter F) (swaps_no (by simpa using hcomp))
  · rename_i v p
    obtain ⟨me, h1, rfl⟩ := Option.map_eq_some_iff.mp hc
    simp only [exP] at h
    intro A s QQ EE B F R o
    exact wpAny_Return_some ((a n).e bad c env v me l st _ h1 ok h A s _ EE B F R fun u d st' s' q x' R' g => o _ _ l st' s' q (.ret x') (F.go R g) R' (g.weaken fun _ q => q.elim))
  · cases hc
    simp only [exP] at h
    intro A s QQ EE B F R o
    exact wpAny_Return_none (o _ _ l st s h (.ret .none) F R (Go.refl _ _ _))
  · rename_i x p v pos
    split at hc
    · rename_i i me h1 h2
      cases hc
      simp only [exP] at h
      exact stmt_asg a ok h1 h2 h
    · cases hc
  · rename_i es kk p v pos
    split at hc
    · cases hc
    · rename_i hcomp
      split at hc
      · rename_i xs hn
        split at hc
        · rename_i hcond
          split at hc
          · rename_i is me h1 h2
            cases hc
            simp only [exP] at h
            simp only [Bool.and_eq_true, decide_eq_true_eq, Bool.not_eq_true'] at hcond
            exact stmt_asgT ok hn hcond.2 (by simpa using hcomp) hcond.1 h1 ((a n).e bad c env v me l st _ h2 ok h)
          · cases hc
        · cases hc
      · cases hc
  · rename_i ob name p v pos
    split at hc
    · rename_i mo me h1 h2
      cases hc
      simp only [exP] at h
      intro A s QQ EE B F R o
      refine plainObj_wpAny_Assign_Attribute ((a n).e bad c env v me l st _ h2 ok h A s _ EE B F R fun u d st₁ s₁ q x₁ R₁ g₁ => ?_) swaps_attr
      have F₁ := F.go R g₁
      refine (a n).e bad c env ob mo l st₁ _ h1 ok q A s₁ _ EE B F₁ R₁ fun u₂ d₂ st₂ s₂ q₂ x₂ R₂ g₂ => ?_
      obtain ⟨ad, cl, dd, es, rfl, e1, e2, hf, hz, q₂⟩ := q₂
      cases x₂
      refine setattr_ok (QU := fun st => Q .next l st) (base := ⟨hb, bad⟩) G R₂ e1 e2 hf hz (x₁.keep (g₂.tup0 R₁)) q₂ fun st₃ s₃ q₃ R₃ g₃ => ?_
      exact (o.after0 (g₁.trans g₂)).next0 (F₁.go R₁ g₂) R₂ q₃ R₃ g₃
    · cases hc
  · rename_i ob lo hi p p' v pos
    split at hc
    · cases hc
    · split at hc
      · rename_i mo m1 m2 me h1 h2 h3 h4
        cases hc
        simp only [exP] at h
        intro A s QQ EE B F R o
        refine wpAny_Assign_Subscript ((a n).e bad c env v me l st _ h4 ok h A s _ EE B F R fun u d st₁ s₁ q x₁ R₁ g₁ => ?_) swaps_sub
        have F₁ := F.go R g₁
        refine (a n).e bad c env ob mo l st₁ _ h1 ok q A s₁ _ EE B F₁ R₁ fun u₂ d₂ st₂ s₂ q₂ x₂ R₂ g₂ => ?_
        have F₂ := F₁.go R₁ g₂
        refine wpAny_Slice ((a n).e bad c env lo m1 l st₂ _ h2 ok q₂ A s₂ _ EE B F₂ R₂ fun u₃ d₃ st₃ s₃ q₃ x₃ R₃ g₃ => ?_)
        have F₃ := F₂.go R₂ g₃
        refine (a n).e bad c env hi m2 l st₃ _ h3 ok q₃ A s₃ _ EE B F₃ R₃ fun u₄ d₄ st₄ s₄ q₄ x₄ R₄ g₄ => ?_
        obtain ⟨aa, ds, b, es, i, j, rfl, e1, rfl, hne, e2, rfl, rfl, h0, hij, hj, hz, hz', q₄⟩ := q₄
        obtain ⟨t, rfl⟩ := (x₃.keep (g₄.tup0 R₃)).ofInt
        obtain ⟨t', rfl⟩ := x₄.ofInt
        cases x₂; cases x₁
        refine wpAny_pure ?_
        refine setslice_ok (QU := fun st => Q .next l st) (z := .none) (v := .none) R₄ e1 e2 hne h0 hij hj hz hz' q₄ fun st₅ s₅ q₅ R₅ g₅ => ?_
        exact (o.after0 (((g₁.trans g₂).trans g₃).trans g₄)).next0 (F₃.go R₃ g₄) R₄ q₅ R₅ g₅
      · cases hc
  · rename_i ob i p v pos _
    split at hc
    · cases hc
    · split at hc
      · rename_i mo m1 me h1 h2 h3
        cases hc
        simp only [exP] at h
        intro A s QQ EE B F R o
        refine wpAny_Assign_Subscript ((a n).e bad c env v me l st _ h3 ok h A s _ EE B F R fun u d st₁ s₁ q x₁ R₁ g₁ => ?_) swaps_sub
        have F₁ := F.go R g₁
        refine (a n).e bad c env ob mo l st₁ _ h1 ok q A s₁ _ EE B F₁ R₁ fun u₂ d₂ st₂ s₂ q₂ x₂ R₂ g₂ => ?_
        have F₂ := F₁.go R₁ g₂
        refine (a n).e bad c env i m1 l st₂ _ h2 ok q₂ A s₂ _ EE B F₂ R₂ fun u₃ d₃ st₃ s₃ q₃ x₃ R₃ g₃ => ?_
        refine setsub_ok (QU := fun st => Q .next l st) R₃ ((x₁.keep (g₂.tup0 R₁)).keep (g₃.tup0 R₂)) (x₂.keep (g₃.tup0 R₂)) x₃ q₃ fun st₅ s₅ q₅ R₅ g₅ => ?_
        exact (o.after0 ((g₁.trans g₂).trans g₃)).next0 (F₂.go R₂ g₃) R₃ q₅ R₅ g₅
      · cases hc
  · rename_i x p op v pos
    split at hc
    · rename_i i bo me h1 h2 h3
      cases hc
      simp only [exP] at h
      obtain ⟨d, hd, h⟩ := h
      obtain ⟨n1, n2⟩ := var_of ok h1
      intro A s QQ EE B F R o
      refine wpAny_AugAssign_Name (var_ok (Q := fun z st' => z = d ∧ st' = st) F R n1 n2 hd ⟨rfl, rfl⟩ fun u d₀ st₀ s₀ q₀ x₀ R₀ g₀ => ?_)
      obtain ⟨rfl, rfl⟩ := q₀
      have F₀ := F.go R g₀
      refine (a n).e bad c env v me l st₀ _ h3 ok h A s₀ _ EE B F₀ R₀ fun u₁ d₁ st₁ s₁ q₁ x₁ R₁ g₁ => ?_
      obtain ⟨i1, j1, rfl, rfl, q₁⟩ := q₁
      obtain ⟨t, rfl⟩ := x₀.ofInt
      obtain ⟨t', rfl⟩ := x₁.ofInt
      have fin : ∀ (z : Int), Q .next (put l i (.int z)) st₁ → wpAny (model prog w) A (storeName env x (.int z s₁.toks)) (fun _ => QQ .next) EE { s₁ with toks := s₁.toks + 1 } := fun z q => by
        have F₁ : Fra c.ns env ⟨hb, bad⟩ l st₁ s₁.heap := F₀.go R₀ g₁
        refine store_ok (s := { s₁ with toks := s₁.toks + 1 }) F₁ R₁ ok.nd n1 n2 (.int z _) fun s₂ F₂ R₂ g₂ _ => ?_
        exact o .next .next _ st₁ s₂ q .next F₂ R₂ ((((g₀.trans g₁).trans (Go.ext (h := s₁.heap) (tk := s₁.toks + 1) fun _ _ e => e)).weaken fun _ q => q.elim).trans (g₂.weaken fun a ha => stX_frX ha))
      cases op <;> simp [compAug] at h2 <;> subst h2
      · exact AutoIntOps.iadd_0 (fin _ q₁)
      · exact AutoIntOps.isub_0 (fin _ q₁)
    · cases hc
  · rename_i t b e pos
    split at hc
    · rename_i mt mb' mo h1 h2 h3
      cases hc
      simp only [exP] at h
      intro A s QQ EE B F R o
      refine wpAny_If ((a n).t bad c env t mt l st _ h1 ok h A s _ EE B F R fun b' st₁ s₁ q R₁ g₁ => ?_)
      cases b' with
      | true => exact hss bad c env b mb' l st₁ Q h2 ok (q.1 rfl) A s₁ QQ EE B (F.go R g₁) R₁ (o.after0 g₁)
      | false => exact hss bad c env e mo l st₁ Q h3 ok (q.2 rfl) A s₁ QQ EE B (F.go R g₁) R₁ (o.after0 g₁)
    · cases hc
  · rename_i tg it b pos
    split at hc
    · cases hc
    · rename_i hset
      split at hc
      · rename_i mi is mb' h1 h2 h3
        split at hc
        · rename_i hp
          cases hc
          exact stmt_for (a n).i hss h3 h1 ok h2 (by simpa using hp) (by simpa using hset) h
        · cases hc
      · cases hc
  · rename_i t b pos
    split at hc
    · rename_i mt mb' h1 h2
      cases hc
      exact stmt_while (a n).t hss h2 h1 ok h
    · cases hc
  · cases hc
    simp only [exP] at h
    intro A s QQ EE B F R o
    exact wpAny_Continue (o _ _ l st s h .cont F R (Go.refl _ _ _))
  · cases hc
    simp only [exP] at h
  · cases hc

theorem stmts_ok (G : Gr prog w hb K mg mb gl T) : ∀ n, StmtOk prog w hb gl T k n ∧ StmtsOk prog w hb gl T k n
  | 0 => ⟨fun _ _ _ _ _ _ _ _ h => by simp [compS] at h, fun _ _ _ _ _ _ _ _ h => by simp [compSs] at h⟩
  | n + 1 => by
    obtain ⟨h1, h2⟩ := stmts_ok G n
    exact ⟨stmt_step G (steps_ok G) h1 h2, stmts_step h1 h2⟩
end
end Mine

end

section
set_option linter.unusedVariables false
set_option linter.unusedSimpArgs false
set_option maxHeartbeats 1000000
namespace Mine
open PySem PySem.W PySem.Calls PyProof.Rows PySem.SeqAt PySem.MeetsSeq
open Sem (wp)

theorem bindL_other {kindOf : Str → Option NameKind} {x : Str} : ∀ (binds : List (Str × Value)) (m : Str → Option Value), x ∉ binds.map (·.1) → bindL kindOf binds m x = m x
  | [], _, _ => rfl
  | (n, v) :: r, m, h => by
    simp only [List.map_cons, List.mem_cons, not_or] at h
    unfold bindL
    rw [bindL_other r _ h.2]
    split
    · simp [h.1]
    · rfl
theorem bindL_at {kindOf : Str → Option NameKind} {x : Str} {v : Value} (hk : kindOf x = some .local) : ∀ (binds : List (Str × Value)) (m : Str → Option Value), (binds.map (·.1)).Nodup → (x, v) ∈ binds → bindL kindOf binds m x = some v
  | (n, u) :: r, m, nd, h => by
    simp only [List.map_cons, List.nodup_cons] at nd
    unfold bindL
    rcases List.mem_cons.mp h with e | h
    · cases e
      rw [bindL_other r _ nd.1, if_pos hk]; simp
    · exact bindL_at hk r _ nd.2 h
  | [], _, _, h => by simp at h
theorem bindC_other {kindOf : Str → Option NameKind} {x : Str} : ∀ (binds : List (Str × Value)) (m : Str → Option Value), x ∉ binds.map (·.1) → bindC kindOf binds m x = m x
  | [], _, _ => rfl
  | (n, v) :: r, m, h => by
    simp only [List.map_cons, List.mem_cons, not_or] at h
    unfold bindC
    rw [bindC_other r _ h.2]
    split
    · rfl
    · simp [h.1]
theorem bindC_at {kindOf : Str → Option NameKind} {x : Str} {v : Value} (hk : kindOf x ≠ some .local) : ∀ (binds : List (Str × Value)) (m : Str → Option Value), (binds.map (·.1)).Nodup → (x, v) ∈ binds → bindC kindOf binds m x = some v
  | (n, u) :: r, m, nd, h => by
    simp only [List.map_cons, List.nodup_cons] at nd
    unfold bindC
    rcases List.mem_cons.mp h with e | h
    · cases e
      rw [bindC_other r _ nd.1, if_neg hk]; simp
    · exact bindC_at hk r _ nd.2 h
  | [], _, _, h => by simp at h
theorem cellsFrom_keep {x : Str} : ∀ (names : List (Str × NameKind)) (n : Nat) (acc : List (Str × Addr)), (acc.lookup x).isSome = true → ((cellsFrom n names acc).lookup x).isSome = true
  | [], _, _, h => h
  | (y, k) :: r, n, acc, h => by
    unfold cellsFrom
    split
    · refine cellsFrom_keep r _ _ ?_
      rw [List.lookup_cons]
      split
      · rfl
      · exact h
    · exact cellsFrom_keep r _ _ h
theorem cellsFrom_has {x : Str} : ∀ (names : List (Str × NameKind)) (n : Nat) (acc : List (Str × Addr)), (x, NameKind.cell) ∈ names → ((cellsFrom n names acc).lookup x).isSome = true
  | (y, k) :: r, n, acc, h => by
    unfold cellsFrom
    rcases List.mem_cons.mp h with e | h
    · cases e
      simp only [beq_self_eq_true, if_true]
      exact cellsFrom_keep r _ _ (by simp)
    · split <;> exact cellsFrom_has r _ _ h
  | [], _, _, h => by simp at h

section
variable {prog : Program} {w : World} {hb : Heap} {K : Frag} {mg mb : Str → Option Value} {gl : Str → Option GV} {T : Tab} {k : Nat}
variable {A : Around} {s : Shared}

theorem call_cells {R : Result → Shared → Prop} {a : Addr} {o : Obj} {fd : FuncData} {body : List Stmt} {vals : List Value} {binds : List (Str × Value)}
    (hroom : A.depth < recursionLimit) (ho : s.heap.get? a = some o) (hdata : o.data = .func fd) (hlim : s.heap.NoLimit) (hcd : s.heap.CodeRec fd.code fd.qualname)
    (hbody : fd.body = .stmts body) (hbind : BindsTo s fd ⟨vals, []⟩ binds) (hclo : fd.closure = [])
    (hkind : ∀ x ∈ binds, fd.scope.names.lookup x.1 = some .local ∨ (fd.scope.names.lookup x.1 = some .cell ∧ ((cellsFrom (s.heap.objs.size + 1) fd.scope.names []).lookup x.1).isSome = true))
    (hco : fd.scope.isCoroutine = false) (hgen : fd.scope.isGenerator = false) (hk : fd.scope.kind = .function)
    (h : ∀ s₁, InCallC s (callEnvC fd s.heap.objs.size a).locals (bindL (callEnvC fd s.heap.objs.size a).kindOf binds fun _ => none) (callEnvC fd s.heap.objs.size a).cells
        (bindC (callEnvC fd s.heap.objs.size a).kindOf binds fun _ => none) s₁ →
      wpAny (model prog w) (A.deeper (callEnvC fd s.heap.objs.size a)) (execs body (callEnvC fd s.heap.objs.size a)) (fun f s' => R (.ok (.ret (match f with | .ret v => v | _ => .none))) s')
        (fun e s' => wpAny (model prog w) (A.deeper (callEnvC fd s.heap.objs.size a)) (leaving (callEnvC fd s.heap.objs.size a) e) (fun _ s'' => R (.error e) s'') (fun e' s'' => R (.error e') s'') s') s₁) :
    codeAny (model prog w) A (.call (.ref a) ⟨vals, []⟩) R s := by
  refine codeAny_call_function hroom ho hdata hco hgen hbody hcd (hbind _ _ _ _ ?_)
  rw [hclo]
  refine wpAny_newFunctionEnv_cells hk hkind fun env he s' x => ?_
  subst he
  exact ⟨hlim.keeps x.toInCall.keep, codeAny_func (h s' x)⟩

/-- what is asked of a function's object -/
structure FnOk (K : Frag) (gl : Str → Option GV) (f : Addr) (fd : FuncData) (body : List Stmt) (c : Ctx) (ps : List Str) : Prop where
  obj : ∃ o, K.lookup f = some o ∧ o.data = .func fd
  body : fd.body = .stmts body
  glob : fd.globals = mainGlobals
  blt : fd.builtins = builtinsNs
  clo : fd.closure = []
  kind : fd.scope.kind = .function
  co : fd.scope.isCoroutine = false
  gen : fd.scope.isGenerator = false
  code : codeIn K fd.code fd.qualname = true
  names : c.names = fd.scope.names
  gl : c.gl = gl
  nd : c.ns.Nodup
  pnd : ps.Nodup
  pns : ∀ (i : Nat) (x : Str), ps[i]? = some x → c.ns[i]? = some x
  pk : ∀ x ∈ ps, fd.scope.names.lookup x = some .local ∨ fd.scope.names.lookup x = some .cell

theorem fn_enter {f : Addr} {fd : FuncData} {body : List Stmt} {c : Ctx} {m : MSs} {n : Nat} {ps : List Str} {us : List Value} {ds df : List AV} {st : Sto} {Q : AV → Sto → Prop}
    (G : Gr prog w hb K mg mb gl T) (ok : FnOk K gl f fd body c ps) (hcm : compSs n c body = some m)
    (hbind : ∀ (s : Shared) (vs : List Value), K.In s.heap → vs.length = ds.length → BindsTo s fd ⟨vs, []⟩ (ps.zip (vs ++ us))) (hus : ∀ base h, VRs base h us df) (hlen : ps.length = ds.length + df.length)
    (h : exPs T (CallS prog w hb k) m (fun i => (ds ++ df)[i]?) st (fun fl _ st => match fl with | .ret d => Q d st | .next => Q .none st | _ => False)) : CallS prog w hb (k + 1) f ds st Q := by
  intro bad A s vs QQ EE Rm R hv o
  have X := R.inK G
  obtain ⟨ob, ho, hd⟩ := ok.obj
  have lv := hv.length
  have lu := (hus ⟨hb, bad⟩ s.heap).length
  have hz : (ps.zip (vs ++ us)).map (·.1) = ps := by rw [List.map_fst_zip]; simp; omega
  have szL : s.heap.get? s.heap.objs.size = none := size_free _
  refine call_cells (binds := ps.zip (vs ++ us)) (by have := Rm.dp; rw [show recursionLimit = 1000 from rfl]; omega) (X _ _ ho) hd (G.lim.keeps R.keep) (codeRec_of X ok.code) ok.body (hbind s vs X lv) ok.clo ?_ ok.co ok.gen ok.kind fun s₁ x => ?_
  · intro p hp
    have hm : p.1 ∈ ps := by rw [← hz]; exact List.mem_map_of_mem hp
    rcases ok.pk _ hm with h | h
    · exact .inl h
    · exact .inr ⟨h, cellsFrom_has _ _ _ (lookup_mem h)⟩
  generalize hE : callEnvC fd s.heap.objs.size f = env at x ⊢
  have eL : env.locals = s.heap.objs.size := by rw [← hE]; rfl
  have eC : env.cells = cellsFrom (s.heap.objs.size + 1) fd.scope.names [] := by rw [← hE]; rfl
  have eS : env.scope = fd.scope := by rw [← hE]; rfl
  have eK : ∀ y, env.kindOf y = fd.scope.names.lookup y := fun y => by rw [← hE]; rfl
  obtain ⟨h₁, tk, hs₁⟩ := x.toInCall.same
  subst hs₁
  have keep : ∀ b o, s.heap.get? b = some o → h₁.get? b = some o := x.toInCall.keep
  have hv₁ : VRs ⟨hb, bad⟩ h₁ (vs ++ us) (ds ++ df) := (hv.keep (TupKeep.of keep)).append (hus _ _)
  have at_ : ∀ (i : Nat) (y : Str) (d : AV), c.ns[i]? = some y → (ds ++ df)[i]? = some d → ∃ v, (y, v) ∈ ps.zip (vs ++ us) ∧ VR ⟨hb, bad⟩ h₁ v d := by
    intro i y d hy hd
    obtain ⟨v, hv, xv⟩ := hv₁.get hd
    have hi : i < ps.length := by
      have := (List.getElem?_eq_some_iff.mp hd).1
      simp at this; omega
    have hpi := ok.pns i ps[i] (List.getElem?_eq_getElem hi)
    rw [hy] at hpi; cases hpi
    refine ⟨v, List.mem_iff_getElem?.mpr ⟨i, ?_⟩, xv⟩
    rw [List.getElem?_zip_eq_some]
    exact ⟨List.getElem?_eq_getElem hi, hv⟩
  have pn : ((ps.zip (vs ++ us)).map (·.1)).Nodup := by rw [hz]; exact ok.pnd
  have fr : ∀ a, s.heap.objs.size ≤ a → st a = none ∧ hb.get? a = none := fun a ha => ⟨R.out (over_none ha), R.free (over_none ha)⟩
  have cm : ∀ y a, env.cells.lookup y = some a → s.heap.objs.size ≤ a := fun y a e => by
    have := x.above y a (mem_of_lookup e)
    rw [eL] at this
    exact Nat.le_of_lt this
  have F : Fra c.ns env ⟨hb, bad⟩ (fun i => (ds ++ df)[i]?) st h₁ := by
    refine ⟨by rw [eS]; exact ok.kind, by rw [← hE]; exact ok.glob, by rw [← hE]; exact ok.blt, ⟨_, x.toInCall.ns, fun i y d a b e => ?_⟩, fun i y a b => ?_, ?_, fun y a e => ?_, fun y z a e e' => ?_⟩
    · obtain ⟨v, hm, xv⟩ := at_ i y d a e
      exact ⟨v, bindL_at b _ _ pn hm, xv⟩
    · rw [eK] at b
      have hc : (env.cells.lookup y).isSome = true := by rw [eC]; exact cellsFrom_has _ _ _ (lookup_mem b)
      obtain ⟨ca, hca⟩ := Option.isSome_iff_exists.mp hc
      refine ⟨ca, _, hca, x.cell y ca hca, fun d e => ?_⟩
      obtain ⟨v, hm, xv⟩ := at_ i y d a e
      exact ⟨v, bindC_at (by rw [eK, b]; decide) _ _ pn hm, xv⟩
    · rw [eL]; exact fr _ (Nat.le_refl _)
    · obtain ⟨g1, g2⟩ := fr a (cm y a e)
      exact ⟨g1, g2, _, x.cell y a e⟩
    · exact name_of_addr x.apart (mem_of_lookup e) (mem_of_lookup e')
  have R₁ : Rel prog w ⟨hb, bad⟩ st h₁ := R.ext keep
  have B : Body k (A.deeper env) := ⟨Rm.hd, by have := Rm.dp; show A.depth + 1 + 10 * k + 25 < 900; omega, by have := Rm.un; show A.units + 3 + 100 * k + 150 < 9000; omega⟩
  have okc : CtxOk c env gl := ⟨by rw [eS]; exact ok.names, ok.gl, ok.nd⟩
  refine (stmts_ok G n).2 bad c env body m _ st _ hcm okc h (A.deeper env) { s with heap := h₁, toks := tk } _ _ B F R₁ fun fl f' l' st' s' q xf F' R' g => ?_
  have gF : Go noX st st' s s' := by
    have g1 : Go (fun a => noX a ∨ frX env a) st st' s s' := ((Go.ext (X := frX env) (st := st) (s := s) (h := h₁) (tk := tk) keep).trans g).weaken fun a ha => .inr ha
    have g2 := g1.leave (tk := s'.toks) (h' := s'.heap) (by
      rintro a (rfl | ⟨y, hy⟩)
      · rw [eL]; exact szL
      · exact over_none (cm y a hy)) (fun _ _ _ e => e)
    exact g2
  cases xf with
  | next => exact o _ _ _ _ q .none R' gF
  | cont => exact q.elim
  | brk => exact q.elim
  | ret xr => exact o _ _ _ _ q xr R' gF

theorem cls_enter {C fI : Addr} {ds : List AV} {st : Sto} {Q : AV → Sto → Prop} (G : Gr prog w hb K mg mb gl T) (hm : makesIn K C = true) (hi : findIn K (.ref C) "__init__" = some (some (.ref fI))) (hf : typeIn K (.ref fI) = some (.type "function"))
    (h : ∀ x dx, x ≠ dx → st x = none → st dx = none → CallS prog w hb k fI (.loc x :: ds) (upd (upd st dx (.dict [])) x (.inst C dx)) (fun d st' => d = .none ∧ Q (.loc x) st')) : CallS prog w hb (k + 1) C ds st Q := by
  intro bad A s vs QQ EE Rm R hv o
  have X := R.inK G
  obtain ⟨hh, g, d, t, os⟩ := s
  refine make_core (makes_of X hm) (looks_findIn X hi) (fun self => bind_fn X self hf) (.inl rfl) ?_
  have k1 : ∀ b p, hh.get? b = some p → (hh.push emptyDict).get? b = some p := fun b p e => Heap.get?_push_of_some _ e
  have k2 : ∀ b p, (hh.push emptyDict).get? b = some p → ((hh.push emptyDict).push (instObj C hh.objs.size)).get? b = some p := fun b p e => Heap.get?_push_of_some _ e
  have e1 : (hh.push emptyDict).get? hh.objs.size = some emptyDict := Heap.get?_push_size _ rfl
  have sz : (hh.push emptyDict).objs.size = hh.objs.size + 1 := Heap.size_push ..
  have f1 : hh.get? hh.objs.size = none := size_free _
  have f2 : (hh.push emptyDict).get? (hh.objs.size + 1) = none := by rw [← sz]; exact size_free _
  have e2 : ((hh.push emptyDict).push (instObj C hh.objs.size)).get? (hh.objs.size + 1) = some (instObj C hh.objs.size) := by rw [← sz]; exact Heap.get?_push_size _ rfl
  have R : Rel prog w ⟨hb, bad⟩ st hh := R
  have R1 : Rel prog w ⟨hb, bad⟩ (upd st hh.objs.size (.dict [])) (hh.push emptyDict) := Rel.fresh (s := ⟨hh, g, d, t, os⟩) R f1 k1 ⟨[], ⟨_, #[], 0, e1, ⟨rfl, rfl, rfl⟩, rfl, fun e he => by simp at he, .nil, List.nodup_nil⟩, rfl, .nil⟩
  have R2 : Rel prog w ⟨hb, bad⟩ (upd (upd st hh.objs.size (.dict [])) (hh.objs.size + 1) (.inst C hh.objs.size)) ((hh.push emptyDict).push (instObj C hh.objs.size)) := Rel.fresh (s := ⟨hh.push emptyDict, g, d, t, os⟩) R1 f2 k2 e2
  have g1 : Go noX st (upd st hh.objs.size (.dict [])) ⟨hh, g, d, t, os⟩ ⟨hh.push emptyDict, g, d, t, os⟩ := Go.alloc (s := ⟨hh, g, d, t, os⟩) (tk := t) f1 k1
  have g2 : Go noX (upd st hh.objs.size (.dict [])) (upd (upd st hh.objs.size (.dict [])) (hh.objs.size + 1) (.inst C hh.objs.size)) ⟨hh.push emptyDict, g, d, t, os⟩ ⟨(hh.push emptyDict).push (instObj C hh.objs.size), g, d, t, os⟩ := Go.alloc (s := ⟨hh.push emptyDict, g, d, t, os⟩) (tk := t) f2 k2
  have o1 : st hh.objs.size = none := R.out f1
  have o2 : st (hh.objs.size + 1) = none := R.out (over_none (Nat.le_succ _))
  have hw : (Code.builtin "type.__call__" ⟨.ref C :: vs, []⟩).weight ≤ 5 ∧ (Code.builtin "type.__call__" ⟨.ref C :: vs, []⟩).cUnits ≤ 20 := by
    have h1 : (Code.builtin "type.__call__" ⟨.ref C :: vs, []⟩).weight = 1 := by kernel_rfl
    have h2 : (Code.builtin "type.__call__" ⟨.ref C :: vs, []⟩).cUnits = 1 := by kernel_rfl
    exact ⟨by rw [h1]; decide, by rw [h2]; decide⟩
  refine codeAny_mono (h (hh.objs.size + 1) hh.objs.size (Nat.succ_ne_self _) o2 o1 bad _ ⟨(hh.push emptyDict).push (instObj C hh.objs.size), g, d, t, os⟩ (.ref (hh.objs.size + 1) :: vs)
    (fun v s' => v = .none ∧ QQ (.ref (hh.objs.size + 1)) s') EE ⟨Rm.hd, ?_, ?_⟩ R2 (.cons (.loc _) (hv.keep (TupKeep.of fun b p e => k2 b p (k1 b p e)))) ?_) fun r s' z => ?_
  · have := Rm.dp
    show A.depth + (Code.builtin "type.__call__" ⟨.ref C :: vs, []⟩).weight + 10 * k + 20 < 900
    omega
  · have := Rm.un
    show A.units + (Code.builtin "type.__call__" ⟨.ref C :: vs, []⟩).cUnits + 100 * k + 100 < 9000
    omega
  · intro v d' st' s' q x R' g'
    obtain ⟨rfl, q⟩ := q
    cases x
    exact ⟨rfl, o _ _ _ _ q (.loc _) R' ((g1.trans g2).trans g')⟩
  · rcases r with e | (v | _ | _ | _) <;> exact z
end
end Mine

end

section
set_option linter.unusedVariables false
namespace Mine
open PySem

theorem binP_mono {op : BOp} {x y : AV} {st : Sto} {Q Q' : AV → Sto → Prop} (hQ : ∀ d st, Q d st → Q' d st) (h : binP op x y st Q) : binP op x y st Q' := by
  cases op with
  | add =>
    rcases h with ⟨a, b, h1, h2, h3⟩ | ⟨a, b, ds, es, h1, h2, h3, h4, h5, h6⟩
    · exact .inl ⟨a, b, h1, h2, hQ _ _ h3⟩
    · exact .inr ⟨a, b, ds, es, h1, h2, h3, h4, h5, fun n hn => hQ _ _ (h6 n hn)⟩
  | sub => obtain ⟨a, b, h1, h2, h3⟩ := h; exact ⟨a, b, h1, h2, hQ _ _ h3⟩
  | mul =>
    rcases h with ⟨a, b, h1, h2, h3, h4⟩ | ⟨a, d, b, h1, h2, h3, h4, h5, h6⟩
    · exact .inl ⟨a, b, h1, h2, h3, hQ _ _ h4⟩
    · exact .inr ⟨a, d, b, h1, h2, h3, h4, h5, fun n hn => hQ _ _ (h6 n hn)⟩
  | md => obtain ⟨a, b, h1, h2, h3, h4, h5⟩ := h; exact ⟨a, b, h1, h2, h3, h4, hQ _ _ h5⟩
theorem cmpP_mono {op : COp} {x y : AV} {st : Sto} {Q Q' : AV → Sto → Prop} (hQ : ∀ d st, Q d st → Q' d st) (h : cmpP op x y st Q) : cmpP op x y st Q' := by
  cases op with
  | eq => obtain ⟨b, h1, h2⟩ := h; exact ⟨b, h1, hQ _ _ h2⟩
  | ne => obtain ⟨b, h1, h2⟩ := h; exact ⟨b, h1, hQ _ _ h2⟩
  | lt => obtain ⟨a, b, h1, h2, h3⟩ := h; exact ⟨a, b, h1, h2, hQ _ _ h3⟩
  | le => obtain ⟨a, b, h1, h2, h3⟩ := h; exact ⟨a, b, h1, h2, hQ _ _ h3⟩
  | gt => obtain ⟨a, b, h1, h2, h3⟩ := h; exact ⟨a, b, h1, h2, hQ _ _ h3⟩
  | ge => obtain ⟨a, b, h1, h2, h3⟩ := h; exact ⟨a, b, h1, h2, hQ _ _ h3⟩
  | is_ =>
    rcases h with ⟨h1, ⟨h2, h3⟩ | ⟨h2, h3⟩⟩ | ⟨a, b, h1, h2, h3⟩
    · exact .inl ⟨h1, .inl ⟨h2, hQ _ _ h3⟩⟩
    · exact .inl ⟨h1, .inr ⟨h2, hQ _ _ h3⟩⟩
    · exact .inr ⟨a, b, h1, h2, hQ _ _ h3⟩
theorem truthP_mono {x : AV} {Q Q' : Bool → Prop} (hQ : ∀ b, Q b → Q' b) (h : truthP x Q) : truthP x Q' := by
  obtain ⟨b, h1, h2⟩ := h; exact ⟨b, h1, hQ _ h2⟩

variable {T : Tab} {C C' : CallT}
def LeC (C C' : CallT) : Prop := ∀ f ds st Q Q', (∀ d st, Q d st → Q' d st) → C f ds st Q → C' f ds st Q'

mutual
theorem evP_mono (hC : LeC C C') : ∀ (e : ME) {l : Loc} {st : Sto} {Q Q' : AV → Sto → Prop}, (∀ d st, Q d st → Q' d st) → evP T C e l st Q → evP T C' e l st Q'
  | .lit d, l, st, Q, Q', hQ, h => by simp only [evP] at h ⊢; exact hQ _ _ h
  | .var i, l, st, Q, Q', hQ, h => by simp only [evP] at h ⊢; obtain ⟨d, h1, h2⟩ := h; exact ⟨d, h1, hQ _ _ h2⟩
  | .tupE as, l, st, Q, Q', hQ, h => by simp only [evP] at h ⊢; exact evPs_mono hC as (fun ds st q => ⟨q.1, hQ _ _ q.2⟩) h
  | .listE as, l, st, Q, Q', hQ, h => by simp only [evP] at h ⊢; exact evPs_mono hC as (fun ds st q => ⟨q.1, fun n hn => hQ _ _ (q.2 n hn)⟩) h
  | .dictE ks as, l, st, Q, Q', hQ, h => by simp only [evP] at h ⊢; exact evPs_mono hC as (fun ds st q => ⟨q.1, q.2.1, q.2.2.1, fun n hn => hQ _ _ (q.2.2.2 n hn)⟩) h
  | .bin op a b, l, st, Q, Q', hQ, h => by simp only [evP] at h ⊢; exact evP_mono hC a (fun x st q => evP_mono hC b (fun y st q => binP_mono hQ q) q) h
  | .fdiv a b, l, st, Q, Q', hQ, h => by
    simp only [evP] at h ⊢
    exact evP_mono hC a (fun x st q => evP_mono hC b (fun y st ⟨i, j, h1, h2, h3, h4, h5, h6⟩ => ⟨i, j, h1, h2, h3, h4, h5, hQ _ _ h6⟩) q) h
  | .neg a, l, st, Q, Q', hQ, h => by simp only [evP] at h ⊢; exact evP_mono hC a (fun x st ⟨i, h1, h2⟩ => ⟨i, h1, hQ _ _ h2⟩) h
  | .notE a, l, st, Q, Q', hQ, h => by simp only [evP] at h ⊢; exact evP_mono hC a (fun x st q => truthP_mono (fun b p => hQ _ _ p) q) h
  | .andE a b, l, st, Q, Q', hQ, h => by
    simp only [evP] at h ⊢
    exact evP_mono hC a (fun x st q => truthP_mono (fun c p => ⟨fun z => evP_mono hC b hQ (p.1 z), fun z => hQ _ _ (p.2 z)⟩) q) h
  | .orE a b, l, st, Q, Q', hQ, h => by
    simp only [evP] at h ⊢
    exact evP_mono hC a (fun x st q => truthP_mono (fun c p => ⟨fun z => hQ _ _ (p.1 z), fun z => evP_mono hC b hQ (p.2 z)⟩) q) h
  | .ifE c a b, l, st, Q, Q', hQ, h => by
    simp only [evP] at h ⊢
    exact tsP_mono hC c (fun t st p => ⟨fun z => evP_mono hC a hQ (p.1 z), fun z => evP_mono hC b hQ (p.2 z)⟩) h
  | .cmp op a b, l, st, Q, Q', hQ, h => by simp only [evP] at h ⊢; exact evP_mono hC a (fun x st q => evP_mono hC b (fun y st q => cmpP_mono hQ q) q) h
  | .cmp2 o1 o2 a b c, l, st, Q, Q', hQ, h => by
    simp only [evP] at h ⊢
    exact evP_mono hC a (fun x st q => evP_mono hC b (fun y st q => cmpP_mono (fun r st q => truthP_mono (fun t p => ⟨fun z => evP_mono hC c (fun w st q => cmpP_mono hQ q) (p.1 z), fun z => hQ _ _ (p.2 z)⟩) q) q) q) h
  | .call f as, l, st, Q, Q', hQ, h => by simp only [evP] at h ⊢; exact evPs_mono hC as (fun ds st q => hC _ _ _ _ _ hQ q) h
  | .meth o name as, l, st, Q, Q', hQ, h => by
    simp only [evP] at h ⊢
    exact evP_mono hC o (fun x st ⟨a, cl, d, es, f, h1, h2, h3, h4, h5, h6⟩ => ⟨a, cl, d, es, f, h1, h2, h3, h4, h5, evPs_mono hC as (fun ds st q => hC _ _ _ _ _ hQ q) h6⟩) h
  | .append o a, l, st, Q, Q', hQ, h => by
    simp only [evP] at h ⊢
    exact evP_mono hC o (fun x st ⟨n, ds0, h1, h2, h3⟩ => ⟨n, ds0, h1, h2, evP_mono hC a (fun y st ⟨ds, h4, h5, h6⟩ => ⟨ds, h4, h5, hQ _ _ h6⟩) h3⟩) h
  | .extend o a, l, st, Q, Q', hQ, h => by
    simp only [evP] at h ⊢
    exact evP_mono hC o (fun x st ⟨n, ds0, h1, h2, h3⟩ => ⟨n, ds0, h1, h2, evP_mono hC a (fun y st ⟨ds, es, h4, h5, h6, h7, h8⟩ => ⟨ds, es, h4, h5, h6, h7, hQ _ _ h8⟩) h3⟩) h
  | .pop o, l, st, Q, Q', hQ, h => by simp only [evP] at h ⊢; exact evP_mono hC o (fun x st ⟨n, ds, y, h1, h2, h3, h4⟩ => ⟨n, ds, y, h1, h2, h3, hQ _ _ h4⟩) h
  | .attr o name, l, st, Q, Q', hQ, h => by
    simp only [evP] at h ⊢
    refine evP_mono hC o (fun x st ⟨a, cl, d, es, h1, h2, h3, h4⟩ => ⟨a, cl, d, es, h1, h2, h3, ?_⟩) h
    revert h4
    cases T.prop cl name with
    | some f => exact fun h4 => hC _ _ _ _ _ hQ h4
    | none => exact fun ⟨h4, v, h5, h6⟩ => ⟨h4, v, h5, hQ _ _ h6⟩
  | .sub o i, l, st, Q, Q', hQ, h => by
    simp only [evP] at h ⊢
    refine evP_mono hC o (fun x st q => evP_mono hC i (fun y st q => ?_) q) h
    rcases q with ⟨ds, j, v, h1, h2, h3, h4, h5, h6⟩ | ⟨a, ds, j, v, h1, h2, h3, h4, h5, h6, h7⟩ | ⟨a, ds, v, h1, h2, h3, h4, h5⟩ | ⟨a, es, k, v, h1, h2, h3, h4, h5⟩
    · exact .inl ⟨ds, j, v, h1, h2, h3, h4, h5, hQ _ _ h6⟩
    · exact .inr (.inl ⟨a, ds, j, v, h1, h2, h3, h4, h5, h6, hQ _ _ h7⟩)
    · exact .inr (.inr (.inl ⟨a, ds, v, h1, h2, h3, h4, hQ _ _ h5⟩))
    · exact .inr (.inr (.inr ⟨a, es, k, v, h1, h2, h3, h4, hQ _ _ h5⟩))
  | .slice o lo hi, l, st, Q, Q', hQ, h => by
    simp only [evP] at h ⊢
    exact evP_mono hC o (fun x st q => evP_mono hC lo (fun y st q => evP_mono hC hi (fun z st ⟨ds, i, j, h1, h2, h3, h4⟩ => ⟨ds, i, j, h1, h2, h3, fun n hn => hQ _ _ (h4 n hn)⟩) q) q) h
  | .rev o, l, st, Q, Q', hQ, h => by simp only [evP] at h ⊢; exact evP_mono hC o (fun x st ⟨a, ds, h1, h2, h3, h4⟩ => ⟨a, ds, h1, h2, h3, fun n hn => hQ _ _ (h4 n hn)⟩) h
  | .len a, l, st, Q, Q', hQ, h => by simp only [evP] at h ⊢; exact evP_mono hC a (fun x st ⟨ds, h1, h2, h3⟩ => ⟨ds, h1, h2, hQ _ _ h3⟩) h
  | .max a b, l, st, Q, Q', hQ, h => by simp only [evP] at h ⊢; exact evP_mono hC a (fun x st q => evP_mono hC b (fun y st ⟨i, j, h1, h2, h3⟩ => ⟨i, j, h1, h2, hQ _ _ h3⟩) q) h
  | .min a b, l, st, Q, Q', hQ, h => by simp only [evP] at h ⊢; exact evP_mono hC a (fun x st q => evP_mono hC b (fun y st ⟨i, j, h1, h2, h3⟩ => ⟨i, j, h1, h2, hQ _ _ h3⟩) q) h
  | .listOf a, l, st, Q, Q', hQ, h => by simp only [evP] at h ⊢; exact evP_mono hC a (fun x st ⟨m, ds, h1, h2, h3, h4⟩ => ⟨m, ds, h1, h2, h3, fun n hn => hQ _ _ (h4 n hn)⟩) h
  | .intOf a, l, st, Q, Q', hQ, h => by simp only [evP] at h ⊢; exact evP_mono hC a (fun x st ⟨i, h1, h2⟩ => ⟨i, h1, hQ _ _ h2⟩) h
  | .allOf a, l, st, Q, Q', hQ, h => by simp only [evP] at h ⊢; exact evP_mono hC a (fun x st ⟨m, bs, h1, h2, h3, h4⟩ => ⟨m, bs, h1, h2, h3, hQ _ _ h4⟩) h
  | .comp elt it tg cap, l, st, Q, Q', hQ, h => by
    simp only [evP] at h ⊢
    refine itP_mono hC it (fun r st ⟨I, N, h0, step⟩ => ⟨I, N, h0, fun i acc st hI => ?_⟩) h
    obtain ⟨h1, h2, x, h3, h4⟩ := step i acc st hI
    refine ⟨h1, h2, x, h3, ?_⟩
    cases x with
    | none => exact fun n hn => hQ _ _ (h4 n hn)
    | some d => obtain ⟨l', h5, h6⟩ := h4; exact ⟨l', h5, evP_mono hC elt (fun v st q => q) h6⟩
theorem evPs_mono (hC : LeC C C') : ∀ (e : MEs) {l : Loc} {st : Sto} {Q Q' : List AV → Sto → Prop}, (∀ d st, Q d st → Q' d st) → evPs T C e l st Q → evPs T C' e l st Q'
  | .nil, l, st, Q, Q', hQ, h => by simp only [evPs] at h ⊢; exact hQ _ _ h
  | .cons a r, l, st, Q, Q', hQ, h => by simp only [evPs] at h ⊢; exact evP_mono hC a (fun x st q => evPs_mono hC r (fun xs st q => hQ _ _ q) q) h
theorem itP_mono (hC : LeC C C') : ∀ (e : MI) {l : Loc} {st : Sto} {Q Q' : It → Sto → Prop}, (∀ d st, Q d st → Q' d st) → itP T C e l st Q → itP T C' e l st Q'
  | .list e, l, st, Q, Q', hQ, h => by simp only [itP] at h ⊢; exact evP_mono hC e (fun x st ⟨a, ds, h1, h2, h3⟩ => ⟨a, ds, h1, h2, hQ _ _ h3⟩) h
  | .enum e, l, st, Q, Q', hQ, h => by simp only [itP] at h ⊢; exact evP_mono hC e (fun x st ⟨a, ds, h1, h2, h3⟩ => ⟨a, ds, h1, h2, hQ _ _ h3⟩) h
  | .zip e f, l, st, Q, Q', hQ, h => by
    simp only [itP] at h ⊢
    exact evP_mono hC e (fun x st q => evP_mono hC f (fun y st ⟨a, b, ds, es, h1, h2, h3, h4, h5⟩ => ⟨a, b, ds, es, h1, h2, h3, h4, hQ _ _ h5⟩) q) h
  | .range1 e, l, st, Q, Q', hQ, h => by simp only [itP] at h ⊢; exact evP_mono hC e (fun x st ⟨i, h1, h2, h3, h4⟩ => ⟨i, h1, h2, h3, hQ _ _ h4⟩) h
  | .range2 e f, l, st, Q, Q', hQ, h => by
    simp only [itP] at h ⊢
    exact evP_mono hC e (fun x st q => evP_mono hC f (fun y st ⟨i, j, h1, h2, h3, h4, h5, h6, h7⟩ => ⟨i, j, h1, h2, h3, h4, h5, h6, hQ _ _ h7⟩) q) h
theorem tsP_mono (hC : LeC C C') : ∀ (t : MT) {l : Loc} {st : Sto} {Q Q' : Bool → Sto → Prop}, (∀ d st, Q d st → Q' d st) → tsP T C t l st Q → tsP T C' t l st Q'
  | .val e, l, st, Q, Q', hQ, h => by simp only [tsP] at h ⊢; exact evP_mono hC e (fun x st q => truthP_mono (fun b p => hQ _ _ p) q) h
  | .notT t, l, st, Q, Q', hQ, h => by simp only [tsP] at h ⊢; exact tsP_mono hC t (fun b st q => hQ _ _ q) h
  | .andT a b, l, st, Q, Q', hQ, h => by simp only [tsP] at h ⊢; exact tsP_mono hC a (fun c st p => ⟨fun z => tsP_mono hC b hQ (p.1 z), fun z => hQ _ _ (p.2 z)⟩) h
  | .orT a b, l, st, Q, Q', hQ, h => by simp only [tsP] at h ⊢; exact tsP_mono hC a (fun c st p => ⟨fun z => hQ _ _ (p.1 z), fun z => tsP_mono hC b hQ (p.2 z)⟩) h
  | .ifT c a b, l, st, Q, Q', hQ, h => by simp only [tsP] at h ⊢; exact tsP_mono hC c (fun t st p => ⟨fun z => tsP_mono hC a hQ (p.1 z), fun z => tsP_mono hC b hQ (p.2 z)⟩) h
end

theorem turnQ_mono {again again' : Loc → Sto → Prop} {Q Q' : Fl → Loc → Sto → Prop} (ha : ∀ l st, again l st → again' l st) (hQ : ∀ f l st, Q f l st → Q' f l st) : ∀ f l st, turnQ again Q f l st → turnQ again' Q' f l st := by
  intro f l st h
  cases f with
  | next => exact ha _ _ h
  | cont => exact ha _ _ h
  | brk => exact hQ _ _ _ h
  | ret d => exact hQ _ _ _ h
theorem seqQ_mono {rest rest' : Loc → Sto → Prop} {Q Q' : Fl → Loc → Sto → Prop} (ha : ∀ l st, rest l st → rest' l st) (hQ : ∀ f l st, Q f l st → Q' f l st) : ∀ f l st, seqQ rest Q f l st → seqQ rest' Q' f l st := by
  intro f l st h
  cases f with
  | next => exact ha _ _ h
  | cont => exact hQ _ _ _ h
  | brk => exact hQ _ _ _ h
  | ret d => exact hQ _ _ _ h

mutual
theorem exP_mono (hC : LeC C C') : ∀ (s : MS) {l : Loc} {st : Sto} {Q Q' : Fl → Loc → Sto → Prop}, (∀ f l st, Q f l st → Q' f l st) → exP T C s l st Q → exP T C' s l st Q'
  | .expr e, l, st, Q, Q', hQ, h => by simp only [exP] at h ⊢; exact evP_mono hC e (fun _ _ q => hQ _ _ _ q) h
  | .ret e, l, st, Q, Q', hQ, h => by simp only [exP] at h ⊢; exact evP_mono hC e (fun _ _ q => hQ _ _ _ q) h
  | .retN, l, st, Q, Q', hQ, h => by simp only [exP] at h ⊢; exact hQ _ _ _ h
  | .asg i e, l, st, Q, Q', hQ, h => by simp only [exP] at h ⊢; exact evP_mono hC e (fun _ _ q => hQ _ _ _ q) h
  | .asgT is e, l, st, Q, Q', hQ, h => by simp only [exP] at h ⊢; exact evP_mono hC e (fun d st ⟨ds, l', h1, h2, h3⟩ => ⟨ds, l', h1, h2, hQ _ _ _ h3⟩) h
  | .setattr o name e, l, st, Q, Q', hQ, h => by
    simp only [exP] at h ⊢
    exact evP_mono hC e (fun v st q => evP_mono hC o (fun x st ⟨a, cl, d, es, h1, h2, h3, h4, h5, h6⟩ => ⟨a, cl, d, es, h1, h2, h3, h4, h5, hQ _ _ _ h6⟩) q) h
  | .setsub o i e, l, st, Q, Q', hQ, h => by
    simp only [exP] at h ⊢
    refine evP_mono hC e (fun v st q => evP_mono hC o (fun x st q => evP_mono hC i (fun y st q => ?_) q) q) h
    rcases q with ⟨a, ds, j, h1, h2, h3, h4, h5, h6, h7⟩ | ⟨a, ds, w, h1, h2, h3, h4, h5⟩ | ⟨a, es, k, h1, h2, h3, h4, h5, h6⟩
    · exact .inl ⟨a, ds, j, h1, h2, h3, h4, h5, h6, hQ _ _ _ h7⟩
    · exact .inr (.inl ⟨a, ds, w, h1, h2, h3, h4, hQ _ _ _ h5⟩)
    · exact .inr (.inr ⟨a, es, k, h1, h2, h3, h4, h5, hQ _ _ _ h6⟩)
  | .setslice o lo hi e, l, st, Q, Q', hQ, h => by
    simp only [exP] at h ⊢
    exact evP_mono hC e (fun v st q => evP_mono hC o (fun x st q => evP_mono hC lo (fun y st q => evP_mono hC hi (fun z st ⟨a, ds, b, es, i, j, h1, h2, h3, h4, h5, h6, h7, h8, h9, h10, h11, h12, h13⟩ =>
      ⟨a, ds, b, es, i, j, h1, h2, h3, h4, h5, h6, h7, h8, h9, h10, h11, h12, hQ _ _ _ h13⟩) q) q) q) h
  | .aug i op e, l, st, Q, Q', hQ, h => by
    simp only [exP] at h ⊢
    obtain ⟨x, h0, h⟩ := h
    refine ⟨x, h0, evP_mono hC e (fun y st ⟨a, b, h1, h2, h3⟩ => ⟨a, b, h1, h2, ?_⟩) h⟩
    cases op with
    | add => exact hQ _ _ _ h3
    | sub => exact hQ _ _ _ h3
    | mul => exact h3
    | md => exact h3
  | .ite c b o, l, st, Q, Q', hQ, h => by
    simp only [exP] at h ⊢
    exact tsP_mono hC c (fun t st p => ⟨fun z => exPs_mono hC b hQ (p.1 z), fun z => exPs_mono hC o hQ (p.2 z)⟩) h
  | .for_ it tg b, l, st, Q, Q', hQ, h => by
    simp only [exP] at h ⊢
    refine itP_mono hC it (fun r st ⟨I, N, h0, step⟩ => ⟨I, N, h0, fun i l st hI => ?_⟩) h
    obtain ⟨h1, x, h3, h4⟩ := step i l st hI
    refine ⟨h1, x, h3, ?_⟩
    cases x with
    | none => exact hQ _ _ _ h4
    | some d => obtain ⟨l', h5, h6⟩ := h4; exact ⟨l', h5, exPs_mono hC b (turnQ_mono (fun l st q => q) hQ) h6⟩
  | .while_ c b, l, st, Q, Q', hQ, h => by
    simp only [exP] at h ⊢
    obtain ⟨I, n₀, h0, step⟩ := h
    refine ⟨I, n₀, h0, fun n l st hI => ?_⟩
    exact tsP_mono hC c (fun t st p => ⟨fun z => exPs_mono hC b (turnQ_mono (fun l st q => q) hQ) (p.1 z), fun z => hQ _ _ _ (p.2 z)⟩) (step n l st hI)
  | .cont, l, st, Q, Q', hQ, h => by simp only [exP] at h ⊢; exact hQ _ _ _ h
  | .stuck, l, st, Q, Q', hQ, h => by simp only [exP] at h
theorem exPs_mono (hC : LeC C C') : ∀ (s : MSs) {l : Loc} {st : Sto} {Q Q' : Fl → Loc → Sto → Prop}, (∀ f l st, Q f l st → Q' f l st) → exPs T C s l st Q → exPs T C' s l st Q'
  | .nil, l, st, Q, Q', hQ, h => by simp only [exPs] at h ⊢; exact hQ _ _ _ h
  | .cons s r, l, st, Q, Q', hQ, h => by simp only [exPs] at h ⊢; exact exP_mono hC s (seqQ_mono (fun l st q => exPs_mono hC r hQ q) hQ) h
end

/-- what stands behind a name: a function (how many names, what stands for the last ones, the body), a class (what makes it ready) -/
inductive Def where
  | fn (np : Nat) (df : List AV) (body : MSs)
  | cls (init : Addr)
def argsOf (np : Nat) (df ds : List AV) : List AV := ds ++ df.drop (df.length - (np - ds.length))
def retQ (Q : AV → Sto → Prop) : Fl → Loc → Sto → Prop := fun fl _ st => match fl with
  | .ret d => Q d st
  | .next => Q .none st
  | _ => False
def Calls (T : Tab) (prg : Addr → Option Def) : Nat → CallT
  | 0, _, _, _, _ => False
  | n + 1, f, ds, st, Q => match prg f with
    | some (.fn np df body) => (ds.length ≤ np ∧ np ≤ ds.length + df.length) ∧ exPs T (Calls T prg n) body (fun i => (argsOf np df ds)[i]?) st (retQ Q)
    | some (.cls fI) => ∀ x dx, x ≠ dx → st x = none → st dx = none → Calls T prg n fI (.loc x :: ds) (upd (upd st dx (.dict [])) x (.inst f dx)) (fun d st' => d = .none ∧ Q (.loc x) st')
    | none => False
theorem retQ_mono {Q Q' : AV → Sto → Prop} (hQ : ∀ d st, Q d st → Q' d st) : ∀ f l st, retQ Q f l st → retQ Q' f l st := by
  intro f l st h
  cases f with
  | next => exact hQ _ _ h
  | cont => exact h
  | brk => exact h
  | ret d => exact hQ _ _ h
theorem calls_mono {prg : Addr → Option Def} : ∀ (n : Nat), LeC (Calls T prg n) (Calls T prg n)
  | 0, _, _, _, _, _, _, h => h
  | n + 1, f, ds, st, Q, Q', hQ, h => by
    unfold Calls at h ⊢
    revert h
    cases prg f with
    | none => exact fun h => h
    | some p =>
      cases p with
      | fn np df body => exact fun h => ⟨h.1, exPs_mono (calls_mono n) body (retQ_mono hQ) h.2⟩
      | cls fI => exact fun h x dx a b c => calls_mono n _ _ _ _ _ (fun d st q => ⟨q.1, hQ _ _ q.2⟩) (h x dx a b c)
theorem calls_up {prg : Addr → Option Def} : ∀ (n : Nat), LeC (Calls T prg n) (Calls T prg (n + 1))
  | 0, _, _, _, _, _, _, h => h.elim
  | n + 1, f, ds, st, Q, Q', hQ, h => by
    unfold Calls at h ⊢
    revert h
    cases prg f with
    | none => exact fun h => h
    | some p =>
      cases p with
      | fn np df body => exact fun h => ⟨h.1, exPs_mono (calls_up n) body (retQ_mono hQ) h.2⟩
      | cls fI => exact fun h x dx a b c => calls_up n _ _ _ _ _ (fun d st q => ⟨q.1, hQ _ _ q.2⟩) (h x dx a b c)
theorem calls_le {prg : Addr → Option Def} {n m : Nat} (h : n ≤ m) : LeC (Calls T prg n) (Calls T prg m) := by
  induction h with
  | refl => exact calls_mono n
  | step _ ih => exact fun f ds st Q Q' hQ q => calls_up _ f ds st Q Q' hQ (ih f ds st Q Q (fun _ _ z => z) q)
end Mine

end

section
namespace Mine
open PySem
/-- erased_pen -/
def m_erased_pen : MSs := (.cons (.ret (.tupE (.cons (.lit (.int (0))) (.cons (.lit (.int (-1))) (.cons (.sub (.var 0) (.lit (.int (2)))) (.cons (.lit (.int (-1))) (.cons (.lit (.int (0))) .nil))))))) .nil)
/-- blank_cell -/
def m_blank_cell : MSs := (.cons (.ret (.tupE (.cons (.tupE .nil) (.cons (.lit (.int (1))) (.cons (.call 62 (.cons (.var 0) .nil)) (.cons (.lit (.bool false)) .nil)))))) .nil)
/-- is_blank -/
def m_is_blank : MSs := (.cons (.ret (.andE (.cmp .eq (.sub (.var 0) (.lit (.int (0)))) (.tupE .nil)) (.cmp .eq (.sub (.var 0) (.lit (.int (1)))) (.lit (.int (1)))))) .nil)
/-- is_plain_blank -/
def m_is_plain_blank : MSs := (.cons (.ret (.cmp .eq (.var 0) (.tupE (.cons (.tupE .nil) (.cons (.lit (.int (1))) (.cons (.lit (.tup [(.int (0)), (.int (-1)), (.int (-1)), (.int (-1)), (.int (0))])) (.cons (.lit (.bool false)) .nil))))))) .nil)
/-- line_blanks -/
def m_line_blanks : MSs := (.cons (.ret (.bin .mul (.listE (.cons (.call 69 (.cons (.var 1) .nil)) .nil)) (.max (.lit (.int (0))) (.var 0)))) .nil)
/-- right_half -/
def m_right_half : MSs := (.cons (.ret (.tupE (.cons (.tupE .nil) (.cons (.lit (.int (0))) (.cons (.sub (.var 0) (.lit (.int (2)))) (.cons (.sub (.var 0) (.lit (.int (3)))) .nil)))))) .nil)
/-- line_part -/
def m_line_part : MSs := (.cons (.ite (.andT (.val (.cmp2 .lt .lt (.lit (.int (0))) (.var 1) (.len (.var 0)))) (.val (.cmp .eq (.sub (.sub (.var 0) (.var 1)) (.lit (.int (1)))) (.lit (.int (0)))))) (.cons (.setsub (.var 0) (.bin .sub (.var 1) (.lit (.int (1)))) (.call 69 (.cons (.sub (.sub (.var 0) (.bin .sub (.var 1) (.lit (.int (1))))) (.lit (.int (2)))) .nil))) (.cons (.setsub (.var 0) (.var 1) (.call 69 (.cons (.sub (.sub (.var 0) (.var 1)) (.lit (.int (2)))) .nil))) .nil)) .nil) .nil)
/-- line_slice -/
def m_line_slice : MSs := (.cons (.asg 3 (.listOf (.slice (.var 0) (.max (.lit (.int (0))) (.var 1)) (.max (.lit (.int (0))) (.bin .add (.var 2) (.lit (.int (1)))))))) (.cons (.ite (.andT (.val (.cmp .ne (.var 3) (.listE .nil))) (.val (.cmp .eq (.sub (.sub (.var 3) (.lit (.int (0)))) (.lit (.int (1)))) (.lit (.int (0)))))) (.cons (.setsub (.var 3) (.lit (.int (0))) (.call 69 (.cons (.sub (.sub (.var 3) (.lit (.int (0)))) (.lit (.int (2)))) .nil))) .nil) .nil) (.cons (.ite (.andT (.val (.cmp .ne (.var 3) (.listE .nil))) (.val (.cmp .eq (.sub (.sub (.var 3) (.neg (.lit (.int (1))))) (.lit (.int (1)))) (.lit (.int (2)))))) (.cons (.setsub (.var 3) (.neg (.lit (.int (1)))) (.call 69 (.cons (.sub (.sub (.var 3) (.neg (.lit (.int (1))))) (.lit (.int (2)))) .nil))) .nil) .nil) (.cons (.ret (.var 3)) .nil))))
/-- line_is_whole -/
def m_line_is_whole : MSs := (.cons (.for_ (.enum (.var 0)) [1, 2] (.cons (.ite (.andT (.val (.cmp .eq (.sub (.var 2) (.lit (.int (1)))) (.lit (.int (2))))) (.orT (.val (.cmp .eq (.bin .add (.var 1) (.lit (.int (1)))) (.len (.var 0)))) (.val (.cmp .ne (.sub (.var 0) (.bin .add (.var 1) (.lit (.int (1))))) (.call 98 (.cons (.var 2) .nil)))))) (.cons (.ret (.lit (.bool false))) .nil) .nil) (.cons (.ite (.andT (.val (.cmp .eq (.sub (.var 2) (.lit (.int (1)))) (.lit (.int (0))))) (.orT (.val (.cmp .eq (.var 1) (.lit (.int (0))))) (.val (.cmp .ne (.sub (.sub (.var 0) (.bin .sub (.var 1) (.lit (.int (1))))) (.lit (.int (1)))) (.lit (.int (2))))))) (.cons (.ret (.lit (.bool false))) .nil) .nil) .nil))) (.cons (.ret (.lit (.bool true))) .nil))
/-- line_codes -/
def m_line_codes : MSs := (.cons (.asg 1 (.len (.var 0))) (.cons (.while_ (.andT (.val (.cmp .gt (.var 1) (.lit (.int (0))))) (.val (.call 76 (.cons (.sub (.var 0) (.bin .sub (.var 1) (.lit (.int (1))))) .nil)))) (.cons (.aug 1 .sub (.lit (.int (1)))) .nil)) (.cons (.asg 2 (.listE .nil)) (.cons (.for_ (.list (.slice (.var 0) (.lit .none) (.var 1))) [3] (.cons (.ite (.val (.cmp .ne (.sub (.var 3) (.lit (.int (1)))) (.lit (.int (0))))) (.cons (.expr (.extend (.var 2) (.ifE (.val (.cmp .ne (.sub (.var 3) (.lit (.int (0)))) (.tupE .nil))) (.sub (.var 3) (.lit (.int (0)))) (.tupE (.cons (.lit (.int (32))) .nil))))) .nil) .nil) .nil)) (.cons (.ret (.var 2)) .nil)))))
/-- Line.__init__ -/
def m_Line__init : MSs := (.cons (.setattr (.var 0) "cells" (.call 91 (.cons (.var 1) (.cons (.var 2) .nil)))) (.cons (.setattr (.var 0) "is_wrapped" (.lit (.bool false))) (.cons (.setattr (.var 0) "size" (.sub (.lit (.tup [(.str "single"), (.str "wide"), (.str "top"), (.str "bottom")])) (.lit (.int (0))))) .nil)))
/-- Line.columns -/
def m_Line_columns : MSs := (.cons (.ret (.len (.attr (.var 0) "cells"))) .nil)
/-- Line.part -/
def m_Line_part : MSs := (.cons (.expr (.call 105 (.cons (.attr (.var 0) "cells") (.cons (.var 1) .nil)))) .nil)
/-- Line.put_cells -/
def m_Line_put_cells : MSs := (.cons (.ite (.orT (.notT (.val (.cmp2 .le .lt (.lit (.int (0))) (.var 1) (.len (.attr (.var 0) "cells"))))) (.val (.cmp .eq (.var 2) (.listE .nil)))) (.cons .retN .nil) .nil) (.cons (.asg 3 (.call 112 (.cons (.var 2) (.cons (.lit (.int (0))) (.cons (.bin .sub (.bin .sub (.len (.attr (.var 0) "cells")) (.var 1)) (.lit (.int (1)))) .nil))))) (.cons (.expr (.meth (.var 0) "part" (.cons (.var 1) .nil))) (.cons (.expr (.meth (.var 0) "part" (.cons (.bin .add (.var 1) (.len (.var 3))) .nil))) (.cons (.setslice (.attr (.var 0) "cells") (.var 1) (.bin .add (.var 1) (.len (.var 3))) (.var 3)) .nil)))))
/-- Line.copy -/
def m_Line_copy : MSs := (.cons (.asg 1 (.call 251 (.cons (.lit (.int (0))) (.cons (.lit (.tup [(.int (0)), (.int (-1)), (.int (-1)), (.int (-1)), (.int (0))])) .nil)))) (.cons (.setattr (.var 1) "cells" (.listOf (.attr (.var 0) "cells"))) (.cons (.setattr (.var 1) "is_wrapped" (.attr (.var 0) "is_wrapped")) (.cons (.setattr (.var 1) "size" (.attr (.var 0) "size")) (.cons (.ret (.var 1)) .nil)))))
/-- Line.codes -/
def m_Line_codes : MSs := (.cons (.ret (.call 126 (.cons (.call 112 (.cons (.attr (.var 0) "cells") (.cons (.var 1) (.cons (.ifE (.val (.cmp .is_ (.var 2) (.lit .none))) (.bin .sub (.len (.attr (.var 0) "cells")) (.lit (.int (1)))) (.var 2)) .nil)))) .nil))) .nil)
/-- Line.used -/
def m_Line_used : MSs := (.cons (.asg 1 (.len (.attr (.var 0) "cells"))) (.cons (.while_ (.andT (.val (.cmp .gt (.var 1) (.lit (.int (0))))) (.val (.call 83 (.cons (.sub (.attr (.var 0) "cells") (.bin .sub (.var 1) (.lit (.int (1))))) .nil)))) (.cons (.aug 1 .sub (.lit (.int (1)))) .nil)) (.cons (.ret (.var 1)) .nil)))
/-- Line.equals -/
def m_Line_equals : MSs := (.cons (.ret (.cmp .eq (.tupE (.cons (.attr (.var 0) "cells") (.cons (.attr (.var 0) "is_wrapped") (.cons (.attr (.var 0) "size") .nil)))) (.tupE (.cons (.attr (.var 1) "cells") (.cons (.attr (.var 1) "is_wrapped") (.cons (.attr (.var 1) "size") .nil)))))) .nil)
/-- line_of -/
def m_line_of : MSs := (.cons (.asg 3 (.call 251 (.cons (.lit (.int (0))) (.cons (.lit (.tup [(.int (0)), (.int (-1)), (.int (-1)), (.int (-1)), (.int (0))])) .nil)))) (.cons (.setattr (.var 3) "cells" (.call 112 (.cons (.var 0) (.cons (.lit (.int (0))) (.cons (.bin .sub (.len (.var 0)) (.lit (.int (1)))) .nil))))) (.cons (.setattr (.var 3) "is_wrapped" (.var 1)) (.cons (.setattr (.var 3) "size" (.var 2)) (.cons (.ret (.var 3)) .nil)))))
/-- lines_joined -/
def m_lines_joined : MSs := (.cons (.asg 1 (.listE .nil)) (.cons (.for_ (.enum (.var 0)) [2, 3] (.cons (.ite (.val (.cmp .eq (.bin .add (.var 2) (.lit (.int (1)))) (.len (.var 0)))) (.cons (.expr (.extend (.var 1) (.slice (.attr (.var 3) "cells") (.lit .none) (.meth (.var 3) "used" .nil)))) (.cons .cont .nil)) .nil) (.cons (.asgT [4, 5] (.tupE (.cons (.listOf (.attr (.var 3) "cells")) (.cons (.attr (.sub (.var 0) (.bin .add (.var 2) (.lit (.int (1))))) "cells") .nil)))) (.cons (.ite (.andT (.val (.cmp .ne (.var 4) (.listE .nil))) (.andT (.val (.call 76 (.cons (.sub (.var 4) (.neg (.lit (.int (1))))) .nil))) (.andT (.val (.cmp .ne (.var 5) (.listE .nil))) (.val (.cmp .eq (.sub (.sub (.var 5) (.lit (.int (0)))) (.lit (.int (1)))) (.lit (.int (2)))))))) (.cons (.expr (.pop (.var 4))) .nil) .nil) (.cons (.expr (.extend (.var 1) (.var 4))) .nil))))) (.cons (.ret (.var 1)) .nil)))
/-- cells_cut -/
def m_cells_cut : MSs := (.cons (.asgT [3, 4] (.tupE (.cons (.listE .nil) (.cons (.lit (.int (0))) .nil)))) (.cons (.while_ (.val (.cmp .lt (.var 4) (.len (.var 0)))) (.cons (.asg 5 (.min (.bin .add (.var 4) (.var 1)) (.len (.var 0)))) (.cons (.ite (.andT (.val (.cmp .lt (.var 5) (.len (.var 0)))) (.andT (.val (.cmp .eq (.sub (.sub (.var 0) (.var 5)) (.lit (.int (1)))) (.lit (.int (0))))) (.val (.cmp .gt (.bin .sub (.var 5) (.var 4)) (.lit (.int (1))))))) (.cons (.aug 5 .sub (.lit (.int (1)))) .nil) (.cons (.ite (.andT (.val (.cmp .lt (.var 5) (.len (.var 0)))) (.val (.cmp .eq (.sub (.sub (.var 0) (.var 5)) (.lit (.int (1)))) (.lit (.int (0)))))) (.cons (.aug 5 .add (.lit (.int (1)))) .nil) .nil) .nil)) (.cons (.asg 6 (.call 251 (.cons (.var 1) (.cons (.var 2) .nil)))) (.cons (.expr (.meth (.var 6) "put_cells" (.cons (.lit (.int (0))) (.cons (.slice (.var 0) (.var 4) (.var 5)) .nil)))) (.cons (.setattr (.var 6) "is_wrapped" (.cmp .lt (.var 5) (.len (.var 0)))) (.cons (.expr (.append (.var 3) (.var 6))) (.cons (.asg 4 (.var 5)) .nil)))))))) (.cons (.ret (.ifE (.val (.cmp .ne (.var 3) (.listE .nil))) (.var 3) (.listE (.cons (.call 251 (.cons (.var 1) (.cons (.var 2) .nil))) .nil)))) .nil)))
/-- line_place -/
def m_line_place : MSs := (.cons (.ite (.andT (.val (.cmp2 .lt .lt (.lit (.int (0))) (.var 1) (.len (.attr (.var 0) "cells")))) (.val (.cmp .eq (.sub (.sub (.attr (.var 0) "cells") (.var 1)) (.lit (.int (1)))) (.lit (.int (0)))))) (.cons (.ret (.bin .sub (.var 1) (.lit (.int (1))))) .nil) .nil) (.cons (.ret (.var 1)) .nil))
/-- Grid.__init__ -/
def m_Grid__init : MSs := (.cons (.ite (.orT (.val (.cmp .lt (.var 1) (.lit (.int (1))))) (.val (.cmp .lt (.var 2) (.lit (.int (1)))))) (.cons .stuck .nil) .nil) (.cons (.setattr (.var 0) "rows" (.var 1)) (.cons (.setattr (.var 0) "columns" (.var 2)) (.cons (.setattr (.var 0) "lines" (.comp (.call 251 (.cons (.var 2) (.cons (.lit (.tup [(.int (0)), (.int (-1)), (.int (-1)), (.int (-1)), (.int (0))])) .nil))) (.range1 (.var 1)) [4] [2])) .nil))))
/-- Grid.line -/
def m_Grid_line : MSs := (.cons (.ret (.sub (.attr (.var 0) "lines") (.var 1))) .nil)
/-- Grid.whole_area -/
def m_Grid_whole_area : MSs := (.cons (.ret (.tupE (.cons (.lit (.int (0))) (.cons (.lit (.int (0))) (.cons (.bin .sub (.attr (.var 0) "rows") (.lit (.int (1)))) (.cons (.bin .sub (.attr (.var 0) "columns") (.lit (.int (1)))) .nil)))))) .nil)
/-- Grid.cells_in -/
def m_Grid_cells_in : MSs := (.cons (.asgT [2, 3, 4, 5] (.var 1)) (.cons (.ret (.comp (.slice (.attr (.sub (.attr (.var 0) "lines") (.var 7)) "cells") (.var 3) (.bin .add (.var 5) (.lit (.int (1))))) (.range2 (.var 2) (.bin .add (.var 4) (.lit (.int (1))))) [7] [0, 3, 5])) .nil))
/-- Grid.copy -/
def m_Grid_copy : MSs := (.cons (.asg 1 (.call 423 (.cons (.attr (.var 0) "rows") (.cons (.attr (.var 0) "columns") .nil)))) (.cons (.setattr (.var 1) "lines" (.comp (.meth (.var 3) "copy" .nil) (.list (.attr (.var 0) "lines")) [3] [])) (.cons (.ret (.var 1)) .nil)))
/-- Grid.equals -/
def m_Grid_equals : MSs := (.cons (.ite (.orT (.val (.cmp .ne (.attr (.var 0) "rows") (.attr (.var 1) "rows"))) (.val (.cmp .ne (.attr (.var 0) "columns") (.attr (.var 1) "columns")))) (.cons (.ret (.lit (.bool false))) .nil) .nil) (.cons (.ret (.allOf (.comp (.meth (.var 3) "equals" (.cons (.var 4) .nil)) (.zip (.attr (.var 0) "lines") (.attr (.var 1) "lines")) [3, 4] []))) .nil))
/-- Grid.text -/
def m_Grid_text : MSs := (.cons (.ret (.comp (.meth (.sub (.attr (.var 0) "lines") (.var 2)) "codes" (.cons (.lit (.int (0))) (.cons (.bin .sub (.attr (.var 0) "columns") (.lit (.int (1)))) .nil))) (.range1 (.attr (.var 0) "rows")) [2] [0])) .nil)
/-- grid_is_sound -/
def m_grid_is_sound : MSs := (.cons (.for_ (.list (.attr (.var 0) "lines")) [1] (.cons (.ite (.val (.cmp .ne (.len (.attr (.var 1) "cells")) (.attr (.var 0) "columns"))) (.cons (.ret (.lit (.bool false))) .nil) .nil) (.cons (.for_ (.enum (.attr (.var 1) "cells")) [2, 3] (.cons (.ite (.andT (.val (.cmp .eq (.sub (.var 3) (.lit (.int (1)))) (.lit (.int (2))))) (.orT (.val (.cmp .eq (.bin .add (.var 2) (.lit (.int (1)))) (.attr (.var 0) "columns"))) (.val (.cmp .ne (.sub (.sub (.attr (.var 1) "cells") (.bin .add (.var 2) (.lit (.int (1))))) (.lit (.int (1)))) (.lit (.int (0))))))) (.cons (.ret (.lit (.bool false))) .nil) .nil) (.cons (.ite (.andT (.val (.cmp .eq (.sub (.var 3) (.lit (.int (1)))) (.lit (.int (0))))) (.orT (.val (.cmp .eq (.var 2) (.lit (.int (0))))) (.val (.cmp .ne (.sub (.sub (.attr (.var 1) "cells") (.bin .sub (.var 2) (.lit (.int (1))))) (.lit (.int (1)))) (.lit (.int (2))))))) (.cons (.ret (.lit (.bool false))) .nil) .nil) .nil))) .nil))) (.cons (.ret (.lit (.bool true))) .nil))
/-- _law_deck -/
def m_law_deck : MSs := (.cons (.asgT [2, 3] (.tupE (.cons (.comp (.bin .md (.intOf (.var 1)) (.lit (.int (1000000007)))) (.list (.slice (.var 0) (.lit .none) (.lit (.int (40))))) [1] []) (.cons (.lit (.int (11))) .nil)))) (.cons (.for_ (.list (.var 2)) [1] (.cons (.asg 3 (.bin .md (.bin .add (.bin .mul (.var 3) (.lit (.int (31)))) (.var 1)) (.lit (.int (1000003))))) .nil)) (.cons (.ret (.dictE ["cells", "mixed"] (.cons (.rev (.var 2)) (.cons (.var 3) .nil)))) .nil)))
/-- _law_draw -/
def m_law_draw : MSs := (.cons (.ite (.val (.cmp .ne (.sub (.var 0) (.lit (.str "cells"))) (.listE .nil))) (.cons (.ret (.bin .md (.pop (.sub (.var 0) (.lit (.str "cells")))) (.var 1))) .nil) .nil) (.cons (.setsub (.var 0) (.lit (.str "mixed")) (.bin .md (.bin .add (.bin .mul (.sub (.var 0) (.lit (.str "mixed"))) (.lit (.int (16807)))) (.lit (.int (29)))) (.lit (.int (2147483647))))) (.cons (.ret (.bin .md (.fdiv (.sub (.var 0) (.lit (.str "mixed"))) (.lit (.int (64)))) (.var 1))) .nil)))
/-- _law_pen -/
def m_law_pen : MSs := (.cons (.ret (.sub (.tupE (.cons (.lit (.tup [(.int (0)), (.int (-1)), (.int (-1)), (.int (-1)), (.int (0))])) (.cons (.tupE (.cons (.lit (.int (1))) (.cons (.lit (.int (2))) (.cons (.neg (.lit (.int (1)))) (.cons (.neg (.lit (.int (1)))) (.cons (.lit (.int (0))) .nil)))))) (.cons (.tupE (.cons (.lit (.int (0))) (.cons (.neg (.lit (.int (1)))) (.cons (.lit (.int (4))) (.cons (.neg (.lit (.int (1)))) (.cons (.lit (.int (0))) .nil)))))) .nil)))) (.call 453 (.cons (.var 0) (.cons (.lit (.int (3))) .nil))))) .nil)
/-- _law_sign -/
def m_law_sign : MSs := (.cons (.asg 2 (.call 453 (.cons (.var 0) (.cons (.lit (.int (12))) .nil)))) (.cons (.asgT [3, 4] (.tupE (.cons (.call 460 (.cons (.var 0) .nil)) (.cons (.cmp .eq (.bin .md (.var 2) (.lit (.int (4)))) (.lit (.int (3)))) .nil)))) (.cons (.ite (.val (.var 1)) (.cons (.asg 5 (.tupE (.cons (.tupE (.cons (.bin .add (.lit (.int (19968))) (.fdiv (.var 2) (.lit (.int (4))))) .nil)) (.cons (.lit (.int (2))) (.cons (.var 3) (.cons (.var 4) .nil)))))) (.cons (.ret (.listE (.cons (.var 5) (.cons (.call 98 (.cons (.var 5) .nil)) .nil)))) .nil)) .nil) (.cons (.asg 6 (.ifE (.val (.cmp .eq (.bin .md (.var 2) (.lit (.int (4)))) (.lit (.int (2))))) (.tupE (.cons (.bin .add (.lit (.int (97))) (.fdiv (.var 2) (.lit (.int (4))))) (.cons (.lit (.int (769))) .nil))) (.tupE (.cons (.bin .add (.lit (.int (97))) (.fdiv (.var 2) (.lit (.int (4))))) .nil)))) (.cons (.ret (.listE (.cons (.tupE (.cons (.var 6) (.cons (.lit (.int (1))) (.cons (.var 3) (.cons (.var 4) .nil))))) .nil))) .nil)))))
/-- _law_is_empty -/
def m_law_is_empty : MSs := (.cons (.ret (.andE (.cmp .eq (.sub (.var 0) (.lit (.int (0)))) (.tupE .nil)) (.cmp .eq (.sub (.var 0) (.lit (.int (1)))) (.lit (.int (1)))))) .nil)
/-- _law_row -/
def m_law_row : MSs := (.cons (.asg 2 (.listE .nil)) (.cons (.for_ (.range1 (.var 1)) [3] (.cons (.asg 4 (.call 453 (.cons (.var 0) (.cons (.lit (.int (4))) .nil)))) (.cons (.ite (.val (.cmp .eq (.var 4) (.lit (.int (3))))) (.cons (.expr (.append (.var 2) (.call 69 (.cons (.lit (.tup [(.int (0)), (.int (-1)), (.int (-1)), (.int (-1)), (.int (0))])) .nil)))) .nil) (.cons (.expr (.extend (.var 2) (.call 467 (.cons (.var 0) (.cons (.andE (.cmp .eq (.var 4) (.lit (.int (2)))) (.orE (.cmp .eq (.var 2) (.listE .nil)) (.notE (.call 474 (.cons (.sub (.var 2) (.neg (.lit (.int (1))))) .nil))))) .nil))))) .nil)) .nil))) (.cons (.ite (.orT (.val (.cmp .eq (.var 2) (.listE .nil))) (.val (.call 474 (.cons (.sub (.var 2) (.neg (.lit (.int (1))))) .nil)))) (.cons (.expr (.extend (.var 2) (.call 467 (.cons (.var 0) (.cons (.lit (.bool false)) .nil))))) .nil) .nil) (.cons (.ret (.var 2)) .nil))))
/-- _law_full -/
def m_law_full : MSs := (.cons (.asg 2 (.listE .nil)) (.cons (.while_ (.val (.cmp .lt (.len (.var 2)) (.var 1))) (.cons (.asg 3 (.call 453 (.cons (.var 0) (.cons (.lit (.int (4))) .nil)))) (.cons (.ite (.val (.cmp .eq (.var 3) (.lit (.int (3))))) (.cons (.expr (.append (.var 2) (.call 69 (.cons (.lit (.tup [(.int (0)), (.int (-1)), (.int (-1)), (.int (-1)), (.int (0))])) .nil)))) .nil) (.cons (.expr (.extend (.var 2) (.call 467 (.cons (.var 0) (.cons (.andE (.cmp .eq (.var 3) (.lit (.int (2)))) (.cmp .le (.bin .add (.len (.var 2)) (.lit (.int (2)))) (.var 1))) .nil))))) .nil)) .nil))) (.cons (.ret (.var 2)) .nil)))
/-- _law_filled -/
def m_law_filled : MSs := (.cons (.asg 2 (.listE (.cons (.listE .nil) .nil))) (.cons (.for_ (.list (.var 0)) [3] (.cons (.ite (.val (.cmp .gt (.sub (.var 3) (.lit (.int (1)))) (.lit (.int (0))))) (.cons (.asg 4 (.min (.sub (.var 3) (.lit (.int (1)))) (.var 1))) (.cons (.ite (.val (.cmp .gt (.bin .add (.len (.sub (.var 2) (.neg (.lit (.int (1)))))) (.var 4)) (.var 1))) (.cons (.setsub (.var 2) (.neg (.lit (.int (1)))) (.bin .add (.sub (.var 2) (.neg (.lit (.int (1))))) (.bin .mul (.listE (.cons (.lit .none) .nil)) (.bin .sub (.var 1) (.len (.sub (.var 2) (.neg (.lit (.int (1)))))))))) (.cons (.expr (.append (.var 2) (.listE .nil))) .nil)) .nil) (.cons (.ite (.andT (.val (.cmp .eq (.sub (.var 3) (.lit (.int (1)))) (.lit (.int (2))))) (.val (.cmp .gt (.var 1) (.lit (.int (1)))))) (.cons (.expr (.extend (.sub (.var 2) (.neg (.lit (.int (1))))) (.listE (.cons (.var 3) (.cons (.call 98 (.cons (.var 3) .nil)) .nil))))) .nil) (.cons (.expr (.append (.sub (.var 2) (.neg (.lit (.int (1))))) (.ifE (.val (.cmp .eq (.sub (.var 3) (.lit (.int (1)))) (.lit (.int (1))))) (.var 3) (.lit .none)))) .nil)) .nil))) .nil) .nil)) (.cons (.setsub (.var 2) (.neg (.lit (.int (1)))) (.bin .add (.sub (.var 2) (.neg (.lit (.int (1))))) (.bin .mul (.listE (.cons (.lit .none) .nil)) (.bin .sub (.var 1) (.len (.sub (.var 2) (.neg (.lit (.int (1)))))))))) (.cons (.ret (.var 2)) .nil))))
/-- _law_is_whole -/
def m_law_is_whole : MSs := (.cons (.for_ (.enum (.var 0)) [1, 2] (.cons (.ite (.andT (.val (.cmp .eq (.sub (.var 2) (.lit (.int (1)))) (.lit (.int (2))))) (.orT (.val (.cmp .eq (.bin .add (.var 1) (.lit (.int (1)))) (.len (.var 0)))) (.val (.cmp .ne (.sub (.sub (.var 0) (.bin .add (.var 1) (.lit (.int (1))))) (.lit (.int (1)))) (.lit (.int (0))))))) (.cons (.ret (.lit (.bool false))) .nil) .nil) (.cons (.ite (.andT (.val (.cmp .eq (.sub (.var 2) (.lit (.int (1)))) (.lit (.int (0))))) (.orT (.val (.cmp .eq (.var 1) (.lit (.int (0))))) (.val (.cmp .ne (.sub (.sub (.var 0) (.bin .sub (.var 1) (.lit (.int (1))))) (.lit (.int (1)))) (.lit (.int (2))))))) (.cons (.ret (.lit (.bool false))) .nil) .nil) .nil))) (.cons (.ret (.lit (.bool true))) .nil))
/-- _law_are_cut -/
def m_law_are_cut : MSs := (.cons (.asgT [3, 4] (.tupE (.cons (.call 277 (.cons (.var 0) (.cons (.var 1) (.cons (.var 2) .nil)))) (.cons (.call 495 (.cons (.var 0) (.cons (.var 1) .nil))) .nil)))) (.cons (.ite (.val (.cmp .ne (.comp (.attr (.var 5) "is_wrapped") (.list (.var 3)) [5] []) (.bin .add (.bin .mul (.listE (.cons (.lit (.bool true)) .nil)) (.bin .sub (.len (.var 4)) (.lit (.int (1))))) (.listE (.cons (.lit (.bool false)) .nil))))) (.cons (.ret (.lit (.bool false))) .nil) .nil) (.cons (.for_ (.zip (.var 3) (.var 4)) [5, 6] (.cons (.ite (.orT (.val (.cmp .ne (.attr (.var 5) "columns") (.var 1))) (.orT (.val (.cmp .ne (.attr (.var 5) "size") (.lit (.str "single")))) (.notT (.val (.call 119 (.cons (.attr (.var 5) "cells") .nil)))))) (.cons (.ret (.lit (.bool false))) .nil) .nil) (.cons (.for_ (.zip (.attr (.var 5) "cells") (.var 6)) [7, 8] (.cons (.ite (.notT (.ifT (.orT (.val (.cmp .is_ (.var 8) (.lit .none))) (.val (.call 474 (.cons (.var 8) .nil)))) (.val (.call 474 (.cons (.var 7) .nil))) (.val (.cmp .eq (.var 7) (.var 8))))) (.cons (.ret (.lit (.bool false))) .nil) .nil) .nil)) .nil))) (.cons (.ret (.lit (.bool true))) .nil))))
/-- _law_trimmed -/
def m_law_trimmed : MSs := (.cons (.asg 1 (.len (.var 0))) (.cons (.while_ (.andT (.val (.cmp .gt (.var 1) (.lit (.int (0))))) (.val (.cmp .eq (.sub (.var 0) (.bin .sub (.var 1) (.lit (.int (1))))) (.call 69 (.cons (.lit (.tup [(.int (0)), (.int (-1)), (.int (-1)), (.int (-1)), (.int (0))])) .nil))))) (.cons (.asg 1 (.bin .sub (.var 1) (.lit (.int (1))))) .nil)) (.cons (.ret (.listOf (.slice (.var 0) (.lit .none) (.var 1)))) .nil)))
/-- _law_shown -/
def m_law_shown : MSs := (.cons (.asg 1 (.listE .nil)) (.cons (.for_ (.list (.call 514 (.cons (.var 0) .nil))) [2] (.cons (.ite (.val (.cmp .gt (.sub (.var 2) (.lit (.int (1)))) (.lit (.int (0))))) (.cons (.expr (.extend (.var 1) (.ifE (.val (.cmp .ne (.sub (.var 2) (.lit (.int (0)))) (.tupE .nil))) (.sub (.var 2) (.lit (.int (0)))) (.tupE (.cons (.lit (.int (32))) .nil))))) .nil) .nil) .nil)) (.cons (.ret (.var 1)) .nil)))
/-- _law_ends_right -/
def m_law_ends_right : MSs := (.cons (.asg 2 (.call 453 (.cons (.var 0) (.cons (.len (.var 1)) .nil)))) (.cons (.asg 3 (.slice (.var 1) (.var 2) (.bin .add (.bin .add (.var 2) (.lit (.int (1)))) (.call 453 (.cons (.var 0) (.cons (.bin .sub (.len (.var 1)) (.var 2)) .nil)))))) (.cons (.ite (.val (.cmp .ne (.call 119 (.cons (.var 3) .nil)) (.call 502 (.cons (.var 3) .nil)))) (.cons (.ret (.lit (.bool false))) .nil) .nil) (.cons (.asg 4 (.listOf (.var 3))) (.cons (.ite (.val (.cmp .eq (.sub (.sub (.var 4) (.lit (.int (0)))) (.lit (.int (1)))) (.lit (.int (0))))) (.cons (.setsub (.var 4) (.lit (.int (0))) (.call 69 (.cons (.sub (.sub (.var 4) (.lit (.int (0)))) (.lit (.int (2)))) .nil))) .nil) .nil) (.cons (.ite (.val (.cmp .eq (.sub (.sub (.var 4) (.neg (.lit (.int (1))))) (.lit (.int (1)))) (.lit (.int (2))))) (.cons (.setsub (.var 4) (.neg (.lit (.int (1)))) (.call 69 (.cons (.sub (.sub (.var 4) (.neg (.lit (.int (1))))) (.lit (.int (2)))) .nil))) .nil) .nil) (.cons (.asg 5 (.call 263 (.cons (.var 3) (.cons (.lit (.bool true)) (.cons (.lit (.str "wide")) .nil))))) (.cons (.ret (.andE (.cmp .eq (.listOf (.attr (.var 5) "cells")) (.var 4)) (.andE (.cmp .is_ (.attr (.var 5) "is_wrapped") (.lit (.bool true))) (.andE (.cmp .eq (.attr (.var 5) "size") (.lit (.str "wide"))) (.call 119 (.cons (.attr (.var 5) "cells") .nil)))))) .nil))))))))
/-- _law_joined -/
def m_law_joined : MSs := (.cons (.asg 1 (.listE .nil)) (.cons (.for_ (.enum (.var 0)) [2, 3] (.cons (.asg 4 (.andE (.cmp .lt (.bin .add (.var 2) (.lit (.int (1)))) (.len (.var 0))) (.andE (.call 474 (.cons (.sub (.var 3) (.neg (.lit (.int (1))))) .nil)) (.cmp .eq (.sub (.sub (.sub (.var 0) (.bin .add (.var 2) (.lit (.int (1))))) (.lit (.int (0)))) (.lit (.int (1)))) (.lit (.int (2))))))) (.cons (.expr (.extend (.var 1) (.ifE (.val (.var 4)) (.slice (.var 3) (.lit .none) (.neg (.lit (.int (1))))) (.var 3)))) .nil))) (.cons (.ret (.var 1)) .nil)))
/-- _law_grid_right -/
def m_law_grid_right : MSs := (.cons (.asg 2 (.call 423 (.cons (.len (.var 0)) (.cons (.var 1) .nil)))) (.cons (.ite (.orT (.val (.cmp .ne (.meth (.var 2) "whole_area" .nil) (.tupE (.cons (.lit (.int (0))) (.cons (.lit (.int (0))) (.cons (.bin .sub (.len (.var 0)) (.lit (.int (1)))) (.cons (.bin .sub (.var 1) (.lit (.int (1)))) .nil))))))) (.notT (.val (.call 441 (.cons (.var 2) .nil))))) (.cons (.ret (.lit (.bool false))) .nil) .nil) (.cons (.for_ (.enum (.var 0)) [3, 4] (.cons (.setsub (.attr (.var 2) "lines") (.var 3) (.call 263 (.cons (.var 4) .nil))) .nil)) (.cons (.asg 5 (.meth (.var 2) "copy" .nil)) (.cons (.ite (.val (.cmp .ne (.comp (.listOf (.var 4)) (.list (.meth (.var 2) "cells_in" (.cons (.meth (.var 2) "whole_area" .nil) .nil))) [4] []) (.var 0))) (.cons (.ret (.lit (.bool false))) .nil) .nil) (.cons (.ite (.orT (.notT (.val (.call 441 (.cons (.var 2) .nil)))) (.notT (.val (.meth (.var 2) "equals" (.cons (.var 5) .nil))))) (.cons (.ret (.lit (.bool false))) .nil) .nil) (.cons (.ite (.val (.cmp .ne (.comp (.listOf (.var 7)) (.list (.meth (.var 2) "text" .nil)) [7] []) (.comp (.call 521 (.cons (.var 4) .nil)) (.list (.var 0)) [4] []))) (.cons (.ret (.lit (.bool false))) .nil) .nil) (.cons (.setsub (.attr (.var 5) "lines") (.lit (.int (0))) (.call 263 (.cons (.bin .add (.sub (.var 0) (.lit (.int (0)))) (.listE (.cons (.call 69 (.cons (.lit (.tup [(.int (0)), (.int (-1)), (.int (-1)), (.int (-1)), (.int (0))])) .nil)) .nil))) .nil))) (.cons (.ret (.andE (.notE (.call 441 (.cons (.var 5) .nil))) (.andE (.notE (.meth (.var 2) "equals" (.cons (.var 5) .nil))) (.cmp .eq (.listOf (.attr (.meth (.var 2) "line" (.cons (.lit (.int (0))) .nil)) "cells")) (.sub (.var 0) (.lit (.int (0)))))))) .nil)))))))))
/-- law -/
def m_law : MSs := (.cons (.asg 1 (.call 446 (.cons (.var 0) .nil))) (.cons (.asgT [2, 3] (.tupE (.cons (.bin .add (.lit (.int (1))) (.call 453 (.cons (.var 1) (.cons (.lit (.int (6))) .nil)))) (.cons (.call 453 (.cons (.var 1) (.cons (.lit (.int (10))) .nil))) .nil)))) (.cons (.asg 4 (.call 481 (.cons (.var 1) (.cons (.var 3) .nil)))) (.cons (.ite (.orT (.notT (.val (.call 507 (.cons (.var 4) (.cons (.var 2) (.cons (.call 460 (.cons (.var 1) .nil)) .nil)))))) (.notT (.val (.call 507 (.cons (.listE .nil) (.cons (.var 2) (.cons (.lit (.tup [(.int (0)), (.int (-1)), (.int (-1)), (.int (-1)), (.int (0))])) .nil))))))) (.cons (.ret (.lit (.bool false))) .nil) .nil) (.cons (.ite (.andT (.val (.cmp .gt (.var 2) (.lit (.int (1))))) (.val (.cmp .ne (.call 514 (.cons (.call 270 (.cons (.call 277 (.cons (.var 4) (.cons (.var 2) (.cons (.lit (.tup [(.int (0)), (.int (-1)), (.int (-1)), (.int (-1)), (.int (0))])) .nil)))) .nil)) .nil)) (.var 4)))) (.cons (.ret (.lit (.bool false))) .nil) .nil) (.cons (.asg 5 (.call 263 (.cons (.var 4) .nil))) (.cons (.for_ (.enum (.var 4)) [6, 7] (.cons (.ite (.val (.cmp .ne (.call 284 (.cons (.var 5) (.cons (.var 6) .nil))) (.ifE (.val (.cmp .eq (.sub (.var 7) (.lit (.int (1)))) (.lit (.int (0))))) (.bin .sub (.var 6) (.lit (.int (1)))) (.var 6)))) (.cons (.ret (.lit (.bool false))) .nil) .nil) .nil)) (.cons (.ite (.orT (.val (.cmp .ne (.listOf (.call 126 (.cons (.var 4) .nil))) (.call 521 (.cons (.var 4) .nil)))) (.notT (.val (.call 528 (.cons (.var 1) (.cons (.var 4) .nil)))))) (.cons (.ret (.lit (.bool false))) .nil) .nil) (.cons (.asg 8 (.comp (.call 488 (.cons (.var 1) (.cons (.var 2) .nil))) (.range1 (.bin .add (.lit (.int (2))) (.call 453 (.cons (.var 1) (.cons (.lit (.int (3))) .nil))))) [11] [1, 2])) (.cons (.asg 9 (.comp (.call 263 (.cons (.var 12) (.cons (.cmp .lt (.bin .add (.var 6) (.lit (.int (1)))) (.len (.var 8))) .nil))) (.enum (.var 8)) [6, 12] [8])) (.cons (.ite (.val (.cmp .ne (.call 514 (.cons (.call 270 (.cons (.var 9) .nil)) .nil)) (.call 514 (.cons (.call 535 (.cons (.var 8) .nil)) .nil)))) (.cons (.ret (.lit (.bool false))) .nil) .nil) (.cons (.ret (.call 540 (.cons (.var 8) (.cons (.var 2) .nil)))) .nil))))))))))))
def prg (f : Addr) : Option Def := match f with
  | 62 => some (.fn 1 [] m_erased_pen)
  | 69 => some (.fn 1 [] m_blank_cell)
  | 76 => some (.fn 1 [] m_is_blank)
  | 83 => some (.fn 1 [] m_is_plain_blank)
  | 91 => some (.fn 2 [] m_line_blanks)
  | 98 => some (.fn 1 [] m_right_half)
  | 105 => some (.fn 2 [] m_line_part)
  | 112 => some (.fn 3 [] m_line_slice)
  | 119 => some (.fn 1 [] m_line_is_whole)
  | 126 => some (.fn 1 [] m_line_codes)
  | 140 => some (.fn 3 [] m_Line__init)
  | 147 => some (.fn 1 [] m_Line_columns)
  | 162 => some (.fn 2 [] m_Line_part)
  | 176 => some (.fn 3 [] m_Line_put_cells)
  | 219 => some (.fn 1 [] m_Line_copy)
  | 227 => some (.fn 3 [] m_Line_codes)
  | 234 => some (.fn 1 [] m_Line_used)
  | 248 => some (.fn 2 [] m_Line_equals)
  | 263 => some (.fn 3 [.bool false, .str "single"] m_line_of)
  | 270 => some (.fn 1 [] m_lines_joined)
  | 277 => some (.fn 3 [] m_cells_cut)
  | 284 => some (.fn 2 [] m_line_place)
  | 296 => some (.fn 3 [] m_Grid__init)
  | 303 => some (.fn 2 [] m_Grid_line)
  | 310 => some (.fn 1 [] m_Grid_whole_area)
  | 405 => some (.fn 2 [] m_Grid_cells_in)
  | 410 => some (.fn 1 [] m_Grid_copy)
  | 415 => some (.fn 2 [] m_Grid_equals)
  | 420 => some (.fn 1 [] m_Grid_text)
  | 441 => some (.fn 1 [] m_grid_is_sound)
  | 446 => some (.fn 1 [] m_law_deck)
  | 453 => some (.fn 2 [] m_law_draw)
  | 460 => some (.fn 1 [] m_law_pen)
  | 467 => some (.fn 2 [] m_law_sign)
  | 474 => some (.fn 1 [] m_law_is_empty)
  | 481 => some (.fn 2 [] m_law_row)
  | 488 => some (.fn 2 [] m_law_full)
  | 495 => some (.fn 2 [] m_law_filled)
  | 502 => some (.fn 1 [] m_law_is_whole)
  | 507 => some (.fn 3 [] m_law_are_cut)
  | 514 => some (.fn 1 [] m_law_trimmed)
  | 521 => some (.fn 1 [] m_law_shown)
  | 528 => some (.fn 2 [] m_law_ends_right)
  | 535 => some (.fn 1 [] m_law_joined)
  | 540 => some (.fn 2 [] m_law_grid_right)
  | 545 => some (.fn 1 [] m_law)
  | 251 => some (.cls 140)
  | 423 => some (.cls 296)
  | _ => none
def tab : Tab where
  meth C x := if C = 251 then ([("part", 162), ("put_cells", 176), ("copy", 219), ("codes", 227), ("used", 234), ("equals", 248)] : List (Str × Addr)).lookup x
    else if C = 423 then ([("line", 303), ("whole_area", 310), ("cells_in", 405), ("copy", 410), ("equals", 415), ("text", 420)] : List (Str × Addr)).lookup x else none
  prop C x := if C = 251 then ([("columns", 147)] : List (Str × Addr)).lookup x else none
  field C x := if C = 251 then (["cells", "is_wrapped", "size"] : List Str).contains x else if C = 423 then (["rows", "columns", "lines"] : List Str).contains x else false
end Mine

end

section
set_option linter.unusedVariables false
set_option linter.unusedSimpArgs false
set_option maxHeartbeats 1000000
namespace Mine
open PySem PySem.W PySem.Calls PyProof.Rows PySem.SeqAt PySem.MeetsSeq
open Sem (wp)

/-- what is asked of the kit's heap for a name's own thing -/
def DefOk (K : Frag) (gl : Str → Option GV) (f : Addr) : Def → Prop
  | .fn np df body => ∃ fd stmts c ps n, FnOk K gl f fd stmts c ps ∧ compSs n c stmts = some body ∧ ps.length = np ∧ ∀ j, j ≤ np → np ≤ j + df.length → ∃ us : List Value,
      (∀ (s : Shared) (vs : List Value), K.In s.heap → vs.length = j → BindsTo s fd ⟨vs, []⟩ (ps.zip (vs ++ us))) ∧ (∀ base h, VRs base h us (df.drop (df.length - (np - j))))
  | .cls fI => makesIn K f = true ∧ findIn K (.ref f) "__init__" = some (some (.ref fI)) ∧ typeIn K (.ref fI) = some (.type "function")

section
variable {prog : Program} {w : World} {hb : Heap} {K : Frag} {mg mb : Str → Option Value} {gl : Str → Option GV} {T : Tab}

theorem callS_mono {k : Nat} : LeC (CallS prog w hb k) (CallS prog w hb k) :=
  fun f ds st Q Q' hQ h bad A s vs QQ EE Rm R hv o => h bad A s vs QQ EE Rm R hv fun v d st' s' q => o v d st' s' (hQ _ _ q)

theorem calls_sound {prg : Addr → Option Def} (G : Gr prog w hb K mg mb gl T) (H : ∀ f d, prg f = some d → DefOk K gl f d) : ∀ (n : Nat) (f : Addr) (ds : List AV) (st : Sto) (Q : AV → Sto → Prop), Calls T prg n f ds st Q → CallS prog w hb n f ds st Q
  | 0, _, _, _, _, h => h.elim
  | n + 1, f, ds, st, Q, h => by
    have ih := calls_sound G H n
    have le : LeC (Calls T prg n) (CallS prog w hb n) := fun f ds st Q Q' hQ q => callS_mono f ds st Q Q' hQ (ih f ds st Q q)
    unfold Calls at h
    cases hp : prg f with
    | none => rw [hp] at h; exact h.elim
    | some d =>
      rw [hp] at h
      have hd := H f d hp
      cases d with
      | fn np df body =>
        obtain ⟨fd, stmts, c, ps, m, ok, hc, hl, hb'⟩ := hd
        obtain ⟨⟨l1, l2⟩, h⟩ := h
        obtain ⟨us, hu1, hu2⟩ := hb' ds.length l1 l2
        refine fn_enter (df := df.drop (df.length - (np - ds.length))) G ok hc hu1 hu2 ?_ ?_
        · rw [hl, List.length_drop]; omega
        · refine exPs_mono le body (fun fl l st q => ?_) h
          cases fl <;> exact q
      | cls fI =>
        obtain ⟨h1, h2, h3⟩ := hd
        exact cls_enter G h1 h2 h3 fun x dx a b c => ih _ _ _ _ (h x dx a b c)
end

/-- the kit's function at an address -/
def fdAt (K : Frag) (f : Addr) : Option FuncData := match K.lookup f with
  | some ⟨_, _, .func fd, _⟩ => some fd
  | _ => none
def stmtsOf (fd : FuncData) : List Stmt := match fd.body with
  | .stmts b => b
  | _ => []
def isStmts (fd : FuncData) : Bool := match fd.body with
  | .stmts _ => true
  | _ => false
def fnChk (K : Frag) (ns ps : List Str) (fd : FuncData) : Bool :=
  isStmts fd && fd.globals == mainGlobals && fd.builtins == builtinsNs && fd.closure.isEmpty && fd.scope.kind == .function && !fd.scope.isCoroutine && !fd.scope.isGenerator && codeIn K fd.code fd.qualname &&
    decide ns.Nodup && decide ps.Nodup && ns.take ps.length == ps && ps.all fun x => fd.scope.names.lookup x == some .local || fd.scope.names.lookup x == some .cell
theorem fnOk_of {K : Frag} {gl : Str → Option GV} {f : Addr} {ns ps : List Str} {fd : FuncData} (h1 : fdAt K f = some fd) (h2 : fnChk K ns ps fd = true) : FnOk K gl f fd (stmtsOf fd) ⟨ns, fd.scope.names, gl⟩ ps := by
  unfold fnChk at h2
  simp only [Bool.and_eq_true, beq_iff_eq, decide_eq_true_eq, Bool.not_eq_true', List.isEmpty_iff, List.all_eq_true, Bool.or_eq_true] at h2
  obtain ⟨⟨⟨⟨⟨⟨⟨⟨⟨⟨⟨a1, a2⟩, a3⟩, a4⟩, a5⟩, a6⟩, a7⟩, a8⟩, a9⟩, a10⟩, a11⟩, a12⟩ := h2
  have ho : ∃ o, K.lookup f = some o ∧ o.data = .func fd := by
    unfold fdAt at h1
    split at h1
    · rename_i e; cases h1; exact ⟨_, e, rfl⟩
    · cases h1
  refine ⟨ho, ?_, a2, a3, a4, a5, a6, a7, a8, rfl, rfl, a9, a10, fun i x e => ?_, a12⟩
  · unfold isStmts at a1
    unfold stmtsOf
    split at a1
    · rename_i e; rw [e]
    · cases a1
  · rw [← a11] at e
    rw [List.getElem?_take] at e
    split at e
    · exact e
    · cases e
/-- a function of the text, all its arguments given -/
theorem defOk_fn {K : Frag} {gl : Str → Option GV} {f : Addr} {ns ps : List Str} {m : MSs} {np : Nat} {df : List AV} (n : Nat) (h2 : (fdAt K f).map (fnChk K ns ps) = some true) (h3 : (fdAt K f).map (fun fd => compSs n ⟨ns, fd.scope.names, gl⟩ (stmtsOf fd)) = some (some m)) (hl : ps.length = np)
    (hb : ∀ j, j ≤ np → np ≤ j + df.length → ∃ us : List Value, (∀ (S : Setting) (vs : List Value), vs.length = j → (fdAt K f).map (fun fd => peek K S (bindArgs fd ⟨vs, []⟩)) = some (some (ps.zip (vs ++ us)))) ∧ (∀ base h, VRs base h us (df.drop (df.length - (np - j))))) : DefOk K gl f (.fn np df m) := by
  obtain ⟨fd, e, a2⟩ := Option.map_eq_some_iff.mp h2
  rw [e] at h3
  simp only [Option.map_some, Option.some.injEq] at h3
  refine ⟨fd, stmtsOf fd, ⟨ns, fd.scope.names, gl⟩, ps, n, fnOk_of e a2, h3, hl, fun j h1 h2 => ?_⟩
  obtain ⟨us, b1, b2⟩ := hb j h1 h2
  refine ⟨us, fun s vs X hv => kp_binds X fun S => ?_, b2⟩
  have := b1 S vs hv
  rw [e] at this
  simpa using this
end Mine

end

section
set_option linter.unusedVariables false
set_option maxRecDepth 100000
set_option maxHeartbeats 4000000
namespace Mine
open PySem PySem.W PySem.Calls PyProof.Rows
def GLs : List (Str × GV) := [(("PLAIN" : Str), GV.data (.tup [.int 0, .int (-1), .int (-1), .int (-1), .int 0])), (("NO_COLOUR" : Str), GV.data (.int (-1))), (("BACK" : Str), GV.data (.int 2)), (("LINE_SIZES" : Str), GV.data (.tup [.str "single", .str "wide", .str "top", .str "bottom"])),
  (("erased_pen" : Str), GV.fn 62), (("blank_cell" : Str), GV.fn 69), (("is_blank" : Str), GV.fn 76), (("is_plain_blank" : Str), GV.fn 83), (("line_blanks" : Str), GV.fn 91), (("right_half" : Str), GV.fn 98), (("line_part" : Str), GV.fn 105), (("line_slice" : Str), GV.fn 112), (("line_is_whole" : Str), GV.fn 119), (("line_codes" : Str), GV.fn 126), (("line_of" : Str), GV.fn 263), (("lines_joined" : Str), GV.fn 270), (("cells_cut" : Str), GV.fn 277), (("line_place" : Str), GV.fn 284), (("grid_is_sound" : Str), GV.fn 441), (("_law_deck" : Str), GV.fn 446), (("_law_draw" : Str), GV.fn 453), (("_law_pen" : Str), GV.fn 460), (("_law_sign" : Str), GV.fn 467), (("_law_is_empty" : Str), GV.fn 474), (("_law_row" : Str), GV.fn 481), (("_law_full" : Str), GV.fn 488), (("_law_filled" : Str), GV.fn 495), (("_law_is_whole" : Str), GV.fn 502), (("_law_are_cut" : Str), GV.fn 507), (("_law_trimmed" : Str), GV.fn 514), (("_law_shown" : Str), GV.fn 521), (("_law_ends_right" : Str), GV.fn 528), (("_law_joined" : Str), GV.fn 535), (("_law_grid_right" : Str), GV.fn 540),
  (("Line" : Str), GV.cls 251), (("Grid" : Str), GV.cls 423),
  (("len" : Str), GV.blt "len"), (("max" : Str), GV.blt "max"), (("min" : Str), GV.blt "min"), (("all" : Str), GV.blt "all"), (("list" : Str), GV.blt "list"), (("int" : Str), GV.blt "int"), (("enumerate" : Str), GV.blt "enumerate"), (("zip" : Str), GV.blt "zip"), (("range" : Str), GV.blt "range")]
def gl : Str → Option GV := fun x => GLs.lookup x
theorem ok_62 (P : Params) : DefOk (hd.heap_39 P) gl 62 (.fn 1 [] m_erased_pen) := by
  refine defOk_fn (ns := ["pen"]) (ps := ["pen"]) 60 (by kernel_rfl) (by kernel_rfl) rfl fun j h1 h2 => ?_
  obtain rfl : j = 1 := by simp at h2; omega
  refine ⟨[], fun S vs hv => ?_, fun _ _ => .nil⟩
  match vs, hv with
  | [v1], _ => kernel_rfl
theorem ok_69 (P : Params) : DefOk (hd.heap_39 P) gl 69 (.fn 1 [] m_blank_cell) := by
  refine defOk_fn (ns := ["pen"]) (ps := ["pen"]) 60 (by kernel_rfl) (by kernel_rfl) rfl fun j h1 h2 => ?_
  obtain rfl : j = 1 := by simp at h2; omega
  refine ⟨[], fun S vs hv => ?_, fun _ _ => .nil⟩
  match vs, hv with
  | [v1], _ => kernel_rfl
theorem ok_76 (P : Params) : DefOk (hd.heap_39 P) gl 76 (.fn 1 [] m_is_blank) := by
  refine defOk_fn (ns := ["cell"]) (ps := ["cell"]) 60 (by kernel_rfl) (by kernel_rfl) rfl fun j h1 h2 => ?_
  obtain rfl : j = 1 := by simp at h2; omega
  refine ⟨[], fun S vs hv => ?_, fun _ _ => .nil⟩
  match vs, hv with
  | [v1], _ => kernel_rfl
theorem ok_83 (P : Params) : DefOk (hd.heap_39 P) gl 83 (.fn 1 [] m_is_plain_blank) := by
  refine defOk_fn (ns := ["cell"]) (ps := ["cell"]) 60 (by kernel_rfl) (by kernel_rfl) rfl fun j h1 h2 => ?_
  obtain rfl : j = 1 := by simp at h2; omega
  refine ⟨[], fun S vs hv => ?_, fun _ _ => .nil⟩
  match vs, hv with
  | [v1], _ => kernel_rfl
theorem ok_91 (P : Params) : DefOk (hd.heap_39 P) gl 91 (.fn 2 [] m_line_blanks) := by
  refine defOk_fn (ns := ["many", "pen"]) (ps := ["many", "pen"]) 60 (by kernel_rfl) (by kernel_rfl) rfl fun j h1 h2 => ?_
  obtain rfl : j = 2 := by simp at h2; omega
  refine ⟨[], fun S vs hv => ?_, fun _ _ => .nil⟩
  match vs, hv with
  | [v1, v2], _ => kernel_rfl
theorem ok_98 (P : Params) : DefOk (hd.heap_39 P) gl 98 (.fn 1 [] m_right_half) := by
  refine defOk_fn (ns := ["cell"]) (ps := ["cell"]) 60 (by kernel_rfl) (by kernel_rfl) rfl fun j h1 h2 => ?_
  obtain rfl : j = 1 := by simp at h2; omega
  refine ⟨[], fun S vs hv => ?_, fun _ _ => .nil⟩
  match vs, hv with
  | [v1], _ => kernel_rfl
theorem ok_105 (P : Params) : DefOk (hd.heap_39 P) gl 105 (.fn 2 [] m_line_part) := by
  refine defOk_fn (ns := ["cells", "at"]) (ps := ["cells", "at"]) 60 (by kernel_rfl) (by kernel_rfl) rfl fun j h1 h2 => ?_
  obtain rfl : j = 2 := by simp at h2; omega
  refine ⟨[], fun S vs hv => ?_, fun _ _ => .nil⟩
  match vs, hv with
  | [v1, v2], _ => kernel_rfl
theorem ok_112 (P : Params) : DefOk (hd.heap_39 P) gl 112 (.fn 3 [] m_line_slice) := by
  refine defOk_fn (ns := ["cells", "left", "right", "found"]) (ps := ["cells", "left", "right"]) 60 (by kernel_rfl) (by kernel_rfl) rfl fun j h1 h2 => ?_
  obtain rfl : j = 3 := by simp at h2; omega
  refine ⟨[], fun S vs hv => ?_, fun _ _ => .nil⟩
  match vs, hv with
  | [v1, v2, v3], _ => kernel_rfl
theorem ok_119 (P : Params) : DefOk (hd.heap_39 P) gl 119 (.fn 1 [] m_line_is_whole) := by
  refine defOk_fn (ns := ["cells", "at", "cell"]) (ps := ["cells"]) 60 (by kernel_rfl) (by kernel_rfl) rfl fun j h1 h2 => ?_
  obtain rfl : j = 1 := by simp at h2; omega
  refine ⟨[], fun S vs hv => ?_, fun _ _ => .nil⟩
  match vs, hv with
  | [v1], _ => kernel_rfl
theorem ok_126 (P : Params) : DefOk (hd.heap_39 P) gl 126 (.fn 1 [] m_line_codes) := by
  refine defOk_fn (ns := ["cells", "last", "found", "cell"]) (ps := ["cells"]) 60 (by kernel_rfl) (by kernel_rfl) rfl fun j h1 h2 => ?_
  obtain rfl : j = 1 := by simp at h2; omega
  refine ⟨[], fun S vs hv => ?_, fun _ _ => .nil⟩
  match vs, hv with
  | [v1], _ => kernel_rfl
theorem ok_140 (P : Params) : DefOk (hd.heap_39 P) gl 140 (.fn 3 [] m_Line__init) := by
  refine defOk_fn (ns := ["self", "columns", "pen"]) (ps := ["self", "columns", "pen"]) 60 (by kernel_rfl) (by kernel_rfl) rfl fun j h1 h2 => ?_
  obtain rfl : j = 3 := by simp at h2; omega
  refine ⟨[], fun S vs hv => ?_, fun _ _ => .nil⟩
  match vs, hv with
  | [v1, v2, v3], _ => kernel_rfl
theorem ok_147 (P : Params) : DefOk (hd.heap_39 P) gl 147 (.fn 1 [] m_Line_columns) := by
  refine defOk_fn (ns := ["self"]) (ps := ["self"]) 60 (by kernel_rfl) (by kernel_rfl) rfl fun j h1 h2 => ?_
  obtain rfl : j = 1 := by simp at h2; omega
  refine ⟨[], fun S vs hv => ?_, fun _ _ => .nil⟩
  match vs, hv with
  | [v1], _ => kernel_rfl
theorem ok_162 (P : Params) : DefOk (hd.heap_39 P) gl 162 (.fn 2 [] m_Line_part) := by
  refine defOk_fn (ns := ["self", "at"]) (ps := ["self", "at"]) 60 (by kernel_rfl) (by kernel_rfl) rfl fun j h1 h2 => ?_
  obtain rfl : j = 2 := by simp at h2; omega
  refine ⟨[], fun S vs hv => ?_, fun _ _ => .nil⟩
  match vs, hv with
  | [v1, v2], _ => kernel_rfl
theorem ok_176 (P : Params) : DefOk (hd.heap_39 P) gl 176 (.fn 3 [] m_Line_put_cells) := by
  refine defOk_fn (ns := ["self", "column", "cells", "some"]) (ps := ["self", "column", "cells"]) 60 (by kernel_rfl) (by kernel_rfl) rfl fun j h1 h2 => ?_
  obtain rfl : j = 3 := by simp at h2; omega
  refine ⟨[], fun S vs hv => ?_, fun _ _ => .nil⟩
  match vs, hv with
  | [v1, v2, v3], _ => kernel_rfl
theorem ok_219 (P : Params) : DefOk (hd.heap_39 P) gl 219 (.fn 1 [] m_Line_copy) := by
  refine defOk_fn (ns := ["self", "found"]) (ps := ["self"]) 60 (by kernel_rfl) (by kernel_rfl) rfl fun j h1 h2 => ?_
  obtain rfl : j = 1 := by simp at h2; omega
  refine ⟨[], fun S vs hv => ?_, fun _ _ => .nil⟩
  match vs, hv with
  | [v1], _ => kernel_rfl
theorem ok_227 (P : Params) : DefOk (hd.heap_39 P) gl 227 (.fn 3 [] m_Line_codes) := by
  refine defOk_fn (ns := ["self", "left", "right"]) (ps := ["self", "left", "right"]) 60 (by kernel_rfl) (by kernel_rfl) rfl fun j h1 h2 => ?_
  obtain rfl : j = 3 := by simp at h2; omega
  refine ⟨[], fun S vs hv => ?_, fun _ _ => .nil⟩
  match vs, hv with
  | [v1, v2, v3], _ => kernel_rfl
theorem ok_234 (P : Params) : DefOk (hd.heap_39 P) gl 234 (.fn 1 [] m_Line_used) := by
  refine defOk_fn (ns := ["self", "last"]) (ps := ["self"]) 60 (by kernel_rfl) (by kernel_rfl) rfl fun j h1 h2 => ?_
  obtain rfl : j = 1 := by simp at h2; omega
  refine ⟨[], fun S vs hv => ?_, fun _ _ => .nil⟩
  match vs, hv with
  | [v1], _ => kernel_rfl
theorem ok_248 (P : Params) : DefOk (hd.heap_39 P) gl 248 (.fn 2 [] m_Line_equals) := by
  refine defOk_fn (ns := ["self", "other"]) (ps := ["self", "other"]) 60 (by kernel_rfl) (by kernel_rfl) rfl fun j h1 h2 => ?_
  obtain rfl : j = 2 := by simp at h2; omega
  refine ⟨[], fun S vs hv => ?_, fun _ _ => .nil⟩
  match vs, hv with
  | [v1, v2], _ => kernel_rfl
theorem ok_263 (P : Params) : DefOk (hd.heap_39 P) gl 263 (.fn 3 [.bool false, .str "single"] m_line_of) := by
  refine defOk_fn (ns := ["cells", "is_wrapped", "size", "found"]) (ps := ["cells", "is_wrapped", "size"]) 60 (by kernel_rfl) (by kernel_rfl) rfl fun j h1 h2 => ?_
  have : j = 1 ∨ j = 2 ∨ j = 3 := by simp at h2; omega
  rcases this with rfl | rfl | rfl
  · refine ⟨[.bool false, .str "single" 279], fun S vs hv => ?_, fun _ _ => .cons (.bool _) (.cons (.str _ _) .nil)⟩
    match vs, hv with
    | [v1], _ => kernel_rfl
  · refine ⟨[.str "single" 279], fun S vs hv => ?_, fun _ _ => .cons (.str _ _) .nil⟩
    match vs, hv with
    | [v1, v2], _ => kernel_rfl
  · refine ⟨[], fun S vs hv => ?_, fun _ _ => .nil⟩
    match vs, hv with
    | [v1, v2, v3], _ => kernel_rfl
theorem ok_270 (P : Params) : DefOk (hd.heap_39 P) gl 270 (.fn 1 [] m_lines_joined) := by
  refine defOk_fn (ns := ["lines", "found", "at", "line", "cells", "behind"]) (ps := ["lines"]) 60 (by kernel_rfl) (by kernel_rfl) rfl fun j h1 h2 => ?_
  obtain rfl : j = 1 := by simp at h2; omega
  refine ⟨[], fun S vs hv => ?_, fun _ _ => .nil⟩
  match vs, hv with
  | [v1], _ => kernel_rfl
theorem ok_277 (P : Params) : DefOk (hd.heap_39 P) gl 277 (.fn 3 [] m_cells_cut) := by
  refine defOk_fn (ns := ["cells", "columns", "pen", "found", "at", "end", "line"]) (ps := ["cells", "columns", "pen"]) 60 (by kernel_rfl) (by kernel_rfl) rfl fun j h1 h2 => ?_
  obtain rfl : j = 3 := by simp at h2; omega
  refine ⟨[], fun S vs hv => ?_, fun _ _ => .nil⟩
  match vs, hv with
  | [v1, v2, v3], _ => kernel_rfl
theorem ok_284 (P : Params) : DefOk (hd.heap_39 P) gl 284 (.fn 2 [] m_line_place) := by
  refine defOk_fn (ns := ["line", "column"]) (ps := ["line", "column"]) 60 (by kernel_rfl) (by kernel_rfl) rfl fun j h1 h2 => ?_
  obtain rfl : j = 2 := by simp at h2; omega
  refine ⟨[], fun S vs hv => ?_, fun _ _ => .nil⟩
  match vs, hv with
  | [v1, v2], _ => kernel_rfl
theorem ok_296 (P : Params) : DefOk (hd.heap_39 P) gl 296 (.fn 3 [] m_Grid__init) := by
  refine defOk_fn (ns := ["self", "rows", "columns", ".0", "row"]) (ps := ["self", "rows", "columns"]) 60 (by kernel_rfl) (by kernel_rfl) rfl fun j h1 h2 => ?_
  obtain rfl : j = 3 := by simp at h2; omega
  refine ⟨[], fun S vs hv => ?_, fun _ _ => .nil⟩
  match vs, hv with
  | [v1, v2, v3], _ => kernel_rfl
theorem ok_303 (P : Params) : DefOk (hd.heap_39 P) gl 303 (.fn 2 [] m_Grid_line) := by
  refine defOk_fn (ns := ["self", "row"]) (ps := ["self", "row"]) 60 (by kernel_rfl) (by kernel_rfl) rfl fun j h1 h2 => ?_
  obtain rfl : j = 2 := by simp at h2; omega
  refine ⟨[], fun S vs hv => ?_, fun _ _ => .nil⟩
  match vs, hv with
  | [v1, v2], _ => kernel_rfl
theorem ok_310 (P : Params) : DefOk (hd.heap_39 P) gl 310 (.fn 1 [] m_Grid_whole_area) := by
  refine defOk_fn (ns := ["self"]) (ps := ["self"]) 60 (by kernel_rfl) (by kernel_rfl) rfl fun j h1 h2 => ?_
  obtain rfl : j = 1 := by simp at h2; omega
  refine ⟨[], fun S vs hv => ?_, fun _ _ => .nil⟩
  match vs, hv with
  | [v1], _ => kernel_rfl
theorem ok_405 (P : Params) : DefOk (hd.heap_39 P) gl 405 (.fn 2 [] m_Grid_cells_in) := by
  refine defOk_fn (ns := ["self", "area", "top", "left", "bottom", "right", ".0", "row"]) (ps := ["self", "area"]) 60 (by kernel_rfl) (by kernel_rfl) rfl fun j h1 h2 => ?_
  obtain rfl : j = 2 := by simp at h2; omega
  refine ⟨[], fun S vs hv => ?_, fun _ _ => .nil⟩
  match vs, hv with
  | [v1, v2], _ => kernel_rfl
theorem ok_410 (P : Params) : DefOk (hd.heap_39 P) gl 410 (.fn 1 [] m_Grid_copy) := by
  refine defOk_fn (ns := ["self", "found", ".0", "line"]) (ps := ["self"]) 60 (by kernel_rfl) (by kernel_rfl) rfl fun j h1 h2 => ?_
  obtain rfl : j = 1 := by simp at h2; omega
  refine ⟨[], fun S vs hv => ?_, fun _ _ => .nil⟩
  match vs, hv with
  | [v1], _ => kernel_rfl
theorem ok_415 (P : Params) : DefOk (hd.heap_39 P) gl 415 (.fn 2 [] m_Grid_equals) := by
  refine defOk_fn (ns := ["self", "other", ".0", "line", "mate"]) (ps := ["self", "other"]) 60 (by kernel_rfl) (by kernel_rfl) rfl fun j h1 h2 => ?_
  obtain rfl : j = 2 := by simp at h2; omega
  refine ⟨[], fun S vs hv => ?_, fun _ _ => .nil⟩
  match vs, hv with
  | [v1, v2], _ => kernel_rfl
theorem ok_420 (P : Params) : DefOk (hd.heap_39 P) gl 420 (.fn 1 [] m_Grid_text) := by
  refine defOk_fn (ns := ["self", ".0", "row"]) (ps := ["self"]) 60 (by kernel_rfl) (by kernel_rfl) rfl fun j h1 h2 => ?_
  obtain rfl : j = 1 := by simp at h2; omega
  refine ⟨[], fun S vs hv => ?_, fun _ _ => .nil⟩
  match vs, hv with
  | [v1], _ => kernel_rfl
theorem ok_441 (P : Params) : DefOk (hd.heap_39 P) gl 441 (.fn 1 [] m_grid_is_sound) := by
  refine defOk_fn (ns := ["grid", "line", "column", "cell"]) (ps := ["grid"]) 60 (by kernel_rfl) (by kernel_rfl) rfl fun j h1 h2 => ?_
  obtain rfl : j = 1 := by simp at h2; omega
  refine ⟨[], fun S vs hv => ?_, fun _ _ => .nil⟩
  match vs, hv with
  | [v1], _ => kernel_rfl
theorem ok_446 (P : Params) : DefOk (hd.heap_39 P) gl 446 (.fn 1 [] m_law_deck) := by
  refine defOk_fn (ns := ["script", "cell", "cells", "mixed", ".0"]) (ps := ["script"]) 60 (by kernel_rfl) (by kernel_rfl) rfl fun j h1 h2 => ?_
  obtain rfl : j = 1 := by simp at h2; omega
  refine ⟨[], fun S vs hv => ?_, fun _ _ => .nil⟩
  match vs, hv with
  | [v1], _ => kernel_rfl
theorem ok_453 (P : Params) : DefOk (hd.heap_39 P) gl 453 (.fn 2 [] m_law_draw) := by
  refine defOk_fn (ns := ["deck", "many"]) (ps := ["deck", "many"]) 60 (by kernel_rfl) (by kernel_rfl) rfl fun j h1 h2 => ?_
  obtain rfl : j = 2 := by simp at h2; omega
  refine ⟨[], fun S vs hv => ?_, fun _ _ => .nil⟩
  match vs, hv with
  | [v1, v2], _ => kernel_rfl
theorem ok_460 (P : Params) : DefOk (hd.heap_39 P) gl 460 (.fn 1 [] m_law_pen) := by
  refine defOk_fn (ns := ["deck"]) (ps := ["deck"]) 60 (by kernel_rfl) (by kernel_rfl) rfl fun j h1 h2 => ?_
  obtain rfl : j = 1 := by simp at h2; omega
  refine ⟨[], fun S vs hv => ?_, fun _ _ => .nil⟩
  match vs, hv with
  | [v1], _ => kernel_rfl
theorem ok_467 (P : Params) : DefOk (hd.heap_39 P) gl 467 (.fn 2 [] m_law_sign) := by
  refine defOk_fn (ns := ["deck", "is_wide", "way", "pen", "is_guarded", "left", "codes"]) (ps := ["deck", "is_wide"]) 60 (by kernel_rfl) (by kernel_rfl) rfl fun j h1 h2 => ?_
  obtain rfl : j = 2 := by simp at h2; omega
  refine ⟨[], fun S vs hv => ?_, fun _ _ => .nil⟩
  match vs, hv with
  | [v1, v2], _ => kernel_rfl
theorem ok_474 (P : Params) : DefOk (hd.heap_39 P) gl 474 (.fn 1 [] m_law_is_empty) := by
  refine defOk_fn (ns := ["cell"]) (ps := ["cell"]) 60 (by kernel_rfl) (by kernel_rfl) rfl fun j h1 h2 => ?_
  obtain rfl : j = 1 := by simp at h2; omega
  refine ⟨[], fun S vs hv => ?_, fun _ _ => .nil⟩
  match vs, hv with
  | [v1], _ => kernel_rfl
theorem ok_481 (P : Params) : DefOk (hd.heap_39 P) gl 481 (.fn 2 [] m_law_row) := by
  refine defOk_fn (ns := ["deck", "many", "found", "turn", "way"]) (ps := ["deck", "many"]) 60 (by kernel_rfl) (by kernel_rfl) rfl fun j h1 h2 => ?_
  obtain rfl : j = 2 := by simp at h2; omega
  refine ⟨[], fun S vs hv => ?_, fun _ _ => .nil⟩
  match vs, hv with
  | [v1, v2], _ => kernel_rfl
theorem ok_488 (P : Params) : DefOk (hd.heap_39 P) gl 488 (.fn 2 [] m_law_full) := by
  refine defOk_fn (ns := ["deck", "wide", "found", "way"]) (ps := ["deck", "wide"]) 60 (by kernel_rfl) (by kernel_rfl) rfl fun j h1 h2 => ?_
  obtain rfl : j = 2 := by simp at h2; omega
  refine ⟨[], fun S vs hv => ?_, fun _ _ => .nil⟩
  match vs, hv with
  | [v1, v2], _ => kernel_rfl
theorem ok_495 (P : Params) : DefOk (hd.heap_39 P) gl 495 (.fn 2 [] m_law_filled) := by
  refine defOk_fn (ns := ["row", "wide", "found", "cell", "need"]) (ps := ["row", "wide"]) 60 (by kernel_rfl) (by kernel_rfl) rfl fun j h1 h2 => ?_
  obtain rfl : j = 2 := by simp at h2; omega
  refine ⟨[], fun S vs hv => ?_, fun _ _ => .nil⟩
  match vs, hv with
  | [v1, v2], _ => kernel_rfl
theorem ok_502 (P : Params) : DefOk (hd.heap_39 P) gl 502 (.fn 1 [] m_law_is_whole) := by
  refine defOk_fn (ns := ["row", "at", "cell"]) (ps := ["row"]) 60 (by kernel_rfl) (by kernel_rfl) rfl fun j h1 h2 => ?_
  obtain rfl : j = 1 := by simp at h2; omega
  refine ⟨[], fun S vs hv => ?_, fun _ _ => .nil⟩
  match vs, hv with
  | [v1], _ => kernel_rfl
theorem ok_507 (P : Params) : DefOk (hd.heap_39 P) gl 507 (.fn 3 [] m_law_are_cut) := by
  refine defOk_fn (ns := ["row", "wide", "pen", "told", "due", "line", "cells", "near", "far", ".0"]) (ps := ["row", "wide", "pen"]) 60 (by kernel_rfl) (by kernel_rfl) rfl fun j h1 h2 => ?_
  obtain rfl : j = 3 := by simp at h2; omega
  refine ⟨[], fun S vs hv => ?_, fun _ _ => .nil⟩
  match vs, hv with
  | [v1, v2, v3], _ => kernel_rfl
theorem ok_514 (P : Params) : DefOk (hd.heap_39 P) gl 514 (.fn 1 [] m_law_trimmed) := by
  refine defOk_fn (ns := ["row", "many"]) (ps := ["row"]) 60 (by kernel_rfl) (by kernel_rfl) rfl fun j h1 h2 => ?_
  obtain rfl : j = 1 := by simp at h2; omega
  refine ⟨[], fun S vs hv => ?_, fun _ _ => .nil⟩
  match vs, hv with
  | [v1], _ => kernel_rfl
theorem ok_521 (P : Params) : DefOk (hd.heap_39 P) gl 521 (.fn 1 [] m_law_shown) := by
  refine defOk_fn (ns := ["row", "found", "cell"]) (ps := ["row"]) 60 (by kernel_rfl) (by kernel_rfl) rfl fun j h1 h2 => ?_
  obtain rfl : j = 1 := by simp at h2; omega
  refine ⟨[], fun S vs hv => ?_, fun _ _ => .nil⟩
  match vs, hv with
  | [v1], _ => kernel_rfl
theorem ok_528 (P : Params) : DefOk (hd.heap_39 P) gl 528 (.fn 2 [] m_law_ends_right) := by
  refine defOk_fn (ns := ["deck", "row", "first", "part", "due", "line"]) (ps := ["deck", "row"]) 60 (by kernel_rfl) (by kernel_rfl) rfl fun j h1 h2 => ?_
  obtain rfl : j = 2 := by simp at h2; omega
  refine ⟨[], fun S vs hv => ?_, fun _ _ => .nil⟩
  match vs, hv with
  | [v1, v2], _ => kernel_rfl
theorem ok_535 (P : Params) : DefOk (hd.heap_39 P) gl 535 (.fn 1 [] m_law_joined) := by
  refine defOk_fn (ns := ["rows", "found", "at", "row", "is_free"]) (ps := ["rows"]) 60 (by kernel_rfl) (by kernel_rfl) rfl fun j h1 h2 => ?_
  obtain rfl : j = 1 := by simp at h2; omega
  refine ⟨[], fun S vs hv => ?_, fun _ _ => .nil⟩
  match vs, hv with
  | [v1], _ => kernel_rfl
theorem ok_540 (P : Params) : DefOk (hd.heap_39 P) gl 540 (.fn 2 [] m_law_grid_right) := by
  refine defOk_fn (ns := ["rows", "wide", "grid", "at", "row", "other", ".0", "codes"]) (ps := ["rows", "wide"]) 60 (by kernel_rfl) (by kernel_rfl) rfl fun j h1 h2 => ?_
  obtain rfl : j = 2 := by simp at h2; omega
  refine ⟨[], fun S vs hv => ?_, fun _ _ => .nil⟩
  match vs, hv with
  | [v1, v2], _ => kernel_rfl
theorem ok_545 (P : Params) : DefOk (hd.heap_39 P) gl 545 (.fn 1 [] m_law) := by
  refine defOk_fn (ns := ["script", "deck", "wide", "many", "row", "line", "at", "cell", "rows", "lines", ".0", "turn", "cells"]) (ps := ["script"]) 60 (by kernel_rfl) (by kernel_rfl) rfl fun j h1 h2 => ?_
  obtain rfl : j = 1 := by simp at h2; omega
  refine ⟨[], fun S vs hv => ?_, fun _ _ => .nil⟩
  match vs, hv with
  | [v1], _ => kernel_rfl
end Mine

end

section
set_option linter.unusedVariables false
set_option linter.unusedSimpArgs false
set_option maxRecDepth 100000
set_option maxHeartbeats 4000000
namespace Mine
open PySem PySem.W PySem.Calls PyProof.Rows

theorem ok_251 (P : Params) : DefOk (hd.heap_39 P) gl 251 (.cls 140) := ⟨by kernel_rfl, by kernel_rfl, by kernel_rfl⟩
theorem ok_423 (P : Params) : DefOk (hd.heap_39 P) gl 423 (.cls 296) := ⟨by kernel_rfl, by kernel_rfl, by kernel_rfl⟩

def mgK (K : Frag) (x : Str) : Option Value := match K.lookup 3 with
  | some ⟨_, _, .dict es _, _⟩ => nsFind es x
  | _ => none
def isDict3 (K : Frag) : Bool := match K.lookup 3 with
  | some ⟨_, _, .dict es _, _⟩ => true
  | _ => false
theorem mg_eq {K : Frag} {h : Heap} {mg : Str → Option Value} (X : K.In h) (g : h.Ns mainGlobals mg) (hk : isDict3 K = true) (x : Str) : mg x = mgK K x := by
  unfold isDict3 at hk
  unfold mgK
  split at hk
  · rename_i c d es n sl e
    obtain ⟨o, es', ep, ho, hd, _, hf⟩ := g
    have := X _ _ e
    rw [show mainGlobals = 3 from rfl, this] at ho
    cases ho
    cases hd
    exact (hf x).symm
  · cases hk
def chkG (K : Frag) (p : Str × GV) : Bool := match p.2 with
  | .fn a => mgK K p.1 == some (.ref a) && keepIn K (.ref a)
  | .cls a => mgK K p.1 == some (.ref a) && keepIn K (.ref a)
  | .blt y => mgK K p.1 == none && p.1 != ("__name__" : Str) && bootBuiltins p.1 == bltV y && (bltV y).isSome
  | .data _ => true
theorem chk_all (P : Params) : GLs.all (chkG (hd.heap_39 P)) = true := by kernel_rfl
theorem dict3 (P : Params) : isDict3 (hd.heap_39 P) = true := by kernel_rfl

def methL : List (Addr × Str × Addr) := [(251, "part", 162), (251, "put_cells", 176), (251, "copy", 219), (251, "codes", 227), (251, "used", 234), (251, "equals", 248), (423, "line", 303), (423, "whole_area", 310), (423, "cells_in", 405), (423, "copy", 410), (423, "equals", 415), (423, "text", 420)]
def chkM (K : Frag) (p : Addr × Str × Addr) : Bool := plainGet K p.1 p.2.1 && findIn K (.ref p.1) p.2.1 == some (some (.ref p.2.2)) && isFn K (.ref p.2.2) && keepIn K (.ref p.2.2)
theorem chk_meth (P : Params) : methL.all (chkM (hd.heap_39 P)) = true := by kernel_rfl
def fieldL : List (Addr × Str) := [(251, "cells"), (251, "is_wrapped"), (251, "size"), (423, "rows"), (423, "columns"), (423, "lines")]
def chkF (K : Frag) (p : Addr × Str) : Bool := plainGet K p.1 p.2 && hasDictIn K p.1 && findIn K (.ref p.1) p.2 == some none && findIn K (.ref p.1) "__setattr__" == some (some (.builtin "object.__setattr__")) && plainOver K p.1
theorem chk_field (P : Params) : fieldL.all (fun p => chkF (hd.heap_39 P) p) = true := by kernel_rfl

def propCheck (K : Frag) : Bool := plainGet K 251 "columns" && hasDictIn K 251 && (match findIn K (.ref 251) "columns" with
  | some (some (.ref p)) => specialIn K (.ref p) "__get__" == some (some (.builtin "property.__get__")) && takesIn K (.ref p) == some true && (match recIn K p "property" with
    | some (.ref f :: _) => f == 147
    | _ => false)
  | _ => false)
theorem chk_prop (P : Params) : propCheck (hd.heap_39 P) = true := by kernel_rfl

theorem data_vr {h : Heap} {K : Frag} (X : K.In h) {a : Addr} {vs : List Value} {n : Nat} {ds : List AV} (e : K.lookup a = some (tupObj vs n)) (r : VRs ⟨h, fun _ => False⟩ h vs ds) : VR ⟨h, fun _ => False⟩ h (.ref a) (.tup ds) :=
  .tup (fun q => q) (X _ _ e) r
theorem plain_at (P : Params) : (hd.heap_39 P).lookup 22 = some (tupObj [.int 0 199, .int (-1) 197, .int (-1) 197, .int (-1) 197, .int 0 200] 0) := by kernel_rfl
theorem data_ok (P : Params) : ∃ vs n, (hd.heap_39 P).lookup 84 = some (tupObj vs n) ∧ ∀ base h, VRs base h vs [.str "single", .str "wide", .str "top", .str "bottom"] :=
  ⟨[.str "single" 279, .str "wide" 280, .str "top" 281, .str "bottom" 282], 0, by kernel_rfl, fun _ _ => .cons (.str _ _) (.cons (.str _ _) (.cons (.str _ _) (.cons (.str _ _) .nil)))⟩

theorem mem_meth {C : Addr} {name : Str} {f : Addr} (h : tab.meth C name = some f) : (C, name, f) ∈ methL := by
  unfold tab at h
  simp only at h
  split at h
  · rename_i q; subst q
    have := lookup_mem h
    simp only [methL, List.mem_cons, Prod.mk.injEq, List.not_mem_nil, or_false] at this ⊢
    rcases this with h | h | h | h | h | h <;> simp [h]
  · split at h
    · rename_i q; subst q
      have := lookup_mem h
      simp only [methL, List.mem_cons, Prod.mk.injEq, List.not_mem_nil, or_false] at this ⊢
      rcases this with h | h | h | h | h | h <;> simp [h]
    · cases h
theorem mem_field {C : Addr} {name : Str} (h : tab.field C name = true) : (C, name) ∈ fieldL := by
  unfold tab at h
  simp only at h
  split at h
  · rename_i q; subst q
    simp at h
    rcases h with h | h | h <;> simp [fieldL, h]
  · split at h
    · rename_i q; subst q
      simp at h
      rcases h with h | h | h <;> simp [fieldL, h]
    · cases h
theorem mem_prop {C : Addr} {name : Str} {f : Addr} (h : tab.prop C name = some f) : C = 251 ∧ name = "columns" ∧ f = 147 := by
  unfold tab at h
  simp only at h
  split at h
  · rename_i q; subst q
    have := lookup_mem h
    simp at this
    exact ⟨rfl, this.1, this.2⟩
  · cases h

theorem mgs (P : Params) : mgK (hd.heap_39 P) "PLAIN" = some (.ref 22) ∧ mgK (hd.heap_39 P) "NO_COLOUR" = some (.int (-1) 197) ∧ mgK (hd.heap_39 P) "BACK" = some (.int 2 202) ∧ mgK (hd.heap_39 P) "LINE_SIZES" = some (.ref 84) := ⟨by kernel_rfl, by kernel_rfl, by kernel_rfl, by kernel_rfl⟩
theorem data_gl {x : Str} {d : AV} (h : gl x = some (.data d)) : (x = "PLAIN" ∧ d = .tup [.int 0, .int (-1), .int (-1), .int (-1), .int 0]) ∨ (x = "NO_COLOUR" ∧ d = .int (-1)) ∨ (x = "BACK" ∧ d = .int 2) ∨ (x = "LINE_SIZES" ∧ d = .tup [.str "single", .str "wide", .str "top", .str "bottom"]) := by
  have := lookup_mem h
  simpa [GLs] using this

theorem gr_of {prog : Program} {w : World} {h : Heap} {mg mb : Str → Option Value} (X : (hd.heap_39 w.params).In h) (g : h.Ns mainGlobals mg) (b : h.Ns builtinsNs mb) (lim : h.NoLimit) (bl : ∀ x : Str, x ≠ Str.ofString "__name__" → mb x = bootBuiltins x) :
    Gr prog w h (hd.heap_39 w.params) mg mb gl tab := by
  have me := mg_eq X g (dict3 w.params)
  have chk : ∀ x v, gl x = some v → chkG (hd.heap_39 w.params) (x, v) = true := fun x v e => List.all_eq_true.mp (chk_all w.params) (x, v) (lookup_mem e)
  refine ⟨X, g, b, lim, fun x a e => ?_, fun x a e => ?_, fun x d e => ?_, fun x y e => ?_, fun C name f e => ?_, fun C name f e => ?_, fun C name e => ?_⟩
  · have := chk x _ e
    simp only [chkG, Bool.and_eq_true, beq_iff_eq] at this
    exact ⟨(me x).trans this.1, this.2⟩
  · have := chk x _ e
    simp only [chkG, Bool.and_eq_true, beq_iff_eq] at this
    exact ⟨(me x).trans this.1, this.2⟩
  · obtain ⟨m1, m2, m3, m4⟩ := mgs w.params
    rcases data_gl e with ⟨rfl, rfl⟩ | ⟨rfl, rfl⟩ | ⟨rfl, rfl⟩ | ⟨rfl, rfl⟩
    · exact ⟨_, (me _).trans m1, data_vr X (plain_at w.params) (.cons (.int _ _) (.cons (.int _ _) (.cons (.int _ _) (.cons (.int _ _) (.cons (.int _ _) .nil)))))⟩
    · exact ⟨_, (me _).trans m2, .int _ _⟩
    · exact ⟨_, (me _).trans m3, .int _ _⟩
    · obtain ⟨vs, n, e1, e2⟩ := data_ok w.params
      exact ⟨_, (me _).trans m4, data_vr X e1 (e2 _ _)⟩
  · have := chk x _ e
    simp only [chkG, Bool.and_eq_true, beq_iff_eq, bne_iff_ne] at this
    obtain ⟨⟨⟨c1, c2⟩, c3⟩, c4⟩ := this
    obtain ⟨v, hv⟩ := Option.isSome_iff_exists.mp c4
    exact ⟨(me x).trans c1, v, (bl x c2).trans (c3.trans hv), hv⟩
  · have := List.all_eq_true.mp (chk_meth w.params) _ (mem_meth e)
    simp only [chkM, Bool.and_eq_true, beq_iff_eq] at this
    exact ⟨this.1.1.1, this.1.1.2, this.1.2, this.2⟩
  · obtain ⟨rfl, rfl, rfl⟩ := mem_prop e
    have := chk_prop w.params
    unfold propCheck at this
    simp only [Bool.and_eq_true] at this
    obtain ⟨⟨p1, p2⟩, p3⟩ := this
    refine ⟨p1, p2, ?_⟩
    split at p3
    · rename_i p hp
      simp only [Bool.and_eq_true, beq_iff_eq] at p3
      obtain ⟨⟨q1, q2⟩, q3⟩ := p3
      split at q3
      · rename_i f r hr
        rw [beq_iff_eq] at q3
        subst q3
        exact ⟨p, r, hp, q1, q2, hr⟩
      · cases q3
    · cases p3
  · have := List.all_eq_true.mp (chk_field w.params) _ (mem_field e)
    simp only [chkF, Bool.and_eq_true, beq_iff_eq] at this
    exact ⟨this.1.1.1.1, this.1.1.1.2, this.1.1.2, this.1.2, this.2⟩

theorem prg_ok (P : Params) : ∀ f d, prg f = some d → DefOk (hd.heap_39 P) gl f d := by
  intro f d h
  unfold prg at h
  split at h <;> first | (cases h; done) | (cases h)
  · exact ok_62 P
  · exact ok_69 P
  · exact ok_76 P
  · exact ok_83 P
  · exact ok_91 P
  · exact ok_98 P
  · exact ok_105 P
  · exact ok_112 P
  · exact ok_119 P
  · exact ok_126 P
  · exact ok_140 P
  · exact ok_147 P
  · exact ok_162 P
  · exact ok_176 P
  · exact ok_219 P
  · exact ok_227 P
  · exact ok_234 P
  · exact ok_248 P
  · exact ok_263 P
  · exact ok_270 P
  · exact ok_277 P
  · exact ok_284 P
  · exact ok_296 P
  · exact ok_303 P
  · exact ok_310 P
  · exact ok_405 P
  · exact ok_410 P
  · exact ok_415 P
  · exact ok_420 P
  · exact ok_441 P
  · exact ok_446 P
  · exact ok_453 P
  · exact ok_460 P
  · exact ok_467 P
  · exact ok_474 P
  · exact ok_481 P
  · exact ok_488 P
  · exact ok_495 P
  · exact ok_502 P
  · exact ok_507 P
  · exact ok_514 P
  · exact ok_521 P
  · exact ok_528 P
  · exact ok_535 P
  · exact ok_540 P
  · exact ok_545 P
  · exact ok_251 P
  · exact ok_423 P
end Mine

end

section
open PySem PySem.W PySem.Calls PyProof.Rows
set_option linter.unusedVariables false
namespace Mine
theorem ints_vr {base : Bs} {h : Heap} : ∀ {vs : List Value} {ns : List Int}, IntsAre vs ns → VRs base h vs (ns.map AV.int)
  | _, _, .nil => .nil
  | _, _, .cons n t r => .cons (.int n t) (ints_vr r)
theorem law_mg (P : Params) : mgK (hd.heap_39 P) "law" = some (.ref 545) := by kernel_rfl

set_option maxRecDepth 100000 in
set_option maxHeartbeats 8000000 in
theorem entry (H : ∀ ns : List Int, ns.length ≤ 63 → Calls tab prg 40 545 [.ro (ns.map AV.int)] (fun _ => none) (fun d _ => d = .bool true)) : PySem.Challenge.rw_og0272_01.Holds := hd (by
  w_strict (
  k_fill
  intro w s₀ s₁ mg mb G Y fa o pm cd doc dV kV ho hd' hcd hD hmg hg args vals as hpre hlay hrd hwl hlo
  have KX := kIn_of Y
  have X := (Ground.X G).1
  have V := (Ground.X G).2
  refine Ground.open G ?_
  intro T B D TE TW
  wrow_args hpre hlay hrd hwl hlo)
  rename_i zs _ _ _ _ _ _ _ a vs _ hL _ _ _ hI _ hlen _
  have GG : Gr Challenge.rw_og0272_01.row.prog w s₁.heap (Mine.hd.heap_39 w.params) mg mb gl tab := gr_of KX T.g T.b T.nolimit T.builtins
  have hfa : fa = 545 := by
    have h1 := (mg_eq KX T.g (dict3 w.params) "law").trans (law_mg w.params)
    have h2 : mg "law" = some (.ref fa) := hmg
    rw [h1] at h2
    cases h2; rfl
  clear hmg hd' hcd hD
  subst hfa
  refine wpAny_call (calls_sound GG (prg_ok w.params) 40 545 _ _ _ (H zs (by omega)) (fun _ => False) callerA s₁ [.ref a] _ _ ⟨rfl, by decide, by decide⟩ ⟨fun _ _ h => (nomatch h), fun _ h => absurd rfl h, fun _ _ h => h, fun _ h => h.elim⟩ (.cons (.ro hL (ints_vr hI)) .nil) ?_)
  intro v d st' s' q x R g
  subst q
  cases x
  obtain ⟨h', tk, hs'⟩ := g.eq
  subst hs'
  refine GoodW.toG ⟨.inl ⟨.bool true, _, [], rfl, fun cls => ?_, .bool true, ?_, fun _ => ⟨.nil, fun _ ha => nomatch ha⟩⟩, fun b o e => g.pres b o rfl id e, rfl, hg⟩
  · first | rfl | (show _ = _; kernel_rfl)
  · first | rfl | (show _ = _; kernel_rfl))
end Mine

end

section
set_option linter.unusedVariables false
set_option linter.unusedSimpArgs false
namespace Mine
open PySem

structure Pen where
  a : Int
  b : Int
  c : Int
  d : Int
  e : Int
structure Cell where
  codes : List Int
  w : Int
  pen : Pen
  g : Bool
def Pen.av (p : Pen) : AV := .tup [.int p.a, .int p.b, .int p.c, .int p.d, .int p.e]
def Cell.av (c : Cell) : AV := .tup [.tup (c.codes.map .int), .int c.w, c.pen.av, .bool c.g]
def Pen.eqb (p q : Pen) : Bool := p.a == q.a && (p.b == q.b && (p.c == q.c && (p.d == q.d && p.e == q.e)))
def Cell.eqb (c d : Cell) : Bool := c.codes == d.codes && (c.w == d.w && (c.pen.eqb d.pen && c.g == d.g))
theorem Pen.eqb_iff {p q : Pen} : p.eqb q = true ↔ p = q := by
  obtain ⟨a, b, c, d, e⟩ := p
  obtain ⟨a', b', c', d', e'⟩ := q
  simp [Pen.eqb]
theorem Cell.eqb_iff {c d : Cell} : c.eqb d = true ↔ c = d := by
  obtain ⟨a, b, p, g⟩ := c
  obtain ⟨a', b', p', g'⟩ := d
  simp only [Cell.eqb, Bool.and_eq_true, beq_iff_eq, Pen.eqb_iff, Cell.mk.injEq]
theorem Cell.eqb_self (c : Cell) : c.eqb c = true := Cell.eqb_iff.mpr rfl
def plain : Pen := ⟨0, -1, -1, -1, 0⟩
def erase (p : Pen) : Pen := ⟨0, -1, p.c, -1, 0⟩
def blank (p : Pen) : Cell := ⟨[], 1, erase p, false⟩
def right (c : Cell) : Cell := ⟨[], 0, c.pen, c.g⟩
def isBlank (c : Cell) : Bool := c.codes.length == 0 && c.w == 1
abbrev avs (cs : List Cell) : List AV := cs.map Cell.av

section
variable {T : Tab} {C : CallT} {l : Loc} {st : Sto}

mutual
theorem EqV.det : ∀ {n : Nat} {x y : AV} {b b' : Bool}, EqV st n x y b → EqV st n x y b' → b = b'
  | _, _, _, _, _, .none, h => by cases h; rfl
  | _, _, _, _, _, .bool _ _, h => by cases h; rfl
  | _, _, _, _, _, .int _ _, h => by cases h; rfl
  | _, _, _, _, _, .str _ _, h => by cases h; rfl
  | _, _, _, _, _, .tup k, h => by cases h with | tup k' => rw [EqVs.det k k']
  | _, _, _, _, _, .list a b c k, h => by
    cases h with
    | list a' b' c' k' => rw [a] at a'; rw [b] at b'; cases a'; cases b'; rw [EqVs.det k k']
    | listN a' b' c' => rw [a] at a'; rw [b] at b'; cases a'; cases b'; exact absurd c c'
  | _, _, _, _, _, .listN a b c, h => by
    cases h with
    | list a' b' c' k' => rw [a] at a'; rw [b] at b'; cases a'; cases b'; exact absurd c' c
    | listN a' b' c' => rfl
theorem EqVs.det : ∀ {n : Nat} {x y : List AV} {b b' : List Bool}, EqVs st n x y b → EqVs st n x y b' → b = b'
  | _, _, _, _, _, .nilL _, h => by cases h <;> rfl
  | _, _, _, _, _, .nilR _, h => by cases h <;> rfl
  | _, _, _, _, _, .cons a r, h => by cases h with | cons a' r' => rw [EqV.det a a', EqVs.det r r']
end
theorem ex_eq {n : Nat} {x y : AV} {b : Bool} {P : Bool → Prop} (h : EqV st n x y b) : (∃ b, EqV st n x y b ∧ P b) ↔ P b :=
  ⟨fun ⟨b', h', p⟩ => h.det h' ▸ p, fun p => ⟨b, h, p⟩⟩

theorem eqvs_ints {n : Nat} : ∀ (xs ys : List Int), ∃ bs, EqVs st n (xs.map .int) (ys.map .int) bs ∧ (bs.all id && xs.length == ys.length) = (xs == ys)
  | [], [] => ⟨[], .nilL _, rfl⟩
  | [], y :: ys => ⟨[], .nilL _, by simp⟩
  | x :: xs, [] => ⟨[], .nilR _, by simp⟩
  | x :: xs, y :: ys => by
    obtain ⟨bs, h1, h2⟩ := eqvs_ints (n := n) xs ys
    refine ⟨(x == y) :: bs, .cons (.int _ _) h1, ?_⟩
    simp only [List.all_cons, id, List.length_cons, List.cons_beq_cons]
    rw [← h2, show (xs.length + 1 == ys.length + 1) = (xs.length == ys.length) by simp [Bool.beq_eq_decide_eq], Bool.and_assoc]
theorem eqv_ints {n : Nat} (xs ys : List Int) : EqV st (n + 1) (.tup (xs.map .int)) (.tup (ys.map .int)) (xs == ys) := by
  obtain ⟨bs, h1, h2⟩ := eqvs_ints (st := st) (n := n) xs ys
  have := EqV.tup h1
  simp only [List.length_map] at this
  rw [h2] at this
  exact this
theorem eqv_pen {n : Nat} (p q : Pen) : EqV st (n + 1) p.av q.av (p.eqb q) := by
  have := EqV.tup (st := st) (n := n) (.cons (.int p.a q.a) (.cons (.int p.b q.b) (.cons (.int p.c q.c) (.cons (.int p.d q.d) (.cons (.int p.e q.e) (.nilL []))))))
  simpa [Pen.eqb, Pen.av] using this
theorem eqv_cell {n : Nat} (c d : Cell) : EqV st (n + 2) c.av d.av (c.eqb d) := by
  have := EqV.tup (st := st) (n := n + 1) (.cons (eqv_ints c.codes d.codes) (.cons (.int c.w d.w) (.cons (eqv_pen c.pen d.pen) (.cons (.bool c.g d.g) (.nilL [])))))
  simpa [Cell.eqb, Cell.av] using this
theorem eqvs_cells {n : Nat} : ∀ (xs ys : List Cell), ∃ bs, EqVs st (n + 2) (avs xs) (avs ys) bs ∧ (xs.length = ys.length → (bs.all id = true ↔ xs = ys))
  | [], [] => ⟨[], .nilL _, fun _ => by simp⟩
  | [], y :: ys => ⟨[], .nilL _, fun h => by simp at h⟩
  | x :: xs, [] => ⟨[], .nilR _, fun h => by simp at h⟩
  | x :: xs, y :: ys => by
    obtain ⟨bs, h1, h2⟩ := eqvs_cells (n := n) xs ys
    refine ⟨x.eqb y :: bs, .cons (eqv_cell x y) h1, fun h => ?_⟩
    simp only [List.all_cons, id, Bool.and_eq_true, Cell.eqb_iff, List.cons.injEq]
    rw [h2 (by simpa using h)]
/-- lists of cells -/
theorem eqv_rows {n : Nat} {a b : Addr} {xs ys : List Cell} (ha : st a = some (.list (avs xs))) (hb : st b = some (.list (avs ys))) : ∃ t, EqV st (n + 3) (.loc a) (.loc b) t ∧ (t = true ↔ xs = ys) := by
  by_cases q : xs.length = ys.length
  · obtain ⟨bs, h1, h2⟩ := eqvs_cells (st := st) (n := n) xs ys
    exact ⟨_, .list ha hb (by simpa using q) h1, h2 q⟩
  · exact ⟨false, .listN ha hb (by simpa using q), by simp; intro h; exact q (by rw [h])⟩
theorem eqv_ilist {n : Nat} {a b : Addr} {xs ys : List Int} (ha : st a = some (.list (xs.map .int))) (hb : st b = some (.list (ys.map .int))) : ∃ t, EqV st (n + 3) (.loc a) (.loc b) t ∧ (t = true ↔ xs = ys) := by
  by_cases q : xs.length = ys.length
  · obtain ⟨bs, h1, h2⟩ := eqvs_ints (st := st) (n := n + 2) xs ys
    refine ⟨_, .list ha hb (by simpa using q) h1, ?_⟩
    rw [show (xs.length == ys.length) = true by simpa using q, Bool.and_true] at h2
    rw [h2]; simp
  · exact ⟨false, .listN ha hb (by simpa using q), by simp; intro h; exact q (by rw [h])⟩

/-! the machine's steps as equivalences -/
theorem truth_bool {b : Bool} {P : Bool → Prop} : truthP (.bool b) P ↔ P b := by simp [truthP]
theorem bin_add {a b : Int} {Q : AV → Sto → Prop} : binP .add (.int a) (.int b) st Q ↔ Q (.int (a + b)) st := by simp [binP]
theorem bin_sub {a b : Int} {Q : AV → Sto → Prop} : binP .sub (.int a) (.int b) st Q ↔ Q (.int (a - b)) st := by simp [binP]
theorem bin_mul {a b : Int} {Q : AV → Sto → Prop} : binP .mul (.int a) (.int b) st Q ↔ Small a ∧ Q (.int (a * b)) st := by simp [binP]
theorem bin_md {a b : Int} {Q : AV → Sto → Prop} : binP .md (.int a) (.int b) st Q ↔ 0 < b ∧ b ≤ LIM ∧ Q (.int (a % b)) st := by simp [binP]
theorem cmp_lt {a b : Int} {Q : AV → Sto → Prop} : cmpP .lt (.int a) (.int b) st Q ↔ Q (.bool (decide (a < b))) st := by simp [cmpP]
theorem cmp_le {a b : Int} {Q : AV → Sto → Prop} : cmpP .le (.int a) (.int b) st Q ↔ Q (.bool (decide (a ≤ b))) st := by simp [cmpP]
theorem cmp_gt {a b : Int} {Q : AV → Sto → Prop} : cmpP .gt (.int a) (.int b) st Q ↔ Q (.bool (decide (b < a))) st := by simp [cmpP]
theorem cmp_ge {a b : Int} {Q : AV → Sto → Prop} : cmpP .ge (.int a) (.int b) st Q ↔ Q (.bool (decide (b ≤ a))) st := by simp [cmpP]
theorem cmp_eqv {x y : AV} {b : Bool} {Q : AV → Sto → Prop} (h : EqV st 20 x y b) : cmpP .eq x y st Q ↔ Q (.bool b) st := by simp only [cmpP]; exact ex_eq (P := fun b => Q (.bool b) st) h
theorem cmp_nev {x y : AV} {b : Bool} {Q : AV → Sto → Prop} (h : EqV st 20 x y b) : cmpP .ne x y st Q ↔ Q (.bool (!b)) st := by simp only [cmpP]; exact ex_eq (P := fun b => Q (.bool (!b)) st) h
theorem cmp_eq {a b : Int} {Q : AV → Sto → Prop} : cmpP .eq (.int a) (.int b) st Q ↔ Q (.bool (a == b)) st := cmp_eqv (.int _ _)
theorem cmp_ne {a b : Int} {Q : AV → Sto → Prop} : cmpP .ne (.int a) (.int b) st Q ↔ Q (.bool (!(a == b))) st := cmp_nev (.int _ _)
theorem cmp_eqb {a b : Bool} {Q : AV → Sto → Prop} : cmpP .eq (.bool a) (.bool b) st Q ↔ Q (.bool (a == b)) st := cmp_eqv (.bool _ _)
theorem cmp_neb {a b : Bool} {Q : AV → Sto → Prop} : cmpP .ne (.bool a) (.bool b) st Q ↔ Q (.bool (!(a == b))) st := cmp_nev (.bool _ _)
theorem cmp_eqs {a b : Str} {Q : AV → Sto → Prop} : cmpP .eq (.str a) (.str b) st Q ↔ Q (.bool (a == b)) st := cmp_eqv (.str _ _)
theorem cmp_nes {a b : Str} {Q : AV → Sto → Prop} : cmpP .ne (.str a) (.str b) st Q ↔ Q (.bool (!(a == b))) st := cmp_nev (.str _ _)
theorem cmp_eqc {a b : Cell} {Q : AV → Sto → Prop} : cmpP .eq a.av b.av st Q ↔ Q (.bool (a.eqb b)) st := cmp_eqv (eqv_cell _ _)
theorem cmp_nec {a b : Cell} {Q : AV → Sto → Prop} : cmpP .ne a.av b.av st Q ↔ Q (.bool (!(a.eqb b))) st := cmp_nev (eqv_cell _ _)
theorem eqv_nil {n : Nat} (ds : List AV) : EqV st (n + 1) (.tup ds) (.tup []) (ds.length == 0) := by
  have := EqV.tup (st := st) (n := n) (EqVs.nilR ds)
  simpa using this
theorem cmp_eq0 {ds : List AV} {Q : AV → Sto → Prop} : cmpP .eq (.tup ds) (.tup []) st Q ↔ Q (.bool (ds.length == 0)) st := cmp_eqv (eqv_nil _)
theorem cmp_ne0 {ds : List AV} {Q : AV → Sto → Prop} : cmpP .ne (.tup ds) (.tup []) st Q ↔ Q (.bool (!(ds.length == 0))) st := cmp_nev (eqv_nil _)
theorem eqv_lnil {n : Nat} {a b : Addr} {ds : List AV} (ha : st a = some (.list ds)) (hb : st b = some (.list [])) : EqV st (n + 1) (.loc a) (.loc b) (ds.length == 0) := by
  cases ds with
  | nil => exact .list ha hb rfl (.nilL [])
  | cons d r => exact .listN ha hb (by simp)

def subP (x y : AV) (st : Sto) (Q : AV → Sto → Prop) : Prop :=
      (∃ ds j v, x = .tup ds ∧ y = .int j ∧ 0 ≤ j ∧ j < 1000 ∧ ds[j.toNat]? = some v ∧ Q v st) ∨
      (∃ a ds j v, x = .loc a ∧ y = .int j ∧ st a = some (.list ds) ∧ 0 ≤ j ∧ j < 1000 ∧ ds[j.toNat]? = some v ∧ Q v st) ∨
      (∃ a ds v, x = .loc a ∧ y = .int (-1) ∧ st a = some (.list (ds ++ [v])) ∧ ds.length ≤ 1000 ∧ Q v st) ∨
      (∃ a es k v, x = .loc a ∧ y = .str k ∧ st a = some (.dict es) ∧ es.lookup k = some v ∧ Q v st)
def methP (T : Tab) (C : CallT) (name : Str) (as : MEs) (l : Loc) (x : AV) (st : Sto) (Q : AV → Sto → Prop) : Prop :=
  ∃ a cl d es f, x = .loc a ∧ st a = some (.inst cl d) ∧ st d = some (.dict es) ∧ es.lookup name = Option.none ∧ T.meth cl name = some f ∧ evPs T C as l st fun ds st => C f (x :: ds) st Q
def appP (T : Tab) (C : CallT) (a : ME) (l : Loc) (x : AV) (st : Sto) (Q : AV → Sto → Prop) : Prop :=
  ∃ n ds0, x = .loc n ∧ st n = some (.list ds0) ∧ evP T C a l st fun y st => ∃ ds, st n = some (.list ds) ∧ ds.length ≤ 1000 ∧ Q .none (upd st n (.list (ds ++ [y])))
def extP (T : Tab) (C : CallT) (a : ME) (l : Loc) (x : AV) (st : Sto) (Q : AV → Sto → Prop) : Prop :=
  ∃ n ds0, x = .loc n ∧ st n = some (.list ds0) ∧ evP T C a l st fun y st => ∃ ds es, st n = some (.list ds) ∧ ((∃ m, y = .loc m ∧ m ≠ n ∧ st m = some (.list es)) ∨ y = .tup es) ∧ ds.length ≤ 1000 ∧ es.length ≤ 1000 ∧ Q .none (upd st n (.list (ds ++ es)))
def popP (x : AV) (st : Sto) (Q : AV → Sto → Prop) : Prop := ∃ n ds y, x = .loc n ∧ st n = some (.list (ds ++ [y])) ∧ ds.length ≤ 1000 ∧ Q y (upd st n (.list ds))
def attrP (T : Tab) (C : CallT) (name : Str) (x : AV) (st : Sto) (Q : AV → Sto → Prop) : Prop :=
  ∃ a cl d es, x = .loc a ∧ st a = some (.inst cl d) ∧ st d = some (.dict es) ∧ (match T.prop cl name with | some f => C f [x] st Q | Option.none => T.field cl name = true ∧ ∃ v, es.lookup name = some v ∧ Q v st)
def sliceP (x y z : AV) (st : Sto) (Q : AV → Sto → Prop) : Prop :=
  ∃ ds i j, ((∃ a, x = .loc a ∧ st a = some (.list ds)) ∨ x = .ro ds) ∧ cutBounds y z ds.length = some (i, j) ∧ ds.length ≤ 1000 ∧ ∀ n, st n = Option.none → Q (.loc n) (upd st n (.list (cut ds i j)))
def revP (x : AV) (st : Sto) (Q : AV → Sto → Prop) : Prop := ∃ a ds, x = .loc a ∧ st a = some (.list ds) ∧ ds.length ≤ 1000 ∧ ∀ n, st n = Option.none → Q (.loc n) (upd st n (.list ds.reverse))
def lenP (x : AV) (st : Sto) (Q : AV → Sto → Prop) : Prop := ∃ ds, ((∃ n, x = .loc n ∧ st n = some (.list ds)) ∨ x = .tup ds) ∧ ds.length ≤ 2000 ∧ Q (.int ds.length) st
def listP (x : AV) (st : Sto) (Q : AV → Sto → Prop) : Prop := ∃ m ds, x = .loc m ∧ st m = some (.list ds) ∧ ds.length ≤ 1000 ∧ ∀ n, st n = Option.none → Q (.loc n) (upd st n (.list ds))
def allP (x : AV) (st : Sto) (Q : AV → Sto → Prop) : Prop := ∃ (m : Addr) (bs : List Bool), x = .loc m ∧ st m = some (.list (bs.map AV.bool)) ∧ bs.length ≤ 1000 ∧ Q (.bool (bs.all id)) st
def maxP (x y : AV) (st : Sto) (Q : AV → Sto → Prop) : Prop := ∃ i j, x = .int i ∧ y = .int j ∧ Q (.int (if i < j then j else i)) st
def minP (x y : AV) (st : Sto) (Q : AV → Sto → Prop) : Prop := ∃ i j, x = .int i ∧ y = .int j ∧ Q (.int (if j < i then j else i)) st
def negP (x : AV) (st : Sto) (Q : AV → Sto → Prop) : Prop := ∃ i, x = .int i ∧ Q (.int (-i)) st
def fdivP (x y : AV) (st : Sto) (Q : AV → Sto → Prop) : Prop := ∃ i j, x = .int i ∧ y = .int j ∧ 0 < j ∧ j ≤ LIM ∧ Small i ∧ Q (.int (i / j)) st
def intP (x : AV) (st : Sto) (Q : AV → Sto → Prop) : Prop := ∃ i, x = .int i ∧ Q (.int i) st
section
variable {Q : AV → Sto → Prop} {QL : List AV → Sto → Prop} {QB : Bool → Sto → Prop} {QF : Fl → Loc → Sto → Prop} {QI : It → Sto → Prop} {a b c o i e lo hi : ME} {as r : MEs} {t u v : MT} {name : Str}
theorem ev_lit {d : AV} : evP T C (.lit d) l st Q = Q d st := by simp only [evP]
theorem ev_var {i : Nat} : evP T C (.var i) l st Q = ∃ d, l i = some d ∧ Q d st := by simp only [evP]
theorem ev_tup : evP T C (.tupE as) l st Q = evPs T C as l st fun ds st => ds.length ≤ 1000 ∧ Q (.tup ds) st := by simp only [evP]
theorem ev_list : evP T C (.listE as) l st Q = evPs T C as l st fun ds st => ds.length ≤ 1000 ∧ ∀ n, st n = Option.none → Q (.loc n) (upd st n (.list ds)) := by simp only [evP]
theorem ev_dict {ks : List Str} : evP T C (.dictE ks as) l st Q = evPs T C as l st fun ds st => ks.length = ds.length ∧ ks.Nodup ∧ ks.length ≤ 10 ∧ ∀ n, st n = Option.none → Q (.loc n) (upd st n (.dict (ks.zip ds))) := by simp only [evP]
theorem ev_bin {op : BOp} : evP T C (.bin op a b) l st Q = evP T C a l st fun x st => evP T C b l st fun y st => binP op x y st Q := by simp only [evP]
theorem ev_fdiv : evP T C (.fdiv a b) l st Q = evP T C a l st fun x st => evP T C b l st fun y st => fdivP x y st Q := by simp only [evP]; rfl
theorem ev_neg : evP T C (.neg a) l st Q = evP T C a l st fun x st => negP x st Q := by simp only [evP]; rfl
theorem ev_not : evP T C (.notE a) l st Q = evP T C a l st fun x st => truthP x fun b => Q (.bool (!b)) st := by simp only [evP]
theorem ev_and : evP T C (.andE a b) l st Q = evP T C a l st fun x st => truthP x fun c => (c = true → evP T C b l st Q) ∧ (c = false → Q (.bool false) st) := by simp only [evP]
theorem ev_or : evP T C (.orE a b) l st Q = evP T C a l st fun x st => truthP x fun c => (c = true → Q (.bool true) st) ∧ (c = false → evP T C b l st Q) := by simp only [evP]
theorem ev_if : evP T C (.ifE t a b) l st Q = tsP T C t l st fun t st => (t = true → evP T C a l st Q) ∧ (t = false → evP T C b l st Q) := by simp only [evP]
theorem ev_cmp {op : COp} : evP T C (.cmp op a b) l st Q = evP T C a l st fun x st => evP T C b l st fun y st => cmpP op x y st Q := by simp only [evP]
theorem ev_cmp2 {o1 o2 : COp} : evP T C (.cmp2 o1 o2 a b c) l st Q = evP T C a l st fun x st => evP T C b l st fun y st => cmpP o1 x y st fun r st => truthP r fun t => (t = true → evP T C c l st fun z st => cmpP o2 y z st Q) ∧ (t = false → Q (.bool false) st) := by simp only [evP]
theorem ev_call {f : Addr} : evP T C (.call f as) l st Q = evPs T C as l st fun ds st => C f ds st Q := by simp only [evP]
theorem ev_meth : evP T C (.meth o name as) l st Q = evP T C o l st fun x st => methP T C name as l x st Q := by simp only [evP]; rfl
theorem ev_app : evP T C (.append o a) l st Q = evP T C o l st fun x st => appP T C a l x st Q := by simp only [evP]; rfl
theorem ev_ext : evP T C (.extend o a) l st Q = evP T C o l st fun x st => extP T C a l x st Q := by simp only [evP]; rfl
theorem ev_pop : evP T C (.pop o) l st Q = evP T C o l st fun x st => popP x st Q := by simp only [evP]; rfl
theorem ev_attr : evP T C (.attr o name) l st Q = evP T C o l st fun x st => attrP T C name x st Q := by simp only [evP]; rfl
theorem ev_sub : evP T C (.sub o i) l st Q = evP T C o l st fun x st => evP T C i l st fun y st => subP x y st Q := by simp only [evP]; rfl
theorem ev_slice : evP T C (.slice o lo hi) l st Q = evP T C o l st fun x st => evP T C lo l st fun y st => evP T C hi l st fun z st => sliceP x y z st Q := by simp only [evP]; rfl
theorem ev_rev : evP T C (.rev o) l st Q = evP T C o l st fun x st => revP x st Q := by simp only [evP]; rfl
theorem ev_len : evP T C (.len a) l st Q = evP T C a l st fun x st => lenP x st Q := by simp only [evP]; rfl
theorem ev_max : evP T C (.max a b) l st Q = evP T C a l st fun x st => evP T C b l st fun y st => maxP x y st Q := by simp only [evP]; rfl
theorem ev_min : evP T C (.min a b) l st Q = evP T C a l st fun x st => evP T C b l st fun y st => minP x y st Q := by simp only [evP]; rfl
theorem ev_listOf : evP T C (.listOf a) l st Q = evP T C a l st fun x st => listP x st Q := by simp only [evP]; rfl
theorem ev_intOf : evP T C (.intOf a) l st Q = evP T C a l st fun x st => intP x st Q := by simp only [evP]; rfl
theorem ev_all : evP T C (.allOf a) l st Q = evP T C a l st fun x st => allP x st Q := by simp only [evP]; rfl
def compP (T : Tab) (C : CallT) (e : ME) (tg cap : List Nat) (l : Loc) (r : It) (st : Sto) (Q : AV → Sto → Prop) : Prop :=
  ∃ (I : Nat → List AV → Sto → Prop) (N : Nat), I 0 [] st ∧ ∀ i acc st, I i acc st → i ≤ N ∧ acc.length ≤ 1000 ∧ ∃ x, itNext r i st = some x ∧
      (match x with
        | Option.none => ∀ n, st n = Option.none → Q (.loc n) (upd st n (.list acc))
        | some d => ∃ l', bindT tg d (mask cap l) = some l' ∧ evP T C e l' st fun v st => I (i + 1) (acc ++ [v]) st)
theorem ev_comp {it : MI} {tg cap : List Nat} : evP T C (.comp e it tg cap) l st Q = itP T C it l st fun r st => compP T C e tg cap l r st Q := by simp only [evP]; rfl
theorem evs_nil : evPs T C .nil l st QL = QL [] st := by simp only [evPs]
theorem evs_cons : evPs T C (.cons a r) l st QL = evP T C a l st fun x st => evPs T C r l st fun xs st => QL (x :: xs) st := by simp only [evPs]
theorem ts_val : tsP T C (.val a) l st QB = evP T C a l st fun x st => truthP x fun b => QB b st := by simp only [tsP]
theorem ts_not : tsP T C (.notT t) l st QB = tsP T C t l st fun b st => QB (!b) st := by simp only [tsP]
theorem ts_and : tsP T C (.andT t u) l st QB = tsP T C t l st fun c st => (c = true → tsP T C u l st QB) ∧ (c = false → QB false st) := by simp only [tsP]
theorem ts_or : tsP T C (.orT t u) l st QB = tsP T C t l st fun c st => (c = true → QB true st) ∧ (c = false → tsP T C u l st QB) := by simp only [tsP]
theorem ts_if : tsP T C (.ifT t u v) l st QB = tsP T C t l st fun c st => (c = true → tsP T C u l st QB) ∧ (c = false → tsP T C v l st QB) := by simp only [tsP]
def itLP (x : AV) (st : Sto) (Q : It → Sto → Prop) : Prop := ∃ a ds, x = .loc a ∧ st a = some (.list ds) ∧ Q (.list a) st
def itEP (x : AV) (st : Sto) (Q : It → Sto → Prop) : Prop := ∃ a ds, x = .loc a ∧ st a = some (.list ds) ∧ Q (.enum a) st
def itZP (x y : AV) (st : Sto) (Q : It → Sto → Prop) : Prop := ∃ a b ds es, x = .loc a ∧ y = .loc b ∧ st a = some (.list ds) ∧ st b = some (.list es) ∧ Q (.zip a b) st
def itRP (x : AV) (st : Sto) (Q : It → Sto → Prop) : Prop := ∃ i, x = .int i ∧ -1000 ≤ i ∧ i ≤ 1000 ∧ Q (.range 0 i) st
def itR2P (x y : AV) (st : Sto) (Q : It → Sto → Prop) : Prop := ∃ i j, x = .int i ∧ y = .int j ∧ -1000 ≤ i ∧ i ≤ 1000 ∧ -1000 ≤ j ∧ j ≤ 1000 ∧ Q (.range i j) st
theorem it_list : itP T C (.list e) l st QI = evP T C e l st fun x st => itLP x st QI := by simp only [itP]; rfl
theorem it_enum : itP T C (.enum e) l st QI = evP T C e l st fun x st => itEP x st QI := by simp only [itP]; rfl
theorem it_zip : itP T C (.zip a b) l st QI = evP T C a l st fun x st => evP T C b l st fun y st => itZP x y st QI := by simp only [itP]; rfl
theorem it_r1 : itP T C (.range1 a) l st QI = evP T C a l st fun x st => itRP x st QI := by simp only [itP]; rfl
theorem it_r2 : itP T C (.range2 a b) l st QI = evP T C a l st fun x st => evP T C b l st fun y st => itR2P x y st QI := by simp only [itP]; rfl
def setattrP (T : Tab) (name : Str) (v x : AV) (l : Loc) (st : Sto) (Q : Fl → Loc → Sto → Prop) : Prop :=
  ∃ a cl d es, x = .loc a ∧ st a = some (.inst cl d) ∧ st d = some (.dict es) ∧ T.field cl name = true ∧ es.length ≤ 100 ∧
      Q .next l (upd st d (.dict (if (es.lookup name).isSome then es.map (fun p => if p.1 = name then (p.1, v) else p) else es ++ [(name, v)])))
def setsubP (v x y : AV) (l : Loc) (st : Sto) (Q : Fl → Loc → Sto → Prop) : Prop :=
      (∃ a ds j, x = .loc a ∧ y = .int j ∧ st a = some (.list ds) ∧ 0 ≤ j ∧ j < 1000 ∧ j.toNat < ds.length ∧ Q .next l (upd st a (.list (ds.set j.toNat v)))) ∨
      (∃ a ds w, x = .loc a ∧ y = .int (-1) ∧ st a = some (.list (ds ++ [w])) ∧ ds.length ≤ 1000 ∧ Q .next l (upd st a (.list (ds ++ [v])))) ∨
      (∃ a es k, x = .loc a ∧ y = .str k ∧ st a = some (.dict es) ∧ (es.lookup k).isSome = true ∧ es.length ≤ 100 ∧ Q .next l (upd st a (.dict (es.map (fun p => if p.1 = k then (p.1, v) else p)))))
def setsliceP (v x y z : AV) (l : Loc) (st : Sto) (Q : Fl → Loc → Sto → Prop) : Prop :=
      ∃ a ds b es i j, x = .loc a ∧ st a = some (.list ds) ∧ v = .loc b ∧ b ≠ a ∧ st b = some (.list es) ∧ y = .int i ∧ z = .int j ∧ 0 ≤ i ∧ i ≤ j ∧ j ≤ ds.length ∧ ds.length ≤ 1000 ∧ es.length ≤ 1000 ∧
        Q .next l (upd st a (.list (ds.take i.toNat ++ es ++ ds.drop j.toNat)))
def augP (i : Nat) (op : BOp) (x y : AV) (l : Loc) (st : Sto) (Q : Fl → Loc → Sto → Prop) : Prop := ∃ a b, x = .int a ∧ y = .int b ∧ (match op with | .add => Q .next (put l i (.int (a + b))) st | .sub => Q .next (put l i (.int (a - b))) st | _ => False)
def forP (T : Tab) (C : CallT) (tg : List Nat) (b : MSs) (l : Loc) (r : It) (st : Sto) (Q : Fl → Loc → Sto → Prop) : Prop :=
  ∃ (I : Nat → Loc → Sto → Prop) (N : Nat), I 0 l st ∧ ∀ i l st, I i l st → i ≤ N ∧ ∃ x, itNext r i st = some x ∧
      (match x with
        | Option.none => Q .next l st
        | some d => ∃ l', bindT tg d l = some l' ∧ exPs T C b l' st (turnQ (fun l st => I (i + 1) l st) Q))
def whileP (T : Tab) (C : CallT) (c : MT) (b : MSs) (l : Loc) (st : Sto) (Q : Fl → Loc → Sto → Prop) : Prop :=
  ∃ (I : Nat → Loc → Sto → Prop) (n₀ : Nat), I n₀ l st ∧ ∀ n l st, I n l st → tsP T C c l st fun t st =>
      (t = true → exPs T C b l st (turnQ (fun l st => ∃ m, m < n ∧ I m l st) Q)) ∧ (t = false → Q .next l st)
theorem ex_expr : exP T C (.expr e) l st QF = evP T C e l st fun _ st => QF .next l st := by simp only [exP]
theorem ex_ret : exP T C (.ret e) l st QF = evP T C e l st fun d st => QF (.ret d) l st := by simp only [exP]
theorem ex_retN : exP T C .retN l st QF = QF (.ret .none) l st := by simp only [exP]
theorem ex_asg {i : Nat} : exP T C (.asg i e) l st QF = evP T C e l st fun d st => QF .next (put l i d) st := by simp only [exP]
theorem ex_asgT {is : List Nat} : exP T C (.asgT is e) l st QF = evP T C e l st fun d st => ∃ ds l', d = .tup ds ∧ putAll is ds l = some l' ∧ QF .next l' st := by simp only [exP]
theorem ex_setattr : exP T C (.setattr o name e) l st QF = evP T C e l st fun v st => evP T C o l st fun x st => setattrP T name v x l st QF := by simp only [exP]; rfl
theorem ex_setsub : exP T C (.setsub o i e) l st QF = evP T C e l st fun v st => evP T C o l st fun x st => evP T C i l st fun y st => setsubP v x y l st QF := by simp only [exP]; rfl
theorem ex_setslice : exP T C (.setslice o lo hi e) l st QF = evP T C e l st fun v st => evP T C o l st fun x st => evP T C lo l st fun y st => evP T C hi l st fun z st => setsliceP v x y z l st QF := by simp only [exP]; rfl
theorem ex_aug {i : Nat} {op : BOp} : exP T C (.aug i op e) l st QF = ∃ x, l i = some x ∧ evP T C e l st fun y st => augP i op x y l st QF := by simp only [exP]; rfl
theorem ex_ite {b o : MSs} : exP T C (.ite t b o) l st QF = tsP T C t l st fun t st => (t = true → exPs T C b l st QF) ∧ (t = false → exPs T C o l st QF) := by simp only [exP]
theorem ex_for {it : MI} {tg : List Nat} {b : MSs} : exP T C (.for_ it tg b) l st QF = itP T C it l st fun r st => forP T C tg b l r st QF := by simp only [exP]; rfl
theorem ex_while {b : MSs} : exP T C (.while_ t b) l st QF = whileP T C t b l st QF := by simp only [exP]; rfl
theorem ex_cont : exP T C .cont l st QF = QF .cont l st := by simp only [exP]
/-! the heap's reads and writes -/
theorem neg_int {i : Int} : negP (.int i) st Q ↔ Q (.int (-i)) st := by simp [negP]
theorem max_int {i j : Int} : maxP (.int i) (.int j) st Q ↔ Q (.int (if i < j then j else i)) st := by simp [maxP]
theorem min_int {i j : Int} : minP (.int i) (.int j) st Q ↔ Q (.int (if j < i then j else i)) st := by simp [minP]
theorem int_int {i : Int} : intP (.int i) st Q ↔ Q (.int i) st := by simp [intP]
theorem aug_add {i : Nat} {a b : Int} : augP i .add (.int a) (.int b) l st QF ↔ QF .next (put l i (.int (a + b))) st := by simp [augP]
theorem aug_sub {i : Nat} {a b : Int} : augP i .sub (.int a) (.int b) l st QF ↔ QF .next (put l i (.int (a - b))) st := by simp [augP]
theorem len_at {a : Addr} {ds : List AV} (ha : st a = some (.list ds)) (h : ds.length ≤ 2000) (q : Q (.int ds.length) st) : lenP (.loc a) st Q := ⟨ds, .inl ⟨a, rfl, ha⟩, h, q⟩
theorem pop_at {a : Addr} {ds : List AV} {y : AV} (ha : st a = some (.list (ds ++ [y]))) (h : ds.length ≤ 1000) (q : Q y (upd st a (.list ds))) : popP (.loc a) st Q := ⟨a, ds, y, rfl, ha, h, q⟩
theorem attr_at {a cl d : Addr} {es : List (Str × AV)} {v : AV} (ha : st a = some (.inst cl d)) (hd : st d = some (.dict es)) (hp : T.prop cl name = Option.none) (hf : T.field cl name = true) (hv : es.lookup name = some v) (q : Q v st) : attrP T C name (.loc a) st Q :=
  ⟨a, cl, d, es, rfl, ha, hd, by rw [hp]; exact ⟨hf, v, hv, q⟩⟩
theorem prop_at {a cl d f : Addr} {es : List (Str × AV)} (ha : st a = some (.inst cl d)) (hd : st d = some (.dict es)) (hp : T.prop cl name = some f) (q : C f [.loc a] st Q) : attrP T C name (.loc a) st Q :=
  ⟨a, cl, d, es, rfl, ha, hd, by rw [hp]; exact q⟩
theorem meth_at {a cl d f : Addr} {es : List (Str × AV)} (ha : st a = some (.inst cl d)) (hd : st d = some (.dict es)) (hv : es.lookup name = Option.none) (hm : T.meth cl name = some f) (q : evPs T C as l st fun ds st => C f (.loc a :: ds) st Q) : methP T C name as l (.loc a) st Q :=
  ⟨a, cl, d, es, f, rfl, ha, hd, hv, hm, q⟩
theorem app_at {n : Addr} {ds : List AV} (ha : st n = some (.list ds)) (q : evP T C a l st fun y st => ∃ ds, st n = some (.list ds) ∧ ds.length ≤ 1000 ∧ Q .none (upd st n (.list (ds ++ [y])))) : appP T C a l (.loc n) st Q := ⟨n, ds, rfl, ha, q⟩
theorem ext_at {n : Addr} {ds : List AV} (ha : st n = some (.list ds)) (q : evP T C a l st fun y st => ∃ ds es, st n = some (.list ds) ∧ ((∃ m, y = .loc m ∧ m ≠ n ∧ st m = some (.list es)) ∨ y = .tup es) ∧ ds.length ≤ 1000 ∧ es.length ≤ 1000 ∧ Q .none (upd st n (.list (ds ++ es)))) :
    extP T C a l (.loc n) st Q := ⟨n, ds, rfl, ha, q⟩
theorem slice_at {a : Addr} {ds : List AV} {y z : AV} {i j : Nat} (ha : st a = some (.list ds)) (hb : cutBounds y z ds.length = some (i, j)) (h : ds.length ≤ 1000) (q : ∀ n, st n = Option.none → Q (.loc n) (upd st n (.list (cut ds i j)))) : sliceP (.loc a) y z st Q := ⟨ds, i, j, .inl ⟨a, rfl, ha⟩, hb, h, q⟩
theorem list_at {a : Addr} {ds : List AV} (ha : st a = some (.list ds)) (h : ds.length ≤ 1000) (q : ∀ n, st n = Option.none → Q (.loc n) (upd st n (.list ds))) : listP (.loc a) st Q := ⟨a, ds, rfl, ha, h, q⟩
theorem itL_at {a : Addr} {ds : List AV} (ha : st a = some (.list ds)) (q : QI (.list a) st) : itLP (.loc a) st QI := ⟨a, ds, rfl, ha, q⟩
theorem itE_at {a : Addr} {ds : List AV} (ha : st a = some (.list ds)) (q : QI (.enum a) st) : itEP (.loc a) st QI := ⟨a, ds, rfl, ha, q⟩
theorem itZ_at {a b : Addr} {ds es : List AV} (ha : st a = some (.list ds)) (hb : st b = some (.list es)) (q : QI (.zip a b) st) : itZP (.loc a) (.loc b) st QI := ⟨a, b, ds, es, rfl, rfl, ha, hb, q⟩
theorem itR_at {i : Int} (h1 : -1000 ≤ i) (h2 : i ≤ 1000) (q : QI (.range 0 i) st) : itRP (.int i) st QI := ⟨i, rfl, h1, h2, q⟩
theorem setsub_at {a : Addr} {ds : List AV} {j : Int} {v : AV} (ha : st a = some (.list ds)) (h0 : 0 ≤ j) (h1 : j < 1000) (h2 : j.toNat < ds.length) (q : QF .next l (upd st a (.list (ds.set j.toNat v)))) : setsubP v (.loc a) (.int j) l st QF := .inl ⟨a, ds, j, rfl, rfl, ha, h0, h1, h2, q⟩
theorem setsub_last {a : Addr} {ds : List AV} {v w : AV} (ha : st a = some (.list (ds ++ [w]))) (h0 : ds.length ≤ 1000) (q : QF .next l (upd st a (.list (ds ++ [v])))) : setsubP v (.loc a) (.int (-1)) l st QF := .inr (.inl ⟨a, ds, w, rfl, rfl, ha, h0, q⟩)
theorem setsub_key {a : Addr} {es : List (Str × AV)} {k : Str} {v : AV} (ha : st a = some (.dict es)) (h1 : (es.lookup k).isSome = true) (h2 : es.length ≤ 100) (q : QF .next l (upd st a (.dict (es.map (fun p => if p.1 = k then (p.1, v) else p))))) : setsubP v (.loc a) (.str k) l st QF := .inr (.inr ⟨a, es, k, rfl, rfl, ha, h1, h2, q⟩)
theorem setattr_at {a cl d : Addr} {es es' : List (Str × AV)} {v : AV} (ha : st a = some (.inst cl d)) (hd : st d = some (.dict es)) (hf : T.field cl name = true) (hl : es.length ≤ 100)
    (he : (if (es.lookup name).isSome then es.map (fun p => if p.1 = name then (p.1, v) else p) else es ++ [(name, v)]) = es') (q : QF .next l (upd st d (.dict es'))) : setattrP T name v (.loc a) l st QF := ⟨a, cl, d, es, rfl, ha, hd, hf, hl, he ▸ q⟩
end
theorem sub_tup {ds : List AV} {j : Int} {Q : AV → Sto → Prop} : subP (.tup ds) (.int j) st Q ↔ 0 ≤ j ∧ j < 1000 ∧ ∃ v, ds[j.toNat]? = some v ∧ Q v st := by
  constructor
  · rintro (⟨ds', j', v, h1, h2, h3, h4, h5, h6⟩ | ⟨_, _, _, _, h, _⟩ | ⟨_, _, _, h, _⟩ | ⟨_, _, _, _, h, _⟩)
    · cases h1; cases h2; exact ⟨h3, h4, v, h5, h6⟩
    · cases h
    · cases h
    · cases h
  · rintro ⟨h1, h2, v, h3, h4⟩; exact .inl ⟨ds, j, v, rfl, rfl, h1, h2, h3, h4⟩
theorem sub_cell0 {c : Cell} {Q : AV → Sto → Prop} : subP c.av (.int 0) st Q ↔ Q (.tup (c.codes.map .int)) st := by rw [Cell.av, sub_tup]; simp
theorem sub_cell1 {c : Cell} {Q : AV → Sto → Prop} : subP c.av (.int 1) st Q ↔ Q (.int c.w) st := by rw [Cell.av, sub_tup]; simp
theorem sub_cell2 {c : Cell} {Q : AV → Sto → Prop} : subP c.av (.int 2) st Q ↔ Q c.pen.av st := by rw [Cell.av, sub_tup]; simp
theorem sub_cell3 {c : Cell} {Q : AV → Sto → Prop} : subP c.av (.int 3) st Q ↔ Q (.bool c.g) st := by rw [Cell.av, sub_tup]; simp
theorem sub_pen2 {p : Pen} {Q : AV → Sto → Prop} : subP p.av (.int 2) st Q ↔ Q (.int p.c) st := by rw [Pen.av, sub_tup]; simp
theorem sub_at {a : Addr} {ds : List AV} {j : Int} {v : AV} {Q : AV → Sto → Prop} (ha : st a = some (.list ds)) (h0 : 0 ≤ j) (h1 : j < 1000) (h2 : ds[j.toNat]? = some v) (q : Q v st) : subP (.loc a) (.int j) st Q :=
  .inr (.inl ⟨a, ds, j, v, rfl, rfl, ha, h0, h1, h2, q⟩)
theorem sub_last {a : Addr} {ds : List AV} {v : AV} {Q : AV → Sto → Prop} (ha : st a = some (.list (ds ++ [v]))) (h1 : ds.length ≤ 1000) (q : Q v st) : subP (.loc a) (.int (-1)) st Q :=
  .inr (.inr (.inl ⟨a, ds, v, rfl, rfl, ha, h1, q⟩))
theorem sub_key {a : Addr} {es : List (Str × AV)} {k : Str} {v : AV} {Q : AV → Sto → Prop} (ha : st a = some (.dict es)) (h1 : es.lookup k = some v) (q : Q v st) : subP (.loc a) (.str k) st Q :=
  .inr (.inr (.inr ⟨a, es, k, v, rfl, rfl, ha, h1, q⟩))
theorem exPs_cons {s : MS} {r : MSs} {Q : Fl → Loc → Sto → Prop} : exPs T C (.cons s r) l st Q = exP T C s l st (seqQ (fun l st => exPs T C r l st Q) Q) := by simp only [exPs]
theorem exPs_nil {Q : Fl → Loc → Sto → Prop} : exPs T C .nil l st Q = Q .next l st := by simp only [exPs]

theorem call_fn {prg : Addr → Option Def} {n : Nat} {f : Addr} {np : Nat} {df ds : List AV} {body : MSs} {Q : AV → Sto → Prop} (hp : prg f = some (.fn np df body)) (hn : 1 ≤ n) (hl : ds.length ≤ np ∧ np ≤ ds.length + df.length)
    (h : exPs T (Calls T prg (n - 1)) body (fun i => (argsOf np df ds)[i]?) st (retQ Q)) : Calls T prg n f ds st Q := by
  obtain ⟨m, rfl⟩ : ∃ m, n = m + 1 := ⟨n - 1, by omega⟩
  unfold Calls
  rw [hp]
  exact ⟨hl, h⟩
theorem call_cls {prg : Addr → Option Def} {n : Nat} {f fI : Addr} {ds : List AV} {Q : AV → Sto → Prop} (hp : prg f = some (.cls fI)) (hn : 1 ≤ n)
    (h : ∀ x dx, x ≠ dx → st x = none → st dx = none → Calls T prg (n - 1) fI (.loc x :: ds) (upd (upd st dx (.dict [])) x (.inst f dx)) (fun d st' => d = .none ∧ Q (.loc x) st')) : Calls T prg n f ds st Q := by
  obtain ⟨m, rfl⟩ : ∃ m, n = m + 1 := ⟨n - 1, by omega⟩
  unfold Calls
  rw [hp]
  exact h
end
end Mine

end

section
set_option linter.unusedVariables false
set_option linter.unusedSimpArgs false
set_option maxHeartbeats 1000000
namespace Mine
open PySem
local macro_rules | `(tactic| walk_at "ms") => `(tactic| simp only [ev_lit, ev_var, ev_tup, ev_list, ev_dict, ev_bin, ev_fdiv, ev_neg, ev_not, ev_and, ev_or, ev_if, ev_cmp, ev_cmp2, ev_call, ev_meth, ev_app, ev_ext, ev_pop, ev_attr, ev_sub, ev_slice, ev_rev, ev_len, ev_max, ev_min, ev_listOf, ev_intOf, ev_all, ev_comp,
  evs_nil, evs_cons, ts_val, ts_not, ts_and, ts_or, ts_if, it_list, it_enum, it_zip, it_r1, it_r2, ex_expr, ex_ret, ex_retN, ex_asg, ex_asgT, ex_setattr, ex_setsub, ex_setslice, ex_aug, ex_ite, ex_for, ex_while, ex_cont, exPs_nil,
  seqQ, turnQ, retQ, truth_bool, bin_add, bin_sub, bin_mul, bin_md, neg_int, max_int, min_int, int_int, aug_add, aug_sub, cmp_lt, cmp_le, cmp_gt, cmp_ge, cmp_eq, cmp_ne, cmp_eqb, cmp_neb, cmp_eqs, cmp_nes, cmp_eqc, cmp_nec, cmp_eq0, cmp_ne0,
  sub_cell0, sub_cell1, sub_cell2, sub_cell3, sub_pen2, put, argsOf, List.cons_append, List.nil_append, List.append_nil, List.drop_nil, List.length_cons, List.length_nil, List.getElem?_cons_zero, List.getElem?_cons_succ, Option.some.injEq, exists_eq_left', List.length_map, Nat.reduceAdd, Nat.reduceSub, Nat.reduceEqDiff, Nat.reduceLeDiff, if_true, if_false, ite_true, ite_false, reduceIte, true_and, and_true, Nat.zero_le,
  reduceCtorEq, eq_self, false_implies, true_implies, implies_true, decide_eq_true_eq, decide_eq_false_iff_not, beq_iff_eq, Bool.not_eq_true', Bool.not_eq_false', Bool.and_eq_true, Bool.or_eq_true, beq_eq_false_iff_ne, ne_eq])
def Ext (st st' : Sto) : Prop := ∀ a, st a ≠ none → st' a = st a
theorem Ext.refl (st : Sto) : Ext st st := fun _ _ => rfl
theorem Ext.trans {a b c : Sto} (x : Ext a b) (y : Ext b c) : Ext a c := fun d h => (y d (by rw [x d h]; exact h)).trans (x d h)
theorem Ext.at {st st' : Sto} (x : Ext st st') {a : Addr} {o : AO} (e : st a = some o) : st' a = some o := (x a (by rw [e]; exact nofun)).trans e
theorem Ext.out {st st' : Sto} (x : Ext st st') {a : Addr} (e : st' a = none) : st a = none := by
  cases q : st a with
  | none => rfl
  | some o => rw [x.at q] at e; cases e
theorem Ext.upd {st st' : Sto} (x : Ext st st') {a : Addr} {o : AO} (e : st a = none) : Ext st (upd st' a o) := fun b h => by
  unfold Mine.upd
  rw [if_neg (fun q => h (by rw [q]; exact e))]
  exact x b h
theorem Ext.new {st : Sto} {a : Addr} {o : AO} (e : st a = none) : Ext st (Mine.upd st a o) := (Ext.refl st).upd e
theorem upd_same {st : Sto} {a : Addr} {o : AO} : upd st a o a = some o := by unfold upd; simp
theorem upd_ne {st : Sto} {a b : Addr} {o : AO} (h : b ≠ a) : upd st a o b = st b := by unfold upd; rw [if_neg h]
theorem ne_of {st : Sto} {a b : Addr} {o : AO} (e : st a = some o) (e' : st b = none) : a ≠ b := fun q => by rw [q, e'] at e; cases e
theorem upd_at {st : Sto} {a b : Addr} {o o' : AO} (e : st b = some o) (e' : st a = none) : upd st a o' b = some o := by rw [upd_ne (ne_of e e')]; exact e

/-- a new list -/
def NewL (st : Sto) (ds : List AV) (Q : AV → Sto → Prop) : Prop := ∀ b st', Ext st st' → st b = none → st' b = some (.list ds) → Q (.loc b) st'
theorem NewL.here {st : Sto} {ds : List AV} {Q : AV → Sto → Prop} (q : NewL st ds Q) {n : Addr} (h : st n = none) : Q (.loc n) (upd st n (.list ds)) := q n _ (Ext.new h) h upd_same

def fixF : List Cell → List Cell
  | [] => []
  | c :: r => (if c.w = 0 then blank c.pen else c) :: r
def fixL : List Cell → List Cell
  | [] => []
  | [c] => [if c.w = 2 then blank c.pen else c]
  | c :: d :: r => c :: fixL (d :: r)
theorem fixL_snoc : ∀ (cs : List Cell) (c : Cell), fixL (cs ++ [c]) = cs ++ [if c.w = 2 then blank c.pen else c]
  | [], _ => rfl
  | [d], c => rfl
  | d :: e :: r, c => by
    show d :: fixL (e :: r ++ [c]) = _
    rw [show e :: r ++ [c] = (e :: r) ++ [c] from rfl, fixL_snoc (e :: r) c]; rfl
theorem fixF_len (cs : List Cell) : (fixF cs).length = cs.length := by cases cs <;> rfl
theorem fixL_len : ∀ (cs : List Cell), (fixL cs).length = cs.length
  | [] => rfl
  | [_] => rfl
  | c :: d :: r => by show (fixL (d :: r)).length + 1 = _; rw [fixL_len]; rfl
def fixB (cs : List Cell) : List Cell := fixL (fixF cs)
theorem fixB_len (cs : List Cell) : (fixB cs).length = cs.length := by unfold fixB; rw [fixL_len, fixF_len]
theorem avs_get {cs : List Cell} {i : Nat} {c : Cell} (h : cs[i]? = some c) : (avs cs)[i]? = some c.av := by simp [avs, h]
theorem avs_len (cs : List Cell) : (avs cs).length = cs.length := by simp [avs]

section
variable {st : Sto} {n : Nat} {Q : AV → Sto → Prop}
theorem c_erased (hn : 1 ≤ n) {p : Pen} (q : Q (erase p).av st) : Calls tab prg n 62 [p.av] st Q := by
  refine call_fn rfl hn (by simp) ?_
  unfold m_erased_pen
  rw [exPs_cons]
  walk_at "ms"
  exact q
theorem c_blank (hn : 2 ≤ n) {p : Pen} (q : Q (blank p).av st) : Calls tab prg n 69 [p.av] st Q := by
  refine call_fn rfl (by omega) (by simp) ?_
  unfold m_blank_cell
  rw [exPs_cons]
  walk_at "ms"
  exact c_erased (by omega) q
theorem c_is_blank (hn : 1 ≤ n) {c : Cell} (q : Q (.bool (isBlank c)) st) : Calls tab prg n 76 [c.av] st Q := by
  refine call_fn rfl (by omega) (by simp) ?_
  unfold m_is_blank
  rw [exPs_cons]
  walk_at "ms"
  unfold isBlank at q
  refine ⟨fun h => ?_, fun h => ?_⟩
  · rw [h] at q; exact q
  · rw [show (c.codes.length == 0) = false from beq_eq_false_iff_ne.mpr h] at q; exact q
theorem c_plain_blank (hn : 1 ≤ n) {c : Cell} (q : Q (.bool (c.eqb (blank plain))) st) : Calls tab prg n 83 [c.av] st Q := by
  refine call_fn rfl (by omega) (by simp) ?_
  unfold m_is_plain_blank
  rw [exPs_cons]
  walk_at "ms"
  exact (cmp_eqc (b := blank plain)).mpr q
theorem c_right (hn : 1 ≤ n) {c : Cell} (q : Q (right c).av st) : Calls tab prg n 98 [c.av] st Q := by
  refine call_fn rfl (by omega) (by simp) ?_
  unfold m_right_half
  rw [exPs_cons]
  walk_at "ms"
  exact q
theorem c_line_blanks (hn : 3 ≤ n) {p : Pen} {k : Int} (h0 : 0 ≤ k) (h1 : k ≤ 1000) (q : NewL st (avs (List.replicate k.toNat (blank p))) Q) : Calls tab prg n 91 [.int k, p.av] st Q := by
  refine call_fn rfl (by omega) (by simp) ?_
  unfold m_line_blanks
  rw [exPs_cons]
  walk_at "ms"
  refine c_blank (by omega) fun a ha => ?_
  refine .inr ⟨a, (blank p).av, if 0 < k then k else 0, rfl, rfl, upd_same, by split <;> omega, by split <;> omega, fun b hb => ?_⟩
  have hk : (if 0 < k then k else 0) = k := by split <;> omega
  rw [hk]
  refine q b _ (((Ext.new ha).trans (Ext.new hb))) ((Ext.new ha).out hb) ?_
  rw [upd_same]; simp [avs]
theorem c_line_part (hn : 1 ≤ n) {a : Addr} {cs : List Cell} {i : Int} (ha : st a = some (.list (avs cs))) (hl : cs.length ≤ 1000) (h0 : 0 ≤ i) (h1 : i < 1000) (h : i = 0 ∨ cs.length ≤ i ∨ ∃ c, cs[i.toNat]? = some c ∧ c.w ≠ 0) (q : Q .none st) :
    Calls tab prg n 105 [.loc a, .int i] st Q := by
  refine call_fn rfl (by omega) (by simp) ?_
  unfold m_line_part
  rw [exPs_cons]
  walk_at "ms"
  refine ⟨fun hi => ?_, fun hi => ?_⟩
  · refine len_at ha (by rw [avs_len]; omega) ?_
    rw [avs_len]
    walk_at "ms"
    refine ⟨fun hj => ?_, fun hj => q⟩
    rcases h with h | h | ⟨c, hc, hw⟩
    · omega
    · omega
    · refine sub_at ha h0 h1 (avs_get hc) ?_
      walk_at "ms"
      exact ⟨fun z => absurd z hw, fun _ => q⟩
  · exact q
end
end Mine

end

section
set_option linter.unusedVariables false
set_option linter.unusedSimpArgs false
set_option maxHeartbeats 1000000
namespace Mine
open PySem
local macro_rules | `(tactic| walk_at "ms") => `(tactic| simp only [ev_lit, ev_var, ev_tup, ev_list, ev_dict, ev_bin, ev_fdiv, ev_neg, ev_not, ev_and, ev_or, ev_if, ev_cmp, ev_cmp2, ev_call, ev_meth, ev_app, ev_ext, ev_pop, ev_attr, ev_sub, ev_slice, ev_rev, ev_len, ev_max, ev_min, ev_listOf, ev_intOf, ev_all, ev_comp,
  evs_nil, evs_cons, ts_val, ts_not, ts_and, ts_or, ts_if, it_list, it_enum, it_zip, it_r1, it_r2, ex_expr, ex_ret, ex_retN, ex_asg, ex_asgT, ex_setattr, ex_setsub, ex_setslice, ex_aug, ex_ite, ex_for, ex_while, ex_cont, exPs_nil,
  seqQ, turnQ, retQ, truth_bool, bin_add, bin_sub, bin_mul, bin_md, neg_int, max_int, min_int, int_int, aug_add, aug_sub, cmp_lt, cmp_le, cmp_gt, cmp_ge, cmp_eq, cmp_ne, cmp_eqb, cmp_neb, cmp_eqs, cmp_nes, cmp_eqc, cmp_nec, cmp_eq0, cmp_ne0,
  sub_cell0, sub_cell1, sub_cell2, sub_cell3, sub_pen2, put, argsOf, List.cons_append, List.nil_append, List.append_nil, List.drop_nil, List.length_cons, List.length_nil, List.getElem?_cons_zero, List.getElem?_cons_succ, Option.some.injEq, exists_eq_left', List.length_map, Nat.reduceAdd, Nat.reduceSub, Nat.reduceEqDiff, Nat.reduceLeDiff, if_true, if_false, ite_true, ite_false, reduceIte, true_and, and_true, Nat.zero_le,
  reduceCtorEq, eq_self, false_implies, true_implies, implies_true, decide_eq_true_eq, decide_eq_false_iff_not, beq_iff_eq, Bool.not_eq_true', Bool.not_eq_false', Bool.and_eq_true, Bool.or_eq_true, beq_eq_false_iff_ne, ne_eq])
local macro_rules | `(tactic| walk_at "mc") => `(tactic| (rw [exPs_cons]; walk_at "ms"))
local macro_rules | `(tactic| walk_at "fin") => `(tactic| repeat' (first | assumption | exact trivial | exact rfl | apply And.intro))
theorem seq_step {n : Nat} {s : MS} {r : MSs} {l : Loc} {st : Sto} {Q : Fl → Loc → Sto → Prop} (P : Loc → Sto → Prop) (h1 : exP tab (Calls tab prg n) s l st (seqQ P Q)) (h2 : ∀ l st, P l st → exPs tab (Calls tab prg n) r l st Q) : exPs tab (Calls tab prg n) (.cons s r) l st Q := by
  rw [exPs_cons]
  exact exP_mono (calls_mono n) s (seqQ_mono h2 fun _ _ _ q => q) h1
section
variable {C : CallT} {l : Loc} {st : Sto} {b : MSs} {Q : Fl → Loc → Sto → Prop}
theorem for_enum (hC : LeC C C) {a : Addr} {ds : List AV} {x y : Nat} (J : Nat → Loc → Sto → Prop) (h0 : J 0 l st) (hst : ∀ i l st, J i l st → st a = some (.list ds))
    (turn : ∀ i l st v, J i l st → ds[i]? = some v → exPs tab C b (put (put l x (.int i)) y v) st (turnQ (fun l st => J (i + 1) l st) Q)) (fin : ∀ l st, J ds.length l st → Q .next l st) : forP tab C [x, y] b l (.enum a) st Q := by
  refine ⟨fun i l st => i ≤ ds.length ∧ J i l st, ds.length, ⟨Nat.zero_le _, h0⟩, fun i l st ⟨hi, hJ⟩ => ⟨hi, ds[i]?.map fun x => .tup [.int i, x], by simp only [itNext, hst i l st hJ], ?_⟩⟩
  cases e : ds[i]? with
  | none =>
    have : i = ds.length := by have := List.getElem?_eq_none_iff.mp e; omega
    subst this
    exact fin l st hJ
  | some v =>
    have hlt := (List.getElem?_eq_some_iff.mp e).1
    exact ⟨_, rfl, exPs_mono hC b (turnQ_mono (fun l st q => ⟨by omega, q⟩) fun _ _ _ q => q) (turn i l st v hJ e)⟩
theorem for_list (hC : LeC C C) {a : Addr} {ds : List AV} {x : Nat} (J : Nat → Loc → Sto → Prop) (h0 : J 0 l st) (hst : ∀ i l st, J i l st → st a = some (.list ds))
    (turn : ∀ i l st v, J i l st → ds[i]? = some v → exPs tab C b (put l x v) st (turnQ (fun l st => J (i + 1) l st) Q)) (fin : ∀ l st, J ds.length l st → Q .next l st) : forP tab C [x] b l (.list a) st Q := by
  refine ⟨fun i l st => i ≤ ds.length ∧ J i l st, ds.length, ⟨Nat.zero_le _, h0⟩, fun i l st ⟨hi, hJ⟩ => ⟨hi, ds[i]?, by simp only [itNext, hst i l st hJ], ?_⟩⟩
  cases e : ds[i]? with
  | none =>
    have : i = ds.length := by have := List.getElem?_eq_none_iff.mp e; omega
    subst this
    exact fin l st hJ
  | some v =>
    have hlt := (List.getElem?_eq_some_iff.mp e).1
    exact ⟨_, rfl, exPs_mono hC b (turnQ_mono (fun l st q => ⟨by omega, q⟩) fun _ _ _ q => q) (turn i l st v hJ e)⟩
theorem for_zip (hC : LeC C C) {a c : Addr} {ds es : List AV} {x y : Nat} (J : Nat → Loc → Sto → Prop) (hl : ds.length = es.length) (h0 : J 0 l st) (hst : ∀ i l st, J i l st → st a = some (.list ds)) (hst' : ∀ i l st, J i l st → st c = some (.list es))
    (turn : ∀ i l st v u, J i l st → ds[i]? = some v → es[i]? = some u → exPs tab C b (put (put l x v) y u) st (turnQ (fun l st => J (i + 1) l st) Q)) (fin : ∀ l st, J ds.length l st → Q .next l st) : forP tab C [x, y] b l (.zip a c) st Q := by
  refine ⟨fun i l st => i ≤ ds.length ∧ J i l st, ds.length, ⟨Nat.zero_le _, h0⟩, fun i l st ⟨hi, hJ⟩ => ⟨hi, _, by simp only [itNext, hst i l st hJ, hst' i l st hJ]; rfl, ?_⟩⟩
  cases e : ds[i]? with
  | none =>
    have : i = ds.length := by have := List.getElem?_eq_none_iff.mp e; omega
    subst this
    exact fin l st hJ
  | some v =>
    have hlt := (List.getElem?_eq_some_iff.mp e).1
    cases e' : es[i]? with
    | none => have := List.getElem?_eq_none_iff.mp e'; omega
    | some u => exact ⟨_, rfl, exPs_mono hC b (turnQ_mono (fun l st q => ⟨by omega, q⟩) fun _ _ _ q => q) (turn i l st v u hJ e e')⟩
theorem for_range (hC : LeC C C) {k : Nat} {x : Nat} (J : Nat → Loc → Sto → Prop) (h0 : J 0 l st)
    (turn : ∀ i l st, J i l st → i < k → exPs tab C b (put l x (.int i)) st (turnQ (fun l st => J (i + 1) l st) Q)) (fin : ∀ l st, J k l st → Q .next l st) : forP tab C [x] b l (.range 0 k) st Q := by
  refine ⟨fun i l st => i ≤ k ∧ J i l st, k, ⟨Nat.zero_le _, h0⟩, fun i l st ⟨hi, hJ⟩ => ⟨hi, if i < k then some (.int i) else none, ?_, ?_⟩⟩
  · simp only [itNext, Int.zero_add]
    congr 1
    by_cases h : i < k
    · rw [if_pos h, if_pos (by omega)]
    · rw [if_neg h, if_neg (by omega)]
  · by_cases h : i < k
    · rw [if_pos h]
      exact ⟨_, rfl, exPs_mono hC b (turnQ_mono (fun l st q => ⟨by omega, q⟩) fun _ _ _ q => q) (turn i l st hJ h)⟩
    · rw [if_neg h]
      have : i = k := by omega
      subst this
      exact fin l st hJ
end
theorem avs_at {cs : List Cell} {i : Nat} {v : AV} (h : (avs cs)[i]? = some v) : ∃ c, cs[i]? = some c ∧ v = c.av := by
  simp only [avs, List.getElem?_map, Option.map_eq_some_iff] at h
  obtain ⟨c, h1, h2⟩ := h
  exact ⟨c, h1, h2.symm⟩

def wholeG (nb : Cell → Cell → Bool) : Option Cell → List Cell → Bool
  | _, [] => true
  | p, c :: r => !(c.w == 2 && (match r with | [] => true | d :: _ => nb c d)) && (!(c.w == 0 && (match p with | none => true | some q => q.w != 2)) && wholeG nb (some c) r)
def nbR (c d : Cell) : Bool := !(d.eqb (right c))
def nbL (_ d : Cell) : Bool := d.w != 0
def nbO (nb : Cell → Cell → Bool) (c : Cell) : Option Cell → Bool
  | none => true
  | some d => nb c d
def pvO : Option Cell → Bool
  | none => true
  | some q => q.w != 2
theorem wholeG_step {nb : Cell → Cell → Bool} {cs : List Cell} {i : Nat} {c : Cell} (h : cs[i]? = some c) :
    wholeG nb (if i = 0 then none else cs[i - 1]?) (cs.drop i) = (!(c.w == 2 && nbO nb c cs[i + 1]?) && (!(c.w == 0 && (if i = 0 then true else pvO cs[i - 1]?)) && wholeG nb (if i + 1 = 0 then none else cs[i + 1 - 1]?) (cs.drop (i + 1)))) := by
  obtain ⟨hi, hc⟩ := List.getElem?_eq_some_iff.mp h
  rw [List.drop_eq_getElem_cons hi, hc]
  simp only [wholeG, Nat.add_sub_cancel, Nat.add_eq_zero_iff, Nat.one_ne_zero, and_false, if_false, h]
  have e1 : (match List.drop (i + 1) cs with | [] => true | d :: _ => nb c d) = nbO nb c cs[i + 1]? := by
    have := List.head?_drop (l := cs) (i := i + 1)
    cases q : List.drop (i + 1) cs with
    | nil => rw [q] at this; simp at this; rw [List.getElem?_eq_none (by omega)]; rfl
    | cons d r => rw [q] at this; simp at this; rw [← this]; rfl
  have e2 : (match (if i = 0 then none else cs[i - 1]?) with | none => true | some q => q.w != 2) = (if i = 0 then true else pvO cs[i - 1]?) := by
    by_cases h0 : i = 0
    · rw [if_pos h0, if_pos h0]
    · rw [if_neg h0, if_neg h0]
      cases cs[i - 1]? <;> rfl
  rw [e1, e2]

section
variable {st : Sto} {n : Nat} {Q : AV → Sto → Prop}
theorem c_line_is_whole (hn : 2 ≤ n) {a : Addr} {cs : List Cell} (ha : st a = some (.list (avs cs))) (hl : cs.length ≤ 900) (q : Q (.bool (wholeG nbR none cs)) st) : Calls tab prg n 119 [.loc a] st Q := by
  refine call_fn rfl (by omega) (by simp) ?_
  unfold m_line_is_whole
  rw [exPs_cons]
  walk_at "ms"
  refine itE_at ha ?_
  refine for_enum (calls_mono _) (fun i l st' => st = st' ∧ l 0 = some (.loc a) ∧ wholeG nbR none cs = wholeG nbR (if i = 0 then none else cs[i - 1]?) (cs.drop i)) ⟨rfl, rfl, rfl⟩ (fun i l st' h => by rw [← h.1]; exact ha) ?_ ?_
  · rintro i l _ v ⟨rfl, h1, h2⟩ hv
    obtain ⟨c, hc, rfl⟩ := avs_at hv
    have hi := (List.getElem?_eq_some_iff.mp hc).1
    rw [wholeG_step hc] at h2
    refine seq_step (fun l' st' => st = st' ∧ l' 0 = some (.loc a) ∧ l' 1 = some (.int i) ∧ l' 2 = some c.av ∧ (c.w == 2 && nbO nbR c cs[i + 1]?) = false) ?_ ?_
    · walk_at "ms"
      simp only [h1, Option.some.injEq, exists_eq_left']
      refine ⟨fun hw => ?_, fun hw => ?_⟩
      · refine len_at ha (by rw [avs_len]; omega) ?_
        rw [avs_len]
        walk_at "ms"
        refine ⟨fun hj => ?_, fun hj => ?_⟩
        · have : cs[i + 1]? = none := List.getElem?_eq_none (by omega)
          rw [this, hw] at h2
          simp only [nbO] at h2
          simp only [beq_self_eq_true, Bool.true_and, Bool.not_true, Bool.false_and] at h2
          rw [h2] at q; walk_at "mc"; exact q
        · have hlt : i + 1 < cs.length := by omega
          refine sub_at ha (by omega) (by omega) (avs_get (c := cs[i + 1]) (by rw [show ((i : Int) + 1).toNat = i + 1 by omega, List.getElem?_eq_getElem hlt])) ?_
          refine c_right (by omega) ?_
          walk_at "ms"
          simp only [List.getElem?_eq_getElem hlt, nbO] at h2
          refine ⟨fun hne => ?_, fun he => ?_⟩
          · have : nbR c cs[i + 1] = true := by unfold nbR; rw [hne]; rfl
            simp only [this, hw, beq_self_eq_true, Bool.true_and, Bool.not_true, Bool.false_and] at h2
            rw [h2] at q; walk_at "mc"; exact q
          · have : nbR c cs[i + 1] = false := by unfold nbR; rw [he]; rfl
            simp only [List.getElem?_eq_getElem hlt, nbO, this, Bool.and_false]
      · rw [show (c.w == 2) = false by simpa using hw, Bool.false_and]; walk_at "fin"
    · rintro l' _ ⟨rfl, g1, g2, g3, g4⟩
      rw [exPs_cons]
      walk_at "ms"
      simp only [g1, g2, g3, Option.some.injEq, exists_eq_left']
      walk_at "ms"
      rw [g4, Bool.not_false, Bool.true_and] at h2
      refine ⟨fun hw => ?_, fun hw => ?_⟩
      · rw [hw] at h2
        simp only [beq_self_eq_true, Bool.true_and] at h2
        refine ⟨fun hz => ?_, fun hz => ?_⟩
        · have : i = 0 := by omega
          rw [if_pos this, Bool.not_true, Bool.false_and] at h2
          rw [h2] at q; walk_at "mc"; exact q
        · have hi0 : ¬ i = 0 := by omega
          have hlt : i - 1 < cs.length := by omega
          rw [if_neg hi0, List.getElem?_eq_getElem hlt] at h2
          refine sub_at ha (by omega) (by omega) (avs_get (c := cs[i - 1]) (by rw [show ((i : Int) - 1).toNat = i - 1 by omega, List.getElem?_eq_getElem hlt])) ?_
          walk_at "ms"
          refine ⟨fun hne => ?_, fun he => ?_⟩
          · simp only [pvO, bne, show (cs[i - 1].w == 2) = false by simpa using hne, Bool.not_false, Bool.not_true, Bool.false_and] at h2
            rw [h2] at q; walk_at "mc"; exact q
          · simp only [pvO, bne, show (cs[i - 1].w == 2) = true by simpa using he, Bool.not_false, Bool.not_true, Bool.true_and] at h2
            exact h2
      · rw [show (c.w == 0) = false by simpa using hw] at h2
        simp only [Bool.false_and, Bool.not_false, Bool.true_and] at h2
        exact h2
  · rintro l _ ⟨rfl, h1, h2⟩
    rw [avs_len, List.drop_length] at h2
    simp only [wholeG] at h2
    rw [h2] at q
    walk_at "ms"
    rw [exPs_cons]
    walk_at "ms"
    exact q
end
end Mine

end

section
set_option linter.unusedVariables false
set_option linter.unusedSimpArgs false
set_option maxHeartbeats 1000000
namespace Mine
open PySem
local macro_rules | `(tactic| walk_at "ms") => `(tactic| simp only [ev_lit, ev_var, ev_tup, ev_list, ev_dict, ev_bin, ev_fdiv, ev_neg, ev_not, ev_and, ev_or, ev_if, ev_cmp, ev_cmp2, ev_call, ev_meth, ev_app, ev_ext, ev_pop, ev_attr, ev_sub, ev_slice, ev_rev, ev_len, ev_max, ev_min, ev_listOf, ev_intOf, ev_all, ev_comp,
  evs_nil, evs_cons, ts_val, ts_not, ts_and, ts_or, ts_if, it_list, it_enum, it_zip, it_r1, it_r2, ex_expr, ex_ret, ex_retN, ex_asg, ex_asgT, ex_setattr, ex_setsub, ex_setslice, ex_aug, ex_ite, ex_for, ex_while, ex_cont, exPs_nil,
  seqQ, turnQ, retQ, truth_bool, bin_add, bin_sub, bin_mul, bin_md, neg_int, max_int, min_int, int_int, aug_add, aug_sub, cmp_lt, cmp_le, cmp_gt, cmp_ge, cmp_eq, cmp_ne, cmp_eqb, cmp_neb, cmp_eqs, cmp_nes, cmp_eqc, cmp_nec, cmp_eq0, cmp_ne0,
  sub_cell0, sub_cell1, sub_cell2, sub_cell3, sub_pen2, put, argsOf, List.cons_append, List.nil_append, List.append_nil, List.drop_nil, List.length_cons, List.length_nil, List.getElem?_cons_zero, List.getElem?_cons_succ, Option.some.injEq, exists_eq_left', List.length_map, Nat.reduceAdd, Nat.reduceSub, Nat.reduceEqDiff, Nat.reduceLeDiff, if_true, if_false, ite_true, ite_false, reduceIte, true_and, and_true, Nat.zero_le,
  reduceCtorEq, eq_self, false_implies, true_implies, implies_true, decide_eq_true_eq, decide_eq_false_iff_not, beq_iff_eq, Bool.not_eq_true', Bool.not_eq_false', Bool.and_eq_true, Bool.or_eq_true, beq_eq_false_iff_ne, ne_eq])
local macro_rules | `(tactic| walk_at "mc") => `(tactic| (rw [exPs_cons]; walk_at "ms"))
local macro_rules | `(tactic| walk_at "fin") => `(tactic| repeat' (first | assumption | exact trivial | exact rfl | apply And.intro))
section
variable {st : Sto} {n : Nat} {Q : AV → Sto → Prop}
theorem c_law_is_whole (hn : 1 ≤ n) {a : Addr} {cs : List Cell} (ha : st a = some (.list (avs cs))) (hl : cs.length ≤ 900) (q : Q (.bool (wholeG nbL none cs)) st) : Calls tab prg n 502 [.loc a] st Q := by
  refine call_fn rfl (by omega) (by simp) ?_
  unfold m_law_is_whole
  rw [exPs_cons]
  walk_at "ms"
  refine itE_at ha ?_
  refine for_enum (calls_mono _) (fun i l st' => st = st' ∧ l 0 = some (.loc a) ∧ wholeG nbL none cs = wholeG nbL (if i = 0 then none else cs[i - 1]?) (cs.drop i)) ⟨rfl, rfl, rfl⟩ (fun i l st' h => by rw [← h.1]; exact ha) ?_ ?_
  · rintro i l _ v ⟨rfl, h1, h2⟩ hv
    obtain ⟨c, hc, rfl⟩ := avs_at hv
    have hi := (List.getElem?_eq_some_iff.mp hc).1
    rw [wholeG_step hc] at h2
    refine seq_step (fun l' st' => st = st' ∧ l' 0 = some (.loc a) ∧ l' 1 = some (.int i) ∧ l' 2 = some c.av ∧ (c.w == 2 && nbO nbL c cs[i + 1]?) = false) ?_ ?_
    · walk_at "ms"
      simp only [h1, Option.some.injEq, exists_eq_left']
      refine ⟨fun hw => ?_, fun hw => ?_⟩
      · refine len_at ha (by rw [avs_len]; omega) ?_
        rw [avs_len]
        walk_at "ms"
        refine ⟨fun hj => ?_, fun hj => ?_⟩
        · have : cs[i + 1]? = none := List.getElem?_eq_none (by omega)
          rw [this, hw] at h2
          simp only [nbO] at h2
          simp only [beq_self_eq_true, Bool.true_and, Bool.not_true, Bool.false_and] at h2
          rw [h2] at q; walk_at "mc"; exact q
        · have hlt : i + 1 < cs.length := by omega
          refine sub_at ha (by omega) (by omega) (avs_get (c := cs[i + 1]) (by rw [show ((i : Int) + 1).toNat = i + 1 by omega, List.getElem?_eq_getElem hlt])) ?_
          walk_at "ms"
          simp only [List.getElem?_eq_getElem hlt, nbO] at h2
          refine ⟨fun hne => ?_, fun he => ?_⟩
          · have : nbL c cs[i + 1] = true := by unfold nbL; simpa using hne
            simp only [this, hw, beq_self_eq_true, Bool.true_and, Bool.not_true, Bool.false_and] at h2
            rw [h2] at q; walk_at "mc"; exact q
          · have : nbL c cs[i + 1] = false := by unfold nbL; simpa using he
            simp only [List.getElem?_eq_getElem hlt, nbO, this, Bool.and_false]
      · rw [show (c.w == 2) = false by simpa using hw, Bool.false_and]; walk_at "fin"
    · rintro l' _ ⟨rfl, g1, g2, g3, g4⟩
      rw [exPs_cons]
      walk_at "ms"
      simp only [g1, g2, g3, Option.some.injEq, exists_eq_left']
      walk_at "ms"
      rw [g4, Bool.not_false, Bool.true_and] at h2
      refine ⟨fun hw => ?_, fun hw => ?_⟩
      · rw [hw] at h2
        simp only [beq_self_eq_true, Bool.true_and] at h2
        refine ⟨fun hz => ?_, fun hz => ?_⟩
        · have : i = 0 := by omega
          rw [if_pos this, Bool.not_true, Bool.false_and] at h2
          rw [h2] at q; walk_at "mc"; exact q
        · have hi0 : ¬ i = 0 := by omega
          have hlt : i - 1 < cs.length := by omega
          rw [if_neg hi0, List.getElem?_eq_getElem hlt] at h2
          refine sub_at ha (by omega) (by omega) (avs_get (c := cs[i - 1]) (by rw [show ((i : Int) - 1).toNat = i - 1 by omega, List.getElem?_eq_getElem hlt])) ?_
          walk_at "ms"
          refine ⟨fun hne => ?_, fun he => ?_⟩
          · simp only [pvO, bne, show (cs[i - 1].w == 2) = false by simpa using hne, Bool.not_false, Bool.not_true, Bool.false_and] at h2
            rw [h2] at q; walk_at "mc"; exact q
          · simp only [pvO, bne, show (cs[i - 1].w == 2) = true by simpa using he, Bool.not_false, Bool.not_true, Bool.true_and] at h2
            exact h2
      · rw [show (c.w == 0) = false by simpa using hw] at h2
        simp only [Bool.false_and, Bool.not_false, Bool.true_and] at h2
        exact h2
  · rintro l _ ⟨rfl, h1, h2⟩
    rw [avs_len, List.drop_length] at h2
    simp only [wholeG] at h2
    rw [h2] at q
    walk_at "ms"
    rw [exPs_cons]
    walk_at "ms"
    exact q
end
end Mine

end

section
set_option linter.unusedVariables false
set_option linter.unusedSimpArgs false
set_option maxHeartbeats 1000000
namespace Mine
open PySem
local macro_rules | `(tactic| walk_at "ms") => `(tactic| simp only [ev_lit, ev_var, ev_tup, ev_list, ev_dict, ev_bin, ev_fdiv, ev_neg, ev_not, ev_and, ev_or, ev_if, ev_cmp, ev_cmp2, ev_call, ev_meth, ev_app, ev_ext, ev_pop, ev_attr, ev_sub, ev_slice, ev_rev, ev_len, ev_max, ev_min, ev_listOf, ev_intOf, ev_all, ev_comp,
  evs_nil, evs_cons, ts_val, ts_not, ts_and, ts_or, ts_if, it_list, it_enum, it_zip, it_r1, it_r2, ex_expr, ex_ret, ex_retN, ex_asg, ex_asgT, ex_setattr, ex_setsub, ex_setslice, ex_aug, ex_ite, ex_for, ex_while, ex_cont, exPs_nil,
  seqQ, turnQ, retQ, truth_bool, bin_add, bin_sub, bin_mul, bin_md, neg_int, max_int, min_int, int_int, aug_add, aug_sub, cmp_lt, cmp_le, cmp_gt, cmp_ge, cmp_eq, cmp_ne, cmp_eqb, cmp_neb, cmp_eqs, cmp_nes, cmp_eqc, cmp_nec, cmp_eq0, cmp_ne0,
  sub_cell0, sub_cell1, sub_cell2, sub_cell3, sub_pen2, put, argsOf, List.cons_append, List.nil_append, List.append_nil, List.drop_nil, List.length_cons, List.length_nil, List.getElem?_cons_zero, List.getElem?_cons_succ, Option.some.injEq, exists_eq_left', List.length_map, Nat.reduceAdd, Nat.reduceSub, Nat.reduceEqDiff, Nat.reduceLeDiff, if_true, if_false, ite_true, ite_false, reduceIte, true_and, and_true, Nat.zero_le,
  reduceCtorEq, eq_self, false_implies, true_implies, implies_true, decide_eq_true_eq, decide_eq_false_iff_not, beq_iff_eq, Bool.not_eq_true', Bool.not_eq_false', Bool.and_eq_true, Bool.or_eq_true, beq_eq_false_iff_ne, ne_eq])
local macro_rules | `(tactic| walk_at "mc") => `(tactic| (rw [exPs_cons]; walk_at "ms"))
local macro_rules | `(tactic| walk_at "fin") => `(tactic| repeat' (first | assumption | exact trivial | exact rfl | apply And.intro))
def stripG (p : Cell → Bool) (cs : List Cell) : List Cell := (cs.reverse.dropWhile p).reverse
theorem strip_snoc {p : Cell → Bool} {xs : List Cell} {c : Cell} : stripG p (xs ++ [c]) = if p c then stripG p xs else xs ++ [c] := by
  unfold stripG
  rw [List.reverse_append, List.reverse_singleton, List.singleton_append, List.dropWhile_cons]
  split
  · rfl
  · rw [List.reverse_cons, List.reverse_reverse]
theorem take_snoc {cs : List Cell} {k : Nat} {c : Cell} (h : cs[k]? = some c) : cs.take (k + 1) = cs.take k ++ [c] := by
  rw [List.take_add_one, h]; rfl
def codesC (c : Cell) : List Int := if c.w = 0 then [] else if c.codes.length = 0 then [32] else c.codes
def codesOf (cs : List Cell) : List Int := cs.flatMap codesC
theorem codesOf_snoc {xs : List Cell} {c : Cell} : codesOf (xs ++ [c]) = codesOf xs ++ codesC c := by simp [codesOf]
theorem codesC_len {c : Cell} (h : c.codes.length ≤ 5) : (codesC c).length ≤ 5 := by
  unfold codesC
  split
  · simp
  · split
    · simp
    · exact h
theorem codesOf_len : ∀ {xs : List Cell}, (∀ c ∈ xs, c.codes.length ≤ 5) → (codesOf xs).length ≤ 5 * xs.length
  | [], _ => by simp [codesOf]
  | c :: r, h => by
    have := codesOf_len (xs := r) fun d hd => h d (List.mem_cons_of_mem _ hd)
    have := codesC_len (h c (List.mem_cons_self ..))
    simp only [codesOf, List.flatMap_cons, List.length_append, List.length_cons] at *
    omega
theorem cut_zero {ds : List AV} {k : Nat} : cut ds 0 k = ds.take k := by simp [cut]
theorem avs_take {cs : List Cell} {k : Nat} : (avs cs).take k = avs (cs.take k) := by simp [avs]

section
variable {st : Sto} {n : Nat} {Q : AV → Sto → Prop}
theorem c_line_slice (hn : 3 ≤ n) {a : Addr} {cs : List Cell} {r : Int} (ha : st a = some (.list (avs cs))) (hl : cs.length ≤ 900) (h0 : -1 ≤ r) (q : NewL st (avs (fixB (cs.take (r + 1).toNat))) Q) : Calls tab prg n 112 [.loc a, .int 0, .int r] st Q := by
  refine call_fn rfl (by omega) (by simp) ?_
  unfold m_line_slice
  generalize hX : cs.take (r + 1).toNat = X at q
  have hXl : X.length ≤ 900 := by rw [← hX, List.length_take]; omega
  refine seq_step (fun l' st' => ∃ f, l' 3 = some (.loc f) ∧ Ext st st' ∧ st f = none ∧ st' f = some (.list (avs X))) ?_ ?_
  · walk_at "ms"
    refine slice_at (i := 0) (j := Min.min (r + 1).toNat cs.length) ha ?_ (by rw [avs_len]; omega) fun m hm => ?_
    · rw [avs_len]
      simp only [cutBounds, Mine.clip, Option.some.injEq, Prod.mk.injEq]
      constructor <;> (repeat' split) <;> omega
    · refine list_at upd_same (by rw [cut_zero, avs_take, avs_len, List.length_take]; omega) fun f hf => ?_
      refine ⟨f, rfl, (Ext.new hm).trans (Ext.new hf), (Ext.new hm).out hf, ?_⟩
      rw [upd_same, cut_zero, avs_take, ← hX]
      congr 3
      rw [← List.take_take, List.take_length]
  · rintro l st₁ ⟨f, g1, x₁, hf, e₁⟩
    refine seq_step (fun l' st' => l' 3 = some (.loc f) ∧ Ext st st' ∧ st' f = some (.list (avs (fixF X)))) ?_ ?_
    · walk_at "ms"
      simp only [g1, Option.some.injEq, exists_eq_left']
      intro m hm
      have e₂ : upd st₁ m (.list []) f = some (.list (avs X)) := upd_at e₁ hm
      have x₂ : Ext st (upd st₁ m (.list [])) := x₁.upd (x₁.out hm)
      rw [cmp_nev (eqv_lnil e₂ upd_same), avs_len]
      walk_at "ms"
      cases X with
      | nil => exact ⟨fun h => absurd rfl h, fun _ => by walk_at "fin"⟩
      | cons c R =>
        refine ⟨fun _ => ?_, fun h => by simp at h⟩
        refine sub_at e₂ (by omega) (by omega) (v := c.av) rfl ?_
        walk_at "ms"
        refine ⟨fun hw => ?_, fun hw => ?_⟩
        · walk_at "mc"
          simp only [g1, Option.some.injEq, exists_eq_left']
          refine sub_at e₂ (by omega) (by omega) (v := c.av) rfl ?_
          walk_at "ms"
          refine c_blank (by omega) ?_
          refine setsub_at e₂ (by omega) (by omega) (by simp [avs]) ?_
          have x₃ := x₂.upd (o := .list ((avs (c :: R)).set (0 : Int).toNat (blank c.pen).av)) hf
          have e₃ : upd (upd st₁ m (.list [])) f (.list ((avs (c :: R)).set (0 : Int).toNat (blank c.pen).av)) f = some (.list (avs (fixF (c :: R)))) := by rw [upd_same]; simp [avs, fixF, hw]
          walk_at "fin"
        · have e₃ : upd st₁ m (.list []) f = some (.list (avs (fixF (c :: R)))) := by rw [e₂]; simp [avs, fixF, hw]
          walk_at "fin"
    · rintro l st₁ ⟨g1, x₁, e₁⟩
      have hYl : (fixF X).length ≤ 900 := by rw [fixF_len]; exact hXl
      refine seq_step (fun l' st' => l' 3 = some (.loc f) ∧ Ext st st' ∧ st' f = some (.list (avs (fixL (fixF X))))) ?_ ?_
      · generalize fixF X = Y at *
        walk_at "ms"
        simp only [g1, Option.some.injEq, exists_eq_left']
        intro m hm
        have e₂ : upd st₁ m (.list []) f = some (.list (avs Y)) := upd_at e₁ hm
        have x₂ : Ext st (upd st₁ m (.list [])) := x₁.upd (x₁.out hm)
        rw [cmp_nev (eqv_lnil e₂ upd_same), avs_len]
        walk_at "ms"
        rcases List.eq_nil_or_concat Y with rfl | ⟨R, c, rfl⟩
        · exact ⟨fun h => absurd rfl h, fun _ => by walk_at "fin"⟩
        · rw [List.concat_eq_append] at *
          simp only [List.length_append, List.length_cons, List.length_nil] at hYl
          refine ⟨fun _ => ?_, fun h => by simp at h⟩
          have e₃ : upd st₁ m (.list []) f = some (.list (avs R ++ [c.av])) := by rw [e₂]; simp [avs]
          refine sub_last e₃ (by rw [avs_len]; omega) ?_
          walk_at "ms"
          refine ⟨fun hw => ?_, fun hw => ?_⟩
          · walk_at "mc"
            simp only [g1, Option.some.injEq, exists_eq_left']
            refine sub_last e₃ (by rw [avs_len]; omega) ?_
            walk_at "ms"
            refine c_blank (by omega) ?_
            refine setsub_last e₃ (by rw [avs_len]; omega) ?_
            have x₃ := x₂.upd (o := .list (avs R ++ [(blank c.pen).av])) hf
            have e₄ : upd (upd st₁ m (.list [])) f (.list (avs R ++ [(blank c.pen).av])) f = some (.list (avs (fixL (R ++ [c])))) := by rw [upd_same, fixL_snoc]; simp [avs, hw]
            walk_at "fin"
          · have e₄ : upd st₁ m (.list []) f = some (.list (avs (fixL (R ++ [c])))) := by rw [e₂, fixL_snoc]; simp [avs, hw]
            walk_at "fin"
      · rintro l st₁ ⟨g1, x₁, e₁⟩
        walk_at "mc"
        simp only [g1, Option.some.injEq, exists_eq_left']
        exact q f st₁ x₁ hf e₁
end
end Mine

end

section
set_option linter.unusedVariables false
set_option linter.unusedSimpArgs false
set_option maxHeartbeats 1000000
namespace Mine
open PySem
local macro_rules | `(tactic| walk_at "ms") => `(tactic| simp only [ev_lit, ev_var, ev_tup, ev_list, ev_dict, ev_bin, ev_fdiv, ev_neg, ev_not, ev_and, ev_or, ev_if, ev_cmp, ev_cmp2, ev_call, ev_meth, ev_app, ev_ext, ev_pop, ev_attr, ev_sub, ev_slice, ev_rev, ev_len, ev_max, ev_min, ev_listOf, ev_intOf, ev_all, ev_comp,
  evs_nil, evs_cons, ts_val, ts_not, ts_and, ts_or, ts_if, it_list, it_enum, it_zip, it_r1, it_r2, ex_expr, ex_ret, ex_retN, ex_asg, ex_asgT, ex_setattr, ex_setsub, ex_setslice, ex_aug, ex_ite, ex_for, ex_while, ex_cont, exPs_nil,
  seqQ, turnQ, retQ, truth_bool, bin_add, bin_sub, bin_mul, bin_md, neg_int, max_int, min_int, int_int, aug_add, aug_sub, cmp_lt, cmp_le, cmp_gt, cmp_ge, cmp_eq, cmp_ne, cmp_eqb, cmp_neb, cmp_eqs, cmp_nes, cmp_eqc, cmp_nec, cmp_eq0, cmp_ne0,
  sub_cell0, sub_cell1, sub_cell2, sub_cell3, sub_pen2, put, argsOf, List.cons_append, List.nil_append, List.append_nil, List.drop_nil, List.length_cons, List.length_nil, List.getElem?_cons_zero, List.getElem?_cons_succ, Option.some.injEq, exists_eq_left', List.length_map, Nat.reduceAdd, Nat.reduceSub, Nat.reduceEqDiff, Nat.reduceLeDiff, if_true, if_false, ite_true, ite_false, reduceIte, true_and, and_true, Nat.zero_le,
  reduceCtorEq, eq_self, false_implies, true_implies, implies_true, decide_eq_true_eq, decide_eq_false_iff_not, beq_iff_eq, Bool.not_eq_true', Bool.not_eq_false', Bool.and_eq_true, Bool.or_eq_true, beq_eq_false_iff_ne, ne_eq])
local macro_rules | `(tactic| walk_at "mc") => `(tactic| (rw [exPs_cons]; walk_at "ms"))
local macro_rules | `(tactic| walk_at "fin") => `(tactic| repeat' (first | assumption | exact trivial | exact rfl | apply And.intro))
theorem strip_take {p : Cell → Bool} {cs : List Cell} {k : Nat} {c : Cell} (h : cs[k]? = some c) (hp : p c = true) : stripG p (cs.take (k + 1)) = stripG p (cs.take k) := by
  rw [take_snoc h, strip_snoc, if_pos hp]
theorem strip_stop {p : Cell → Bool} {cs : List Cell} {k : Nat} {c : Cell} (h : cs[k]? = some c) (hp : p c = false) : stripG p (cs.take (k + 1)) = cs.take (k + 1) := by
  rw [take_snoc h, strip_snoc, hp]; rfl
theorem strip_nil {p : Cell → Bool} : stripG p [] = [] := rfl
theorem strip_le {p : Cell → Bool} : ∀ (cs : List Cell), ∃ k, k ≤ cs.length ∧ stripG p cs = cs.take k := by
  intro cs
  have : ∀ k, k ≤ cs.length → ∃ j, j ≤ k ∧ stripG p (cs.take k) = cs.take j := by
    intro k
    induction k with
    | zero => intro _; exact ⟨0, Nat.le_refl _, by simp [strip_nil]⟩
    | succ k ih =>
      intro hk
      have hc : cs[k]? = some cs[k] := List.getElem?_eq_getElem (by omega)
      cases q : p cs[k] with
      | true => obtain ⟨j, h1, h2⟩ := ih (by omega); exact ⟨j, by omega, by rw [strip_take hc q, h2]⟩
      | false => exact ⟨k + 1, Nat.le_refl _, strip_stop hc q⟩
  obtain ⟨j, h1, h2⟩ := this cs.length (Nat.le_refl _)
  exact ⟨j, h1, by rw [List.take_length] at h2; exact h2⟩
theorem strip_sub {p : Cell → Bool} {cs : List Cell} {c : Cell} (h : c ∈ stripG p cs) : c ∈ cs := by
  obtain ⟨k, _, e⟩ := strip_le (p := p) cs
  rw [e] at h
  exact List.mem_of_mem_take h
theorem codesOf_map_len {xs : List Cell} : ((codesOf xs).map AV.int).length = (codesOf xs).length := by simp

section
variable {st : Sto} {n : Nat} {Q : AV → Sto → Prop}
theorem c_line_codes (hn : 2 ≤ n) {a : Addr} {cs : List Cell} (ha : st a = some (.list (avs cs))) (hl : cs.length ≤ 100) (hc5 : ∀ c ∈ cs, c.codes.length ≤ 5) (q : NewL st ((codesOf (stripG isBlank cs)).map .int) Q) : Calls tab prg n 126 [.loc a] st Q := by
  refine call_fn rfl (by omega) (by simp) ?_
  unfold m_line_codes
  refine seq_step (fun l' st' => st = st' ∧ l' 0 = some (.loc a) ∧ l' 1 = some (.int cs.length)) ?_ ?_
  · walk_at "ms"
    refine len_at ha (by rw [avs_len]; omega) ?_
    rw [avs_len]
    walk_at "fin"
  rintro l _ ⟨rfl, g0, g1⟩
  refine seq_step (fun l' st' => st = st' ∧ l' 0 = some (.loc a) ∧ ∃ k : Nat, l' 1 = some (.int k) ∧ k ≤ cs.length ∧ stripG isBlank cs = cs.take k) ?_ ?_
  · walk_at "ms"
    refine ⟨fun m l' st' => st = st' ∧ l' 0 = some (.loc a) ∧ l' 1 = some (.int m) ∧ m ≤ cs.length ∧ stripG isBlank cs = stripG isBlank (cs.take m), cs.length, ⟨rfl, g0, g1, Nat.le_refl _, by rw [List.take_length]⟩, ?_⟩
    rintro m l' _ ⟨rfl, g0, g1, hm, hs⟩
    walk_at "ms"
    simp only [g0, g1, Option.some.injEq, exists_eq_left']
    walk_at "ms"
    refine ⟨fun hp => ?_, fun hp => ?_⟩
    · obtain ⟨k, rfl⟩ : ∃ k, m = k + 1 := ⟨m - 1, by omega⟩
      have hc : cs[k]? = some cs[k] := List.getElem?_eq_getElem (by omega)
      refine sub_at ha (by omega) (by omega) (avs_get (c := cs[k]) (by rw [show (((k + 1 : Nat) : Int) - 1).toNat = k by omega]; exact hc)) ?_
      refine c_is_blank (by omega) ?_
      walk_at "ms"
      refine ⟨fun hb => ?_, fun hb => ?_⟩
      · walk_at "mc"
        simp only [g1, Option.some.injEq, exists_eq_left']
        walk_at "ms"
        rw [strip_take hc hb] at hs
        have e : (((k + 1 : Nat) : Int) - 1) = (k : Int) := by omega
        rw [e]
        refine ⟨k, by omega, ?_⟩
        have : k ≤ cs.length := by omega
        walk_at "fin"
      · rw [strip_stop hc hb] at hs
        refine ⟨k + 1, ?_⟩; walk_at "fin"
    · have : m = 0 := by omega
      subst this
      have h0 : stripG isBlank cs = cs.take 0 := by rw [hs]; simp [strip_nil]
      refine ⟨0, ?_⟩; walk_at "fin"
  rintro l _ ⟨rfl, g0, k, g1, hk, hs⟩
  rw [hs] at q
  refine seq_step (fun l' st' => l' 0 = some (.loc a) ∧ l' 1 = some (.int k) ∧ ∃ f, l' 2 = some (.loc f) ∧ Ext st st' ∧ st f = none ∧ st' f = some (.list [])) ?_ ?_
  · walk_at "ms"
    intro f hf
    have x := Ext.new (o := .list []) hf
    have e : upd st f (.list []) f = some (.list []) := upd_same
    exact ⟨g0, g1, f, rfl, x, hf, e⟩
  rintro l st₁ ⟨g0, g1, f, g2, x₁, hf, e₁⟩
  refine seq_step (fun l' st' => l' 2 = some (.loc f) ∧ Ext st st' ∧ st' f = some (.list ((codesOf (cs.take k)).map .int))) ?_ ?_
  · walk_at "ms"
    simp only [g0, g1, Option.some.injEq, exists_eq_left']
    refine slice_at (i := 0) (j := k) (x₁.at ha) ?_ (by rw [avs_len]; omega) fun s hs' => ?_
    · rw [avs_len]
      simp only [cutBounds, Mine.clip, Option.some.injEq, Prod.mk.injEq, true_and]
      (repeat' split) <;> omega
    · rw [cut_zero, avs_take]
      refine itL_at upd_same ?_
      have sf : f ≠ s := ne_of e₁ hs'
      have bnd : ∀ i, (codesOf ((cs.take k).take i)).length ≤ 500 := fun i => by
        have := codesOf_len (xs := (cs.take k).take i) fun c hc => hc5 c (List.mem_of_mem_take (List.mem_of_mem_take hc))
        have h2 : ((cs.take k).take i).length ≤ cs.length := by simp [List.length_take]; omega
        omega
      refine for_list (calls_mono _) (fun i l' st' => l' 2 = some (.loc f) ∧ Ext st st' ∧ st' s = some (.list (avs (cs.take k))) ∧ st' f = some (.list ((codesOf ((cs.take k).take i)).map .int))) ?_ (fun i l' st' h => h.2.2.1) ?_ ?_
      · refine ⟨g2, x₁.upd (x₁.out hs'), upd_same, ?_⟩
        rw [upd_ne sf, e₁]; rfl
      · rintro i l' st' v ⟨h2, hx, hs2, hf2⟩ hv
        obtain ⟨c, hc, rfl⟩ := avs_at hv
        walk_at "mc"
        have hbi := bnd i
        have hnext : ∀ es, es = (codesC c).map AV.int → upd st' f (.list ((codesOf ((cs.take k).take i)).map .int ++ es)) f = some (.list ((codesOf ((cs.take k).take (i + 1))).map .int)) := fun es he => by
          rw [upd_same, take_snoc hc, codesOf_snoc, he, List.map_append]
        have xs : ∀ o, upd st' f o s = some (.list (avs (cs.take k))) := fun o => by rw [upd_ne sf.symm]; exact hs2
        have xx : ∀ o, Ext st (upd st' f o) := fun o => hx.upd hf
        refine ⟨fun hw => ?_, fun hw => ?_⟩
        · walk_at "mc"
          simp only [h2, Option.some.injEq, exists_eq_left']
          refine ext_at hf2 ?_
          walk_at "ms"
          have hm : c ∈ cs := List.mem_of_mem_take (List.mem_of_getElem? hc)
          have h5 := hc5 c hm
          refine ⟨fun hz => ?_, fun hz => ?_⟩
          · refine ⟨_, _, hf2, .inr rfl, by simp; omega, by simp; omega, ?_⟩
            have := hnext (c.codes.map .int) (by unfold codesC; rw [if_neg hw, if_neg hz])
            exact ⟨xx _, xs _, this⟩
          · refine ⟨_, _, hf2, .inr rfl, by simp; omega, by simp, ?_⟩
            have := hnext [.int 32] (by unfold codesC; rw [if_neg hw, if_pos hz]; rfl)
            exact ⟨xx _, xs _, this⟩
        · have := hnext [] (by unfold codesC; rw [if_pos hw]; rfl)
          rw [List.append_nil, upd_same] at this
          refine ⟨h2, hx, hs2, hf2.trans this⟩
      · rintro l' st' ⟨h2, hx, hs2, hf2⟩
        rw [List.take_of_length_le (by simp [avs])] at hf2
        walk_at "ms"
        exact ⟨h2, hx, hf2⟩
  rintro l st₂ ⟨g2, x₂, e₂⟩
  walk_at "mc"
  simp only [g2, Option.some.injEq, exists_eq_left']
  exact q f st₂ x₂ hf e₂
end
end Mine

end

section
set_option linter.unusedVariables false
set_option linter.unusedSimpArgs false
set_option maxHeartbeats 1000000
namespace Mine
open PySem
local macro_rules | `(tactic| walk_at "ms") => `(tactic| simp only [ev_lit, ev_var, ev_tup, ev_list, ev_dict, ev_bin, ev_fdiv, ev_neg, ev_not, ev_and, ev_or, ev_if, ev_cmp, ev_cmp2, ev_call, ev_meth, ev_app, ev_ext, ev_pop, ev_attr, ev_sub, ev_slice, ev_rev, ev_len, ev_max, ev_min, ev_listOf, ev_intOf, ev_all, ev_comp,
  evs_nil, evs_cons, ts_val, ts_not, ts_and, ts_or, ts_if, it_list, it_enum, it_zip, it_r1, it_r2, ex_expr, ex_ret, ex_retN, ex_asg, ex_asgT, ex_setattr, ex_setsub, ex_setslice, ex_aug, ex_ite, ex_for, ex_while, ex_cont, exPs_nil,
  seqQ, turnQ, retQ, truth_bool, bin_add, bin_sub, bin_mul, bin_md, neg_int, max_int, min_int, int_int, aug_add, aug_sub, cmp_lt, cmp_le, cmp_gt, cmp_ge, cmp_eq, cmp_ne, cmp_eqb, cmp_neb, cmp_eqs, cmp_nes, cmp_eqc, cmp_nec, cmp_eq0, cmp_ne0,
  sub_cell0, sub_cell1, sub_cell2, sub_cell3, sub_pen2, put, argsOf, List.cons_append, List.nil_append, List.append_nil, List.drop_nil, List.length_cons, List.length_nil, List.getElem?_cons_zero, List.getElem?_cons_succ, Option.some.injEq, exists_eq_left', List.length_map, Nat.reduceAdd, Nat.reduceSub, Nat.reduceEqDiff, Nat.reduceLeDiff, if_true, if_false, ite_true, ite_false, reduceIte, true_and, and_true, Nat.zero_le,
  reduceCtorEq, eq_self, false_implies, true_implies, implies_true, decide_eq_true_eq, decide_eq_false_iff_not, beq_iff_eq, Bool.not_eq_true', Bool.not_eq_false', Bool.and_eq_true, Bool.or_eq_true, beq_eq_false_iff_ne, ne_eq])
local macro_rules | `(tactic| walk_at "mc") => `(tactic| (rw [exPs_cons]; walk_at "ms"))
local macro_rules | `(tactic| walk_at "fin") => `(tactic| repeat' (first | assumption | exact trivial | exact rfl | apply And.intro))
def isPB (c : Cell) : Bool := c.eqb (blank plain)
/-- a slice from the start, copied -/
theorem slice_copy {C : CallT} {st : Sto} {a : Addr} {cs : List Cell} {k : Nat} {Q : AV → Sto → Prop} (ha : st a = some (.list (avs cs))) (hk : k ≤ cs.length) (hl : cs.length ≤ 900) (q : NewL st (avs (cs.take k)) Q) : sliceP (.loc a) .none (.int k) st fun x st => listP x st Q := by
  refine slice_at (i := 0) (j := k) ha ?_ (by rw [avs_len]; omega) fun s hs => ?_
  · rw [avs_len]
    simp only [cutBounds, Mine.clip, Option.some.injEq, Prod.mk.injEq, true_and]
    (repeat' split) <;> omega
  · rw [cut_zero, avs_take]
    refine list_at upd_same (by rw [avs_len]; simp [List.length_take]; omega) fun f hf => ?_
    exact q f _ ((Ext.new hs).trans (Ext.new hf)) ((Ext.new hs).out hf) upd_same
theorem slice_new {st : Sto} {a : Addr} {cs : List Cell} {k : Nat} {Q : AV → Sto → Prop} (ha : st a = some (.list (avs cs))) (hk : k ≤ cs.length) (hl : cs.length ≤ 900) (q : NewL st (avs (cs.take k)) Q) : sliceP (.loc a) .none (.int k) st Q := by
  refine slice_at (i := 0) (j := k) ha ?_ (by rw [avs_len]; omega) fun s hs => ?_
  · rw [avs_len]
    simp only [cutBounds, Mine.clip, Option.some.injEq, Prod.mk.injEq, true_and]
    (repeat' split) <;> omega
  · rw [cut_zero, avs_take]
    exact q s _ (Ext.new hs) hs upd_same
section
variable {st : Sto} {n : Nat} {Q : AV → Sto → Prop}
theorem c_trimmed (hn : 3 ≤ n) {a : Addr} {cs : List Cell} (ha : st a = some (.list (avs cs))) (hl : cs.length ≤ 900) (q : NewL st (avs (stripG isPB cs)) Q) : Calls tab prg n 514 [.loc a] st Q := by
  refine call_fn rfl (by omega) (by simp) ?_
  unfold m_law_trimmed
  refine seq_step (fun l' st' => st = st' ∧ l' 0 = some (.loc a) ∧ l' 1 = some (.int cs.length)) ?_ ?_
  · walk_at "ms"
    refine len_at ha (by rw [avs_len]; omega) ?_
    rw [avs_len]
    walk_at "fin"
  rintro l _ ⟨rfl, g0, g1⟩
  refine seq_step (fun l' st' => st = st' ∧ l' 0 = some (.loc a) ∧ ∃ k : Nat, l' 1 = some (.int k) ∧ k ≤ cs.length ∧ stripG isPB cs = cs.take k) ?_ ?_
  · walk_at "ms"
    refine ⟨fun m l' st' => st = st' ∧ l' 0 = some (.loc a) ∧ l' 1 = some (.int m) ∧ m ≤ cs.length ∧ stripG isPB cs = stripG isPB (cs.take m), cs.length, ⟨rfl, g0, g1, Nat.le_refl _, by rw [List.take_length]⟩, ?_⟩
    rintro m l' _ ⟨rfl, g0, g1, hm, hs⟩
    walk_at "ms"
    simp only [g0, g1, Option.some.injEq, exists_eq_left']
    walk_at "ms"
    refine ⟨fun hp => ?_, fun hp => ?_⟩
    · obtain ⟨k, rfl⟩ : ∃ k, m = k + 1 := ⟨m - 1, by omega⟩
      have hc : cs[k]? = some cs[k] := List.getElem?_eq_getElem (by omega)
      refine sub_at ha (by omega) (by omega) (avs_get (c := cs[k]) (by rw [show (((k + 1 : Nat) : Int) - 1).toNat = k by omega]; exact hc)) ?_
      refine c_blank (p := plain) (by omega) ?_
      walk_at "ms"
      refine ⟨fun hb => ?_, fun hb => ?_⟩
      · walk_at "mc"
        simp only [g1, Option.some.injEq, exists_eq_left']
        walk_at "ms"
        rw [strip_take (p := isPB) hc hb] at hs
        have e : (((k + 1 : Nat) : Int) - 1) = (k : Int) := by omega
        rw [e]
        refine ⟨k, by omega, ?_⟩
        have : k ≤ cs.length := by omega
        walk_at "fin"
      · rw [strip_stop (p := isPB) hc hb] at hs
        refine ⟨k + 1, ?_⟩; walk_at "fin"
    · have : m = 0 := by omega
      subst this
      have h0 : stripG isPB cs = cs.take 0 := by rw [hs]; simp [strip_nil]
      refine ⟨0, ?_⟩; walk_at "fin"
  rintro l _ ⟨rfl, g0, k, g1, hk, hs⟩
  rw [hs] at q
  walk_at "mc"
  simp only [g0, g1, Option.some.injEq, exists_eq_left']
  exact slice_copy (C := Calls tab prg n) ha hk hl q
theorem c_shown (hn : 4 ≤ n) {a : Addr} {cs : List Cell} (ha : st a = some (.list (avs cs))) (hl : cs.length ≤ 100) (hc5 : ∀ c ∈ cs, c.codes.length ≤ 5) (hw0 : ∀ c ∈ cs, 0 ≤ c.w) (q : NewL st ((codesOf (stripG isPB cs)).map .int) Q) : Calls tab prg n 521 [.loc a] st Q := by
  refine call_fn rfl (by omega) (by simp) ?_
  unfold m_law_shown
  refine seq_step (fun l' st' => l' 0 = some (.loc a) ∧ ∃ f, l' 1 = some (.loc f) ∧ Ext st st' ∧ st f = none ∧ st' f = some (.list [])) ?_ ?_
  · walk_at "ms"
    intro f hf
    have x := Ext.new (o := .list []) hf
    have e : upd st f (.list []) f = some (.list []) := upd_same
    exact ⟨f, rfl, x, hf, e⟩
  rintro l st₁ ⟨g0, f, g2, x₁, hf, e₁⟩
  have hX5 : ∀ c ∈ stripG isPB cs, c.codes.length ≤ 5 ∧ 0 ≤ c.w := fun c hc => ⟨hc5 c (strip_sub hc), hw0 c (strip_sub hc)⟩
  have hXl : (stripG isPB cs).length ≤ 100 := by obtain ⟨k, h1, h2⟩ := strip_le (p := isPB) cs; rw [h2]; simp [List.length_take]; omega
  generalize hX : stripG isPB cs = X at *
  refine seq_step (fun l' st' => l' 1 = some (.loc f) ∧ Ext st st' ∧ st' f = some (.list ((codesOf X).map .int))) ?_ ?_
  · walk_at "ms"
    simp only [g0, Option.some.injEq, exists_eq_left']
    refine c_trimmed (by omega) (x₁.at ha) (by omega) ?_
    rw [hX]
    intro s st₂ x₂ hs hs₂
    refine itL_at hs₂ ?_
    have sf : f ≠ s := ne_of e₁ hs
    have bnd : ∀ i, (codesOf (X.take i)).length ≤ 500 := fun i => by
      have := codesOf_len (xs := X.take i) fun c hc => (hX5 c (List.mem_of_mem_take hc)).1
      have h2 : (X.take i).length ≤ X.length := by simp [List.length_take]; omega
      omega
    refine for_list (calls_mono _) (fun i l' st' => l' 1 = some (.loc f) ∧ Ext st st' ∧ st' s = some (.list (avs X)) ∧ st' f = some (.list ((codesOf (X.take i)).map .int))) ?_ (fun i l' st' h => h.2.2.1) ?_ ?_
    · exact ⟨g2, x₁.trans x₂, hs₂, x₂.at e₁⟩
    · rintro i l' st' v ⟨h2, hx, hs2, hf2⟩ hv
      obtain ⟨c, hc, rfl⟩ := avs_at hv
      have hm := List.mem_of_getElem? hc
      obtain ⟨h5, hw⟩ := hX5 c hm
      walk_at "mc"
      have hbi := bnd i
      have hnext : ∀ es, es = (codesC c).map AV.int → upd st' f (.list ((codesOf (X.take i)).map .int ++ es)) f = some (.list ((codesOf (X.take (i + 1))).map .int)) := fun es he => by
        rw [upd_same, take_snoc hc, codesOf_snoc, he, List.map_append]
      have xs : ∀ o, upd st' f o s = some (.list (avs X)) := fun o => by rw [upd_ne sf.symm]; exact hs2
      have xx : ∀ o, Ext st (upd st' f o) := fun o => hx.upd hf
      refine ⟨fun hw1 => ?_, fun hw1 => ?_⟩
      · walk_at "mc"
        simp only [h2, Option.some.injEq, exists_eq_left']
        refine ext_at hf2 ?_
        walk_at "ms"
        have hw2 : ¬ c.w = 0 := by omega
        refine ⟨fun hz => ?_, fun hz => ?_⟩
        · refine ⟨_, _, hf2, .inr rfl, by simp; omega, by simp; omega, ?_⟩
          have := hnext (c.codes.map .int) (by unfold codesC; rw [if_neg hw2, if_neg hz])
          exact ⟨xx _, xs _, this⟩
        · refine ⟨_, _, hf2, .inr rfl, by simp; omega, by simp, ?_⟩
          have := hnext [.int 32] (by unfold codesC; rw [if_neg hw2, if_pos hz]; rfl)
          exact ⟨xx _, xs _, this⟩
      · have hw2 : c.w = 0 := by omega
        have := hnext [] (by unfold codesC; rw [if_pos hw2]; rfl)
        rw [List.append_nil, upd_same] at this
        refine ⟨h2, hx, hs2, hf2.trans this⟩
    · rintro l' st' ⟨h2, hx, hs2, hf2⟩
      rw [List.take_of_length_le (by simp [avs])] at hf2
      walk_at "ms"
      exact ⟨h2, hx, hf2⟩
  rintro l st₂ ⟨g2, x₂, e₂⟩
  walk_at "mc"
  simp only [g2, Option.some.injEq, exists_eq_left']
  exact q f st₂ x₂ hf e₂
end
end Mine

end

section
set_option linter.unusedVariables false
set_option linter.unusedSimpArgs false
set_option maxHeartbeats 1000000
namespace Mine
open PySem
local macro_rules | `(tactic| walk_at "ms") => `(tactic| simp only [ev_lit, ev_var, ev_tup, ev_list, ev_dict, ev_bin, ev_fdiv, ev_neg, ev_not, ev_and, ev_or, ev_if, ev_cmp, ev_cmp2, ev_call, ev_meth, ev_app, ev_ext, ev_pop, ev_attr, ev_sub, ev_slice, ev_rev, ev_len, ev_max, ev_min, ev_listOf, ev_intOf, ev_all, ev_comp,
  evs_nil, evs_cons, ts_val, ts_not, ts_and, ts_or, ts_if, it_list, it_enum, it_zip, it_r1, it_r2, ex_expr, ex_ret, ex_retN, ex_asg, ex_asgT, ex_setattr, ex_setsub, ex_setslice, ex_aug, ex_ite, ex_for, ex_while, ex_cont, exPs_nil,
  seqQ, turnQ, retQ, truth_bool, bin_add, bin_sub, bin_mul, bin_md, neg_int, max_int, min_int, int_int, aug_add, aug_sub, cmp_lt, cmp_le, cmp_gt, cmp_ge, cmp_eq, cmp_ne, cmp_eqb, cmp_neb, cmp_eqs, cmp_nes, cmp_eqc, cmp_nec, cmp_eq0, cmp_ne0,
  sub_cell0, sub_cell1, sub_cell2, sub_cell3, sub_pen2, put, argsOf, List.cons_append, List.nil_append, List.append_nil, List.drop_nil, List.length_cons, List.length_nil, List.getElem?_cons_zero, List.getElem?_cons_succ, Option.some.injEq, exists_eq_left', List.length_map, Nat.reduceAdd, Nat.reduceSub, Nat.reduceEqDiff, Nat.reduceLeDiff, if_true, if_false, ite_true, ite_false, reduceIte, true_and, and_true, Nat.zero_le,
  reduceCtorEq, eq_self, false_implies, true_implies, implies_true, decide_eq_true_eq, decide_eq_false_iff_not, beq_iff_eq, Bool.not_eq_true', Bool.not_eq_false', Bool.and_eq_true, Bool.or_eq_true, beq_eq_false_iff_ne, ne_eq])
local macro_rules | `(tactic| walk_at "mc") => `(tactic| (rw [exPs_cons]; walk_at "ms"))
local macro_rules | `(tactic| walk_at "fin") => `(tactic| repeat' (first | assumption | exact trivial | exact rfl | apply And.intro))
def lineD (x y z : AV) : List (Str × AV) := [("cells", x), ("is_wrapped", y), ("size", z)]
structure LineAt (st : Sto) (a d c : Addr) (cs : List Cell) (wr : Bool) (sz : Str) : Prop where
  o : st a = some (.inst 251 d)
  f : st d = some (.dict (lineD (.loc c) (.bool wr) (.str sz)))
  k : st c = some (.list (avs cs))
theorem LineAt.ext {st st' : Sto} {a d c : Addr} {cs : List Cell} {wr : Bool} {sz : Str} (L : LineAt st a d c cs wr sz) (x : Ext st st') : LineAt st' a d c cs wr sz := ⟨x.at L.o, x.at L.f, x.at L.k⟩
theorem lk_cells {x y z : AV} : (lineD x y z).lookup ("cells" : Str) = some x := by unfold lineD; rfl
theorem lk_wr {x y z : AV} : (lineD x y z).lookup ("is_wrapped" : Str) = some y := by unfold lineD; rfl
theorem lk_sz {x y z : AV} : (lineD x y z).lookup ("size" : Str) = some z := by unfold lineD; rfl
theorem fd_cells : tab.field 251 "cells" = true := by decide
theorem fd_wr : tab.field 251 "is_wrapped" = true := by decide
theorem fd_sz : tab.field 251 "size" = true := by decide
theorem np_cells : tab.prop 251 "cells" = none := by decide
theorem np_wr : tab.prop 251 "is_wrapped" = none := by decide
theorem np_sz : tab.prop 251 "size" = none := by decide
section
variable {C : CallT} {st : Sto} {n : Nat} {Q : AV → Sto → Prop} {l : Loc} {QF : Fl → Loc → Sto → Prop} {a d c : Addr} {cs : List Cell} {wr : Bool} {sz : Str}
theorem at_cells (L : LineAt st a d c cs wr sz) (q : Q (.loc c) st) : attrP tab C "cells" (.loc a) st Q := attr_at L.o L.f np_cells fd_cells lk_cells q
theorem at_wr (L : LineAt st a d c cs wr sz) (q : Q (.bool wr) st) : attrP tab C "is_wrapped" (.loc a) st Q := attr_at L.o L.f np_wr fd_wr lk_wr q
theorem at_sz (L : LineAt st a d c cs wr sz) (q : Q (.str sz) st) : attrP tab C "size" (.loc a) st Q := attr_at L.o L.f np_sz fd_sz lk_sz q
theorem LineAt.ne (L : LineAt st a d c cs wr sz) : a ≠ d ∧ a ≠ c ∧ d ≠ c := by
  refine ⟨fun q => ?_, fun q => ?_, fun q => ?_⟩
  · have := L.o; rw [q, L.f] at this; cases this
  · have := L.o; rw [q, L.k] at this; cases this
  · have := L.f; rw [q, L.k] at this; cases this
theorem set_cells (L : LineAt st a d c cs wr sz) {c' : Addr} {cs' : List Cell} (hc : st c' = some (.list (avs cs'))) (q : LineAt (upd st d (.dict (lineD (.loc c') (.bool wr) (.str sz)))) a d c' cs' wr sz → QF .next l (upd st d (.dict (lineD (.loc c') (.bool wr) (.str sz))))) : setattrP tab "cells" (.loc c') (.loc a) l st QF := by
  have hd : d ≠ c' := fun z => by have := L.f; rw [z, hc] at this; cases this
  exact setattr_at L.o L.f fd_cells (by simp [lineD]) (es' := lineD (.loc c') (.bool wr) (.str sz)) (by unfold lineD; rfl) (q ⟨by rw [upd_ne L.ne.1]; exact L.o, upd_same, by rw [upd_ne hd.symm]; exact hc⟩)
theorem set_wr (L : LineAt st a d c cs wr sz) {w' : Bool} (q : LineAt (upd st d (.dict (lineD (.loc c) (.bool w') (.str sz)))) a d c cs w' sz → QF .next l (upd st d (.dict (lineD (.loc c) (.bool w') (.str sz))))) : setattrP tab "is_wrapped" (.bool w') (.loc a) l st QF :=
  setattr_at L.o L.f fd_wr (by simp [lineD]) (es' := lineD (.loc c) (.bool w') (.str sz)) (by unfold lineD; rfl) (q ⟨by rw [upd_ne L.ne.1]; exact L.o, upd_same, by rw [upd_ne L.ne.2.2.symm]; exact L.k⟩)
theorem set_sz (L : LineAt st a d c cs wr sz) {s' : Str} (q : LineAt (upd st d (.dict (lineD (.loc c) (.bool wr) (.str s')))) a d c cs wr s' → QF .next l (upd st d (.dict (lineD (.loc c) (.bool wr) (.str s'))))) : setattrP tab "size" (.str s') (.loc a) l st QF :=
  setattr_at L.o L.f fd_sz (by simp [lineD]) (es' := lineD (.loc c) (.bool wr) (.str s')) (by unfold lineD; rfl) (q ⟨by rw [upd_ne L.ne.1]; exact L.o, upd_same, by rw [upd_ne L.ne.2.2.symm]; exact L.k⟩)

/-- a new line -/
def NewLine (st : Sto) (cs : List Cell) (wr : Bool) (sz : Str) (Q : AV → Sto → Prop) : Prop := ∀ a d c st', Ext st st' → st a = none → st d = none → st c = none → LineAt st' a d c cs wr sz → Q (.loc a) st'

theorem c_Line (hn : 5 ≤ n) {p : Pen} {k : Int} (h0 : 0 ≤ k) (h1 : k ≤ 1000) (q : NewLine st (List.replicate k.toNat (blank p)) false "single" Q) : Calls tab prg n 251 [.int k, p.av] st Q := by
  refine call_cls rfl (by omega) fun x dx hne hx hdx => ?_
  refine call_fn rfl (by omega) (by simp) ?_
  unfold m_Line__init
  generalize hs0 : upd (upd st dx (.dict [])) x (.inst 251 dx) = s0
  have e0 : Ext st s0 := by rw [← hs0]; exact ((Ext.new hdx).upd hx)
  have ox : s0 x = some (.inst 251 dx) := by rw [← hs0, upd_same]
  have od : s0 dx = some (.dict []) := by rw [← hs0, upd_ne hne.symm, upd_same]
  refine seq_step (fun l' st' => l' 0 = some (.loc x) ∧ ∃ c, Ext st st' ∧ st c = none ∧ st' x = some (.inst 251 dx) ∧ st' dx = some (.dict [("cells", .loc c)]) ∧ st' c = some (.list (avs (List.replicate k.toNat (blank p))))) ?_ ?_
  · walk_at "ms"
    refine c_line_blanks (by omega) h0 h1 ?_
    intro c st₁ x₁ hc e₁
    refine setattr_at (x₁.at ox) (x₁.at od) fd_cells (by simp) (es' := [("cells", .loc c)]) rfl ?_
    have hd : dx ≠ c := ne_of od hc
    have hd2 : x ≠ dx := hne
    have f1 : upd st₁ dx (.dict [("cells", .loc c)]) x = some (.inst 251 dx) := by rw [upd_ne hd2]; exact x₁.at ox
    have f2 : upd st₁ dx (.dict [("cells", .loc c)]) dx = some (.dict [("cells", .loc c)]) := upd_same
    have f3 : upd st₁ dx (.dict [("cells", .loc c)]) c = some (.list (avs (List.replicate k.toNat (blank p)))) := by rw [upd_ne hd.symm]; exact e₁
    have f4 := (e0.trans x₁).upd (o := .dict [("cells", .loc c)]) hdx
    have f5 := e0.out hc
    refine ⟨rfl, c, ?_⟩
    walk_at "fin"
  rintro l st₁ ⟨g0, c, x₁, hc, o₁, d₁, c₁⟩
  have hdc : dx ≠ c := fun z => by rw [z, c₁] at d₁; cases d₁
  refine seq_step (fun l' st' => l' 0 = some (.loc x) ∧ Ext st st' ∧ st' x = some (.inst 251 dx) ∧ st' dx = some (.dict [("cells", .loc c), ("is_wrapped", .bool false)]) ∧ st' c = some (.list (avs (List.replicate k.toNat (blank p))))) ?_ ?_
  · walk_at "ms"
    simp only [g0, Option.some.injEq, exists_eq_left']
    refine setattr_at o₁ d₁ fd_wr (by simp) (es' := [("cells", .loc c), ("is_wrapped", .bool false)]) rfl ?_
    refine ⟨g0, x₁.upd hdx, ?_, upd_same, ?_⟩
    · rw [upd_ne hne]; exact o₁
    · rw [upd_ne hdc.symm]; exact c₁
  rintro l st₂ ⟨g0, x₂, o₂, d₂, c₂⟩
  walk_at "mc"
  simp only [g0, Option.some.injEq, exists_eq_left']
  rw [sub_tup]
  refine ⟨by omega, by omega, _, rfl, ?_⟩
  refine setattr_at o₂ d₂ fd_sz (by simp) (es' := lineD (.loc c) (.bool false) (.str "single")) rfl ?_
  refine q x dx c _ (x₂.upd hdx) hx hdx hc ⟨?_, upd_same, ?_⟩
  · rw [upd_ne hne]; exact o₂
  · rw [upd_ne hdc.symm]; exact c₂

theorem c_columns (hn : 1 ≤ n) (L : LineAt st a d c cs wr sz) (hl : cs.length ≤ 1000) (q : Q (.int cs.length) st) : Calls tab prg n 147 [.loc a] st Q := by
  refine call_fn rfl (by omega) (by simp) ?_
  unfold m_Line_columns
  walk_at "mc"
  refine at_cells L (len_at L.k (by rw [avs_len]; omega) ?_)
  rw [avs_len]; exact q
theorem at_columns (hn : 1 ≤ n) (L : LineAt st a d c cs wr sz) (hl : cs.length ≤ 1000) (q : Q (.int cs.length) st) : attrP tab (Calls tab prg n) "columns" (.loc a) st Q :=
  prop_at L.o L.f (f := 147) (by decide) (c_columns hn L hl q)
theorem c_part (hn : 2 ≤ n) (L : LineAt st a d c cs wr sz) {i : Int} (hl : cs.length ≤ 1000) (h0 : 0 ≤ i) (h1 : i < 1000) (h : i = 0 ∨ cs.length ≤ i ∨ ∃ c, cs[i.toNat]? = some c ∧ c.w ≠ 0) (q : Q .none st) : Calls tab prg n 162 [.loc a, .int i] st Q := by
  refine call_fn rfl (by omega) (by simp) ?_
  unfold m_Line_part
  walk_at "mc"
  refine at_cells L (c_line_part (by omega) L.k hl h0 h1 h ?_)
  exact q
theorem c_line_of (hn : 6 ≤ n) {b : Addr} {ks : List Cell} {w' : Bool} {s' : Str} {ds : List AV} (hds : ds = [.loc b] ∧ w' = false ∧ s' = "single" ∨ ds = [.loc b, .bool w'] ∧ s' = "single" ∨ ds = [.loc b, .bool w', .str s']) (hb : st b = some (.list (avs ks))) (hl : ks.length ≤ 900) (q : NewLine st (fixB ks) w' s' Q) : Calls tab prg n 263 ds st Q := by
  have ha : argsOf 3 [.bool false, .str "single"] ds = [.loc b, .bool w', .str s'] := by
    rcases hds with ⟨rfl, rfl, rfl⟩ | ⟨rfl, rfl⟩ | rfl <;> simp [argsOf]
  refine call_fn rfl (by omega) (by rcases hds with ⟨rfl, _⟩ | ⟨rfl, _⟩ | rfl <;> simp) ?_
  rw [ha]
  unfold m_line_of
  refine seq_step (fun l' st' => l' 0 = some (.loc b) ∧ l' 1 = some (.bool w') ∧ l' 2 = some (.str s') ∧ ∃ a d c, l' 3 = some (.loc a) ∧ Ext st st' ∧ st a = none ∧ st d = none ∧ LineAt st' a d c [] false "single") ?_ ?_
  · walk_at "ms"
    refine c_Line (p := plain) (by omega) (by omega) (by omega) ?_
    intro a d c st₁ x₁ ha hd hc L
    exact ⟨a, d, c, rfl, x₁, ha, hd, L⟩
  rintro l st₁ ⟨g0, g1, g2, a, d, c, g3, x₁, ha, hd, L⟩
  refine seq_step (fun l' st' => l' 1 = some (.bool w') ∧ l' 2 = some (.str s') ∧ l' 3 = some (.loc a) ∧ ∃ c', Ext st st' ∧ st c' = none ∧ LineAt st' a d c' (fixB ks) false "single") ?_ ?_
  · walk_at "ms"
    simp only [g0, g3, Option.some.injEq, exists_eq_left']
    refine len_at (x₁.at hb) (by rw [avs_len]; omega) ?_
    rw [avs_len]
    walk_at "ms"
    refine c_line_slice (by omega) (x₁.at hb) hl (by omega) ?_
    rw [show ((ks.length : Int) - 1 + 1).toNat = ks.length by omega, List.take_length]
    intro c' st₂ x₂ hc' e₂
    refine set_cells (L.ext x₂) e₂ fun L' => ?_
    exact ⟨g1, g2, g3, c', (x₁.trans x₂).upd hd, x₁.out hc', L'⟩
  rintro l st₂ ⟨g1, g2, g3, c', x₂, hc', L₂⟩
  refine seq_step (fun l' st' => l' 2 = some (.str s') ∧ l' 3 = some (.loc a) ∧ Ext st st' ∧ LineAt st' a d c' (fixB ks) w' "single") ?_ ?_
  · walk_at "ms"
    simp only [g1, g3, Option.some.injEq, exists_eq_left']
    exact set_wr L₂ fun L' => ⟨g2, g3, x₂.upd hd, L'⟩
  rintro l st₃ ⟨g2, g3, x₃, L₃⟩
  refine seq_step (fun l' st' => l' 3 = some (.loc a) ∧ Ext st st' ∧ LineAt st' a d c' (fixB ks) w' s') ?_ ?_
  · walk_at "ms"
    simp only [g2, g3, Option.some.injEq, exists_eq_left']
    exact set_sz L₃ fun L' => ⟨g3, x₃.upd hd, L'⟩
  rintro l st₄ ⟨g3, x₄, L₄⟩
  walk_at "mc"
  simp only [g3, Option.some.injEq, exists_eq_left']
  exact q a d c' st₄ x₄ ha hd hc' L₄
end
end Mine

end

section
set_option linter.unusedVariables false
set_option linter.unusedSimpArgs false
set_option maxHeartbeats 1000000
namespace Mine
open PySem
local macro_rules | `(tactic| walk_at "ms") => `(tactic| simp only [ev_lit, ev_var, ev_tup, ev_list, ev_dict, ev_bin, ev_fdiv, ev_neg, ev_not, ev_and, ev_or, ev_if, ev_cmp, ev_cmp2, ev_call, ev_meth, ev_app, ev_ext, ev_pop, ev_attr, ev_sub, ev_slice, ev_rev, ev_len, ev_max, ev_min, ev_listOf, ev_intOf, ev_all, ev_comp,
  evs_nil, evs_cons, ts_val, ts_not, ts_and, ts_or, ts_if, it_list, it_enum, it_zip, it_r1, it_r2, ex_expr, ex_ret, ex_retN, ex_asg, ex_asgT, ex_setattr, ex_setsub, ex_setslice, ex_aug, ex_ite, ex_for, ex_while, ex_cont, exPs_nil,
  seqQ, turnQ, retQ, truth_bool, bin_add, bin_sub, bin_mul, bin_md, neg_int, max_int, min_int, int_int, aug_add, aug_sub, cmp_lt, cmp_le, cmp_gt, cmp_ge, cmp_eq, cmp_ne, cmp_eqb, cmp_neb, cmp_eqs, cmp_nes, cmp_eqc, cmp_nec, cmp_eq0, cmp_ne0,
  sub_cell0, sub_cell1, sub_cell2, sub_cell3, sub_pen2, put, argsOf, List.cons_append, List.nil_append, List.append_nil, List.drop_nil, List.length_cons, List.length_nil, List.getElem?_cons_zero, List.getElem?_cons_succ, Option.some.injEq, exists_eq_left', List.length_map, Nat.reduceAdd, Nat.reduceSub, Nat.reduceEqDiff, Nat.reduceLeDiff, if_true, if_false, ite_true, ite_false, reduceIte, true_and, and_true, Nat.zero_le,
  reduceCtorEq, eq_self, false_implies, true_implies, implies_true, decide_eq_true_eq, decide_eq_false_iff_not, beq_iff_eq, Bool.not_eq_true', Bool.not_eq_false', Bool.and_eq_true, Bool.or_eq_true, beq_eq_false_iff_ne, ne_eq])
local macro_rules | `(tactic| walk_at "mc") => `(tactic| (rw [exPs_cons]; walk_at "ms"))
local macro_rules | `(tactic| walk_at "fin") => `(tactic| repeat' (first | assumption | exact trivial | exact rfl | apply And.intro))
local macro_rules | `(tactic| walk_at "mo") => `(tactic| try (walk_at "ms"))
def ExtX (P : Addr → Prop) (st st' : Sto) : Prop := ∀ a, ¬ P a → st a ≠ none → st' a = st a
theorem Ext.thru {P : Addr → Prop} {s0 st st' : Sto} (x : Ext s0 st) (hP : ∀ a, P a → s0 a = none) (y : ExtX P st st') : Ext s0 st' := fun a h => by
  have h2 : st a ≠ none := by rw [x a h]; exact h
  rw [y a (fun q => h (hP a q)) h2, x a h]
theorem Ext.toX {P : Addr → Prop} {st st' : Sto} (x : Ext st st') : ExtX P st st' := fun a _ h => x a h
theorem ExtX.trans {P : Addr → Prop} {a b c : Sto} (x : ExtX P a b) (y : ExtX P b c) : ExtX P a c := fun d hp h => (y d hp (by rw [x d hp h]; exact h)).trans (x d hp h)
theorem ExtX.at {P : Addr → Prop} {st st' : Sto} (x : ExtX P st st') {a : Addr} {o : AO} (hp : ¬ P a) (e : st a = some o) : st' a = some o := (x a hp (by rw [e]; exact nofun)).trans e
theorem ExtX.out {P : Addr → Prop} {st st' : Sto} (x : ExtX P st st') {a : Addr} (hp : ¬ P a) (e : st' a = none) : st a = none := by
  cases q : st a with
  | none => rfl
  | some o => rw [x.at hp q] at e; cases e
theorem ExtX.upd {P : Addr → Prop} {st st' : Sto} (x : ExtX P st st') {a : Addr} {o : AO} (e : P a) : ExtX P st (upd st' a o) := fun b hp h => by
  unfold Mine.upd
  rw [if_neg (fun q => hp (by rw [q]; exact e))]
  exact x b hp h
theorem ExtX.updN {P : Addr → Prop} {st st' : Sto} (x : ExtX P st st') {a : Addr} {o : AO} (e : st a = none) : ExtX P st (Mine.upd st' a o) := fun b hp h => by
  unfold Mine.upd
  rw [if_neg (fun q => h (by rw [q]; exact e))]
  exact x b hp h
theorem ExtX.refl (P : Addr → Prop) (st : Sto) : ExtX P st st := fun _ _ _ => rfl

section
variable {C : CallT} {st : Sto} {n : Nat} {Q : AV → Sto → Prop} {l : Loc} {QF : Fl → Loc → Sto → Prop} {a d c : Addr} {cs : List Cell} {wr : Bool} {sz : Str}
theorem at_meth (L : LineAt st a d c cs wr sz) {name : Str} {f : Addr} {as : MEs} (hm : tab.meth 251 name = some f) (hv : ∀ x y z, (lineD x y z).lookup name = none) (q : evPs tab C as l st fun ds st => C f (.loc a :: ds) st Q) : methP tab C name as l (.loc a) st Q :=
  meth_at L.o L.f (hv _ _ _) hm q

theorem c_put_cells (hn : 4 ≤ n) {p : Addr} {ps : List Cell} (L : LineAt st a d c cs wr sz) (hp : st p = some (.list (avs ps))) (hps : ps ≠ []) (hl : cs.length ≤ 900) (hl2 : ps.length ≤ 900) (h1 : 1 ≤ cs.length) (hw : ∀ x ∈ cs, x.w ≠ 0)
    (q : ∀ st', ExtX (fun x => x = c) st st' → LineAt st' a d c (fixB (ps.take cs.length) ++ cs.drop (fixB (ps.take cs.length)).length) wr sz → Q .none st') : Calls tab prg n 176 [.loc a, .int 0, .loc p] st Q := by
  have hpl : 1 ≤ ps.length := by cases ps with | nil => exact absurd rfl hps | cons _ _ => simp
  refine call_fn rfl (by omega) (by simp) ?_
  unfold m_Line_put_cells
  refine seq_step (fun l' st' => Ext st st' ∧ l' 0 = some (.loc a) ∧ l' 1 = some (.int 0) ∧ l' 2 = some (.loc p)) ?_ ?_
  · walk_at "ms"
    refine ⟨fun _ => ?_, fun h => by omega⟩
    refine at_cells L (len_at L.k (by rw [avs_len]; omega) ?_)
    rw [avs_len]
    walk_at "ms"
    refine ⟨fun h => by omega, fun _ => ?_⟩
    intro m hm
    rw [cmp_eqv (eqv_lnil (upd_at hp hm) upd_same)]
    walk_at "ms"
    refine ⟨fun h => by omega, fun _ => Ext.new hm⟩
  rintro l st₁ ⟨x₁, g0, g1, g2⟩
  refine seq_step (fun l' st' => Ext st st' ∧ l' 0 = some (.loc a) ∧ l' 1 = some (.int 0) ∧ ∃ f, l' 3 = some (.loc f) ∧ st f = none ∧ st' f = some (.list (avs (fixB (ps.take cs.length))))) ?_ ?_
  · walk_at "ms"
    simp only [g0, g1, g2, Option.some.injEq, exists_eq_left']
    refine at_cells (L.ext x₁) (len_at (L.ext x₁).k (by rw [avs_len]; omega) ?_)
    rw [avs_len]
    walk_at "ms"
    refine c_line_slice (by omega) (x₁.at hp) hl2 (by omega) ?_
    rw [show ((cs.length : Int) - 0 - 1 + 1).toNat = cs.length by omega]
    intro f st₂ x₂ hf e₂
    exact ⟨x₁.trans x₂, f, rfl, x₁.out hf, e₂⟩
  rintro l st₂ ⟨x₂, g0, g1, f, g3, hf, e₂⟩
  have hfl : (fixB (ps.take cs.length)).length ≤ cs.length := by rw [fixB_len, List.length_take]; omega
  generalize hF : fixB (ps.take cs.length) = F at *
  refine seq_step (fun l' st' => st₂ = st' ∧ l' 0 = some (.loc a) ∧ l' 1 = some (.int 0) ∧ l' 3 = some (.loc f)) ?_ ?_
  · walk_at "ms"
    simp only [g0, g1, Option.some.injEq, exists_eq_left']
    refine at_meth (L.ext x₂) (f := 162) (by decide) (by intros; unfold lineD; rfl) ?_
    walk_at "ms"
    simp only [g1, Option.some.injEq, exists_eq_left']
    refine c_part (by omega) (L.ext x₂) (by omega) (by omega) (by omega) (.inl rfl) ?_
    walk_at "fin"
  rintro l _ ⟨rfl, g0, g1, g3⟩
  refine seq_step (fun l' st' => st₂ = st' ∧ l' 0 = some (.loc a) ∧ l' 1 = some (.int 0) ∧ l' 3 = some (.loc f)) ?_ ?_
  · walk_at "ms"
    simp only [g0, g1, Option.some.injEq, exists_eq_left']
    refine at_meth (L.ext x₂) (f := 162) (by decide) (by intros; unfold lineD; rfl) ?_
    walk_at "ms"
    simp only [g1, g3, Option.some.injEq, exists_eq_left']
    refine len_at e₂ (by rw [avs_len]; omega) ?_
    rw [avs_len]
    walk_at "ms"
    refine c_part (by omega) (L.ext x₂) (by omega) (by omega) (by omega) ?_ ?_
    · by_cases z : cs.length ≤ F.length
      · exact .inr (.inl (by omega))
      · refine .inr (.inr ⟨cs[F.length], ?_, hw _ (List.getElem_mem _)⟩)
        rw [show ((0 : Int) + F.length).toNat = F.length by omega]
        exact List.getElem?_eq_getElem (by omega)
    · walk_at "fin"
  rintro l _ ⟨rfl, g0, g1, g3⟩
  walk_at "mc"
  simp only [g0, g1, g3, Option.some.injEq, exists_eq_left']
  refine at_cells (L.ext x₂) ?_
  refine len_at e₂ (by rw [avs_len]; omega) ?_
  rw [avs_len]
  walk_at "ms"
  have hcf : f ≠ c := fun z => by rw [z, L.k] at hf; cases hf
  refine ⟨c, _, f, _, 0, _, rfl, (L.ext x₂).k, rfl, hcf, e₂, rfl, rfl, by omega, by omega, by rw [avs_len]; omega, by rw [avs_len]; omega, by rw [avs_len]; omega, ?_⟩
  rw [show ((0 : Int) + F.length).toNat = F.length by omega]
  refine q _ ((x₂.toX).upd rfl) ⟨?_, ?_, ?_⟩
  · rw [upd_ne L.ne.2.1]; exact (L.ext x₂).o
  · rw [upd_ne L.ne.2.2]; exact (L.ext x₂).f
  · rw [upd_same]; simp [avs]
theorem c_Line_copy (hn : 6 ≤ n) (L : LineAt st a d c cs wr sz) (hl : cs.length ≤ 900) (q : NewLine st cs wr sz Q) : Calls tab prg n 219 [.loc a] st Q := by
  refine call_fn rfl (by omega) (by simp) ?_
  unfold m_Line_copy
  refine seq_step (fun l' st' => l' 0 = some (.loc a) ∧ ∃ a' d' c', l' 1 = some (.loc a') ∧ Ext st st' ∧ st a' = none ∧ st d' = none ∧ LineAt st' a' d' c' [] false "single") ?_ ?_
  · walk_at "ms"
    refine c_Line (p := plain) (by omega) (by omega) (by omega) ?_
    intro a' d' c' st₁ x₁ ha hd hc L'
    exact ⟨a', d', c', rfl, x₁, ha, hd, L'⟩
  rintro l st₁ ⟨g0, a', d', c', g1, x₁, ha, hd, L₁⟩
  refine seq_step (fun l' st' => l' 0 = some (.loc a) ∧ l' 1 = some (.loc a') ∧ ∃ c', Ext st st' ∧ st c' = none ∧ LineAt st' a' d' c' cs false "single") ?_ ?_
  · walk_at "ms"
    simp only [g0, g1, Option.some.injEq, exists_eq_left']
    refine at_cells (L.ext x₁) (list_at (L.ext x₁).k (by rw [avs_len]; omega) fun c₂ hc₂ => ?_)
    have x₂ := Ext.new (o := .list (avs cs)) hc₂
    refine set_cells (L₁.ext x₂) upd_same fun L' => ?_
    exact ⟨g0, g1, c₂, (x₁.trans x₂).upd hd, x₁.out hc₂, L'⟩
  rintro l st₂ ⟨g0, g1, c₂, x₂, hc₂, L₂⟩
  refine seq_step (fun l' st' => l' 0 = some (.loc a) ∧ l' 1 = some (.loc a') ∧ Ext st st' ∧ LineAt st' a' d' c₂ cs wr "single") ?_ ?_
  · walk_at "ms"
    simp only [g0, g1, Option.some.injEq, exists_eq_left']
    refine at_wr (L.ext x₂) ?_
    exact set_wr L₂ fun L' => ⟨g0, g1, x₂.upd hd, L'⟩
  rintro l st₃ ⟨g0, g1, x₃, L₃⟩
  refine seq_step (fun l' st' => l' 1 = some (.loc a') ∧ Ext st st' ∧ LineAt st' a' d' c₂ cs wr sz) ?_ ?_
  · walk_at "ms"
    simp only [g0, g1, Option.some.injEq, exists_eq_left']
    refine at_sz (L.ext x₃) ?_
    exact set_sz L₃ fun L' => ⟨g1, x₃.upd hd, L'⟩
  rintro l st₄ ⟨g1, x₄, L₄⟩
  walk_at "mc"
  simp only [g1, Option.some.injEq, exists_eq_left']
  exact q a' d' c₂ st₄ x₄ ha hd hc₂ L₄
theorem c_Line_codes (hn : 4 ≤ n) (L : LineAt st a d c cs wr sz) {r : Int} (hr : 0 ≤ r + 1) (hl : cs.length ≤ 100) (hc5 : ∀ x ∈ fixB (cs.take (r + 1).toNat), x.codes.length ≤ 5) (q : NewL st ((codesOf (stripG isBlank (fixB (cs.take (r + 1).toNat)))).map .int) Q) :
    Calls tab prg n 227 [.loc a, .int 0, .int r] st Q := by
  refine call_fn rfl (by omega) (by simp) ?_
  unfold m_Line_codes
  walk_at "mc"
  refine at_cells L ?_
  walk_at "mo"
  refine .inl ⟨rfl, .inr ⟨nofun, ?_⟩⟩
  walk_at "ms"
  refine c_line_slice (by omega) L.k (by omega) (by omega) ?_
  intro f st₁ x₁ hf e₁
  refine c_line_codes (by omega) e₁ ?_ hc5 ?_
  · rw [fixB_len, List.length_take]; omega
  · intro g st₂ x₂ hg e₂
    exact q g st₂ (x₁.trans x₂) (x₁.out hg) e₂
theorem c_used (hn : 2 ≤ n) (L : LineAt st a d c cs wr sz) (hl : cs.length ≤ 900) (q : ∀ k : Nat, k ≤ cs.length → stripG isPB cs = cs.take k → Q (.int k) st) : Calls tab prg n 234 [.loc a] st Q := by
  refine call_fn rfl (by omega) (by simp) ?_
  unfold m_Line_used
  have ha := L.k
  refine seq_step (fun l' st' => st = st' ∧ l' 0 = some (.loc a) ∧ l' 1 = some (.int cs.length)) ?_ ?_
  · walk_at "ms"
    refine at_cells L (len_at ha (by rw [avs_len]; omega) ?_)
    rw [avs_len]
    walk_at "fin"
  rintro l _ ⟨rfl, g0, g1⟩
  refine seq_step (fun l' st' => st = st' ∧ ∃ k : Nat, l' 1 = some (.int k) ∧ k ≤ cs.length ∧ stripG isPB cs = cs.take k) ?_ ?_
  · walk_at "ms"
    refine ⟨fun m l' st' => st = st' ∧ l' 0 = some (.loc a) ∧ l' 1 = some (.int m) ∧ m ≤ cs.length ∧ stripG isPB cs = stripG isPB (cs.take m), cs.length, ⟨rfl, g0, g1, Nat.le_refl _, by rw [List.take_length]⟩, ?_⟩
    rintro m l' _ ⟨rfl, g0, g1, hm, hs⟩
    walk_at "ms"
    simp only [g0, g1, Option.some.injEq, exists_eq_left']
    walk_at "ms"
    refine ⟨fun hp => ?_, fun hp => ?_⟩
    · obtain ⟨k, rfl⟩ : ∃ k, m = k + 1 := ⟨m - 1, by omega⟩
      have hc : cs[k]? = some cs[k] := List.getElem?_eq_getElem (by omega)
      refine at_cells L (sub_at ha (by omega) (by omega) (avs_get (c := cs[k]) (by rw [show (((k + 1 : Nat) : Int) - 1).toNat = k by omega]; exact hc)) ?_)
      refine c_plain_blank (by omega) ?_
      walk_at "ms"
      refine ⟨fun hb => ?_, fun hb => ?_⟩
      · walk_at "mc"
        simp only [g1, Option.some.injEq, exists_eq_left']
        walk_at "ms"
        rw [strip_take (p := isPB) hc hb] at hs
        have e : (((k + 1 : Nat) : Int) - 1) = (k : Int) := by omega
        rw [e]
        refine ⟨k, by omega, ?_⟩
        have : k ≤ cs.length := by omega
        walk_at "fin"
      · rw [strip_stop (p := isPB) hc hb] at hs
        refine ⟨k + 1, ?_⟩; walk_at "fin"
    · have : m = 0 := by omega
      subst this
      have h0 : stripG isPB cs = cs.take 0 := by rw [hs]; simp [strip_nil]
      refine ⟨0, ?_⟩; walk_at "fin"
  rintro l _ ⟨rfl, k, g1, hk, hs⟩
  walk_at "mc"
  simp only [g1, Option.some.injEq, exists_eq_left']
  exact q k hk hs
theorem c_line_place (hn : 1 ≤ n) (L : LineAt st a d c cs wr sz) {i : Nat} {x : Cell} (hx : cs[i]? = some x) (hl : cs.length ≤ 900) (q : Q (.int (if 0 < i ∧ x.w = 0 then (i : Int) - 1 else i)) st) : Calls tab prg n 284 [.loc a, .int i] st Q := by
  have hi := (List.getElem?_eq_some_iff.mp hx).1
  refine call_fn rfl (by omega) (by simp) ?_
  unfold m_line_place
  walk_at "mc"
  refine ⟨fun h0 => ?_, fun h0 => ?_⟩
  · refine at_cells L (len_at L.k (by rw [avs_len]; omega) ?_)
    rw [avs_len]
    walk_at "ms"
    refine ⟨fun h1 => ?_, fun h1 => by omega⟩
    refine at_cells L (sub_at L.k (by omega) (by omega) (avs_get (c := x) (by rw [show ((i : Int)).toNat = i by omega]; exact hx)) ?_)
    walk_at "ms"
    refine ⟨fun hw => ?_, fun hw => ?_⟩
    · walk_at "mc"; rw [if_pos ⟨by omega, hw⟩] at q; exact q
    · walk_at "mc"; rw [if_neg (fun z => hw z.2)] at q; exact q
  · walk_at "mc"; rw [if_neg (fun z => h0 (by omega))] at q; exact q
/-- two lines -/
theorem c_equals (hn : 1 ≤ n) {a' d' c' : Addr} {cs' : List Cell} {wr' : Bool} {sz' : Str} (L : LineAt st a d c cs wr sz) (L' : LineAt st a' d' c' cs' wr' sz') (q : ∀ b : Bool, (b = true ↔ (cs = cs' ∧ wr = wr' ∧ sz = sz')) → Q (.bool b) st) : Calls tab prg n 248 [.loc a, .loc a'] st Q := by
  refine call_fn rfl (by omega) (by simp) ?_
  unfold m_Line_equals
  walk_at "mc"
  refine at_cells L (at_wr L (at_sz L ?_))
  walk_at "mo"
  refine at_cells L' (at_wr L' (at_sz L' ?_))
  walk_at "mo"
  obtain ⟨t, h1, h2⟩ := eqv_rows (st := st) (n := 16) L.k L'.k
  rw [cmp_eqv (EqV.tup (.cons h1 (.cons (.bool wr wr') (.cons (.str sz sz') (.nilL [])))))]
  refine q _ ?_
  simp only [List.all_cons, List.all_nil, id, Bool.and_true, List.length_cons, List.length_nil, Bool.and_eq_true, h2, beq_iff_eq, and_true]
end
end Mine

end

section
set_option linter.unusedVariables false
set_option linter.unusedSimpArgs false
set_option maxHeartbeats 1000000
namespace Mine
open PySem
local macro_rules | `(tactic| walk_at "ms") => `(tactic| simp only [ev_lit, ev_var, ev_tup, ev_list, ev_dict, ev_bin, ev_fdiv, ev_neg, ev_not, ev_and, ev_or, ev_if, ev_cmp, ev_cmp2, ev_call, ev_meth, ev_app, ev_ext, ev_pop, ev_attr, ev_sub, ev_slice, ev_rev, ev_len, ev_max, ev_min, ev_listOf, ev_intOf, ev_all, ev_comp,
  evs_nil, evs_cons, ts_val, ts_not, ts_and, ts_or, ts_if, it_list, it_enum, it_zip, it_r1, it_r2, ex_expr, ex_ret, ex_retN, ex_asg, ex_asgT, ex_setattr, ex_setsub, ex_setslice, ex_aug, ex_ite, ex_for, ex_while, ex_cont, exPs_nil,
  seqQ, turnQ, retQ, truth_bool, bin_add, bin_sub, bin_mul, bin_md, neg_int, max_int, min_int, int_int, aug_add, aug_sub, cmp_lt, cmp_le, cmp_gt, cmp_ge, cmp_eq, cmp_ne, cmp_eqb, cmp_neb, cmp_eqs, cmp_nes, cmp_eqc, cmp_nec, cmp_eq0, cmp_ne0,
  sub_cell0, sub_cell1, sub_cell2, sub_cell3, sub_pen2, put, argsOf, List.cons_append, List.nil_append, List.append_nil, List.drop_nil, List.length_cons, List.length_nil, List.getElem?_cons_zero, List.getElem?_cons_succ, Option.some.injEq, exists_eq_left', List.length_map, Nat.reduceAdd, Nat.reduceSub, Nat.reduceEqDiff, Nat.reduceLeDiff, if_true, if_false, ite_true, ite_false, reduceIte, true_and, and_true, Nat.zero_le,
  reduceCtorEq, eq_self, false_implies, true_implies, implies_true, decide_eq_true_eq, decide_eq_false_iff_not, beq_iff_eq, Bool.not_eq_true', Bool.not_eq_false', Bool.and_eq_true, Bool.or_eq_true, beq_eq_false_iff_ne, ne_eq])
local macro_rules | `(tactic| walk_at "mc") => `(tactic| (rw [exPs_cons]; walk_at "ms"))
local macro_rules | `(tactic| walk_at "fin") => `(tactic| repeat' (first | assumption | exact trivial | exact rfl | apply And.intro))
local macro_rules | `(tactic| walk_at "mo") => `(tactic| try (walk_at "ms"))
structure Ln where
  a : Addr
  d : Addr
  c : Addr
  cs : List Cell
  wr : Bool
def Ln.At (x : Ln) (st : Sto) : Prop := LineAt st x.a x.d x.c x.cs x.wr "single"
abbrev lns (xs : List Ln) : List AV := xs.map fun x => AV.loc x.a
theorem lns_at {xs : List Ln} {i : Nat} {v : AV} (h : (lns xs)[i]? = some v) : ∃ x, xs[i]? = some x ∧ v = .loc x.a := by
  simp only [lns, List.getElem?_map, Option.map_eq_some_iff] at h
  obtain ⟨c, h1, h2⟩ := h
  exact ⟨c, h1, h2.symm⟩
theorem lns_get {xs : List Ln} {i : Nat} {x : Ln} (h : xs[i]? = some x) : (lns xs)[i]? = some (.loc x.a) := by simp [lns, h]
theorem lns_len (xs : List Ln) : (lns xs).length = xs.length := by simp [lns]
def padded (x y : List Cell) : Bool := (match x.getLast? with | some c => isBlank c | none => false) && (match y.head? with | some c => c.w == 2 | none => false)
def dropPad (x y : List Cell) : List Cell := if padded x y then x.dropLast else x
def joinL : List (List Cell) → List Cell
  | [] => []
  | [x] => stripG isPB x
  | x :: y :: r => dropPad x y ++ joinL (y :: r)
theorem padded_snoc (R : List Cell) (c e : Cell) (y : List Cell) : padded (R ++ [c]) (e :: y) = (isBlank c && e.w == 2) := by simp [padded]
section
variable {st : Sto} {n : Nat} {Q : AV → Sto → Prop}
theorem c_lines_joined (hn : 3 ≤ n) {b : Addr} {xs : List Ln} (hb : st b = some (.list (lns xs))) (hL : ∀ x ∈ xs, x.At st) (hx : xs.length ≤ 100) (h0 : ∀ x ∈ xs, x.cs ≠ []) (hl : ∀ x ∈ xs, x.cs.length ≤ 100) (hj : (joinL (xs.map Ln.cs)).length ≤ 900)
    (q : NewL st (avs (joinL (xs.map Ln.cs))) Q) : Calls tab prg n 270 [.loc b] st Q := by
  refine call_fn rfl (by omega) (by simp) ?_
  unfold m_lines_joined
  refine seq_step (fun l' st' => l' 0 = some (.loc b) ∧ ∃ f, l' 1 = some (.loc f) ∧ Ext st st' ∧ st f = none ∧ st' f = some (.list [])) ?_ ?_
  · walk_at "ms"
    intro f hf
    have x := Ext.new (o := .list []) hf
    have e : upd st f (.list []) f = some (.list []) := upd_same
    exact ⟨f, rfl, x, hf, e⟩
  rintro l st₁ ⟨g0, f, g2, x₁, hf, e₁⟩
  refine seq_step (fun l' st' => l' 1 = some (.loc f) ∧ Ext st st' ∧ st' f = some (.list (avs (joinL (xs.map Ln.cs))))) ?_ ?_
  · walk_at "ms"
    simp only [g0, Option.some.injEq, exists_eq_left']
    refine itE_at (x₁.at hb) ?_
    refine for_enum (calls_mono _) (fun i l' st' => l' 0 = some (.loc b) ∧ l' 1 = some (.loc f) ∧ Ext st st' ∧ ∃ acc, st' f = some (.list (avs acc)) ∧ acc ++ joinL ((xs.map Ln.cs).drop i) = joinL (xs.map Ln.cs)) ⟨g0, g2, x₁, [], e₁, rfl⟩ (fun i l' st' h => h.2.2.1.at hb) ?_ ?_
    · rintro i l' st' v ⟨g0, g1, x₂, acc, e₂, ha⟩ hv
      obtain ⟨x, hxi, rfl⟩ := lns_at hv
      have hm := List.mem_of_getElem? hxi
      have hi := (List.getElem?_eq_some_iff.mp hxi).1
      have L := hL x hm
      have hne := h0 x hm
      have hlx := hl x hm
      have hacc : acc.length ≤ 900 := by rw [← ha] at hj; simp at hj; omega
      have hd : (xs.map Ln.cs).drop i = x.cs :: (xs.map Ln.cs).drop (i + 1) := by
        rw [List.drop_eq_getElem_cons (by simpa using hi)]
        congr 1
        rw [List.getElem_map, (List.getElem?_eq_some_iff.mp hxi).2]
      refine seq_step (fun l'' st'' => l'' 0 = some (.loc b) ∧ l'' 1 = some (.loc f) ∧ l'' 2 = some (.int i) ∧ l'' 3 = some (.loc x.a) ∧ st' = st'' ∧ i + 1 < xs.length) ?_ ?_
      · walk_at "ms"
        simp only [g0, Option.some.injEq, exists_eq_left']
        refine len_at (x₂.at hb) (by rw [lns_len]; omega) ?_
        rw [lns_len]
        walk_at "ms"
        refine ⟨fun he => ?_, fun he => ?_⟩
        · refine seq_step (fun l'' st'' => l'' 0 = some (.loc b) ∧ l'' 1 = some (.loc f) ∧ Ext st st'' ∧ ∃ acc, st'' f = some (.list (avs acc)) ∧ acc ++ joinL ((xs.map Ln.cs).drop (i + 1)) = joinL (xs.map Ln.cs)) ?_ ?_
          · walk_at "ms"
            simp only [g1, Option.some.injEq, exists_eq_left']
            refine ext_at e₂ ?_
            walk_at "ms"
            refine at_cells (L.ext x₂) ?_
            walk_at "mo"
            refine at_meth (L.ext x₂) (f := 234) (by decide) (by intros; unfold lineD; rfl) ?_
            walk_at "ms"
            refine c_used (by omega) (L.ext x₂) (by omega) fun k hk hs => ?_
            refine slice_new (L.ext x₂).k hk (by omega) fun s st₃ x₃ hs₃ e₃ => ?_
            have sf : s ≠ f := fun z => by rw [z, e₂] at hs₃; cases hs₃
            refine ⟨_, _, x₃.at e₂, .inl ⟨s, rfl, sf, e₃⟩, by rw [avs_len]; omega, by rw [avs_len]; simp [List.length_take]; omega, ?_⟩
            have x₄ := (x₂.trans x₃).upd (o := .list (avs acc ++ avs (x.cs.take k))) hf
            walk_at "fin"
            refine ⟨acc ++ x.cs.take k, ?_, ?_⟩
            · rw [upd_same]; simp [avs]
            · rw [hd, List.drop_eq_nil_of_le (by simp; omega)] at ha
              rw [List.drop_eq_nil_of_le (by simp; omega), ← ha, ← hs]; simp [joinL]
          rintro l'' st'' ⟨g0, g1, x₃, r⟩
          walk_at "mc"
          exact ⟨g0, g1, x₃, r⟩
        · have : i + 1 < xs.length := by omega
          walk_at "fin"
      rintro l'' _ ⟨g0, g1, g2, g3, rfl, hlt⟩
      obtain ⟨y, hyi⟩ : ∃ y, xs[i + 1]? = some y := ⟨_, List.getElem?_eq_getElem hlt⟩
      have hmy := List.mem_of_getElem? hyi
      have L' := hL y hmy
      have hney := h0 y hmy
      have hd' : (xs.map Ln.cs).drop (i + 1) = y.cs :: (xs.map Ln.cs).drop (i + 1 + 1) := by
        rw [List.drop_eq_getElem_cons (by simpa using hlt)]
        congr 1
        rw [List.getElem_map, (List.getElem?_eq_some_iff.mp hyi).2]
      rw [hd, hd'] at ha
      obtain ⟨R, c, hR⟩ : ∃ R c, x.cs = R ++ [c] := ⟨_, _, (List.dropLast_concat_getLast hne).symm⟩
      obtain ⟨e, y', hY⟩ : ∃ e y', y.cs = e :: y' := by cases q : y.cs with | nil => exact absurd q hney | cons e y' => exact ⟨e, y', rfl⟩
      refine seq_step (fun l'' st'' => l'' 0 = some (.loc b) ∧ l'' 1 = some (.loc f) ∧ Ext st st'' ∧ st'' f = some (.list (avs acc)) ∧ ∃ g, l'' 4 = some (.loc g) ∧ l'' 5 = some (.loc y.c) ∧ st g = none ∧ g ≠ f ∧ st'' g = some (.list (avs x.cs))) ?_ ?_
      · walk_at "ms"
        simp only [g0, g2, g3, Option.some.injEq, exists_eq_left']
        refine at_cells (L.ext x₂) (list_at (L.ext x₂).k (by rw [avs_len]; omega) fun g hg => ?_)
        have x₃ := x₂.trans (Ext.new (o := .list (avs x.cs)) hg)
        walk_at "mo"
        refine sub_at (x₃.at hb) (by omega) (by omega) (lns_get (x := y) (by rw [show ((i : Int) + 1).toNat = i + 1 by omega]; exact hyi)) ?_
        refine at_cells (L'.ext x₃) ?_
        have gf : f ≠ g := ne_of e₂ hg
        have e₃ : upd st' g (.list (avs x.cs)) f = some (.list (avs acc)) := by rw [upd_ne gf]; exact e₂
        have e₄ : upd st' g (.list (avs x.cs)) g = some (.list (avs x.cs)) := upd_same
        walk_at "mo"
        refine ⟨_, _, rfl, rfl, ?_⟩
        exact ⟨by simp [put]; exact g0, by simp [put]; exact g1, x₃, e₃, g, rfl, rfl, x₂.out hg, gf.symm, e₄⟩
      rintro l'' st₃ ⟨g0, g1, x₃, e₃, g, g4, g5, hg, gf, e₄⟩
      have hcb : ∀ m, Ext st (upd st₃ m (.list [])) → st₃ m = none → upd st₃ m (.list []) g = some (.list (avs x.cs)) ∧ upd st₃ m (.list []) f = some (.list (avs acc)) := fun m _ hm => ⟨upd_at e₄ hm, upd_at e₃ hm⟩
      refine seq_step (fun l'' st'' => l'' 0 = some (.loc b) ∧ l'' 1 = some (.loc f) ∧ Ext st st'' ∧ st'' f = some (.list (avs acc)) ∧ l'' 4 = some (.loc g) ∧ st'' g = some (.list (avs (dropPad x.cs y.cs)))) ?_ ?_
      · walk_at "ms"
        simp only [g4, g5, Option.some.injEq, exists_eq_left']
        intro m hm
        have x₄ : Ext st (upd st₃ m (.list [])) := x₃.upd (x₃.out hm)
        obtain ⟨e₅, e₆⟩ := hcb m x₄ hm
        rw [cmp_nev (eqv_lnil e₅ upd_same)]
        walk_at "ms"
        refine ⟨fun _ => ?_, fun h => ?_⟩
        · rw [hR] at e₅
          refine sub_last (ds := avs R) (v := c.av) (by rw [e₅]; simp [avs]) (by rw [avs_len]; rw [hR] at hlx; simp at hlx; omega) ?_
          refine c_is_blank (by omega) ?_
          walk_at "ms"
          refine ⟨fun hc => ?_, fun hc => ?_⟩
          · intro m' hm'
            have x₅ := x₄.upd (o := .list []) (x₄.out hm')
            rw [cmp_nev (eqv_lnil ((L'.ext x₅).k) upd_same)]
            walk_at "ms"
            refine ⟨fun _ => ?_, fun h => ?_⟩
            · refine sub_at (L'.ext x₅).k (by omega) (by omega) (avs_get (c := e) (by rw [hY]; rfl)) ?_
              walk_at "ms"
              refine ⟨fun hw => ?_, fun hw => ?_⟩
              · walk_at "mc"
                simp only [g4, Option.some.injEq, exists_eq_left']
                have e₇ := upd_at (o' := .list []) e₅ hm'
                refine pop_at (ds := avs R) (y := c.av) (by rw [e₇]; simp [avs]) (by rw [avs_len]; rw [hR] at hlx; simp at hlx; omega) ?_
                have z1 := x₅.upd (o := .list (avs R)) hg
                have z2 : upd (upd (upd st₃ m (.list [])) m' (.list [])) g (.list (avs R)) f = some (.list (avs acc)) := by rw [upd_ne gf.symm]; exact upd_at e₆ hm'
                have z3 : upd (upd (upd st₃ m (.list [])) m' (.list [])) g (.list (avs R)) g = some (.list (avs (dropPad x.cs y.cs))) := by rw [upd_same, dropPad, hR, hY, padded_snoc, hc, hw]; simp
                walk_at "fin"
              · walk_at "mo"
                have z2 := upd_at (o' := .list []) e₆ hm'
                have z3 : upd (upd st₃ m (.list [])) m' (.list []) g = some (.list (avs (dropPad x.cs y.cs))) := by rw [upd_at e₅ hm', dropPad, hR, hY, padded_snoc, hc, show (e.w == 2) = false by simpa using hw]; simp
                walk_at "fin"
            · exfalso; rw [hY] at h; simp at h
          · walk_at "mo"
            have z3 : upd st₃ m (.list []) g = some (.list (avs (dropPad x.cs y.cs))) := by rw [e₅, dropPad, hR, hY, padded_snoc, hc]; simp
            walk_at "fin"
        · exfalso; rw [hR] at h; simp at h
      rintro l'' st₄ ⟨g0, g1, x₄, e₅, g4, e₆⟩
      walk_at "mc"
      simp only [g1, Option.some.injEq, exists_eq_left']
      refine ext_at e₅ ?_
      walk_at "ms"
      simp only [g4, Option.some.injEq, exists_eq_left']
      have hdp : (dropPad x.cs y.cs).length ≤ 100 := by unfold dropPad; split <;> (try simp only [List.length_dropLast]) <;> omega
      refine ⟨_, _, e₅, .inl ⟨g, rfl, gf, e₆⟩, by rw [avs_len]; omega, by rw [avs_len]; omega, ?_⟩
      have x₅ := x₄.upd (o := .list (avs acc ++ avs (dropPad x.cs y.cs))) hf
      walk_at "fin"
      refine ⟨acc ++ dropPad x.cs y.cs, ?_, ?_⟩
      · rw [upd_same]; simp [avs]
      · rw [hd', ← ha]; simp [joinL]
    · rintro l' st' ⟨g0, g1, x₂, acc, e₂, ha⟩
      rw [List.drop_eq_nil_of_le (by simp [lns])] at ha
      walk_at "ms"
      refine ⟨g1, x₂, ?_⟩
      rw [e₂, ← ha]; simp [joinL]
  rintro l st₂ ⟨g2, x₂, e₂⟩
  walk_at "mc"
  simp only [g2, Option.some.injEq, exists_eq_left']
  exact q f st₂ x₂ hf e₂
end
end Mine

end

section
set_option linter.unusedVariables false
set_option linter.unusedSimpArgs false
set_option maxHeartbeats 1000000
namespace Mine
open PySem
local macro_rules | `(tactic| walk_at "ms") => `(tactic| simp only [ev_lit, ev_var, ev_tup, ev_list, ev_dict, ev_bin, ev_fdiv, ev_neg, ev_not, ev_and, ev_or, ev_if, ev_cmp, ev_cmp2, ev_call, ev_meth, ev_app, ev_ext, ev_pop, ev_attr, ev_sub, ev_slice, ev_rev, ev_len, ev_max, ev_min, ev_listOf, ev_intOf, ev_all, ev_comp,
  evs_nil, evs_cons, ts_val, ts_not, ts_and, ts_or, ts_if, it_list, it_enum, it_zip, it_r1, it_r2, ex_expr, ex_ret, ex_retN, ex_asg, ex_asgT, ex_setattr, ex_setsub, ex_setslice, ex_aug, ex_ite, ex_for, ex_while, ex_cont, exPs_nil,
  seqQ, turnQ, retQ, truth_bool, bin_add, bin_sub, bin_mul, bin_md, neg_int, max_int, min_int, int_int, aug_add, aug_sub, cmp_lt, cmp_le, cmp_gt, cmp_ge, cmp_eq, cmp_ne, cmp_eqb, cmp_neb, cmp_eqs, cmp_nes, cmp_eqc, cmp_nec, cmp_eq0, cmp_ne0,
  sub_cell0, sub_cell1, sub_cell2, sub_cell3, sub_pen2, put, argsOf, List.cons_append, List.nil_append, List.append_nil, List.drop_nil, List.length_cons, List.length_nil, List.getElem?_cons_zero, List.getElem?_cons_succ, Option.some.injEq, exists_eq_left', List.length_map, Nat.reduceAdd, Nat.reduceSub, Nat.reduceEqDiff, Nat.reduceLeDiff, if_true, if_false, ite_true, ite_false, reduceIte, true_and, and_true, Nat.zero_le,
  reduceCtorEq, eq_self, false_implies, true_implies, implies_true, decide_eq_true_eq, decide_eq_false_iff_not, beq_iff_eq, Bool.not_eq_true', Bool.not_eq_false', Bool.and_eq_true, Bool.or_eq_true, beq_eq_false_iff_ne, ne_eq])
local macro_rules | `(tactic| walk_at "mc") => `(tactic| (rw [exPs_cons]; walk_at "ms"))
local macro_rules | `(tactic| walk_at "fin") => `(tactic| repeat' (first | assumption | exact trivial | exact rfl | apply And.intro))
local macro_rules | `(tactic| walk_at "mo") => `(tactic| try (walk_at "ms"))
structure U where
  big : Bool
  c : Cell
def U.flat (u : U) : List Cell := if u.big then [u.c, right u.c] else [u.c]
structure U.Ok (u : U) : Prop where
  w : u.c.w = if u.big then 2 else 1
  k : u.c.codes.length ≤ 5
abbrev flat (us : List U) : List Cell := us.flatMap U.flat
def sz (wide : Nat) (u : U) : Nat := if u.big ∧ 2 ≤ wide then 2 else 1
def szs (wide : Nat) : List U → Nat
  | [] => 0
  | u :: r => sz wide u + szs wide r
theorem szs_app (wide : Nat) (a b : List U) : szs wide (a ++ b) = szs wide a + szs wide b := by
  induction a with
  | nil => simp [szs]
  | cons u r ih => simp [szs, ih]; omega
def fillU (wide : Nat) : List U → List U → List (List U)
  | cur, [] => [cur]
  | cur, u :: us => if szs wide cur + sz wide u > wide then cur :: fillU wide [u] us else fillU wide (cur ++ [u]) us
theorem sz_pos (wide : Nat) (u : U) : 1 ≤ sz wide u := by unfold sz; split <;> omega
theorem sz_le {wide : Nat} (h : 1 ≤ wide) (u : U) : sz wide u ≤ wide := by unfold sz; split <;> omega
theorem flat_len1 (u : U) : u.flat.length = if u.big then 2 else 1 := by unfold U.flat; split <;> rfl
theorem flat_sz {wide : Nat} (h : 2 ≤ wide) (us : List U) : (flat us).length = szs wide us := by
  induction us with
  | nil => rfl
  | cons u r ih =>
    simp only [flat, List.flatMap_cons, List.length_append, szs] at ih ⊢
    rw [ih, flat_len1]; unfold sz; cases u.big <;> simp; omega
theorem flat_pos {us : List U} (h : us ≠ []) : 1 ≤ (flat us).length := by
  cases us with
  | nil => exact absurd rfl h
  | cons u r => simp only [flat, List.flatMap_cons, List.length_append, flat_len1]; split <;> omega
theorem fill_take {wide : Nat} (hw : 1 ≤ wide) : ∀ (us cur : List U), szs wide cur ≤ wide → ∃ t r, us = t ++ r ∧ szs wide cur + szs wide t ≤ wide ∧ (r = [] → fillU wide cur us = [cur ++ t]) ∧
    (∀ u r', r = u :: r' → szs wide cur + szs wide t + sz wide u > wide ∧ fillU wide cur us = (cur ++ t) :: fillU wide [] r) := by
  intro us
  induction us with
  | nil => intro cur hc; exact ⟨[], [], rfl, by simpa [szs] using hc, fun _ => by simp [fillU], fun u r' h => by cases h⟩
  | cons u us ih =>
    intro cur hc
    by_cases hx : szs wide cur + sz wide u > wide
    · refine ⟨[], u :: us, rfl, by simpa [szs] using hc, (fun h => by cases h), fun u' r' h => ?_⟩
      cases h
      refine ⟨by simpa [szs] using hx, ?_⟩
      have := sz_le hw u
      rw [fillU, if_pos hx, fillU, if_neg (by simp [szs]; omega)]; simp
    · obtain ⟨t, r, h1, h2, h3, h4⟩ := ih (cur ++ [u]) (by rw [szs_app]; simp [szs]; omega)
      have e : fillU wide cur (u :: us) = fillU wide (cur ++ [u]) us := by rw [fillU, if_neg hx]
      rw [szs_app] at h2 h4
      simp only [szs, Nat.add_zero] at h2 h4
      refine ⟨u :: t, r, by rw [h1]; rfl, by simp only [szs]; omega, fun z => by rw [e, h3 z]; simp, fun u' r' z => ?_⟩
      obtain ⟨h5, h6⟩ := h4 u' r' z
      exact ⟨by simp only [szs]; omega, by rw [e, h6]; simp⟩
/-- the first line's share -/
theorem fill_first {wide : Nat} (hw : 1 ≤ wide) {us : List U} (hne : us ≠ []) : ∃ t r, us = t ++ r ∧ t ≠ [] ∧ szs wide t ≤ wide ∧ (r = [] → fillU wide [] us = [t]) ∧
    (r ≠ [] → fillU wide [] us = t :: fillU wide [] r) ∧ (∀ u r', r = u :: r' → szs wide t + sz wide u > wide) := by
  obtain ⟨t, r, h1, h2, h3, h4⟩ := fill_take hw us [] (by simp [szs])
  simp only [szs, Nat.zero_add, List.nil_append] at h2 h3 h4
  refine ⟨t, r, h1, fun z => ?_, h2, h3, fun z => ?_, fun u r' z => (h4 u r' z).1⟩
  · subst z
    cases us with
    | nil => exact hne rfl
    | cons u us =>
      have := (h4 u us (by simpa using h1.symm)).1
      have := sz_le hw u
      simp [szs] at *; omega
  · cases r with
    | nil => exact absurd rfl z
    | cons u r' => exact (h4 u r' rfl).2
theorem szs_one {t : List U} (h : szs 1 t ≤ 1) (hne : t ≠ []) : ∃ u, t = [u] := by
  cases t with
  | nil => exact absurd rfl hne
  | cons u r =>
    cases r with
    | nil => exact ⟨u, rfl⟩
    | cons v r =>
      have := sz_pos 1 u
      have := sz_pos 1 v
      simp only [szs] at h; omega
theorem flat_head {us : List U} {u : U} {r : List U} (h : us = u :: r) : ∃ y, flat us = u.c :: y ∧ (u.big = true → ∃ z, y = right u.c :: z) := by
  subst h
  simp only [flat, List.flatMap_cons, U.flat]
  cases u.big with
  | true => exact ⟨_, rfl, fun _ => ⟨_, rfl⟩⟩
  | false => exact ⟨_, rfl, nofun⟩
/-- where a line's share ends -/
theorem cut_stop {wide : Nat} (hw : 1 ≤ wide) {dn t r : List U} (hok : ∀ u ∈ r, u.Ok) (hokt : ∀ u ∈ t, u.Ok) (hne : t ≠ []) (hs : szs wide t ≤ wide) (hr : ∀ u r', r = u :: r' → szs wide t + sz wide u > wide) {row : List Cell} (hrow : row = flat dn ++ (flat t ++ flat r)) :
    let p := (flat dn).length; let e := p + (flat t).length; let S := min (p + wide) row.length
    (S = row.length ∧ S = e) ∨ (∃ x, S < row.length ∧ row[S]? = some x ∧ x.w ≠ 0 ∧ S = e) ∨ (∃ x, S < row.length ∧ row[S]? = some x ∧ x.w = 0 ∧ 1 < wide ∧ S = p + wide ∧ S = e + 1) ∨ (∃ x, S < row.length ∧ row[S]? = some x ∧ x.w = 0 ∧ S = p + 1 ∧ S + 1 = e) := by
  intro p e S
  have hlen : row.length = p + ((flat t).length + (flat r).length) := by rw [hrow]; simp [p]
  by_cases h1 : wide = 1
  · subst h1
    obtain ⟨u, rfl⟩ := szs_one hs hne
    obtain ⟨y, hy, hz⟩ := flat_head (us := [u]) rfl
    cases hb : u.big with
    | true =>
      have hl : (flat [u]).length = 2 := by simp [flat, U.flat, hb]
      have hS : S = p + 1 := by simp only [S]; omega
      refine .inr (.inr (.inr ⟨right u.c, by omega, ?_, rfl, hS, by simp only [e]; omega⟩))
      rw [hrow, hS, List.getElem?_append_right (by omega)]
      simp [p, flat, U.flat, hb]
    | false =>
      have hl : (flat [u]).length = 1 := by simp [flat, U.flat, hb]
      by_cases hr0 : r = []
      · subst hr0
        refine .inl ⟨?_, ?_⟩ <;> simp only [S, e] <;> (have hl0 : (flat ([] : List U)).length = 0 := rfl) <;> omega
      · obtain ⟨v, r', rfl⟩ : ∃ v r', r = v :: r' := by cases r with | nil => exact absurd rfl hr0 | cons v r' => exact ⟨v, r', rfl⟩
        have hp := flat_pos hr0
        obtain ⟨y', hy', _⟩ := flat_head (us := v :: r') rfl
        have hS : S = p + 1 := by simp only [S]; omega
        refine .inr (.inl ⟨v.c, by omega, ?_, ?_, by simp only [e]; omega⟩)
        · rw [hrow, hS, List.getElem?_append_right (by omega), List.getElem?_append_right (by simp only [p]; omega), hy']
          rw [show p + 1 - (flat dn).length - (flat [u]).length = 0 by simp only [p]; omega]; rfl
        · rw [(hok v (by simp)).w]; split <;> omega
  · have h2 : 2 ≤ wide := by omega
    have hft := flat_sz h2 t
    by_cases hr0 : r = []
    · subst hr0
      refine .inl ⟨?_, ?_⟩ <;> simp only [S, e] <;> (have hl0 : (flat ([] : List U)).length = 0 := rfl) <;> omega
    · obtain ⟨v, r', rfl⟩ : ∃ v r', r = v :: r' := by cases r with | nil => exact absurd rfl hr0 | cons v r' => exact ⟨v, r', rfl⟩
      have hp := flat_pos hr0
      obtain ⟨y', hy', hz'⟩ := flat_head (us := v :: r') rfl
      have hv := hr v r' rfl
      by_cases hful : (flat t).length = wide
      · have hS : S = p + wide := by simp only [S]; omega
        refine .inr (.inl ⟨v.c, by omega, ?_, ?_, by simp only [e]; omega⟩)
        · rw [hrow, hS, List.getElem?_append_right (by omega), List.getElem?_append_right (by simp only [p]; omega), hy']
          rw [show p + wide - (flat dn).length - (flat t).length = 0 by simp only [p]; omega]; rfl
        · rw [(hok v (by simp)).w]; split <;> omega
      · have hb : v.big = true := by
          cases hb : v.big with
          | true => rfl
          | false => rw [sz, hb] at hv; simp at hv; omega
        have hsz : sz wide v = 2 := by rw [sz, if_pos ⟨hb, h2⟩]
        obtain ⟨z, rfl⟩ := hz' hb
        have hl2 : 2 ≤ (flat (v :: r')).length := by rw [hy']; simp
        have hS : S = p + wide := by simp only [S]; omega
        refine .inr (.inr (.inl ⟨right v.c, by omega, ?_, rfl, by omega, hS, by simp only [e]; omega⟩))
        rw [hrow, hS, List.getElem?_append_right (by omega), List.getElem?_append_right (by simp only [p]; omega), hy']
        rw [show p + wide - (flat dn).length - (flat t).length = 1 by simp only [p]; omega]; rfl
def lineC (wide : Nat) (pen : Pen) (t : List U) : List Cell := fixB ((flat t).take wide) ++ List.replicate (wide - (fixB ((flat t).take wide)).length) (blank pen)
theorem fixF_flat {us : List U} (hok : ∀ u ∈ us, u.Ok) : fixF (flat us) = flat us := by
  cases us with
  | nil => rfl
  | cons u r =>
    obtain ⟨y, hy, _⟩ := flat_head (us := u :: r) rfl
    rw [hy, fixF, if_neg]
    rw [(hok u (by simp)).w]; split <;> omega
theorem snoc_of {α : Type} {xs : List α} (h : xs ≠ []) : ∃ R c, xs = R ++ [c] := ⟨_, _, (List.dropLast_concat_getLast h).symm⟩
theorem flat_last (us : List U) (u : U) : ∃ R, flat (us ++ [u]) = R ++ [if u.big then right u.c else u.c] := by
  simp only [flat, List.flatMap_append, List.flatMap_cons, List.flatMap_nil, List.append_nil, U.flat]
  cases u.big with
  | true => exact ⟨us.flatMap U.flat ++ [u.c], by simp⟩
  | false => exact ⟨us.flatMap U.flat, by simp⟩
theorem fixL_flat {us : List U} (hok : ∀ u ∈ us, u.Ok) : fixL (flat us) = flat us := by
  by_cases h : us = []
  · subst h; rfl
  · obtain ⟨R, u, rfl⟩ := snoc_of h
    obtain ⟨R', e⟩ := flat_last R u
    rw [e, fixL_snoc, if_neg]
    cases hb : u.big with
    | true => simp [right]
    | false => simp only [Bool.false_eq_true, if_false]; rw [(hok u (by simp)).w, hb]; simp
theorem fixB_flat {us : List U} (hok : ∀ u ∈ us, u.Ok) : fixB (flat us) = flat us := by unfold fixB; rw [fixF_flat hok, fixL_flat hok]
theorem lineC_2 {wide : Nat} (h2 : 2 ≤ wide) {pen : Pen} {t : List U} (hok : ∀ u ∈ t, u.Ok) (hs : szs wide t ≤ wide) : lineC wide pen t = flat t ++ List.replicate (wide - szs wide t) (blank pen) := by
  unfold lineC
  have := flat_sz h2 t
  rw [List.take_of_length_le (by omega), fixB_flat hok, this]
theorem lineC_1 {pen : Pen} (u : U) (hok : u.Ok) : lineC 1 pen [u] = [if u.big then blank u.c.pen else u.c] := by
  unfold lineC
  have hw := hok.w
  cases hb : u.big with
  | true => rw [hb] at hw; simp [flat, U.flat, hb, fixB, fixF, fixL, hw]
  | false => rw [hb] at hw; simp [flat, U.flat, hb, fixB, fixF, fixL, hw]
theorem lineC_len {wide : Nat} {pen : Pen} (t : List U) : (lineC wide pen t).length = wide := by
  unfold lineC
  rw [List.length_append, fixB_len, List.length_replicate, List.length_take]; omega
/-- a list of cells is whole -/
theorem whole_flat {nb : Cell → Cell → Bool} (hnb : ∀ c, nb c (right c) = false) : ∀ {us : List U} (p : Option Cell), (∀ u ∈ us, u.c.w = if u.big then 2 else 1) → wholeG nb p (flat us) = true := by
  intro us
  induction us with
  | nil => intro p _; rfl
  | cons u r ih =>
    intro p h
    have hu := h u (by simp)
    simp only [flat, List.flatMap_cons, U.flat] at ih ⊢
    cases hb : u.big with
    | true =>
      rw [hb] at hu
      simp only [if_true, List.cons_append, List.nil_append, wholeG, hnb, hu, right]
      simp
      exact ⟨hnb u.c, ih _ fun u hu => h u (by simp [hu])⟩
    | false =>
      rw [hb] at hu
      simp only [Bool.false_eq_true, if_false, List.cons_append, List.nil_append, wholeG, hu] at hu ⊢
      simp [hu]
      exact ih _ fun u hu => h u (by simp [hu])
def mkB (pen : Pen) : U := ⟨false, blank pen⟩
theorem flat_mkB (k : Nat) (pen : Pen) : flat (List.replicate k (mkB pen)) = List.replicate k (blank pen) := by
  induction k with
  | zero => rfl
  | succ k ih => simp only [flat, List.replicate_succ, List.flatMap_cons] at ih ⊢; rw [ih]; rfl
theorem flat_app (a b : List U) : flat (a ++ b) = flat a ++ flat b := by simp [flat]
theorem nbR_right (c : Cell) : nbR c (right c) = false := by unfold nbR; rw [Cell.eqb_self]; rfl
theorem nbL_right (c : Cell) : nbL c (right c) = false := rfl
theorem mkB_ok (pen : Pen) : (mkB pen).Ok := ⟨rfl, by simp [mkB, blank]⟩
theorem lineC_units {wide : Nat} (hw : 1 ≤ wide) {pen : Pen} {t : List U} (hok : ∀ u ∈ t, u.Ok) (hs : szs wide t ≤ wide) : ∃ us, (∀ u ∈ us, u.Ok) ∧ lineC wide pen t = flat us := by
  by_cases h2 : 2 ≤ wide
  · refine ⟨t ++ List.replicate (wide - szs wide t) (mkB pen), ?_, ?_⟩
    · intro u hu
      rcases List.mem_append.mp hu with h | h
      · exact hok u h
      · rw [List.eq_of_mem_replicate h]; exact mkB_ok pen
    · rw [lineC_2 h2 hok hs, flat_app, flat_mkB]
  · have : wide = 1 := by omega
    subst this
    by_cases ht : t = []
    · subst ht; exact ⟨[mkB pen], by simp [mkB_ok], by simp [lineC, fixB, fixF, fixL, flat, U.flat, mkB]⟩
    · obtain ⟨u, rfl⟩ := szs_one hs ht
      rw [lineC_1 u (hok u (by simp))]
      cases hb : u.big with
      | true => exact ⟨[mkB u.c.pen], by simp [mkB_ok], by simp [flat, U.flat, mkB]⟩
      | false => exact ⟨[u], by simpa using hok, by simp [flat, U.flat, hb]⟩
theorem lineC_whole {wide : Nat} (hw : 1 ≤ wide) {pen : Pen} {t : List U} (hok : ∀ u ∈ t, u.Ok) (hs : szs wide t ≤ wide) : wholeG nbR none (lineC wide pen t) = true := by
  obtain ⟨us, h1, h2⟩ := lineC_units hw (pen := pen) hok hs
  rw [h2]
  exact whole_flat nbR_right none fun u hu => (h1 u hu).w
theorem fill_all {wide : Nat} (hw : 1 ≤ wide) : ∀ (us cur : List U), szs wide cur ≤ wide → ∀ t ∈ fillU wide cur us, szs wide t ≤ wide ∧ ∀ u ∈ t, u ∈ cur ∨ u ∈ us := by
  intro us
  induction us with
  | nil => intro cur hc t ht; simp only [fillU, List.mem_singleton] at ht; subst ht; exact ⟨hc, fun u h => .inl h⟩
  | cons u us ih =>
    intro cur hc t ht
    rw [fillU] at ht
    split at ht
    · rcases List.mem_cons.mp ht with h | h
      · subst h; exact ⟨hc, fun u h => .inl h⟩
      · obtain ⟨h1, h2⟩ := ih [u] (by simp [szs]; exact sz_le hw u) t h
        exact ⟨h1, fun v hv => by rcases h2 v hv with h | h <;> simp_all⟩
    · obtain ⟨h1, h2⟩ := ih (cur ++ [u]) (by rw [szs_app]; simp [szs]; omega) t ht
      exact ⟨h1, fun v hv => by rcases h2 v hv with h | h <;> simp_all <;> grind⟩
end Mine

end

section
set_option linter.unusedVariables false
set_option linter.unusedSimpArgs false
set_option maxHeartbeats 1000000
namespace Mine
open PySem
local macro_rules | `(tactic| walk_at "ms") => `(tactic| simp only [ev_lit, ev_var, ev_tup, ev_list, ev_dict, ev_bin, ev_fdiv, ev_neg, ev_not, ev_and, ev_or, ev_if, ev_cmp, ev_cmp2, ev_call, ev_meth, ev_app, ev_ext, ev_pop, ev_attr, ev_sub, ev_slice, ev_rev, ev_len, ev_max, ev_min, ev_listOf, ev_intOf, ev_all, ev_comp,
  evs_nil, evs_cons, ts_val, ts_not, ts_and, ts_or, ts_if, it_list, it_enum, it_zip, it_r1, it_r2, ex_expr, ex_ret, ex_retN, ex_asg, ex_asgT, ex_setattr, ex_setsub, ex_setslice, ex_aug, ex_ite, ex_for, ex_while, ex_cont, exPs_nil,
  seqQ, turnQ, retQ, truth_bool, bin_add, bin_sub, bin_mul, bin_md, neg_int, max_int, min_int, int_int, aug_add, aug_sub, cmp_lt, cmp_le, cmp_gt, cmp_ge, cmp_eq, cmp_ne, cmp_eqb, cmp_neb, cmp_eqs, cmp_nes, cmp_eqc, cmp_nec, cmp_eq0, cmp_ne0,
  sub_cell0, sub_cell1, sub_cell2, sub_cell3, sub_pen2, put, argsOf, List.cons_append, List.nil_append, List.append_nil, List.drop_nil, List.length_cons, List.length_nil, List.getElem?_cons_zero, List.getElem?_cons_succ, Option.some.injEq, exists_eq_left', List.length_map, Nat.reduceAdd, Nat.reduceSub, Nat.reduceEqDiff, Nat.reduceLeDiff, if_true, if_false, ite_true, ite_false, reduceIte, true_and, and_true, Nat.zero_le,
  reduceCtorEq, eq_self, false_implies, true_implies, implies_true, decide_eq_true_eq, decide_eq_false_iff_not, beq_iff_eq, Bool.not_eq_true', Bool.not_eq_false', Bool.and_eq_true, Bool.or_eq_true, beq_eq_false_iff_ne, ne_eq])
local macro_rules | `(tactic| walk_at "mc") => `(tactic| (rw [exPs_cons]; walk_at "ms"))
local macro_rules | `(tactic| walk_at "fin") => `(tactic| repeat' (first | assumption | exact trivial | exact rfl | apply And.intro))
local macro_rules | `(tactic| walk_at "mo") => `(tactic| try (walk_at "ms"))
theorem cut_mid (A B C : List Cell) : cut (avs (A ++ (B ++ C))) A.length (A.length + B.length) = avs B := by
  unfold cut avs
  simp [List.take_append]
theorem flat_ge (dn : List U) : dn.length ≤ (flat dn).length := by
  induction dn with
  | nil => simp
  | cons u r ih => simp only [flat, List.flatMap_cons, List.length_append, List.length_cons, flat_len1] at ih ⊢; split <;> omega
def fillN (wide : Nat) : List U → List (List U)
  | [] => []
  | u :: r => fillU wide [] (u :: r)
theorem fillN_ne {wide : Nat} {us : List U} (h : us ≠ []) : fillN wide us = fillU wide [] us := by cases us with | nil => exact absurd rfl h | cons _ _ => rfl
def NewLines (st : Sto) (wide : Nat) (pen : Pen) (us : List U) (Q : AV → Sto → Prop) : Prop := ∀ b' st' xs, Ext st st' → st b' = none → st' b' = some (.list (lns xs)) → (∀ x ∈ xs, x.At st') →
  xs.map Ln.cs = (fillU wide [] us).map (lineC wide pen) → xs.map Ln.wr = List.replicate (xs.length - 1) true ++ [false] → Q (.loc b') st'
section
variable {st : Sto} {n : Nat} {Q : AV → Sto → Prop}
theorem c_cells_cut (hn : 6 ≤ n) {b : Addr} {us : List U} {wide : Nat} {pen : Pen} (hb : st b = some (.list (avs (flat us)))) (hw : 1 ≤ wide) (hw2 : wide ≤ 10) (hl : (flat us).length ≤ 100) (hok : ∀ u ∈ us, u.Ok) (q : NewLines st wide pen us Q) :
    Calls tab prg n 277 [.loc b, .int wide, pen.av] st Q := by
  refine call_fn rfl (by omega) (by simp) ?_
  unfold m_cells_cut
  refine seq_step (fun l' st' => l' 0 = some (.loc b) ∧ l' 1 = some (.int wide) ∧ l' 2 = some pen.av ∧ ∃ f, l' 3 = some (.loc f) ∧ l' 4 = some (.int 0) ∧ Ext st st' ∧ st f = none ∧ st' f = some (.list [])) ?_ ?_
  · walk_at "ms"
    intro f hf
    have x := Ext.new (o := .list []) hf
    have e : upd st f (.list []) f = some (.list []) := upd_same
    refine ⟨_, _, rfl, rfl, rfl, rfl, rfl, f, rfl, rfl, x, hf, e⟩
  rintro l st₁ ⟨g0, g1, g2, F, g3, g4, x₁, hF, e₁⟩
  refine seq_step (fun l' st' => l' 1 = some (.int wide) ∧ l' 2 = some pen.av ∧ l' 3 = some (.loc F) ∧ Ext st st' ∧ ∃ xs ts, st' F = some (.list (lns xs)) ∧ (∀ x ∈ xs, x.At st') ∧ xs.map Ln.cs = ts.map (lineC wide pen) ∧ fillN wide us = ts ∧ (xs ≠ [] → xs.map Ln.wr = List.replicate (xs.length - 1) true ++ [false])) ?_ ?_
  · walk_at "ms"
    refine ⟨fun m l' st' => l' 0 = some (.loc b) ∧ l' 1 = some (.int wide) ∧ l' 2 = some pen.av ∧ l' 3 = some (.loc F) ∧ Ext st st' ∧ ∃ dn rest xs ts, us = dn ++ rest ∧ l' 4 = some (.int (flat dn).length) ∧ m = rest.length ∧ st' F = some (.list (lns xs)) ∧ (∀ x ∈ xs, x.At st' ∧ x.c ≠ F) ∧
      xs.map Ln.cs = ts.map (lineC wide pen) ∧ fillN wide us = ts ++ fillN wide rest ∧ xs.length ≤ dn.length ∧ (rest ≠ [] → xs.map Ln.wr = List.replicate xs.length true) ∧ (rest = [] → xs ≠ [] → xs.map Ln.wr = List.replicate (xs.length - 1) true ++ [false]), us.length, ⟨g0, g1, g2, g3, x₁, [], us, [], [], rfl, g4, rfl, e₁, nofun, rfl, rfl, by simp, fun _ => rfl, fun _ h => absurd rfl h⟩, ?_⟩
    rintro m l' st' ⟨g0, g1, g2, g3, x₁, dn, rest, xs, ts, hus, g4, rfl, eF, hxs, hcs, hfill, hxl, hwr1, hwr2⟩
    have hrow : flat us = flat dn ++ flat rest := by rw [hus, flat_app]
    have hrl : (flat us).length = (flat dn).length + (flat rest).length := by rw [hrow, List.length_append]
    have hdl := flat_ge dn
    walk_at "ms"
    simp only [g0, g4, Option.some.injEq, exists_eq_left']
    refine len_at (x₁.at hb) (by rw [avs_len]; omega) ?_
    rw [avs_len]
    walk_at "ms"
    refine ⟨fun hlt => ?_, fun hge => ?_⟩
    · have hne : rest ≠ [] := fun z => by subst z; have hl0 : (flat ([] : List U)).length = 0 := rfl; omega
      obtain ⟨t, r, h1, h2, h3, h4, h5, h6⟩ := fill_first hw hne
      have hrow' : flat us = flat dn ++ (flat t ++ flat r) := by rw [hrow, h1, flat_app]
      have hokt : ∀ u ∈ t, u.Ok := fun u h => hok u (by rw [hus, h1]; simp [h])
      have hokr : ∀ u ∈ r, u.Ok := fun u h => hok u (by rw [hus, h1]; simp [h])
      have hstop := cut_stop hw hokr hokt h2 h3 h6 hrow'
      have htp := flat_pos h2
      have hrl2 : (flat us).length = (flat dn).length + ((flat t).length + (flat r).length) := by rw [hrow', List.length_append, List.length_append]
      generalize hp : (flat dn).length = p at *
      simp only at hstop
      generalize hS : min (p + wide) (flat us).length = S at hstop
      refine seq_step (fun l'' st'' => l'' 0 = some (.loc b) ∧ l'' 1 = some (.int wide) ∧ l'' 2 = some pen.av ∧ l'' 3 = some (.loc F) ∧ l'' 4 = some (.int p) ∧ l'' 5 = some (.int S) ∧ st' = st'') ?_ ?_
      · walk_at "ms"
        simp only [g0, g1, g4, Option.some.injEq, exists_eq_left']
        walk_at "ms"
        refine len_at (x₁.at hb) (by rw [avs_len]; omega) ?_
        rw [avs_len]
        walk_at "ms"
        have : (if ((flat us).length : Int) < p + wide then ((flat us).length : Int) else p + wide) = S := by clear hstop; split <;> omega
        rw [this]
        walk_at "fin"
      rintro l₂ _ ⟨g0, g1, g2, g3, g4, g5, rfl⟩
      refine seq_step (fun l'' st'' => l'' 0 = some (.loc b) ∧ l'' 1 = some (.int wide) ∧ l'' 2 = some pen.av ∧ l'' 3 = some (.loc F) ∧ l'' 4 = some (.int p) ∧ l'' 5 = some (.int (p + (flat t).length)) ∧ st' = st'') ?_ ?_
      · walk_at "ms"
        simp only [g0, g4, g5, Option.some.injEq, exists_eq_left']
        refine len_at (x₁.at hb) (by rw [avs_len]; omega) ?_
        rw [avs_len]
        walk_at "ms"
        refine ⟨fun hlt2 => ?_, fun hge => ?_⟩
        · obtain ⟨x, hxS⟩ : ∃ x, (flat us)[S]? = some x := ⟨_, List.getElem?_eq_getElem (by omega)⟩
          refine sub_at (x₁.at hb) (by omega) (by omega) (avs_get (c := x) (by rw [show ((S : Int)).toNat = S by omega]; exact hxS)) ?_
          walk_at "ms"
          refine ⟨fun hx0 => ?_, fun hx0 => ?_⟩
          · refine ⟨fun hgt => ?_, fun hgt => ?_⟩
            · walk_at "mc"
              simp only [g5, Option.some.injEq, exists_eq_left']
              walk_at "ms"
              have e : (S : Int) - 1 = p + (flat t).length := by
                rcases hstop with h | ⟨y, _, hy, hy0, _⟩ | ⟨y, _, hy, hy0, _, _, _⟩ | ⟨y, _, hy, hy0, _, _⟩
                · omega
                · rw [hxS] at hy; cases hy; exact absurd hx0 hy0
                · omega
                · omega
              rw [e]; walk_at "fin"
            · walk_at "mc"
              simp only [g0, g5, Option.some.injEq, exists_eq_left']
              refine len_at (x₁.at hb) (by rw [avs_len]; omega) ?_
              rw [avs_len]
              walk_at "ms"
              refine ⟨fun _ => ?_, fun h => absurd hlt2 h⟩
              refine sub_at (x₁.at hb) (by omega) (by omega) (avs_get (c := x) (by rw [show ((S : Int)).toNat = S by omega]; exact hxS)) ?_
              walk_at "ms"
              refine ⟨fun _ => ?_, fun h => absurd hx0 h⟩
              walk_at "mc"
              simp only [g5, Option.some.injEq, exists_eq_left']
              walk_at "ms"
              have e : (S : Int) + 1 = p + (flat t).length := by
                rcases hstop with h | ⟨y, _, hy, hy0, _⟩ | ⟨y, _, hy, hy0, _, _, _⟩ | ⟨y, _, hy, hy0, _, _⟩
                · omega
                · rw [hxS] at hy; cases hy; exact absurd hx0 hy0
                · omega
                · omega
              rw [e]; walk_at "fin"
          · walk_at "mc"
            simp only [g0, g5, Option.some.injEq, exists_eq_left']
            refine len_at (x₁.at hb) (by rw [avs_len]; omega) ?_
            rw [avs_len]
            walk_at "ms"
            refine ⟨fun _ => ?_, fun h => absurd hlt2 h⟩
            refine sub_at (x₁.at hb) (by omega) (by omega) (avs_get (c := x) (by rw [show ((S : Int)).toNat = S by omega]; exact hxS)) ?_
            walk_at "ms"
            refine ⟨fun h => absurd h hx0, fun _ => ?_⟩
            have e : (S : Int) = p + (flat t).length := by
              rcases hstop with h | ⟨y, _, hy, hy0, _⟩ | ⟨y, _, hy, hy0, _, _, _⟩ | ⟨y, _, hy, hy0, _, _⟩
              · omega
              · omega
              · rw [hxS] at hy; cases hy; exact absurd hy0 hx0
              · rw [hxS] at hy; cases hy; exact absurd hy0 hx0
            rw [e]; walk_at "fin"
        · walk_at "mc"
          simp only [g0, g5, Option.some.injEq, exists_eq_left']
          refine len_at (x₁.at hb) (by rw [avs_len]; omega) ?_
          rw [avs_len]
          walk_at "ms"
          refine ⟨fun h => absurd h hge, fun _ => ?_⟩
          have e : (S : Int) = p + (flat t).length := by
            rcases hstop with h | ⟨y, h, _⟩ | ⟨y, h, _⟩ | ⟨y, h, _⟩ <;> omega
          rw [e]; walk_at "fin"
      rintro l₃ _ ⟨g0, g1, g2, g3, g4, g5, rfl⟩
      refine seq_step (fun l'' st'' => l'' 0 = some (.loc b) ∧ l'' 1 = some (.int wide) ∧ l'' 2 = some pen.av ∧ l'' 3 = some (.loc F) ∧ l'' 4 = some (.int p) ∧ l'' 5 = some (.int (p + (flat t).length)) ∧ ∃ a d c, l'' 6 = some (.loc a) ∧ Ext st' st'' ∧ st' a = none ∧ st' d = none ∧ st' c = none ∧ LineAt st'' a d c (List.replicate wide (blank pen)) false "single") ?_ ?_
      · walk_at "ms"
        simp only [g1, g2, Option.some.injEq, exists_eq_left']
        refine c_Line (by omega) (by omega) (by omega) ?_
        intro a d c st₂ x₂ ha hd hc L
        rw [show ((wide : Int)).toNat = wide by omega] at L
        walk_at "mo"
        walk_at "fin"
        exact ⟨a, d, c, rfl, x₂, ha, hd, hc, L⟩
      rintro l₄ st₂ ⟨g0, g1, g2, g3, g4, g5, a, d, c, g6, x₂, ha, hd, hc, L₂⟩
      refine seq_step (fun l'' st'' => l'' 0 = some (.loc b) ∧ l'' 1 = some (.int wide) ∧ l'' 2 = some pen.av ∧ l'' 3 = some (.loc F) ∧ l'' 5 = some (.int (p + (flat t).length)) ∧ l'' 6 = some (.loc a) ∧ Ext st' st'' ∧ LineAt st'' a d c (lineC wide pen t) false "single") ?_ ?_
      · walk_at "ms"
        simp only [g6, Option.some.injEq, exists_eq_left']
        refine at_meth L₂ (f := 176) (by decide) (by intros; unfold lineD; rfl) ?_
        walk_at "ms"
        simp only [g0, g4, g5, Option.some.injEq, exists_eq_left']
        refine slice_at (i := p) (j := p + (flat t).length) ((x₁.trans x₂).at hb) ?_ (by rw [avs_len]; omega) fun s hs => ?_
        · rw [avs_len]
          simp only [cutBounds, Mine.clip, Option.some.injEq, Prod.mk.injEq]
          constructor <;> (repeat' split) <;> omega
        · have hcut : cut (avs (flat us)) p (p + (flat t).length) = avs (flat t) := by rw [hrow', ← hp, cut_mid]
          rw [hcut]
          have x₃ := Ext.new (o := .list (avs (flat t))) hs
          refine c_put_cells (by omega) (L₂.ext x₃) upd_same (fun z => by rw [z] at htp; simp at htp) (by simp; omega) (by omega) (by simpa using hw) (by intro x hx; rw [List.eq_of_mem_replicate hx]; simp [blank]) ?_
          intro st₄ x₄ L₄
          have x₅ := (x₂.trans x₃).thru (P := fun x => x = c) (fun z hz => by rw [hz]; exact hc) x₄
          have L₅ : LineAt st₄ a d c (lineC wide pen t) false "single" := by
            rw [List.length_replicate, List.drop_replicate] at L₄; exact L₄
          walk_at "fin"
      rintro l₅ st₃ ⟨g0, g1, g2, g3, g5, g6, x₃, L₃⟩
      refine seq_step (fun l'' st'' => l'' 0 = some (.loc b) ∧ l'' 1 = some (.int wide) ∧ l'' 2 = some pen.av ∧ l'' 3 = some (.loc F) ∧ l'' 5 = some (.int (p + (flat t).length)) ∧ l'' 6 = some (.loc a) ∧ Ext st' st'' ∧ LineAt st'' a d c (lineC wide pen t) (decide (r ≠ [])) "single") ?_ ?_
      · walk_at "ms"
        simp only [g0, g5, g6, Option.some.injEq, exists_eq_left']
        refine len_at ((x₁.trans x₃).at hb) (by rw [avs_len]; omega) ?_
        rw [avs_len]
        walk_at "ms"
        have e : decide ((p : Int) + (flat t).length < (flat us).length) = decide (r ≠ []) := by
          by_cases hr0 : r = []
          · subst hr0
            have hl0 : (flat ([] : List U)).length = 0 := rfl
            rw [decide_eq_false (by omega), decide_eq_false (by simp)]
          · have := flat_pos hr0
            rw [decide_eq_true (by omega), decide_eq_true hr0]
        rw [e]
        refine set_wr L₃ fun L' => ?_
        have x₄ := x₃.upd (o := .dict (lineD (.loc c) (.bool (decide (r ≠ []))) (.str "single"))) hd
        walk_at "fin"
      rintro l₆ st₄ ⟨g0, g1, g2, g3, g5, g6, x₄, L₄⟩
      refine seq_step (fun l'' st'' => l'' 0 = some (.loc b) ∧ l'' 1 = some (.int wide) ∧ l'' 2 = some pen.av ∧ l'' 3 = some (.loc F) ∧ l'' 5 = some (.int (p + (flat t).length)) ∧ ExtX (fun z => z = F) st' st'' ∧ st'' F = some (.list (lns (xs ++ [⟨a, d, c, lineC wide pen t, decide (r ≠ [])⟩]))) ∧ LineAt st'' a d c (lineC wide pen t) (decide (r ≠ [])) "single") ?_ ?_
      · walk_at "ms"
        simp only [g3, g6, Option.some.injEq, exists_eq_left']
        have eF' := x₄.at eF
        refine app_at eF' ?_
        walk_at "ms"
        simp only [g6, Option.some.injEq, exists_eq_left']
        refine ⟨_, eF', by rw [lns_len]; omega, ?_⟩
        have x₅ := (x₄.toX (P := fun z => z = F)).upd (o := .list (lns xs ++ [.loc a])) rfl
        have e₅ : upd st₄ F (.list (lns xs ++ [.loc a])) F = some (.list (lns (xs ++ [⟨a, d, c, lineC wide pen t, decide (r ≠ [])⟩]))) := by rw [upd_same]; simp [lns]
        have L₅ : LineAt (upd st₄ F (.list (lns xs ++ [.loc a]))) a d c (lineC wide pen t) (decide (r ≠ [])) "single" := by
          refine ⟨?_, ?_, ?_⟩
          · rw [upd_ne (ne_of eF ha).symm]; exact L₄.o
          · rw [upd_ne (ne_of eF hd).symm]; exact L₄.f
          · rw [upd_ne (ne_of eF hc).symm]; exact L₄.k
        walk_at "mo"
        walk_at "fin"
      rintro l₇ st₅ ⟨g0, g1, g2, g3, g5, x₅, e₅, L₅⟩
      walk_at "mc"
      simp only [g5, Option.some.injEq, exists_eq_left']
      refine ⟨r.length, ?_, ?_⟩
      · rw [h1, List.length_append]
        cases t with
        | nil => exact absurd rfl h2
        | cons _ _ => simp only [List.length_cons]; omega
      · have x₆ : Ext st st₅ := x₁.thru (P := fun z => z = F) (fun z hz => by rw [hz]; exact hF) x₅
        walk_at "mo"
        refine ⟨g0, g1, g2, g3, x₆, dn ++ t, r, xs ++ [⟨a, d, c, lineC wide pen t, decide (r ≠ [])⟩], ts ++ [t], by rw [hus, h1, List.append_assoc], ?_, rfl, e₅, ?_, ?_, ?_, ?_, ?_, ?_⟩
        · rw [flat_app, List.length_append, hp]; rfl
        · intro x hx
          rcases List.mem_append.mp hx with h | h
          · obtain ⟨hAt, hcF⟩ := hxs x h
            have k1 : x.a ≠ F := fun z => by have := hAt.o; rw [z, eF] at this; cases this
            have k2 : x.d ≠ F := fun z => by have := hAt.f; rw [z, eF] at this; cases this
            exact ⟨⟨x₅.at k1 hAt.o, x₅.at k2 hAt.f, x₅.at hcF hAt.k⟩, hcF⟩
          · rw [List.mem_singleton.mp h]; exact ⟨L₅, (ne_of eF hc).symm⟩
        · simp [hcs]
        · by_cases hr0 : r = []
          · subst hr0; rw [hfill, fillN_ne hne, h4 rfl]; simp [fillN]
          · rw [hfill, fillN_ne hne, h5 hr0, fillN_ne hr0]; simp
        · cases t with
          | nil => exact absurd rfl h2
          | cons _ _ => simp only [List.length_append, List.length_cons, List.length_nil]; omega
        · intro hr0
          rw [List.map_append, hwr1 hne, List.length_append]
          simp [hr0, List.replicate_succ']
        · intro hr0 _
          rw [List.map_append, hwr1 hne, List.length_append]
          simp [hr0]
    · have hr0 : rest = [] := by
        cases hr : rest with
        | nil => rfl
        | cons u r => have := flat_pos (us := rest) (by rw [hr]; exact nofun); omega
      subst hr0
      walk_at "mo"
      refine ⟨g1, g2, g3, x₁, xs, ts, eF, fun x hx => (hxs x hx).1, hcs, by rw [hfill]; simp [fillN], fun h => hwr2 rfl h⟩
  rintro l st₂ ⟨g1, g2, g3, x₂, xs, ts, eF, hxs, hcs, hfill, hwr⟩
  walk_at "mc"
  simp only [g3, Option.some.injEq, exists_eq_left']
  intro m hm
  have x₃ := x₂.upd (o := .list []) (x₂.out hm)
  rw [cmp_nev (eqv_lnil (upd_at eF hm) upd_same)]
  walk_at "ms"
  by_cases hus : us = []
  · subst hus
    have hts : ts = [] := hfill.symm
    subst hts
    have hx0 : xs = [] := by simpa using hcs
    subst hx0
    refine ⟨fun h => absurd (rfl : (lns ([] : List Ln)).length = 0) (by simpa using h), fun _ => ?_⟩
    simp only [g1, g2, Option.some.injEq, exists_eq_left']
    refine c_Line (by omega) (by omega) (by omega) ?_
    intro a d c st₃ x₄ ha hd hc L
    intro k hk
    have x₅ := x₃.trans x₄
    refine q k _ [⟨a, d, c, lineC wide pen [], false⟩] (x₅.upd (x₅.out hk)) (x₅.out hk) ?_ ?_ ?_ rfl
    · rw [upd_same]; rfl
    · intro x hx
      rw [List.mem_singleton.mp hx]
      rw [show ((wide : Int)).toNat = wide by omega] at L
      show LineAt _ a d c (lineC wide pen []) false "single"
      rw [show lineC wide pen [] = List.replicate wide (blank pen) by simp [lineC, fixB, fixF, fixL]]
      exact L.ext (Ext.new hk)
    · rfl
  · have hx0 : xs ≠ [] := fun z => by
      subst z
      have : ts = [] := by simpa using hcs.symm
      rw [this, fillN_ne hus] at hfill
      obtain ⟨t, r, h1, h2, h3, h4, h5, h6⟩ := fill_first hw hus
      by_cases hr0 : r = []
      · rw [h4 hr0] at hfill; cases hfill
      · rw [h5 hr0] at hfill; cases hfill
    rw [fillN_ne hus] at hfill
    refine ⟨fun _ => ?_, fun h => absurd h (by simpa [lns] using hx0)⟩
    walk_at "mo"
    refine q F _ xs x₃ hF (upd_at eF hm) (fun x hx => (hxs x hx).ext (Ext.new hm)) ?_ (hwr hx0)
    rw [hcs, hfill]
end
end Mine

end

section
set_option linter.unusedVariables false
set_option linter.unusedSimpArgs false
set_option maxHeartbeats 1000000
namespace Mine
open PySem
local macro_rules | `(tactic| walk_at "ms") => `(tactic| simp only [ev_lit, ev_var, ev_tup, ev_list, ev_dict, ev_bin, ev_fdiv, ev_neg, ev_not, ev_and, ev_or, ev_if, ev_cmp, ev_cmp2, ev_call, ev_meth, ev_app, ev_ext, ev_pop, ev_attr, ev_sub, ev_slice, ev_rev, ev_len, ev_max, ev_min, ev_listOf, ev_intOf, ev_all, ev_comp,
  evs_nil, evs_cons, ts_val, ts_not, ts_and, ts_or, ts_if, it_list, it_enum, it_zip, it_r1, it_r2, ex_expr, ex_ret, ex_retN, ex_asg, ex_asgT, ex_setattr, ex_setsub, ex_setslice, ex_aug, ex_ite, ex_for, ex_while, ex_cont, exPs_nil,
  seqQ, turnQ, retQ, truth_bool, bin_add, bin_sub, bin_mul, bin_md, neg_int, max_int, min_int, int_int, aug_add, aug_sub, cmp_lt, cmp_le, cmp_gt, cmp_ge, cmp_eq, cmp_ne, cmp_eqb, cmp_neb, cmp_eqs, cmp_nes, cmp_eqc, cmp_nec, cmp_eq0, cmp_ne0,
  sub_cell0, sub_cell1, sub_cell2, sub_cell3, sub_pen2, put, argsOf, List.cons_append, List.nil_append, List.append_nil, List.drop_nil, List.length_cons, List.length_nil, List.getElem?_cons_zero, List.getElem?_cons_succ, Option.some.injEq, exists_eq_left', List.length_map, Nat.reduceAdd, Nat.reduceSub, Nat.reduceEqDiff, Nat.reduceLeDiff, if_true, if_false, ite_true, ite_false, reduceIte, true_and, and_true, Nat.zero_le,
  reduceCtorEq, eq_self, false_implies, true_implies, implies_true, decide_eq_true_eq, decide_eq_false_iff_not, beq_iff_eq, Bool.not_eq_true', Bool.not_eq_false', Bool.and_eq_true, Bool.or_eq_true, beq_eq_false_iff_ne, ne_eq])
local macro_rules | `(tactic| walk_at "mc") => `(tactic| (rw [exPs_cons]; walk_at "ms"))
local macro_rules | `(tactic| walk_at "fin") => `(tactic| repeat' (first | assumption | exact trivial | exact rfl | apply And.intro))
local macro_rules | `(tactic| walk_at "mo") => `(tactic| try (walk_at "ms"))
theorem comp_gen {C : CallT} {l : Loc} {st : Sto} {e : ME} {tg cap : List Nat} {it : It} {Q : AV → Sto → Prop} (nxt : Nat → Option AV) (N : Nat) (hN : ∀ i v, nxt i = some v → i < N) (hN1 : N ≤ 1000) (J : Nat → List AV → Sto → Prop) (h0 : J 0 [] st)
    (hC : LeC C C) (hit : ∀ i acc st, J i acc st → itNext it i st = some (nxt i))
    (turn : ∀ i acc st v, J i acc st → acc.length = i → nxt i = some v → ∃ l', bindT tg v (mask cap l) = some l' ∧ evP tab C e l' st fun u st => J (i + 1) (acc ++ [u]) st)
    (fin : ∀ i acc st, J i acc st → acc.length = i → i ≤ N → nxt i = none → ∀ n, st n = none → Q (.loc n) (upd st n (.list acc))) : compP tab C e tg cap l it st Q := by
  refine ⟨fun i acc st => i ≤ N ∧ acc.length = i ∧ J i acc st, N, ⟨Nat.zero_le _, rfl, h0⟩, fun i acc st ⟨hi, hl, hJ⟩ => ⟨hi, by omega, nxt i, hit i acc st hJ, ?_⟩⟩
  cases q : nxt i with
  | none => exact fin i acc st hJ hl hi q
  | some v =>
    obtain ⟨l', h1, h2⟩ := turn i acc st v hJ hl q
    have := hN i v q
    exact ⟨l', h1, evP_mono hC e (fun u st hu => ⟨by omega, by simp [hl], hu⟩) h2⟩
theorem nx_list {st : Sto} {a : Addr} {ds : List AV} {i : Nat} (h : st a = some (.list ds)) : itNext (.list a) i st = some ds[i]? := by simp only [itNext, h]
theorem lt_get {α : Type} {xs : List α} {i : Nat} {v : α} (h : xs[i]? = some v) : i < xs.length := (List.getElem?_eq_some_iff.mp h).1

def deckD (c : Addr) (m : Int) : List (Str × AV) := [("cells", .loc c), ("mixed", .int m)]
theorem lk_dc {c : Addr} {m : Int} : (deckD c m).lookup ("cells" : Str) = some (.loc c) := by unfold deckD; rfl
theorem lk_dm {c : Addr} {m : Int} : (deckD c m).lookup ("mixed" : Str) = some (.int m) := by unfold deckD; rfl
def dk (k c : Addr) (x : Addr) : Prop := x = k ∨ x = c
def Deck (st : Sto) (k c : Addr) : Prop := ∃ (xs : List Int) (m : Int), st k = some (.dict (deckD c m)) ∧ st c = some (.list (xs.map .int)) ∧ xs.length ≤ 40 ∧ (∀ x ∈ xs, 0 ≤ x) ∧ 0 ≤ m ∧ m ≤ 2147483648
theorem Deck.ext {st st' : Sto} {k c : Addr} (D : Deck st k c) (x : Ext st st') : Deck st' k c := by
  obtain ⟨xs, m, h1, h2, h3, h4, h5⟩ := D
  exact ⟨xs, m, x.at h1, x.at h2, h3, h4, h5⟩
theorem Deck.ne {st : Sto} {k c a : Addr} (D : Deck st k c) (h : st a = none) : ¬ dk k c a := by
  obtain ⟨xs, m, h1, h2, _⟩ := D
  rintro (rfl | rfl)
  · rw [h] at h1; cases h1
  · rw [h] at h2; cases h2
section
variable {st : Sto} {n : Nat} {Q : AV → Sto → Prop}
theorem c_law_deck (hn : 1 ≤ n) {ns : List Int} (hl : ns.length ≤ 63) (q : ∀ k c st', Ext st st' → st k = none → st c = none → Deck st' k c → Q (.loc k) st') : Calls tab prg n 446 [.ro (ns.map .int)] st Q := by
  refine call_fn rfl (by omega) (by simp) ?_
  unfold m_law_deck
  refine seq_step (fun l' st' => l' 3 = some (.int 11) ∧ ∃ (f : Addr) (xs : List Int), l' 2 = some (.loc f) ∧ Ext st st' ∧ st f = none ∧ st' f = some (.list (xs.map AV.int)) ∧ xs.length ≤ 40 ∧ ∀ x ∈ xs, 0 ≤ x ∧ x < 1000000007) ?_ ?_
  · walk_at "ms"
    refine ⟨ns.map .int, 0, min 40 ns.length, .inr rfl, ?_, by simp; omega, fun f hf => ?_⟩
    · simp only [cutBounds, Mine.clip, Option.some.injEq, Prod.mk.injEq, true_and, List.length_map]
      (repeat' split) <;> omega
    have hcut : cut (ns.map .int) 0 (min 40 ns.length) = (ns.take 40).map AV.int := by
      simp only [cut, List.drop_zero, Nat.sub_zero, List.map_take]
      have := List.take_eq_take_min (l := ns.map AV.int) (i := 40)
      rw [List.length_map] at this
      exact this.symm
    rw [hcut]
    refine itL_at upd_same ?_
    refine comp_gen (fun i => ((ns.take 40).map AV.int)[i]?) (ns.take 40).length (fun i v h => by have := lt_get h; simpa using this) (by simp; omega)
      (fun i acc st' => Ext st st' ∧ st' f = some (.list ((ns.take 40).map AV.int)) ∧ ∃ xs : List Int, acc = xs.map AV.int ∧ ∀ x ∈ xs, 0 ≤ x ∧ x < 1000000007) ⟨Ext.new hf, upd_same, [], rfl, nofun⟩ (calls_mono _) (fun i acc st' h => nx_list h.2.1) ?_ ?_
    · rintro i acc st' v ⟨x₁, e₁, xs, rfl, hxs⟩ hi hv
      simp only [List.getElem?_map, Option.map_eq_some_iff] at hv
      obtain ⟨z, hz, rfl⟩ := hv
      refine ⟨_, rfl, ?_⟩
      walk_at "ms"
      refine ⟨by omega, by unfold LIM; omega, ?_⟩
      refine ⟨x₁, e₁, xs ++ [z % 1000000007], by simp, ?_⟩
      intro x hx
      rcases List.mem_append.mp hx with h | h
      · exact hxs x h
      · rw [List.mem_singleton.mp h]; omega
    · rintro i acc st' ⟨x₁, e₁, xs, rfl, hxs⟩ hi hN _ m hm
      refine ⟨_, _, rfl, rfl, rfl, m, xs, rfl, x₁.upd (x₁.out hm), x₁.out hm, upd_same, ?_, hxs⟩
      simp at hi hN; omega
  rintro l st₁ ⟨g3, f, xs, g2, x₁, hf, e₁, hxl, hxs⟩
  refine seq_step (fun l' st' => st₁ = st' ∧ l' 2 = some (.loc f) ∧ ∃ m, l' 3 = some (.int m) ∧ 0 ≤ m ∧ m < 1000003) ?_ ?_
  · walk_at "ms"
    try simp only [g2, Option.some.injEq, exists_eq_left']
    refine itL_at e₁ ?_
    refine for_list (calls_mono _) (fun i l' st' => st₁ = st' ∧ l' 2 = some (.loc f) ∧ ∃ m, l' 3 = some (.int m) ∧ 0 ≤ m ∧ m < 1000003) ⟨rfl, g2, 11, g3, by omega, by omega⟩ (fun i l st' h => by rw [← h.1]; exact e₁) ?_ ?_
    · rintro i l' _ v ⟨rfl, g2, m, g3, h0, h1⟩ hv
      simp only [List.getElem?_map, Option.map_eq_some_iff] at hv
      obtain ⟨z, hz, rfl⟩ := hv
      walk_at "mc"
      try simp only [g3, Option.some.injEq, exists_eq_left']
      walk_at "ms"
      refine ⟨by unfold Small LIM; omega, by omega, by unfold LIM; omega, ?_⟩
      have h2 : 0 ≤ (m * 31 + z) % 1000003 := by omega
      have h3 : (m * 31 + z) % 1000003 < 1000003 := by omega
      walk_at "mo"
      walk_at "fin"
      exact ⟨_, rfl, h2, h3⟩
    · rintro l' _ ⟨rfl, g2, m, g3, h0, h1⟩
      walk_at "mo"
      exact ⟨g2, m, g3, h0, h1⟩
  rintro l _ ⟨rfl, g2, m, g3, h0, h1⟩
  walk_at "mc"
  try simp only [g2, g3, Option.some.injEq, exists_eq_left']
  refine ⟨f, xs.map .int, rfl, e₁, by simp; omega, fun c hc => ?_⟩
  walk_at "mo"
  refine ⟨by decide, fun k hk => ?_⟩
  have hc2 : st₁ c = none := hc
  have x₂ := x₁.upd (o := .list (xs.map AV.int).reverse) (x₁.out hc2)
  refine q k c _ (x₂.upd (x₂.out hk)) (x₂.out hk) (x₁.out hc2) ⟨xs.reverse, m, ?_, ?_, by simpa using hxl, fun x hx => (hxs x (by simpa using hx)).1, by omega, by omega⟩
  · rw [upd_same]; rfl
  · rw [upd_at upd_same hk]; simp
theorem c_draw (hn : 1 ≤ n) {k c : Addr} (D : Deck st k c) {many : Int} (h0 : 0 < many) (h1 : many ≤ 1000) (q : ∀ v st', 0 ≤ v → v < many → ExtX (dk k c) st st' → Deck st' k c → Q (.int v) st') : Calls tab prg n 453 [.loc k, .int many] st Q := by
  obtain ⟨xs, m, e1, e2, hl, hxs, hm0, hm1⟩ := D
  have hck : c ≠ k := fun z => by rw [z, e1] at e2; cases e2
  refine call_fn rfl (by omega) (by simp) ?_
  unfold m_law_draw
  refine seq_step (fun l' st' => l' 0 = some (.loc k) ∧ l' 1 = some (.int many) ∧ ExtX (dk k c) st st' ∧ st' k = some (.dict (deckD c m)) ∧ st' c = some (.list (xs.map AV.int))) ?_ ?_
  · walk_at "ms"
    refine sub_key e1 lk_dc ?_
    intro a ha
    rw [cmp_nev (eqv_lnil (upd_at e2 ha) upd_same)]
    walk_at "ms"
    refine ⟨fun hne => ?_, fun he => ?_⟩
    · walk_at "mc"
      refine sub_key (upd_at e1 ha) lk_dc ?_
      have hx0 : xs ≠ [] := fun z => by rw [z] at hne; simp at hne
      obtain ⟨R, z, rfl⟩ := snoc_of hx0
      refine pop_at (ds := R.map .int) (y := .int z) (by rw [upd_at e2 ha]; simp) (by simp at hl ⊢; omega) ?_
      walk_at "ms"
      refine ⟨h0, by unfold LIM; omega, ?_⟩
      have := Int.emod_lt_of_pos z h0
      have := Int.emod_nonneg z (show many ≠ 0 by omega)
      refine q _ _ (by omega) (by omega) ?_ ⟨R, m, ?_, upd_same, by simp at hl; omega, fun x hx => hxs x (by simp [hx]), hm0, hm1⟩
      · exact ((ExtX.refl _ _).updN ha).upd (.inr rfl)
      · rw [upd_ne hck.symm]; exact upd_at e1 ha
    · have y1 : ExtX (dk k c) st (upd st a (.list [])) := (ExtX.refl _ _).updN ha
      have y2 := upd_at (o' := .list []) e1 ha
      have y3 := upd_at (o' := .list []) e2 ha
      walk_at "mo"
      walk_at "fin"
  rintro l st₁ ⟨g0, g1, x₁, e1, e2⟩
  refine seq_step (fun l' st' => l' 0 = some (.loc k) ∧ l' 1 = some (.int many) ∧ ∃ m, 0 ≤ m ∧ m < 2147483647 ∧ ExtX (dk k c) st st' ∧ st' k = some (.dict (deckD c m)) ∧ st' c = some (.list (xs.map AV.int))) ?_ ?_
  · walk_at "ms"
    try simp only [g0, Option.some.injEq, exists_eq_left']
    refine sub_key e1 lk_dm ?_
    walk_at "ms"
    refine ⟨by unfold Small LIM; omega, by omega, by unfold LIM; omega, ?_⟩
    try simp only [g0, Option.some.injEq, exists_eq_left']
    refine setsub_key e1 (by rw [lk_dm]; rfl) (by simp [deckD]) ?_
    have y2 : upd st₁ k (.dict ((deckD c m).map (fun p => if p.1 = ("mixed" : Str) then (p.1, .int ((m * 16807 + 29) % 2147483647)) else p))) k = some (.dict (deckD c ((m * 16807 + 29) % 2147483647))) := by rw [upd_same]; unfold deckD; rfl
    have y3 : upd st₁ k (.dict ((deckD c m).map (fun p => if p.1 = ("mixed" : Str) then (p.1, .int ((m * 16807 + 29) % 2147483647)) else p))) c = some (.list (xs.map AV.int)) := by rw [upd_ne hck]; exact e2
    have y1 := x₁.upd (o := .dict ((deckD c m).map (fun p => if p.1 = ("mixed" : Str) then (p.1, .int ((m * 16807 + 29) % 2147483647)) else p))) (a := k) (.inl rfl)
    walk_at "mo"
    walk_at "fin"
    exact ⟨(m * 16807 + 29) % 2147483647, by omega, by omega, y1, y2, y3⟩
  rintro l st₂ ⟨g0, g1, m, hm0, hm1, x₂, e1, e2⟩
  walk_at "mc"
  try simp only [g0, g1, Option.some.injEq, exists_eq_left']
  refine sub_key e1 lk_dm ?_
  walk_at "mo"
  refine ⟨m, 64, rfl, rfl, by omega, by unfold LIM; omega, by unfold Small LIM; omega, ?_⟩
  walk_at "mo"
  refine ⟨h0, by unfold LIM; omega, ?_⟩
  have := Int.emod_lt_of_pos (m / 64) h0
  have := Int.emod_nonneg (m / 64) (show many ≠ 0 by omega)
  exact q _ _ (by omega) (by omega) x₂ ⟨xs, m, e1, e2, hl, hxs, hm0, by omega⟩
theorem c_pen (hn : 2 ≤ n) {k c : Addr} (D : Deck st k c) (q : ∀ (p : Pen) st', ExtX (dk k c) st st' → Deck st' k c → Q p.av st') : Calls tab prg n 460 [.loc k] st Q := by
  refine call_fn rfl (by omega) (by simp) ?_
  unfold m_law_pen
  walk_at "mc"
  refine c_draw (by omega) D (by omega) (by omega) ?_
  intro v st' h0 h1 x D'
  rw [sub_tup]
  refine ⟨h0, by omega, ?_⟩
  have h : v = 0 ∨ v = 1 ∨ v = 2 := by omega
  rcases h with rfl | rfl | rfl
  · exact ⟨_, rfl, q plain st' x D'⟩
  · exact ⟨_, rfl, q ⟨1, 2, -1, -1, 0⟩ st' x D'⟩
  · exact ⟨_, rfl, q ⟨0, -1, 4, -1, 0⟩ st' x D'⟩
theorem c_is_empty (hn : 1 ≤ n) {c : Cell} (q : Q (.bool (isBlank c)) st) : Calls tab prg n 474 [c.av] st Q := by
  refine call_fn rfl (by omega) (by simp) ?_
  unfold m_law_is_empty
  rw [exPs_cons]
  walk_at "ms"
  unfold isBlank at q
  refine ⟨fun h => ?_, fun h => ?_⟩
  · rw [h] at q; exact q
  · rw [show (c.codes.length == 0) = false from beq_eq_false_iff_ne.mpr h] at q; exact q
theorem c_sign (hn : 3 ≤ n) {k c : Addr} (D : Deck st k c) {big : Bool} (q : ∀ f st' (u : U), ExtX (dk k c) st st' → Deck st' k c → st f = none → st' f = some (.list (avs u.flat)) → u.Ok → u.big = big → u.c.codes ≠ [] → Q (.loc f) st') : Calls tab prg n 467 [.loc k, .bool big] st Q := by
  refine call_fn rfl (by omega) (by simp) ?_
  unfold m_law_sign
  refine seq_step (fun l' st' => l' 0 = some (.loc k) ∧ l' 1 = some (.bool big) ∧ (∃ v, l' 2 = some (.int v) ∧ 0 ≤ v ∧ v < 12) ∧ ExtX (dk k c) st st' ∧ Deck st' k c) ?_ ?_
  · walk_at "ms"
    refine c_draw (by omega) D (by omega) (by omega) ?_
    intro v st' h0 h1 x D'
    walk_at "mo"
    walk_at "fin"
    exact ⟨v, rfl, h0, h1⟩
  rintro l st₁ ⟨g0, g1, ⟨v, g2, h0, h1⟩, x₁, D₁⟩
  refine seq_step (fun l' st' => l' 1 = some (.bool big) ∧ l' 2 = some (.int v) ∧ (∃ p : Pen, l' 3 = some p.av) ∧ (∃ g : Bool, l' 4 = some (.bool g)) ∧ ExtX (dk k c) st st' ∧ Deck st' k c) ?_ ?_
  · walk_at "ms"
    try simp only [g0, g2, Option.some.injEq, exists_eq_left']
    refine c_pen (by omega) D₁ ?_
    intro p st' x D'
    have x₂ := x₁.trans x
    walk_at "mo"
    try simp only [g2, Option.some.injEq, exists_eq_left']
    walk_at "mo"
    refine ⟨by omega, by unfold LIM; omega, ?_⟩
    walk_at "mo"
    refine ⟨_, _, rfl, rfl, ?_⟩
    exact ⟨by simp [put]; exact g1, by simp [put]; exact g2, ⟨p, rfl⟩, ⟨_, rfl⟩, x₂, D'⟩
  rintro l st₂ ⟨g1, g2, ⟨p, g3⟩, ⟨g, g4⟩, x₂, D₂⟩
  have hd : ∃ w, w = v / 4 ∧ 0 ≤ w ∧ w < 3 := ⟨_, rfl, by omega, by omega⟩
  obtain ⟨w, hw, hw0, hw1⟩ := hd
  refine seq_step (fun l' st' => l' 2 = some (.int v) ∧ l' 3 = some p.av ∧ l' 4 = some (.bool g) ∧ big = false ∧ st₂ = st') ?_ ?_
  · walk_at "ms"
    try simp only [g1, Option.some.injEq, exists_eq_left']
    walk_at "mo"
    refine ⟨fun hb => ?_, fun hb => ?_⟩
    · subst hb
      refine seq_step (fun l' st' => l' 5 = some (Cell.av ⟨[19968 + w], 2, p, g⟩) ∧ st₂ = st') ?_ ?_
      · walk_at "ms"
        try simp only [g2, g3, g4, Option.some.injEq, exists_eq_left']
        refine ⟨v, 4, rfl, rfl, by omega, by unfold LIM; omega, by unfold Small LIM; omega, ?_⟩
        walk_at "mo"
        try simp only [g2, g3, g4, Option.some.injEq, exists_eq_left']
        walk_at "mo"
        rw [← hw]
        repeat' (first | exact rfl | omega | apply And.intro)
      · rintro l' _ ⟨g5, rfl⟩
        walk_at "mc"
        try simp only [g5, Option.some.injEq, exists_eq_left']
        refine c_right (by omega) ?_
        walk_at "mo"
        intro m hm
        have hm' := x₂.out (D₂.ne hm |> fun z => z) hm
        refine q m _ ⟨true, ⟨[19968 + w], 2, p, g⟩⟩ (x₂.updN hm') (D₂.ext (Ext.new hm)) hm' ?_ ⟨rfl, by simp⟩ rfl nofun
        rw [upd_same]; rfl
    · walk_at "mo"
      walk_at "fin"
  rintro l _ ⟨g2, g3, g4, rfl, rfl⟩
  refine seq_step (fun l' st' => (∃ cd : List Int, cd ≠ [] ∧ cd.length ≤ 5 ∧ l' 6 = some (.tup (cd.map .int))) ∧ l' 3 = some p.av ∧ l' 4 = some (.bool g) ∧ st₂ = st') ?_ ?_
  · walk_at "ms"
    try simp only [g2, Option.some.injEq, exists_eq_left']
    walk_at "ms"
    refine ⟨by omega, by unfold LIM; omega, ?_⟩
    walk_at "mo"
    refine ⟨fun _ => ?_, fun _ => ?_⟩
    · refine ⟨v, 4, rfl, rfl, by omega, by unfold LIM; omega, by unfold Small LIM; omega, ?_⟩
      walk_at "mo"
      refine ⟨⟨[97 + v / 4, 769], nofun, by simp, rfl⟩, ?_⟩
      walk_at "fin"
    · refine ⟨v, 4, rfl, rfl, by omega, by unfold LIM; omega, by unfold Small LIM; omega, ?_⟩
      walk_at "mo"
      refine ⟨⟨[97 + v / 4], nofun, by simp, rfl⟩, ?_⟩
      walk_at "fin"
  rintro l _ ⟨⟨cd, hcd, hcl, g6⟩, g3, g4, rfl⟩
  walk_at "mc"
  try simp only [g3, g4, g6, Option.some.injEq, exists_eq_left']
  walk_at "mo"
  intro m hm
  have hm' := x₂.out (D₂.ne hm |> fun z => z) hm
  refine q m _ ⟨false, ⟨cd, 1, p, g⟩⟩ (x₂.updN hm') (D₂.ext (Ext.new hm)) hm' ?_ ⟨rfl, hcl⟩ rfl hcd
  rw [upd_same]; rfl
end
end Mine

end

section
set_option linter.unusedVariables false
set_option linter.unusedSimpArgs false
set_option maxHeartbeats 1000000
namespace Mine
open PySem
local macro_rules | `(tactic| walk_at "ms") => `(tactic| simp only [ev_lit, ev_var, ev_tup, ev_list, ev_dict, ev_bin, ev_fdiv, ev_neg, ev_not, ev_and, ev_or, ev_if, ev_cmp, ev_cmp2, ev_call, ev_meth, ev_app, ev_ext, ev_pop, ev_attr, ev_sub, ev_slice, ev_rev, ev_len, ev_max, ev_min, ev_listOf, ev_intOf, ev_all, ev_comp,
  evs_nil, evs_cons, ts_val, ts_not, ts_and, ts_or, ts_if, it_list, it_enum, it_zip, it_r1, it_r2, ex_expr, ex_ret, ex_retN, ex_asg, ex_asgT, ex_setattr, ex_setsub, ex_setslice, ex_aug, ex_ite, ex_for, ex_while, ex_cont, exPs_nil,
  seqQ, turnQ, retQ, truth_bool, bin_add, bin_sub, bin_mul, bin_md, neg_int, max_int, min_int, int_int, aug_add, aug_sub, cmp_lt, cmp_le, cmp_gt, cmp_ge, cmp_eq, cmp_ne, cmp_eqb, cmp_neb, cmp_eqs, cmp_nes, cmp_eqc, cmp_nec, cmp_eq0, cmp_ne0,
  sub_cell0, sub_cell1, sub_cell2, sub_cell3, sub_pen2, put, argsOf, List.cons_append, List.nil_append, List.append_nil, List.drop_nil, List.length_cons, List.length_nil, List.getElem?_cons_zero, List.getElem?_cons_succ, Option.some.injEq, exists_eq_left', List.length_map, Nat.reduceAdd, Nat.reduceSub, Nat.reduceEqDiff, Nat.reduceLeDiff, if_true, if_false, ite_true, ite_false, reduceIte, true_and, and_true, Nat.zero_le,
  reduceCtorEq, eq_self, false_implies, true_implies, implies_true, decide_eq_true_eq, decide_eq_false_iff_not, beq_iff_eq, Bool.not_eq_true', Bool.not_eq_false', Bool.and_eq_true, Bool.or_eq_true, beq_eq_false_iff_ne, ne_eq])
local macro_rules | `(tactic| walk_at "mc") => `(tactic| (rw [exPs_cons]; walk_at "ms"))
local macro_rules | `(tactic| walk_at "fin") => `(tactic| repeat' (first | assumption | exact trivial | exact rfl | apply And.intro))
local macro_rules | `(tactic| walk_at "mo") => `(tactic| try (walk_at "ms"))
theorem Deck.upd {st : Sto} {k c a : Addr} {o : AO} (D : Deck st k c) (h : ¬ dk k c a) : Deck (upd st a o) k c := by
  obtain ⟨xs, m, h1, h2, h3⟩ := D
  exact ⟨xs, m, by rw [upd_ne (fun z => h (.inl z.symm))]; exact h1, by rw [upd_ne (fun z => h (.inr z.symm))]; exact h2, h3⟩
structure Rw (us : List U) : Prop where
  ok : ∀ u ∈ us, u.Ok
  pl : ∀ u ∈ us, isBlank u.c = true → u.c = blank plain
  nb : ∀ pre u v post, us = pre ++ u :: v :: post → v.big = true → isBlank u.c = false
theorem rw_nil : Rw [] := ⟨nofun, nofun, fun pre u v post h => by simp at h⟩
theorem Rw.snoc {us : List U} {x : U} (h : Rw us) (ho : x.Ok) (hp : isBlank x.c = true → x.c = blank plain) (hn : x.big = true → ∀ pre u, us = pre ++ [u] → isBlank u.c = false) : Rw (us ++ [x]) := by
  refine ⟨fun u hu => ?_, fun u hu => ?_, fun pre u v post e hv => ?_⟩
  · rcases List.mem_append.mp hu with z | z
    · exact h.ok u z
    · rw [List.mem_singleton.mp z]; exact ho
  · rcases List.mem_append.mp hu with z | z
    · exact h.pl u z
    · rw [List.mem_singleton.mp z]; exact hp
  · by_cases hp0 : post = []
    · subst hp0
      rw [show pre ++ [u, v] = (pre ++ [u]) ++ [v] by simp] at e
      obtain ⟨e1, e2⟩ := List.append_inj_left' e rfl |> fun z => (⟨z, List.append_inj_right' e rfl⟩ : _ ∧ _)
      cases e2
      exact hn hv pre u e1
    · obtain ⟨R, z, rfl⟩ := snoc_of hp0
      rw [show pre ++ u :: v :: (R ++ [z]) = (pre ++ u :: v :: R) ++ [z] by simp] at e
      exact h.nb pre u v R (List.append_inj_left' e rfl) hv
theorem last_blank {u : U} (h : u.Ok) : isBlank (if u.big then right u.c else u.c) = isBlank u.c := by
  have hw := h.w
  cases hb : u.big with
  | true => rw [hb] at hw; simp [isBlank, right, hw]
  | false => rfl
theorem isB_codes {c : Cell} (h : c.codes ≠ []) : isBlank c = false := by unfold isBlank; cases q : c.codes with | nil => exact absurd q h | cons _ _ => rfl
theorem flat_one (us : List U) (u : U) : flat (us ++ [u]) = flat us ++ u.flat := by simp [flat]
theorem avs_app (a b : List Cell) : avs (a ++ b) = avs a ++ avs b := by simp [avs]
section
variable {st : Sto} {n : Nat} {Q : AV → Sto → Prop}
theorem c_law_row (hn : 4 ≤ n) {k c : Addr} (D : Deck st k c) {size : Nat} (hs : size ≤ 9) (q : ∀ f st' us, ExtX (dk k c) st st' → Deck st' k c → st f = none → st' f = some (.list (avs (flat us))) → Rw us → us ≠ [] → (∀ pre u, us = pre ++ [u] → isBlank u.c = false) → (flat us).length ≤ 30 → Q (.loc f) st') :
    Calls tab prg n 481 [.loc k, .int size] st Q := by
  refine call_fn rfl (by omega) (by simp) ?_
  unfold m_law_row
  refine seq_step (fun l' st' => l' 0 = some (.loc k) ∧ l' 1 = some (.int size) ∧ ∃ f, l' 2 = some (.loc f) ∧ ExtX (dk k c) st st' ∧ Deck st' k c ∧ st f = none ∧ st' f = some (.list (avs (flat [])))) ?_ ?_
  · walk_at "ms"
    intro f hf
    exact ⟨f, rfl, (Ext.new hf).toX, D.ext (Ext.new hf), hf, upd_same⟩
  rintro l st₁ ⟨g0, g1, f, g2, x₁, D₁, hf, e₁⟩
  have fk := D.ne hf
  refine seq_step (fun l' st' => l' 0 = some (.loc k) ∧ l' 2 = some (.loc f) ∧ ExtX (dk k c) st st' ∧ Deck st' k c ∧ ∃ us, st' f = some (.list (avs (flat us))) ∧ Rw us ∧ (flat us).length ≤ 18) ?_ ?_
  · walk_at "ms"
    try simp only [g1, Option.some.injEq, exists_eq_left']
    refine itR_at (by omega) (by omega) ?_
    refine for_range (calls_mono _) (fun i l' st' => l' 0 = some (.loc k) ∧ l' 2 = some (.loc f) ∧ ExtX (dk k c) st st' ∧ Deck st' k c ∧ ∃ us, st' f = some (.list (avs (flat us))) ∧ Rw us ∧ (flat us).length ≤ 2 * i) ⟨g0, g2, x₁, D₁, [], e₁, rw_nil, by simp⟩ ?_ ?_
    · rintro i l' st' ⟨g0, g2, x₂, D₂, us, e₂, hr, hl⟩ hi
      refine seq_step (fun l'' st'' => l'' 0 = some (.loc k) ∧ l'' 2 = some (.loc f) ∧ (∃ v : Int, l'' 4 = some (.int v)) ∧ ExtX (dk k c) st st'' ∧ Deck st'' k c ∧ st'' f = some (.list (avs (flat us)))) ?_ ?_
      · walk_at "ms"
        try simp only [g0, Option.some.injEq, exists_eq_left']
        refine c_draw (by omega) D₂ (by omega) (by omega) ?_
        intro v st₃ h0 h1 x₃ D₃
        have x₄ := x₂.trans x₃
        have e₃ := x₃.at fk e₂
        walk_at "mo"
        walk_at "fin"
        exact ⟨v, rfl⟩
      rintro l'' st₃ ⟨g0, g2, ⟨v, g4⟩, x₃, D₃, e₃⟩
      walk_at "mc"
      try simp only [g4, Option.some.injEq, exists_eq_left']
      walk_at "mo"
      have hadd : ∀ (st₄ st₅ : Sto) (u : U), ExtX (dk k c) st st₄ → Deck st₄ k c → Rw (us ++ [u]) → (upd st₄ f (.list (avs (flat us) ++ avs u.flat))) = st₅ → ExtX (dk k c) st st₅ ∧ Deck st₅ k c ∧ ∃ us, st₅ f = some (.list (avs (flat us))) ∧ Rw us ∧ (flat us).length ≤ 2 * (i + 1) := by
        rintro st₄ _ u x₄ D₄ hr' rfl
        refine ⟨x₄.updN hf, D₄.upd fk, us ++ [u], ?_, hr', ?_⟩
        · rw [upd_same, flat_one, avs_app]
        · rw [flat_one, List.length_append, flat_len1]; split <;> omega
      refine ⟨fun hv => ?_, fun hv => ?_⟩
      · walk_at "mc"
        try simp only [g2, Option.some.injEq, exists_eq_left']
        refine app_at e₃ ?_
        walk_at "ms"
        refine c_blank (p := plain) (by omega) ?_
        refine ⟨_, e₃, by rw [avs_len]; omega, ?_⟩
        obtain ⟨y1, y2, y3⟩ := hadd st₃ _ (mkB plain) x₃ D₃ (hr.snoc (mkB_ok _) (fun _ => rfl) nofun) rfl
        walk_at "mo"
        walk_at "fin"
      · walk_at "mc"
        try simp only [g2, Option.some.injEq, exists_eq_left']
        refine ext_at e₃ ?_
        simp only [ev_call, evs_cons, evs_nil, ev_var, g0, Option.some.injEq, exists_eq_left']
        refine evP_mono (calls_mono _) _ (Q := fun d st₄ => ∃ b : Bool, d = .bool b ∧ Ext st₃ st₄ ∧ (b = true → ∀ pre u, us = pre ++ [u] → isBlank u.c = false)) ?_ ?_
        · rintro d st₄ ⟨b, rfl, x₄, hb⟩
          refine c_sign (by omega) (D₃.ext x₄) ?_
          intro g st₅ u x₅ D₅ hg e₅ hu hub huc
          have ef : st₅ f = some (.list (avs (flat us))) := x₅.at fk (x₄.at e₃)
          have gf : g ≠ f := fun z => by rw [z, x₄.at e₃] at hg; cases hg
          have hgl : u.flat.length ≤ 2 := by rw [flat_len1]; split <;> omega
          refine ⟨_, _, ef, .inl ⟨g, rfl, gf, e₅⟩, by rw [avs_len]; omega, by rw [avs_len]; omega, ?_⟩
          obtain ⟨y1, y2, y3⟩ := hadd st₅ _ u (x₃.trans (x₄.toX.trans x₅)) D₅ (hr.snoc hu (fun z => by rw [isB_codes huc] at z; cases z) (fun z => hb (hub.symm.trans z))) rfl
          walk_at "mo"
          walk_at "fin"
        · walk_at "ms"
          try simp only [g2, g4, Option.some.injEq, exists_eq_left']
          walk_at "mo"
          refine ⟨fun _ => ?_, fun _ => ⟨_, rfl, Ext.refl _, nofun⟩⟩
          intro m hm
          rw [cmp_eqv (eqv_lnil (upd_at e₃ hm) upd_same)]
          walk_at "ms"
          refine ⟨fun h0 => ⟨_, rfl, Ext.new hm, fun _ pre u h => ?_⟩, fun h0 => ?_⟩
          · have := flat_pos (us := us) (by rw [h]; simp)
            exfalso; rw [h0] at this; omega
          · have hne : us ≠ [] := fun z => h0 (by rw [z]; rfl)
            obtain ⟨R, u, hR⟩ := snoc_of hne
            obtain ⟨R', hR'⟩ := flat_last R u
            refine sub_last (ds := avs R') (v := Cell.av (if u.big then right u.c else u.c)) ?_ ?_ ?_
            · rw [upd_at e₃ hm, hR, hR']; simp [avs]
            · have := congrArg List.length hR'; rw [← hR] at this; simp only [List.length_append, List.length_cons, List.length_nil] at this; rw [avs_len]; omega
            · refine c_is_empty (by omega) ?_
              rw [last_blank (hr.ok u (by rw [hR]; simp))]
              walk_at "ms"
              refine ⟨_, rfl, Ext.new hm, fun hb pre u' h => ?_⟩
              have : u' = u := by
                rw [hR] at h
                have := List.append_inj_right' h rfl
                cases this; rfl
              subst this
              simpa using hb
    · rintro l' st' ⟨g0, g2, x₂, D₂, us, e₂, hr, hl⟩
      have : (flat us).length ≤ 18 := by omega
      walk_at "mo"
      exact ⟨g0, g2, x₂, D₂, us, e₂, hr, this⟩
  rintro l st₂ ⟨g0, g2, x₂, D₂, us, e₂, hr, hl⟩
  refine seq_step (fun l' st' => l' 2 = some (.loc f) ∧ ExtX (dk k c) st st' ∧ Deck st' k c ∧ ∃ us, st' f = some (.list (avs (flat us))) ∧ Rw us ∧ (flat us).length ≤ 30 ∧ us ≠ [] ∧ ∀ pre u, us = pre ++ [u] → isBlank u.c = false) ?_ ?_
  · rw [ex_ite]
    refine tsP_mono (calls_mono _) _ (Q := fun b st₃ => Ext st₂ st₃ ∧ (b = false → us ≠ [] ∧ ∀ pre u, us = pre ++ [u] → isBlank u.c = false)) ?_ ?_
    · rintro b st₃ ⟨x₃, hb⟩
      have e₃ := x₃.at e₂
      refine ⟨fun _ => ?_, fun z => ?_⟩
      · walk_at "mc"
        try simp only [g2, Option.some.injEq, exists_eq_left']
        refine ext_at e₃ ?_
        walk_at "ms"
        try simp only [g0, Option.some.injEq, exists_eq_left']
        refine c_sign (by omega) (D₂.ext x₃) ?_
        intro g st₅ u x₅ D₅ hg e₅ hu hub huc
        have ef : st₅ f = some (.list (avs (flat us))) := x₅.at fk e₃
        have gf : g ≠ f := fun z => by rw [z, e₃] at hg; cases hg
        have hgl : u.flat.length ≤ 2 := by rw [flat_len1]; split <;> omega
        refine ⟨_, _, ef, .inl ⟨g, rfl, gf, e₅⟩, by rw [avs_len]; omega, by rw [avs_len]; omega, ?_⟩
        have z1 := (x₂.trans (x₃.toX.trans x₅)).updN (o := .list (avs (flat us) ++ avs u.flat)) hf
        have z2 := D₅.upd (o := .list (avs (flat us) ++ avs u.flat)) fk
        walk_at "mo"
        walk_at "fin"
        refine ⟨us ++ [u], ?_, hr.snoc hu (fun z => by rw [isB_codes huc] at z; cases z) (fun z => by rw [hub] at z; cases z), ?_, by simp, ?_⟩
        · rw [upd_same, flat_one, avs_app]
        · rw [flat_one, List.length_append]; omega
        · intro pre u' h
          have := List.append_inj_right' h rfl
          cases this
          exact isB_codes huc
      · obtain ⟨h1, h2⟩ := hb z
        rw [exPs_nil]
        exact ⟨g2, x₂.trans x₃.toX, D₂.ext x₃, us, e₃, hr, by omega, h1, h2⟩
    · walk_at "ms"
      try simp only [g2, Option.some.injEq, exists_eq_left']
      intro m hm
      rw [cmp_eqv (eqv_lnil (upd_at e₂ hm) upd_same)]
      walk_at "ms"
      refine ⟨fun h0 => Ext.new hm, fun h0 => ?_⟩
      have hne : us ≠ [] := fun z => h0 (by rw [z]; rfl)
      obtain ⟨R, u, hR⟩ := snoc_of hne
      obtain ⟨R', hR'⟩ := flat_last R u
      refine sub_last (ds := avs R') (v := Cell.av (if u.big then right u.c else u.c)) ?_ ?_ ?_
      · rw [upd_at e₂ hm, hR, hR']; simp [avs]
      · have := congrArg List.length hR'; rw [← hR] at this; simp only [List.length_append, List.length_cons, List.length_nil] at this; rw [avs_len]; omega
      · refine c_is_empty (by omega) ?_
        rw [last_blank (hr.ok u (by rw [hR]; simp))]
        walk_at "ms"
        refine ⟨Ext.new hm, fun hb => ⟨hne, fun pre u' h => ?_⟩⟩
        have : u' = u := by
          rw [hR] at h
          have := List.append_inj_right' h rfl
          cases this; rfl
        subst this
        exact hb
  rintro l st₃ ⟨g2, x₃, D₃, us, e₃, hr, hl, hne, hlast⟩
  walk_at "mc"
  try simp only [g2, Option.some.injEq, exists_eq_left']
  exact q f st₃ us x₃ D₃ hf e₃ hr hne hlast hl
theorem c_law_full (hn : 4 ≤ n) {k c : Addr} (D : Deck st k c) {wide : Nat} (hs : wide ≤ 9) (q : ∀ f st' us, ExtX (dk k c) st st' → Deck st' k c → st f = none → st' f = some (.list (avs (flat us))) → (∀ u ∈ us, u.Ok) → (∀ u ∈ us, isBlank u.c = true → u.c = blank plain) → (flat us).length = wide → Q (.loc f) st') :
    Calls tab prg n 488 [.loc k, .int wide] st Q := by
  refine call_fn rfl (by omega) (by simp) ?_
  unfold m_law_full
  refine seq_step (fun l' st' => l' 0 = some (.loc k) ∧ l' 1 = some (.int wide) ∧ ∃ f, l' 2 = some (.loc f) ∧ ExtX (dk k c) st st' ∧ Deck st' k c ∧ st f = none ∧ st' f = some (.list (avs (flat [])))) ?_ ?_
  · walk_at "ms"
    intro f hf
    exact ⟨f, rfl, (Ext.new hf).toX, D.ext (Ext.new hf), hf, upd_same⟩
  rintro l st₁ ⟨g0, g1, f, g2, x₁, D₁, hf, e₁⟩
  have fk := D.ne hf
  refine seq_step (fun l' st' => l' 2 = some (.loc f) ∧ ExtX (dk k c) st st' ∧ Deck st' k c ∧ ∃ us, st' f = some (.list (avs (flat us))) ∧ (∀ u ∈ us, u.Ok) ∧ (∀ u ∈ us, isBlank u.c = true → u.c = blank plain) ∧ (flat us).length = wide) ?_ ?_
  · walk_at "ms"
    refine ⟨fun m l' st' => l' 0 = some (.loc k) ∧ l' 1 = some (.int wide) ∧ l' 2 = some (.loc f) ∧ ExtX (dk k c) st st' ∧ Deck st' k c ∧ ∃ us, st' f = some (.list (avs (flat us))) ∧ (∀ u ∈ us, u.Ok) ∧ (∀ u ∈ us, isBlank u.c = true → u.c = blank plain) ∧ (flat us).length + m = wide, wide, ⟨g0, g1, g2, x₁, D₁, [], e₁, nofun, nofun, by simp⟩, ?_⟩
    rintro m l' st' ⟨g0, g1, g2, x₂, D₂, us, e₂, hok, hpl, hm⟩
    walk_at "ms"
    try simp only [g1, g2, Option.some.injEq, exists_eq_left']
    refine len_at e₂ (by rw [avs_len]; omega) ?_
    rw [avs_len]
    walk_at "ms"
    refine ⟨fun hlt => ?_, fun hge => ?_⟩
    · refine seq_step (fun l'' st'' => l'' 0 = some (.loc k) ∧ l'' 1 = some (.int wide) ∧ l'' 2 = some (.loc f) ∧ (∃ v : Int, l'' 3 = some (.int v)) ∧ ExtX (dk k c) st st'' ∧ Deck st'' k c ∧ st'' f = some (.list (avs (flat us)))) ?_ ?_
      · walk_at "ms"
        try simp only [g0, Option.some.injEq, exists_eq_left']
        refine c_draw (by omega) D₂ (by omega) (by omega) ?_
        intro v st₃ h0 h1 x₃ D₃
        have x₄ := x₂.trans x₃
        have e₃ := x₃.at fk e₂
        walk_at "mo"
        walk_at "fin"
        exact ⟨v, rfl⟩
      rintro l'' st₃ ⟨g0, g1, g2, ⟨v, g4⟩, x₃, D₃, e₃⟩
      walk_at "mc"
      try simp only [g4, Option.some.injEq, exists_eq_left']
      walk_at "mo"
      have hadd : ∀ (st₄ st₅ : Sto) (u : U), ExtX (dk k c) st st₄ → Deck st₄ k c → u.Ok → (isBlank u.c = true → u.c = blank plain) → (flat us).length + u.flat.length ≤ wide → (upd st₄ f (.list (avs (flat us) ++ avs u.flat))) = st₅ → ExtX (dk k c) st st₅ ∧ Deck st₅ k c ∧ ∃ m', m' < m ∧ ∃ us, st₅ f = some (.list (avs (flat us))) ∧ (∀ u ∈ us, u.Ok) ∧ (∀ u ∈ us, isBlank u.c = true → u.c = blank plain) ∧ (flat us).length + m' = wide := by
        rintro st₄ _ u x₄ D₄ h1 h2 h3 rfl
        have := flat_pos (us := [u]) nofun
        have h4 : flat [u] = u.flat := by simp [flat]
        rw [h4] at this
        refine ⟨x₄.updN hf, D₄.upd fk, m - u.flat.length, by omega, us ++ [u], ?_, ?_, ?_, ?_⟩
        · rw [upd_same, flat_one, avs_app]
        · intro x hx
          rcases List.mem_append.mp hx with z | z
          · exact hok x z
          · rw [List.mem_singleton.mp z]; exact h1
        · intro x hx
          rcases List.mem_append.mp hx with z | z
          · exact hpl x z
          · rw [List.mem_singleton.mp z]; exact h2
        · rw [flat_one, List.length_append]; omega
      refine ⟨fun hv => ?_, fun hv => ?_⟩
      · walk_at "mc"
        try simp only [g2, Option.some.injEq, exists_eq_left']
        refine app_at e₃ ?_
        walk_at "ms"
        refine c_blank (p := plain) (by omega) ?_
        refine ⟨_, e₃, by rw [avs_len]; omega, ?_⟩
        obtain ⟨y1, y2, m', hm', y3⟩ := hadd st₃ _ (mkB plain) x₃ D₃ (mkB_ok _) (fun _ => rfl) (by rw [flat_len1]; show (flat us).length + 1 ≤ wide; omega) rfl
        walk_at "mo"
        refine ⟨m', hm', ?_⟩; walk_at "fin"
      · walk_at "mc"
        try simp only [g2, Option.some.injEq, exists_eq_left']
        refine ext_at e₃ ?_
        simp only [ev_call, evs_cons, evs_nil, ev_var, g0, Option.some.injEq, exists_eq_left']
        refine evP_mono (calls_mono _) _ (Q := fun d st₄ => ∃ b : Bool, d = .bool b ∧ st₃ = st₄ ∧ (b = true → (flat us).length + 2 ≤ wide)) ?_ ?_
        · rintro d _ ⟨b, rfl, rfl, hb⟩
          refine c_sign (by omega) D₃ ?_
          intro g st₅ u x₅ D₅ hg e₅ hu hub huc
          have ef : st₅ f = some (.list (avs (flat us))) := x₅.at fk e₃
          have gf : g ≠ f := fun z => by rw [z, e₃] at hg; cases hg
          have hgl : (flat us).length + u.flat.length ≤ wide := by
            rw [flat_len1, hub]
            cases b with
            | true => exact hb rfl
            | false => show (flat us).length + 1 ≤ wide; omega
          refine ⟨_, _, ef, .inl ⟨g, rfl, gf, e₅⟩, by rw [avs_len]; omega, by rw [avs_len]; omega, ?_⟩
          obtain ⟨y1, y2, m', hm', y3⟩ := hadd st₅ _ u (x₃.trans x₅) D₅ hu (fun z => by rw [isB_codes huc] at z; cases z) hgl rfl
          walk_at "mo"
          refine ⟨m', hm', ?_⟩; walk_at "fin"
        · walk_at "ms"
          try simp only [g1, g2, g4, Option.some.injEq, exists_eq_left']
          walk_at "mo"
          refine ⟨fun _ => ?_, fun _ => ⟨_, rfl, nofun⟩⟩
          refine len_at e₃ (by rw [avs_len]; omega) ?_
          rw [avs_len]
          walk_at "ms"
          refine ⟨_, rfl, fun h => ?_⟩
          have h := of_decide_eq_true h; omega
    · have : (flat us).length = wide := by omega
      walk_at "mo"
      walk_at "fin"
      exact ⟨us, e₂, hok, hpl, this⟩
  rintro l st₃ ⟨g2, x₃, D₃, us, e₃, hok, hpl, hl⟩
  walk_at "mc"
  try simp only [g2, Option.some.injEq, exists_eq_left']
  exact q f st₃ us x₃ D₃ hf e₃ hok hpl hl
end
end Mine

end

section
set_option linter.unusedVariables false
set_option linter.unusedSimpArgs false
set_option maxHeartbeats 1000000
namespace Mine
open PySem
local macro_rules | `(tactic| walk_at "ms") => `(tactic| simp only [ev_lit, ev_var, ev_tup, ev_list, ev_dict, ev_bin, ev_fdiv, ev_neg, ev_not, ev_and, ev_or, ev_if, ev_cmp, ev_cmp2, ev_call, ev_meth, ev_app, ev_ext, ev_pop, ev_attr, ev_sub, ev_slice, ev_rev, ev_len, ev_max, ev_min, ev_listOf, ev_intOf, ev_all, ev_comp,
  evs_nil, evs_cons, ts_val, ts_not, ts_and, ts_or, ts_if, it_list, it_enum, it_zip, it_r1, it_r2, ex_expr, ex_ret, ex_retN, ex_asg, ex_asgT, ex_setattr, ex_setsub, ex_setslice, ex_aug, ex_ite, ex_for, ex_while, ex_cont, exPs_nil,
  seqQ, turnQ, retQ, truth_bool, bin_add, bin_sub, bin_mul, bin_md, neg_int, max_int, min_int, int_int, aug_add, aug_sub, cmp_lt, cmp_le, cmp_gt, cmp_ge, cmp_eq, cmp_ne, cmp_eqb, cmp_neb, cmp_eqs, cmp_nes, cmp_eqc, cmp_nec, cmp_eq0, cmp_ne0,
  sub_cell0, sub_cell1, sub_cell2, sub_cell3, sub_pen2, put, argsOf, List.cons_append, List.nil_append, List.append_nil, List.drop_nil, List.length_cons, List.length_nil, List.getElem?_cons_zero, List.getElem?_cons_succ, Option.some.injEq, exists_eq_left', List.length_map, Nat.reduceAdd, Nat.reduceSub, Nat.reduceEqDiff, Nat.reduceLeDiff, if_true, if_false, ite_true, ite_false, reduceIte, true_and, and_true, Nat.zero_le,
  reduceCtorEq, eq_self, false_implies, true_implies, implies_true, decide_eq_true_eq, decide_eq_false_iff_not, beq_iff_eq, Bool.not_eq_true', Bool.not_eq_false', Bool.and_eq_true, Bool.or_eq_true, beq_eq_false_iff_ne, ne_eq])
local macro_rules | `(tactic| walk_at "mc") => `(tactic| (rw [exPs_cons]; walk_at "ms"))
local macro_rules | `(tactic| walk_at "fin") => `(tactic| repeat' (first | assumption | exact trivial | exact rfl | apply And.intro))
local macro_rules | `(tactic| walk_at "mo") => `(tactic| try (walk_at "ms"))
def ren (wide : Nat) (u : U) : List AV := if u.big then (if 2 ≤ wide then [u.c.av, (right u.c).av] else [.none]) else [u.c.av]
def rens (wide : Nat) (t : List U) : List AV := t.flatMap (ren wide)
def rendP (wide : Nat) (t : List U) : List AV := rens wide t ++ List.replicate (wide - szs wide t) .none
theorem ren_len (wide : Nat) (u : U) : (ren wide u).length = sz wide u := by
  unfold ren sz
  cases u.big <;> simp
  split <;> simp [*]
theorem rens_len (wide : Nat) (t : List U) : (rens wide t).length = szs wide t := by
  induction t with
  | nil => rfl
  | cons u r ih => rw [rens, List.flatMap_cons, List.length_append, ren_len, szs]; rw [rens] at ih; rw [ih]
theorem rens_one (wide : Nat) (t : List U) (u : U) : rens wide (t ++ [u]) = rens wide t ++ ren wide u := by simp [rens]
abbrev locs (ps : List (Addr × List U)) : List AV := ps.map fun x => AV.loc x.1
theorem locs_len (ps : List (Addr × List U)) : (locs ps).length = ps.length := by simp [locs]
theorem fill_pad {C : CallT} {l : Loc} {st : Sto} {QF : Fl → Loc → Sto → Prop} {F g : Addr} {gs cur : List AV} {wide : Nat} (g1 : l 1 = some (.int wide)) (g2 : l 2 = some (.loc F)) (eF : st F = some (.list (gs ++ [.loc g]))) (eg : st g = some (.list cur))
    (hl : cur.length ≤ wide) (hw : wide ≤ 10) (hg : gs.length ≤ 100) (q : ∀ z st', ExtX (fun x => x = F) st st' → st z = none → st' z = some (.list (cur ++ List.replicate (wide - cur.length) .none)) → st' F = some (.list (gs ++ [.loc z])) → QF .next l st') :
    exP tab C (.setsub (.var 2) (.neg (.lit (.int (1)))) (.bin .add (.sub (.var 2) (.neg (.lit (.int (1))))) (.bin .mul (.listE (.cons (.lit .none) .nil)) (.bin .sub (.var 1) (.len (.sub (.var 2) (.neg (.lit (.int (1)))))))))) l st QF := by
  walk_at "ms"
  try simp only [g1, g2, Option.some.injEq, exists_eq_left']
  refine sub_last eF (by omega) ?_
  intro x hx
  try simp only [g1, g2, Option.some.injEq, exists_eq_left']
  refine sub_last (upd_at eF hx) (by omega) ?_
  refine len_at (upd_at eg hx) (by omega) ?_
  walk_at "ms"
  refine .inr ⟨x, .none, (wide : Int) - cur.length, rfl, rfl, upd_same, by omega, by omega, fun y hy => ?_⟩
  rw [show ((wide : Int) - cur.length).toNat = wide - cur.length by omega]
  refine .inr ⟨g, y, cur, List.replicate (wide - cur.length) .none, rfl, rfl, upd_at (upd_at eg hx) hy, upd_same, by simp; omega, fun z hz => ?_⟩
  walk_at "mo"
  try simp only [g1, g2, Option.some.injEq, exists_eq_left']
  walk_at "mo"
  have eF' := upd_at (o' := .list (cur ++ List.replicate (wide - cur.length) .none)) (upd_at (o' := .list (List.replicate (wide - cur.length) .none)) (upd_at (o' := .list [.none]) eF hx) hy) hz
  have x1 : Ext st (upd st x (.list [.none])) := Ext.new hx
  have x2 := x1.trans (Ext.new (o := .list (List.replicate (wide - cur.length) .none)) hy)
  have x3 := x2.trans (Ext.new (o := .list (cur ++ List.replicate (wide - cur.length) .none)) hz)
  refine setsub_last eF' (by omega) ?_
  refine q z _ ((x3.toX).upd rfl) (x2.out hz) ?_ upd_same
  rw [upd_ne (ne_of (x2.at eF) hz).symm, upd_same]
section
variable {st : Sto} {n : Nat} {Q : AV → Sto → Prop}
theorem flat_at (dn : List U) (u : U) (r : List U) : (flat (dn ++ u :: r))[(flat dn).length]? = some u.c := by
  rw [flat_app, List.getElem?_append_right (Nat.le_refl _), Nat.sub_self]
  obtain ⟨y, hy, _⟩ := flat_head (us := u :: r) rfl
  rw [hy]; rfl
theorem c_law_filled (hn : 2 ≤ n) {b : Addr} {us : List U} {wide : Nat} (hb : st b = some (.list (avs (flat us)))) (hw : 1 ≤ wide) (hw2 : wide ≤ 10) (hl : (flat us).length ≤ 50) (hok : ∀ u ∈ us, u.Ok)
    (q : ∀ F st' ps, Ext st st' → st F = none → st' F = some (.list (locs ps)) → (∀ x ∈ ps, st' x.1 = some (.list (rendP wide x.2))) → ps.map Prod.snd = fillU wide [] us → Q (.loc F) st') : Calls tab prg n 495 [.loc b, .int wide] st Q := by
  refine call_fn rfl (by omega) (by simp) ?_
  unfold m_law_filled
  refine seq_step (fun l' st' => l' 0 = some (.loc b) ∧ l' 1 = some (.int wide) ∧ ∃ F g, l' 2 = some (.loc F) ∧ Ext st st' ∧ st F = none ∧ st g = none ∧ g ≠ F ∧ st' F = some (.list [.loc g]) ∧ st' g = some (.list [])) ?_ ?_
  · walk_at "ms"
    intro g hg F hF
    have x₂ := (Ext.new (o := .list []) hg).trans (Ext.new (o := .list [.loc g]) hF)
    exact ⟨F, g, rfl, x₂, (Ext.new (o := .list []) hg).out hF, hg, ne_of upd_same hF, upd_same, upd_at upd_same hF⟩
  rintro l st₁ ⟨g0, g1, F, G, g2, x₁, hF, hG, hGF, eF, eG⟩
  refine seq_step (fun l' st' => l' 1 = some (.int wide) ∧ l' 2 = some (.loc F) ∧ ∃ ps g cur, Ext st st' ∧ st g = none ∧ g ≠ F ∧ st' F = some (.list (locs ps ++ [.loc g])) ∧ st' g = some (.list (rens wide cur)) ∧ (∀ x ∈ ps, st' x.1 = some (.list (rendP wide x.2)) ∧ x.1 ≠ F ∧ x.1 ≠ g) ∧ fillU wide [] us = ps.map Prod.snd ++ [cur] ∧ szs wide cur ≤ wide ∧ ps.length ≤ 60) ?_ ?_
  · walk_at "ms"
    try simp only [g0, Option.some.injEq, exists_eq_left']
    refine itL_at (x₁.at hb) ?_
    refine for_list (calls_mono _) (fun i l' st' => l' 0 = some (.loc b) ∧ l' 1 = some (.int wide) ∧ l' 2 = some (.loc F) ∧ Ext st st' ∧ ∃ ps g cur dn rest, us = dn ++ rest ∧ (i = (flat dn).length ∨ (i + 1 = (flat dn).length ∧ ∃ dn' u, dn = dn' ++ [u] ∧ u.big = true)) ∧
      st g = none ∧ g ≠ F ∧ st' F = some (.list (locs ps ++ [.loc g])) ∧ st' g = some (.list (rens wide cur)) ∧ (∀ x ∈ ps, st' x.1 = some (.list (rendP wide x.2)) ∧ x.1 ≠ F ∧ x.1 ≠ g) ∧ fillU wide [] us = ps.map Prod.snd ++ fillU wide cur rest ∧ szs wide cur ≤ wide ∧ ps.length ≤ dn.length)
      ⟨g0, g1, g2, x₁, [], G, [], [], us, rfl, .inl rfl, hG, hGF, eF, eG, nofun, rfl, by simp [szs], by simp⟩ (fun i l' st' h => h.2.2.2.1.at hb) ?_ ?_
    · rintro i l' st' v ⟨g0, g1, g2, x₂, ps, g, cur, dn, rest, hus, hi, hg, hgF, eF, eg, hps, hfill, hcur, hpl⟩ hv
      obtain ⟨c, hc, rfl⟩ := avs_at hv
      have hic := lt_get hc
      have hrl : (flat us).length = (flat dn).length + (flat rest).length := by rw [hus, flat_app, List.length_append]
      have hdl := flat_ge dn
      rcases hi with hi | ⟨hi, dn', u, hdn, hub⟩
      · obtain ⟨u, r, rfl⟩ : ∃ u r, rest = u :: r := by
          cases rest with
          | nil => have hl0 : (flat ([] : List U)).length = 0 := rfl; omega
          | cons u r => exact ⟨u, r, rfl⟩
        have hcu : c = u.c := by
          have := flat_at dn u r
          rw [← hus, ← hi, hc] at this; cases this; rfl
        subst hcu
        have hu := hok u (by rw [hus]; simp)
        have huw := hu.w
        have hszl := sz_le hw u
        have hmin : (if (wide : Int) < u.c.w then (wide : Int) else u.c.w) = sz wide u := by
          rw [huw]; unfold sz
          cases u.big <;> simp <;> (repeat' split) <;> omega
        walk_at "mc"
        refine ⟨fun hpos => ?_, fun hneg => by rw [huw] at hneg; exfalso; split at hneg <;> omega⟩
        refine seq_step (fun l'' st'' => l'' 0 = some (.loc b) ∧ l'' 1 = some (.int wide) ∧ l'' 2 = some (.loc F) ∧ l'' 3 = some u.c.av ∧ l'' 4 = some (.int (sz wide u)) ∧ st' = st'') ?_ ?_
        · walk_at "ms"
          try simp only [g1, Option.some.injEq, exists_eq_left']
          walk_at "mo"
          rw [hmin]
          walk_at "fin"
        rintro l'' _ ⟨g0, g1, g2, g3, g4, rfl⟩
        refine seq_step (fun l'' st'' => l'' 0 = some (.loc b) ∧ l'' 1 = some (.int wide) ∧ l'' 2 = some (.loc F) ∧ l'' 3 = some u.c.av ∧ ∃ ps g cur, Ext st st'' ∧
          st g = none ∧ g ≠ F ∧ st'' F = some (.list (locs ps ++ [.loc g])) ∧ st'' g = some (.list (rens wide cur)) ∧ (∀ x ∈ ps, st'' x.1 = some (.list (rendP wide x.2)) ∧ x.1 ≠ F ∧ x.1 ≠ g) ∧ fillU wide [] us = ps.map Prod.snd ++ fillU wide (cur ++ [u]) r ∧ szs wide cur + sz wide u ≤ wide ∧ ps.length ≤ dn.length + 1) ?_ ?_
        · walk_at "ms"
          try simp only [g1, g2, g4, Option.some.injEq, exists_eq_left']
          refine sub_last eF (by rw [locs_len]; omega) ?_
          refine len_at eg (by rw [rens_len]; omega) ?_
          rw [rens_len]
          walk_at "mo"
          try simp only [g1, g2, g4, Option.some.injEq, exists_eq_left']
          walk_at "mo"
          refine ⟨fun hbig => ?_, fun hsm => ?_⟩
          · rw [exPs_cons]
            refine fill_pad g1 g2 eF eg (by rw [rens_len]; exact hcur) hw2 (by rw [locs_len]; omega) ?_
            intro z st₃ x₃ hz ez eF₃
            rw [rens_len] at ez
            walk_at "mo"
            walk_at "mc"
            try simp only [g2, Option.some.injEq, exists_eq_left']
            refine app_at eF₃ ?_
            walk_at "ms"
            intro g' hg'
            have hzF : z ≠ F := fun w => by rw [w, eF] at hz; cases hz
            refine ⟨_, upd_at eF₃ hg', by simp; omega, ?_⟩
            have x₄ : Ext st st₃ := x₂.thru (P := fun x => x = F) (fun w hw => by rw [hw]; exact hF) x₃
            have g'F : F ≠ g' := ne_of eF₃ hg'
            have x₅ := (x₄.trans (Ext.new (o := .list []) hg')).upd (o := .list (locs ps ++ [.loc z] ++ [.loc g'])) hF
            have hfu : fillU wide cur (u :: r) = cur :: fillU wide [u] r := by rw [fillU, if_pos (by omega)]
            have k1 := hz
            walk_at "mo"
            walk_at "fin"
            refine ⟨ps ++ [(z, cur)], g', [], x₅, x₄.out hg', g'F.symm, ?_, ?_, ?_, ?_, ?_, ?_⟩
            · rw [upd_same]; simp [locs]
            · rw [upd_ne g'F.symm, upd_same]; rfl
            · intro x hx
              rcases List.mem_append.mp hx with h | h
              · obtain ⟨h1, h2, h3⟩ := hps x h
                have h4 := x₃.at h2 h1
                exact ⟨by rw [upd_ne h2]; exact upd_at h4 hg', h2, ne_of h4 hg'⟩
              · rw [List.mem_singleton.mp h]
                exact ⟨by show upd _ _ _ z = _; rw [upd_ne hzF]; exact upd_at ez hg', hzF, ne_of ez hg'⟩
            · rw [hfill, hfu]; simp
            · simp [szs]; omega
            · simp; omega
          · walk_at "mo"
            have hfu : fillU wide cur (u :: r) = fillU wide (cur ++ [u]) r := by rw [fillU, if_neg (by omega)]
            walk_at "fin"
            exact ⟨ps, g, cur, x₂, hg, hgF, eF, eg, hps, by rw [hfill, hfu], by omega, by omega⟩
        rintro l'' st₃ ⟨g0, g1, g2, g3, ps, g, cur, x₃, hg, hgF, eF, eg, hps, hfill, hcur, hpl⟩
        have hend : ∀ st₄ st₅ ds, Ext st₃ st₄ → ds = ren wide u → upd st₄ g (.list (rens wide cur ++ ds)) = st₅ → Ext st st₅ ∧ ∃ ps g cur dn rest, us = dn ++ rest ∧ (i + 1 = (flat dn).length ∨ (i + 1 + 1 = (flat dn).length ∧ ∃ dn' u, dn = dn' ++ [u] ∧ u.big = true)) ∧
            st g = none ∧ g ≠ F ∧ st₅ F = some (.list (locs ps ++ [.loc g])) ∧ st₅ g = some (.list (rens wide cur)) ∧ (∀ x ∈ ps, st₅ x.1 = some (.list (rendP wide x.2)) ∧ x.1 ≠ F ∧ x.1 ≠ g) ∧ fillU wide [] us = ps.map Prod.snd ++ fillU wide cur rest ∧ szs wide cur ≤ wide ∧ ps.length ≤ dn.length := by
          rintro st₄ _ _ x₄ rfl rfl
          refine ⟨(x₃.trans x₄).upd hg, ps, g, cur ++ [u], dn ++ [u], r, by rw [hus]; simp, ?_, hg, hgF, ?_, ?_, ?_, hfill, by rw [szs_app]; simp [szs]; omega, by simp; omega⟩
          · rw [flat_one, List.length_append, flat_len1]
            cases hub : u.big with
            | true => exact .inr ⟨by simp only [if_true]; omega, dn, u, rfl, hub⟩
            | false => exact .inl (by simp only [Bool.false_eq_true, if_false]; omega)
          · rw [upd_ne hgF.symm]; exact x₄.at eF
          · rw [upd_same, rens_one]
          · intro x hx
            obtain ⟨h1, h2, h3⟩ := hps x hx
            exact ⟨by rw [upd_ne h3]; exact x₄.at h1, h2, h3⟩
        walk_at "mc"
        try simp only [g1, g3, Option.some.injEq, exists_eq_left']
        walk_at "mo"
        have happ : ∀ (v : AV), ren wide u = [v] → ∃ ds, st₃ g = some (.list ds) ∧ ds.length ≤ 1000 ∧ (Ext st (upd st₃ g (.list (ds ++ [v]))) ∧ ∃ ps g' cur dn rest, us = dn ++ rest ∧ (i + 1 = (flat dn).length ∨ (i + 1 + 1 = (flat dn).length ∧ ∃ dn' u, dn = dn' ++ [u] ∧ u.big = true)) ∧
            st g' = none ∧ g' ≠ F ∧ upd st₃ g (.list (ds ++ [v])) F = some (.list (locs ps ++ [.loc g'])) ∧ upd st₃ g (.list (ds ++ [v])) g' = some (.list (rens wide cur)) ∧ (∀ x ∈ ps, upd st₃ g (.list (ds ++ [v])) x.1 = some (.list (rendP wide x.2)) ∧ x.1 ≠ F ∧ x.1 ≠ g') ∧ fillU wide [] us = ps.map Prod.snd ++ fillU wide cur rest ∧ szs wide cur ≤ wide ∧ ps.length ≤ dn.length) := by
          intro v hv
          exact ⟨_, eg, by rw [rens_len]; omega, hend st₃ _ [v] (Ext.refl _) hv.symm rfl⟩
        have hone : ∀ h : ¬ (u.c.w = 2 ∧ 1 < (wide : Int)), (u.c.w = 1 → ren wide u = [u.c.av]) ∧ (u.c.w ≠ 1 → ren wide u = [.none]) := fun h => by
          unfold ren
          cases hub : u.big with
          | true => rw [hub] at huw; simp only [if_true] at huw; refine ⟨fun z => by omega, fun _ => ?_⟩; show (if 2 ≤ wide then _ else _) = _; rw [if_neg (by omega)]
          | false => rw [hub] at huw; simp only [Bool.false_eq_true, if_false] at huw ⊢; exact ⟨fun _ => trivial, fun z => absurd huw z⟩
        have htail : ¬ (u.c.w = 2 ∧ 1 < (wide : Int)) → exPs tab (Calls tab prg (n - 1)) (.cons (.expr (.append (.sub (.var 2) (.neg (.lit (.int (1))))) (.ifE (.val (.cmp .eq (.sub (.var 3) (.lit (.int (1)))) (.lit (.int (1))))) (.var 3) (.lit .none)))) .nil) l'' st₃ (turnQ (fun l' st' => l' 0 = some (.loc b) ∧ l' 1 = some (.int wide) ∧ l' 2 = some (.loc F) ∧ Ext st st' ∧ ∃ ps g cur dn rest, us = dn ++ rest ∧ (i + 1 = (flat dn).length ∨ (i + 1 + 1 = (flat dn).length ∧ ∃ dn' u, dn = dn' ++ [u] ∧ u.big = true)) ∧
      st g = none ∧ g ≠ F ∧ st' F = some (.list (locs ps ++ [.loc g])) ∧ st' g = some (.list (rens wide cur)) ∧ (∀ x ∈ ps, st' x.1 = some (.list (rendP wide x.2)) ∧ x.1 ≠ F ∧ x.1 ≠ g) ∧ fillU wide [] us = ps.map Prod.snd ++ fillU wide cur rest ∧ szs wide cur ≤ wide ∧ ps.length ≤ dn.length) (fun _ _ _ => False)) := by
          intro h
          walk_at "mc"
          try simp only [g2, g3, Option.some.injEq, exists_eq_left']
          refine sub_last eF (by rw [locs_len]; omega) ?_
          refine app_at eg ?_
          walk_at "mo"
          try simp only [g2, g3, Option.some.injEq, exists_eq_left']
          walk_at "mo"
          refine ⟨fun h1 => ?_, fun h1 => ?_⟩
          · obtain ⟨ds, k1, k2, k3, k4⟩ := happ _ ((hone h).1 h1)
            refine ⟨ds, k1, k2, ?_⟩
            walk_at "mo"
            walk_at "fin"
          · obtain ⟨ds, k1, k2, k3, k4⟩ := happ _ ((hone h).2 h1)
            refine ⟨ds, k1, k2, ?_⟩
            walk_at "mo"
            walk_at "fin"
        refine ⟨fun h2 => ⟨fun h1 => ?_, fun h1 => ?_⟩, fun h2 => ?_⟩
        · walk_at "mc"
          try simp only [g2, Option.some.injEq, exists_eq_left']
          refine sub_last eF (by rw [locs_len]; omega) ?_
          refine ext_at eg ?_
          walk_at "ms"
          try simp only [g3, Option.some.injEq, exists_eq_left']
          refine c_right (by omega) ?_
          walk_at "mo"
          intro m hm
          refine ⟨_, _, upd_at eg hm, .inl ⟨m, rfl, (ne_of eg hm).symm, upd_same⟩, by rw [rens_len]; omega, by simp, ?_⟩
          have hub : u.big = true := by cases hub : u.big with | true => rfl | false => rw [hub] at huw; simp at huw; omega
          obtain ⟨k3, k4⟩ := hend _ _ [u.c.av, (right u.c).av] (Ext.new (o := .list [u.c.av, (right u.c).av]) hm) (by unfold ren; rw [hub, if_pos rfl, if_pos (by omega)]) rfl
          walk_at "mo"
          walk_at "fin"
        · refine exPs_mono (calls_mono _) _ ?_ (htail fun z => h1 z.2)
          rintro (_ | _ | _ | _) l st <;> intro h <;> first | exact h | exact h.elim
        · refine exPs_mono (calls_mono _) _ ?_ (htail fun z => h2 z.1)
          rintro (_ | _ | _ | _) l st <;> intro h <;> first | exact h | exact h.elim
      · have hcu : c.w = 0 := by
          have e : flat us = (flat dn' ++ [u.c]) ++ (right u.c :: flat rest) := by rw [hus, hdn, flat_app, flat_one]; simp [U.flat, hub]
          have hl2 : (flat dn).length = (flat dn').length + 2 := by rw [hdn, flat_one, List.length_append, flat_len1, hub]; rfl
          rw [e, List.getElem?_append_right (by simp only [List.length_append, List.length_cons, List.length_nil]; omega), show i - (flat dn' ++ [u.c]).length = 0 by simp only [List.length_append, List.length_cons, List.length_nil]; omega] at hc
          cases hc; rfl
        walk_at "mc"
        refine ⟨fun hpos => by omega, fun _ => ?_⟩
        walk_at "mo"
        walk_at "fin"
        exact ⟨ps, g, cur, dn, rest, hus, .inl hi, hg, hgF, eF, eg, hps, hfill, hcur, hpl⟩
    · rintro l' st' ⟨g0, g1, g2, x₂, ps, g, cur, dn, rest, hus, hi, hg, hgF, eF, eg, hps, hfill, hcur, hpl⟩
      rw [avs_len] at hi
      have hrl : (flat us).length = (flat dn).length + (flat rest).length := by rw [hus, flat_app, List.length_append]
      have hdl := flat_ge dn
      have hr0 : rest = [] := by
        cases hr : rest with
        | nil => rfl
        | cons u r => have := flat_pos (us := rest) (by rw [hr]; exact nofun); rcases hi with h | ⟨h, _⟩ <;> omega
      subst hr0
      walk_at "mo"
      walk_at "fin"
      exact ⟨ps, g, cur, x₂, hg, hgF, eF, eg, hps, hfill, hcur, by omega⟩
  rintro l st₂ ⟨g1, g2, ps, g, cur, x₂, hg, hgF, eF, eg, hps, hfill, hcur, hpl⟩
  refine seq_step (fun l' st' => l' 2 = some (.loc F) ∧ ∃ ps, Ext st st' ∧ st' F = some (.list (locs ps)) ∧ (∀ x ∈ ps, st' x.1 = some (.list (rendP wide x.2))) ∧ ps.map Prod.snd = fillU wide [] us) ?_ ?_
  · refine fill_pad g1 g2 eF eg (by rw [rens_len]; exact hcur) hw2 (by rw [locs_len]; omega) ?_
    intro z st₃ x₃ hz ez eF₃
    rw [rens_len] at ez
    have x₄ : Ext st st₃ := x₂.thru (P := fun x => x = F) (fun w hw => by rw [hw]; exact hF) x₃
    refine ⟨g2, ps ++ [(z, cur)], x₄, by rw [eF₃]; simp [locs], ?_, by rw [hfill]; simp⟩
    intro x hx
    rcases List.mem_append.mp hx with h | h
    · obtain ⟨h1, h2, h3⟩ := hps x h
      exact x₃.at h2 h1
    · rw [List.mem_singleton.mp h]; exact ez
  rintro l st₃ ⟨g2, ps, x₃, eF, hps, hfill⟩
  walk_at "mc"
  try simp only [g2, Option.some.injEq, exists_eq_left']
  exact q F st₃ ps x₃ hF eF hps hfill
end
end Mine

end

section
set_option linter.unusedVariables false
set_option linter.unusedSimpArgs false
set_option maxHeartbeats 1000000
namespace Mine
open PySem
local macro_rules | `(tactic| walk_at "ms") => `(tactic| simp only [ev_lit, ev_var, ev_tup, ev_list, ev_dict, ev_bin, ev_fdiv, ev_neg, ev_not, ev_and, ev_or, ev_if, ev_cmp, ev_cmp2, ev_call, ev_meth, ev_app, ev_ext, ev_pop, ev_attr, ev_sub, ev_slice, ev_rev, ev_len, ev_max, ev_min, ev_listOf, ev_intOf, ev_all, ev_comp,
  evs_nil, evs_cons, ts_val, ts_not, ts_and, ts_or, ts_if, it_list, it_enum, it_zip, it_r1, it_r2, ex_expr, ex_ret, ex_retN, ex_asg, ex_asgT, ex_setattr, ex_setsub, ex_setslice, ex_aug, ex_ite, ex_for, ex_while, ex_cont, exPs_nil,
  seqQ, turnQ, retQ, truth_bool, bin_add, bin_sub, bin_mul, bin_md, neg_int, max_int, min_int, int_int, aug_add, aug_sub, cmp_lt, cmp_le, cmp_gt, cmp_ge, cmp_eq, cmp_ne, cmp_eqb, cmp_neb, cmp_eqs, cmp_nes, cmp_eqc, cmp_nec, cmp_eq0, cmp_ne0,
  sub_cell0, sub_cell1, sub_cell2, sub_cell3, sub_pen2, put, argsOf, List.cons_append, List.nil_append, List.append_nil, List.drop_nil, List.length_cons, List.length_nil, List.getElem?_cons_zero, List.getElem?_cons_succ, Option.some.injEq, exists_eq_left', List.length_map, Nat.reduceAdd, Nat.reduceSub, Nat.reduceEqDiff, Nat.reduceLeDiff, if_true, if_false, ite_true, ite_false, reduceIte, true_and, and_true, Nat.zero_le,
  reduceCtorEq, eq_self, false_implies, true_implies, implies_true, decide_eq_true_eq, decide_eq_false_iff_not, beq_iff_eq, Bool.not_eq_true', Bool.not_eq_false', Bool.and_eq_true, Bool.or_eq_true, beq_eq_false_iff_ne, ne_eq])
local macro_rules | `(tactic| walk_at "mc") => `(tactic| (rw [exPs_cons]; walk_at "ms"))
local macro_rules | `(tactic| walk_at "fin") => `(tactic| repeat' (first | assumption | exact trivial | exact rfl | apply And.intro))
local macro_rules | `(tactic| walk_at "mo") => `(tactic| try (walk_at "ms"))
def all2 {α β : Type} (R : α → β → Prop) : List α → List β → Prop
  | [], [] => True
  | a :: x, b :: y => R a b ∧ all2 R x y
  | _, _ => False
theorem all2_app {α β : Type} {R : α → β → Prop} : ∀ {x : List α} {y : List β} {x' : List α} {y' : List β}, all2 R x y → all2 R x' y' → all2 R (x ++ x') (y ++ y')
  | [], [], _, _, _, h => h
  | a :: x, b :: y, _, _, h, h' => ⟨h.1, all2_app h.2 h'⟩
  | [], _ :: _, _, _, h, _ => h.elim
  | _ :: _, [], _, _, h, _ => h.elim
theorem all2_rep {α β : Type} {R : α → β → Prop} {a : α} {b : β} (h : R a b) : ∀ k, all2 R (List.replicate k a) (List.replicate k b)
  | 0 => trivial
  | k + 1 => ⟨h, all2_rep h k⟩
theorem all2_get {α β : Type} {R : α → β → Prop} : ∀ {x : List α} {y : List β} {i : Nat} {a : α} {b : β}, all2 R x y → x[i]? = some a → y[i]? = some b → R a b
  | a :: x, b :: y, 0, _, _, h, h1, h2 => by cases h1; cases h2; exact h.1
  | a :: x, b :: y, i + 1, _, _, h, h1, h2 => all2_get (i := i) h.2 h1 h2
  | [], _, _, _, _, _, h1, _ => by simp at h1
  | _ :: _, [], _, _, _, h, _, _ => h.elim
def OkZ (c : Cell) (o : AV) : Prop := (o = .none ∧ isBlank c = true) ∨ (∃ d : Cell, o = d.av ∧ (isBlank d = true → isBlank c = true) ∧ (isBlank d = false → c = d))
theorem okz_self (c : Cell) : OkZ c c.av := .inr ⟨c, rfl, fun h => h, fun _ => rfl⟩
theorem blank_is (p : Pen) : isBlank (blank p) = true := rfl
theorem okz_line {wide : Nat} (hw : 1 ≤ wide) {pen : Pen} {t : List U} (hok : ∀ u ∈ t, u.Ok) (hs : szs wide t ≤ wide) : all2 OkZ (lineC wide pen t) (rendP wide t) := by
  by_cases h2 : 2 ≤ wide
  · rw [lineC_2 h2 hok hs]
    refine all2_app ?_ (all2_rep (.inl ⟨rfl, blank_is pen⟩) _)
    clear hs hok
    induction t with
    | nil => trivial
    | cons u r ih =>
      simp only [flat, rens, List.flatMap_cons] at ih ⊢
      refine all2_app ?_ ih
      unfold U.flat ren
      cases u.big with
      | true => simp only [if_true, if_pos h2]; exact ⟨okz_self _, okz_self _, trivial⟩
      | false => exact ⟨okz_self _, trivial⟩
  · have : wide = 1 := by omega
    subst this
    by_cases ht : t = []
    · subst ht; exact ⟨.inl ⟨rfl, blank_is pen⟩, trivial⟩
    · obtain ⟨u, rfl⟩ := szs_one hs ht
      rw [lineC_1 u (hok u (by simp))]
      have hsz : szs 1 [u] = 1 := by simp [szs, sz]
      unfold rendP
      rw [hsz]
      simp only [rens, List.flatMap_cons, List.flatMap_nil, List.append_nil, ren, Nat.sub_self, List.replicate_zero]
      cases u.big with
      | true => exact ⟨.inl ⟨rfl, blank_is _⟩, trivial⟩
      | false => exact ⟨okz_self _, trivial⟩
theorem rendP_len {wide : Nat} {t : List U} (hs : szs wide t ≤ wide) : (rendP wide t).length = wide := by unfold rendP; rw [List.length_append, rens_len, List.length_replicate]; omega
theorem eqvs_bools {st : Sto} {n : Nat} : ∀ bs : List Bool, EqVs st n (bs.map .bool) (bs.map .bool) (bs.map fun _ => true)
  | [] => .nilL _
  | b :: r => by have := EqVs.cons (EqV.bool (st := st) (n := n) b b) (eqvs_bools r); simpa using this
theorem eqv_bools {st : Sto} {n : Nat} {a b : Addr} {bs : List Bool} (ha : st a = some (.list (bs.map .bool))) (hb : st b = some (.list (bs.map .bool))) : EqV st (n + 1) (.loc a) (.loc b) true := by
  have := EqV.list (n := n) ha hb rfl (eqvs_bools bs)
  rwa [show (bs.map fun _ => true).all id = true by simp] at this
section
variable {st : Sto} {n : Nat} {Q : AV → Sto → Prop}
theorem c_are_cut (hn : 8 ≤ n) {b : Addr} {us : List U} {wide : Nat} {pen : Pen} (hb : st b = some (.list (avs (flat us)))) (hw : 1 ≤ wide) (hw2 : wide ≤ 10) (hl : (flat us).length ≤ 50) (hok : ∀ u ∈ us, u.Ok) (q : ∀ st', Ext st st' → Q (.bool true) st') :
    Calls tab prg n 507 [.loc b, .int wide, pen.av] st Q := by
  refine call_fn rfl (by omega) (by simp) ?_
  unfold m_law_are_cut
  refine seq_step (fun l' st' => l' 1 = some (.int wide) ∧ ∃ L F xs ps, l' 3 = some (.loc L) ∧ l' 4 = some (.loc F) ∧ Ext st st' ∧ st' L = some (.list (lns xs)) ∧ st' F = some (.list (locs ps)) ∧ (∀ x ∈ xs, x.At st') ∧ (∀ x ∈ ps, st' x.1 = some (.list (rendP wide x.2))) ∧
    xs.map Ln.cs = (fillU wide [] us).map (lineC wide pen) ∧ ps.map Prod.snd = fillU wide [] us ∧ xs.map Ln.wr = List.replicate (xs.length - 1) true ++ [false]) ?_ ?_
  · walk_at "ms"
    refine c_cells_cut (by omega) hb hw hw2 (by omega) hok ?_
    intro L st₁ xs x₁ hL eL hxs hcs hwr
    refine c_law_filled (by omega) (x₁.at hb) hw hw2 hl hok ?_
    intro F st₂ ps x₂ hF eF hps hfill
    walk_at "mo"
    refine ⟨_, _, rfl, rfl, ?_⟩
    exact ⟨rfl, L, F, xs, ps, rfl, rfl, x₁.trans x₂, x₂.at eL, eF, fun x hx => (hxs x hx).ext x₂, hps, hcs, hfill, hwr⟩
  rintro l st₁ ⟨g1, L, F, xs, ps, g3, g4, x₁, eL, eF, hxs, hps, hcs, hfill, hwr⟩
  have hlen : xs.length = ps.length := by
    have h1 := congrArg List.length hcs
    have h2 := congrArg List.length hfill
    simp only [List.length_map] at h1 h2; omega
  have hfa := fill_all hw us [] (by simp [szs])
  have hfl : xs.length ≤ 100 := by
    have h2 := congrArg List.length hcs
    simp only [List.length_map] at h2
    have h3 : ∀ (us cur : List U), (fillU wide cur us).length ≤ us.length + 1 := by
      intro us
      induction us with
      | nil => intro cur; simp [fillU]
      | cons u r ih =>
        intro cur
        rw [fillU]
        split
        · have := ih [u]; simp; omega
        · have := ih (cur ++ [u]); simp; omega
    have := h3 us []
    have := flat_ge us
    omega
  refine seq_step (fun l' st' => l' 1 = some (.int wide) ∧ l' 3 = some (.loc L) ∧ l' 4 = some (.loc F) ∧ Ext st₁ st') ?_ ?_
  · rw [ex_ite]
    refine tsP_mono (calls_mono _) _ (Q := fun b st₃ => b = false ∧ Ext st₁ st₃) ?_ ?_
    · rintro b st₃ ⟨rfl, x₃⟩
      refine ⟨nofun, fun _ => ?_⟩
      rw [exPs_nil]
      exact ⟨g1, g3, g4, x₃⟩
    · walk_at "ms"
      try simp only [g3, Option.some.injEq, exists_eq_left']
      refine itL_at eL ?_
      refine comp_gen (fun i => (lns xs)[i]?) xs.length (fun i v h => by have := lt_get h; rw [lns_len] at this; exact this) (by omega)
        (fun i acc st' => st₁ = st' ∧ acc = ((xs.map Ln.wr).take i).map AV.bool) ⟨rfl, by simp⟩ (calls_mono _) (fun i acc st' h => by rw [← h.1]; exact nx_list eL) ?_ ?_
      · rintro i acc _ v ⟨rfl, rfl⟩ hi hv
        obtain ⟨x, hx, rfl⟩ := lns_at hv
        refine ⟨_, rfl, ?_⟩
        walk_at "ms"
        refine at_wr (hxs x (List.mem_of_getElem? hx)) ?_
        refine ⟨rfl, ?_⟩
        rw [List.take_add_one, List.getElem?_map, hx]; simp
      · rintro i acc _ ⟨rfl, rfl⟩ hi hN hnx m hm
        have hix : xs.length ≤ i := by simpa [lns] using hnx
        rw [List.take_of_length_le (by simpa using hix), hwr]
        walk_at "mo"
        intro a ha
        try simp only [g4, Option.some.injEq, exists_eq_left']
        have x₂ := (Ext.new (o := .list ((List.replicate (xs.length - 1) true ++ [false]).map AV.bool)) hm)
        have x₃ := x₂.trans (Ext.new (o := .list [.bool true]) ha)
        refine len_at (x₃.at eF) (by rw [locs_len]; omega) ?_
        rw [locs_len]
        walk_at "ms"
        refine .inr ⟨a, .bool true, (ps.length : Int) - 1, rfl, rfl, upd_same, by omega, by omega, fun c hc => ?_⟩
        rw [show ((ps.length : Int) - 1).toNat = xs.length - 1 by omega]
        intro d hd
        have y1 := upd_same (st := upd (upd st₁ m (.list ((List.replicate (xs.length - 1) true ++ [false]).map AV.bool))) a (.list [.bool true])) (a := c) (o := .list (List.replicate (xs.length - 1) (.bool true)))
        refine .inr ⟨c, d, _, _, rfl, rfl, upd_at y1 hd, upd_same, by simp; omega, fun e he => ?_⟩
        have z1 := upd_at (o' := .list (List.replicate (xs.length - 1) (.bool true) ++ [.bool false])) (upd_at (o' := .list [.bool false]) (upd_at (o' := .list (List.replicate (xs.length - 1) (.bool true))) (upd_at (o' := .list [.bool true]) (upd_same (st := st₁) (a := m) (o := .list ((List.replicate (xs.length - 1) true ++ [false]).map AV.bool))) ha) hc) hd) he
        have x₄ := ((x₃.trans (Ext.new (o := .list (List.replicate (xs.length - 1) (.bool true))) hc)).trans (Ext.new (o := .list [.bool false]) hd)).trans (Ext.new (o := .list (List.replicate (xs.length - 1) (.bool true) ++ [.bool false])) he)
        dsimp only
        rw [cmp_nev (eqv_bools z1 (by rw [upd_same]; simp))]
        walk_at "mo"
        exact x₄
  rintro l st₂ ⟨g1, g3, g4, x₂⟩
  refine seq_step (fun l' st' => Ext st st') ?_ ?_
  · walk_at "ms"
    try simp only [g3, g4, Option.some.injEq, exists_eq_left']
    refine itZ_at (x₂.at eL) (x₂.at eF) ?_
    refine for_zip (ds := lns xs) (es := locs ps) (calls_mono _) (fun i l' st' => st₂ = st' ∧ l' 1 = some (.int wide)) (by rw [lns_len, locs_len, hlen]) ⟨rfl, g1⟩ (fun i l st h => by rw [← h.1]; exact x₂.at eL) (fun i l st h => by rw [← h.1]; exact x₂.at eF) ?_ ?_
    · rintro i l' _ v u ⟨rfl, g1⟩ hv hu
      obtain ⟨x, hx, rfl⟩ := lns_at hv
      obtain ⟨y, hy, rfl⟩ : ∃ y, ps[i]? = some y ∧ u = .loc y.1 := by
        simp only [locs, List.getElem?_map, Option.map_eq_some_iff] at hu
        obtain ⟨c, h1, h2⟩ := hu
        exact ⟨c, h1, h2.symm⟩
      have hy2 : (fillU wide [] us)[i]? = some y.2 := by rw [← hfill, List.getElem?_map, hy]; rfl
      have hxc : x.cs = lineC wide pen y.2 := by
        have := congrArg (fun z : List (List Cell) => z[i]?) hcs
        simp only [List.getElem?_map, hx, hy2, Option.map_some, Option.some.injEq] at this
        exact this
      obtain ⟨hs, hin⟩ := hfa y.2 (List.mem_of_getElem? hy2)
      have hoky : ∀ u ∈ y.2, u.Ok := fun u hu => hok u ((hin u hu).resolve_left (by simp))
      have hAt := (hxs x (List.mem_of_getElem? hx)).ext x₂
      have hrow := x₂.at (hps y (List.mem_of_getElem? hy))
      have hxl : x.cs.length = wide := by rw [hxc, lineC_len]
      refine seq_step (fun l'' st'' => st₂ = st'' ∧ l'' 1 = some (.int wide) ∧ l'' 5 = some (.loc x.a) ∧ l'' 6 = some (.loc y.1)) ?_ ?_
      · walk_at "ms"
        refine at_columns (by omega) hAt (by omega) ?_
        try simp only [g1, Option.some.injEq, exists_eq_left']
        rw [hxl]
        walk_at "ms"
        refine ⟨fun h => absurd trivial h, ?_⟩
        refine at_sz hAt ?_
        walk_at "mo"
        refine ⟨fun h => absurd trivial h, ?_⟩
        refine at_cells hAt ?_
        refine c_line_is_whole (by omega) hAt.k (by omega) ?_
        rw [hxc, lineC_whole hw hoky hs]
        walk_at "mo"
        walk_at "fin"
      rintro l'' _ ⟨rfl, g1, g5, g6⟩
      walk_at "mc"
      try simp only [g5, g6, Option.some.injEq, exists_eq_left']
      refine at_cells hAt ?_
      try simp only [g5, g6, Option.some.injEq, exists_eq_left']
      refine itZ_at hAt.k hrow ?_
      refine for_zip (ds := avs x.cs) (es := rendP wide y.2) (calls_mono _) (fun i l' st' => st₂ = st' ∧ l' 1 = some (.int wide)) (by rw [avs_len, hxl, rendP_len hs]) ⟨rfl, g1⟩ (fun i l st h => by rw [← h.1]; exact hAt.k) (fun i l st h => by rw [← h.1]; exact hrow) ?_ ?_
      · rintro j l' _ v o ⟨rfl, g1⟩ hv ho
        obtain ⟨c, hc, rfl⟩ := avs_at hv
        rw [hxc] at hc
        have hz := all2_get (okz_line hw hoky hs) hc ho
        walk_at "mc"
        rcases hz with ⟨rfl, hbl⟩ | ⟨d, rfl, hd1, hd2⟩
        · refine .inl ⟨rfl, .inl ⟨rfl, ?_⟩⟩
          walk_at "mo"
          refine c_is_empty (by omega) ?_
          rw [hbl]
          walk_at "mo"
          walk_at "fin"
        · refine .inl ⟨rfl, .inr ⟨nofun, ?_⟩⟩
          walk_at "mo"
          refine c_is_empty (by omega) ?_
          walk_at "mo"
          refine ⟨fun hb => ?_, fun hb => ?_⟩
          · refine c_is_empty (by omega) ?_
            rw [hd1 hb]
            walk_at "mo"
            walk_at "fin"
          · rw [hd2 hb, Cell.eqb_self]
            walk_at "mo"
            walk_at "fin"
      · rintro l' _ ⟨rfl, g1⟩
        walk_at "mo"
        walk_at "fin"
    · rintro l' _ ⟨rfl, g1⟩
      exact x₁.trans x₂
  rintro l st₃ x₃
  walk_at "mc"
  exact q st₃ x₃
end
end Mine

end

section
set_option linter.unusedVariables false
set_option linter.unusedSimpArgs false
set_option maxHeartbeats 1000000
namespace Mine
open PySem
local macro_rules | `(tactic| walk_at "ms") => `(tactic| simp only [ev_lit, ev_var, ev_tup, ev_list, ev_dict, ev_bin, ev_fdiv, ev_neg, ev_not, ev_and, ev_or, ev_if, ev_cmp, ev_cmp2, ev_call, ev_meth, ev_app, ev_ext, ev_pop, ev_attr, ev_sub, ev_slice, ev_rev, ev_len, ev_max, ev_min, ev_listOf, ev_intOf, ev_all, ev_comp,
  evs_nil, evs_cons, ts_val, ts_not, ts_and, ts_or, ts_if, it_list, it_enum, it_zip, it_r1, it_r2, ex_expr, ex_ret, ex_retN, ex_asg, ex_asgT, ex_setattr, ex_setsub, ex_setslice, ex_aug, ex_ite, ex_for, ex_while, ex_cont, exPs_nil,
  seqQ, turnQ, retQ, truth_bool, bin_add, bin_sub, bin_mul, bin_md, neg_int, max_int, min_int, int_int, aug_add, aug_sub, cmp_lt, cmp_le, cmp_gt, cmp_ge, cmp_eq, cmp_ne, cmp_eqb, cmp_neb, cmp_eqs, cmp_nes, cmp_eqc, cmp_nec, cmp_eq0, cmp_ne0,
  sub_cell0, sub_cell1, sub_cell2, sub_cell3, sub_pen2, put, argsOf, List.cons_append, List.nil_append, List.append_nil, List.drop_nil, List.length_cons, List.length_nil, List.getElem?_cons_zero, List.getElem?_cons_succ, Option.some.injEq, exists_eq_left', List.length_map, Nat.reduceAdd, Nat.reduceSub, Nat.reduceEqDiff, Nat.reduceLeDiff, if_true, if_false, ite_true, ite_false, reduceIte, true_and, and_true, Nat.zero_le,
  reduceCtorEq, eq_self, false_implies, true_implies, implies_true, decide_eq_true_eq, decide_eq_false_iff_not, beq_iff_eq, Bool.not_eq_true', Bool.not_eq_false', Bool.and_eq_true, Bool.or_eq_true, beq_eq_false_iff_ne, ne_eq])
local macro_rules | `(tactic| walk_at "mc") => `(tactic| (rw [exPs_cons]; walk_at "ms"))
local macro_rules | `(tactic| walk_at "fin") => `(tactic| repeat' (first | assumption | exact trivial | exact rfl | apply And.intro))
local macro_rules | `(tactic| walk_at "mo") => `(tactic| try (walk_at "ms"))
theorem snoc_ind {α : Type} {P : List α → Prop} (h0 : P []) (h1 : ∀ R c, P R → P (R ++ [c])) : ∀ xs, P xs := by
  intro xs
  rw [← List.reverse_reverse xs]
  generalize xs.reverse = ys
  induction ys with
  | nil => exact h0
  | cons y ys ih => rw [List.reverse_cons]; exact h1 _ _ ih
theorem strip_app (p : Cell → Bool) (A : List Cell) : ∀ x, stripG p (A ++ stripG p x) = stripG p (A ++ x) := by
  refine snoc_ind rfl fun R c ih => ?_
  rw [strip_snoc]
  split
  · rename_i h
    rw [ih, ← List.append_assoc, strip_snoc, if_pos h]
  · rfl
theorem strip_rep {p : Cell → Bool} {c : Cell} (h : p c = true) (xs : List Cell) : ∀ k, stripG p (xs ++ List.replicate k c) = stripG p xs
  | 0 => by simp
  | k + 1 => by rw [List.replicate_succ', ← List.append_assoc, strip_snoc, if_pos h, strip_rep h xs k]
theorem isPB_blank {c : Cell} (h : isPB c = true) : isBlank c = true := by
  unfold isPB at h
  rw [Cell.eqb_iff] at h; rw [h]; rfl
theorem isPB_plain : isPB (blank plain) = true := Cell.eqb_self _
theorem strip_flat {p : Cell → Bool} (hp : ∀ c, p c = true → isBlank c = true) {us : List U} (hok : ∀ u ∈ us, u.Ok) (hl : ∀ pre u, us = pre ++ [u] → isBlank u.c = false) : stripG p (flat us) = flat us := by
  by_cases h : us = []
  · subst h; rfl
  · obtain ⟨R, u, rfl⟩ := snoc_of h
    obtain ⟨R', e⟩ := flat_last R u
    rw [e, strip_snoc, if_neg]
    intro hc
    have := hp _ hc
    rw [last_blank (hok u (by simp)), hl R u rfl] at this; cases this
/-- what the rows' own joining says -/
def joinR : List (List Cell) → List Cell
  | [] => []
  | [x] => x
  | x :: y :: r => dropPad x y ++ joinR (y :: r)
theorem join_LR : ∀ (rows : List (List Cell)) (A : List Cell), stripG isPB (A ++ joinL rows) = stripG isPB (A ++ joinR rows)
  | [], _ => rfl
  | [x], A => strip_app isPB A x
  | x :: y :: r, A => by
    rw [joinL, joinR, ← List.append_assoc, ← List.append_assoc]
    exact join_LR (y :: r) (A ++ dropPad x y)
theorem joinL_len : ∀ (rows : List (List Cell)) (w : Nat), (∀ x ∈ rows, x.length ≤ w) → (joinL rows).length ≤ w * rows.length
  | [], _, _ => by simp [joinL]
  | [x], w, h => by
    obtain ⟨k, h1, h2⟩ := strip_le (p := isPB) x
    have := h x (by simp)
    simp only [joinL, h2, List.length_take, List.length_cons, List.length_nil]; omega
  | x :: y :: r, w, h => by
    have h1 := joinL_len (y :: r) w fun z hz => h z (by simp at hz; simp [hz])
    have h2 := h x (by simp)
    have h3 : (dropPad x y).length ≤ x.length := by unfold dropPad; split <;> (try simp only [List.length_dropLast]) <;> omega
    simp only [joinL, List.length_append]
    have : w * (x :: y :: r).length = w * (y :: r).length + w := by simp only [List.length_cons]; rw [Nat.mul_add]; omega
    omega
theorem joinR_len : ∀ (rows : List (List Cell)) (w : Nat), (∀ x ∈ rows, x.length ≤ w) → (joinR rows).length ≤ w * rows.length
  | [], _, _ => by simp [joinR]
  | [x], w, h => by
    have := h x (by simp)
    simp only [joinR, List.length_cons, List.length_nil]; omega
  | x :: y :: r, w, h => by
    have h1 := joinR_len (y :: r) w fun z hz => h z (by simp at hz; simp [hz])
    have h2 := h x (by simp)
    have h3 : (dropPad x y).length ≤ x.length := by unfold dropPad; split <;> (try simp only [List.length_dropLast]) <;> omega
    simp only [joinR, List.length_append]
    have : w * (x :: y :: r).length = w * (y :: r).length + w := by simp only [List.length_cons]; rw [Nat.mul_add]; omega
    omega
theorem last_cell {us : List U} (h : us ≠ []) (hok : ∀ u ∈ us, u.Ok) : ∃ pre u R c, us = pre ++ [u] ∧ flat us = R ++ [c] ∧ isBlank c = isBlank u.c := by
  obtain ⟨R, u, rfl⟩ := snoc_of h
  obtain ⟨R', e⟩ := flat_last R u
  exact ⟨R, u, R', _, rfl, e, last_blank (hok u (by simp))⟩
theorem drop_pad {wide : Nat} (h2 : 2 ≤ wide) {t t' r' : List U} {v : U} (hok : ∀ u ∈ t, u.Ok) (hokv : ∀ u ∈ (v :: t'), u.Ok) (hne : t ≠ []) (hs : szs wide t ≤ wide) (hs' : szs wide (v :: t') ≤ wide) (hv : szs wide t + sz wide v > wide)
    (hnb : ∀ pre u, t = pre ++ [u] → v.big = true → isBlank u.c = false) : dropPad (lineC wide plain t) (lineC wide plain (v :: t')) = flat t := by
  rw [lineC_2 h2 hok hs, lineC_2 h2 hokv hs']
  obtain ⟨y, hy, _⟩ := flat_head (us := v :: t') rfl
  rw [hy, List.cons_append]
  have hvw := (hokv v (by simp)).w
  have hszv : sz wide v ≤ 2 := by unfold sz; split <;> omega
  by_cases hful : szs wide t = wide
  · rw [hful, Nat.sub_self, List.replicate_zero, List.append_nil]
    obtain ⟨pre, u, R, c, h1, h3, h4⟩ := last_cell hne hok
    rw [h3, dropPad, padded_snoc, if_neg]
    intro hp
    simp only [Bool.and_eq_true, beq_iff_eq] at hp
    have hb : v.big = true := by
      cases hb : v.big with
      | true => rfl
      | false => rw [hb] at hvw; simp at hvw; omega
    rw [h4, hnb pre u h1 hb] at hp; cases hp.1
  · have hb : v.big = true := by
      cases hb : v.big with
      | true => rfl
      | false => rw [sz, hb] at hv; simp at hv; omega
    have hd : wide - szs wide t = 1 := by omega
    rw [hd, show List.replicate 1 (blank plain) = [blank plain] from rfl, dropPad, padded_snoc, if_pos]
    · simp
    · rw [hvw, hb]; rfl
theorem join_cut {wide : Nat} (h2 : 2 ≤ wide) : ∀ (k : Nat) (us : List U), us.length ≤ k → us ≠ [] → Rw us → (∀ pre u, us = pre ++ [u] → isBlank u.c = false) → joinL ((fillU wide [] us).map (lineC wide plain)) = flat us := by
  intro k
  induction k with
  | zero => intro us hk hne; cases us with | nil => exact absurd rfl hne | cons _ _ => simp at hk
  | succ k ih =>
    intro us hk hne hr hl
    obtain ⟨t, r, h1, h3, h4, h5, h6, h7⟩ := fill_first (wide := wide) (by omega) hne
    have hokt : ∀ u ∈ t, u.Ok := fun u h => hr.ok u (by rw [h1]; simp [h])
    by_cases hr0 : r = []
    · subst hr0
      rw [h5 rfl]
      simp only [List.map_cons, List.map_nil, joinL]
      rw [lineC_2 h2 hokt h4, strip_rep isPB_plain, strip_flat (fun _ => isPB_blank) hokt (fun pre u e => hl pre u (by rw [h1]; simpa using e)), h1]; simp
    · have hrr : Rw r := ⟨fun u h => hr.ok u (by rw [h1]; simp [h]), fun u h => hr.pl u (by rw [h1]; simp [h]), fun pre u v post e hv => hr.nb (t ++ pre) u v post (by rw [h1, e]; simp) hv⟩
      have htl : 1 ≤ t.length := by cases t with | nil => exact absurd rfl h3 | cons _ _ => simp
      have hrec := ih r (by rw [h1] at hk; simp at hk; omega) hr0 hrr (fun pre u e => hl (t ++ pre) u (by rw [h1, e]; simp))
      rw [h6 hr0]
      obtain ⟨t', r', k1, k3, k4, k5, k6, k7⟩ := fill_first (wide := wide) (by omega) hr0
      have hform : ∃ rest, fillU wide [] r = t' :: rest := by
        by_cases z : r' = []
        · exact ⟨_, k5 z⟩
        · exact ⟨_, k6 z⟩
      obtain ⟨rest, hrest⟩ := hform
      rw [hrest] at hrec ⊢
      simp only [List.map_cons, joinL] at hrec ⊢
      rw [hrec]
      obtain ⟨v, t'', rfl⟩ : ∃ v t'', t' = v :: t'' := by cases t' with | nil => exact absurd rfl k3 | cons v t'' => exact ⟨v, t'', rfl⟩
      rw [drop_pad h2 (r' := []) hokt (fun u h => hrr.ok u (by rw [k1]; simp at h; simp; rcases h with h | h <;> simp [h])) h3 h4 k4 (h7 v (t'' ++ r') (by rw [k1]; rfl)) ?_, h1, flat_app]
      intro pre u e hv
      exact hr.nb pre u v (t'' ++ r') (by rw [h1, e, k1]; simp) hv
/-! sublists -/
theorem fixF_drop : ∀ {us : List U} (s : Nat), (∀ u ∈ us, u.Ok) → ∃ vs, (∀ u ∈ vs, u.Ok) ∧ fixF ((flat us).drop s) = flat vs := by
  intro us
  induction us with
  | nil => intro s _; exact ⟨[], nofun, by simp [flat, fixF]⟩
  | cons u r ih =>
    intro s hok
    have hu := hok u (by simp)
    have huw := hu.w
    cases s with
    | zero => exact ⟨u :: r, hok, by rw [List.drop_zero, fixF_flat hok]⟩
    | succ s =>
      cases hb : u.big with
      | false =>
        obtain ⟨vs, h1, h2⟩ := ih s fun x hx => hok x (by simp [hx])
        refine ⟨vs, h1, ?_⟩
        rw [← h2]; simp [flat, U.flat, hb]
      | true =>
        cases s with
        | zero =>
          refine ⟨mkB u.c.pen :: r, ?_, ?_⟩
          · intro x hx
            rcases List.mem_cons.mp hx with h | h
            · rw [h]; exact mkB_ok _
            · exact hok x (by simp [h])
          · simp [flat, U.flat, hb, fixF, right, mkB]
        | succ s =>
          obtain ⟨vs, h1, h2⟩ := ih s fun x hx => hok x (by simp [hx])
          refine ⟨vs, h1, ?_⟩
          rw [← h2]; simp [flat, U.flat, hb]
theorem fixL_take : ∀ {us : List U} (m : Nat), (∀ u ∈ us, u.Ok) → ∃ vs, (∀ u ∈ vs, u.Ok) ∧ fixL ((flat us).take m) = flat vs := by
  intro us
  refine snoc_ind (P := fun us => ∀ (m : Nat), (∀ u ∈ us, u.Ok) → ∃ vs, (∀ u ∈ vs, u.Ok) ∧ fixL ((flat us).take m) = flat vs) ?_ ?_ us
  · intro m _; exact ⟨[], nofun, by simp [flat, fixL]⟩
  · intro R u ih m hok
    have hu := hok u (by simp)
    have huw := hu.w
    have hR : ∀ x ∈ R, x.Ok := fun x hx => hok x (by simp [hx])
    rw [flat_one]
    by_cases hm : m ≤ (flat R).length
    · obtain ⟨vs, h1, h2⟩ := ih m hR
      exact ⟨vs, h1, by rw [List.take_append_of_le_length hm]; exact h2⟩
    · by_cases hm2 : m < (flat R ++ u.flat).length
      · rw [List.length_append, flat_len1] at hm2
        have hb : u.big = true := by cases hb : u.big with | true => rfl | false => rw [hb] at hm2; simp only [Bool.false_eq_true, if_false] at hm2; omega
        rw [hb] at hm2 huw
        simp only [if_true] at hm2 huw
        have e : (flat R ++ u.flat).take m = flat R ++ [u.c] := by
          rw [List.take_append, List.take_of_length_le (by omega), show m - (flat R).length = 1 by omega]
          simp [U.flat, hb]
        refine ⟨R ++ [mkB u.c.pen], ?_, ?_⟩
        · intro x hx
          rcases List.mem_append.mp hx with h | h
          · exact hR x h
          · rw [List.mem_singleton.mp h]; exact mkB_ok _
        · rw [e, fixL_snoc, if_pos huw, flat_one]; rfl
      · refine ⟨R ++ [u], hok, ?_⟩
        rw [List.take_of_length_le (by omega), ← flat_one, fixL_flat hok]
theorem fixF_take {xs : List Cell} {m : Nat} : fixF (xs.take m) = (fixF xs).take m := by
  cases xs with
  | nil => simp [fixF]
  | cons c r => cases m with | zero => simp [fixF] | succ m => simp [fixF]
theorem piece_whole {us : List U} (hok : ∀ u ∈ us, u.Ok) (s m : Nat) : wholeG nbR none (fixB (((flat us).drop s).take m)) = true := by
  obtain ⟨vs, h1, h2⟩ := fixF_drop s hok
  obtain ⟨ws, h3, h4⟩ := fixL_take m h1
  rw [fixB, fixF_take, h2, h4]
  exact whole_flat nbR_right none fun u hu => (h3 u hu).w
def Adj : List Cell → Prop
  | c :: d :: r => (c.w = 2 → d = right c) ∧ Adj (d :: r)
  | _ => True
theorem adj_flat : ∀ {us : List U}, (∀ u ∈ us, u.Ok) → Adj (flat us)
  | [], _ => trivial
  | u :: r, hok => by
    have hr := adj_flat (us := r) fun x hx => hok x (by simp [hx])
    have huw := (hok u (by simp)).w
    simp only [flat, List.flatMap_cons] at hr ⊢
    have hgen : ∀ (c : Cell) (y : List Cell), Adj y → c.w ≠ 2 → Adj (c :: y) := fun c y hy hc => by
      cases y with
      | nil => trivial
      | cons d y => exact ⟨fun z => absurd z hc, hy⟩
    unfold U.flat
    cases hb : u.big with
    | true => exact ⟨fun _ => rfl, hgen _ _ hr (by simp [right])⟩
    | false => rw [hb] at huw; exact hgen _ _ hr (by simp at huw; omega)
theorem adj_drop : ∀ (s : Nat) {xs : List Cell}, Adj xs → Adj (xs.drop s)
  | 0, _, h => by simpa using h
  | s + 1, [], _ => by simp; trivial
  | s + 1, [c], _ => by simp; trivial
  | s + 1, c :: d :: r, h => by rw [List.drop_succ_cons]; exact adj_drop s h.2
theorem adj_take : ∀ (m : Nat) {xs : List Cell}, Adj xs → Adj (xs.take m)
  | 0, _, _ => by simp; trivial
  | m + 1, [], _ => by simp; trivial
  | m + 1, [c], _ => by simp; trivial
  | 1, c :: d :: r, _ => by simp; trivial
  | m + 2, c :: d :: r, h => by
    have := adj_take (m + 1) h.2
    rw [List.take_succ_cons] at this ⊢
    rw [List.take_succ_cons]
    exact ⟨h.1, this⟩
theorem whole_LR : ∀ (xs : List Cell) (p : Option Cell), Adj xs → wholeG nbR p xs = wholeG nbL p xs
  | [], _, _ => rfl
  | [c], p, _ => rfl
  | c :: d :: r, p, h => by
    have ih := whole_LR (d :: r) (some c) h.2
    have e : ∀ nb, wholeG nb p (c :: d :: r) = (!(c.w == 2 && nb c d) && (!(c.w == 0 && (match p with | none => true | some q => q.w != 2)) && wholeG nb (some c) (d :: r))) := fun nb => by cases p <;> rfl
    rw [e, e, ih]
    by_cases hc : c.w = 2
    · have hd := h.1 hc
      simp only [hd, nbR_right, nbL_right]
    · have : (c.w == 2) = false := by simpa using hc
      simp only [this, Bool.false_and]
end Mine

end

section
set_option linter.unusedVariables false
set_option linter.unusedSimpArgs false
set_option maxHeartbeats 1000000
namespace Mine
open PySem
local macro_rules | `(tactic| walk_at "ms") => `(tactic| simp only [ev_lit, ev_var, ev_tup, ev_list, ev_dict, ev_bin, ev_fdiv, ev_neg, ev_not, ev_and, ev_or, ev_if, ev_cmp, ev_cmp2, ev_call, ev_meth, ev_app, ev_ext, ev_pop, ev_attr, ev_sub, ev_slice, ev_rev, ev_len, ev_max, ev_min, ev_listOf, ev_intOf, ev_all, ev_comp,
  evs_nil, evs_cons, ts_val, ts_not, ts_and, ts_or, ts_if, it_list, it_enum, it_zip, it_r1, it_r2, ex_expr, ex_ret, ex_retN, ex_asg, ex_asgT, ex_setattr, ex_setsub, ex_setslice, ex_aug, ex_ite, ex_for, ex_while, ex_cont, exPs_nil,
  seqQ, turnQ, retQ, truth_bool, bin_add, bin_sub, bin_mul, bin_md, neg_int, max_int, min_int, int_int, aug_add, aug_sub, cmp_lt, cmp_le, cmp_gt, cmp_ge, cmp_eq, cmp_ne, cmp_eqb, cmp_neb, cmp_eqs, cmp_nes, cmp_eqc, cmp_nec, cmp_eq0, cmp_ne0,
  sub_cell0, sub_cell1, sub_cell2, sub_cell3, sub_pen2, put, argsOf, List.cons_append, List.nil_append, List.append_nil, List.drop_nil, List.length_cons, List.length_nil, List.getElem?_cons_zero, List.getElem?_cons_succ, Option.some.injEq, exists_eq_left', List.length_map, Nat.reduceAdd, Nat.reduceSub, Nat.reduceEqDiff, Nat.reduceLeDiff, if_true, if_false, ite_true, ite_false, reduceIte, true_and, and_true, Nat.zero_le,
  reduceCtorEq, eq_self, false_implies, true_implies, implies_true, decide_eq_true_eq, decide_eq_false_iff_not, beq_iff_eq, Bool.not_eq_true', Bool.not_eq_false', Bool.and_eq_true, Bool.or_eq_true, beq_eq_false_iff_ne, ne_eq])
local macro_rules | `(tactic| walk_at "mc") => `(tactic| (rw [exPs_cons]; walk_at "ms"))
local macro_rules | `(tactic| walk_at "fin") => `(tactic| repeat' (first | assumption | exact trivial | exact rfl | apply And.intro))
local macro_rules | `(tactic| walk_at "mo") => `(tactic| try (walk_at "ms"))
theorem Deck.off {st : Sto} {k c b : Addr} {cs : List Cell} (D : Deck st k c) (hb : st b = some (.list (avs cs))) (hne : cs ≠ []) : ¬ dk k c b := by
  obtain ⟨xs, m, h1, h2, _⟩ := D
  rintro (rfl | rfl)
  · rw [hb] at h1; cases h1
  · rw [hb] at h2
    cases cs with
    | nil => exact hne rfl
    | cons d r => cases xs with
      | nil => simp [avs] at h2
      | cons z zs => simp [avs, Cell.av] at h2
abbrev rls (ps : List (Addr × List Cell)) : List AV := ps.map fun x => AV.loc x.1
theorem rls_len (ps : List (Addr × List Cell)) : (rls ps).length = ps.length := by simp [rls]
theorem rls_at {ps : List (Addr × List Cell)} {i : Nat} {v : AV} (h : (rls ps)[i]? = some v) : ∃ x, ps[i]? = some x ∧ v = .loc x.1 := by
  simp only [rls, List.getElem?_map, Option.map_eq_some_iff] at h
  obtain ⟨c, h1, h2⟩ := h
  exact ⟨c, h1, h2.symm⟩
theorem rls_get {ps : List (Addr × List Cell)} {i : Nat} {x : Addr × List Cell} (h : ps[i]? = some x) : (rls ps)[i]? = some (.loc x.1) := by simp [rls, h]
section
variable {st : Sto} {n : Nat} {Q : AV → Sto → Prop}
theorem c_ends_right (hn : 8 ≤ n) {k c : Addr} (D : Deck st k c) {b : Addr} {us : List U} (hb : st b = some (.list (avs (flat us)))) (hne : us ≠ []) (hok : ∀ u ∈ us, u.Ok) (hl : (flat us).length ≤ 50) (q : ∀ st', ExtX (dk k c) st st' → Deck st' k c → Q (.bool true) st') :
    Calls tab prg n 528 [.loc k, .loc b] st Q := by
  have hlp := flat_pos hne
  have hbk : ¬ dk k c b := D.off hb (fun z => by rw [z] at hlp; simp at hlp)
  refine call_fn rfl (by omega) (by simp) ?_
  unfold m_law_ends_right
  refine seq_step (fun l' st' => l' 0 = some (.loc k) ∧ l' 1 = some (.loc b) ∧ ExtX (dk k c) st st' ∧ Deck st' k c ∧ ∃ v : Nat, l' 2 = some (.int v) ∧ v < (flat us).length) ?_ ?_
  · walk_at "ms"
    refine len_at hb (by rw [avs_len]; omega) ?_
    rw [avs_len]
    refine c_draw (by omega) D (by omega) (by omega) ?_
    intro v st' h0 h1 x D'
    obtain ⟨v, rfl⟩ := Int.eq_ofNat_of_zero_le h0
    walk_at "mo"
    walk_at "fin"
    exact ⟨v, rfl, by omega⟩
  rintro l st₁ ⟨g0, g1, x₁, D₁, v, g2, hv⟩
  refine seq_step (fun l' st' => ExtX (dk k c) st st' ∧ Deck st' k c ∧ ∃ m f, 1 ≤ m ∧ l' 3 = some (.loc f) ∧ st' f = some (.list (avs (((flat us).drop v).take m)))) ?_ ?_
  · walk_at "ms"
    try simp only [g0, g1, g2, Option.some.injEq, exists_eq_left']
    walk_at "mo"
    refine len_at (x₁.at hbk hb) (by rw [avs_len]; omega) ?_
    rw [avs_len]
    walk_at "ms"
    try simp only [g0, g1, g2, Option.some.injEq, exists_eq_left']
    walk_at "mo"
    refine c_draw (by omega) D₁ (by omega) (by omega) ?_
    intro w st₂ h0 h1 x₂ D₂
    obtain ⟨w, rfl⟩ := Int.eq_ofNat_of_zero_le h0
    walk_at "mo"
    refine slice_at (i := v) (j := v + 1 + w) (x₂.at hbk (x₁.at hbk hb)) ?_ (by rw [avs_len]; omega) fun f hf => ?_
    · rw [avs_len]
      simp only [cutBounds, Mine.clip, Option.some.injEq, Prod.mk.injEq]
      constructor <;> (repeat' split) <;> omega
    · have e : cut (avs (flat us)) v (v + 1 + w) = avs (((flat us).drop v).take (w + 1)) := by
        simp only [cut, avs, List.map_take, List.map_drop]
        rw [show v + 1 + w - v = w + 1 by omega]
      rw [e]
      exact ⟨(x₁.trans x₂).trans (Ext.new hf).toX, D₂.ext (Ext.new hf), w + 1, f, by omega, rfl, upd_same⟩
  rintro l st₂ ⟨x₂, D₂, m, f, hm, g3, e₂⟩
  have hPw := piece_whole hok v m
  have hLR := whole_LR (((flat us).drop v).take m) none (adj_take m (adj_drop v (adj_flat hok)))
  have hPl : (((flat us).drop v).take m).length ≤ 50 ∧ 1 ≤ (((flat us).drop v).take m).length := by rw [List.length_take, List.length_drop]; omega
  generalize hP : ((flat us).drop v).take m = P at *
  refine seq_step (fun l' st' => st₂ = st' ∧ l' 3 = some (.loc f)) ?_ ?_
  · walk_at "ms"
    try simp only [g3, Option.some.injEq, exists_eq_left']
    refine c_line_is_whole (by omega) e₂ (by omega) ?_
    try simp only [g3, Option.some.injEq, exists_eq_left']
    refine c_law_is_whole (by omega) e₂ (by omega) ?_
    rw [hLR]
    walk_at "mo"
    exact fun h => absurd trivial h
  rintro l _ ⟨rfl, g3⟩
  refine seq_step (fun l' st' => Ext st₂ st' ∧ l' 3 = some (.loc f) ∧ ∃ g, l' 4 = some (.loc g) ∧ st₂ g = none ∧ st' g = some (.list (avs P))) ?_ ?_
  · walk_at "ms"
    try simp only [g3, Option.some.injEq, exists_eq_left']
    refine list_at e₂ (by rw [avs_len]; omega) fun g hg => ?_
    have z1 := Ext.new (o := .list (avs P)) hg
    walk_at "mo"
    walk_at "fin"
    exact ⟨g, rfl, hg, upd_same⟩
  rintro l st₃ ⟨x₃, g3, g, g4, hg, e₃⟩
  refine seq_step (fun l' st' => Ext st₂ st' ∧ l' 3 = some (.loc f) ∧ l' 4 = some (.loc g) ∧ st' g = some (.list (avs (fixF P)))) ?_ ?_
  · obtain ⟨d, R, rfl⟩ : ∃ d R, P = d :: R := by cases P with | nil => simp at hPl | cons d R => exact ⟨d, R, rfl⟩
    walk_at "ms"
    try simp only [g4, Option.some.injEq, exists_eq_left']
    refine sub_at e₃ (by omega) (by omega) (avs_get (c := d) rfl) ?_
    walk_at "ms"
    refine ⟨fun hw => ?_, fun hw => ?_⟩
    · walk_at "mc"
      try simp only [g4, Option.some.injEq, exists_eq_left']
      refine sub_at e₃ (by omega) (by omega) (avs_get (c := d) rfl) ?_
      walk_at "ms"
      refine c_blank (by omega) ?_
      try simp only [g4, Option.some.injEq, exists_eq_left']
      refine setsub_at e₃ (by omega) (by omega) (by simp [avs]) ?_
      have z1 := x₃.upd (o := .list ((avs (d :: R)).set (0 : Int).toNat (blank d.pen).av)) hg
      have z2 : upd st₃ g (.list ((avs (d :: R)).set (0 : Int).toNat (blank d.pen).av)) g = some (.list (avs (fixF (d :: R)))) := by rw [upd_same]; simp [avs, fixF, hw]
      walk_at "mo"
      walk_at "fin"
    · have z2 : st₃ g = some (.list (avs (fixF (d :: R)))) := by rw [e₃]; simp [fixF, hw]
      walk_at "mo"
      walk_at "fin"
  rintro l st₄ ⟨x₄, g3, g4, e₄⟩
  refine seq_step (fun l' st' => Ext st₂ st' ∧ l' 3 = some (.loc f) ∧ l' 4 = some (.loc g) ∧ st' g = some (.list (avs (fixB P)))) ?_ ?_
  · have hF1 : (fixF P).length = P.length := fixF_len P
    unfold fixB
    generalize fixF P = F at *
    obtain ⟨R, d, rfl⟩ := snoc_of (xs := F) (fun z => by rw [z] at hF1; simp at hF1; omega)
    have hRl : R.length ≤ 100 := by simp at hF1; omega
    have e₅ : st₄ g = some (.list (avs R ++ [d.av])) := by rw [e₄, avs_app]; rfl
    walk_at "ms"
    try simp only [g4, Option.some.injEq, exists_eq_left']
    refine sub_last e₅ (by rw [avs_len]; omega) ?_
    walk_at "ms"
    refine ⟨fun hw => ?_, fun hw => ?_⟩
    · walk_at "mc"
      try simp only [g4, Option.some.injEq, exists_eq_left']
      refine sub_last e₅ (by rw [avs_len]; omega) ?_
      walk_at "ms"
      refine c_blank (by omega) ?_
      try simp only [g4, Option.some.injEq, exists_eq_left']
      refine setsub_last e₅ (by rw [avs_len]; omega) ?_
      have z1 := x₄.upd (o := .list (avs R ++ [(blank d.pen).av])) hg
      have z2 : upd st₄ g (.list (avs R ++ [(blank d.pen).av])) g = some (.list (avs (fixL (R ++ [d])))) := by rw [upd_same, fixL_snoc, if_pos hw, avs_app]; rfl
      walk_at "mo"
      walk_at "fin"
    · have z2 : st₄ g = some (.list (avs (fixL (R ++ [d])))) := by rw [e₄, fixL_snoc, if_neg hw]
      walk_at "mo"
      walk_at "fin"
  rintro l st₅ ⟨x₅, g3, g4, e₅⟩
  refine seq_step (fun l' st' => Ext st₂ st' ∧ l' 4 = some (.loc g) ∧ st' g = some (.list (avs (fixB P))) ∧ ∃ a d e, l' 5 = some (.loc a) ∧ LineAt st' a d e (fixB P) true "wide") ?_ ?_
  · walk_at "ms"
    try simp only [g3, Option.some.injEq, exists_eq_left']
    refine c_line_of (by omega) (.inr (.inr rfl)) (x₅.at e₂) (by omega) ?_
    intro a d e st₆ x₆ _ _ _ L
    walk_at "mo"
    have z1 := x₅.trans x₆
    have z2 := x₆.at e₅
    walk_at "fin"
    exact ⟨a, d, e, rfl, L⟩
  rintro l st₆ ⟨x₆, g4, e₆, a, d, e, g5, L⟩
  have hBl : (fixB P).length ≤ 50 := by rw [fixB_len]; omega
  walk_at "mc"
  try simp only [g4, g5, Option.some.injEq, exists_eq_left']
  refine at_cells L (list_at L.k (by rw [avs_len]; omega) fun h hh => ?_)
  try simp only [g4, g5, Option.some.injEq, exists_eq_left']
  have x₇ := x₆.trans (Ext.new (o := .list (avs (fixB P))) hh)
  have L' := L.ext (Ext.new (o := .list (avs (fixB P))) hh)
  obtain ⟨t, ht1, ht2⟩ := eqv_rows (n := 17) (upd_same (st := st₆) (a := h) (o := .list (avs (fixB P)))) (upd_at (o' := .list (avs (fixB P))) e₆ hh)
  rw [cmp_eqv ht1, ht2.mpr rfl]
  walk_at "mo"
  refine at_wr L' ?_
  refine .inr ⟨true, true, rfl, rfl, ?_⟩
  walk_at "mo"
  refine ⟨at_sz L' ?_, fun h => absurd trivial h⟩
  walk_at "mo"
  refine ⟨?_, fun h => absurd trivial h⟩
  refine at_cells L' ?_
  refine c_line_is_whole (by omega) L'.k (by omega) ?_
  rw [hPw]
  exact q _ (x₂.trans x₇.toX) (D₂.ext x₇)
theorem c_law_joined (hn : 2 ≤ n) {b : Addr} {ps : List (Addr × List Cell)} (hb : st b = some (.list (rls ps))) (hps : ∀ x ∈ ps, st x.1 = some (.list (avs x.2))) (h0 : ∀ x ∈ ps, x.2 ≠ []) (hl : ∀ x ∈ ps, x.2.length ≤ 100) (hpl : ps.length ≤ 100) (hj : (joinR (ps.map Prod.snd)).length ≤ 900)
    (q : NewL st (avs (joinR (ps.map Prod.snd))) Q) : Calls tab prg n 535 [.loc b] st Q := by
  refine call_fn rfl (by omega) (by simp) ?_
  unfold m_law_joined
  refine seq_step (fun l' st' => l' 0 = some (.loc b) ∧ ∃ f, l' 1 = some (.loc f) ∧ Ext st st' ∧ st f = none ∧ st' f = some (.list [])) ?_ ?_
  · walk_at "ms"
    intro f hf
    have x := Ext.new (o := .list []) hf
    have e : upd st f (.list []) f = some (.list []) := upd_same
    exact ⟨f, rfl, x, hf, e⟩
  rintro l st₁ ⟨g0, f, g1, x₁, hf, e₁⟩
  refine seq_step (fun l' st' => l' 1 = some (.loc f) ∧ Ext st st' ∧ st' f = some (.list (avs (joinR (ps.map Prod.snd))))) ?_ ?_
  · walk_at "ms"
    try simp only [g0, Option.some.injEq, exists_eq_left']
    refine itE_at (x₁.at hb) ?_
    refine for_enum (ds := rls ps) (calls_mono _) (fun i l' st' => l' 0 = some (.loc b) ∧ l' 1 = some (.loc f) ∧ Ext st st' ∧ ∃ acc, st' f = some (.list (avs acc)) ∧ acc ++ joinR ((ps.map Prod.snd).drop i) = joinR (ps.map Prod.snd)) ⟨g0, g1, x₁, [], e₁, rfl⟩ (fun i l' st' h => h.2.2.1.at hb) ?_ ?_
    · rintro i l' st' v ⟨g0, g1, x₂, acc, e₂, ha⟩ hv
      obtain ⟨x, hxi, rfl⟩ := rls_at hv
      have hm := List.mem_of_getElem? hxi
      have hi := lt_get hxi
      have hX := x₂.at (hps x hm)
      have hne := h0 x hm
      have hlx := hl x hm
      have hacc : acc.length ≤ 900 := by rw [← ha] at hj; simp at hj; omega
      have hd : (ps.map Prod.snd).drop i = x.2 :: (ps.map Prod.snd).drop (i + 1) := by
        rw [List.drop_eq_getElem_cons (by simpa using hi)]
        congr 1
        rw [List.getElem_map, (List.getElem?_eq_some_iff.mp hxi).2]
      obtain ⟨R, c, hR⟩ := snoc_of hne
      have hRl : R.length ≤ 100 := by rw [hR] at hlx; simp at hlx; omega
      refine seq_step (fun l'' st'' => l'' 0 = some (.loc b) ∧ l'' 1 = some (.loc f) ∧ st' = st'' ∧ l'' 3 = some (.loc x.1) ∧ ∃ s : Bool, l'' 4 = some (.bool s) ∧ acc ++ ((if s then R else x.2) ++ joinR ((ps.map Prod.snd).drop (i + 1))) = joinR (ps.map Prod.snd)) ?_ ?_
      · walk_at "ms"
        try simp only [g0, Option.some.injEq, exists_eq_left']
        refine len_at (x₂.at hb) (by rw [rls_len]; omega) ?_
        rw [rls_len]
        walk_at "ms"
        refine ⟨fun hlt => ?_, fun hge => ?_⟩
        · have hlt : i + 1 < ps.length := by omega
          refine sub_last (ds := avs R) (v := c.av) (by rw [hX, hR, avs_app]; rfl) (by rw [avs_len]; omega) ?_
          refine c_is_empty (by omega) ?_
          obtain ⟨y, hyi⟩ : ∃ y, ps[i + 1]? = some y := ⟨_, List.getElem?_eq_getElem hlt⟩
          have hmy := List.mem_of_getElem? hyi
          have hd' : (ps.map Prod.snd).drop (i + 1) = y.2 :: (ps.map Prod.snd).drop (i + 1 + 1) := by
            rw [List.drop_eq_getElem_cons (by simpa using hlt)]
            congr 1
            rw [List.getElem_map, (List.getElem?_eq_some_iff.mp hyi).2]
          obtain ⟨e, y', hY⟩ : ∃ e y', y.2 = e :: y' := by cases q : y.2 with | nil => exact absurd q (h0 y hmy) | cons e y' => exact ⟨e, y', rfl⟩
          have hgoal : ∀ s : Bool, s = padded x.2 y.2 → acc ++ ((if s then R else x.2) ++ joinR ((ps.map Prod.snd).drop (i + 1))) = joinR (ps.map Prod.snd) := by
            rintro s rfl
            rw [← ha, hd, hd', joinR, dropPad]
            congr 2
            rw [hR, List.dropLast_concat]
          rw [hR, hY, padded_snoc] at hgoal
          walk_at "ms"
          refine ⟨fun hb1 => ?_, fun hb1 => ?_⟩
          · try simp only [g0, Option.some.injEq, exists_eq_left']
            refine sub_at (x₂.at hb) (by omega) (by omega) (rls_get (x := y) (by rw [show ((i : Int) + 1).toNat = i + 1 by omega]; exact hyi)) ?_
            refine sub_at (x₂.at (hps y hmy)) (by omega) (by omega) (avs_get (c := e) (by rw [hY]; rfl)) ?_
            walk_at "ms"
            have := hgoal (e.w == 2) (by rw [hb1]; simp)
            rw [← hR] at this
            walk_at "mo"
            walk_at "fin"
            exact ⟨_, rfl, this⟩
          · have := hgoal false (by rw [hb1]; simp)
            rw [← hR] at this
            walk_at "mo"
            walk_at "fin"
            exact ⟨_, rfl, this⟩
        · have hlast : (ps.map Prod.snd).drop (i + 1) = [] := List.drop_eq_nil_of_le (by simp; omega)
          have : acc ++ ((if false then R else x.2) ++ joinR ((ps.map Prod.snd).drop (i + 1))) = joinR (ps.map Prod.snd) := by
            rw [← ha, hd, hlast]; simp [joinR]
          walk_at "mo"
          walk_at "fin"
          exact ⟨_, rfl, this⟩
      rintro l'' _ ⟨g0, g1, rfl, g3, s, g4, hs⟩
      have hxf : x.1 ≠ f := fun z => by have := hps x hm; rw [z, hf] at this; cases this
      walk_at "mc"
      try simp only [g1, Option.some.injEq, exists_eq_left']
      refine ext_at e₂ ?_
      walk_at "ms"
      try simp only [g3, g4, Option.some.injEq, exists_eq_left']
      walk_at "mo"
      refine ⟨fun h1 => ?_, fun h1 => ?_⟩
      · rw [h1] at hs
        refine slice_at (i := 0) (j := R.length) hX ?_ (by rw [avs_len]; omega) fun m hm' => ?_
        · rw [avs_len]
          have : x.2.length = R.length + 1 := by rw [hR]; simp
          simp only [cutBounds, Mine.clip, Option.some.injEq, Prod.mk.injEq, true_and]
          (repeat' split) <;> omega
        · have e : cut (avs x.2) 0 R.length = avs R := by rw [cut_zero, avs_take, hR]; simp
          rw [e]
          have mf : m ≠ f := (ne_of e₂ hm').symm
          refine ⟨_, _, upd_at e₂ hm', .inl ⟨m, rfl, mf, upd_same⟩, by rw [avs_len]; omega, by rw [avs_len]; omega, ?_⟩
          have z1 := (x₂.trans (Ext.new (o := .list (avs R)) hm')).upd (o := .list (avs acc ++ avs R)) hf
          walk_at "mo"
          walk_at "fin"
          exact ⟨acc ++ R, by rw [upd_same, avs_app], by rw [List.append_assoc]; exact hs⟩
      · rw [h1] at hs
        refine ⟨_, _, e₂, .inl ⟨x.1, rfl, hxf, hX⟩, by rw [avs_len]; omega, by rw [avs_len]; omega, ?_⟩
        have z1 := x₂.upd (o := .list (avs acc ++ avs x.2)) hf
        walk_at "mo"
        walk_at "fin"
        exact ⟨acc ++ x.2, by rw [upd_same, avs_app], by rw [List.append_assoc]; exact hs⟩
    · rintro l' st' ⟨g0, g1, x₂, acc, e₂, ha⟩
      rw [List.drop_eq_nil_of_le (by simp [rls])] at ha
      walk_at "mo"
      refine ⟨g1, x₂, ?_⟩
      rw [e₂, ← ha]; simp [joinR]
  rintro l st₂ ⟨g2, x₂, e₂⟩
  walk_at "mc"
  simp only [g2, Option.some.injEq, exists_eq_left']
  exact q f st₂ x₂ hf e₂
end
end Mine

end

section
set_option linter.unusedVariables false
set_option linter.unusedSimpArgs false
set_option maxHeartbeats 1000000
namespace Mine
open PySem
local macro_rules | `(tactic| walk_at "ms") => `(tactic| simp only [ev_lit, ev_var, ev_tup, ev_list, ev_dict, ev_bin, ev_fdiv, ev_neg, ev_not, ev_and, ev_or, ev_if, ev_cmp, ev_cmp2, ev_call, ev_meth, ev_app, ev_ext, ev_pop, ev_attr, ev_sub, ev_slice, ev_rev, ev_len, ev_max, ev_min, ev_listOf, ev_intOf, ev_all, ev_comp,
  evs_nil, evs_cons, ts_val, ts_not, ts_and, ts_or, ts_if, it_list, it_enum, it_zip, it_r1, it_r2, ex_expr, ex_ret, ex_retN, ex_asg, ex_asgT, ex_setattr, ex_setsub, ex_setslice, ex_aug, ex_ite, ex_for, ex_while, ex_cont, exPs_nil,
  seqQ, turnQ, retQ, truth_bool, bin_add, bin_sub, bin_mul, bin_md, neg_int, max_int, min_int, int_int, aug_add, aug_sub, cmp_lt, cmp_le, cmp_gt, cmp_ge, cmp_eq, cmp_ne, cmp_eqb, cmp_neb, cmp_eqs, cmp_nes, cmp_eqc, cmp_nec, cmp_eq0, cmp_ne0,
  sub_cell0, sub_cell1, sub_cell2, sub_cell3, sub_pen2, put, argsOf, List.cons_append, List.nil_append, List.append_nil, List.drop_nil, List.length_cons, List.length_nil, List.getElem?_cons_zero, List.getElem?_cons_succ, Option.some.injEq, exists_eq_left', List.length_map, Nat.reduceAdd, Nat.reduceSub, Nat.reduceEqDiff, Nat.reduceLeDiff, if_true, if_false, ite_true, ite_false, reduceIte, true_and, and_true, Nat.zero_le,
  reduceCtorEq, eq_self, false_implies, true_implies, implies_true, decide_eq_true_eq, decide_eq_false_iff_not, beq_iff_eq, Bool.not_eq_true', Bool.not_eq_false', Bool.and_eq_true, Bool.or_eq_true, beq_eq_false_iff_ne, ne_eq])
local macro_rules | `(tactic| walk_at "mc") => `(tactic| (rw [exPs_cons]; walk_at "ms"))
local macro_rules | `(tactic| walk_at "fin") => `(tactic| repeat' (first | assumption | exact trivial | exact rfl | apply And.intro))
local macro_rules | `(tactic| walk_at "mo") => `(tactic| try (walk_at "ms"))
def gridD (x y z : AV) : List (Str × AV) := [("rows", x), ("columns", y), ("lines", z)]
structure GridAt (st : Sto) (a d L : Addr) (r w : Int) (xs : List Ln) : Prop where
  o : st a = some (.inst 423 d)
  f : st d = some (.dict (gridD (.int r) (.int w) (.loc L)))
  k : st L = some (.list (lns xs))
  ls : ∀ x ∈ xs, x.At st
theorem GridAt.ext {st st' : Sto} {a d L : Addr} {r w : Int} {xs : List Ln} (G : GridAt st a d L r w xs) (x : Ext st st') : GridAt st' a d L r w xs := ⟨x.at G.o, x.at G.f, x.at G.k, fun y hy => (G.ls y hy).ext x⟩
theorem lk_rows {x y z : AV} : (gridD x y z).lookup ("rows" : Str) = some x := by unfold gridD; rfl
theorem lk_cols {x y z : AV} : (gridD x y z).lookup ("columns" : Str) = some y := by unfold gridD; rfl
theorem lk_lines {x y z : AV} : (gridD x y z).lookup ("lines" : Str) = some z := by unfold gridD; rfl
theorem fd_rows : tab.field 423 "rows" = true := by decide
theorem fd_cols : tab.field 423 "columns" = true := by decide
theorem fd_lines : tab.field 423 "lines" = true := by decide
theorem np_rows : tab.prop 423 "rows" = none := by decide
theorem np_cols : tab.prop 423 "columns" = none := by decide
theorem np_lines : tab.prop 423 "lines" = none := by decide
theorem nx_range {st : Sto} {r : Int} {i : Nat} : itNext (.range 0 r) i st = some (if (i : Int) < r then some (.int i) else none) := by simp only [itNext, Int.zero_add]
section
variable {C : CallT} {st : Sto} {n : Nat} {Q : AV → Sto → Prop} {l : Loc} {QF : Fl → Loc → Sto → Prop} {a d L : Addr} {r w : Int} {xs : List Ln}
theorem at_rows (G : GridAt st a d L r w xs) (q : Q (.int r) st) : attrP tab C "rows" (.loc a) st Q := attr_at G.o G.f np_rows fd_rows lk_rows q
theorem at_cols (G : GridAt st a d L r w xs) (q : Q (.int w) st) : attrP tab C "columns" (.loc a) st Q := attr_at G.o G.f np_cols fd_cols lk_cols q
theorem at_lines (G : GridAt st a d L r w xs) (q : Q (.loc L) st) : attrP tab C "lines" (.loc a) st Q := attr_at G.o G.f np_lines fd_lines lk_lines q
theorem at_gmeth (G : GridAt st a d L r w xs) {name : Str} {f : Addr} {as : MEs} (hm : tab.meth 423 name = some f) (hv : ∀ x y z, (gridD x y z).lookup name = none) (q : evPs tab C as l st fun ds st => C f (.loc a :: ds) st Q) : methP tab C name as l (.loc a) st Q :=
  meth_at G.o G.f (hv _ _ _) hm q
theorem c_Grid (hn : 7 ≤ n) (hr : 1 ≤ r) (hr2 : r ≤ 20) (hw : 1 ≤ w) (hw2 : w ≤ 20) (q : ∀ a d L st' xs, Ext st st' → st a = none → st d = none → st L = none → GridAt st' a d L r w xs → xs.length = r.toNat → (∀ x ∈ xs, x.cs = List.replicate w.toNat (blank plain)) → Q (.loc a) st') : Calls tab prg n 423 [.int r, .int w] st Q := by
  refine call_cls rfl (by omega) fun x dx hne hx hdx => ?_
  refine call_fn rfl (by omega) (by simp) ?_
  unfold m_Grid__init
  generalize hs0 : upd (upd st dx (.dict [])) x (.inst 423 dx) = s0
  have e0 : Ext st s0 := by rw [← hs0]; exact ((Ext.new hdx).upd hx)
  have ox : s0 x = some (.inst 423 dx) := by rw [← hs0, upd_same]
  have od : s0 dx = some (.dict []) := by rw [← hs0, upd_ne hne.symm, upd_same]
  refine seq_step (fun l' st' => l' 0 = some (.loc x) ∧ l' 1 = some (.int r) ∧ l' 2 = some (.int w) ∧ s0 = st') ?_ ?_
  · walk_at "ms"
    exact ⟨fun h => by omega, fun _ h => by omega⟩
  rintro l _ ⟨g0, g1, g2, rfl⟩
  refine seq_step (fun l' st' => l' 0 = some (.loc x) ∧ l' 1 = some (.int r) ∧ l' 2 = some (.int w) ∧ Ext st st' ∧ st' x = some (.inst 423 dx) ∧ st' dx = some (.dict [("rows", .int r)])) ?_ ?_
  · walk_at "ms"
    try simp only [g0, g1, Option.some.injEq, exists_eq_left']
    refine setattr_at ox od fd_rows (by simp) (es' := [("rows", .int r)]) rfl ?_
    have z1 := e0.upd (o := .dict [("rows", .int r)]) hdx
    have z2 : upd s0 dx (.dict [("rows", .int r)]) x = some (.inst 423 dx) := by rw [upd_ne hne]; exact ox
    have z3 : upd s0 dx (.dict [("rows", .int r)]) dx = some (.dict [("rows", .int r)]) := upd_same
    walk_at "mo"
    walk_at "fin"
  rintro l st₁ ⟨g0, g1, g2, x₁, o₁, d₁⟩
  refine seq_step (fun l' st' => l' 0 = some (.loc x) ∧ l' 1 = some (.int r) ∧ l' 2 = some (.int w) ∧ Ext st st' ∧ st' x = some (.inst 423 dx) ∧ st' dx = some (.dict [("rows", .int r), ("columns", .int w)])) ?_ ?_
  · walk_at "ms"
    try simp only [g0, g2, Option.some.injEq, exists_eq_left']
    refine setattr_at o₁ d₁ fd_cols (by simp) (es' := [("rows", .int r), ("columns", .int w)]) rfl ?_
    have z1 := x₁.upd (o := .dict [("rows", .int r), ("columns", .int w)]) hdx
    have z2 : upd st₁ dx (.dict [("rows", .int r), ("columns", .int w)]) x = some (.inst 423 dx) := by rw [upd_ne hne]; exact o₁
    have z3 : upd st₁ dx (.dict [("rows", .int r), ("columns", .int w)]) dx = some (.dict [("rows", .int r), ("columns", .int w)]) := upd_same
    walk_at "mo"
    walk_at "fin"
  rintro l st₂ ⟨g0, g1, g2, x₂, o₂, d₂⟩
  walk_at "mc"
  try simp only [g1, Option.some.injEq, exists_eq_left']
  refine itR_at (by omega) (by omega) ?_
  refine comp_gen (fun i => if (i : Int) < r then some (.int i) else none) r.toNat (fun i v h => by (split at h) <;> first | omega | cases h) (by omega)
    (fun i acc st' => Ext st₂ st' ∧ ∃ xs, acc = lns xs ∧ xs.length = i ∧ (∀ x ∈ xs, x.At st' ∧ x.cs = List.replicate w.toNat (blank plain) ∧ x.d ≠ dx)) ⟨Ext.refl _, [], rfl, rfl, nofun⟩ (calls_mono _) (fun i acc st' h => nx_range) ?_ ?_
  · rintro i acc st₃ v ⟨x₃, xs, rfl, hxl, hxs⟩ hi hv
    refine ⟨_, rfl, ?_⟩
    walk_at "ms"
    refine ⟨.int w, by simp [put, mask]; exact g2, ?_⟩
    refine c_Line (p := plain) (by omega) (by omega) (by omega) ?_
    intro a' d' c' st₄ x₄ ha hd hc L'
    refine ⟨x₃.trans x₄, xs ++ [⟨a', d', c', List.replicate w.toNat (blank plain), false⟩], by simp [lns], by simp [hxl], ?_⟩
    intro y hy
    rcases List.mem_append.mp hy with h | h
    · obtain ⟨h1, h2, h3⟩ := hxs y h
      exact ⟨h1.ext x₄, h2, h3⟩
    · rw [List.mem_singleton.mp h]
      exact ⟨L', rfl, (ne_of (x₃.at d₂) hd).symm⟩
  · rintro i acc st₃ ⟨x₃, xs, rfl, hxl, hxs⟩ hi hN hnx m hm
    walk_at "mo"
    try simp only [g0, Option.some.injEq, exists_eq_left']
    have hir : i = r.toNat := by (split at hnx) <;> first | omega | cases hnx
    have x₄ := x₃.trans (Ext.new (o := .list (lns xs)) hm)
    have x₅ := x₂.trans x₄
    refine setattr_at (x₄.at o₂) (x₄.at d₂) fd_lines (by simp) (es' := gridD (.int r) (.int w) (.loc m)) rfl ?_
    have hmd : dx ≠ m := ne_of (x₃.at d₂) hm
    refine q x dx m _ xs (x₅.upd hdx) hx hdx ((x₂.trans x₃).out hm) ⟨?_, upd_same, ?_, ?_⟩ (by omega) (fun y hy => (hxs y hy).2.1)
    · rw [upd_ne hne]; exact x₄.at o₂
    · rw [upd_ne hmd.symm, upd_same]
    · intro y hy
      obtain ⟨h1, h2, h3⟩ := hxs y hy
      have h4 := h1.ext (Ext.new (o := .list (lns xs)) hm)
      have k1 : y.a ≠ dx := fun z => by have := h4.o; rw [z, x₄.at d₂] at this; cases this
      have k2 : y.c ≠ dx := fun z => by have := h4.k; rw [z, x₄.at d₂] at this; cases this
      exact ⟨by rw [upd_ne k1]; exact h4.o, by rw [upd_ne h3]; exact h4.f, by rw [upd_ne k2]; exact h4.k⟩
theorem c_grid_line (hn : 1 ≤ n) (G : GridAt st a d L r w xs) {i : Nat} {x : Ln} (hx : xs[i]? = some x) (hi : i < 1000) (q : Q (.loc x.a) st) : Calls tab prg n 303 [.loc a, .int i] st Q := by
  refine call_fn rfl (by omega) (by simp) ?_
  unfold m_Grid_line
  walk_at "mc"
  refine at_lines G (sub_at G.k (by omega) (by omega) (lns_get (by rw [show ((i : Int)).toNat = i by omega]; exact hx)) ?_)
  exact q
theorem c_whole_area (hn : 1 ≤ n) (G : GridAt st a d L r w xs) (q : Q (.tup [.int 0, .int 0, .int (r - 1), .int (w - 1)]) st) : Calls tab prg n 310 [.loc a] st Q := by
  refine call_fn rfl (by omega) (by simp) ?_
  unfold m_Grid_whole_area
  walk_at "mc"
  refine at_rows G ?_
  walk_at "ms"
  refine at_cols G ?_
  walk_at "mo"
  exact q
end
theorem whole_pt {nb : Cell → Cell → Bool} {cs : List Cell} (h : wholeG nb none cs = true) : ∀ i, wholeG nb (if i = 0 then none else cs[i - 1]?) (cs.drop i) = true := by
  intro i
  induction i with
  | zero => simpa using h
  | succ i ih =>
    cases e : cs[i]? with
    | none => rw [List.drop_eq_nil_of_le (by have := List.getElem?_eq_none_iff.mp e; omega)]; rfl
    | some c =>
      rw [wholeG_step e] at ih
      simp only [Bool.and_eq_true] at ih
      exact ih.2.2
theorem whole_at {cs : List Cell} (h : wholeG nbL none cs = true) {i : Nat} {c : Cell} (hc : cs[i]? = some c) : (c.w = 2 → ∃ d, cs[i + 1]? = some d ∧ d.w = 0) ∧ (c.w = 0 → i ≠ 0 ∧ ∃ d, cs[i - 1]? = some d ∧ d.w = 2) := by
  have := whole_pt h i
  rw [wholeG_step hc] at this
  simp only [Bool.and_eq_true, Bool.not_eq_true', Bool.and_eq_false_iff] at this
  obtain ⟨h1, h2, _⟩ := this
  refine ⟨fun hw => ?_, fun hw => ?_⟩
  · rcases h1 with h1 | h1
    · simp [hw] at h1
    · cases e : cs[i + 1]? with
      | none => rw [e] at h1; simp [nbO] at h1
      | some d => rw [e] at h1; exact ⟨d, rfl, by simpa [nbO, nbL] using h1⟩
  · rcases h2 with h2 | h2
    · simp [hw] at h2
    · by_cases h0 : i = 0
      · rw [if_pos h0] at h2; cases h2
      · rw [if_neg h0] at h2
        cases e : cs[i - 1]? with
        | none => rw [e] at h2; simp [pvO] at h2
        | some d => rw [e] at h2; exact ⟨h0, d, rfl, by simpa [pvO] using h2⟩
section
variable {st : Sto} {n : Nat} {Q : AV → Sto → Prop} {a d L : Addr} {r w : Int} {xs : List Ln}
theorem c_sound (hn : 1 ≤ n) (G : GridAt st a d L r w xs) (hl : ∀ x ∈ xs, (x.cs.length : Int) = w ∧ wholeG nbL none x.cs = true) (hw : w ≤ 100) (q : Q (.bool true) st) : Calls tab prg n 441 [.loc a] st Q := by
  refine call_fn rfl (by omega) (by simp) ?_
  unfold m_grid_is_sound
  refine seq_step (fun l' st' => st = st') ?_ ?_
  · walk_at "ms"
    refine at_lines G (itL_at G.k ?_)
    refine for_list (calls_mono _) (fun i l' st' => st = st' ∧ l' 0 = some (.loc a)) ⟨rfl, rfl⟩ (fun i l' st' h => by rw [← h.1]; exact G.k) ?_ ?_
    · rintro i l _ v ⟨rfl, g0⟩ hv
      obtain ⟨x, hx, rfl⟩ := lns_at hv
      have hm := List.mem_of_getElem? hx
      have A := G.ls x hm
      obtain ⟨hxl, hxw⟩ := hl x hm
      refine seq_step (fun l' st' => st = st' ∧ l' 0 = some (.loc a) ∧ l' 1 = some (.loc x.a)) ?_ ?_
      · walk_at "ms"
        refine at_cells A (len_at A.k (by rw [avs_len]; omega) ?_)
        try simp only [g0, Option.some.injEq, exists_eq_left']
        refine at_cols G ?_
        rw [avs_len, hxl]
        walk_at "mo"
        exact fun h => absurd trivial h
      rintro l _ ⟨rfl, g0, g1⟩
      walk_at "mc"
      try simp only [g1, Option.some.injEq, exists_eq_left']
      refine at_cells A (itE_at A.k ?_)
      refine for_enum (ds := avs x.cs) (calls_mono _) (fun i l' st' => st = st' ∧ l' 0 = some (.loc a) ∧ l' 1 = some (.loc x.a)) ⟨rfl, g0, g1⟩ (fun i l' st' h => by rw [← h.1]; exact A.k) ?_ ?_
      · rintro j l _ v ⟨rfl, g0, g1⟩ hv
        obtain ⟨c, hc, rfl⟩ := avs_at hv
        have hj := lt_get hc
        obtain ⟨hp2, hp0⟩ := whole_at hxw hc
        refine seq_step (fun l' st' => st = st' ∧ l' 0 = some (.loc a) ∧ l' 1 = some (.loc x.a) ∧ l' 2 = some (.int j) ∧ l' 3 = some c.av) ?_ ?_
        · walk_at "ms"
          try simp only [g0, g1, Option.some.injEq, exists_eq_left']
          refine ⟨fun hw2 => ?_, fun _ => ?_⟩
          · obtain ⟨e, he, hew⟩ := hp2 hw2
            have hj2 := lt_get he
            refine at_cols G ?_
            walk_at "mo"
            refine ⟨fun h => by omega, fun _ => ?_⟩
            try simp only [g0, g1, Option.some.injEq, exists_eq_left']
            refine at_cells A (sub_at A.k (by omega) (by omega) (avs_get (c := e) (by rw [show ((j : Int) + 1).toNat = j + 1 by omega]; exact he)) ?_)
            walk_at "ms"
            exact fun h => absurd hew h
          · walk_at "mo"
            walk_at "fin"
        rintro l _ ⟨rfl, g0, g1, g2, g3⟩
        walk_at "mc"
        try simp only [g0, g1, g2, g3, Option.some.injEq, exists_eq_left']
        walk_at "mo"
        intro hw0
        obtain ⟨hj0, e, he, hew⟩ := hp0 hw0
        refine ⟨fun h => by omega, fun _ => ?_⟩
        try simp only [g0, g1, Option.some.injEq, exists_eq_left']
        refine at_cells A ?_
        walk_at "mo"
        refine sub_at A.k (by omega) (by omega) (avs_get (c := e) (by rw [show ((j : Int) - 1).toNat = j - 1 by omega]; exact he)) ?_
        walk_at "ms"
        exact fun h => absurd hew h
      · rintro l _ ⟨rfl, g0, g1⟩
        walk_at "mo"
        walk_at "fin"
    · rintro l _ ⟨rfl, g0⟩
      walk_at "mo"
  rintro l _ rfl
  walk_at "mc"
  exact q
/-- the first line is too long -/
theorem c_unsound (hn : 1 ≤ n) {x : Ln} (G : GridAt st a d L r w (x :: xs)) (hl : (x.cs.length : Int) ≠ w) (hw : x.cs.length ≤ 100) (q : Q (.bool false) st) : Calls tab prg n 441 [.loc a] st Q := by
  refine call_fn rfl (by omega) (by simp) ?_
  unfold m_grid_is_sound
  have A := G.ls x (by simp)
  refine seq_step (fun l' st' => False) ?_ (fun _ _ h => h.elim)
  walk_at "ms"
  refine at_lines G (itL_at G.k ?_)
  refine for_list (ds := lns (x :: xs)) (calls_mono _) (fun i l' st' => st = st' ∧ l' 0 = some (.loc a) ∧ i = 0) ⟨rfl, rfl, rfl⟩ (fun i l' st' h => by rw [← h.1]; exact G.k) ?_ ?_
  · rintro i l _ v ⟨rfl, g0, rfl⟩ hv
    cases hv
    refine seq_step (fun l' st' => False) ?_ (fun _ _ h => h.elim)
    walk_at "ms"
    refine at_cells A (len_at A.k (by rw [avs_len]; omega) ?_)
    try simp only [g0, Option.some.injEq, exists_eq_left']
    refine at_cols G ?_
    rw [avs_len]
    walk_at "mo"
    refine ⟨fun _ => ?_, fun h => hl h⟩
    walk_at "mc"
    exact q
  · rintro l _ ⟨rfl, g0, h⟩
    simp at h
end
end Mine

end

section
set_option linter.unusedVariables false
set_option linter.unusedSimpArgs false
set_option maxHeartbeats 1000000
namespace Mine
open PySem
local macro_rules | `(tactic| walk_at "ms") => `(tactic| simp only [ev_lit, ev_var, ev_tup, ev_list, ev_dict, ev_bin, ev_fdiv, ev_neg, ev_not, ev_and, ev_or, ev_if, ev_cmp, ev_cmp2, ev_call, ev_meth, ev_app, ev_ext, ev_pop, ev_attr, ev_sub, ev_slice, ev_rev, ev_len, ev_max, ev_min, ev_listOf, ev_intOf, ev_all, ev_comp,
  evs_nil, evs_cons, ts_val, ts_not, ts_and, ts_or, ts_if, it_list, it_enum, it_zip, it_r1, it_r2, ex_expr, ex_ret, ex_retN, ex_asg, ex_asgT, ex_setattr, ex_setsub, ex_setslice, ex_aug, ex_ite, ex_for, ex_while, ex_cont, exPs_nil,
  seqQ, turnQ, retQ, truth_bool, bin_add, bin_sub, bin_mul, bin_md, neg_int, max_int, min_int, int_int, aug_add, aug_sub, cmp_lt, cmp_le, cmp_gt, cmp_ge, cmp_eq, cmp_ne, cmp_eqb, cmp_neb, cmp_eqs, cmp_nes, cmp_eqc, cmp_nec, cmp_eq0, cmp_ne0,
  sub_cell0, sub_cell1, sub_cell2, sub_cell3, sub_pen2, put, argsOf, List.cons_append, List.nil_append, List.append_nil, List.drop_nil, List.length_cons, List.length_nil, List.getElem?_cons_zero, List.getElem?_cons_succ, Option.some.injEq, exists_eq_left', List.length_map, Nat.reduceAdd, Nat.reduceSub, Nat.reduceEqDiff, Nat.reduceLeDiff, if_true, if_false, ite_true, ite_false, reduceIte, true_and, and_true, Nat.zero_le,
  reduceCtorEq, eq_self, false_implies, true_implies, implies_true, decide_eq_true_eq, decide_eq_false_iff_not, beq_iff_eq, Bool.not_eq_true', Bool.not_eq_false', Bool.and_eq_true, Bool.or_eq_true, beq_eq_false_iff_ne, ne_eq])
local macro_rules | `(tactic| walk_at "mc") => `(tactic| (rw [exPs_cons]; walk_at "ms"))
local macro_rules | `(tactic| walk_at "fin") => `(tactic| repeat' (first | assumption | exact trivial | exact rfl | apply And.intro))
local macro_rules | `(tactic| walk_at "mo") => `(tactic| try (walk_at "ms"))
abbrev als (ps : List (Addr × List AV)) : List AV := ps.map fun x => AV.loc x.1
theorem eqvs_same {st : Sto} {n : Nat} : ∀ {ds : List AV}, (∀ d ∈ ds, EqV st n d d true) → EqVs st n ds ds (ds.map fun _ => true)
  | [], _ => .nilL _
  | d :: r, h => .cons (h d (by simp)) (eqvs_same fun x hx => h x (by simp [hx]))
theorem all_true {α : Type} (xs : List α) : (xs.map fun _ => true).all id = true := by simp
theorem eqv_ll {st : Sto} {n : Nat} {a b : Addr} {ps qs : List (Addr × List AV)} (ha : st a = some (.list (als ps))) (hb : st b = some (.list (als qs))) (hp : ∀ x ∈ ps, st x.1 = some (.list x.2)) (hq : ∀ x ∈ qs, st x.1 = some (.list x.2))
    (he : ps.map Prod.snd = qs.map Prod.snd) (hd : ∀ x ∈ ps, ∀ d ∈ x.2, EqV st n d d true) : EqV st (n + 2) (.loc a) (.loc b) true := by
  have hs : ∀ (ps qs : List (Addr × List AV)), (∀ x ∈ ps, st x.1 = some (.list x.2)) → (∀ x ∈ qs, st x.1 = some (.list x.2)) → ps.map Prod.snd = qs.map Prod.snd → (∀ x ∈ ps, ∀ d ∈ x.2, EqV st n d d true) → EqVs st (n + 1) (als ps) (als qs) (ps.map fun _ => true) := by
    intro ps
    induction ps with
    | nil => intro qs _ _ h _; cases qs with | nil => exact .nilL _ | cons _ _ => simp at h
    | cons x ps ih =>
      intro qs hp hq he hd
      cases qs with
      | nil => simp at he
      | cons y qs =>
        simp only [List.map_cons, List.cons.injEq] at he
        refine .cons ?_ (ih qs (fun z hz => hp z (by simp [hz])) (fun z hz => hq z (by simp [hz])) he.2 (fun z hz => hd z (by simp [hz])))
        have h1 := hp x (by simp)
        have h2 := hq y (by simp)
        rw [← he.1] at h2
        have := EqV.list (n := n) h1 h2 rfl (eqvs_same (hd x (by simp)))
        rwa [all_true] at this
  have := EqV.list (n := n + 1) ha hb (by have := congrArg List.length he; simpa using this) (hs ps qs hp hq he hd)
  rwa [all_true] at this
theorem eqv_self_cell {st : Sto} {n : Nat} (c : Cell) : EqV st (n + 2) c.av c.av true := by have := eqv_cell (st := st) (n := n) c c; rwa [Cell.eqb_self] at this
theorem eqv_self_int {st : Sto} {n : Nat} (i : Int) : EqV st n (.int i) (.int i) true := by have := EqV.int (st := st) (n := n) i i; rwa [show (i == i) = true by simp] at this
theorem eqv_rls {st : Sto} {a b : Addr} {ps qs : List (Addr × List Cell)} (ha : st a = some (.list (rls ps))) (hb : st b = some (.list (rls qs))) (hp : ∀ x ∈ ps, st x.1 = some (.list (avs x.2))) (hq : ∀ x ∈ qs, st x.1 = some (.list (avs x.2)))
    (he : ps.map Prod.snd = qs.map Prod.snd) : EqV st 20 (.loc a) (.loc b) true := by
  refine eqv_ll (n := 18) (ps := ps.map fun x => (x.1, avs x.2)) (qs := qs.map fun x => (x.1, avs x.2)) (by rw [ha]; simp [als]) (by rw [hb]; simp [als]) ?_ ?_ ?_ ?_
  · intro x hx; obtain ⟨y, hy, rfl⟩ := List.mem_map.mp hx; exact hp y hy
  · intro x hx; obtain ⟨y, hy, rfl⟩ := List.mem_map.mp hx; exact hq y hy
  · have := congrArg (List.map avs) he; simp only [List.map_map] at this ⊢; exact this
  · intro x hx d hd; obtain ⟨y, hy, rfl⟩ := List.mem_map.mp hx; obtain ⟨c, hc, rfl⟩ := List.mem_map.mp hd; exact eqv_self_cell c
theorem eqv_ils {st : Sto} {a b : Addr} {ps qs : List (Addr × List Int)} (ha : st a = some (.list (ps.map fun x => AV.loc x.1))) (hb : st b = some (.list (qs.map fun x => AV.loc x.1))) (hp : ∀ x ∈ ps, st x.1 = some (.list (x.2.map .int))) (hq : ∀ x ∈ qs, st x.1 = some (.list (x.2.map .int)))
    (he : ps.map Prod.snd = qs.map Prod.snd) : EqV st 20 (.loc a) (.loc b) true := by
  refine eqv_ll (n := 18) (ps := ps.map fun x => (x.1, x.2.map .int)) (qs := qs.map fun x => (x.1, x.2.map .int)) (by rw [ha]; simp [als]) (by rw [hb]; simp [als]) ?_ ?_ ?_ ?_
  · intro x hx; obtain ⟨y, hy, rfl⟩ := List.mem_map.mp hx; exact hp y hy
  · intro x hx; obtain ⟨y, hy, rfl⟩ := List.mem_map.mp hx; exact hq y hy
  · have := congrArg (List.map (List.map AV.int)) he; simp only [List.map_map] at this ⊢; exact this
  · intro x hx d hd; obtain ⟨y, hy, rfl⟩ := List.mem_map.mp hx; obtain ⟨c, hc, rfl⟩ := List.mem_map.mp hd; exact eqv_self_int c
theorem map_get {α β : Type} {f : α → β} {xs : List α} {i : Nat} {x : α} (h : xs[i]? = some x) : (xs.map f).take (i + 1) = (xs.map f).take i ++ [f x] := by
  rw [List.take_add_one, List.getElem?_map, h]; rfl
section
variable {st : Sto} {n : Nat} {Q : AV → Sto → Prop} {a d L : Addr} {r w : Int} {xs : List Ln}
theorem c_cells_in (hn : 1 ≤ n) (G : GridAt st a d L r w xs) (hr : 1 ≤ r) (hr2 : r ≤ 20) (hw : 1 ≤ w) (hw2 : w ≤ 20) (hxl : xs.length = r.toNat) (hc : ∀ x ∈ xs, (x.cs.length : Int) = w)
    (q : ∀ b st' (ps : List (Addr × List Cell)), Ext st st' → st b = none → st' b = some (.list (rls ps)) → (∀ x ∈ ps, st' x.1 = some (.list (avs x.2))) → ps.map Prod.snd = xs.map Ln.cs → Q (.loc b) st') : Calls tab prg n 405 [.loc a, .tup [.int 0, .int 0, .int (r - 1), .int (w - 1)]] st Q := by
  refine call_fn rfl (by omega) (by simp) ?_
  unfold m_Grid_cells_in
  refine seq_step (fun l' st' => st = st' ∧ l' 0 = some (.loc a) ∧ l' 2 = some (.int 0) ∧ l' 3 = some (.int 0) ∧ l' 4 = some (.int (r - 1)) ∧ l' 5 = some (.int (w - 1))) ?_ ?_
  · walk_at "ms"
    first | exact ⟨_, _, rfl, rfl, rfl, rfl, rfl, rfl, rfl, rfl, rfl⟩ | exact ⟨_, rfl, rfl, rfl, rfl, rfl, rfl, rfl⟩ | exact ⟨_, _, rfl, rfl, rfl, rfl, rfl, rfl, rfl⟩
  rintro l _ ⟨rfl, g0, g2, g3, g4, g5⟩
  walk_at "mc"
  try simp only [g2, g4, Option.some.injEq, exists_eq_left']
  walk_at "mo"
  refine ⟨_, _, rfl, rfl, by omega, by omega, by omega, by omega, ?_⟩
  refine comp_gen (fun i => if (i : Int) < r - 1 + 1 then some (.int i) else none) r.toNat (fun i v h => by (split at h) <;> first | omega | cases h) (by omega)
    (fun i acc st' => Ext st st' ∧ ∃ ps : List (Addr × List Cell), acc = rls ps ∧ (∀ x ∈ ps, st' x.1 = some (.list (avs x.2))) ∧ ps.map Prod.snd = (xs.map Ln.cs).take i) ⟨Ext.refl _, [], rfl, nofun, by simp⟩ (calls_mono _) (fun i acc st' h => nx_range) ?_ ?_
  · rintro i acc st₁ v ⟨x₁, ps, rfl, hps, hp⟩ hi hv
    have hir : i < xs.length := by (split at hv) <;> first | omega | cases hv
    have hv2 : v = .int i := by (split at hv) <;> cases hv <;> rfl
    subst hv2
    obtain ⟨x, hx⟩ : ∃ x, xs[i]? = some x := ⟨_, List.getElem?_eq_getElem hir⟩
    have hm := List.mem_of_getElem? hx
    have A := (G.ext x₁).ls x hm
    have hcl := hc x hm
    have k0 : put (mask [0, 3, 5] l) 7 (.int i) 0 = some (.loc a) := by simp [put, mask]; exact g0
    have k3 : put (mask [0, 3, 5] l) 7 (.int i) 3 = some (.int 0) := by simp [put, mask]; exact g3
    have k5 : put (mask [0, 3, 5] l) 7 (.int i) 5 = some (.int (w - 1)) := by simp [put, mask]; exact g5
    have k7 : put (mask [0, 3, 5] l) 7 (.int i) 7 = some (.int i) := by simp [put]
    refine ⟨_, rfl, ?_⟩
    generalize put (mask [0, 3, 5] l) 7 (.int i) = l2 at *
    walk_at "ms"
    try simp only [k0, k3, k5, k7, Option.some.injEq, exists_eq_left']
    refine at_lines (G.ext x₁) (sub_at (G.ext x₁).k (by omega) (by omega) (lns_get (x := x) (by rw [show ((i : Int)).toNat = i by omega]; exact hx)) ?_)
    refine at_cells A ?_
    walk_at "mo"
    refine slice_at (i := 0) (j := x.cs.length) A.k ?_ (by rw [avs_len]; omega) fun m hm => ?_
    · rw [avs_len]
      simp only [cutBounds, Mine.clip, Option.some.injEq, Prod.mk.injEq]
      constructor <;> (repeat' split) <;> omega
    · rw [cut_zero, List.take_of_length_le (by rw [avs_len]; exact Nat.le_refl _)]
      refine ⟨x₁.trans (Ext.new hm), ps ++ [(m, x.cs)], by simp [rls], ?_, by rw [map_get hx, List.map_append, hp]; rfl⟩
      intro y hy
      rcases List.mem_append.mp hy with h | h
      · exact upd_at (hps y h) hm
      · rw [List.mem_singleton.mp h]; exact upd_same
  · rintro i acc st₁ ⟨x₁, ps, rfl, hps, hp⟩ hi hN hnx m hm
    have hir : xs.length ≤ i := by (split at hnx) <;> first | omega | cases hnx
    rw [List.take_of_length_le (by simpa using hir)] at hp
    walk_at "mo"
    exact q m _ ps (x₁.trans (Ext.new hm)) (x₁.out hm) upd_same (fun y hy => upd_at (hps y hy) hm) hp
theorem c_gcopy (hn : 8 ≤ n) (G : GridAt st a d L r w xs) (hr : 1 ≤ r) (hr2 : r ≤ 20) (hw : 1 ≤ w) (hw2 : w ≤ 20) (hxl : xs.length = r.toNat) (hc : ∀ x ∈ xs, (x.cs.length : Int) = w)
    (q : ∀ a' d' L' st' ys, Ext st st' → GridAt st' a' d' L' r w ys → st d' = none → st L' = none → (∀ y ∈ ys, st y.c = none) → ys.map Ln.cs = xs.map Ln.cs → ys.map Ln.wr = xs.map Ln.wr → Q (.loc a') st') : Calls tab prg n 410 [.loc a] st Q := by
  refine call_fn rfl (by omega) (by simp) ?_
  unfold m_Grid_copy
  refine seq_step (fun l' st' => l' 0 = some (.loc a) ∧ ∃ a' d' L' zs, l' 1 = some (.loc a') ∧ Ext st st' ∧ st d' = none ∧ GridAt st' a' d' L' r w zs) ?_ ?_
  · walk_at "ms"
    refine at_rows G (at_cols G ?_)
    refine c_Grid (by omega) hr hr2 hw hw2 ?_
    intro a' d' L' st₁ zs x₁ _ hd _ G' _ _
    walk_at "mo"
    exact ⟨a', d', L', zs, rfl, x₁, hd, G'⟩
  rintro l st₁ ⟨g0, a', d', L', zs, g1, x₁, hd, G'⟩
  have hxl2 : xs.length ≤ 20 := by omega
  refine seq_step (fun l' st' => l' 1 = some (.loc a') ∧ ∃ m ys, Ext st st' ∧ GridAt st' a' d' m r w ys ∧ st m = none ∧ (∀ y ∈ ys, st y.c = none) ∧ ys.map Ln.cs = xs.map Ln.cs ∧ ys.map Ln.wr = xs.map Ln.wr) ?_ ?_
  · walk_at "ms"
    try simp only [g0, Option.some.injEq, exists_eq_left']
    refine at_lines (G.ext x₁) (itL_at (G.ext x₁).k ?_)
    refine comp_gen (fun i => (lns xs)[i]?) xs.length (fun i v h => by have := lt_get h; rw [lns_len] at this; exact this) (by omega)
      (fun i acc st' => Ext st₁ st' ∧ ∃ ys, acc = lns ys ∧ (∀ y ∈ ys, y.At st' ∧ y.d ≠ d' ∧ st y.c = none) ∧ ys.map Ln.cs = (xs.map Ln.cs).take i ∧ ys.map Ln.wr = (xs.map Ln.wr).take i) ⟨Ext.refl _, [], rfl, nofun, by simp, by simp⟩ (calls_mono _) (fun i acc st' h => nx_list (h.1.at (G.ext x₁).k)) ?_ ?_
    · rintro i acc st₂ v ⟨x₂, ys, rfl, hys, h1, h2⟩ hi hv
      obtain ⟨x, hx, rfl⟩ := lns_at hv
      have hm := List.mem_of_getElem? hx
      have A := ((G.ext x₁).ext x₂).ls x hm
      have hcl := hc x hm
      refine ⟨_, rfl, ?_⟩
      walk_at "ms"
      refine at_meth A (f := 219) (by decide) (by intros; unfold lineD; rfl) ?_
      walk_at "ms"
      refine c_Line_copy (by omega) A (by omega) ?_
      intro a₂ d₂ c₂ st₃ x₃ _ hd₂ hc₂ A'
      refine ⟨x₂.trans x₃, ys ++ [⟨a₂, d₂, c₂, x.cs, x.wr⟩], by simp [lns], ?_, by rw [map_get hx, List.map_append, h1]; rfl, by rw [map_get hx, List.map_append, h2]; rfl⟩
      intro y hy
      rcases List.mem_append.mp hy with h | h
      · obtain ⟨k1, k2, k3⟩ := hys y h; exact ⟨k1.ext x₃, k2, k3⟩
      · rw [List.mem_singleton.mp h]; exact ⟨A', (ne_of (x₂.at G'.f) hd₂).symm, x₁.out (x₂.out hc₂)⟩
    · rintro i acc st₂ ⟨x₂, ys, rfl, hys, h1, h2⟩ hi hN hnx m hm
      have hix : xs.length ≤ i := by simpa [lns] using hnx
      rw [List.take_of_length_le (by simpa using hix)] at h1 h2
      walk_at "mo"
      try simp only [g1, Option.some.injEq, exists_eq_left']
      have x₃ := x₂.trans (Ext.new (o := .list (lns ys)) hm)
      have hmd : d' ≠ m := ne_of (x₂.at G'.f) hm
      have had : a' ≠ d' := fun z => by have := G'.o; rw [z, G'.f] at this; cases this
      refine setattr_at (x₃.at G'.o) (x₃.at G'.f) fd_lines (by simp [gridD]) (es' := gridD (.int r) (.int w) (.loc m)) (by unfold gridD; rfl) ?_
      have z1 := (x₁.trans x₃).upd (o := .dict (gridD (.int r) (.int w) (.loc m))) hd
      walk_at "mo"
      walk_at "fin"
      refine ⟨m, ys, z1, ⟨?_, upd_same, ?_, ?_⟩, x₁.out (x₂.out hm), fun y hy => (hys y hy).2.2, h1, h2⟩
      · rw [upd_ne had]; exact x₃.at G'.o
      · rw [upd_ne hmd.symm, upd_same]
      · intro y hy
        obtain ⟨k1, k2, _⟩ := hys y hy
        have h4 := k1.ext (Ext.new (o := .list (lns ys)) hm)
        have k1' : y.a ≠ d' := fun z => by have := h4.o; rw [z, x₃.at G'.f] at this; cases this
        have k2' : y.c ≠ d' := fun z => by have := h4.k; rw [z, x₃.at G'.f] at this; cases this
        exact ⟨by rw [upd_ne k1']; exact h4.o, by rw [upd_ne k2]; exact h4.f, by rw [upd_ne k2']; exact h4.k⟩
  rintro l st₂ ⟨g1, m, ys, x₂, G₂, hm, hys, h1, h2⟩
  walk_at "mc"
  try simp only [g1, Option.some.injEq, exists_eq_left']
  exact q a' d' m st₂ ys x₂ G₂ hd hm hys h1 h2
theorem c_gequals (hn : 2 ≤ n) {a' d' L' : Addr} {ys : List Ln} (G : GridAt st a d L r w xs) (G' : GridAt st a' d' L' r w ys) (hxl : xs.length = ys.length) (hxl2 : xs.length ≤ 100)
    (q : ∀ (t : Bool) st', Ext st st' → (t = true ↔ ∀ (i : Nat) (x y : Ln), xs[i]? = some x → ys[i]? = some y → x.cs = y.cs ∧ x.wr = y.wr) → Q (.bool t) st') : Calls tab prg n 415 [.loc a, .loc a'] st Q := by
  refine call_fn rfl (by omega) (by simp) ?_
  unfold m_Grid_equals
  refine seq_step (fun l' st' => st = st' ∧ l' 0 = some (.loc a) ∧ l' 1 = some (.loc a')) ?_ ?_
  · walk_at "ms"
    refine at_rows G ?_
    refine at_rows G' ?_
    walk_at "mo"
    refine ⟨fun h => absurd trivial h, ?_⟩
    refine at_cols G ?_
    refine at_cols G' ?_
    walk_at "mo"
    exact fun h => absurd trivial h
  rintro l _ ⟨rfl, g0, g1⟩
  walk_at "mc"
  try simp only [g0, Option.some.injEq, exists_eq_left']
  refine at_lines G ?_
  try simp only [g1, Option.some.injEq, exists_eq_left']
  refine at_lines G' (itZ_at G.k G'.k ?_)
  refine comp_gen (fun i => match (lns xs)[i]?, (lns ys)[i]? with | some x, some y => some (.tup [x, y]) | _, _ => none) xs.length ?_ (by omega)
    (fun i acc st' => st = st' ∧ ∃ bs : List Bool, acc = bs.map .bool ∧ bs.length = i ∧ ∀ (j : Nat) (x y : Ln) (b : Bool), xs[j]? = some x → ys[j]? = some y → bs[j]? = some b → (b = true ↔ x.cs = y.cs ∧ x.wr = y.wr)) ⟨rfl, [], rfl, rfl, fun j x y b _ _ h => by simp at h⟩ (calls_mono _) ?_ ?_ ?_
  · intro i v h
    cases e : (lns xs)[i]? with
    | none => rw [e] at h; cases h
    | some z => have := lt_get e; rwa [lns_len] at this
  · rintro i acc st' ⟨rfl, _⟩
    simp only [itNext, G.k, G'.k] <;> rfl
  · rintro i acc _ v ⟨rfl, bs, rfl, hbl, hbs⟩ hi hv
    cases e : xs[i]? with
    | none => rw [show (lns xs)[i]? = none by simp [lns, e]] at hv; cases hv
    | some x =>
      cases e' : ys[i]? with
      | none => rw [show (lns ys)[i]? = none by simp [lns, e'], lns_get e] at hv; cases hv
      | some y =>
        rw [lns_get e, lns_get e'] at hv
        cases hv
        have A := G.ls x (List.mem_of_getElem? e)
        have A' := G'.ls y (List.mem_of_getElem? e')
        refine ⟨_, rfl, ?_⟩
        walk_at "ms"
        refine at_meth A (f := 248) (by decide) (by intros; unfold lineD; rfl) ?_
        walk_at "ms"
        refine c_equals (by omega) A A' fun b hb => ?_
        refine ⟨rfl, bs ++ [b], by simp, by simp [hbl], ?_⟩
        intro j x' y' b' hx' hy' hb'
        by_cases hj : j < bs.length
        · rw [List.getElem?_append_left hj] at hb'; exact hbs j x' y' b' hx' hy' hb'
        · have := lt_get hb'
          have hji : j = i := by simp at this; omega
          subst hji
          rw [e] at hx'; rw [e'] at hy'; cases hx'; cases hy'
          rw [List.getElem?_append_right (by omega), show j - bs.length = 0 by omega] at hb'
          cases hb'
          rw [hb]
          exact ⟨fun h => ⟨h.1, h.2.1⟩, fun h => ⟨h.1, h.2, rfl⟩⟩
  · rintro i acc _ ⟨rfl, bs, rfl, hbl, hbs⟩ hi hN hnx m hm
    have hix : xs.length ≤ i := by
      by_cases h : i < xs.length
      · rw [lns_get (List.getElem?_eq_getElem h), lns_get (List.getElem?_eq_getElem (show i < ys.length by omega))] at hnx; cases hnx
      · omega
    walk_at "mo"
    refine ⟨m, bs, rfl, upd_same, by omega, ?_⟩
    refine q _ _ (Ext.new hm) ?_
    rw [List.all_eq_true]
    constructor
    · intro h j x y hx hy
      have hj := lt_get hx
      have hb : bs[j]? = some bs[j] := List.getElem?_eq_getElem (by omega)
      exact (hbs j x y _ hx hy hb).mp (h _ (List.getElem_mem _))
    · intro h b hb
      obtain ⟨j, hj, rfl⟩ := List.getElem_of_mem hb
      have hx : xs[j]? = some xs[j] := List.getElem?_eq_getElem (by omega)
      have hy : ys[j]? = some ys[j] := List.getElem?_eq_getElem (by omega)
      exact (hbs j _ _ _ hx hy (List.getElem?_eq_getElem hj)).mpr (h j _ _ hx hy)
theorem c_gtext (hn : 5 ≤ n) (G : GridAt st a d L r w xs) (hr : 1 ≤ r) (hr2 : r ≤ 20) (hw : 1 ≤ w) (hw2 : w ≤ 20) (hxl : xs.length = r.toNat) (hc : ∀ x ∈ xs, (x.cs.length : Int) = w ∧ fixB x.cs = x.cs ∧ ∀ c ∈ x.cs, c.codes.length ≤ 5)
    (q : ∀ b st' (ps : List (Addr × List Int)), Ext st st' → st b = none → st' b = some (.list (ps.map fun x => AV.loc x.1)) → (∀ x ∈ ps, st' x.1 = some (.list (x.2.map .int))) → ps.map Prod.snd = xs.map (fun x => codesOf (stripG isBlank x.cs)) → Q (.loc b) st') : Calls tab prg n 420 [.loc a] st Q := by
  refine call_fn rfl (by omega) (by simp) ?_
  unfold m_Grid_text
  walk_at "mc"
  refine at_rows G (itR_at (by omega) (by omega) ?_)
  refine comp_gen (fun i => if (i : Int) < r then some (.int i) else none) r.toNat (fun i v h => by (split at h) <;> first | omega | cases h) (by omega)
    (fun i acc st' => Ext st st' ∧ ∃ ps : List (Addr × List Int), acc = (ps.map fun x => AV.loc x.1) ∧ (∀ x ∈ ps, st' x.1 = some (.list (x.2.map .int))) ∧ ps.map Prod.snd = (xs.map (fun x => codesOf (stripG isBlank x.cs))).take i) ⟨Ext.refl _, [], rfl, nofun, by simp⟩ (calls_mono _) (fun i acc st' h => nx_range) ?_ ?_
  · rintro i acc st₁ v ⟨x₁, ps, rfl, hps, hp⟩ hi hv
    have hir : i < xs.length := by (split at hv) <;> first | omega | cases hv
    have hv2 : v = .int i := by (split at hv) <;> cases hv <;> rfl
    subst hv2
    obtain ⟨x, hx⟩ : ∃ x, xs[i]? = some x := ⟨_, List.getElem?_eq_getElem hir⟩
    have hm := List.mem_of_getElem? hx
    have A := (G.ext x₁).ls x hm
    obtain ⟨hcl, hfx, hc5⟩ := hc x hm
    have htk : fixB (x.cs.take (w - 1 + 1).toNat) = x.cs := by rw [List.take_of_length_le (by omega), hfx]
    refine ⟨_, rfl, ?_⟩
    walk_at "ms"
    refine ⟨.loc a, rfl, ?_⟩
    refine at_lines (G.ext x₁) (sub_at (G.ext x₁).k (by omega) (by omega) (lns_get (x := x) (by rw [show ((i : Int)).toNat = i by omega]; exact hx)) ?_)
    refine at_meth A (f := 227) (by decide) (by intros; unfold lineD; rfl) ?_
    walk_at "ms"
    refine ⟨.loc a, rfl, ?_⟩
    refine at_cols (G.ext x₁) ?_
    walk_at "mo"
    refine c_Line_codes (by omega) A (by omega) (by omega) (by rw [htk]; exact hc5) ?_
    rw [htk]
    intro m st₂ x₂ hm₂ em
    refine ⟨x₁.trans x₂, ps ++ [(m, codesOf (stripG isBlank x.cs))], by simp, ?_, by rw [map_get hx, List.map_append, hp]; rfl⟩
    intro y hy
    rcases List.mem_append.mp hy with h | h
    · exact x₂.at (hps y h)
    · rw [List.mem_singleton.mp h]; exact em
  · rintro i acc st₁ ⟨x₁, ps, rfl, hps, hp⟩ hi hN hnx m hm
    have hir : xs.length ≤ i := by (split at hnx) <;> first | omega | cases hnx
    rw [List.take_of_length_le (by simpa using hir)] at hp
    walk_at "mo"
    exact q m _ ps (x₁.trans (Ext.new hm)) (x₁.out hm) upd_same (fun y hy => upd_at (hps y hy) hm) hp
end
end Mine

end

section
set_option linter.unusedVariables false
set_option linter.unusedSimpArgs false
set_option maxHeartbeats 1000000
namespace Mine
open PySem
local macro_rules | `(tactic| walk_at "ms") => `(tactic| simp only [ev_lit, ev_var, ev_tup, ev_list, ev_dict, ev_bin, ev_fdiv, ev_neg, ev_not, ev_and, ev_or, ev_if, ev_cmp, ev_cmp2, ev_call, ev_meth, ev_app, ev_ext, ev_pop, ev_attr, ev_sub, ev_slice, ev_rev, ev_len, ev_max, ev_min, ev_listOf, ev_intOf, ev_all, ev_comp,
  evs_nil, evs_cons, ts_val, ts_not, ts_and, ts_or, ts_if, it_list, it_enum, it_zip, it_r1, it_r2, ex_expr, ex_ret, ex_retN, ex_asg, ex_asgT, ex_setattr, ex_setsub, ex_setslice, ex_aug, ex_ite, ex_for, ex_while, ex_cont, exPs_nil,
  seqQ, turnQ, retQ, truth_bool, bin_add, bin_sub, bin_mul, bin_md, neg_int, max_int, min_int, int_int, aug_add, aug_sub, cmp_lt, cmp_le, cmp_gt, cmp_ge, cmp_eq, cmp_ne, cmp_eqb, cmp_neb, cmp_eqs, cmp_nes, cmp_eqc, cmp_nec, cmp_eq0, cmp_ne0,
  sub_cell0, sub_cell1, sub_cell2, sub_cell3, sub_pen2, put, argsOf, List.cons_append, List.nil_append, List.append_nil, List.drop_nil, List.length_cons, List.length_nil, List.getElem?_cons_zero, List.getElem?_cons_succ, Option.some.injEq, exists_eq_left', List.length_map, Nat.reduceAdd, Nat.reduceSub, Nat.reduceEqDiff, Nat.reduceLeDiff, if_true, if_false, ite_true, ite_false, reduceIte, true_and, and_true, Nat.zero_le,
  reduceCtorEq, eq_self, false_implies, true_implies, implies_true, decide_eq_true_eq, decide_eq_false_iff_not, beq_iff_eq, Bool.not_eq_true', Bool.not_eq_false', Bool.and_eq_true, Bool.or_eq_true, beq_eq_false_iff_ne, ne_eq])
local macro_rules | `(tactic| walk_at "mc") => `(tactic| (rw [exPs_cons]; walk_at "ms"))
local macro_rules | `(tactic| walk_at "fin") => `(tactic| repeat' (first | assumption | exact trivial | exact rfl | apply And.intro))
local macro_rules | `(tactic| walk_at "mo") => `(tactic| try (walk_at "ms"))
theorem strip_congr {p q : Cell → Bool} : ∀ xs : List Cell, (∀ c ∈ xs, p c = q c) → stripG p xs = stripG q xs := by
  refine snoc_ind (fun _ => rfl) fun R c ih h => ?_
  rw [strip_snoc, strip_snoc, h c (by simp), ih fun x hx => h x (by simp [hx])]
theorem strip_row {us : List U} (hok : ∀ u ∈ us, u.Ok) (hpl : ∀ u ∈ us, isBlank u.c = true → u.c = blank plain) : stripG isBlank (flat us) = stripG isPB (flat us) := by
  refine strip_congr _ fun c hc => ?_
  obtain ⟨u, hu, hcu⟩ := List.mem_flatMap.mp hc
  have hgen : ∀ c : Cell, (isBlank c = true → c = blank plain) → isBlank c = isPB c := fun c h => by
    cases e : isBlank c with
    | true => rw [h e]; exact isPB_plain.symm
    | false =>
      cases e' : isPB c with
      | false => rfl
      | true => rw [isPB_blank e'] at e; cases e
  have hw := (hok u hu).w
  unfold U.flat at hcu
  cases hb : u.big with
  | true =>
    rw [hb] at hcu
    simp only [if_true, List.mem_cons, List.not_mem_nil, or_false] at hcu
    rcases hcu with rfl | rfl
    · exact hgen _ (hpl u hu)
    · exact hgen _ (fun h => by simp [isBlank, right] at h)
  | false =>
    rw [hb] at hcu
    simp only [Bool.false_eq_true, if_false, List.mem_cons, List.not_mem_nil, or_false] at hcu
    subst hcu
    exact hgen _ (hpl u hu)
theorem flat_codes {us : List U} (hok : ∀ u ∈ us, u.Ok) : ∀ c ∈ flat us, c.codes.length ≤ 5 ∧ 0 ≤ c.w := by
  intro c hc
  obtain ⟨u, hu, hcu⟩ := List.mem_flatMap.mp hc
  have hk := (hok u hu).k
  have hw := (hok u hu).w
  unfold U.flat at hcu
  cases hb : u.big with
  | true =>
    rw [hb] at hcu hw
    simp only [if_true, List.mem_cons, List.not_mem_nil, or_false] at hcu hw
    rcases hcu with rfl | rfl
    · exact ⟨hk, by omega⟩
    · exact ⟨by simp [right], by simp [right]⟩
  | false =>
    rw [hb] at hcu hw
    simp only [Bool.false_eq_true, if_false, List.mem_cons, List.not_mem_nil, or_false] at hcu hw
    subst hcu
    exact ⟨hk, by omega⟩
theorem GridAt.set {st : Sto} {a d L : Addr} {r w : Int} {xs : List Ln} (G : GridAt st a d L r w xs) (hx : ∀ x ∈ xs, x.cs ≠ []) {y : Ln} (A : y.At st) (hy : y.cs ≠ []) (hne : xs ≠ []) {i : Nat} : GridAt (upd st L (.list ((lns xs).set i (.loc y.a)))) a d L r w (xs.set i y) := by
  have hA : ∀ x : Ln, x.At st → x.cs ≠ [] → x.At (upd st L (.list ((lns xs).set i (.loc y.a)))) := fun x hx hc => by
    have k1 : x.a ≠ L := fun z => by have := hx.o; rw [z, G.k] at this; cases this
    have k2 : x.d ≠ L := fun z => by have := hx.f; rw [z, G.k] at this; cases this
    have k3 : x.c ≠ L := fun z => by
      have := hx.k; rw [z, G.k] at this
      cases h1 : x.cs with
      | nil => exact hc h1
      | cons u v =>
        cases h2 : xs with
        | nil => exact hne h2
        | cons u' v' => rw [h1, h2] at this; simp [avs, lns, Cell.av] at this
    exact ⟨by rw [upd_ne k1]; exact hx.o, by rw [upd_ne k2]; exact hx.f, by rw [upd_ne k3]; exact hx.k⟩
  refine ⟨?_, ?_, ?_, ?_⟩
  · rw [upd_ne (fun z => by have := G.o; rw [z, G.k] at this; cases this)]; exact G.o
  · rw [upd_ne (fun z => by have := G.f; rw [z, G.k] at this; cases this)]; exact G.f
  · rw [upd_same]; simp [lns, List.map_set]
  · intro x hxm
    rcases List.mem_or_eq_of_mem_set hxm with h | h
    · exact hA x (G.ls x h) (hx x h)
    · rw [h]; exact hA y A hy
theorem comp_lists {C : CallT} {l : Loc} {st : Sto} {Q : AV → Sto → Prop} (hC : LeC C C) {B : Addr} {v : Nat} {qs : List (Addr × List AV)} (eB : st B = some (.list (als qs))) (hq : ∀ x ∈ qs, st x.1 = some (.list x.2)) (hl : qs.length ≤ 100) (hl2 : ∀ x ∈ qs, x.2.length ≤ 900)
    (q : ∀ m st' ps, Ext st st' → st' m = some (.list (als ps)) → (∀ x ∈ ps, st' x.1 = some (.list x.2)) → ps.map Prod.snd = qs.map Prod.snd → Q (.loc m) st') : compP tab C (.listOf (.var v)) [v] [] l (.list B) st Q := by
  refine comp_gen (fun i => (als qs)[i]?) qs.length (fun i v h => by have := lt_get h; simpa [als] using this) (by omega)
    (fun i acc st' => Ext st st' ∧ ∃ ps, acc = als ps ∧ (∀ x ∈ ps, st' x.1 = some (.list x.2)) ∧ ps.map Prod.snd = (qs.map Prod.snd).take i) ⟨Ext.refl _, [], rfl, nofun, by simp⟩ hC (fun i acc st' h => nx_list (h.1.at eB)) ?_ ?_
  · rintro i acc st₁ u ⟨x₁, ps, rfl, hps, hp⟩ hi hu
    simp only [als, List.getElem?_map, Option.map_eq_some_iff] at hu
    obtain ⟨x, hx, rfl⟩ := hu
    have hm := List.mem_of_getElem? hx
    refine ⟨_, rfl, ?_⟩
    rw [ev_listOf, ev_var]
    refine ⟨.loc x.1, by simp [put], ?_⟩
    refine list_at (x₁.at (hq x hm)) (by have := hl2 x hm; omega) fun m hm' => ?_
    refine ⟨x₁.trans (Ext.new hm'), ps ++ [(m, x.2)], by simp [als], ?_, by rw [map_get hx, List.map_append, hp]; rfl⟩
    intro y hy
    rcases List.mem_append.mp hy with h | h
    · exact upd_at (hps y h) hm'
    · rw [List.mem_singleton.mp h]; exact upd_same
  · rintro i acc st₁ ⟨x₁, ps, rfl, hps, hp⟩ hi hN hnx m hm
    have hix : qs.length ≤ i := by simpa [als] using hnx
    rw [List.take_of_length_le (by simpa using hix)] at hp
    exact q m _ ps (x₁.trans (Ext.new hm)) upd_same (fun y hy => upd_at (hps y hy) hm) hp
def toA (ps : List (Addr × List Cell)) : List (Addr × List AV) := ps.map fun x => (x.1, avs x.2)
theorem als_toA (ps : List (Addr × List Cell)) : als (toA ps) = rls ps := by simp [als, toA]
def toI (ps : List (Addr × List Int)) : List (Addr × List AV) := ps.map fun x => (x.1, x.2.map .int)
theorem als_toI (ps : List (Addr × List Int)) : als (toI ps) = ps.map (fun x => AV.loc x.1) := by simp [als, toI]
theorem toA_snd {ps qs : List (Addr × List Cell)} (h : ps.map Prod.snd = qs.map Prod.snd) : (toA ps).map Prod.snd = (toA qs).map Prod.snd := by
  have := congrArg (List.map avs) h; simp only [List.map_map, toA] at this ⊢; exact this
theorem toI_snd {ps qs : List (Addr × List Int)} (h : ps.map Prod.snd = qs.map Prod.snd) : (toI ps).map Prod.snd = (toI qs).map Prod.snd := by
  have := congrArg (List.map (List.map AV.int)) h; simp only [List.map_map, toI] at this ⊢; exact this
theorem toA_mem {st : Sto} {ps : List (Addr × List Cell)} (h : ∀ x ∈ ps, st x.1 = some (.list (avs x.2))) : ∀ x ∈ toA ps, st x.1 = some (.list x.2) := fun x hx => by obtain ⟨y, hy, rfl⟩ := List.mem_map.mp hx; exact h y hy
theorem toI_mem {st : Sto} {ps : List (Addr × List Int)} (h : ∀ x ∈ ps, st x.1 = some (.list (x.2.map .int))) : ∀ x ∈ toI ps, st x.1 = some (.list x.2) := fun x hx => by obtain ⟨y, hy, rfl⟩ := List.mem_map.mp hx; exact h y hy
theorem snd_sub {α β : Type} {ps qs : List (α × β)} (h : ps.map Prod.snd = qs.map Prod.snd) {x : α × β} (hx : x ∈ ps) : ∃ y ∈ qs, y.2 = x.2 := by
  have : x.2 ∈ qs.map Prod.snd := by rw [← h]; exact List.mem_map_of_mem hx
  obtain ⟨y, hy, e⟩ := List.mem_map.mp this
  exact ⟨y, hy, e⟩
/-- what a row of the law is -/
def Rowy (w : Nat) (cs : List Cell) : Prop := ∃ us : List U, cs = flat us ∧ (∀ u ∈ us, u.Ok) ∧ (∀ u ∈ us, isBlank u.c = true → u.c = blank plain) ∧ cs.length = w
theorem Rowy.whole {w : Nat} {cs : List Cell} (h : Rowy w cs) : wholeG nbL none cs = true := by
  obtain ⟨us, rfl, h1, _, _⟩ := h
  exact whole_flat nbL_right none fun u hu => (h1 u hu).w
theorem Rowy.fix {w : Nat} {cs : List Cell} (h : Rowy w cs) : fixB cs = cs := by
  obtain ⟨us, rfl, h1, _, _⟩ := h
  exact fixB_flat h1
theorem Rowy.codes {w : Nat} {cs : List Cell} (h : Rowy w cs) : ∀ c ∈ cs, c.codes.length ≤ 5 ∧ 0 ≤ c.w := by
  obtain ⟨us, rfl, h1, _, _⟩ := h
  exact flat_codes h1
theorem Rowy.strip {w : Nat} {cs : List Cell} (h : Rowy w cs) : stripG isBlank cs = stripG isPB cs := by
  obtain ⟨us, rfl, h1, h2, _⟩ := h
  exact strip_row h1 h2
theorem rowy_blank (w : Nat) : Rowy w (List.replicate w (blank plain)) := ⟨List.replicate w (mkB plain), (flat_mkB w plain).symm, fun u hu => by rw [List.eq_of_mem_replicate hu]; exact mkB_ok _, fun u hu _ => by rw [List.eq_of_mem_replicate hu]; rfl, by simp⟩
end Mine

end

section
set_option linter.unusedVariables false
set_option linter.unusedSimpArgs false
set_option maxHeartbeats 1000000
namespace Mine
open PySem
local macro_rules | `(tactic| walk_at "ms") => `(tactic| simp only [ev_lit, ev_var, ev_tup, ev_list, ev_dict, ev_bin, ev_fdiv, ev_neg, ev_not, ev_and, ev_or, ev_if, ev_cmp, ev_cmp2, ev_call, ev_meth, ev_app, ev_ext, ev_pop, ev_attr, ev_sub, ev_slice, ev_rev, ev_len, ev_max, ev_min, ev_listOf, ev_intOf, ev_all, ev_comp,
  evs_nil, evs_cons, ts_val, ts_not, ts_and, ts_or, ts_if, it_list, it_enum, it_zip, it_r1, it_r2, ex_expr, ex_ret, ex_retN, ex_asg, ex_asgT, ex_setattr, ex_setsub, ex_setslice, ex_aug, ex_ite, ex_for, ex_while, ex_cont, exPs_nil,
  seqQ, turnQ, retQ, truth_bool, bin_add, bin_sub, bin_mul, bin_md, neg_int, max_int, min_int, int_int, aug_add, aug_sub, cmp_lt, cmp_le, cmp_gt, cmp_ge, cmp_eq, cmp_ne, cmp_eqb, cmp_neb, cmp_eqs, cmp_nes, cmp_eqc, cmp_nec, cmp_eq0, cmp_ne0,
  sub_cell0, sub_cell1, sub_cell2, sub_cell3, sub_pen2, put, argsOf, List.cons_append, List.nil_append, List.append_nil, List.drop_nil, List.length_cons, List.length_nil, List.getElem?_cons_zero, List.getElem?_cons_succ, Option.some.injEq, exists_eq_left', List.length_map, Nat.reduceAdd, Nat.reduceSub, Nat.reduceEqDiff, Nat.reduceLeDiff, if_true, if_false, ite_true, ite_false, reduceIte, true_and, and_true, Nat.zero_le,
  reduceCtorEq, eq_self, false_implies, true_implies, implies_true, decide_eq_true_eq, decide_eq_false_iff_not, beq_iff_eq, Bool.not_eq_true', Bool.not_eq_false', Bool.and_eq_true, Bool.or_eq_true, beq_eq_false_iff_ne, ne_eq])
local macro_rules | `(tactic| walk_at "mc") => `(tactic| (rw [exPs_cons]; walk_at "ms"))
local macro_rules | `(tactic| walk_at "fin") => `(tactic| repeat' (first | assumption | exact trivial | exact rfl | apply And.intro))
local macro_rules | `(tactic| walk_at "mo") => `(tactic| try (walk_at "ms"))
section
variable {st : Sto} {n : Nat} {Q : AV → Sto → Prop}
theorem c_grid_right (hn : 10 ≤ n) {b : Addr} {ps : List (Addr × List Cell)} {wide : Nat} (hb : st b = some (.list (rls ps))) (hps : ∀ x ∈ ps, st x.1 = some (.list (avs x.2))) (hr : ∀ x ∈ ps, Rowy wide x.2) (h1 : 1 ≤ ps.length) (h2 : ps.length ≤ 10) (hw : 1 ≤ wide) (hw2 : wide ≤ 10)
    (q : ∀ st', Q (.bool true) st') : Calls tab prg n 540 [.loc b, .int wide] st Q := by
  have hlen : ∀ x ∈ ps, x.2.length = wide := fun x hx => by obtain ⟨us, _, _, _, h⟩ := hr x hx; exact h
  have hne : ∀ x ∈ ps, x.2 ≠ [] := fun x hx z => by have := hlen x hx; rw [z] at this; simp at this; omega
  refine call_fn rfl (by omega) (by simp) ?_
  unfold m_law_grid_right
  refine seq_step (fun l' st' => l' 0 = some (.loc b) ∧ l' 1 = some (.int wide) ∧ ∃ a d L xs, l' 2 = some (.loc a) ∧ Ext st st' ∧ st L = none ∧ GridAt st' a d L ps.length wide xs ∧ xs.length = ps.length ∧ (∀ x ∈ xs, x.cs = List.replicate wide (blank plain))) ?_ ?_
  · walk_at "ms"
    refine len_at hb (by rw [rls_len]; omega) ?_
    rw [rls_len]
    refine c_Grid (by omega) (by omega) (by omega) (by omega) (by omega) ?_
    intro a d L st₁ xs x₁ ha hd hL G hxl hxs
    walk_at "mo"
    exact ⟨a, d, L, xs, rfl, x₁, hL, G, by omega, fun x hx => hxs x hx⟩
  rintro l st₁ ⟨g0, g1, a, d, L, xs, g2, x₁, hL, G, hxl, hxs⟩
  refine seq_step (fun l' st' => l' 0 = some (.loc b) ∧ l' 1 = some (.int wide) ∧ l' 2 = some (.loc a) ∧ st₁ = st') ?_ ?_
  · walk_at "ms"
    try simp only [g0, g1, g2, Option.some.injEq, exists_eq_left']
    refine at_gmeth G (f := 310) (by decide) (by intros; unfold gridD; rfl) ?_
    walk_at "ms"
    refine c_whole_area (by omega) G ?_
    try simp only [g0, g1, g2, Option.some.injEq, exists_eq_left']
    refine len_at (x₁.at hb) (by rw [rls_len]; omega) ?_
    rw [rls_len]
    walk_at "mo"
    try simp only [g0, g1, g2, Option.some.injEq, exists_eq_left']
    walk_at "mo"
    rw [cmp_nev (EqV.tup (.cons (.int _ _) (.cons (.int _ _) (.cons (.int _ _) (.cons (.int _ _) (.nilL []))))))]
    simp only [beq_self_eq_true, List.all_cons, List.all_nil, id, Bool.and_true, Bool.not_true]
    walk_at "mo"
    refine c_sound (by omega) G ?_ (by omega) ?_
    · intro x hx
      rw [hxs x hx]
      exact ⟨by simp, (rowy_blank wide).whole⟩
    · walk_at "mo"
      walk_at "fin"
  rintro l _ ⟨g0, g1, g2, rfl⟩
  refine seq_step (fun l' st' => l' 0 = some (.loc b) ∧ l' 1 = some (.int wide) ∧ l' 2 = some (.loc a) ∧ ∃ xs, Ext st st' ∧ GridAt st' a d L ps.length wide xs ∧ xs.map Ln.cs = ps.map Prod.snd) ?_ ?_
  · walk_at "ms"
    try simp only [g0, Option.some.injEq, exists_eq_left']
    refine itE_at (x₁.at hb) ?_
    refine for_enum (ds := rls ps) (calls_mono _) (fun i l' st' => l' 0 = some (.loc b) ∧ l' 1 = some (.int wide) ∧ l' 2 = some (.loc a) ∧ ∃ xs, Ext st st' ∧ GridAt st' a d L ps.length wide xs ∧ xs.length = ps.length ∧ (∀ x ∈ xs, x.cs ≠ []) ∧ (xs.map Ln.cs).take i = (ps.map Prod.snd).take i)
      ⟨g0, g1, g2, xs, x₁, G, hxl, fun x hx z => by have := hxs x hx; rw [z] at this; have := congrArg List.length this; simp at this; omega, by simp⟩ (fun i l' st' h => by obtain ⟨_, _, _, _, x, _⟩ := h; exact x.at hb) ?_ ?_
    · rintro i l' st₂ v ⟨g0, g1, g2, xs, x₂, G, hxl, hxn, hxt⟩ hv
      obtain ⟨x, hxi, rfl⟩ := rls_at hv
      have hm := List.mem_of_getElem? hxi
      have hi := lt_get hxi
      have hX := x₂.at (hps x hm)
      have hl := hlen x hm
      walk_at "mc"
      refine c_line_of (by omega) (.inl ⟨rfl, rfl, rfl⟩) hX (by omega) ?_
      rw [(hr x hm).fix]
      intro a' d' c' st₃ x₃ ha' hd' hc' A
      have G' := G.ext x₃
      try simp only [g2, Option.some.injEq, exists_eq_left']
      refine at_lines G' ?_
      walk_at "mo"
      refine setsub_at G'.k (by omega) (by omega) (by rw [lns_len]; omega) ?_
      rw [show ((i : Int)).toNat = i by omega]
      have G₂ := G'.set hxn (y := ⟨a', d', c', x.2, false⟩) A (hne x hm) (fun z => by rw [z] at hxl; simp at hxl; omega) (i := i)
      have z1 := (x₂.trans x₃).upd (o := .list ((lns xs).set i (.loc a'))) hL
      walk_at "mo"
      walk_at "fin"
      refine ⟨_, z1, G₂, by simp [hxl], ?_, ?_⟩
      · intro y hy
        rcases List.mem_or_eq_of_mem_set hy with h | h
        · exact hxn y h
        · rw [h]; exact hne x hm
      · rw [map_get hxi, List.map_set, List.take_add_one, List.take_set_of_le (Nat.le_refl _), hxt, List.getElem?_set_self (by simpa [hxl] using hi)]; rfl
    · rintro l' st₂ ⟨g0, g1, g2, xs, x₂, G, hxl, hxn, hxt⟩
      rw [rls_len, List.take_of_length_le (by simp; omega), List.take_of_length_le (by simp)] at hxt
      walk_at "mo"
      walk_at "fin"
      exact ⟨xs, x₂, G, hxt⟩
  rintro l st₂ ⟨g0, g1, g2, xs, x₂, G, hxs⟩
  have hxl : xs.length = ps.length := by have := congrArg List.length hxs; simpa using this
  have hxr : ∀ x ∈ xs, Rowy wide x.cs := fun x hx => by
    have : x.cs ∈ ps.map Prod.snd := by rw [← hxs]; exact List.mem_map_of_mem hx
    obtain ⟨y, hy, e⟩ := List.mem_map.mp this
    rw [← e]; exact hr y hy
  have hxw : ∀ x ∈ xs, (x.cs.length : Int) = wide := fun x hx => by obtain ⟨us, _, _, _, h⟩ := hxr x hx; omega
  refine seq_step (fun l' st' => l' 0 = some (.loc b) ∧ l' 1 = some (.int wide) ∧ l' 2 = some (.loc a) ∧ ∃ a' d' L' ys, l' 5 = some (.loc a') ∧ Ext st₂ st' ∧ st₂ L' = none ∧ GridAt st' a' d' L' ps.length wide ys ∧ ys.map Ln.cs = xs.map Ln.cs ∧ ys.map Ln.wr = xs.map Ln.wr) ?_ ?_
  · walk_at "ms"
    try simp only [g2, Option.some.injEq, exists_eq_left']
    refine at_gmeth G (f := 410) (by decide) (by intros; unfold gridD; rfl) ?_
    walk_at "ms"
    refine c_gcopy (by omega) G (by omega) (by omega) (by omega) (by omega) (by omega) hxw ?_
    intro a' d' L' st₃ ys x₃ G' _ hL' _ h1 h2
    walk_at "mo"
    walk_at "fin"
    exact ⟨a', d', L', ys, rfl, x₃, hL', G', h1, h2⟩
  rintro l st₃ ⟨g0, g1, g2, a', d', L', ys, g5, x₃, hL', G', hy1, hy2⟩
  have hyl : ys.length = ps.length := by have := congrArg List.length hy1; simp at this; omega
  refine seq_step (fun l' st' => l' 0 = some (.loc b) ∧ l' 1 = some (.int wide) ∧ l' 2 = some (.loc a) ∧ l' 5 = some (.loc a') ∧ Ext st₃ st') ?_ ?_
  · walk_at "ms"
    try simp only [g0, g2, Option.some.injEq, exists_eq_left']
    refine at_gmeth (G.ext x₃) (f := 405) (by decide) (by intros; unfold gridD; rfl) ?_
    walk_at "ms"
    try simp only [g0, g2, Option.some.injEq, exists_eq_left']
    refine at_gmeth (G.ext x₃) (f := 310) (by decide) (by intros; unfold gridD; rfl) ?_
    walk_at "ms"
    refine c_whole_area (by omega) (G.ext x₃) ?_
    refine c_cells_in (by omega) (G.ext x₃) (by omega) (by omega) (by omega) (by omega) (by omega) hxw ?_
    intro B st₄ qs x₄ hB eB hqs hq
    refine itL_at eB ?_
    refine comp_lists (qs := toA qs) (calls_mono _) (by rw [als_toA]; exact eB) (toA_mem hqs) ?_ ?_ ?_
    · have := congrArg List.length hq; simp [toA] at this ⊢; omega
    · intro x hx
      obtain ⟨y, hy, rfl⟩ := List.mem_map.mp hx
      have : y.2 ∈ xs.map Ln.cs := by rw [← hq]; exact List.mem_map_of_mem hy
      obtain ⟨z, hz, e⟩ := List.mem_map.mp this
      have := hxw z hz
      rw [e] at this
      show (avs y.2).length ≤ 900
      rw [avs_len]; omega
    · intro m st₅ ps' x₅ em hps' hp'
      walk_at "mo"
      have xx := (x₂.trans x₃).trans (x₄.trans x₅)
      have E := eqv_ll (n := 18) (ps := ps') (qs := toA ps) em (by rw [als_toA]; exact xx.at hb) hps' (toA_mem fun x hx => xx.at (hps x hx)) (by rw [hp', toA_snd (hq.trans hxs)]) (by
        intro x hx dd hdd
        have : x.2 ∈ ps'.map Prod.snd := List.mem_map_of_mem hx
        rw [hp'] at this
        obtain ⟨y, hy, e⟩ := List.mem_map.mp this
        obtain ⟨z, hz, rfl⟩ := List.mem_map.mp hy
        rw [← e] at hdd
        obtain ⟨c, hc, rfl⟩ := List.mem_map.mp hdd
        exact eqv_self_cell c)
      rw [cmp_nev E]
      have z1 := x₄.trans x₅
      walk_at "mo"
      walk_at "fin"
  rintro l st₄ ⟨g0, g1, g2, g5, x₄⟩
  refine seq_step (fun l' st' => l' 0 = some (.loc b) ∧ l' 1 = some (.int wide) ∧ l' 2 = some (.loc a) ∧ l' 5 = some (.loc a') ∧ Ext st₃ st') ?_ ?_
  · walk_at "ms"
    try simp only [g2, g5, Option.some.injEq, exists_eq_left']
    have Gx := G.ext (x₃.trans x₄)
    have Gy := G'.ext x₄
    refine c_sound (by omega) Gx (fun x hx => ⟨hxw x hx, (hxr x hx).whole⟩) (by omega) ?_
    walk_at "mo"
    refine at_gmeth Gx (f := 415) (by decide) (by intros; unfold gridD; rfl) ?_
    walk_at "ms"
    try simp only [g2, g5, Option.some.injEq, exists_eq_left']
    refine c_gequals (by omega) Gx Gy (by omega) (by omega) fun t st₅ x₅ ht => ?_
    have : t = true := by
      rw [ht]
      intro i x y hx hy
      have h1 := congrArg (fun z : List (List Cell) => z[i]?) hy1
      have h2 := congrArg (fun z : List Bool => z[i]?) hy2
      simp only [List.getElem?_map, hx, hy, Option.map_some, Option.some.injEq] at h1 h2
      exact ⟨h1.symm, h2.symm⟩
    subst this
    have z1 := x₄.trans x₅
    walk_at "mo"
    walk_at "fin"
  rintro l st₅ ⟨g0, g1, g2, g5, x₅⟩
  refine seq_step (fun l' st' => l' 0 = some (.loc b) ∧ l' 1 = some (.int wide) ∧ l' 2 = some (.loc a) ∧ l' 5 = some (.loc a') ∧ Ext st₃ st') ?_ ?_
  · walk_at "ms"
    try simp only [g0, g2, Option.some.injEq, exists_eq_left']
    have Gx := G.ext (x₃.trans x₅)
    refine at_gmeth Gx (f := 420) (by decide) (by intros; unfold gridD; rfl) ?_
    walk_at "ms"
    refine c_gtext (by omega) Gx (by omega) (by omega) (by omega) (by omega) (by omega) (fun x hx => ⟨hxw x hx, (hxr x hx).fix, fun c hc => ((hxr x hx).codes c hc).1⟩) ?_
    intro B st₆ qs x₆ hB eB hqs hq
    refine itL_at eB ?_
    have hqi : ∀ y ∈ qs, ∃ z ∈ xs, y.2 = codesOf (stripG isBlank z.cs) := fun y hy => by
      have : y.2 ∈ xs.map (fun x => codesOf (stripG isBlank x.cs)) := by rw [← hq]; exact List.mem_map_of_mem hy
      obtain ⟨z, hz, e⟩ := List.mem_map.mp this
      exact ⟨z, hz, e.symm⟩
    refine comp_lists (qs := toI qs) (calls_mono _) (by rw [als_toI]; exact eB) (toI_mem hqs) ?_ ?_ ?_
    · have := congrArg List.length hq; simp [toI] at this ⊢; omega
    · intro x hx
      obtain ⟨y, hy, rfl⟩ := List.mem_map.mp hx
      obtain ⟨z, hz, e⟩ := hqi y hy
      have h3 := hxw z hz
      have h4 := codesOf_len (xs := stripG isBlank z.cs) fun c hc => ((hxr z hz).codes c (strip_sub hc)).1
      obtain ⟨k, k1, k2⟩ := strip_le (p := isBlank) z.cs
      have h5 : (stripG isBlank z.cs).length ≤ 10 := by rw [k2, List.length_take]; omega
      show (y.2.map AV.int).length ≤ 900
      rw [e, List.length_map]; omega
    · intro m st₇ ps' x₇ em hps' hp'
      walk_at "mo"
      try simp only [g0, Option.some.injEq, exists_eq_left']
      have xx := ((x₂.trans x₃).trans x₅).trans (x₆.trans x₇)
      refine itL_at (xx.at hb) ?_
      refine comp_gen (fun i => (rls ps)[i]?) ps.length (fun i v h => by have := lt_get h; rw [rls_len] at this; exact this) (by omega)
        (fun i acc st' => Ext st₇ st' ∧ ∃ zs : List (Addr × List Int), acc = (zs.map fun x => AV.loc x.1) ∧ (∀ x ∈ zs, st' x.1 = some (.list (x.2.map .int))) ∧ zs.map Prod.snd = ((ps.map Prod.snd).map (fun cs => codesOf (stripG isPB cs))).take i) ⟨Ext.refl _, [], rfl, nofun, by simp⟩ (calls_mono _) (fun i acc st' h => nx_list ((xx.trans h.1).at hb)) ?_ ?_
      · rintro i acc st₈ v ⟨x₈, zs, rfl, hzs, hz⟩ hi hv
        obtain ⟨x, hxi, rfl⟩ := rls_at hv
        have hm := List.mem_of_getElem? hxi
        have hl := hlen x hm
        refine ⟨_, rfl, ?_⟩
        walk_at "ms"
        refine c_shown (by omega) ((xx.trans x₈).at (hps x hm)) (by omega) (fun c hc => ((hr x hm).codes c hc).1) (fun c hc => ((hr x hm).codes c hc).2) ?_
        intro f st₉ x₉ hf ef
        refine ⟨x₈.trans x₉, zs ++ [(f, codesOf (stripG isPB x.2))], by simp, ?_, ?_⟩
        · intro y hy
          rcases List.mem_append.mp hy with h | h
          · exact x₉.at (hzs y h)
          · rw [List.mem_singleton.mp h]; exact ef
        · rw [List.map_map, map_get hxi, List.map_append, hz, List.map_map]; rfl
      · rintro i acc st₈ ⟨x₈, zs, rfl, hzs, hz⟩ hi hN hnx k hk
        have hix : ps.length ≤ i := by simpa [rls] using hnx
        rw [List.take_of_length_le (by simpa using hix)] at hz
        have x₉ := x₈.trans (Ext.new (o := .list (zs.map fun x => AV.loc x.1)) hk)
        have hall : qs.map Prod.snd = zs.map Prod.snd := by
          rw [hq, hz, ← hxs, List.map_map]
          refine List.map_congr_left fun x hx => ?_
          show codesOf (stripG isBlank x.cs) = codesOf (stripG isPB x.cs)
          rw [(hxr x hx).strip]
        have E := eqv_ll (n := 18) (ps := ps') (qs := toI zs) (x₉.at em) (by rw [als_toI]; exact upd_same (st := st₈) (a := k) (o := .list (zs.map fun x => AV.loc x.1))) (fun x hx => x₉.at (hps' x hx)) (toI_mem fun x hx => upd_at (hzs x hx) hk) (by rw [hp', toI_snd hall]) (by
          intro x hx dd hdd
          have : x.2 ∈ ps'.map Prod.snd := List.mem_map_of_mem hx
          rw [hp'] at this
          obtain ⟨y, hy, e⟩ := List.mem_map.mp this
          obtain ⟨z, hz, rfl⟩ := List.mem_map.mp hy
          rw [← e] at hdd
          obtain ⟨c, hc, rfl⟩ := List.mem_map.mp hdd
          exact eqv_self_int c)
        rw [cmp_nev E]
        have z1 := x₅.trans ((x₆.trans x₇).trans x₉)
        walk_at "mo"
        walk_at "fin"
  rintro l st₆ ⟨g0, g1, g2, g5, x₆⟩
  obtain ⟨p0, ps0, hp0⟩ : ∃ p0 ps0, ps = p0 :: ps0 := by cases ps with | nil => simp at h1 | cons x y => exact ⟨x, y, rfl⟩
  have hm0 : p0 ∈ ps := by rw [hp0]; simp
  have hl0 := hlen p0 hm0
  obtain ⟨y0, ys0, hys0⟩ : ∃ y0 ys0, ys = y0 :: ys0 := by cases ys with | nil => simp at hyl; omega | cons x y => exact ⟨x, y, rfl⟩
  have hyn : ∀ y ∈ ys, y.cs ≠ [] := fun y hy z => by
    have : y.cs ∈ xs.map Ln.cs := by rw [← hy1]; exact List.mem_map_of_mem hy
    obtain ⟨x, hx, e⟩ := List.mem_map.mp this
    have := hxw x hx
    rw [e, z] at this; simp at this; omega
  refine seq_step (fun l' st' => l' 0 = some (.loc b) ∧ l' 2 = some (.loc a) ∧ l' 5 = some (.loc a') ∧ Ext st₂ st' ∧ ∃ z : Ln, z.cs.length = wide + 1 ∧ GridAt st' a' d' L' ps.length wide (z :: ys0)) ?_ ?_
  · walk_at "ms"
    try simp only [g0, g5, Option.some.injEq, exists_eq_left']
    have xx := (x₂.trans x₃).trans x₆
    refine sub_at (xx.at hb) (by omega) (by omega) (rls_get (x := p0) (by rw [hp0]; rfl)) ?_
    refine c_blank (p := plain) (by omega) ?_
    intro m hm
    refine .inr ⟨p0.1, m, _, _, rfl, rfl, upd_at (xx.at (hps p0 hm0)) hm, upd_same, by rw [avs_len]; simp; omega, fun k hk => ?_⟩
    have x₇ := (Ext.new (o := .list [(blank plain).av]) hm).trans (Ext.new (o := .list (avs p0.2 ++ [(blank plain).av])) hk)
    refine c_line_of (ks := p0.2 ++ [blank plain]) (by omega) (.inl ⟨rfl, rfl, rfl⟩) (by rw [upd_same, avs_app]; rfl) (by simp; omega) ?_
    intro a₃ d₃ c₃ st₇ x₈ _ _ _ A
    try simp only [g0, g5, Option.some.injEq, exists_eq_left']
    have Gy := G'.ext (x₆.trans (x₇.trans x₈))
    refine at_lines Gy ?_
    have hzl : (fixB (p0.2 ++ [blank plain])).length = wide + 1 := by rw [fixB_len]; simp; omega
    have G₂ := Gy.set hyn (y := ⟨a₃, d₃, c₃, fixB (p0.2 ++ [blank plain]), false⟩) A (fun z => by have := hzl; rw [show fixB (p0.2 ++ [blank plain]) = [] from z] at this; simp at this) (fun z => by rw [z] at hyl; simp at hyl; omega) (i := 0)
    refine setsub_at Gy.k (by omega) (by omega) (by rw [lns_len]; simp; omega) ?_
    have z1 := (x₃.trans (x₆.trans (x₇.trans x₈))).upd (o := .list ((lns ys).set (0 : Int).toNat (.loc a₃))) hL'
    walk_at "mo"
    walk_at "fin"
    refine ⟨⟨a₃, d₃, c₃, fixB (p0.2 ++ [blank plain]), false⟩, hzl, ?_⟩
    rw [hys0] at G₂ ⊢
    exact G₂
  rintro l st₇ ⟨g0, g2, g5, x₇, z, hz, G₂⟩
  have Gx := G.ext x₇
  walk_at "mc"
  try simp only [g0, g2, g5, Option.some.injEq, exists_eq_left']
  refine c_unsound (by omega) G₂ (by omega) (by omega) ?_
  walk_at "mo"
  try simp only [g0, g2, g5, Option.some.injEq, exists_eq_left']
  refine at_gmeth Gx (f := 415) (by decide) (by intros; unfold gridD; rfl) ?_
  walk_at "ms"
  try simp only [g0, g2, g5, Option.some.injEq, exists_eq_left']
  have hzy : xs.length = (z :: ys0).length := by rw [hys0] at hyl; simp at hyl ⊢; omega
  refine c_gequals (by omega) Gx G₂ hzy (by omega) fun t st₈ x₈ ht => ?_
  have : t = false := by
    cases t with
    | false => rfl
    | true =>
      obtain ⟨x0, xs0, hx0⟩ : ∃ x0 xs0, xs = x0 :: xs0 := by cases xs with | nil => simp at hxl; omega | cons x y => exact ⟨x, y, rfl⟩
      have h3 := (ht.mp rfl 0 x0 z (by rw [hx0]; rfl) rfl).1
      have h4 := hxw x0 (by rw [hx0]; simp)
      rw [h3] at h4; omega
  subst this
  walk_at "mo"
  try simp only [g0, g2, g5, Option.some.injEq, exists_eq_left']
  obtain ⟨x0, xs0, hx0⟩ : ∃ x0 xs0, xs = x0 :: xs0 := by cases xs with | nil => simp at hxl; omega | cons x y => exact ⟨x, y, rfl⟩
  have Gz := Gx.ext x₈
  refine at_gmeth Gz (f := 303) (by decide) (by intros; unfold gridD; rfl) ?_
  walk_at "ms"
  refine c_grid_line (i := 0) (by omega) Gz (x := x0) (by rw [hx0]; rfl) (by omega) ?_
  have A0 := Gz.ls x0 (by rw [hx0]; simp)
  have hc0 : x0.cs = p0.2 := by rw [hx0, hp0] at hxs; simp at hxs; exact hxs.1
  refine at_cells A0 (list_at A0.k (by rw [avs_len, hc0]; omega) fun m hm => ?_)
  try simp only [g0, g2, g5, Option.some.injEq, exists_eq_left']
  have xx := (x₂.trans x₇).trans x₈
  refine sub_at (upd_at (xx.at hb) hm) (by omega) (by omega) (rls_get (x := p0) (by rw [hp0]; rfl)) ?_
  obtain ⟨t, ht1, ht2⟩ := eqv_rows (n := 17) (upd_same (st := st₈) (a := m) (o := .list (avs x0.cs))) (upd_at (o' := .list (avs x0.cs)) (xx.at (hps p0 hm0)) hm)
  rw [cmp_eqv ht1, ht2.mpr hc0]
  exact q _
end
end Mine

end

section
set_option linter.unusedVariables false
set_option linter.unusedSimpArgs false
set_option maxHeartbeats 1000000
namespace Mine
open PySem
local macro_rules | `(tactic| walk_at "ms") => `(tactic| simp only [ev_lit, ev_var, ev_tup, ev_list, ev_dict, ev_bin, ev_fdiv, ev_neg, ev_not, ev_and, ev_or, ev_if, ev_cmp, ev_cmp2, ev_call, ev_meth, ev_app, ev_ext, ev_pop, ev_attr, ev_sub, ev_slice, ev_rev, ev_len, ev_max, ev_min, ev_listOf, ev_intOf, ev_all, ev_comp,
  evs_nil, evs_cons, ts_val, ts_not, ts_and, ts_or, ts_if, it_list, it_enum, it_zip, it_r1, it_r2, ex_expr, ex_ret, ex_retN, ex_asg, ex_asgT, ex_setattr, ex_setsub, ex_setslice, ex_aug, ex_ite, ex_for, ex_while, ex_cont, exPs_nil,
  seqQ, turnQ, retQ, truth_bool, bin_add, bin_sub, bin_mul, bin_md, neg_int, max_int, min_int, int_int, aug_add, aug_sub, cmp_lt, cmp_le, cmp_gt, cmp_ge, cmp_eq, cmp_ne, cmp_eqb, cmp_neb, cmp_eqs, cmp_nes, cmp_eqc, cmp_nec, cmp_eq0, cmp_ne0,
  sub_cell0, sub_cell1, sub_cell2, sub_cell3, sub_pen2, put, argsOf, List.cons_append, List.nil_append, List.append_nil, List.drop_nil, List.length_cons, List.length_nil, List.getElem?_cons_zero, List.getElem?_cons_succ, Option.some.injEq, exists_eq_left', List.length_map, Nat.reduceAdd, Nat.reduceSub, Nat.reduceEqDiff, Nat.reduceLeDiff, if_true, if_false, ite_true, ite_false, reduceIte, true_and, and_true, Nat.zero_le,
  reduceCtorEq, eq_self, false_implies, true_implies, implies_true, decide_eq_true_eq, decide_eq_false_iff_not, beq_iff_eq, Bool.not_eq_true', Bool.not_eq_false', Bool.and_eq_true, Bool.or_eq_true, beq_eq_false_iff_ne, ne_eq])
local macro_rules | `(tactic| walk_at "mc") => `(tactic| (rw [exPs_cons]; walk_at "ms"))
local macro_rules | `(tactic| walk_at "fin") => `(tactic| repeat' (first | assumption | exact trivial | exact rfl | apply And.intro))
local macro_rules | `(tactic| walk_at "mo") => `(tactic| try (walk_at "ms"))
theorem c_law {st : Sto} {n : Nat} {Q : AV → Sto → Prop} (hn : 20 ≤ n) {ns : List Int} (hns : ns.length ≤ 63) (q : ∀ st', Q (.bool true) st') : Calls tab prg n 545 [.ro (ns.map .int)] st Q := by
  refine call_fn rfl (by omega) (by simp) ?_
  unfold m_law
  refine seq_step (fun l' st' => ∃ k c, l' 1 = some (.loc k) ∧ Deck st' k c) ?_ ?_
  · walk_at "ms"
    refine c_law_deck (by omega) hns ?_
    intro k c st₁ _ _ _ D
    walk_at "mo"
    exact ⟨k, c, rfl, D⟩
  rintro l st₁ ⟨k, c, g1, D⟩
  refine seq_step (fun l' st' => l' 1 = some (.loc k) ∧ Deck st' k c ∧ ∃ wide size : Nat, l' 2 = some (.int wide) ∧ l' 3 = some (.int size) ∧ 1 ≤ wide ∧ wide ≤ 6 ∧ size ≤ 9) ?_ ?_
  · walk_at "ms"
    try simp only [g1, Option.some.injEq, exists_eq_left']
    refine c_draw (by omega) D (by omega) (by omega) ?_
    intro v st₂ hv0 hv1 x₂ D₂
    walk_at "mo"
    try simp only [g1, Option.some.injEq, exists_eq_left']
    refine c_draw (by omega) D₂ (by omega) (by omega) ?_
    intro u st₃ hu0 hu1 x₃ D₃
    obtain ⟨v, rfl⟩ := Int.eq_ofNat_of_zero_le hv0
    obtain ⟨u, rfl⟩ := Int.eq_ofNat_of_zero_le hu0
    walk_at "mo"
    have hgo : ∀ l' : Loc, l' 1 = some (.loc k) → l' 2 = some (.int (1 + v)) → l' 3 = some (.int u) → (l' 1 = some (.loc k) ∧ Deck st₃ k c ∧ ∃ wide size : Nat, l' 2 = some (.int wide) ∧ l' 3 = some (.int size) ∧ 1 ≤ wide ∧ wide ≤ 6 ∧ size ≤ 9) := fun l' h1 h2 h3 =>
      ⟨h1, D₃, 1 + v, u, by rw [h2]; simp, h3, by omega, by omega, by omega⟩
    refine ⟨_, _, rfl, rfl, ?_⟩
    exact hgo _ (by simp [put]; exact g1) (by simp [put]) (by simp [put])
  rintro l st₂ ⟨g1, D, wide, size, g2, g3, hw1, hw2, hs⟩
  refine seq_step (fun l' st' => l' 1 = some (.loc k) ∧ l' 2 = some (.int wide) ∧ Deck st' k c ∧ ∃ b us, l' 4 = some (.loc b) ∧ st' b = some (.list (avs (flat us))) ∧ Rw us ∧ us ≠ [] ∧ (∀ pre u, us = pre ++ [u] → isBlank u.c = false) ∧ (flat us).length ≤ 30) ?_ ?_
  · walk_at "ms"
    try simp only [g1, g3, Option.some.injEq, exists_eq_left']
    refine c_law_row (by omega) D hs ?_
    intro f st₃ us x₃ D₃ hf ef hr hne hlast hl
    walk_at "mo"
    walk_at "fin"
    exact ⟨f, us, rfl, ef, hr, hne, hlast, hl⟩
  rintro l st₃ ⟨g1, g2, D, b, us, g4, eb, hr, hne, hlast, hl⟩
  have hlp := flat_pos hne
  have hbk : ∀ {st : Sto}, Deck st k c → st b = some (.list (avs (flat us))) → ¬ dk k c b := fun D e => D.off e (fun z => by rw [z] at hlp; simp at hlp)
  refine seq_step (fun l' st' => l' 1 = some (.loc k) ∧ l' 2 = some (.int wide) ∧ l' 4 = some (.loc b) ∧ Deck st' k c ∧ st' b = some (.list (avs (flat us)))) ?_ ?_
  · walk_at "ms"
    try simp only [g1, g2, g4, Option.some.injEq, exists_eq_left']
    refine c_pen (by omega) D ?_
    intro p st₄ x₄ D₄
    refine c_are_cut (by omega) (x₄.at (hbk D eb) eb) hw1 (by omega) (by omega) hr.ok ?_
    intro st₅ x₅
    walk_at "mo"
    intro m hm
    have e₅ := x₅.at (x₄.at (hbk D eb) eb)
    have D₅ := D₄.ext x₅
    try simp only [g1, g2, g4, Option.some.injEq, exists_eq_left']
    refine c_are_cut (us := []) (pen := plain) (by omega) upd_same hw1 (by omega) (by simp [flat]) nofun ?_
    intro st₆ x₆
    have z1 := (D₅.ext (Ext.new hm)).ext x₆
    have z2 := x₆.at (upd_at (o' := .list []) e₅ hm)
    walk_at "mo"
    walk_at "fin"
  rintro l st₄ ⟨g1, g2, g4, D, eb⟩
  refine seq_step (fun l' st' => l' 1 = some (.loc k) ∧ l' 2 = some (.int wide) ∧ l' 4 = some (.loc b) ∧ Deck st' k c ∧ st' b = some (.list (avs (flat us)))) ?_ ?_
  · walk_at "ms"
    try simp only [g1, g2, g4, Option.some.injEq, exists_eq_left']
    walk_at "mo"
    refine ⟨fun hw => ?_, fun _ => ?_⟩
    · have h2 : 2 ≤ wide := by omega
      try simp only [g1, g2, g4, Option.some.injEq, exists_eq_left']
      refine c_cells_cut (pen := plain) (by omega) eb hw1 (by omega) (by omega) hr.ok ?_
      intro B st₅ xs x₅ hB eB hxs hcs hwr
      have hjc := join_cut h2 us.length us (Nat.le_refl _) hne hr hlast
      rw [← hcs] at hjc
      have hxw : ∀ x ∈ xs, x.cs.length = wide := fun x hx => by
        have : x.cs ∈ xs.map Ln.cs := List.mem_map_of_mem hx
        rw [hcs] at this
        obtain ⟨t, _, e⟩ := List.mem_map.mp this
        rw [← e, lineC_len]
      have hxl : xs.length ≤ 100 := by
        have h3 : ∀ (us cur : List U), (fillU wide cur us).length ≤ us.length + 1 := by
          intro us
          induction us with
          | nil => intro cur; simp [fillU]
          | cons u r ih =>
            intro cur
            rw [fillU]
            split
            · have := ih [u]; simp; omega
            · have := ih (cur ++ [u]); simp; omega
        have h4 := congrArg List.length hcs
        simp only [List.length_map] at h4
        have := h3 us []
        have := flat_ge us
        omega
      refine c_lines_joined (by omega) eB hxs hxl (fun x hx z => by have := hxw x hx; rw [z] at this; simp at this; omega) (fun x hx => by have := hxw x hx; omega) (by rw [hjc]; omega) ?_
      rw [hjc]
      intro f st₆ x₆ hf ef
      refine c_trimmed (by omega) ef (by omega) ?_
      rw [strip_flat (fun _ => isPB_blank) hr.ok hlast]
      intro g st₇ x₇ hg eg
      try simp only [g1, g2, g4, Option.some.injEq, exists_eq_left']
      have x := (x₅.trans x₆).trans x₇
      obtain ⟨t, ht1, ht2⟩ := eqv_rows (n := 17) eg (x.at eb)
      rw [cmp_nev ht1, ht2.mpr rfl]
      have z1 := D.ext x
      have z2 := x.at eb
      walk_at "mo"
      walk_at "fin"
    · walk_at "mo"
      walk_at "fin"
  rintro l st₅ ⟨g1, g2, g4, D, eb⟩
  have hfix : fixB (flat us) = flat us := fixB_flat hr.ok
  refine seq_step (fun l' st' => l' 1 = some (.loc k) ∧ l' 2 = some (.int wide) ∧ l' 4 = some (.loc b) ∧ Deck st' k c ∧ st' b = some (.list (avs (flat us))) ∧ ∃ a d e, l' 5 = some (.loc a) ∧ LineAt st' a d e (flat us) false "single") ?_ ?_
  · walk_at "ms"
    try simp only [g4, Option.some.injEq, exists_eq_left']
    refine c_line_of (by omega) (.inl ⟨rfl, rfl, rfl⟩) eb (by omega) ?_
    rw [hfix]
    intro a d e st₆ x₆ _ _ _ A
    have z1 := D.ext x₆
    have z2 := x₆.at eb
    walk_at "mo"
    walk_at "fin"
    exact ⟨a, d, e, rfl, A⟩
  rintro l st₆ ⟨g1, g2, g4, D, eb, a, d, e, g5, A⟩
  have hwhole : wholeG nbL none (flat us) = true := whole_flat nbL_right none fun u hu => (hr.ok u hu).w
  refine seq_step (fun l' st' => l' 1 = some (.loc k) ∧ l' 2 = some (.int wide) ∧ l' 4 = some (.loc b) ∧ st₆ = st') ?_ ?_
  · walk_at "ms"
    try simp only [g4, Option.some.injEq, exists_eq_left']
    refine itE_at eb ?_
    refine for_enum (ds := avs (flat us)) (calls_mono _) (fun i l' st' => st₆ = st' ∧ l' 1 = some (.loc k) ∧ l' 2 = some (.int wide) ∧ l' 4 = some (.loc b) ∧ l' 5 = some (.loc a)) ⟨rfl, g1, g2, g4, g5⟩ (fun i l' st' h => by rw [← h.1]; exact eb) ?_ ?_
    · rintro i l _ v ⟨rfl, g1, g2, g4, g5⟩ hv
      obtain ⟨x, hx, rfl⟩ := avs_at hv
      have hi := lt_get hx
      have hp0 := (whole_at hwhole hx).2
      walk_at "mc"
      try simp only [g5, Option.some.injEq, exists_eq_left']
      refine c_line_place (by omega) A hx (by omega) ?_
      walk_at "mo"
      refine ⟨fun hw0 => ?_, fun hw0 => ?_⟩
      · rw [if_pos ⟨by have := (hp0 hw0).1; omega, hw0⟩]
        walk_at "mo"
        refine ⟨fun h => absurd trivial h, ?_⟩
        walk_at "mo"
        walk_at "fin"
      · rw [if_neg (fun z => hw0 z.2)]
        walk_at "mo"
        refine ⟨fun h => absurd trivial h, ?_⟩
        walk_at "mo"
        walk_at "fin"
    · rintro l _ ⟨rfl, g1, g2, g4, g5⟩
      walk_at "mo"
      walk_at "fin"
  rintro l _ ⟨g1, g2, g4, rfl⟩
  have hcodes := flat_codes hr.ok
  refine seq_step (fun l' st' => l' 1 = some (.loc k) ∧ l' 2 = some (.int wide) ∧ Deck st' k c) ?_ ?_
  · walk_at "ms"
    try simp only [g1, g4, Option.some.injEq, exists_eq_left']
    refine c_line_codes (by omega) eb (by omega) (fun x hx => (hcodes x hx).1) ?_
    intro f st₇ x₇ hf ef
    have hcl : (codesOf (stripG isBlank (flat us))).length ≤ 500 := by
      have h4 := codesOf_len (xs := stripG isBlank (flat us)) fun x hx => (hcodes x (strip_sub hx)).1
      obtain ⟨k, k1, k2⟩ := strip_le (p := isBlank) (flat us)
      have h5 : (stripG isBlank (flat us)).length ≤ 30 := by rw [k2, List.length_take]; omega
      omega
    refine list_at ef (by rw [List.length_map]; omega) fun g hg => ?_
    have eg := upd_same (st := st₇) (a := g) (o := .list ((codesOf (stripG isBlank (flat us))).map AV.int))
    have x₈ := x₇.trans (Ext.new (o := .list ((codesOf (stripG isBlank (flat us))).map AV.int)) hg)
    try simp only [g1, g4, Option.some.injEq, exists_eq_left']
    refine c_shown (by omega) (x₈.at eb) (by omega) (fun x hx => (hcodes x hx).1) (fun x hx => (hcodes x hx).2) ?_
    intro h st₉ x₉ hh eh
    obtain ⟨t, ht1, ht2⟩ := eqv_ilist (n := 17) (x₉.at eg) eh
    rw [cmp_nev ht1, ht2.mpr (by rw [strip_row hr.ok hr.pl])]
    have xx := x₈.trans x₉
    walk_at "mo"
    try simp only [g1, g4, Option.some.injEq, exists_eq_left']
    refine c_ends_right (by omega) (D.ext xx) (xx.at eb) hne hr.ok (by omega) ?_
    intro st₁₀ _ D₁₀
    walk_at "mo"
    walk_at "fin"
  rintro l st₇ ⟨g1, g2, D⟩
  refine seq_step (fun l' st' => l' 2 = some (.int wide) ∧ ∃ B ps, l' 8 = some (.loc B) ∧ st' B = some (.list (rls ps)) ∧ (∀ x ∈ ps, st' x.1 = some (.list (avs x.2)) ∧ Rowy wide x.2) ∧ 1 ≤ ps.length ∧ ps.length ≤ 10) ?_ ?_
  · walk_at "ms"
    try simp only [g1, Option.some.injEq, exists_eq_left']
    refine c_draw (by omega) D (by omega) (by omega) ?_
    intro v st₈ hv0 hv1 x₈ D₈
    obtain ⟨v, rfl⟩ := Int.eq_ofNat_of_zero_le hv0
    walk_at "mo"
    refine itR_at (by omega) (by omega) ?_
    refine comp_gen (fun i => if (i : Int) < 2 + v then some (.int i) else none) (2 + v) (fun i v h => by (split at h) <;> first | omega | cases h) (by omega)
      (fun i acc st' => Deck st' k c ∧ ∃ ps, acc = rls ps ∧ (∀ x ∈ ps, st' x.1 = some (.list (avs x.2)) ∧ Rowy wide x.2)) ⟨D₈, [], rfl, nofun⟩ (calls_mono _) (fun i acc st' h => nx_range) ?_ ?_
    · rintro i acc st₉ u ⟨D₉, ps, rfl, hps⟩ hi hu
      refine ⟨_, rfl, ?_⟩
      walk_at "ms"
      have k1 : put (mask [1, 2] l) 11 u 1 = some (.loc k) := by simp [put, mask]; exact g1
      have k2 : put (mask [1, 2] l) 11 u 2 = some (.int wide) := by simp [put, mask]; exact g2
      refine ⟨_, k1, _, k2, ?_⟩
      refine c_law_full (by omega) D₉ (by omega) ?_
      intro f st₁₀ vs x₁₀ D₁₀ hf ef hok hpl hvl
      refine ⟨D₁₀, ps ++ [(f, flat vs)], by simp [rls], ?_⟩
      intro x hx
      rcases List.mem_append.mp hx with h | h
      · obtain ⟨h1, h2⟩ := hps x h
        refine ⟨x₁₀.at (D₉.off h1 (fun z => ?_)) h1, h2⟩
        obtain ⟨_, _, _, _, h3⟩ := h2
        rw [z] at h3; simp at h3; omega
      · rw [List.mem_singleton.mp h]; exact ⟨ef, vs, rfl, hok, hpl, hvl⟩
    · rintro i acc st₉ ⟨D₉, ps, rfl, hps⟩ hi hN hnx m hm
      have hix : i = 2 + v := by (split at hnx) <;> first | omega | cases hnx
      rw [rls_len] at hi
      walk_at "mo"
      walk_at "fin"
      exact ⟨m, ps, rfl, upd_same, fun x hx => ⟨upd_at (hps x hx).1 hm, (hps x hx).2⟩, by omega, by omega⟩
  rintro l st₈ ⟨g2, B, ps, g8, eB, hps, hpl1, hpl2⟩
  have hlen : ∀ x ∈ ps, x.2.length = wide := fun x hx => by obtain ⟨_, us, _, _, _, h⟩ := hps x hx; exact h
  have hpn : ∀ x ∈ ps, x.2 ≠ [] := fun x hx z => by have := hlen x hx; rw [z] at this; simp at this; omega
  refine seq_step (fun l' st' => l' 2 = some (.int wide) ∧ l' 8 = some (.loc B) ∧ Ext st₈ st' ∧ ∃ C xs, l' 9 = some (.loc C) ∧ st' C = some (.list (lns xs)) ∧ (∀ x ∈ xs, x.At st') ∧ xs.map Ln.cs = ps.map Prod.snd) ?_ ?_
  · walk_at "ms"
    try simp only [g8, Option.some.injEq, exists_eq_left']
    refine itE_at eB ?_
    refine comp_gen (fun i => (rls ps)[i]?.map fun x => .tup [.int i, x]) ps.length ?_ (by omega)
      (fun i acc st' => Ext st₈ st' ∧ ∃ xs, acc = lns xs ∧ (∀ x ∈ xs, x.At st') ∧ xs.map Ln.cs = (ps.map Prod.snd).take i) ⟨Ext.refl _, [], rfl, nofun, by simp⟩ (calls_mono _) (fun i acc st' h => by simp only [itNext, h.1.at eB]) ?_ ?_
    · intro i v h
      cases e : (rls ps)[i]? with
      | none => rw [e] at h; cases h
      | some z => have := lt_get e; rwa [rls_len] at this
    · rintro i acc st₉ u ⟨x₉, xs, rfl, hxs, hx⟩ hi hu
      cases e : (rls ps)[i]? with
      | none => rw [e] at hu; cases hu
      | some z =>
        rw [e] at hu
        cases hu
        obtain ⟨x, hxi, rfl⟩ := rls_at e
        have hm := List.mem_of_getElem? hxi
        have k6 : put (put (mask [8] l) 6 (.int i)) 12 (.loc x.1) 6 = some (.int i) := by simp [put]
        have k8 : put (put (mask [8] l) 6 (.int i)) 12 (.loc x.1) 8 = some (.loc B) := by simp [put, mask]; exact g8
        have k12 : put (put (mask [8] l) 6 (.int i)) 12 (.loc x.1) 12 = some (.loc x.1) := by simp [put]
        refine ⟨_, rfl, ?_⟩
        generalize put (put (mask [8] l) 6 (.int i)) 12 (.loc x.1) = l2 at *
        walk_at "ms"
        try simp only [k6, k8, k12, Option.some.injEq, exists_eq_left']
        walk_at "mo"
        refine len_at (x₉.at eB) (by rw [rls_len]; omega) ?_
        walk_at "mo"
        refine c_line_of (by omega) (.inr (.inl ⟨rfl, rfl⟩)) (x₉.at (hps x hm).1) (by have := hlen x hm; omega) ?_
        rw [(hps x hm).2.fix]
        intro a' d' c' st₁₀ x₁₀ _ _ _ A'
        refine ⟨x₉.trans x₁₀, xs ++ [⟨a', d', c', x.2, decide ((i : Int) + 1 < ps.length)⟩], by simp [lns], ?_, by rw [map_get hxi, List.map_append, hx]; rfl⟩
        intro y hy
        rcases List.mem_append.mp hy with h | h
        · exact (hxs y h).ext x₁₀
        · rw [List.mem_singleton.mp h]; exact A'
    · rintro i acc st₉ ⟨x₉, xs, rfl, hxs, hx⟩ hi hN hnx m hm
      have hix : ps.length ≤ i := by simpa [rls] using hnx
      rw [List.take_of_length_le (by simpa using hix)] at hx
      have z1 := x₉.trans (Ext.new (o := .list (lns xs)) hm)
      walk_at "mo"
      walk_at "fin"
      exact ⟨m, xs, rfl, upd_same, fun y hy => (hxs y hy).ext (Ext.new hm), hx⟩
  rintro l st₉ ⟨g2, g8, x₉, C, xs, g9, eC, hxs, hcs⟩
  have hxl : xs.length = ps.length := by have := congrArg List.length hcs; simpa using this
  have hxw : ∀ x ∈ xs, x.cs.length = wide := fun x hx => by
    have : x.cs ∈ ps.map Prod.snd := by rw [← hcs]; exact List.mem_map_of_mem hx
    obtain ⟨y, hy, e⟩ := List.mem_map.mp this
    rw [← e]; exact hlen y hy
  have hsw : ∀ z ∈ ps.map Prod.snd, z.length ≤ 6 := fun z hz => by
    obtain ⟨y, hy, e⟩ := List.mem_map.mp hz
    have := hlen y hy; rw [← e]; omega
  have hjL := joinL_len _ 6 hsw
  have hjR := joinR_len _ 6 hsw
  rw [List.length_map] at hjL hjR
  refine seq_step (fun l' st' => l' 2 = some (.int wide) ∧ l' 8 = some (.loc B) ∧ Ext st₈ st') ?_ ?_
  · walk_at "ms"
    try simp only [g8, g9, Option.some.injEq, exists_eq_left']
    refine c_lines_joined (by omega) eC hxs (by omega) (fun x hx z => by have := hxw x hx; rw [z] at this; simp at this; omega) (fun x hx => by have := hxw x hx; omega) (by rw [hcs]; omega) ?_
    rw [hcs]
    intro f st₁₀ x₁₀ hf ef
    refine c_trimmed (by omega) ef (by omega) ?_
    intro g st₁₁ x₁₁ hg eg
    try simp only [g8, g9, Option.some.injEq, exists_eq_left']
    have xx := (x₉.trans x₁₀).trans x₁₁
    refine c_law_joined (by omega) (xx.at eB) (fun x hx => xx.at (hps x hx).1) hpn (fun x hx => by have := hlen x hx; omega) (by omega) (by omega) ?_
    intro h st₁₂ x₁₂ hh eh
    refine c_trimmed (by omega) eh (by omega) ?_
    intro o st₁₃ x₁₃ ho eo
    obtain ⟨t, ht1, ht2⟩ := eqv_rows (n := 17) (x₁₃.at (x₁₂.at eg)) eo
    have hLR := join_LR (ps.map Prod.snd) []
    rw [List.nil_append, List.nil_append] at hLR
    rw [cmp_nev ht1, ht2.mpr hLR]
    have z1 := (xx.trans x₁₂).trans x₁₃
    walk_at "mo"
    walk_at "fin"
  rintro l st₁₀ ⟨g2, g8, x₁₀⟩
  walk_at "mc"
  try simp only [g2, g8, Option.some.injEq, exists_eq_left']
  refine c_grid_right (by omega) (x₁₀.at eB) (fun x hx => x₁₀.at (hps x hx).1) (fun x hx => (hps x hx).2) hpl1 hpl2 hw1 (by omega) ?_
  intro st'
  exact q st'
end Mine

end

theorem PySem.Challenge.cw_og0272_01_holds : PySem.Challenge.rw_og0272_01.Holds := by
  exact Mine.entry fun ns h => Mine.c_law (by decide) h fun _ => rfl
