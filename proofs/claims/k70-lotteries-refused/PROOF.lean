import PyProof.Rows.All
import Wide.All
import OpenK.AllK
import Wide.FinOn
import PyProof.P3Statements
import PyProof.ReprReads
import KE.LtData
import HandS.Base
import HandS.Call
import HandS.List
import HandS.Comp
import HandS.Exc
import HandS.Nested
import KE.DataEq
import HandS.TupAny
import HandS.TupMul
import HandS.Style
import HandS.IsInst
import HandS.Conv
import HandS.Evl
import HandS.Dict
import KE.DataAny
import KE.KTupSum
import PyProof.ReprRoads
import HandS.More
import HandS.Flow
import HandS.Iter
import HandS.Zip
import KE.GoesEnum
import HandS.NoneIn
import HandS.ExcCtx
import HandS.HotCalls
import HandS.TryMany
import HandS.ExcField
import HandS.ExcIs
import HandS.ExcInit
import HandS.ExcBuiltin
import HandS.ExcValue
import HandS.ExcInitHot
import KE.KExcIs
import KE.KDictZip
import KE.GoesZip
import KE.SortData
import KE.OsSortAny
import KE.KSortAsk
import HandS.HeadHook4
import HandS.HeadWalk
import HandS.MakeKw
import HandS.Codes
import HandS.EndTab
import HandS.EndBits
import HandS.Head2
import HandS.HeadEnd
import KE.KStateDown
import HandS.Head0
import HandS.Head1
import PySem.Challenge.RW_eachplayed_k70_lotteries_refused
section
set_option Elab.async false
set_option linter.all false
set_option maxRecDepth 100000
/-! THE EVALUATOR: a small functional language for the Python subset, its values, its store. -/
namespace Ev
noncomputable section
open PySem

/-- a value: data inline, lists and the like by their place in the store -/
inductive D where
  | non
  | bl (b : Bool)
  | int (i : Int)
  | str (s : Str)
  | tup (xs : List D)
  | ref (l : Nat)
  | fn (i : Nat)
  | cls (i : Nat)
  | ty (i : Nat)
  deriving Inhabited

/-- what stands at a place -/
inductive O where
  | lst (xs : List D)
  | dic (kvs : List (D × D))
  | clo (i : Nat) (cs : List Nat)
  | cel (v : Option D)
  | hid
  | exn (c : Nat) (fs : List (Str × D))
  | opq
  | scr
  | scF
  deriving Inhabited

/-- a table by numbers -/
inductive T (α : Type) where
  | lf
  | nd (v : Option α) (l r : T α)
  deriving Inhabited
noncomputable def T.get {α : Type} (t : T α) : Nat → Option α := T.rec (motive := fun _ => Nat → Option α) (fun _ => none) (fun v _ _ gl gr k => Bool.rec (Bool.rec (gr (Nat.sub (Nat.div k 2) 1)) (gl (Nat.div k 2)) (Nat.beq (Nat.mod k 2) 1)) v (Nat.beq k 0)) t
theorem T.get_lf {α : Type} (k : Nat) : (T.lf : T α).get k = none := rfl
theorem T.get_nd {α : Type} (v : Option α) (l r : T α) (k : Nat) : (T.nd v l r).get k = match Nat.beq k 0 with
    | true => v
    | false => match Nat.beq (Nat.mod k 2) 1 with
      | true => l.get (Nat.div k 2)
      | false => r.get (Nat.sub (Nat.div k 2) 1) := by
  unfold T.get
  dsimp only
  cases Nat.beq k 0 <;> cases Nat.beq (Nat.mod k 2) 1 <;> rfl
noncomputable def T.put {α : Type} (t : T α) : Nat → α → T α := T.rec (motive := fun _ => Nat → α → T α) (fun k o => Bool.rec .lf (.nd (some o) .lf .lf) (Nat.beq k 0)) (fun v l r pl pr k o => Bool.rec (Bool.rec (.nd v l (pr (Nat.sub (Nat.div k 2) 1) o)) (.nd v (pl (Nat.div k 2) o) r) (Nat.beq (Nat.mod k 2) 1)) (.nd (some o) l r) (Nat.beq k 0)) t
theorem T.put_lf {α : Type} (k : Nat) (o : α) : (T.lf : T α).put k o = match Nat.beq k 0 with
    | true => .nd (some o) .lf .lf
    | false => .lf := by
  unfold T.put
  dsimp only
  cases Nat.beq k 0 <;> rfl
theorem T.put_nd {α : Type} (v : Option α) (l r : T α) (k : Nat) (o : α) : (T.nd v l r).put k o = match Nat.beq k 0 with
    | true => .nd (some o) l r
    | false => match Nat.beq (Nat.mod k 2) 1 with
      | true => .nd v (l.put (Nat.div k 2) o) r
      | false => .nd v l (r.put (Nat.sub (Nat.div k 2) 1) o) := by
  unfold T.put
  dsimp only
  cases Nat.beq k 0 <;> cases Nat.beq (Nat.mod k 2) 1 <;> rfl
/- as T.put, to be printed -/
def T.putC {α : Type} : T α → Nat → α → T α
  | .lf, k, o => match Nat.beq k 0 with
    | true => .nd (some o) .lf .lf
    | false => .lf
  | .nd v l r, k, o => match Nat.beq k 0 with
    | true => .nd (some o) l r
    | false => match Nat.beq (Nat.mod k 2) 1 with
      | true => .nd v (l.putC (Nat.div k 2) o) r
      | false => .nd v l (r.putC (Nat.sub (Nat.div k 2) 1) o)
theorem T.putC_eq {α : Type} : ∀ (t : T α) (k : Nat) (o : α), t.putC k o = t.put k o
  | .lf, k, o => by rw [T.put_lf]; rfl
  | .nd v l r, k, o => by
    rw [T.put_nd, ← T.putC_eq l, ← T.putC_eq r]
    rfl
def T.ofL {α : Type} (xs : List α) : T α := (xs.foldl (fun (p : Nat × T α) x => (p.1 + 1, p.2.putC p.1 x)) (0, .lf)).2

theorem T.ofL_eq {α : Type} (xs : List α) : T.ofL xs = (xs.foldl (fun (p : Nat × T α) x => (p.1 + 1, p.2.put p.1 x)) (0, .lf)).2 := by
  unfold T.ofL
  have e : (fun (p : Nat × T α) (x : α) => (p.1 + 1, p.2.putC p.1 x)) = fun p x => (p.1 + 1, p.2.put p.1 x) := funext fun p => funext fun x => by rw [T.putC_eq]
  rw [e]
/-- the store: how many places were given out, what stands there -/
structure St where
  n : Nat
  t : T O
  deriving Inhabited
def St.get (S : St) (l : Nat) : Option O := S.t.get l
def St.put (S : St) (l : Nat) (o : O) : St := ⟨S.n, S.t.put l o⟩
def St.new (S : St) (o : O) : St := ⟨Nat.succ S.n, S.t.put S.n o⟩

inductive Res (α : Type) where
  | ok (v : α) (S : St)
  | exc (c : Nat) (fs : List (Str × D)) (S : St)
  | draw (n : Nat) (k : Nat → Res α)
  | fail
  deriving Inhabited
noncomputable def Res.bind {α β : Type} (r : Res α) (f : α → St → Res β) : Res β := Res.rec (motive := fun _ => Res β) (fun v S => f v S) (fun c fs S => .exc c fs S) (fun n _ ih => .draw n ih) .fail r
theorem Res.bind_ok {α β : Type} (v : α) (S : St) (f : α → St → Res β) : (Res.ok v S).bind f = f v S := rfl
theorem Res.bind_fail {α β : Type} (f : α → St → Res β) : (Res.fail : Res α).bind f = .fail := rfl
/-- names' places -/
inductive Sl where
  | no
  | vl (d : D)
  | ce (l : Nat)
  | ex (c : Nat) (fs : List (Str × D))
  deriving Inhabited
abbrev Env := List Sl

/-- what a primitive is -/
inductive Pr where
  | add | sub | mul | fdiv | mod | pow | neg | not_
  | eq | ne | lt | le | gt | ge | is_ | isnot | in_ | notin
  | tup | lst | dic
  | idx | sl00 | sl01 | sl10 | sl11 | slr
  | len | isi | tuple | list | all | any | sum | sorted | int | abs | max1 | min1 | max2 | min2 | repr | lenset | dict | divmod
  | append | extend | pop0 | popAt | index | count | get2 | setIdx
  | fld (f : Str)
  | tR1 | tR2 | lR1 | lR2 | dzip | truth
  deriving Inhabited

/-- an argument of a def: the i-th that was given, or a default -/
inductive Ar where
  | at_ (i : Nat)
  | df (d : D)
  deriving Inhabited

mutual
inductive CE where
  | lit (d : D)
  | var (i : Nat)
  | pr (p : Pr) (es : List CE)
  | and (a b : CE)
  | or (a b : CE)
  | ife (c a b : CE)
  | chn (p q : Pr) (a b c : CE)
  | call (f : Nat) (es : List CE) (ps : List Ar)
  | cal (f : CE) (es : List CE)
  | comp (t : Tg) (s : Src) (ifs : List CE) (e : CE) (own : List Nat)
  | srt (a k : CE)
  | lam (i : Nat) (cs : List Nat)
  | mk (c : Nat) (es : List CE) (ps : List Ar)
  | drw (p n : CE)
  | pot (s k : CE)
  | exf (i : Nat) (f : Str)
  | exi (i : Nat) (cs : List D)
  | met (p : Pr) (o : CE) (es : List CE)
  | gt2 (o a b : CE)
inductive Tg where
  | nm (i : Nat)
  | tp (ts : List Tg)
  | sb (o i : CE)
inductive Src where
  | val (e : CE)
  | rng1 (a : CE)
  | rng2 (a b : CE)
  | rng3 (a b c : CE)
  | enm (e : CE)
  | zip (a b : CE)
end
instance : Inhabited CE := ⟨.lit .non⟩
instance : Inhabited Tg := ⟨.nm 0⟩
instance : Inhabited Src := ⟨.val default⟩

inductive CS where
  | asg (t : Tg) (e : CE)
  | aug (i : Nat) (p : Pr) (e : CE)
  | exp (e : CE)
  | ife (c : CE) (a b : List CS)
  | whl (c : CE) (b : List CS)
  | for_ (t : Tg) (s : Src) (b : List CS)
  | ret (e : CE)
  | rse (c : Nat) (es : List CE) (ps : List Ar)
  | try_ (b : List CS) (hs : List (Nat × Option Nat × List CS))
  | brk | cnt | pass
  deriving Inhabited

/-- a statement's end -/
inductive SO where
  | nx (v : Env)
  | rt (d : D) (v : Env)
  | bk (v : Env)
  | ct (v : Env)
  | xc (c : Nat) (fs : List (Str × D)) (v : Env)
  deriving Inhabited

structure Df where
  np : Nat
  ns : Nat
  cells : List Nat
  body : List CS
  fin : Option CE
  deriving Inhabited
structure Lm where
  np : Nat
  ns : Nat
  body : CE
  deriving Inhabited
/-- the program: defs, lambdas; is the class i below the class | type j; a class's fields by place -/
structure Pg where
  defs : T Df
  lams : T Lm
  below : Nat → Nat → Option Bool
  flds : T (List Str)
  deriving Inhabited

inductive Fn where
  | df (i : Nat)
  | lm (i : Nat) (cs : List Nat)

/-! ### data -/
noncomputable def mapO {α β : Type} (f : α → Option β) (xs : List α) : Option (List β) := List.rec (motive := fun _ => Option (List β)) (some []) (fun x _ ih => Option.rec none (fun y => Option.rec none (fun ys => some (y :: ys)) ih) (f x)) xs
theorem mapO_nil {α β : Type} (f : α → Option β) : mapO f [] = some [] := rfl
theorem mapO_cons {α β : Type} (f : α → Option β) (x : α) (xs : List α) : mapO f (x :: xs) = match f x with
    | some y => match mapO f xs with
      | some ys => some (y :: ys)
      | none => none
    | none => none := by
  unfold mapO
  dsimp only
  cases f x with
  | none => rfl
  | some y =>
    dsimp only
    generalize List.rec (motive := fun _ => Option (List β)) _ _ xs = r
    cases r <;> rfl
/-- as data; dc: empty dicts are let -/
def pd (dc : Bool) (S : St) : Nat → D → Option PyData
  | _, .int i => some (.int i)
  | _, .str s => some (.str s)
  | _, .non => some .none
  | _, .bl b => some (.bool b)
  | n + 1, .tup xs => match mapO (pd dc S n) xs with
    | some ys => some (.tuple ys)
    | none => none
  | n + 1, .ref l => match S.get l with
    | some (.lst xs) => match mapO (pd dc S n) xs with
      | some ys => some (.list ys)
      | none => none
    | some (.dic []) => match dc with
      | true => some (.dict [])
      | false => none
    | _ => none
  | _, _ => none
def fuelD : Nat := 20
/-- two texts, sign by sign -/
def eqZ (xs : List Nat) : List Nat → Bool := List.rec (motive := fun _ => List Nat → Bool) (fun ys => List.rec (motive := fun _ => Bool) true (fun _ _ _ => false) ys) (fun x _ ih ys => List.rec (motive := fun _ => Bool) false (fun y ys _ => Bool.rec false (ih ys) (Nat.beq x y)) ys) xs
theorem eqZ_eq : ∀ xs ys : List Nat, eqZ xs ys = decide (xs = ys)
  | [], [] => rfl
  | [], y :: ys => by show false = _; simp
  | x :: xs, [] => by show false = _; simp
  | x :: xs, y :: ys => by
    show Bool.rec (motive := fun _ => Bool) false (eqZ xs ys) (Nat.beq x y) = _
    rw [eqZ_eq xs ys]
    cases e : Nat.beq x y with
    | true =>
      have e := Nat.eq_of_beq_eq_true e
      subst e
      simp
    | false =>
      have e := Nat.ne_of_beq_eq_false e
      simp [e]
def eqS (a b : Str) : Bool := eqZ a.cps.toList b.cps.toList
theorem eqS_eq (a b : Str) : eqS a b = decide (a = b) := by
  unfold eqS
  rw [eqZ_eq]
  obtain ⟨⟨a⟩⟩ := a
  obtain ⟨⟨b⟩⟩ := b
  simp
mutual
def eqF : PyData → PyData → Bool
  | .str x, .str y => eqS x y
  | .list xs, .list ys => eqFs xs ys
  | .tuple xs, .tuple ys => eqFs xs ys
  | .int i, .int j => i == j
  | x, y => PyData.eqv x y
def eqFs : List PyData → List PyData → Bool
  | [], [] => true
  | x :: xs, y :: ys => match eqF x y with
    | true => eqFs xs ys
    | false => false
  | _, _ => false
end
mutual
theorem eqF_eq : ∀ x y : PyData, eqF x y = PyData.eqv x y
  | .str x, y => by
    cases y with
    | str y => unfold eqF PyData.eqv; rw [eqS_eq]; rfl
    | _ => unfold eqF; rfl
  | .list xs, y => by
    cases y with
    | list ys => unfold eqF PyData.eqv; exact eqFs_eq xs ys
    | _ => unfold eqF; rfl
  | .tuple xs, y => by
    cases y with
    | tuple ys => unfold eqF PyData.eqv; exact eqFs_eq xs ys
    | _ => unfold eqF; rfl
  | .int i, y => by
    cases y with
    | int j => unfold eqF PyData.eqv; rfl
    | _ => unfold eqF; rfl
  | .none, y => by unfold eqF; rfl
  | .bool _, y => by unfold eqF; rfl
  | .dict _, y => by unfold eqF; rfl
theorem eqFs_eq : ∀ xs ys : List PyData, eqFs xs ys = PyData.eqvAll xs ys
  | [], [] => by unfold eqFs PyData.eqvAll; rfl
  | [], _ :: _ => by unfold eqFs PyData.eqvAll; rfl
  | _ :: _, [] => by unfold eqFs PyData.eqvAll; rfl
  | x :: xs, y :: ys => by
    unfold eqFs PyData.eqvAll
    rw [eqF_eq x y, eqFs_eq xs ys]
    cases PyData.eqv x y <;> rfl
end
/-! ### texts, sign by sign -/
def digG (f : Nat) : Nat → List Nat → List Nat := Nat.rec (motive := fun _ => Nat → List Nat → List Nat) (fun _ t => t) (fun _ ih n t => Nat.rec (motive := fun _ => List Nat) (Nat.add 48 (Nat.mod n 10) :: t) (fun _ _ => ih (Nat.div n 10) (Nat.add 48 (Nat.mod n 10) :: t)) (Nat.div n 10)) f
theorem digit_n : ∀ n : Nat, n < 10 → (Nat.digitChar n).toNat = 48 + n := by decide
theorem digG_eq : ∀ (f n : Nat) (ds : List Char), (Nat.toDigitsCore 10 f n ds).map Char.toNat = digG f n (ds.map Char.toNat)
  | 0, n, ds => rfl
  | f + 1, n, ds => by
    unfold Nat.toDigitsCore
    show _ = Nat.rec (motive := fun _ => List Nat) _ _ (n / 10)
    have d : (Nat.digitChar (n % 10)).toNat = Nat.add 48 (Nat.mod n 10) := digit_n _ (Nat.mod_lt _ (by decide))
    cases e : n / 10 with
    | zero =>
      dsimp only
      rw [if_pos rfl, List.map_cons, d]
      rfl
    | succ m =>
      dsimp only
      rw [if_neg (Nat.succ_ne_zero m), digG_eq f (m + 1), List.map_cons, d]
      show _ = digG f (n / 10) _
      rw [e]
def digT (n : Nat) (t : List Nat) : List Nat := match Nat.ble n 9 with
  | true => Nat.add 48 n :: t
  | false => digG (Nat.succ n) n [] ++ t
theorem digT_eq (n : Nat) (t : List Nat) : digT n t = (Nat.toDigits 10 n).map Char.toNat ++ t := by
  have k : (Nat.toDigits 10 n).map Char.toNat = digG (n + 1) n [] := digG_eq (n + 1) n []
  unfold digT
  cases e : Nat.ble n 9 with
  | false => rw [k]
  | true =>
    have h : n ≤ 9 := Nat.le_of_ble_eq_true e
    have m : n % 10 = n := Nat.mod_eq_of_lt (by omega)
    have q : n / 10 = 0 := Nat.div_eq_of_lt (by omega)
    rw [k]
    show _ = Nat.rec (motive := fun _ => List Nat) _ _ (n / 10) ++ t
    rw [q]
    show Nat.add 48 n :: t = Nat.add 48 (n % 10) :: ([] ++ t)
    rw [m]
    rfl
def plainC (q c : Nat) : Bool := match Nat.ble 32 c with
  | true => match Nat.ble c 126 with
    | true => match Nat.beq c q with
      | true => false
      | false => match Nat.beq c 92 with
        | true => false
        | false => true
    | false => false
  | false => false
theorem printable_n : ∀ c : Nat, c < 127 → 32 ≤ c → Unicode.isPrintable c = true := by decide +kernel
theorem plainC_ok {q c : Nat} (h : plainC q c = true) : Builtin.Str.reprChar q c = [c] := by
  unfold plainC at h
  split at h
  · rename_i h1
    split at h
    · rename_i h2
      split at h
      · exact nomatch h
      · rename_i h3
        split at h
        · exact nomatch h
        · rename_i h4
          have h1 := Nat.le_of_ble_eq_true h1
          have h2 := Nat.le_of_ble_eq_true h2
          have h3 := Nat.ne_of_beq_eq_false h3
          have h4 := Nat.ne_of_beq_eq_false h4
          unfold Builtin.Str.reprChar
          have p := printable_n c (by omega) h1
          have a : (c == q || c == 92) = false := by simp [h3, h4]
          have b : (c == 10) = false := by simp; omega
          have b2 : (c == 13) = false := by simp; omega
          have b3 : (c == 9) = false := by simp; omega
          simp only [a, b, b2, b3, p]
          simp
    · exact nomatch h
  · exact nomatch h
def reprGo (q : Nat) (xs : List Nat) (t : List Nat) : List Nat := List.rec (motive := fun _ => List Nat) t (fun c _ ih => Bool.rec (motive := fun _ => List Nat) (Builtin.Str.reprChar q c ++ ih) (c :: ih) (plainC q c)) xs
theorem reprGo_eq (q : Nat) (t : List Nat) : ∀ xs : List Nat, reprGo q xs t = xs.flatMap (Builtin.Str.reprChar q) ++ t
  | [] => rfl
  | c :: xs => by
    show Bool.rec (motive := fun _ => List Nat) (Builtin.Str.reprChar q c ++ reprGo q xs t) (c :: reprGo q xs t) (plainC q c) = _
    rw [reprGo_eq q t xs, List.flatMap_cons, List.append_assoc]
    cases e : plainC q c with
    | false => rfl
    | true =>
      rw [plainC_ok e]
      rfl
theorem fold_l {f : Nat → List Nat} : ∀ (l : List Nat) (acc : Array Nat), (l.foldl (fun out c => out ++ (f c).toArray) acc).toList = acc.toList ++ l.flatMap f
  | [], acc => by simp
  | c :: r, acc => by
    rw [List.foldl_cons, fold_l r]
    simp
def hasN (n : Nat) (xs : List Nat) : Bool := List.rec (motive := fun _ => Bool) false (fun c _ ih => Bool.rec (motive := fun _ => Bool) ih true (Nat.beq c n)) xs
theorem hasN_eq (n : Nat) : ∀ xs : List Nat, hasN n xs = xs.contains n
  | [] => rfl
  | c :: xs => by
    show Bool.rec (motive := fun _ => Bool) (hasN n xs) true (Nat.beq c n) = _
    rw [hasN_eq n xs, List.contains_cons]
    cases e : Nat.beq c n with
    | true => rw [Nat.eq_of_beq_eq_true e]; simp
    | false =>
      have z : (n == c) = false := by
        have := Nat.ne_of_beq_eq_false e
        simp; omega
      rw [z]; rfl
def quoteL (xs : List Nat) : Nat := match hasN 39 xs with
  | false => 39
  | true => match hasN 34 xs with
    | true => 39
    | false => 34
theorem quoteL_eq (x : Str) : quoteL x.cps.toList = reprQuote x := by
  unfold quoteL reprQuote
  rw [hasN_eq, hasN_eq, ← Array.contains_toList, ← Array.contains_toList]
  cases x.cps.toList.contains 39 <;> cases x.cps.toList.contains 34 <;> rfl
def reprT (xs : List Nat) (t : List Nat) : List Nat := quoteL xs :: reprGo (quoteL xs) xs (quoteL xs :: t)
theorem reprT_eq (x : Str) (t : List Nat) : reprT x.cps.toList t = (reprText x).cps.toList ++ t := by
  unfold reprT reprText
  rw [quoteL_eq, reprGo_eq, Array.toList_push, ← Array.foldl_toList, fold_l]
  simp
mutual
/-- a value's text, ahead of t -/
def shT : PyData → List Nat → List Nat
  | .none, t => 78 :: 111 :: 110 :: 101 :: t
  | .bool b, t => match b with
    | true => 84 :: 114 :: 117 :: 101 :: t
    | false => 70 :: 97 :: 108 :: 115 :: 101 :: t
  | .int i, t => match i with
    | .ofNat m => digT m t
    | .negSucc m => 45 :: digT (Nat.succ m) t
  | .str x, t => reprT x.cps.toList t
  | .list xs, t => 91 :: shsT xs (93 :: t)
  | .tuple xs, t => 40 :: shsT xs (match xs with
    | [_] => 44 :: 41 :: t
    | _ => 41 :: t)
  | .dict kvs, t => (PyData.shown (.dict kvs)).cps.toList ++ t
def shsT : List PyData → List Nat → List Nat
  | [], t => t
  | x :: xs, t => shT x (shsU xs t)
def shsU : List PyData → List Nat → List Nat
  | [], t => t
  | x :: xs, t => 44 :: 32 :: shT x (shsU xs t)
end
theorem lit_l {x : Str} {xs : List Nat} (h : x.cps.toList = xs) (t : List Nat) : xs ++ t = x.cps.toList ++ t := by rw [h]
theorem app_l (a b : Str) : (a ++ b).cps.toList = a.cps.toList ++ b.cps.toList := Array.toList_append
theorem from_l : ∀ (ts : List Str) (k : Nat) (acc : Str), (textFrom (k + 1) acc ts).cps.toList = acc.cps.toList ++ ts.flatMap fun x => 44 :: 32 :: x.cps.toList
  | [], k, acc => by simp [textFrom]
  | x :: ts, k, acc => by
    show (textFrom (k + 1 + 1) (acc ++ (if k + 1 > 0 then ", " else "" : String) ++ x) ts).cps.toList = _
    rw [from_l ts (k + 1), app_l, app_l, if_pos (Nat.succ_pos k), List.flatMap_cons]
    have e : (Str.ofString ", ").cps.toList = [44, 32] := by decide +kernel
    rw [e]
    simp
theorem join_l : ∀ (x : Str) (ts : List Str), (Str.join ", " (x :: ts)).cps.toList = x.cps.toList ++ ts.flatMap fun x => 44 :: 32 :: x.cps.toList
  | x, [] => by simp [Str.join]
  | x, y :: ts => by
    show (x ++ Str.ofString ", " ++ Str.join ", " (y :: ts)).cps.toList = _
    rw [app_l, app_l, join_l y ts, List.flatMap_cons]
    have e : (Str.ofString ", ").cps.toList = [44, 32] := by decide +kernel
    rw [e]
    simp
theorem neg_l (s : String) : (Str.ofString ("-" ++ s)).cps.toList = 45 :: (Str.ofString s).cps.toList := by
  rw [Str.ofString_eq_toList, Str.ofString_eq_toList]
  simp
mutual
theorem shT_eq : ∀ (d : PyData) (t : List Nat), shT d t = (PyData.shown d).cps.toList ++ t
  | .none, t => by
    unfold shT PyData.shown
    exact lit_l (x := Str.ofString "None") (xs := [78, 111, 110, 101]) (by decide +kernel) t
  | .bool true, t => by
    unfold shT PyData.shown
    exact lit_l (x := Str.ofString "True") (xs := [84, 114, 117, 101]) (by decide +kernel) t
  | .bool false, t => by
    unfold shT PyData.shown
    exact lit_l (x := Str.ofString "False") (xs := [70, 97, 108, 115, 101]) (by decide +kernel) t
  | .int (.ofNat m), t => by
    unfold shT PyData.shown
    dsimp only
    rw [PyProof.Rows.text_ofNat, digT_eq]
  | .int (.negSucc m), t => by
    unfold shT PyData.shown
    dsimp only
    have e : toString (Int.negSucc m) = "-" ++ toString (Int.ofNat (Nat.succ m)) := rfl
    rw [e, neg_l, PyProof.Rows.text_ofNat, digT_eq]
    rfl
  | .str x, t => by
    unfold shT PyData.shown
    exact reprT_eq x t
  | .list xs, t => by
    unfold shT PyData.shown listText
    have z : (Str.ofString "[").cps.toList = [91] := by decide +kernel
    have z2 : (Str.ofString "]").cps.toList = [93] := by decide +kernel
    rw [shsT_eq xs]
    cases xs with
    | nil =>
      unfold PyData.shownAll textFrom
      rw [app_l, z, z2]
      rfl
    | cons x xs =>
      unfold PyData.shownAll
      dsimp only
      show _ = (textFrom (0 + 1) (Str.ofString "[" ++ Str.ofString "" ++ PyData.shown x) (PyData.shownAll xs) ++ Str.ofString "]").cps.toList ++ t
      rw [app_l, from_l, app_l, app_l, z, z2]
      have z3 : (Str.ofString "").cps.toList = [] := by decide +kernel
      rw [z3]
      simp
  | .tuple xs, t => by
    unfold shT PyData.shown tupleText
    have z : (Str.ofString "(").cps.toList = [40] := by decide +kernel
    have z2 : (Str.ofString ")").cps.toList = [41] := by decide +kernel
    have z3 : (Str.ofString ",)").cps.toList = [44, 41] := by decide +kernel
    rw [shsT_eq xs, app_l, app_l, z]
    match xs with
    | [] =>
      unfold PyData.shownAll
      show _ = [40] ++ (Str.join ", " []).cps.toList ++ (Str.ofString ")").cps.toList ++ t
      rw [z2]
      rfl
    | [x] =>
      unfold PyData.shownAll
      show _ = [40] ++ (Str.join ", " [PyData.shown x]).cps.toList ++ (Str.ofString ",)").cps.toList ++ t
      rw [z3, join_l]
      simp [PyData.shownAll]
    | x :: y :: r =>
      show _ = [40] ++ (Str.join ", " (PyData.shownAll (x :: y :: r))).cps.toList ++ (Str.ofString ")").cps.toList ++ t
      rw [z2]
      unfold PyData.shownAll
      rw [join_l]
      simp
  | .dict kvs, t => by unfold shT; rfl
theorem shsT_eq : ∀ (xs : List PyData) (t : List Nat), shsT xs t = (match PyData.shownAll xs with
    | [] => t
    | x :: r => x.cps.toList ++ (r.flatMap (fun x => 44 :: 32 :: x.cps.toList) ++ t))
  | [], t => by unfold shsT PyData.shownAll; rfl
  | x :: xs, t => by
    unfold shsT PyData.shownAll
    dsimp only
    rw [shT_eq x, shsU_eq xs]
theorem shsU_eq : ∀ (xs : List PyData) (t : List Nat), shsU xs t = (PyData.shownAll xs).flatMap (fun x => 44 :: 32 :: x.cps.toList) ++ t
  | [], t => by unfold shsU PyData.shownAll; rfl
  | x :: xs, t => by
    unfold shsU PyData.shownAll
    rw [shT_eq x, shsU_eq xs, List.flatMap_cons]
    simp
end
def shownF (d : PyData) : Str := ⟨⟨shT d []⟩⟩
theorem shownF_eq (d : PyData) : shownF d = PyData.shown d := by
  unfold shownF
  rw [shT_eq, List.append_nil]
def eqD (S : St) : D → D → Option Bool
  | .int i, .int j => some (decide (i = j))
  | .str i, .str j => some (eqS i j)
  | a, b => match pd false S fuelD a, pd false S fuelD b with
    | some x, some y => some (eqF x y)
    | _, _ => none
def anyEq (d : PyData) : List PyData → Bool
  | [] => false
  | x :: xs => match eqF x d with
    | true => true
    | false => anyEq d xs
/-- the place of d -/
def findEq (d : PyData) : List PyData → Nat → Option Nat
  | [], _ => none
  | x :: xs, i => match PyData.eqv x d with
    | true => some i
    | false => findEq d xs (Nat.succ i)
def countEq (d : PyData) : List PyData → Nat
  | [] => 0
  | x :: xs => match PyData.eqv x d with
    | true => Nat.succ (countEq d xs)
    | false => countEq d xs
mutual
/-- x < y, for alike data (none: not alike) -/
def ltD (S : St) : Nat → D → D → Option Bool
  | 0, _, _ => none
  | _ + 1, .int i, .int j => some (decide (i < j))
  | _ + 1, .str i, .str j => some (decide (i.cps.toList < j.cps.toList))
  | _ + 1, .bl i, .bl j => some (!i && j)
  | _ + 1, .non, .non => some false
  | n + 1, .tup xs, .tup ys => ltDs S n xs ys
  | n + 1, .ref l, .ref m => match S.get l, S.get m with
    | some (.lst xs), some (.lst ys) => ltDs S n xs ys
    | _, _ => none
  | _ + 1, _, _ => none
def ltDs (S : St) : Nat → List D → List D → Option Bool
  | 0, _, _ => none
  | _ + 1, [], [] => some false
  | _ + 1, [], _ :: _ => some true
  | _ + 1, _ :: _, [] => some false
  | n + 1, x :: xs, y :: ys => match ltD S n x y with
    | none => none
    | some true => some true
    | some false => match ltD S n y x with
      | none => none
      | some true => some false
      | some false => ltDs S n xs ys
end
/-- put x behind all that are not above it -/
def ins (S : St) (x : D × D) : List (D × D) → Option (List (D × D))
  | [] => some [x]
  | y :: ys => match ltD S fuelD x.1 y.1 with
    | some true => some (x :: y :: ys)
    | some false => match ins S x ys with
      | some r => some (y :: r)
      | none => none
    | none => none
def isort (S : St) : List (D × D) → List (D × D) → Option (List (D × D))
  | [], acc => some acc
  | x :: xs, acc => match ins S x acc with
    | some r => isort S xs r
    | none => none
def dedup : List PyData → List PyData → List PyData
  | [], acc => acc
  | x :: xs, acc => match anyEq x acc with
    | true => dedup xs acc
    | false => dedup xs (x :: acc)
def keyEq : D → D → Bool
  | .int i, .int j => decide (i = j)
  | .str i, .str j => decide (i = j)
  | _, _ => false
def isKey : D → Bool
  | .int _ => true
  | .str _ => true
  | _ => false
def lookD (d : D) : List (D × D) → Option D
  | [] => none
  | (k, v) :: r => match keyEq k d with
    | true => some v
    | false => lookD d r
def hasD (d : D) : List (D × D) → Bool
  | [] => false
  | (k, _) :: r => match keyEq k d with
    | true => true
    | false => hasD d r
def overD (d v : D) : List (D × D) → List (D × D)
  | [] => []
  | (k, x) :: r => match keyEq k d with
    | true => (k, v) :: overD d v r
    | false => (k, x) :: overD d v r
def putD (d v : D) (kvs : List (D × D)) : List (D × D) := match hasD d kvs with
  | true => overD d v kvs
  | false => kvs ++ [(d, v)]

noncomputable def nth {α : Type} (xs : List α) : Nat → Option α := List.rec (motive := fun _ => Nat → Option α) (fun _ => none) (fun x _ ih n => Nat.rec (motive := fun _ => Option α) (some x) (fun m _ => ih m) n) xs
theorem nth_z {α : Type} (x : α) (xs : List α) : nth (x :: xs) 0 = some x := rfl
theorem nth_s {α : Type} (x : α) (xs : List α) (n : Nat) : nth (x :: xs) (n + 1) = nth xs n := rfl
noncomputable def setN {α : Type} (xs : List α) : Nat → α → List α := List.rec (motive := fun _ => Nat → α → List α) (fun _ _ => []) (fun x xs ih n v => Nat.rec (motive := fun _ => List α) (v :: xs) (fun m _ => x :: ih m v) n) xs
theorem setN_z {α : Type} (x : α) (xs : List α) (v : α) : setN (x :: xs) 0 v = v :: xs := rfl
theorem setN_s {α : Type} (x : α) (xs : List α) (n : Nat) (v : α) : setN (x :: xs) (n + 1) v = x :: setN xs n v := rfl
def delN {α : Type} : List α → Nat → List α
  | [], _ => []
  | _ :: xs, 0 => xs
  | x :: xs, n + 1 => x :: delN xs n
noncomputable def lenN {α : Type} (xs : List α) : Nat := List.rec (motive := fun _ => Nat) 0 (fun _ _ ih => Nat.succ ih) xs
theorem lenN_nil {α : Type} : lenN ([] : List α) = 0 := rfl
theorem lenN_cons {α : Type} (x : α) (xs : List α) : lenN (x :: xs) = Nat.succ (lenN xs) := rfl
/-- the place of an index -/
def ixOf (i : Int) (n : Nat) : Option Nat := match i with
  | .ofNat k => match Nat.blt k n with
    | true => some k
    | false => none
  | .negSucc k => match Nat.blt k n with
    | true => some (Nat.sub n (Nat.succ k))
    | false => none
/-- a slice's end -/
def cutAt (i : Int) (n : Nat) : Nat := match i with
  | .ofNat k => Nat.min k n
  | .negSucc k => Nat.sub n (Nat.succ k)
def cut (xs : List D) (lo hi : Nat) : List D := (xs.drop lo).take (hi - lo)

/-- a list, a tuple as items -/
def items (S : St) : D → Option (List D)
  | .tup xs => some xs
  | .ref l => match S.get l with
    | some (.lst xs) => some xs
    | _ => none
  | _ => none
def truth (S : St) : D → Option Bool
  | .non => some false
  | .bl b => some b
  | .int i => some (match i with | .ofNat 0 => false | _ => true)
  | .str s => some (match s.cps.toList with | [] => false | _ => true)
  | .tup xs => some (match xs with | [] => false | _ => true)
  | .ref l => match S.get l with
    | some (.lst xs) => some (match xs with | [] => false | _ => true)
    | some (.dic xs) => some (match xs with | [] => false | _ => true)
    | _ => none
  | _ => none

def fits {α : Type} (xs : List α) : Bool := Nat.ble (lenN xs) 100000
def mkL (xs : List D) (S : St) : Res D := .ok (.ref S.n) (S.new (.lst xs))
def rng (lo : Int) : Nat → List D
  | 0 => []
  | n + 1 => .int lo :: rng (lo + 1) n
def big : Int := 18446744073709551616
def small (i : Int) : Bool := match i with
  | .ofNat n => Nat.blt n 18446744073709551616
  | .negSucc n => Nat.blt n 18446744073709551615
def small62 (i : Int) : Bool := match i with
  | .ofNat n => Nat.blt n 4611686018427387904
  | .negSucc n => Nat.blt n 4611686018427387904
def okB (o : Option Bool) (S : St) : Res D := match o with
  | some b => .ok (.bl b) S
  | none => .fail
def tyOf (S : St) : D → Option Nat
  | .non => some 100
  | .bl _ => some 101
  | .int _ => some 102
  | .str _ => some 103
  | .tup _ => some 104
  | .ref l => match S.get l with
    | some (.lst _) => some 105
    | some (.dic _) => some 106
    | _ => none
  | _ => none
def bIs (t u : Nat) : Option Bool := match Nat.ble 100 t && Nat.ble t 106 && Nat.ble 101 u && Nat.ble u 106 with
  | true => some (Nat.beq t u || (Nat.beq t 101 && Nat.beq u 102))
  | false => none
def isOne (G : Pg) (t : Nat) : D → Option Bool
  | .ty u => match Nat.ble 100 t with
    | true => bIs t u
    | false => match Nat.ble 100 u with
      | true => G.below t u
      | false => none
  | .cls u => match Nat.ble 100 t with
    | true => none
    | false => match Nat.ble 100 u with
      | true => none
      | false => G.below t u
  | _ => none
def hasS (f : Str) : List Str → Bool
  | [] => false
  | g :: r => match decide (g = f) with
    | true => true
    | false => hasS f r
def clsD : D → Bool
  | .ty _ => true
  | .cls _ => true
  | _ => false
def clsA : List D → Bool
  | [] => true
  | d :: ds => match clsD d with
    | true => clsA ds
    | false => false
def isAny (G : Pg) (t : Nat) : List D → Option Bool
  | [] => some false
  | x :: xs => match isOne G t x with
    | some true => some true
    | some false => isAny G t xs
    | none => none
/-- a bool, an int, by its truth -/
def flatB : D → Option Bool
  | .bl b => some b
  | .int i => some (match i with | .ofNat 0 => false | _ => true)
  | _ => none
def allL : List Bool → Bool
  | [] => true
  | b :: bs => match b with
    | true => allL bs
    | false => false
def anyL : List Bool → Bool
  | [] => false
  | b :: bs => match b with
    | true => true
    | false => anyL bs
def intD : D → Option Int
  | .int i => some i
  | _ => none
def maxL : Int → List Int → Int
  | m, [] => m
  | m, x :: xs => match decide (m < x) with
    | true => maxL x xs
    | false => maxL m xs
def minL : Int → List Int → Int
  | m, [] => m
  | m, x :: xs => match decide (x < m) with
    | true => minL x xs
    | false => minL m xs
def sumL : List Int → Int
  | [] => 0
  | x :: xs => x + sumL xs
noncomputable def pairs (ks : List D) : List D → List (D × D) → Option (List (D × D)) := List.rec (motive := fun _ => List D → List (D × D) → Option (List (D × D))) (fun _ acc => some acc) (fun k _ ih vs acc => List.rec (some acc) (fun v vs _ => Bool.rec none (ih vs (putD k v acc)) (isKey k)) vs) ks
theorem pairs_cons (k : D) (ks : List D) (v : D) (vs : List D) (acc : List (D × D)) : pairs (k :: ks) (v :: vs) acc = match isKey k with
    | true => pairs ks vs (putD k v acc)
    | false => none := by
  show Bool.rec (motive := fun _ => Option (List (D × D))) _ _ (isKey k) = _
  cases isKey k <;> rfl
def unzip (S : St) : List D → Option (List D × List D)
  | [] => some ([], [])
  | x :: xs => match x with
    | .tup [k, v] => match unzip S xs with
      | some (ks, vs) => some (k :: ks, v :: vs)
      | none => none
    | _ => none

def p_add (G : Pg) (xs : List D) (S : St) : Res D := match xs with
  | [.int i, .int j] => .ok (.int (i + j)) S
  | [.tup a, .tup b] => match fits (a ++ b) with
    | true => .ok (.tup (a ++ b)) S
    | false => .fail
  | [.ref a, .ref b] => match S.get a, S.get b with
    | some (.lst x), some (.lst y) => match fits (x ++ y) with
      | true => mkL (x ++ y) S
      | false => .fail
    | _, _ => .fail
  | _ => .fail
def p_sub (G : Pg) (xs : List D) (S : St) : Res D := match xs with
  | [.int i, .int j] => .ok (.int (i - j)) S
  | _ => .fail
def p_mul (G : Pg) (xs : List D) (S : St) : Res D := match xs with
  | [.int i, .int j] => match small i || small j with
    | true => .ok (.int (i * j)) S
    | false => .fail
  | [.ref a, .int j] => match S.get a with
    | some (.lst x) => match decide (-1000 ≤ j) && decide (j ≤ 1000) && Nat.ble (lenN x) 100 with
      | true => mkL ((List.replicate j.toNat x).flatten) S
      | false => .fail
    | _ => .fail
  | [.tup x, .int j] => match decide (2 ≤ j) && decide (j ≤ 1000) && Nat.ble (lenN x) 100 && Nat.blt 0 (lenN x) with
    | true => .ok (.tup (List.replicate j.toNat x).flatten) S
    | false => .fail
  | _ => .fail
def p_fdiv (G : Pg) (xs : List D) (S : St) : Res D := match xs with
  | [.int i, .int j] => match decide (0 < j) && decide (j < 1073741824) with
    | true => .ok (.int (i / j)) S
    | false => .fail
  | _ => .fail
def p_mod (G : Pg) (xs : List D) (S : St) : Res D := match xs with
  | [.int i, .int j] => match decide (0 < j) with
    | true => .ok (.int (i % j)) S
    | false => .fail
  | _ => .fail
def p_pow (G : Pg) (xs : List D) (S : St) : Res D := match xs with
  | [.int i, .int j] => match small i && decide (0 ≤ j) && decide (j ≤ 1000) with
    | true => .ok (.int (i ^ j.toNat)) S
    | false => .fail
  | _ => .fail
def p_neg (G : Pg) (xs : List D) (S : St) : Res D := match xs with
  | [.int i] => .ok (.int (-i)) S
  | _ => .fail
def p_not_ (G : Pg) (xs : List D) (S : St) : Res D := match xs with
  | [x] => match truth S x with
    | some b => .ok (.bl (!b)) S
    | none => .fail
  | _ => .fail
def p_truth (G : Pg) (xs : List D) (S : St) : Res D := match xs with
  | [x] => okB (truth S x) S
  | _ => .fail
def p_eq (G : Pg) (xs : List D) (S : St) : Res D := match xs with
  | [x, y] => okB (eqD S x y) S
  | _ => .fail
def p_ne (G : Pg) (xs : List D) (S : St) : Res D := match xs with
  | [x, y] => match eqD S x y with
    | some b => .ok (.bl (!b)) S
    | none => .fail
  | _ => .fail
def p_lt (G : Pg) (xs : List D) (S : St) : Res D := match xs with
  | [.int i, .int j] => .ok (.bl (decide (i < j))) S
  | _ => .fail
def p_le (G : Pg) (xs : List D) (S : St) : Res D := match xs with
  | [.int i, .int j] => .ok (.bl (decide (i ≤ j))) S
  | _ => .fail
def p_gt (G : Pg) (xs : List D) (S : St) : Res D := match xs with
  | [.int i, .int j] => .ok (.bl (decide (j < i))) S
  | _ => .fail
def p_ge (G : Pg) (xs : List D) (S : St) : Res D := match xs with
  | [.int i, .int j] => .ok (.bl (decide (j ≤ i))) S
  | _ => .fail
def p_is_ (G : Pg) (xs : List D) (S : St) : Res D := match xs with
  | [x, y] => match y with
    | .non => .ok (.bl (match x with | .non => true | _ => false)) S
    | .bl b => match x with
      | .bl a => .ok (.bl (a == b)) S
      | _ => .fail
    | _ => .fail
  | _ => .fail
def p_isnot (G : Pg) (xs : List D) (S : St) : Res D := match xs with
  | [x, y] => match y with
    | .non => .ok (.bl (match x with | .non => false | _ => true)) S
    | .bl b => match x with
      | .bl a => .ok (.bl (!(a == b))) S
      | _ => .fail
    | _ => .fail
  | _ => .fail
def p_in_ (G : Pg) (xs : List D) (S : St) : Res D := match xs with
  | [x, y] => match items S y with
    | some ys => match pd false S fuelD x, mapO (pd false S fuelD) ys with
      | some d, some ds => .ok (.bl (anyEq d ds)) S
      | _, _ => .fail
    | none => .fail
  | _ => .fail
def p_notin (G : Pg) (xs : List D) (S : St) : Res D := match xs with
  | [x, y] => match items S y with
    | some ys => match pd false S fuelD x, mapO (pd false S fuelD) ys with
      | some d, some ds => .ok (.bl (!anyEq d ds)) S
      | _, _ => .fail
    | none => .fail
  | _ => .fail
def p_tup (G : Pg) (xs : List D) (S : St) : Res D := match fits xs with
    | true => .ok (.tup xs) S
    | false => .fail
def p_lst (G : Pg) (xs : List D) (S : St) : Res D := match fits xs with
    | true => mkL xs S
    | false => .fail
def p_dic (G : Pg) (xs : List D) (S : St) : Res D := match xs with
  | [] => .ok (.ref S.n) (S.new (.dic []))
  | _ => .fail
def p_idx (G : Pg) (xs : List D) (S : St) : Res D := match xs with
  | [x, i] => match x with
    | .ref l => match S.get l with
      | some (.dic kvs) => match isKey i with
        | true => match lookD i kvs with
          | some v => .ok v S
          | none => .fail
        | false => .fail
      | some (.lst ys) => match i with
        | .int i => match ixOf i (lenN ys) with
          | some k => match nth ys k with
            | some v => .ok v S
            | none => .fail
          | none => .fail
        | _ => .fail
      | _ => .fail
    | .tup ys => match i with
      | .int i => match ixOf i (lenN ys) with
        | some k => match nth ys k with
          | some v => .ok v S
          | none => .fail
        | none => .fail
      | _ => .fail
    | _ => .fail
  | _ => .fail
def p_sl00 (G : Pg) (xs : List D) (S : St) : Res D := match xs with
  | [.tup xs] => .ok (.tup xs) S
  | [.ref l] => match S.get l with
    | some (.lst xs) => mkL xs S
    | _ => .fail
  | _ => .fail
def p_sl10 (G : Pg) (xs : List D) (S : St) : Res D := match xs with
  | [.tup xs, .int i] => .ok (.tup (cut xs (cutAt i (lenN xs)) (lenN xs))) S
  | [.ref l, .int i] => match S.get l with
    | some (.lst xs) => mkL (cut xs (cutAt i (lenN xs)) (lenN xs)) S
    | _ => .fail
  | _ => .fail
def p_sl01 (G : Pg) (xs : List D) (S : St) : Res D := match xs with
  | [.tup xs, .int i] => .ok (.tup (cut xs 0 (cutAt i (lenN xs)))) S
  | [.ref l, .int i] => match S.get l with
    | some (.lst xs) => mkL (cut xs 0 (cutAt i (lenN xs))) S
    | _ => .fail
  | _ => .fail
def p_sl11 (G : Pg) (xs : List D) (S : St) : Res D := match xs with
  | [.tup xs, .int i, .int j] => .ok (.tup (cut xs (cutAt i (lenN xs)) (cutAt j (lenN xs)))) S
  | [.ref l, .int i, .int j] => match S.get l with
    | some (.lst xs) => mkL (cut xs (cutAt i (lenN xs)) (cutAt j (lenN xs))) S
    | _ => .fail
  | _ => .fail
def p_slr (G : Pg) (xs : List D) (S : St) : Res D := match xs with
  | [.ref l] => match S.get l with
    | some (.lst xs) => mkL xs.reverse S
    | _ => .fail
  | _ => .fail
def p_len (G : Pg) (xs : List D) (S : St) : Res D := match xs with
  | [x] => match x with
    | .str s => .ok (.int (.ofNat (lenN s.cps.toList))) S
    | _ => match items S x with
      | some ys => .ok (.int (.ofNat (lenN ys))) S
      | none => .fail
  | _ => .fail
def p_isi (G : Pg) (xs : List D) (S : St) : Res D := match xs with
  | [x, c] => match tyOf S x with
    | some t => match c with
      | .tup cs => match clsA cs with
        | true => okB (isAny G t cs) S
        | false => .fail
      | c => okB (isOne G t c) S
    | none => .fail
  | _ => .fail
def p_tuple (G : Pg) (xs : List D) (S : St) : Res D := match xs with
  | [x] => match items S x with
    | some ys => .ok (.tup ys) S
    | none => .fail
  | _ => .fail
def p_list (G : Pg) (xs : List D) (S : St) : Res D := match xs with
  | [x] => match items S x with
    | some ys => mkL ys S
    | none => .fail
  | _ => .fail
def p_tR1 (G : Pg) (xs : List D) (S : St) : Res D := match xs with
  | [.int j] => match Nat.ble j.toNat 100000 && small62 j with
    | true => .ok (.tup (rng 0 j.toNat)) S
    | false => .fail
  | _ => .fail
def p_tR2 (G : Pg) (xs : List D) (S : St) : Res D := match xs with
  | [.int i, .int j] => match Nat.ble (j - i).toNat 100000 && small62 i && small62 j with
    | true => .ok (.tup (rng i (j - i).toNat)) S
    | false => .fail
  | _ => .fail
def p_lR1 (G : Pg) (xs : List D) (S : St) : Res D := match xs with
  | [.int j] => match Nat.ble j.toNat 100000 && small62 j with
    | true => mkL (rng 0 j.toNat) S
    | false => .fail
  | _ => .fail
def p_lR2 (G : Pg) (xs : List D) (S : St) : Res D := match xs with
  | [.int i, .int j] => match Nat.ble (j - i).toNat 100000 && small62 i && small62 j with
    | true => mkL (rng i (j - i).toNat) S
    | false => .fail
  | _ => .fail
def p_dzip (G : Pg) (xs : List D) (S : St) : Res D := match xs with
  | [a, b] => match items S a, items S b with
    | some x, some y => match pairs x y [] with
      | some r => .ok (.ref S.n) (S.new (.dic r))
      | none => .fail
    | _, _ => .fail
  | _ => .fail
def p_all (G : Pg) (xs : List D) (S : St) : Res D := match xs with
  | [x] => match items S x with
    | some ys => match mapO flatB ys with
      | some bs => .ok (.bl (allL bs)) S
      | none => .fail
    | none => .fail
  | _ => .fail
def p_any (G : Pg) (xs : List D) (S : St) : Res D := match xs with
  | [x] => match items S x with
    | some ys => match mapO flatB ys with
      | some bs => .ok (.bl (anyL bs)) S
      | none => .fail
    | none => .fail
  | _ => .fail
def p_sum (G : Pg) (xs : List D) (S : St) : Res D := match xs with
  | [x] => match items S x with
    | some ys => match mapO intD ys with
      | some ns => .ok (.int (sumL ns)) S
      | none => .fail
    | none => .fail
  | _ => .fail
/-- sorting by rows of ints -/
def leL : List Int → List Int → Bool
  | [], _ => true
  | _ :: _, [] => false
  | x :: xs, y :: ys => match decide (x < y) with
    | true => true
    | false => match decide (x = y) with
      | true => leL xs ys
      | false => false
def insK (x : List Int) : List (List Int) → List (List Int)
  | [] => [x]
  | y :: ys => match leL y x with
    | true => y :: insK x ys
    | false => x :: y :: ys
def sortK : List (List Int) → List (List Int)
  | [] => []
  | x :: xs => insK x (sortK xs)
def keyI : D → Option (List Int)
  | .int i => some [i]
  | _ => none
def keyT : D → Option (List Int)
  | .tup xs => mapO intD xs
  | _ => none
def unI : List Int → D
  | i :: _ => .int i
  | [] => .non
def unT (k : List Int) : D := .tup (k.map .int)
def nonE : List (List Int) → Bool
  | [] => true
  | [] :: _ => false
  | (_ :: _) :: r => nonE r
def sortOk : List (List Int) → Bool
  | [] :: _ => true
  | ks => nonE ks
def p_sorted (G : Pg) (xs : List D) (S : St) : Res D := match xs with
  | [.ref l] => match S.get l with
    | some (.lst ys) => match mapO keyI ys with
      | some ks => mkL ((sortK ks).map unI) S
      | none => match mapO keyT ys with
        | some ks => match sortOk ks with
          | true => mkL ((sortK ks).map unT) S
          | false => .fail
        | none => .fail
    | _ => .fail
  | _ => .fail
def p_int (G : Pg) (xs : List D) (S : St) : Res D := match xs with
  | [.int i] => .ok (.int i) S
  | [.bl b] => .ok (.int (if b then 1 else 0)) S
  | _ => .fail
def p_abs (G : Pg) (xs : List D) (S : St) : Res D := match xs with
  | [.int i] => .ok (.int (if i < 0 then -i else i)) S
  | _ => .fail
def p_max2 (G : Pg) (xs : List D) (S : St) : Res D := match xs with
  | [.int i, .int j] => .ok (.int (if j > i then j else i)) S
  | _ => .fail
def p_min2 (G : Pg) (xs : List D) (S : St) : Res D := match xs with
  | [.int i, .int j] => .ok (.int (if j < i then j else i)) S
  | _ => .fail
def p_max1 (G : Pg) (xs : List D) (S : St) : Res D := match xs with
  | [.ref l] => match S.get l with
    | some (.lst ys) => match mapO intD ys with
      | some (n :: ns) => .ok (.int (maxL n ns)) S
      | _ => .fail
    | _ => .fail
  | _ => .fail
def p_min1 (G : Pg) (xs : List D) (S : St) : Res D := match xs with
  | [.ref l] => match S.get l with
    | some (.lst ys) => match mapO intD ys with
      | some (n :: ns) => .ok (.int (minL n ns)) S
      | _ => .fail
    | _ => .fail
  | _ => .fail
def p_repr (G : Pg) (xs : List D) (S : St) : Res D := match xs with
  | [x] => match pd true S fuelD x with
    | some d => match d.showable && Nat.ble (lenN (shownF d).cps.toList) 100000 with
      | true => .ok (.str (shownF d)) S
      | false => .fail
    | none => .fail
  | _ => .fail
def p_lenset (G : Pg) (xs : List D) (S : St) : Res D := match xs with
  | [x] => match items S x with
    | some ys => match mapO (pd false S fuelD) ys with
      | some ds => .ok (.int (.ofNat (lenN (dedup ds [])))) S
      | none => .fail
    | none => .fail
  | _ => .fail
def p_dict (G : Pg) (xs : List D) (S : St) : Res D := match xs with
  | [x] => match items S x with
    | some ys => match unzip S ys with
      | some (ks, vs) => match pairs ks vs [] with
        | some r => .ok (.ref S.n) (S.new (.dic r))
        | none => .fail
      | none => .fail
    | none => .fail
  | _ => .fail
def p_divmod (G : Pg) (xs : List D) (S : St) : Res D := match xs with
  | [.int i, .int j] => match decide (0 < j) && decide (j < 1073741824) with
    | true => .ok (.tup [.int (i / j), .int (i % j)]) S
    | false => .fail
  | _ => .fail
def p_append (G : Pg) (xs : List D) (S : St) : Res D := match xs with
  | [.ref l, v] => match S.get l with
    | some (.lst xs) => match fits (xs ++ [v]) with
      | true => .ok .non (S.put l (.lst (xs ++ [v])))
      | false => .fail
    | _ => .fail
  | _ => .fail
def p_extend (G : Pg) (xs : List D) (S : St) : Res D := match xs with
  | [.ref l, .ref m] => match S.get l, S.get m with
    | some (.lst xs), some (.lst ys) => match fits (xs ++ ys) with
      | true => .ok .non (S.put l (.lst (xs ++ ys)))
      | false => .fail
    | _, _ => .fail
  | _ => .fail
def p_pop0 (G : Pg) (xs : List D) (S : St) : Res D := match xs with
  | [.ref l] => match S.get l with
    | some (.lst xs) => match xs.getLast? with
      | some v => .ok v (S.put l (.lst xs.dropLast))
      | none => .fail
    | _ => .fail
  | _ => .fail
def p_popAt (G : Pg) (xs : List D) (S : St) : Res D := match xs with
  | [.ref l, .int i] => match S.get l with
    | some (.lst xs) => match ixOf i (lenN xs) with
      | some k => match nth xs k with
        | some v => .ok v (S.put l (.lst (delN xs k)))
        | none => .fail
      | none => .fail
    | _ => .fail
  | _ => .fail
def p_index (G : Pg) (xs : List D) (S : St) : Res D := match xs with
  | [x, v] => match items S x with
    | some ys => match pd false S fuelD v, mapO (pd false S fuelD) ys with
      | some d, some ds => match findEq d ds 0 with
        | some i => .ok (.int (.ofNat i)) S
        | none => .fail
      | _, _ => .fail
    | none => .fail
  | _ => .fail
def p_count (G : Pg) (xs : List D) (S : St) : Res D := match xs with
  | [x, v] => match items S x with
    | some ys => match pd false S fuelD v, mapO (pd false S fuelD) ys with
      | some d, some ds => .ok (.int (.ofNat (countEq d ds))) S
      | _, _ => .fail
    | none => .fail
  | _ => .fail
def p_get2 (G : Pg) (xs : List D) (S : St) : Res D := match xs with
  | [.ref l, k, v] => match S.get l with
    | some (.dic kvs) => match isKey k with
      | true => match lookD k kvs with
        | some x => .ok x S
        | none => .ok v S
      | false => .fail
    | _ => .fail
  | _ => .fail
def p_setIdx (G : Pg) (xs : List D) (S : St) : Res D := match xs with
  | [.ref l, i, v] => match S.get l with
    | some (.lst xs) => match i with
      | .int i => match ixOf i (lenN xs) with
        | some k => .ok .non (S.put l (.lst (setN xs k v)))
        | none => .fail
      | _ => .fail
    | some (.dic kvs) => match isKey i && fits ((i, v) :: kvs) with
      | true => .ok .non (S.put l (.dic (putD i v kvs)))
      | false => .fail
    | _ => .fail
  | _ => .fail
/-- an exception's field -/
def fldOf (G : Pg) (c : Nat) (fs : List (Str × D)) (f : Str) : Option D := match G.flds.get c with
  | some gs => match hasS f gs with
    | true => fs.lookup f
    | false => none
  | none => none
def p_fld (f : Str) (G : Pg) (xs : List D) (S : St) : Res D := match xs with
  | [.ref l] => match S.get l with
    | some (.exn c fs) => match fldOf G c fs f with
      | some v => .ok v S
      | none => .fail
    | _ => .fail
  | _ => .fail
abbrev PF := Pg → List D → St → Res D
def primF : Pr → PF
  | .add => p_add
  | .sub => p_sub
  | .mul => p_mul
  | .fdiv => p_fdiv
  | .mod => p_mod
  | .pow => p_pow
  | .neg => p_neg
  | .not_ => p_not_
  | .eq => p_eq
  | .ne => p_ne
  | .lt => p_lt
  | .le => p_le
  | .gt => p_gt
  | .ge => p_ge
  | .is_ => p_is_
  | .isnot => p_isnot
  | .in_ => p_in_
  | .notin => p_notin
  | .tup => p_tup
  | .lst => p_lst
  | .dic => p_dic
  | .idx => p_idx
  | .sl00 => p_sl00
  | .sl01 => p_sl01
  | .sl10 => p_sl10
  | .sl11 => p_sl11
  | .slr => p_slr
  | .len => p_len
  | .isi => p_isi
  | .tuple => p_tuple
  | .list => p_list
  | .all => p_all
  | .any => p_any
  | .sum => p_sum
  | .sorted => p_sorted
  | .int => p_int
  | .abs => p_abs
  | .max1 => p_max1
  | .min1 => p_min1
  | .max2 => p_max2
  | .min2 => p_min2
  | .repr => p_repr
  | .lenset => p_lenset
  | .dict => p_dict
  | .divmod => p_divmod
  | .append => p_append
  | .extend => p_extend
  | .pop0 => p_pop0
  | .popAt => p_popAt
  | .index => p_index
  | .count => p_count
  | .get2 => p_get2
  | .setIdx => p_setIdx
  | .tR1 => p_tR1
  | .tR2 => p_tR2
  | .lR1 => p_lR1
  | .lR2 => p_lR2
  | .dzip => p_dzip
  | .truth => p_truth
  | .fld f => p_fld f
structure PrW where
  f : PF
/-- read once by the kernel -/
def primW : Pr → PrW
  | .add => ⟨p_add⟩
  | .sub => ⟨p_sub⟩
  | .mul => ⟨p_mul⟩
  | .fdiv => ⟨p_fdiv⟩
  | .mod => ⟨p_mod⟩
  | .pow => ⟨p_pow⟩
  | .neg => ⟨p_neg⟩
  | .not_ => ⟨p_not_⟩
  | .eq => ⟨p_eq⟩
  | .ne => ⟨p_ne⟩
  | .lt => ⟨p_lt⟩
  | .le => ⟨p_le⟩
  | .gt => ⟨p_gt⟩
  | .ge => ⟨p_ge⟩
  | .is_ => ⟨p_is_⟩
  | .isnot => ⟨p_isnot⟩
  | .in_ => ⟨p_in_⟩
  | .notin => ⟨p_notin⟩
  | .tup => ⟨p_tup⟩
  | .lst => ⟨p_lst⟩
  | .dic => ⟨p_dic⟩
  | .idx => ⟨p_idx⟩
  | .sl00 => ⟨p_sl00⟩
  | .sl01 => ⟨p_sl01⟩
  | .sl10 => ⟨p_sl10⟩
  | .sl11 => ⟨p_sl11⟩
  | .slr => ⟨p_slr⟩
  | .len => ⟨p_len⟩
  | .isi => ⟨p_isi⟩
  | .tuple => ⟨p_tuple⟩
  | .list => ⟨p_list⟩
  | .all => ⟨p_all⟩
  | .any => ⟨p_any⟩
  | .sum => ⟨p_sum⟩
  | .sorted => ⟨p_sorted⟩
  | .int => ⟨p_int⟩
  | .abs => ⟨p_abs⟩
  | .max1 => ⟨p_max1⟩
  | .min1 => ⟨p_min1⟩
  | .max2 => ⟨p_max2⟩
  | .min2 => ⟨p_min2⟩
  | .repr => ⟨p_repr⟩
  | .lenset => ⟨p_lenset⟩
  | .dict => ⟨p_dict⟩
  | .divmod => ⟨p_divmod⟩
  | .append => ⟨p_append⟩
  | .extend => ⟨p_extend⟩
  | .pop0 => ⟨p_pop0⟩
  | .popAt => ⟨p_popAt⟩
  | .index => ⟨p_index⟩
  | .count => ⟨p_count⟩
  | .get2 => ⟨p_get2⟩
  | .setIdx => ⟨p_setIdx⟩
  | .tR1 => ⟨p_tR1⟩
  | .tR2 => ⟨p_tR2⟩
  | .lR1 => ⟨p_lR1⟩
  | .lR2 => ⟨p_lR2⟩
  | .dzip => ⟨p_dzip⟩
  | .truth => ⟨p_truth⟩
  | .fld f => ⟨p_fld f⟩
theorem primW_eq (p : Pr) : (primW p).f = primF p := by cases p <;> rfl
def prim (G : Pg) (p : Pr) (xs : List D) (S : St) : Res D := (primW p).f G xs S
theorem prim_eq (G : Pg) (p : Pr) (xs : List D) (S : St) : prim G p xs S = primF p G xs S := by
  unfold prim
  rw [primW_eq]

/-! ### what is walked -/
inductive It where
  | seq (xs : List D)
  | lst (l : Nat) (i : Nat)
  | rng (lo : Int) (n : Nat)
  | stp (lo c : Int) (n : Nat)
  | enm (i : Nat) (t : It)
  | zip (a b : It)
inductive Nx where
  | bad
  | stop
  | yld (d : D) (t : It)
def next (S : St) : It → Nx
  | .seq [] => .stop
  | .seq (x :: xs) => .yld x (.seq xs)
  | .lst l i => match S.get l with
    | some (.lst xs) => match nth xs i with
      | some x => .yld x (.lst l (Nat.succ i))
      | none => .stop
    | _ => .bad
  | .rng _ 0 => .stop
  | .rng lo (n + 1) => .yld (.int lo) (.rng (lo + 1) n)
  | .stp _ _ 0 => .stop
  | .stp lo c (n + 1) => .yld (.int lo) (.stp (lo + c) c n)
  | .enm i t => match next S t with
    | .yld x u => .yld (.tup [.int (.ofNat i), x]) (.enm (Nat.succ i) u)
    | r => r
  | .zip a b => match next S a with
    | .yld x u => match next S b with
      | .yld y v => .yld (.tup [x, y]) (.zip u v)
      | r => r
    | .bad => .bad
    | .stop => match next S b with
      | .bad => .bad
      | _ => .stop
def iter (S : St) : D → Option It
  | .tup xs => some (.seq xs)
  | .ref l => match S.get l with
    | some (.lst _) => some (.lst l 0)
    | _ => none
  | _ => none

noncomputable def evs (ev : CE → Env → St → Res D) (es : List CE) : Env → St → Res (List D) := List.rec (motive := fun _ => Env → St → Res (List D)) (fun _ S => .ok [] S) (fun e _ ih v S => (ev e v S).bind fun x S1 => (ih v S1).bind fun xs S2 => .ok (x :: xs) S2) es
theorem evs_nil (ev : CE → Env → St → Res D) (v : Env) (S : St) : evs ev [] v S = .ok [] S := rfl
theorem evs_cons (ev : CE → Env → St → Res D) (e : CE) (es : List CE) (v : Env) (S : St) : evs ev (e :: es) v S = (ev e v S).bind fun x S1 => (evs ev es v S1).bind fun xs S2 => .ok (x :: xs) S2 := rfl
noncomputable def argsOf (as : List Ar) : List D → Option (List D) := List.rec (motive := fun _ => List D → Option (List D)) (fun _ => some []) (fun a _ ih xs => Ar.rec (fun i => Option.rec none (fun x => Option.rec none (fun ys => some (x :: ys)) (ih xs)) (nth xs i)) (fun d => Option.rec none (fun ys => some (d :: ys)) (ih xs)) a) as
theorem argsOf_df (d : D) (r : List Ar) (xs : List D) : argsOf (.df d :: r) xs = match argsOf r xs with
    | some ys => some (d :: ys)
    | none => none := by
  show Option.rec (motive := fun _ => Option (List D)) none (fun ys => some (d :: ys)) (argsOf r xs) = _
  cases argsOf r xs <;> rfl
theorem argsOf_at (i : Nat) (r : List Ar) (xs : List D) : argsOf (.at_ i :: r) xs = match nth xs i, argsOf r xs with
    | some x, some ys => some (x :: ys)
    | _, _ => none := by
  show Option.rec (motive := fun _ => Option (List D)) none (fun x => Option.rec none (fun ys => some (x :: ys)) (argsOf r xs)) (nth xs i) = _
  cases nth xs i <;> cases argsOf r xs <;> rfl
noncomputable def look (v : Env) (S : St) (i : Nat) : Option D := Option.rec none (fun s => Sl.rec none (fun d => some d) (fun l => Option.rec none (fun o => O.rec (fun _ => none) (fun _ => none) (fun _ _ => none) (fun x => x) none (fun _ _ => none) none none none o) (S.get l)) (fun _ _ => none) s) (nth v i)
theorem look_eq (v : Env) (S : St) (i : Nat) : look v S i = match nth v i with
  | some (.vl d) => some d
  | some (.ce l) => match S.get l with
    | some (.cel (some d)) => some d
    | _ => none
  | _ => none := by
  unfold look
  cases nth v i with
  | none => rfl
  | some s =>
    cases s with
    | ce l =>
      dsimp only
      cases S.get l with
      | none => rfl
      | some o =>
        cases o with
        | cel od => cases od <;> rfl
        | _ => rfl
    | _ => rfl
noncomputable def cellsAt (v : Env) (is : List Nat) : Option (List Nat) := List.rec (motive := fun _ => Option (List Nat)) (some []) (fun i _ ih => Option.rec none (fun s => Sl.rec none (fun _ => none) (fun l => Option.rec none (fun ls => some (l :: ls)) ih) (fun _ _ => none) s) (nth v i)) is
theorem cellsAt_cons (v : Env) (i : Nat) (r : List Nat) : cellsAt v (i :: r) = match nth v i, cellsAt v r with
    | some (.ce l), some ls => some (l :: ls)
    | _, _ => none := by
  unfold cellsAt
  dsimp only
  generalize List.rec (motive := fun _ => Option (List Nat)) _ _ r = q
  cases nth v i with
  | none => rfl
  | some s => cases s <;> cases q <;> rfl
/-- a name stored -/
def store (v : Env) (S : St) (i : Nat) (d : D) : Option (Env × St) := match nth v i with
  | some (.ce l) => match S.get l with
    | some (.cel _) => some (v, S.put l (.cel (some d)))
    | _ => none
  | some _ => some (setN v i (.vl d), S)
  | none => none
mutual
def asgT (G : Pg) (ev : CE → Env → St → Res D) : Nat → Tg → D → Env → St → Res Env
  | 0, _, _, _, _ => .fail
  | _ + 1, .nm i, d, v, S => match store v S i d with
    | some (v', S') => .ok v' S'
    | none => .fail
  | n + 1, .tp ts, d, v, S => match items S d with
    | some xs => asgTs G ev n ts xs v S
    | none => .fail
  | _ + 1, .sb o i, d, v, S => (ev o v S).bind fun x S1 => (ev i v S1).bind fun y S2 => (prim G .setIdx [x, y, d] S2).bind fun _ S3 => .ok v S3
def asgTs (G : Pg) (ev : CE → Env → St → Res D) : Nat → List Tg → List D → Env → St → Res Env
  | 0, _, _, _, _ => .fail
  | _ + 1, [], [], v, S => .ok v S
  | n + 1, t :: ts, d :: ds, v, S => (asgT G ev n t d v S).bind fun v' S' => asgTs G ev n ts ds v' S'
  | _ + 1, _, _, _, _ => .fail
end
def src (ev : CE → Env → St → Res D) (s : Src) (v : Env) (S : St) : Res It := match s with
  | .val e => (ev e v S).bind fun x S1 => match iter S1 x with
    | some t => .ok t S1
    | none => .fail
  | .rng1 a => (ev a v S).bind fun x S1 => match x with
    | .int j => match small62 j with
      | true => .ok (.rng 0 j.toNat) S1
      | false => .fail
    | _ => .fail
  | .rng2 a b => (ev a v S).bind fun x S1 => (ev b v S1).bind fun y S2 => match x, y with
    | .int i, .int j => match small62 i && small62 j with
      | true => .ok (.rng i (j - i).toNat) S2
      | false => .fail
    | _, _ => .fail
  | .rng3 a b c => (ev a v S).bind fun x S1 => (ev b v S1).bind fun y S2 => (ev c v S2).bind fun z S3 => match x, y, z with
    | .int i, .int j, .int k => match decide (0 < k) with
      | true => .ok (.stp i k ((j - i + k - 1) / k).toNat) S3
      | false => match decide (k < 0) with
        | true => .ok (.stp i k ((i - j + (-k) - 1) / (-k)).toNat) S3
        | false => .fail
    | _, _, _ => .fail
  | .enm e => (ev e v S).bind fun x S1 => match iter S1 x with
    | some t => .ok (.enm 0 t) S1
    | none => .fail
  | .zip a b => (ev a v S).bind fun x S1 => (ev b v S1).bind fun y S2 => match iter S2 x, iter S2 y with
    | some (.seq t), some (.seq u) => .ok (.zip (.seq t) (.seq u)) S2
    | some (.lst t i), some (.lst u j) => .ok (.zip (.lst t i) (.lst u j)) S2
    | _, _ => .fail
noncomputable def tests (ev : CE → Env → St → Res D) (cs : List CE) : Env → St → Res Bool := List.rec (motive := fun _ => Env → St → Res Bool) (fun _ S => .ok true S) (fun c _ ih v S => (ev c v S).bind fun x S1 => Option.rec .fail (fun b => Bool.rec (.ok false S1) (ih v S1) b) (truth S1 x)) cs
theorem tests_cons (ev : CE → Env → St → Res D) (c : CE) (cs : List CE) (v : Env) (S : St) : tests ev (c :: cs) v S = (ev c v S).bind fun x S1 => match truth S1 x with
    | some true => tests ev cs v S1
    | some false => .ok false S1
    | none => .fail := by
  show (ev c v S).bind _ = _
  refine congrArg _ (funext fun x => funext fun S1 => ?_)
  cases truth S1 x with
  | none => rfl
  | some b => cases b <;> rfl
noncomputable def Res.nox {α : Type} (r : Res α) : Res α := Res.rec (motive := fun _ => Res α) (fun x S => .ok x S) (fun c fs S => .fail) (fun n _ ih => .draw n ih) .fail r
theorem Res.nox_ok {α : Type} (x : α) (S : St) : (Res.ok x S).nox = .ok x S := rfl
noncomputable def snap (v : Env) (S : St) : Env × St := List.rec (motive := fun _ => Env × St) ([], S) (fun s _ ih => Prod.rec (fun r' S' => Sl.rec (.no :: r', S') (fun d => (.vl d :: r', S')) (fun l => Option.rec (.no :: r', S'.put l .hid) (fun o => O.rec (fun _ => (.no :: r', S'.put l .hid)) (fun _ => (.no :: r', S'.put l .hid)) (fun _ _ => (.no :: r', S'.put l .hid)) (fun od => Option.rec (.no :: r', S'.put l .hid) (fun d => (.vl d :: r', S'.put l .hid)) od) (.no :: r', S'.put l .hid) (fun _ _ => (.no :: r', S'.put l .hid)) (.no :: r', S'.put l .hid) (.no :: r', S'.put l .hid) (.no :: r', S'.put l .hid) o) (S.get l)) (fun _ _ => (.no :: r', S')) s) ih) v
theorem snap_cons (s : Sl) (r : Env) (S : St) : snap (s :: r) S = match snap r S with
    | (r', S') => match s with
      | .ce l => match S.get l with
        | some (.cel (some d)) => (.vl d :: r', S'.put l .hid)
        | _ => (.no :: r', S'.put l .hid)
      | .ex _ _ => (.no :: r', S')
      | s => (s :: r', S') := by
  unfold snap
  dsimp only
  generalize List.rec (motive := fun _ => Env × St) _ _ r = q
  obtain ⟨r', S'⟩ := q
  cases s with
  | ce l =>
    dsimp only
    cases S.get l with
    | none => rfl
    | some o =>
      cases o with
      | cel od => cases od <;> rfl
      | _ => rfl
  | _ => rfl
noncomputable def unsnap (S0 : St) (v : Env) (S : St) : St := List.rec (motive := fun _ => St) S (fun s _ ih => Sl.rec ih (fun _ => ih) (fun l => Option.rec ih (fun o => O.rec (fun _ => ih) (fun _ => ih) (fun _ _ => ih) (fun od => ih.put l (.cel od)) ih (fun _ _ => ih) ih ih ih o) (S0.get l)) (fun _ _ => ih) s) v
theorem unsnap_cons (S0 : St) (s : Sl) (r : Env) (S : St) : unsnap S0 (s :: r) S = match s with
    | .ce l => match S0.get l with
      | some (.cel od) => (unsnap S0 r S).put l (.cel od)
      | _ => unsnap S0 r S
    | _ => unsnap S0 r S := by
  unfold unsnap
  dsimp only
  generalize List.rec (motive := fun _ => St) _ _ r = q
  cases s with
  | ce l =>
    dsimp only
    cases S0.get l with
    | none => rfl
    | some o => cases o <;> rfl
  | _ => rfl
noncomputable def wipeE (v : Env) (is : List Nat) : Env := List.rec (motive := fun _ => Env) v (fun i _ ih => setN ih i .no) is
theorem wipeE_cons (v : Env) (i : Nat) (r : List Nat) : wipeE v (i :: r) = setN (wipeE v r) i .no := rfl
noncomputable def compL (G : Pg) (ev : CE → Env → St → Res D) (t : Tg) (ifs : List CE) (e : CE) (n : Nat) : It → List D → Env → St → Res D := Nat.rec (motive := fun _ => It → List D → Env → St → Res D) (fun _ _ _ _ => .fail) (fun _ ih i acc v S => Nx.rec .fail (mkL acc.reverse S) (fun d j => (asgT G ev 9 t d v S).bind fun v' S1 => (tests ev ifs v' S1).bind fun b S2 => Bool.rec (ih j acc v S2) ((ev e v' S2).bind fun x S3 => ih j (x :: acc) v S3) b) (next S i)) n
theorem compL_succ (G : Pg) (ev : CE → Env → St → Res D) (t : Tg) (ifs : List CE) (e : CE) (n : Nat) (i : It) (acc : List D) (v : Env) (S : St) : compL G ev t ifs e (n + 1) i acc v S = match next S i with
    | .bad => .fail
    | .stop => mkL acc.reverse S
    | .yld d j => (asgT G ev 9 t d v S).bind fun v' S1 => (tests ev ifs v' S1).bind fun b S2 => match b with
      | true => (ev e v' S2).bind fun x S3 => compL G ev t ifs e n j (x :: acc) v S3
      | false => compL G ev t ifs e n j acc v S2 := by
  show Nx.rec (motive := fun _ => Res D) _ _ _ (next S i) = _
  cases next S i with
  | yld d j =>
    dsimp only
    refine congrArg (Res.bind _) (funext fun v' => funext fun S1 => congrArg (Res.bind _) (funext fun b => funext fun S2 => ?_))
    cases b <;> rfl
  | _ => rfl
def keysL (ev : D → St → Res D) : List D → St → Res (List (D × D))
  | [], S => .ok [] S
  | x :: xs, S => (ev x S).bind fun k S1 => (keysL ev xs S1).bind fun r S2 => .ok ((k, x) :: r) S2
def fnOf (S : St) : D → Option Fn
  | .fn i => some (.df i)
  | .ref l => match S.get l with
    | some (.clo i cs) => some (.lm i cs)
    | _ => none
  | _ => none

abbrev CallF := Fn → List D → St → Res D
structure IH where
  e : CE → Env → St → Res D
  ss : List CS → Env → St → Res SO

def zipF : List Str → List D → Option (List (Str × D))
  | [], [] => some []
  | f :: fs, x :: xs => match zipF fs xs with
    | some r => some ((f, x) :: r)
    | none => none
  | _, _ => none
def e_lit (d : D) (G : Pg) (cf : CallF) (ih : IH) (v : Env) (S : St) : Res D := .ok d S
def e_var (i : Nat) (G : Pg) (cf : CallF) (ih : IH) (v : Env) (S : St) : Res D := match look v S i with
    | some d => .ok d S
    | none => .fail
def e_pr (p : Pr) (es : List CE) (G : Pg) (cf : CallF) (ih : IH) (v : Env) (S : St) : Res D := (evs ih.e es v S).bind fun xs S1 => prim G p xs S1
def e_and (a : CE) (b : CE) (G : Pg) (cf : CallF) (ih : IH) (v : Env) (S : St) : Res D := (ih.e a v S).bind fun x S1 => match truth S1 x with
    | some true => ih.e b v S1
    | some false => .ok x S1
    | none => .fail
def e_or (a : CE) (b : CE) (G : Pg) (cf : CallF) (ih : IH) (v : Env) (S : St) : Res D := (ih.e a v S).bind fun x S1 => match truth S1 x with
    | some true => .ok x S1
    | some false => ih.e b v S1
    | none => .fail
def e_ife (c : CE) (a : CE) (b : CE) (G : Pg) (cf : CallF) (ih : IH) (v : Env) (S : St) : Res D := (ih.e c v S).bind fun x S1 => match truth S1 x with
    | some true => ih.e a v S1
    | some false => ih.e b v S1
    | none => .fail
def e_chn (p : Pr) (q : Pr) (a : CE) (b : CE) (c : CE) (G : Pg) (cf : CallF) (ih : IH) (v : Env) (S : St) : Res D := (ih.e a v S).bind fun x S1 => (ih.e b v S1).bind fun y S2 => (prim G p [x, y] S2).bind fun z S3 => match z with
    | .bl true => (ih.e c v S3).bind fun w S4 => prim G q [y, w] S4
    | .bl false => .ok (.bl false) S3
    | _ => .fail
def e_call (f : Nat) (es : List CE) (ps : List Ar) (G : Pg) (cf : CallF) (ih : IH) (v : Env) (S : St) : Res D := (evs ih.e es v S).bind fun xs S1 => match argsOf ps xs with
    | some ys => cf (.df f) ys S1
    | none => .fail
def e_cal (f : CE) (es : List CE) (G : Pg) (cf : CallF) (ih : IH) (v : Env) (S : St) : Res D := (ih.e f v S).bind fun g S1 => match fnOf S1 g with
    | none => .fail
    | some _ => (evs ih.e es v S1).bind fun xs S2 => match fnOf S2 g with
      | some h => cf h xs S2
      | none => .fail
def e_comp (t : Tg) (s : Src) (ifs : List CE) (e : CE) (own : List Nat) (G : Pg) (cf : CallF) (ih : IH) (v : Env) (S : St) : Res D := (src ih.e s v S).bind fun i S1 => match snap v S1 with
    | (v', S2) => (compL G ih.e t ifs e 100000 i [] (wipeE v' own) S2).nox.bind fun d S3 => .ok d (unsnap S1 v S3)
def e_srt (a : CE) (k : CE) (G : Pg) (cf : CallF) (ih : IH) (v : Env) (S : St) : Res D := (ih.e a v S).bind fun x S1 => (ih.e k v S1).bind fun g S2 => match items S2 x, fnOf S2 g with
    | some xs, some h => (keysL (fun x S => cf h [x] S) xs S2).bind fun r S3 => match isort S3 r [] with
      | some q => mkL (q.map (·.2)) S3
      | none => .fail
    | _, _ => .fail
def e_lam (i : Nat) (cs : List Nat) (G : Pg) (cf : CallF) (ih : IH) (v : Env) (S : St) : Res D := match cellsAt v cs with
    | some ls => .ok (.ref S.n) (S.new (.clo i ls))
    | none => .fail
def e_mk (c : Nat) (es : List CE) (ps : List Ar) (G : Pg) (cf : CallF) (ih : IH) (v : Env) (S : St) : Res D := (evs ih.e es v S).bind fun xs S1 => match argsOf ps xs, G.flds.get c with
    | some ys, some fs => match zipF fs ys with
      | some z => .ok (.ref S1.n) (S1.new (.exn c z))
      | none => .fail
    | _, _ => .fail
def e_drw (p : CE) (n : CE) (G : Pg) (cf : CallF) (ih : IH) (v : Env) (S : St) : Res D := (ih.e p v S).bind fun x S1 => (ih.e n v S1).bind fun m S2 => match x, m with
    | .ref l, .int (.ofNat k) => match S2.get l with
      | some .opq => match Nat.blt k 1000000 with
        | true => .draw k fun d => .ok (.int (.ofNat d)) S2
        | false => .fail
      | _ => .fail
    | _, _ => .fail
def e_pot (s : CE) (k : CE) (G : Pg) (cf : CallF) (ih : IH) (v : Env) (S : St) : Res D := (ih.e s v S).bind fun x S1 => (ih.e k v S1).bind fun m S2 => match x, m with
    | .ref l, .int (.ofNat _) => match S2.get l with
      | some .scr => .ok (.ref S2.n) (S2.new .opq)
      | some .scF => .ok (.ref S2.n) (S2.new .opq)
      | _ => .fail
    | _, _ => .fail
def e_exf (i : Nat) (f : Str) (G : Pg) (cf : CallF) (ih : IH) (v : Env) (S : St) : Res D := match nth v i with
    | some (.ex c fs) => match fldOf G c fs f with
      | some d => .ok d S
      | none => .fail
    | _ => .fail
def e_met (p : Pr) (o : CE) (es : List CE) (G : Pg) (cf : CallF) (ih : IH) (v : Env) (S : St) : Res D := (ih.e o v S).bind fun x S1 => match x with
    | .ref l => match S1.get l with
      | some (.lst _) => (evs ih.e es v S1).bind fun xs S2 => prim G p (x :: xs) S2
      | _ => .fail
    | _ => .fail
def e_gt2 (o : CE) (a : CE) (b : CE) (G : Pg) (cf : CallF) (ih : IH) (v : Env) (S : St) : Res D := (ih.e o v S).bind fun x S1 => match x with
    | .ref l => match S1.get l with
      | some (.dic _) => (ih.e a v S1).bind fun y S2 => (ih.e b v S2).bind fun z S3 => prim G .get2 [x, y, z] S3
      | _ => .fail
    | _ => .fail
def e_exi (i : Nat) (cs : List D) (G : Pg) (cf : CallF) (ih : IH) (v : Env) (S : St) : Res D := match nth v i with
    | some (.ex c (_ :: _)) => match Nat.ble 100 c with
      | true => .fail
      | false => okB (isAny G c cs) S
    | _ => .fail
abbrev EF := Pg → CallF → IH → Env → St → Res D
structure EfW where
  f : EF
/-- read once by the kernel -/
def stepF : CE → EfW
  | .lit d => ⟨e_lit d⟩
  | .var i => ⟨e_var i⟩
  | .pr p es => ⟨e_pr p es⟩
  | .and a b => ⟨e_and a b⟩
  | .or a b => ⟨e_or a b⟩
  | .ife c a b => ⟨e_ife c a b⟩
  | .chn p q a b c => ⟨e_chn p q a b c⟩
  | .call f es ps => ⟨e_call f es ps⟩
  | .cal f es => ⟨e_cal f es⟩
  | .comp t s ifs e own => ⟨e_comp t s ifs e own⟩
  | .srt a k => ⟨e_srt a k⟩
  | .lam i cs => ⟨e_lam i cs⟩
  | .mk c es ps => ⟨e_mk c es ps⟩
  | .drw p n => ⟨e_drw p n⟩
  | .pot s k => ⟨e_pot s k⟩
  | .exf i f => ⟨e_exf i f⟩
  | .met p o es => ⟨e_met p o es⟩
  | .gt2 o a b => ⟨e_gt2 o a b⟩
  | .exi i cs => ⟨e_exi i cs⟩
def stepE (G : Pg) (cf : CallF) (ih : IH) (c : CE) (v : Env) (S : St) : Res D := (stepF c).f G cf ih v S

noncomputable def Res.st {α : Type} (v : Env) (r : Res α) (f : α → St → Res SO) : Res SO := Res.rec (motive := fun _ => Res SO) (fun x S => f x S) (fun c fs S => .ok (.xc c fs v) S) (fun n _ ih => .draw n ih) .fail r
theorem Res.st_ok {α : Type} (v : Env) (x : α) (S : St) (f : α → St → Res SO) : (Res.ok x S).st v f = f x S := rfl
noncomputable def whileL (ih : IH) (c : CE) (b : List CS) (n : Nat) : Env → St → Res SO := Nat.rec (motive := fun _ => Env → St → Res SO) (fun _ _ => .fail) (fun _ go v S => (ih.e c v S).st v fun x S1 => Option.rec .fail (fun t => Bool.rec (.ok (.nx v) S1) ((ih.ss b v S1).bind fun o S2 => SO.rec (fun v' => go v' S2) (fun d w => .ok (.rt d w) S2) (fun v' => .ok (.nx v') S2) (fun v' => go v' S2) (fun c fs w => .ok (.xc c fs w) S2) o) t) (truth S1 x)) n
theorem whileL_succ (ih : IH) (c : CE) (b : List CS) (n : Nat) (v : Env) (S : St) : whileL ih c b (n + 1) v S = (ih.e c v S).st v fun x S1 => match truth S1 x with
    | none => .fail
    | some false => .ok (.nx v) S1
    | some true => (ih.ss b v S1).bind fun o S2 => match o with
      | .nx v' => whileL ih c b n v' S2
      | .ct v' => whileL ih c b n v' S2
      | .bk v' => .ok (.nx v') S2
      | o => .ok o S2 := by
  show (ih.e c v S).st v _ = _
  refine congrArg _ (funext fun x => funext fun S1 => ?_)
  cases truth S1 x with
  | none => rfl
  | some t =>
    cases t with
    | false => rfl
    | true =>
      dsimp only
      refine congrArg (Res.bind _) (funext fun o => funext fun S2 => ?_)
      cases o <;> rfl
noncomputable def forL (G : Pg) (ih : IH) (t : Tg) (b : List CS) (n : Nat) : It → Env → St → Res SO := Nat.rec (motive := fun _ => It → Env → St → Res SO) (fun _ _ _ => .fail) (fun _ go i v S => Nx.rec .fail (.ok (.nx v) S) (fun d j => (asgT G ih.e 9 t d v S).st v fun v1 S1 => (ih.ss b v1 S1).bind fun o S2 => SO.rec (fun v' => go j v' S2) (fun d w => .ok (.rt d w) S2) (fun v' => .ok (.nx v') S2) (fun v' => go j v' S2) (fun c fs w => .ok (.xc c fs w) S2) o) (next S i)) n
theorem forL_succ (G : Pg) (ih : IH) (t : Tg) (b : List CS) (n : Nat) (i : It) (v : Env) (S : St) : forL G ih t b (n + 1) i v S = match next S i with
    | .bad => .fail
    | .stop => .ok (.nx v) S
    | .yld d j => (asgT G ih.e 9 t d v S).st v fun v1 S1 => (ih.ss b v1 S1).bind fun o S2 => match o with
      | .nx v' => forL G ih t b n j v' S2
      | .ct v' => forL G ih t b n j v' S2
      | .bk v' => .ok (.nx v') S2
      | o => .ok o S2 := by
  show Nx.rec (motive := fun _ => Res SO) _ _ _ (next S i) = _
  cases next S i with
  | yld d j =>
    dsimp only
    refine congrArg (Res.st v _) (funext fun v' => funext fun S1 => congrArg (Res.bind _) (funext fun o => funext fun S2 => ?_))
    cases o <;> rfl
  | _ => rfl
noncomputable def noex (v : Env) : Env := List.rec (motive := fun _ => Env) [] (fun s _ ih => Sl.rec (.no :: ih) (fun d => .vl d :: ih) (fun l => .ce l :: ih) (fun _ _ => .no :: ih) s) v
theorem noex_cons (s : Sl) (r : Env) : noex (s :: r) = match s with
    | .ex _ _ => .no :: noex r
    | s => s :: noex r := by
  cases s <;> rfl
def handEnd (i : Option Nat) : SO → St → Res SO
  | .nx w, S => match i with
    | none => .ok (.nx (noex w)) S
    | some i => match nth w i with
      | some (.ce _) => .fail
      | _ => .ok (.nx (noex (setN w i .no))) S
  | .rt d w, S => match i with
    | none => .ok (.rt d (noex w)) S
    | some i => match nth w i with
      | some (.ce _) => .fail
      | _ => .ok (.rt d (noex (setN w i .no))) S
  | _, _ => .fail
def hand (G : Pg) (ih : IH) (c : Nat) (fs : List (Str × D)) : List (Nat × Option Nat × List CS) → Env → St → Res SO
  | [], v, S => .ok (.xc c fs v) S
  | (k, nm, b) :: r, v, S => match G.below c k with
    | none => .fail
    | some false => hand G ih c fs r v S
    | some true => match nm with
      | none => (ih.ss b v S).bind (handEnd nm)
      | some i => match nth v i with
        | some .no => (ih.ss b (setN v i (.ex c fs)) S).bind (handEnd nm)
        | some (.vl _) => (ih.ss b (setN v i (.ex c fs)) S).bind (handEnd nm)
        | _ => .fail
def tryEnd (G : Pg) (ih : IH) (hs : List (Nat × Option Nat × List CS)) : SO → St → Res SO
  | .nx v, S => .ok (.nx (noex v)) S
  | .bk v, S => .ok (.bk (noex v)) S
  | .ct v, S => .ok (.ct (noex v)) S
  | .rt d v, S => .ok (.rt d (noex v)) S
  | .xc c fs v, S => hand G ih c fs hs (noex v) S
def s_asg (t : Tg) (e : CE) (G : Pg) (ih : IH) (v : Env) (S : St) : Res SO := (ih.e e v S).st v fun x S1 => (asgT G ih.e 9 t x v S1).st v fun v' S2 => .ok (.nx v') S2
def s_aug (i : Nat) (p : Pr) (e : CE) (G : Pg) (ih : IH) (v : Env) (S : St) : Res SO := match look v S i with
    | some x => (ih.e e v S).st v fun y S1 => (prim G p [x, y] S1).st v fun z S2 => match store v S2 i z with
      | some (v', S') => .ok (.nx v') S'
      | none => .fail
    | none => .fail
def s_exp (e : CE) (G : Pg) (ih : IH) (v : Env) (S : St) : Res SO := (ih.e e v S).st v fun _ S1 => .ok (.nx v) S1
def s_ife (c : CE) (a : List CS) (b : List CS) (G : Pg) (ih : IH) (v : Env) (S : St) : Res SO := (ih.e c v S).st v fun x S1 => match truth S1 x with
    | some true => ih.ss a v S1
    | some false => ih.ss b v S1
    | none => .fail
def s_whl (c : CE) (b : List CS) (G : Pg) (ih : IH) (v : Env) (S : St) : Res SO := whileL ih c b 100000 v S
def s_for_ (t : Tg) (s : Src) (b : List CS) (G : Pg) (ih : IH) (v : Env) (S : St) : Res SO := (src ih.e s v S).st v fun i S1 => forL G ih t b 100000 i v S1
def s_ret (e : CE) (G : Pg) (ih : IH) (v : Env) (S : St) : Res SO := (ih.e e v S).st v fun x S1 => .ok (.rt x v) S1
def s_rse (c : Nat) (es : List CE) (ps : List Ar) (G : Pg) (ih : IH) (v : Env) (S : St) : Res SO := (evs ih.e es v S).st v fun xs S1 => match argsOf ps xs, G.flds.get c with
    | some ys, some fs => match zipF fs ys with
      | some z => .ok (.xc c z v) S1
      | none => .fail
    | _, _ => .fail
def s_try_ (b : List CS) (hs : List (Nat × Option Nat × List CS)) (G : Pg) (ih : IH) (v : Env) (S : St) : Res SO := (ih.ss b (noex v) S).bind (tryEnd G ih hs)
def s_brk  (G : Pg) (ih : IH) (v : Env) (S : St) : Res SO := .ok (.bk v) S
def s_cnt  (G : Pg) (ih : IH) (v : Env) (S : St) : Res SO := .ok (.ct v) S
def s_pass  (G : Pg) (ih : IH) (v : Env) (S : St) : Res SO := .ok (.nx v) S
abbrev SF := Pg → IH → Env → St → Res SO
structure SfW where
  f : SF
/-- read once by the kernel -/
def stepT : CS → SfW
  | .asg t e => ⟨s_asg t e⟩
  | .aug i p e => ⟨s_aug i p e⟩
  | .exp e => ⟨s_exp e⟩
  | .ife c a b => ⟨s_ife c a b⟩
  | .whl c b => ⟨s_whl c b⟩
  | .for_ t s b => ⟨s_for_ t s b⟩
  | .ret e => ⟨s_ret e⟩
  | .rse c es ps => ⟨s_rse c es ps⟩
  | .try_ b hs => ⟨s_try_ b hs⟩
  | .brk  => ⟨s_brk ⟩
  | .cnt  => ⟨s_cnt ⟩
  | .pass  => ⟨s_pass ⟩
def stepS (G : Pg) (ih : IH) (c : CS) (v : Env) (S : St) : Res SO := (stepT c).f G ih v S
noncomputable def stepSs (G : Pg) (ih : IH) (ss : List CS) : Env → St → Res SO := List.rec (motive := fun _ => Env → St → Res SO) (fun v S => .ok (.nx v) S) (fun s _ go v S => (stepS G ih s v S).bind fun o S1 => SO.rec (fun v' => go v' S1) (fun d w => .ok (.rt d w) S1) (fun w => .ok (.bk w) S1) (fun w => .ok (.ct w) S1) (fun c fs w => .ok (.xc c fs w) S1) o) ss
theorem stepSs_nil (G : Pg) (ih : IH) (v : Env) (S : St) : stepSs G ih [] v S = .ok (.nx v) S := rfl
theorem stepSs_cons (G : Pg) (ih : IH) (s : CS) (ss : List CS) (v : Env) (S : St) : stepSs G ih (s :: ss) v S = (stepS G ih s v S).bind fun o S1 => match o with
    | .nx v' => stepSs G ih ss v' S1
    | o => .ok o S1 := by
  show (stepS G ih s v S).bind _ = _
  refine congrArg _ (funext fun o => funext fun S1 => ?_)
  cases o <;> rfl
noncomputable def ite_ (G : Pg) (cf : CallF) (n : Nat) : IH := Nat.rec (motive := fun _ => IH) ⟨fun _ _ _ => .fail, fun _ _ _ => .fail⟩ (fun _ ih => ⟨stepE G cf ih, stepSs G ih⟩) n
theorem ite_e (G : Pg) (cf : CallF) (n : Nat) (c : CE) (v : Env) (S : St) : (ite_ G cf (n + 1)).e c v S = stepE G cf (ite_ G cf n) c v S := rfl
theorem ite_ss (G : Pg) (cf : CallF) (n : Nat) (c : List CS) (v : Env) (S : St) : (ite_ G cf (n + 1)).ss c v S = stepSs G (ite_ G cf n) c v S := rfl
noncomputable def pad (n : Nat) : Env := Nat.rec (motive := fun _ => Env) [] (fun _ ih => .no :: ih) n
theorem pad_zero : pad 0 = [] := rfl
theorem pad_succ (n : Nat) : pad (n + 1) = .no :: pad n := rfl
/-- the cells of a def: at the entry -/
def celled : List Nat → Env → St → Option (Env × St)
  | [], v, S => some (v, S)
  | i :: r, v, S => match nth v i with
    | some (.vl d) => celled r (setN v i (.ce S.n)) (S.new (.cel (some d)))
    | some .no => celled r (setN v i (.ce S.n)) (S.new (.cel none))
    | _ => none
noncomputable def hide (v : Env) (S : St) : St := List.rec (motive := fun _ => St) S (fun s _ ih => Sl.rec ih (fun _ => ih) (fun l => ih.put l .hid) (fun _ _ => ih) s) v
theorem hide_nil (S : St) : hide [] S = S := rfl
theorem hide_cons (s : Sl) (r : Env) (S : St) : hide (s :: r) S = match s with
    | .ce l => (hide r S).put l .hid
    | _ => hide r S := by
  cases s <;> rfl
noncomputable def Res.hide (v : Env) (r : Res D) : Res D := Res.rec (motive := fun _ => Res D) (fun x S => .ok x S) (fun c fs S => .exc c fs (Ev.hide v S)) (fun n _ ih => .draw n ih) .fail r
/-- a body's end; fin: the last `return`, whose cells stay told -/
def retOf (fin : Option (Env → St → Res D)) : SO → St → Res D
  | .rt d v, S => .ok d (Ev.hide v S)
  | .nx v, S => match fin with
    | none => .ok .non (Ev.hide v S)
    | some e => (e v S).hide v
  | .xc c fs v, S => .exc c fs (Ev.hide v S)
  | _, _ => .fail
noncomputable def celsOk (S : St) (ls : List Nat) : Bool := List.rec (motive := fun _ => Bool) true (fun l _ ih => Option.rec false (fun o => O.rec (fun _ => false) (fun _ => false) (fun _ _ => false) (fun _ => ih) false (fun _ _ => false) false false false o) (S.get l)) ls
theorem celsOk_cons (S : St) (l : Nat) (r : List Nat) : celsOk S (l :: r) = match S.get l with
    | some (.cel _) => celsOk S r
    | _ => false := by
  show Option.rec (motive := fun _ => Bool) false _ (S.get l) = _
  cases S.get l with
  | none => rfl
  | some o => cases o <;> rfl
def callN (G : Pg) (N : Nat) : Nat → CallF
  | 0 => fun _ _ _ => .fail
  | k + 1 => fun f xs S => match f with
    | .df i => match G.defs.get i with
      | some d => match Nat.beq (lenN xs) d.np with
        | true => match celled d.cells (xs.map .vl ++ pad (Nat.sub d.ns d.np)) S with
          | some (v, S1) => ((ite_ G (callN G N k) N).ss d.body v S1).nox.bind (retOf (match d.fin with | some e => some ((ite_ G (callN G N k) N).e e) | none => none))
          | none => .fail
        | false => .fail
      | none => .fail
    | .lm i cs => match G.lams.get i with
      | some d => match Nat.beq (lenN xs) d.np && celsOk S cs with
        | true => (ite_ G (callN G N k) N).e d.body (xs.map .vl ++ (cs.map .ce ++ pad (Nat.sub d.ns (Nat.add d.np (lenN cs))))) S
        | false => .fail
      | none => .fail
end
end Ev
end
section
set_option Elab.async false
set_option linter.all false
set_option maxRecDepth 100000
/-! THE TRANSLATION of the text into that language. -/
namespace Ev
noncomputable section
open PySem

/-- what a module's name stands for -/
inductive Gl where
  | df (i : Nat) (ps : List (Str × Option D))
  | cl (i : Nat) (ps : List (Str × Option D))
  | con (d : D)
structure CC where
  N : List Str
  sc : Scope
  gl : List (Str × Gl)
  /-- the lambdas of this def: number, text -/
  lamT : List (Nat × Expr)
  /-- how calls bind -/
  shp : List (Nat × Nat × List Str)
  /-- the name of the handled exception -/
  hot : Option Str
  blk : Bool
  /-- may the law's draws be called -/
  drw : Bool

def tyL : List (Str × Nat) := [("bool", 101), ("int", 102), ("str", 103), ("tuple", 104), ("list", 105), ("dict", 106), ("ValueError", 110), ("LookupError", 111), ("RuntimeError", 112), ("ArithmeticError", 113)]
def tyNo (x : Str) : Option Nat := tyL.lookup x
def callL : List ((Str × Nat) × Pr) := [(("len", 1), .len), (("isinstance", 2), .isi), (("tuple", 1), .tuple), (("list", 1), .list), (("all", 1), .all), (("any", 1), .any), (("sum", 1), .sum), (("int", 1), .int), (("abs", 1), .abs),
    (("max", 1), .max1), (("min", 1), .min1), (("max", 2), .max2), (("min", 2), .min2), (("repr", 1), .repr), (("divmod", 2), .divmod), (("sorted", 1), .sorted)]
def callNo (x : Str) (n : Nat) : Option Pr := callL.lookup (x, n)
def methL : List ((Str × Nat) × Pr) := [(("append", 1), .append), (("extend", 1), .extend), (("pop", 0), .pop0), (("pop", 1), .popAt)]
def methNo (x : Str) (n : Nat) : Option Pr := methL.lookup (x, n)
def opNo : Operator → Option Pr
  | .Add => some .add | .Sub => some .sub | .Mult => some .mul | .FloorDiv => some .fdiv | .Mod => some .mod | .Pow => some .pow
  | _ => none
def cmpNo : CmpOp → Pr
  | .Eq => .eq | .NotEq => .ne | .Lt => .lt | .LtE => .le | .Gt => .gt | .GtE => .ge | .Is => .is_ | .IsNot => .isnot | .In => .in_ | .NotIn => .notin
def ixS : List Str → Str → Option Nat
  | [], _ => none
  | y :: r, x => match decide (y = x) with
    | true => some 0
    | false => match ixS r x with
      | some i => some (i + 1)
      | none => none
def constD : Const → Option D
  | .none => some .non | .bool b => some (.bl b) | .int i => some (.int i)
  | .str s => match decide (s.length ≤ 100000) with
    | true => some (.str s)
    | false => none
  | _ => none
/-- the arguments of a call, as the parameters take them -/
def params (npos : Nat) (kws : List Str) : List (Str × Option D) → Nat → Option (List Ar)
  | [], _ => some []
  | (x, d) :: r, i => do
    let rest ← params npos kws r (i + 1)
    if i < npos then some (.at_ i :: rest)
    else match ixS kws x with
      | some j => some (.at_ (npos + j) :: rest)
      | none => match d with
        | some d => some (.df d :: rest)
        | none => none
def freeOf (sc : Scope) : List Str := sc.names.filterMap fun (x, k) => if k == .free then some x else none
/-- where a block's own names stand -/
def ownIx (N : List Str) : List (Str × NameKind) → List (Str × Nat)
  | [] => []
  | (x, k) :: r => match (k == .local || k == .cell) with
    | true => match ixS N x with
      | some i => (x, i) :: ownIx N r
      | none => ownIx N r
    | false => ownIx N r
def okN (x : Str) : Bool := !(x == ("__debug__" : Str)) && (!(x == ("__classdict__" : Str)) && !(x == ("__name__" : Str)))
inductive NK where
  | var (i : Nat)
  | glb
def nmK (C : CC) (x : Str) : Option NK := match okN x with
  | false => none
  | true => match C.sc.names.lookup x with
    | some .local => (ixS C.N x).map .var
    | some .cell => (ixS C.N x).map .var
    | some .free => (ixS C.N x).map .var
    | some .globalImplicit => some .glb
    | _ => none
def globD (C : CC) (x : Str) : Option D := match C.gl.lookup x with
  | some (.con d) => some d
  | some (.df i _) => some (.fn i)
  | some (.cl i _) => some (.cls i)
  | none => (tyNo x).map .ty
/-- a builtin's name -/
def bltn (C : CC) (x : Str) : Bool := match nmK C x with
  | some .glb => match C.gl.lookup x with
    | none => true
    | _ => false
  | _ => false
def baseOk : Expr → Bool
  | .Call (.Name _ _) [] [] _ => false
  | _ => true
def mapE (f : Expr → Option CE) : List Expr → Option (List CE)
  | [] => some []
  | e :: r => match f e with
    | some x => match mapE f r with
      | some xs => some (x :: xs)
      | none => none
    | none => none
def mapK (f : Expr → Option CE) : List Keyword → Option (List CE)
  | [] => some []
  | ⟨some _, e, _⟩ :: r => match f e with
    | some x => match mapK f r with
      | some xs => some (x :: xs)
      | none => none
    | none => none
  | _ => none
def compB (f : Expr → Option CE) (op : BoolOp) : List Expr → Option CE
  | [] => none
  | a :: r => match r with
    | [] => f a
    | _ :: _ => match f a, compB f op r with
      | some x, some y => some (match op with | .And => .and x y | .Or => .or x y)
      | _, _ => none

/-! ### texts that are alike -/
def eqL {α : Type} (f : (a b : α) → Option (PLift (a = b))) : (xs ys : List α) → Option (PLift (xs = ys))
  | [], [] => some ⟨rfl⟩
  | x :: xs, y :: ys => match f x y, eqL f xs ys with
    | some ⟨a⟩, some ⟨b⟩ => some ⟨by rw [a, b]⟩
    | _, _ => none
  | _, _ => none
def eqK (f : (a b : Expr) → Option (PLift (a = b))) : (a b : Keyword) → Option (PLift (a = b))
  | ⟨x, e, p⟩, ⟨y, d, q⟩ => match decEq x y, f e d, decEq p q with
    | .isTrue a, some ⟨b⟩, .isTrue c => some ⟨by rw [a, b, c]⟩
    | _, _, _ => none
def eqE : Nat → (a b : Expr) → Option (PLift (a = b))
  | 0, _, _ => none
  | n + 1, a, b => match a, b with
    | .Name x p, .Name y q => match decEq x y, decEq p q with
      | .isTrue a, .isTrue b => some ⟨by rw [a, b]⟩
      | _, _ => none
    | .Constant x k p, .Constant y l q => match decEq x y, decEq k l, decEq p q with
      | .isTrue a, .isTrue b, .isTrue c => some ⟨by rw [a, b, c]⟩
      | _, _, _ => none
    | .Tuple xs k p, .Tuple ys l q => match eqL (eqE n) xs ys, decEq k l, decEq p q with
      | some ⟨a⟩, .isTrue b, .isTrue c => some ⟨by rw [a, b, c]⟩
      | _, _, _ => none
    | .List xs p, .List ys q => match eqL (eqE n) xs ys, decEq p q with
      | some ⟨a⟩, .isTrue c => some ⟨by rw [a, c]⟩
      | _, _ => none
    | .BinOp a o b p, .BinOp c r d q => match eqE n a c, decEq o r, eqE n b d, decEq p q with
      | some ⟨a⟩, .isTrue b, some ⟨c⟩, .isTrue d => some ⟨by rw [a, b, c, d]⟩
      | _, _, _, _ => none
    | .UnaryOp o b p, .UnaryOp r d q => match decEq o r, eqE n b d, decEq p q with
      | .isTrue b, some ⟨c⟩, .isTrue d => some ⟨by rw [b, c, d]⟩
      | _, _, _ => none
    | .Attribute b o p, .Attribute d r q => match decEq o r, eqE n b d, decEq p q with
      | .isTrue b, some ⟨c⟩, .isTrue d => some ⟨by rw [b, c, d]⟩
      | _, _, _ => none
    | .Subscript a b p, .Subscript c d q => match eqE n a c, eqE n b d, decEq p q with
      | some ⟨b⟩, some ⟨c⟩, .isTrue d => some ⟨by rw [b, c, d]⟩
      | _, _, _ => none
    | .Call f xs ks p, .Call g ys ls q => match eqE n f g, eqL (eqE n) xs ys, eqL (eqK (eqE n)) ks ls, decEq p q with
      | some ⟨a⟩, some ⟨b⟩, some ⟨c⟩, .isTrue d => some ⟨by rw [a, b, c, d]⟩
      | _, _, _, _ => none
    | _, _ => none
def eqG : (a b : Arg) → Option (PLift (a = b))
  | ⟨x, none, p⟩, ⟨y, none, q⟩ => match decEq x y, decEq p q with
    | .isTrue a, .isTrue b => some ⟨by rw [a, b]⟩
    | _, _ => none
  | _, _ => none
def eqA : (a b : Arguments) → Option (PLift (a = b))
  | ⟨[], xs, none, [], [], none, []⟩, ⟨[], ys, none, [], [], none, []⟩ => match eqL eqG xs ys with
    | some ⟨a⟩ => some ⟨by rw [a]⟩
    | none => none
  | _, _ => none
/-- the number of a lambda -/
def lamIx (a : Arguments) (b : Expr) (sc : Scope) (p : Pos) : List (Nat × Expr) → Option Nat
  | [] => none
  | (i, .Lambda a' b' sc' p') :: r => match decide (p.line = p'.line) && decide (p.col = p'.col) with
    | true => match eqA a a', eqE 30 b b', decEq sc sc', decEq p p' with
      | some ⟨_⟩, some ⟨_⟩, .isTrue _, .isTrue _ => some i
      | _, _, _, _ => none
    | false => lamIx a b sc p r
  | _ :: r => lamIx a b sc p r

/-! ### expressions -/
abbrev FE := CC → Expr → Option CE
def ix1 (N : List Str) : List Str → Option (List Nat)
  | [] => some []
  | x :: r => match ixS N x, ix1 N r with
    | some i, some is => some (i :: is)
    | _, _ => none
/-- a block's captured names are cells of the frame -/
def freeOk (sc : Scope) : List (Str × NameKind) → Bool
  | [] => true
  | (x, k) :: r => match k with
    | .free => match sc.names.lookup x with
      | some .cell => freeOk sc r
      | some .free => freeOk sc r
      | _ => false
    | _ => freeOk sc r
def uniq : List (Str × NameKind) → Bool
  | [] => true
  | (x, _) :: r => match r.lookup x with
    | none => uniq r
    | some _ => false
def lamC (C : CC) (a : Arguments) (b : Expr) (sc : Scope) (p : Pos) : Option CE := match C.blk with
  | true => none
  | false => match freeOk C.sc sc.names with
    | false => none
    | true => match lamIx a b sc p C.lamT, ix1 C.N (freeOf sc) with
      | some i, some cs => some (.lam i cs)
      | _, _ => none
def subC (f : Expr → Option CE) (a : Expr) (i : Expr) : Option CE := match f a with
  | none => none
  | some x => match i with
    | .Slice lo hi st _ => match lo, hi, st with
      | none, none, none => some (.pr .sl00 [x])
      | some l, none, none => (f l).map fun y => .pr .sl10 [x, y]
      | none, some h, none => (f h).map fun y => .pr .sl01 [x, y]
      | some (.Constant (.int i) _ _), some h, none => (f h).map fun y => .pr .sl11 [x, .lit (.int i), y]
      | none, none, some (.UnaryOp .USub (.Constant (.int 1) _ _) _) => some (.pr .slr [x])
      | _, _, _ => none
    | i => (f i).map fun y => .pr .idx [x, y]
/-- a name, a constant -/
def CE.pl : CE → Bool
  | .lit _ => true
  | .var _ => true
  | _ => false
mutual
/-- names alone (also in the places of a list) -/
def Tg.pl : Tg → Bool
  | .nm _ => true
  | .tp ts => tgsPl ts
  | .sb o i => o.pl && i.pl
def tgsPl : List Tg → Bool
  | [] => true
  | t :: ts => match t.pl with
    | true => tgsPl ts
    | false => false
end
def mapT (f : Expr → Option Tg) : List Expr → Option (List Tg)
  | [] => some []
  | e :: r => match f e with
    | some t => match mapT f r with
      | some ts => some (t :: ts)
      | none => none
    | none => none
/-- a target -/
def compT (f : Expr → Option CE) (C : CC) : Nat → Expr → Option Tg
  | 0, _ => none
  | n + 1, e => match e with
    | .Name x _ => match okN x, C.sc.names.lookup x with
      | true, some .local => (ixS C.N x).map .nm
      | true, some .cell => (ixS C.N x).map .nm
      | _, _ => none
    | .Tuple es _ _ => match C.hot with
      | none => match mapT (compT f C n) es with
        | some ts => match tgsPl ts with
          | true => some (.tp ts)
          | false => none
        | none => none
      | some _ => none
    | .Subscript o i _ => match C.hot with
      | none => match i with
        | .Slice _ _ _ _ => none
        | i => match f o, f i with
          | some x, some y => some (.sb x y)
          | _, _ => none
      | some _ => none
    | _ => none
mutual
def Tg.ixs : Tg → List Nat
  | .nm i => [i]
  | .tp ts => tgsIxs ts
  | .sb _ _ => []
def tgsIxs : List Tg → List Nat
  | [] => []
  | t :: ts => t.ixs ++ tgsIxs ts
end
mutual
/-- no place of a list among them -/
def Tg.nosb : Tg → Bool
  | .nm _ => true
  | .tp ts => tgsNosb ts
  | .sb _ _ => false
def tgsNosb : List Tg → Bool
  | [] => true
  | t :: ts => match t.nosb with
    | true => tgsNosb ts
    | false => false
end
def isTup : Expr → Bool
  | .Tuple _ _ _ => true
  | _ => false
/-- what is walked -/
def srcC (f : Expr → Option CE) (C : CC) (tg : Expr) (it : Expr) : Option Src := match it with
  | .Set _ _ _ => none
  | .Call (.Name g _) as [] _ => match bltn C g with
    | true => match g == ("range" : Str) with
      | true => match as with
        | [a] => (f a).map .rng1
        | [a, b] => match f a, f b with
          | some x, some y => some (.rng2 x y)
          | _, _ => none
        | _ => none
      | false => match g == ("enumerate" : Str) with
        | true => match as, isTup tg with
          | [a], true => (f a).map .enm
          | _, _ => none
        | false => match g == ("zip" : Str) with
          | true => match as, isTup tg with
            | [a, b], true => match f a, f b with
              | some x, some y => some (.zip x y)
              | _, _ => none
            | _, _ => none
          | false => (f it).map .val
    | false => (f it).map .val
  | it => (f it).map .val
def subIx : List Nat → List Nat → Bool
  | [], _ => true
  | i :: r, js => match js.contains i with
    | true => subIx r js
    | false => false
def blkC (C : CC) (sc : Scope) : CC := { C with sc := sc, blk := true }
def lcC (F : FE) (C : CC) (elt t it : Expr) (ifs : List Expr) (sc : Scope) : Option CE := match C.hot with
  | some _ => none
  | none => match (sc.kind == .function) && (uniq sc.names && freeOk C.sc sc.names) with
    | false => none
    | true => match srcC (F C) C t it, compT (F (blkC C sc)) (blkC C sc) 5 t, mapE (F (blkC C sc)) ifs, F (blkC C sc) elt with
      | some s, some g, some cs, some e => match subIx g.ixs ((ownIx C.N sc.names).map (·.2)) && (g.nosb && decide (cs.length ≤ 1)) with
        | true => some (.comp g s cs e ((ownIx C.N sc.names).map (·.2)))
        | false => none
      | _, _, _, _ => none
def attC (f : Expr → Option CE) (C : CC) (o : Expr) (a : Str) : Option CE := match C.hot with
  | none => match baseOk o with
    | true => (f o).map fun x => .pr (.fld a) [x]
    | false => none
  | some y => match o with
    | .Name z _ => match z == y with
      | true => match nmK C z with
        | some (.var i) => some (.exf i a)
        | _ => none
      | false => none
    | _ => none
/-! calls -/
/-- C | (C1, ..), as classes -/
def clsOf1 (C : CC) : Expr → Option D
  | .Name x _ => match nmK C x with
    | some .glb => match globD C x with
      | some d => match clsD d with
        | true => some d
        | false => none
      | none => none
    | _ => none
  | _ => none
def clsOfs (C : CC) : List Expr → Option (List D)
  | [] => some []
  | e :: r => match clsOf1 C e, clsOfs C r with
    | some d, some ds => some (d :: ds)
    | _, _ => none
def clsOf (C : CC) : Expr → Option (List D)
  | .Tuple es _ _ => match clsOfs C es with
    | some (d :: ds) => match Nat.ble (lenN (d :: ds)) 100000 with
      | true => some (d :: ds)
      | false => none
    | _ => none
  | e => match clsOf1 C e with
    | some d => some [d]
    | none => none
def hotC (f : Expr → Option CE) (C : CC) (y : Str) (g : Expr) (as : List Expr) (ks : List Keyword) : Option CE := match g, as, ks with
  | .Name g _, [a], [] => match bltn C g && (g == ("repr" : Str)) with
    | true => (f a).map fun x => .pr .repr [x]
    | false => none
  | .Name g _, [.Name z _, c], [] => match bltn C g && ((g == ("isinstance" : Str)) && (z == y)) with
    | true => match nmK C z, clsOf C c with
      | some (.var i), some cs => some (.exi i cs)
      | _, _ => none
    | false => none
  | _, _, _ => none
def methC (f : Expr → Option CE) (o : Expr) (m : Str) (ap cp : Pos) (as : List Expr) : Option CE := match baseOk o && ((ap.endLine == cp.line) && decide (as.length < 20)) with
  | false => none
  | true => match m == ("get" : Str) with
    | true => match as with
      | [a, b] => match f o, f a, f b with
        | some x, some y, some z => some (.gt2 x y z)
        | _, _, _ => none
      | _ => none
    | false => match methNo m as.length, f o, mapE f as with
      | some p, some x, some xs => some (.met p x xs)
      | _, _, _ => none
/-- tuple(range(..)), list(range(..)), dict(zip(..)) -/
def nestC (f : Expr → Option CE) (C : CC) (g h : Str) (bs : List Expr) : Option CE := match bltn C h with
  | false => none
  | true => match h == ("range" : Str) with
    | true => match g == ("tuple" : Str), g == ("list" : Str), bs with
      | true, _, [a] => (f a).map fun x => .pr .tR1 [x]
      | true, _, [a, b] => match f a, f b with
        | some x, some y => some (.pr .tR2 [x, y])
        | _, _ => none
      | false, true, [a] => (f a).map fun x => .pr .lR1 [x]
      | false, true, [a, b] => match f a, f b with
        | some x, some y => some (.pr .lR2 [x, y])
        | _, _ => none
      | _, _, _ => none
    | false => match (h == ("zip" : Str)) && (g == ("dict" : Str)), bs with
      | true, [a, b] => match f a, f b with
        | some x, some y => some (.pr .dzip [x, y])
        | _, _ => none
      | _, _ => none
def isNest (C : CC) : List Expr → Option (Str × List Expr)
  | [.Call (.Name h _) bs [] _] => match bltn C h && ((h == ("range" : Str)) || (h == ("zip" : Str)) || (h == ("enumerate" : Str))) with
    | true => some (h, bs)
    | false => none
  | _ => none
def bltC (f : Expr → Option CE) (C : CC) (g : Str) (as : List Expr) (ks : List Keyword) : Option CE := match ks with
  | [] => match isNest C as with
    | some (h, bs) => nestC f C g h bs
    | none => match callNo g as.length, mapE f as with
      | some p, some xs => some (.pr p xs)
      | _, _ => none
  | _ => none
def noDf (ps : List (Str × Option D)) : List (Str × Option D) := ps.map fun p => (p.1, none)
def dfC (f : Expr → Option CE) (C : CC) (i : Nat) (ps : List (Str × Option D)) (as : List Expr) (ks : List Keyword) : Option CE := match decide ((i, as.length, ks.filterMap (·.arg)) ∈ C.shp) with
  | false => none
  | true => match params as.length (ks.filterMap (·.arg)) (noDf ps) 0, mapE f as, mapK f ks with
    | some ar, some xs, some ys => some (.call i (xs ++ ys) ar)
    | _, _, _ => none
def mkC (f : Expr → Option CE) (i : Nat) (ps : List (Str × Option D)) (as : List Expr) (ks : List Keyword) : Option CE := match ps, as, ks with
  | [(_, _)], [e], [] => (f e).map fun x => .mk i [x] [.at_ 0]
  | [(g, _)], [], [⟨some h, e, _⟩] => match decide (h = g) with
    | true => (f e).map fun x => .mk i [x] [.at_ 0]
    | false => none
  | _, _, _ => none
def callC (f : Expr → Option CE) (C : CC) (g : Expr) (as : List Expr) (ks : List Keyword) (cp : Pos) : Option CE := match C.hot with
  | some y => hotC f C y g as ks
  | none => match g with
    | .Attribute o m ap => match ks with
      | [] => methC f o m ap cp as
      | _ => none
    | .Name x _ => match nmK C x with
      | some (.var i) => match ks with
        | [] => (mapE f as).map fun xs => .cal (.var i) xs
        | _ => none
      | some .glb => match C.gl.lookup x with
        | some (.df i ps) => match x == ("_law_draw" : Str), x == ("_law_pot" : Str), as, ks with
          | true, _, [a, b], [] => match C.drw, f a, f b with
            | true, some y, some z => some (.drw y z)
            | _, _, _ => none
          | false, true, [a, b], [] => match C.drw, f a, f b with
            | true, some y, some z => some (.pot y z)
            | _, _, _ => none
          | false, false, as, ks => dfC f C i ps as ks
          | _, _, _, _ => none
        | some (.cl i ps) => mkC f i ps as ks
        | some (.con _) => none
        | none => bltC f C x as ks
      | none => none
    | _ => none
def cmpC (f : Expr → Option CE) (a : Expr) (ops : List CmpOp) (bs : List Expr) : Option CE := match ops, bs with
  | [op], [b] => match behindInMarks op b with
    | true => none
    | false => match f a, f b with
      | some x, some y => some (.pr (cmpNo op) [x, y])
      | _, _ => none
  | [op, op'], [b, c] => match lastMarks [op, op'] [b, c] with
    | true => none
    | false => match f a, f b, f c with
      | some x, some y, some z => some (.chn (cmpNo op) (cmpNo op') x y z)
      | _, _, _ => none
  | _, _ => none
def stepCE (F : FE) (C : CC) (e : Expr) : Option CE := match e with
  | .Constant c _ _ => (constD c).map .lit
  | .Name x _ => match nmK C x with
    | some (.var i) => some (.var i)
    | some .glb => (globD C x).map .lit
    | none => none
  | .BinOp a op b _ => match opNo op, F C a, F C b with
    | some p, some x, some y => some (.pr p [x, y])
    | _, _, _ => none
  | .UnaryOp op a _ => match op with
    | .Not => (F C a).map fun x => .pr .not_ [x]
    | .USub => (F C a).map fun x => .pr .neg [x]
    | _ => none
  | .BoolOp op es _ => compB (F C) op es
  | .Compare a ops bs _ => cmpC (F C) a ops bs
  | .IfExp c a b _ => match F C c, F C a, F C b with
    | some z, some x, some y => some (.ife z x y)
    | _, _, _ => none
  | .Tuple es _ _ => (mapE (F C) es).map fun xs => .pr .tup xs
  | .List es _ => (mapE (F C) es).map fun xs => .pr .lst xs
  | .Dict ks vs _ => match ks, vs with
    | [], [] => some (.pr .dic [])
    | _, _ => none
  | .Subscript a i _ => subC (F C) a i
  | .Attribute o f _ => attC (F C) C o f
  | .ListComp elt gs sc _ => match gs with
    | [⟨t, it, ifs, 0⟩] => lcC F C elt t it ifs sc
    | _ => none
  | .Lambda a b sc p => match C.hot with
    | none => lamC C a b sc p
    | some _ => none
  | .Call g as ks p => callC (F C) C g as ks p
  | _ => none
def cE : Nat → FE
  | 0 => fun _ _ => none
  | n + 1 => stepCE (cE n)

/-! ### statements -/
/-- may the stores be exchanged: the names -/
def parN (C : CC) (line : Nat) : List Expr → Option (List Str)
  | [] => some []
  | .Name x p :: r => match (C.sc.names.lookup x == some .local) && (okN x && (p.line == line)) with
    | true => match parN C line r with
      | some xs => some (x :: xs)
      | none => none
    | false => none
  | _ => none
def headLine : List Expr → Nat
  | [] => 0
  | e :: _ => e.pos.line
/-- some xs: exchanged -/
def swC (C : CC) (ts vs : List Expr) : Option (List Str) := match ((ts.length == 2) || (ts.length == 3)) && (vs.length == ts.length) with
  | false => none
  | true => match parN C (headLine ts) ts with
    | none => none
    | some xs => match (xs.eraseDups.length == xs.length) && (!(vs.all (foldedForSure 8)) && !(vs.all (constantsAlone 8))) with
      | true => some xs
      | false => none
/-- a target that is no plain name of the line -/
def notPar (C : CC) (line : Nat) : List Expr → Bool
  | [] => false
  | e :: r => match e with
    | .Name x p => match (C.sc.names.lookup x == some .cell) || !(p.line == line) with
      | true => true
      | false => notPar C line r
    | _ => true
/-- .. surely not -/
def noSw (C : CC) (t e : Expr) : Bool := match t, e with
  | .Tuple ts _ _, .Tuple vs _ _ => !((ts.length == 2) || (ts.length == 3)) || (!(vs.length == ts.length) || (notPar C (headLine ts) ts || (vs.all (foldedForSure 8))))
  | _, _ => true
def asgC (f : Expr → Option CE) (C : CC) (t e : Expr) : Option CS := match noSw C t e with
  | true => match compT f C 5 t, f e with
    | some g, some x => some (.asg g x)
    | _, _ => none
  | false => match t, e with
    | .Tuple ts _ _, .Tuple vs _ _ => match swC C ts vs with
      | some xs => match ix1 C.N xs, mapE f vs with
        | some is, some ys => match decide is.Nodup with
          | true => some (.asg (.tp (is.map .nm)) (.pr .tup ys))
          | false => none
        | _, _ => none
      | none => none
    | _, _ => none
abbrev FS := CC → Stmt → Option CS
def mapS (f : Stmt → Option CS) : List Stmt → Option (List CS)
  | [] => some []
  | e :: r => match f e with
    | some x => match mapS f r with
      | some xs => some (x :: xs)
      | none => none
    | none => none
def clsNo (C : CC) (x : Str) : Option Nat := match nmK C x with
  | some .glb => match C.gl.lookup x with
    | some (.cl i _) => match Nat.blt i 100 with
      | true => some i
      | false => none
    | none => tyNo x
    | _ => none
  | _ => none
def hotOf (C : CC) (z : Str) : CC := { C with hot := some z }
def hdsC (F : FS) (C : CC) : List ExceptHandler → Option (List (Nat × Option Nat × List CS))
  | [] => some []
  | .ExceptHandler (some (.Name x _)) nm b _ :: hs => match b, clsNo C x, hdsC F C hs with
    | _ :: _, some k, some r => match nm with
      | none => match mapS (F (hotOf C "")) b with
        | some y => some ((k, none, y) :: r)
        | none => none
      | some z => match (C.sc.names.lookup z == some .local) && okN z, ixS C.N z, mapS (F (hotOf C z)) b with
        | true, some i, some y => some ((k, some i, y) :: r)
        | _, _, _ => none
    | _, _, _ => none
  | _ => none
def rseC (f : Expr → Option CE) (C : CC) (e : Expr) : Option CS := match e with
  | .Call (.Name x _) [a] [] _ => match nmK C x with
    | some .glb => match C.gl.lookup x with
      | some (.cl i ps) => match ps with
        | [(_, _)] => (f a).map fun y => .rse i [y] [.at_ 0]
        | _ => none
      | _ => none
    | _ => none
  | _ => none
def exprC (f : Expr → Option CE) (e : Expr) : Option CS := match e with
  | .ListComp _ _ _ _ => none
  | .SetComp _ _ _ _ => none
  | .DictComp _ _ _ _ _ => none
  | e => (f e).map .exp
def stepCS (E : FE) (F : FS) (C : CC) (s : Stmt) : Option CS := match C.hot with
  | some _ => match s with
    | .Assign [t] e _ => asgC (E C) C t e
    | .Return (some e) _ => (E C e).map .ret
    | .Return none _ => some (.ret (.lit .non))
    | .Pass _ => some .pass
    | _ => none
  | none => match s with
    | .Assign [t] e _ => asgC (E C) C t e
    | .Expr e _ => exprC (E C) e
    | .If c a b _ => match E C c, mapS (F C) a, mapS (F C) b with
      | some x, some y, some z => some (.ife x y z)
      | _, _, _ => none
    | .While c b [] _ => match E C c, mapS (F C) b with
      | some x, some y => some (.whl x y)
      | _, _ => none
    | .For t it b [] _ => match compT (E C) C 5 t, srcC (E C) C t it, mapS (F C) b with
      | some g, some s, some y => some (.for_ g s y)
      | _, _, _ => none
    | .Return (some e) _ => (E C e).map .ret
    | .Return none _ => some (.ret (.lit .non))
    | .Raise (some e) none _ => rseC (E C) C e
    | .Try b hs [] [] _ => match hs, mapS (F C) b, hdsC F C hs with
      | _ :: _, some x, some y => some (.try_ x y)
      | _, _, _ => none
    | .Pass _ => some .pass
    | .Break _ => some .brk
    | .Continue _ => some .cnt
    | _ => none
def cS : Nat → FS
  | 0 => fun _ _ => none
  | n + 1 => stepCS (cE 60) (cS n)

/-- a last `return` apart -/
def splitRet : List Stmt → Option (List Stmt × Expr)
  | [] => none
  | s :: r => match r with
    | [] => match s with
      | .Return (some e) _ => some ([], e)
      | _ => none
    | _ :: _ => match splitRet r with
      | some (i, e) => some (s :: i, e)
      | none => none
/-- a def's body -/
def bodyC (C : CC) (cells : List Nat) (b : List Stmt) : Option (List CS × Option CE) := match cells with
  | [] => match mapS (cS 60 C) b with
    | some cs => some (cs, none)
    | none => none
  | _ :: _ => match splitRet b with
    | some (ini, e) => match mapS (cS 60 C) ini, cE 60 C e with
      | some cs, some ce => some (cs, some ce)
      | _, _ => none
    | none => match mapS (cS 60 C) b with
      | some cs => some (cs, none)
      | none => none

/-! ### the whole text -/
mutual
/-- the names that comprehensions bind, the lambdas -/
def ownE : Nat → Expr → List Str
  | 0, _ => []
  | n + 1, e => match e with
    | .ListComp elt gs sc _ => (sc.names.filterMap fun (x, k) => if k == .local || k == .cell then some x else none) ++ (ownE n elt ++ gs.flatMap fun g => ownE n g.iter ++ ownEs n g.ifs)
    | .BoolOp _ es _ => ownEs n es
    | .BinOp a _ b _ => ownE n a ++ ownE n b
    | .UnaryOp _ a _ => ownE n a
    | .Compare a _ es _ => ownE n a ++ ownEs n es
    | .IfExp a b c _ => ownE n a ++ (ownE n b ++ ownE n c)
    | .Tuple es _ _ => ownEs n es
    | .List es _ => ownEs n es
    | .Dict _ vs _ => ownEs n vs
    | .Subscript a b _ => ownE n a ++ ownE n b
    | .Slice a b c _ => (a.toList ++ b.toList ++ c.toList).flatMap (ownE n)
    | .Call f as ks _ => ownE n f ++ (ownEs n as ++ ks.flatMap fun k => ownE n k.value)
    | .Attribute a _ _ => ownE n a
    | _ => []
def ownEs : Nat → List Expr → List Str
  | 0, _ => []
  | _ + 1, [] => []
  | n + 1, e :: es => ownE n e ++ ownEs n es
end
mutual
def lamE : Nat → Expr → List Expr
  | 0, _ => []
  | n + 1, e => match e with
    | .Lambda _ _ _ _ => [e]
    | .ListComp elt gs _ _ => lamE n elt ++ gs.flatMap fun g => lamE n g.iter ++ lamEs n g.ifs
    | .BoolOp _ es _ => lamEs n es
    | .BinOp a _ b _ => lamE n a ++ lamE n b
    | .UnaryOp _ a _ => lamE n a
    | .Compare a _ es _ => lamE n a ++ lamEs n es
    | .IfExp a b c _ => lamE n a ++ (lamE n b ++ lamE n c)
    | .Tuple es _ _ => lamEs n es
    | .List es _ => lamEs n es
    | .Dict _ vs _ => lamEs n vs
    | .Subscript a b _ => lamE n a ++ lamE n b
    | .Slice a b c _ => (a.toList ++ b.toList ++ c.toList).flatMap (lamE n)
    | .Call f as ks _ => lamE n f ++ (lamEs n as ++ ks.flatMap fun k => lamE n k.value)
    | .Attribute a _ _ => lamE n a
    | _ => []
def lamEs : Nat → List Expr → List Expr
  | 0, _ => []
  | _ + 1, [] => []
  | n + 1, e :: es => lamE n e ++ lamEs n es
end
mutual
def exprs : Nat → Stmt → List Expr
  | 0, _ => []
  | n + 1, s => match s with
    | .Assign ts e _ => ts ++ [e]
    | .AugAssign t _ e _ => [t, e]
    | .Expr e _ => [e]
    | .If c a b _ => c :: (exprss n a ++ exprss n b)
    | .While c b _ _ => c :: exprss n b
    | .For t i b _ _ => [t, i] ++ exprss n b
    | .Return e _ => e.toList
    | .Raise e _ _ => e.toList
    | .Try b hs _ _ _ => exprss n b ++ hs.flatMap fun h => match h with | .ExceptHandler _ _ b _ => exprss n b
    | _ => []
def exprss : Nat → List Stmt → List Expr
  | 0, _ => []
  | _ + 1, [] => []
  | n + 1, s :: ss => exprs n s ++ exprss n ss
end
def argNames (a : Arguments) : List Str := a.args.map (·.arg)
def slotsOf (ps : List Str) (sc : Scope) (es : List Expr) : List Str :=
  (ps ++ (sc.names.filterMap fun (x, k) => if k == .local || k == .cell || k == .free then some x else none) ++ ownEs 100 es).eraseDups
def dfltOf (a : Arguments) : List (Str × Option D) :=
  let k := a.args.length - a.defaults.length
  a.args.zipIdx.map fun (x, i) => (x.arg, if i < k then none else match a.defaults[i - k]? with | some (.Constant c _ _) => constD c | _ => none)
end
end Ev
end
section
set_option Elab.async false
set_option linter.all false
set_option maxRecDepth 100000
namespace Ev
noncomputable section
open PySem
structure TopI where
  gl : List (Str × Gl) := []
  nd : Nat := 0
  nc : Nat := 0
  defs : List (Str × Arguments × List Stmt × Scope) := []
  cls : List (Str × Str × List Str) := []   -- name, base, fields
def topOf : List Stmt → TopI → TopI
  | [], t => t
  | .FunctionDef n a b _ _ _ sc _ _ _ :: r, t => topOf r { t with gl := (n, .df t.nd (dfltOf a)) :: t.gl, nd := t.nd + 1, defs := t.defs ++ [(n, a, b, sc)] }
  | .ClassDef n bs _ b _ _ _ _ _ _ _ :: r, t =>
    let base := match bs with | [.Name x _] => x | _ => "?"
    let own := b.findSome? fun s => match s with | .FunctionDef m a _ _ _ _ _ _ _ _ => if m == ("__init__" : Str) then some ((dfltOf a).drop 1) else none | _ => none
    let ps := match own with
      | some ps => ps
      | none => match t.gl.lookup base with
        | some (.cl _ ps) => ps
        | _ => []
    topOf r { t with gl := (n, .cl t.nc ps) :: t.gl, nc := t.nc + 1, cls := t.cls ++ [(n, base, ps.map (·.1))] }
  | .Assign [.Name x _] (.Constant c _ _) _ :: r, t => match constD c with
    | some d => topOf r { t with gl := (x, .con d) :: t.gl }
    | none => topOf r t
  | _ :: r, t => topOf r t
def belowOf (cls : List (Str × Str × List Str)) : Nat → Nat → Nat → Option Bool
  | 0, _, _ => none
  | n + 1, i, j => if i == j then some true else match cls[i]? with
    | none => none
    | some (_, b, _) => match cls.findIdx? (fun p => p.1 == b) with
      | some k => belowOf cls n k j
      | none => some (tyNo b == some j)
structure Built where
  pg : Pg
  bad : List Str
  names : List Str
mutual
def subsE : Nat → Expr → List Expr
  | 0, _ => []
  | n + 1, e => e :: match e with
    | .ListComp elt gs _ _ => subsE n elt ++ gs.flatMap fun g => subsE n g.iter ++ subsEs n g.ifs
    | .BoolOp _ es _ => subsEs n es
    | .BinOp a _ b _ => subsE n a ++ subsE n b
    | .UnaryOp _ a _ => subsE n a
    | .Compare a _ es _ => subsE n a ++ subsEs n es
    | .IfExp a b c _ => subsE n a ++ (subsE n b ++ subsE n c)
    | .Tuple es _ _ => subsEs n es
    | .List es _ => subsEs n es
    | .Dict _ vs _ => subsEs n vs
    | .Subscript a b _ => subsE n a ++ subsE n b
    | .Slice a b c _ => (a.toList ++ b.toList ++ c.toList).flatMap (subsE n)
    | .Call f as ks _ => subsE n f ++ (subsEs n as ++ ks.flatMap fun k => subsE n k.value)
    | .Attribute a _ _ => subsE n a
    | .Lambda _ b _ _ => subsE n b
    | _ => []
def subsEs : Nat → List Expr → List Expr
  | 0, _ => []
  | _ + 1, [] => []
  | n + 1, e :: es => subsE n e ++ subsEs n es
end
def shpOf (gl : List (Str × Gl)) (es : List Expr) : List (Nat × Nat × List Str) := ((es.flatMap (subsE 100)).filterMap fun e => match e with
  | .Call (.Name f _) as ks _ => match gl.lookup f with
    | some (.df i _) => some (i, as.length, ks.filterMap (·.arg))
    | _ => none
  | _ => none).eraseDups
def numbered : Nat → List (List Expr) → List (List (Nat × Expr))
  | _, [] => []
  | n, l :: r => (l.zipIdx.map fun x => (n + x.2, x.1)) :: numbered (n + l.length) r
def lamSc : Expr → Scope
  | .Lambda _ _ sc _ => sc
  | _ => default
def docOff : List Stmt → List Stmt
  | b => b
def build (p : Program) : Built :=
  let t := topOf p.main.body {}
  let lamsOf : List (List (Nat × Expr)) := numbered 0 (t.defs.map fun d => lamEs 100 (exprss 100 d.2.2.1))
  let shp := shpOf t.gl (t.defs.flatMap fun d => exprss 100 d.2.2.1)
  let df : List (Str × Option Df) := (t.defs.zip lamsOf).map fun q =>
    let (n, a, b, sc) := q.1
    let ls := q.2
    let N := slotsOf (argNames a) sc (exprss 100 b)
    let caps := ls.flatMap fun l => freeOf (lamSc l.2)
    let cells := N.zipIdx.filterMap fun x => if caps.contains x.1 then some x.2 else none
    let C : CC := ⟨N, sc, t.gl, ls, shp, none, false, true⟩
    match bodyC C cells b with
    | some (body, fin) => (n, some (Df.mk (argNames a).length N.length cells body fin))
    | none => (n, none)
  let lm : List (Str × Option Lm) := (t.defs.zip lamsOf).flatMap fun q => q.2.map fun l => match l.2 with
    | .Lambda la lb lsc _ =>
      let N := (argNames la ++ freeOf lsc ++ slotsOf [] lsc [lb]).eraseDups
      let C : CC := ⟨N, lsc, t.gl, [], shp, none, false, true⟩
      match cE 60 C lb with
      | some body => (q.1.1, some (Lm.mk (argNames la).length N.length body))
      | none => (q.1.1 ++ (".lambda" : Str), none)
    | _ => (q.1.1, none)
  let bad := (df.filterMap fun (n, d) => if d.isNone then some n else none) ++ (lm.filterMap fun (n, d) => if d.isNone then some n else none)
  ⟨⟨T.ofL (df.map fun (_, d) => d.getD default), T.ofL (lm.map fun (_, d) => d.getD default), fun i j => belowOf t.cls 20 i j, T.ofL (t.cls.map fun (_, _, f) => f)⟩, bad, t.defs.map (·.1)⟩
/-- the ways of a tree, with digits by a seed -/
def Res.run {α : Type} : Nat → Nat → Res α → Res α
  | 0, _, _ => .fail
  | n + 1, s, .draw m k => Res.run n ((s * 48271 + 11) % 2147483647) (k (s / 7 % m))
  | _ + 1, _, r => r
mutual
def showD : Nat → St → D → String
  | 0, _, _ => "?"
  | n + 1, S, d => match d with
    | .non => "None" | .bl b => toString b | .int i => toString i | .str s => s!"'{s.toString}'" | .tup xs => "(" ++ showDs n S xs ++ ")"
    | .ref l => match S.get l with
      | some (.lst xs) => "[" ++ showDs n S xs ++ "]"
      | some (.dic xs) => "{" ++ showDs n S (xs.map (·.1)) ++ ":" ++ showDs n S (xs.map (·.2)) ++ "}"
      | some (.exn c _) => s!"exn{c}"
      | _ => s!"<{l}>"
    | .fn i => s!"fn{i}" | .cls i => s!"cls{i}" | .ty i => s!"ty{i}"
def showDs : Nat → St → List D → String
  | 0, _, _ => "?"
  | _ + 1, _, [] => ""
  | n + 1, S, x :: xs => showD n S x ++ ", " ++ showDs n S xs
end
def showR (r : Res D) : String := match r with
  | .ok d S => s!"ok {showD 100 S d} places {S.n}"
  | .exc c fs S => s!"exc {c} {showDs 100 S (fs.map (·.2))}"
  | .draw n _ => s!"draw {n}"
  | .fail => "fail"
end
end Ev
end
section
set_option Elab.async false
set_option linter.all false
set_option maxRecDepth 100000
set_option maxHeartbeats 2000000
/-! THE RELATION between the evaluator's values and store and the abstract heap. -/
namespace Ev
noncomputable section
open PySem PySem.Spec PyProof.Rows L2

/-! ### the table by numbers -/
theorem odd_inj {j k : Nat} (hj : Nat.beq (Nat.mod j 2) 1 = true) (hk : Nat.beq (Nat.mod k 2) 1 = true) (h : Nat.div j 2 = Nat.div k 2) : j = k := by
  have a := Nat.eq_of_beq_eq_true hj
  have b := Nat.eq_of_beq_eq_true hk
  have h : j / 2 = k / 2 := h
  have a : j % 2 = 1 := a
  have b : k % 2 = 1 := b
  omega
theorem even_inj {j k : Nat} (hj : Nat.beq (Nat.mod j 2) 1 = false) (hk : Nat.beq (Nat.mod k 2) 1 = false) (j0 : Nat.beq j 0 = false) (k0 : Nat.beq k 0 = false) (h : Nat.sub (Nat.div j 2) 1 = Nat.sub (Nat.div k 2) 1) : j = k := by
  have a : j % 2 ≠ 1 := Nat.ne_of_beq_eq_false hj
  have b : k % 2 ≠ 1 := Nat.ne_of_beq_eq_false hk
  have a0 : j ≠ 0 := Nat.ne_of_beq_eq_false j0
  have b0 : k ≠ 0 := Nat.ne_of_beq_eq_false k0
  have h : j / 2 - 1 = k / 2 - 1 := h
  omega
theorem T.get_put {α : Type} (o : α) : ∀ (t : T α) (k j : Nat) (x : α), (t.put k o).get j = some x → (j = k ∧ x = o) ∨ (j ≠ k ∧ t.get j = some x)
  | .lf, k, j, x, h => by
    rw [T.put_lf] at h
    cases hk : Nat.beq k 0 with
    | true =>
      rw [hk] at h
      have k0 : k = 0 := Nat.eq_of_beq_eq_true hk
      first | rw [T.get_nd] at h | rw [T.get_lf] at h
      cases hj : Nat.beq j 0 with
      | true =>
        rw [hj] at h
        have j0 : j = 0 := Nat.eq_of_beq_eq_true hj
        exact .inl ⟨j0.trans k0.symm, (Option.some.inj h).symm⟩
      | false =>
        rw [hj] at h
        cases hm : Nat.beq (Nat.mod j 2) 1 <;> rw [hm] at h <;> exact nomatch h
    | false =>
      rw [hk] at h
      exact nomatch h
  | .nd v l r, k, j, x, h => by
    rw [T.put_nd] at h
    rw [T.get_nd]
    cases hk : Nat.beq k 0 with
    | true =>
      rw [hk] at h
      have k0 : k = 0 := Nat.eq_of_beq_eq_true hk
      rw [T.get_nd] at h
      cases hj : Nat.beq j 0 with
      | true =>
        rw [hj] at h
        exact .inl ⟨(Nat.eq_of_beq_eq_true hj).trans k0.symm, (Option.some.inj h).symm⟩
      | false =>
        rw [hj] at h
        exact .inr ⟨fun e => Nat.ne_of_beq_eq_false hj (e.trans k0), h⟩
    | false =>
      rw [hk] at h
      have k0 : k ≠ 0 := Nat.ne_of_beq_eq_false hk
      cases hm : Nat.beq (Nat.mod k 2) 1 with
      | true =>
        rw [hm] at h
        rw [T.get_nd] at h
        cases hj : Nat.beq j 0 with
        | true =>
          rw [hj] at h
          exact .inr ⟨fun e => k0 (e.symm.trans (Nat.eq_of_beq_eq_true hj)), h⟩
        | false =>
          rw [hj] at h
          cases hn : Nat.beq (Nat.mod j 2) 1 with
          | true =>
            rw [hn] at h
            rcases T.get_put o l _ _ x h with ⟨a, b⟩ | ⟨a, b⟩
            · exact .inl ⟨odd_inj hn hm a, b⟩
            · exact .inr ⟨fun e => a (by rw [e]), b⟩
          | false =>
            rw [hn] at h
            exact .inr ⟨fun e => (by rw [e, hm] at hn; exact (nomatch hn)), h⟩
      | false =>
        rw [hm] at h
        rw [T.get_nd] at h
        cases hj : Nat.beq j 0 with
        | true =>
          rw [hj] at h
          exact .inr ⟨fun e => k0 (e.symm.trans (Nat.eq_of_beq_eq_true hj)), h⟩
        | false =>
          rw [hj] at h
          cases hn : Nat.beq (Nat.mod j 2) 1 with
          | true =>
            rw [hn] at h
            exact .inr ⟨fun e => (by rw [e, hm] at hn; exact (nomatch hn)), h⟩
          | false =>
            rw [hn] at h
            rcases T.get_put o r _ _ x h with ⟨a, b⟩ | ⟨a, b⟩
            · exact .inl ⟨even_inj hn hm hj hk a, b⟩
            · exact .inr ⟨fun e => a (by rw [e]), b⟩
theorem St.get_put {S : St} {l j : Nat} {o x : O} (h : (S.put l o).get j = some x) : (j = l ∧ x = o) ∨ (j ≠ l ∧ S.get j = some x) := T.get_put o _ _ _ _ h
theorem St.get_new {S : St} {j : Nat} {o x : O} (h : (S.new o).get j = some x) : (j = S.n ∧ x = o) ∨ (j ≠ S.n ∧ S.get j = some x) := T.get_put o _ _ _ _ h

/-! ### the world that the text is linked with -/
/-- a lambda of the text -/
structure LamI where
  qual : Str
  params : Arguments
  body : Expr
  scope : Scope
  ps : List Str
  fr : List Str
  N : List Str
  deriving Inhabited
structure Gm where
  P : Program
  w : World
  K : PySem.W.Frag
  mg : Str → Option Value
  base : Heap
  G : Pg
  gl : List (Str × Gl)
  fnA : Nat → Addr
  clA : Nat → Addr
  lam : Nat → LamI
  T : List NdefX.NTab
  pot : Int → Int → Prop
  fd : Nat → FuncData
  psn : Nat → List Str
  shp : List (Nat × Nat × List Str)

def tyS : Nat → String
  | 100 => "NoneType" | 101 => "bool" | 102 => "int" | 103 => "str" | 104 => "tuple" | 105 => "list" | 106 => "dict" | 110 => "ValueError" | 111 => "LookupError" | 112 => "RuntimeError" | 113 => "ArithmeticError" | _ => ""

variable (Γ : Gm)
mutual
/-- the value d, its places at ρ, is v -/
def RD (ρ : Nat → Addr) (n : Nat) (H : Hp) : D → V → Prop
  | .non, v => v = .non
  | .bl b, v => v = .bl b
  | .int i, v => v = .int i
  | .str s, v => v = .str s ∧ s.length ≤ 100000
  | .tup xs, v => xs.length ≤ 100000 ∧ ∃ a ys, v = .ref a ∧ H a = some (.tup ys) ∧ RDs ρ n H xs ys
  | .ref l, v => l < n ∧ v = .ref (ρ l)
  | .fn i, v => v = .ref (Γ.fnA i)
  | .cls i, v => v = .ref (Γ.clA i)
  | .ty t, v => v = .ty (tyS t)
def RDs (ρ : Nat → Addr) (n : Nat) (H : Hp) : List D → List V → Prop
  | [], ys => ys = []
  | x :: xs, ys => ∃ y r, ys = y :: r ∧ RD ρ n H x y ∧ RDs ρ n H xs r
end

/-- what is never written -/
def immut : HO → Bool
  | .lst _ => false
  | .dK _ => false
  | .dT _ => false
  | .set _ _ => false
  | .ins _ _ _ => false
  | .own _ => false
  | .tbl _ => false
  | _ => true
/-- of it: what values lean on -/
def imW : HO → Bool
  | .frz _ (.own _) => false
  | o => immut o
theorem imW_of : ∀ {o : HO}, imW o = true → immut o = true
  | .lst _, h => h | .tup _, h => h | .dK _, h => h | .dT _, h => h | .set _ _, h => h | .ins _ _ _, h => h | .own _, h => h | .xd _, h => h | .met _ _, h => h | .rng _ _, h => h | .frz _ (.own _), h => nomatch h | .frz _ (.lst _), h => h | .frz _ (.tup _), h => h | .frz _ (.dK _), h => h | .frz _ (.dT _), h => h | .frz _ (.set _ _), h => h | .frz _ (.ins _ _ _), h => h | .frz _ (.xd _), h => h | .frz _ (.met _ _), h => h | .frz _ (.rng _ _), h => h | .frz _ (.frz _ _), h => h | .frz _ (.tbl _), h => h | .frz _ (.ext _), h => h | .tbl _, h => h | .ext _, h => h
/-- what may be written -/
def trk : O → Bool
  | .lst _ => true
  | .dic _ => true
  | .clo _ _ => true
  | .exn _ _ => true
  | .opq => true
  | .scr => true
  | _ => false
/-- places given out: those tracked by S -/
def Trk (ρ : Nat → Addr) (S : St) (a : Addr) : Prop := ∃ l o, S.get l = some o ∧ trk o = true ∧ ρ l = a
structure Ext0 (ρ : Nat → Addr) (S : St) (H : Hp) (ρ' : Nat → Addr) (S' : St) (H' : Hp) : Prop where
  le : S.n ≤ S'.n
  ag : ∀ l, l < S.n → ρ' l = ρ l
  keep : ∀ a o, H a = some o → immut o = true → H' a = some o
  fr : ∀ a o, H a = some o → (∀ ps, o ≠ .tbl ps) → ¬ Trk ρ S a → H' a = some o
  old : ∀ l o', l < S.n → S'.get l = some o' → trk o' = true → ∃ o, S.get l = some o ∧ trk o = true
  fresh : ∀ l o', S.n ≤ l → S'.get l = some o' → trk o' = true → H (ρ' l) = none
  dom : ∀ a, H' a = none → H a = none
  oldC : ∀ l od, l < S.n → S'.get l = some (.cel od) → ∃ od', S.get l = some (.cel od')
  freshC : ∀ l od, S.n ≤ l → S'.get l = some (.cel od) → H (ρ' l) = none
/-- of it: what a value leans on -/
structure ExtW (ρ : Nat → Addr) (S : St) (H : Hp) (ρ' : Nat → Addr) (S' : St) (H' : Hp) : Prop where
  le : S.n ≤ S'.n
  ag : ∀ l, l < S.n → ρ' l = ρ l
  keep : ∀ a o, H a = some o → imW o = true → H' a = some o
theorem Ext0.w {ρ ρ' : Nat → Addr} {S S' : St} {H H' : Hp} (e : Ext0 ρ S H ρ' S' H') : ExtW ρ S H ρ' S' H' := ⟨e.le, e.ag, fun a o h i => e.keep a o h (imW_of i)⟩
/-- the cells below n stay -/
def CelK (n : Nat) (S S' : St) : Prop := ∀ l od, l < n → S'.get l = some (.cel od) → S.get l = some (.cel od)
structure Ext (ρ : Nat → Addr) (S : St) (H : Hp) (ρ' : Nat → Addr) (S' : St) (H' : Hp) : Prop extends Ext0 ρ S H ρ' S' H' where
  cels : CelK S.n S S'
variable {Γ}
theorem Ext0.refl {ρ : Nat → Addr} {S : St} {H : Hp} (wf : ∀ l o, S.get l = some o → l < S.n) : Ext0 ρ S H ρ S H :=
  ⟨Nat.le_refl _, fun _ _ => rfl, fun _ _ h _ => h, fun _ _ h _ _ => h, fun l o _ h t => ⟨o, h, t⟩, fun l o h e _ => absurd (wf l o e) (Nat.not_lt.mpr h), fun _ h => h, fun l od _ h => ⟨od, h⟩, fun l od h e => absurd (wf l _ e) (Nat.not_lt.mpr h)⟩
theorem Ext.refl {ρ : Nat → Addr} {S : St} {H : Hp} (wf : ∀ l o, S.get l = some o → l < S.n) : Ext ρ S H ρ S H := ⟨Ext0.refl wf, fun _ _ _ h => h⟩
theorem Ext0.trans {ρ ρ1 ρ2 : Nat → Addr} {S S1 S2 : St} {H H1 H2 : Hp} (a : Ext0 ρ S H ρ1 S1 H1) (b : Ext0 ρ1 S1 H1 ρ2 S2 H2) : Ext0 ρ S H ρ2 S2 H2 := by
  refine ⟨Nat.le_trans a.le b.le, fun l h => (b.ag l (Nat.lt_of_lt_of_le h a.le)).trans (a.ag l h), fun x o h i => b.keep x o (a.keep x o h i) i, fun x o h i t => ?_, fun l o h e t => ?_, fun l o h e t => ?_, fun x h => a.dom x (b.dom x h), fun l od h e => ?_, fun l od h e => ?_⟩
  · refine b.fr x o (a.fr x o h i t) i fun ⟨l, u, e, tu, el⟩ => ?_
    by_cases hl : l < S.n
    · obtain ⟨v, e1, tv⟩ := a.old l u hl e tu
      exact t ⟨l, v, e1, tv, (a.ag l hl).symm.trans el⟩
    · have q := a.fresh l u (Nat.not_lt.mp hl) e tu
      rw [el, h] at q
      exact nomatch q
  · obtain ⟨u, e1, t1⟩ := b.old l o (Nat.lt_of_lt_of_le h a.le) e t
    exact a.old l u h e1 t1
  · by_cases hl : l < S1.n
    · obtain ⟨u, e1, t1⟩ := b.old l o hl e t
      rw [b.ag l hl]
      exact a.fresh l u h e1 t1
    · exact a.dom _ (b.fresh l o (Nat.not_lt.mp hl) e t)
  · obtain ⟨u, e1⟩ := b.oldC l od (Nat.lt_of_lt_of_le h a.le) e
    exact a.oldC l u h e1
  · by_cases hl : l < S1.n
    · obtain ⟨u, e1⟩ := b.oldC l od hl e
      rw [b.ag l hl]
      exact a.freshC l u h e1
    · exact a.dom _ (b.freshC l od (Nat.not_lt.mp hl) e)
theorem CelK.trans {n n1 : Nat} {S S1 S2 : St} (a : CelK n S S1) (b : CelK n1 S1 S2) (h : n ≤ n1) : CelK n S S2 := fun l od hl e => a l od hl (b l od (Nat.lt_of_lt_of_le hl h) e)
theorem Ext.trans {ρ ρ1 ρ2 : Nat → Addr} {S S1 S2 : St} {H H1 H2 : Hp} (wf : ∀ l o, S.get l = some o → l < S.n) (wf1 : ∀ l o, S1.get l = some o → l < S1.n) (a : Ext ρ S H ρ1 S1 H1) (b : Ext ρ1 S1 H1 ρ2 S2 H2) : Ext ρ S H ρ2 S2 H2 :=
  ⟨a.toExt0.trans b.toExt0, a.cels.trans b.cels a.le⟩
mutual
theorem RD.extW {ρ ρ' : Nat → Addr} {S S' : St} {H H' : Hp} (e : ExtW ρ S H ρ' S' H') : ∀ {d : D} {v : V}, RD Γ ρ S.n H d v → RD Γ ρ' S'.n H' d v
  | .non, _, h => h
  | .bl _, _, h => h
  | .int _, _, h => h
  | .str _, _, h => h
  | .tup xs, _, h => by
    unfold RD at h ⊢
    obtain ⟨hl, a, ys, e1, e2, e3⟩ := h
    exact ⟨hl, a, ys, e1, e.keep _ _ e2 rfl, RDs.extW e e3⟩
  | .ref l, _, h => by
    unfold RD at h ⊢
    exact ⟨Nat.lt_of_lt_of_le h.1 e.le, by rw [e.ag l h.1]; exact h.2⟩
  | .fn _, _, h => h
  | .cls _, _, h => h
  | .ty _, _, h => h
theorem RDs.extW {ρ ρ' : Nat → Addr} {S S' : St} {H H' : Hp} (e : ExtW ρ S H ρ' S' H') : ∀ {ds : List D} {vs : List V}, RDs Γ ρ S.n H ds vs → RDs Γ ρ' S'.n H' ds vs
  | [], _, h => h
  | x :: xs, _, h => by
    unfold RDs at h ⊢
    obtain ⟨y, r, e1, e2, e3⟩ := h
    exact ⟨y, r, e1, RD.extW e e2, RDs.extW e e3⟩
end
theorem RD.ext0 {ρ ρ' : Nat → Addr} {S S' : St} {H H' : Hp} (e : Ext0 ρ S H ρ' S' H') {d : D} {v : V} (h : RD Γ ρ S.n H d v) : RD Γ ρ' S'.n H' d v := h.extW e.w
theorem RDs.ext0 {ρ ρ' : Nat → Addr} {S S' : St} {H H' : Hp} (e : Ext0 ρ S H ρ' S' H') {ds : List D} {vs : List V} (h : RDs Γ ρ S.n H ds vs) : RDs Γ ρ' S'.n H' ds vs := h.extW e.w
theorem RD.ext {ρ ρ' : Nat → Addr} {S S' : St} {H H' : Hp} (e : Ext ρ S H ρ' S' H') {d : D} {v : V} (h : RD Γ ρ S.n H d v) : RD Γ ρ' S'.n H' d v := h.ext0 e.toExt0
theorem RDs.ext {ρ ρ' : Nat → Addr} {S S' : St} {H H' : Hp} (e : Ext ρ S H ρ' S' H') {ds : List D} {vs : List V} (h : RDs Γ ρ S.n H ds vs) : RDs Γ ρ' S'.n H' ds vs := h.ext0 e.toExt0
theorem RDs.len {ρ : Nat → Addr} {n : Nat} {H : Hp} : ∀ {ds : List D} {vs : List V}, RDs Γ ρ n H ds vs → vs.length = ds.length
  | [], _, h => by
    unfold RDs at h
    subst h; rfl
  | x :: xs, _, h => by
    unfold RDs at h
    obtain ⟨y, r, rfl, _, e⟩ := h
    rw [List.length_cons, List.length_cons, RDs.len e]
theorem RDs.nil {ρ : Nat → Addr} {n : Nat} {H : Hp} : RDs Γ ρ n H [] [] := rfl
theorem RDs.cons {ρ : Nat → Addr} {n : Nat} {H : Hp} {d : D} {v : V} {ds : List D} {vs : List V} (a : RD Γ ρ n H d v) (b : RDs Γ ρ n H ds vs) : RDs Γ ρ n H (d :: ds) (v :: vs) := ⟨v, vs, rfl, a, b⟩
theorem RDs.app {ρ : Nat → Addr} {n : Nat} {H : Hp} : ∀ {ds es : List D} {vs ws : List V}, RDs Γ ρ n H ds vs → RDs Γ ρ n H es ws → RDs Γ ρ n H (ds ++ es) (vs ++ ws)
  | [], _, _, _, h, k => by
    unfold RDs at h
    subst h; exact k
  | x :: xs, _, _, _, h, k => by
    unfold RDs at h
    obtain ⟨y, r, rfl, a, e⟩ := h
    exact ⟨y, _, rfl, a, RDs.app e k⟩
theorem RDs.get {ρ : Nat → Addr} {n : Nat} {H : Hp} : ∀ {ds : List D} {vs : List V} {i : Nat} {d : D}, RDs Γ ρ n H ds vs → nth ds i = some d → ∃ v, vs[i]? = some v ∧ RD Γ ρ n H d v
  | [], _, _, _, _, h => by exact nomatch h
  | x :: xs, _, 0, _, h, e => by
    unfold RDs at h
    obtain ⟨y, r, rfl, a, _⟩ := h
    cases (Option.some.inj e)
    exact ⟨y, rfl, a⟩
  | x :: xs, _, i + 1, _, h, e => by
    unfold RDs at h
    obtain ⟨y, r, rfl, _, b⟩ := h
    obtain ⟨v, h1, h2⟩ := RDs.get b (i := i) e
    exact ⟨v, by simpa using h1, h2⟩
/-- a key -/
def keyD : D → Option Key
  | .int i => some (.inl i)
  | .str x => some (.inr x)
  | _ => none
variable (Γ)
/-- a dict's rows -/
def RKs (ρ : Nat → Addr) (n : Nat) (H : Hp) : List (D × D) → List (Key × V) → Prop
  | [], ys => ys = []
  | (k, d) :: r, ys => ∃ q v t, ys = (q, v) :: t ∧ keyD k = some q ∧ RD Γ ρ n H k (kV q) ∧ RD Γ ρ n H d v ∧ RKs ρ n H r t
/-- the lambda i with its captured cells -/
abbrev LamI.q (L : LamI) : Str := L.qual ++ "<lambda>"
abbrev lamO (L : LamI) (cl : List (Str × Addr)) (pm : Value) (c' : Addr) (ctv : Value) : Obj := PySem.W.kla_obj "<lambda>" L.q L.params L.body L.scope cl pm c' ctv
def FnL (f : Addr) (L : LamI) (cl : List (Str × Addr)) (c' : Addr) : HO := .ext fun h => ∃ pm ctv : Value, h.get? f = some (lamO L cl pm c' ctv)
/-- its cells are those at ls -/
structure ClR (ρ : Nat → Addr) (n : Nat) (fr : List Str) (cl : List (Str × Addr)) (ls : List Nat) : Prop where
  len : ls.length = fr.length
  lt : ∀ l ∈ ls, l < n
  at_ : ∀ (j : Nat) (y : Str), fr[j]? = some y → ∃ l, ls[j]? = some l ∧ cl.lookup y = some (ρ l)
  only : ∀ y c, cl.lookup y = some c → y ∈ fr
  inj : ∀ x y c, cl.lookup x = some c → cl.lookup y = some c → x = y
/-- fields of an exception -/
def RFs (ρ : Nat → Addr) (n : Nat) (H : Hp) (fs : List (Str × D)) (ws : List (Str × V)) : Prop :=
  ∀ f d, fs.lookup f = some d → ∃ v, ws.lookup f = some v ∧ RD Γ ρ n H d v
/-- an exception that is held as a value: its object -/
def exnO (e C : Addr) (d : Option Addr) : HO := .ext fun h => ∃ t1 : Addr, h.get? e = some ({ cls := .ref C, dict := d, data := .fields #[.ref t1, .none, .none, .none, .bool false, .none] } : Obj)
/-- what a cell holds: nothing that is told, or d -/
def RC (ρ : Nat → Addr) (n : Nat) (H : Hp) (od : Option D) (o : Obj) : Prop :=
  ∃ w, o.data = .cell w ∧ ∀ d, od = some d → ∃ u v, w = some u ∧ RelV v u ∧ RD Γ ρ n H d v
/-- what stands at the place l -/
def RO (ρ : Nat → Addr) (n : Nat) (env : Env) (H : Hp) (l : Nat) : O → Prop
  | .lst xs => xs.length ≤ 100000 ∧ ∃ ys, H (ρ l) = some (.lst ys) ∧ RDs Γ ρ n H xs ys
  | .dic kvs => kvs.length ≤ 100000 ∧ ∃ rs, H (ρ l) = some (.dK rs) ∧ RKs Γ ρ n H kvs rs
  | .clo i ls => ∃ cl c', H (ρ l) = some (FnL (ρ l) (Γ.lam i) cl c') ∧ H c' = some (LamX.CodeO c' (Γ.lam i).q) ∧ ClR ρ n (Γ.lam i).fr cl ls
  | .cel od => (∃ i : Nat, env[i]? = some (Sl.ce l)) ∨ ∃ o, H (ρ l) = some (.frz o (.own 0)) ∧ RC Γ ρ n H od o
  | .hid => True
  | .exn c fs => ∃ dx ws, H (ρ l) = some (exnO (ρ l) (Γ.clA c) dx) ∧ (fs = [] ∨ ∃ d, dx = some d ∧ H d = some (.xd ws) ∧ RFs Γ ρ n H fs ws)
  | .opq => ∃ i j, H (ρ l) = some (.lst [.int i, .int j]) ∧ Γ.pot i j
  | .scr => ∃ ns : List Int, H (ρ l) = some (.lst (ns.map V.int))
  | .scF => ∃ ns : List Int, (∃ ho : Obj, H (ρ l) = some (.frz ho (.lst (ns.map V.int)))) ∨ ∃ (o : Obj) (its : Array Value) (m : Nat), Γ.K.lookup (ρ l) = some o ∧ o.cls = .type "list" ∧ o.dict = none ∧ o.data = .seq its m ∧ its.size ≤ sizeLine ∧ Vals (ns.map V.int) its.toList
structure Rh (ρ : Nat → Addr) (env : Env) (S : St) (H : Hp) : Prop where
  obj : ∀ l o, S.get l = some o → l < S.n ∧ RO Γ ρ S.n env H l o
  inj : ∀ l l' o o', S.get l = some o → S.get l' = some o' → trk o = true → trk o' = true → ρ l = ρ l' → l = l'
  tabs : NdefX.TabsN Γ.T H
  injF : ∀ l l' od od' u, (∀ i : Nat, env[i]? ≠ some (Sl.ce l)) → (∀ i : Nat, env[i]? ≠ some (Sl.ce l')) → S.get l = some (.cel od) → S.get l' = some (.cel od') → H (ρ l) = some (.frz u (.own 0)) → ρ l = ρ l' → l = l'
/-- the exception that the suite holds -/
structure ExS (X : Cx) (ρ : Nat → Addr) (n : Nat) (H : Hp) (c : Nat) (fs : List (Str × D)) (v : V) : Prop where
  at_ : ∃ a oe pn vs dd, v = .ref a ∧ X.pn = (a, oe) :: pn ∧ oe.cls = .ref (Γ.clA c) ∧ oe.dict = dd ∧ oe.data = .fields vs ∧ (fs = [] ∨ ∃ d ws, dd = some d ∧ H d = some (.xd ws) ∧ RFs Γ ρ n H fs ws)
/-- the name x is the cell at a -/
structure RCe (X : Cx) (a : Addr) (x : Str) : Prop where
  look : X.env.cells.lookup x = some a
  kin : X.env.scope.names.lookup x = some .cell ∨ X.env.scope.names.lookup x = some .free
  base : X.base.get? a = none
  nofs : a ∉ X.fs
/-- a name's place -/
def RSl (X : Cx) (ρ : Nat → Addr) (S : St) (σ : L2.St) (H : Hp) (i : Nat) : Sl → Prop
  | .no => True
  | .vl d => ∃ v, σ[i]? = some (some v) ∧ RD Γ ρ S.n H d v
  | .ce l => l < S.n ∧ (∃ x, X.N[i]? = some x ∧ RCe X (ρ l) x) ∧ ∀ d, S.get l = some (.cel (some d)) → ∃ v, σ[i]? = some (some v) ∧ RD Γ ρ S.n H d v
  | .ex c fs => ∃ v, σ[i]? = some (some v) ∧ ExS Γ X ρ S.n H c fs v
structure Rs (X : Cx) (ρ : Nat → Addr) (S : St) (env : Env) (σ : L2.St) (H : Hp) : Prop where
  len : env.length = X.N.length
  lenS : σ.length = X.N.length
  sl : ∀ (i : Nat) s, env[i]? = some s → RSl Γ X ρ S σ H i s
  cinj : ∀ i j l l' : Nat, env[i]? = some (Sl.ce l) → env[j]? = some (Sl.ce l') → ρ l = ρ l' → i = j
structure Rl (X : Cx) (ρ : Nat → Addr) (env : Env) (σ : L2.St) (S : St) (H : Hp) : Prop where
  h : Rh Γ ρ env S H
  s : Rs Γ X ρ S env σ H

variable {Γ}
theorem RKs.extW {ρ ρ' : Nat → Addr} {S S' : St} {H H' : Hp} (e : ExtW ρ S H ρ' S' H') : ∀ {ks : List (D × D)} {vs : List (Key × V)}, RKs Γ ρ S.n H ks vs → RKs Γ ρ' S'.n H' ks vs
  | [], _, h => h
  | (k, d) :: r, _, h => by
    unfold RKs at h ⊢
    obtain ⟨q, v, t, e1, e2, e3, e4, e5⟩ := h
    exact ⟨q, v, t, e1, e2, e3.extW e, e4.extW e, RKs.extW e e5⟩
theorem RFs.extW {ρ ρ' : Nat → Addr} {S S' : St} {H H' : Hp} (e : ExtW ρ S H ρ' S' H') {fs : List (Str × D)} {ws : List (Str × V)} (h : RFs Γ ρ S.n H fs ws) : RFs Γ ρ' S'.n H' fs ws :=
  fun f d a => by
    obtain ⟨v, b, c⟩ := h f d a
    exact ⟨v, b, c.extW e⟩
theorem ClR.extW {ρ ρ' : Nat → Addr} {S S' : St} {H H' : Hp} (e : ExtW ρ S H ρ' S' H') {fr : List Str} {cl : List (Str × Addr)} {ls : List Nat} (h : ClR ρ S.n fr cl ls) : ClR ρ' S'.n fr cl ls :=
  ⟨h.len, fun l hl => Nat.lt_of_lt_of_le (h.lt l hl) e.le, fun j y hj => by
    obtain ⟨l, a, b⟩ := h.at_ j y hj
    exact ⟨l, a, by rw [e.ag l (h.lt l (List.mem_of_getElem? a))]; exact b⟩, h.only, h.inj⟩
theorem RC.extW {ρ ρ' : Nat → Addr} {S S' : St} {H H' : Hp} (e : ExtW ρ S H ρ' S' H') {od : Option D} {o : Obj} (h : RC Γ ρ S.n H od o) : RC Γ ρ' S'.n H' od o := by
  obtain ⟨w, a, b⟩ := h
  exact ⟨w, a, fun d hd => by
    obtain ⟨u, v, x, y, z⟩ := b d hd
    exact ⟨u, v, x, y, z.extW e⟩⟩
theorem RO.extW {ρ ρ' : Nat → Addr} {S S' : St} {H H' : Hp} {env : Env} {l : Nat} (e : ExtW ρ S H ρ' S' H') (hl : l < S.n) : ∀ {o : O}, (trk o = true → ∀ ho, H (ρ l) = some ho → H' (ρ l) = some ho) → (∀ od u, o = .cel od → H (ρ l) = some (.frz u (.own 0)) → H' (ρ l) = some (.frz u (.own 0))) → RO Γ ρ S.n env H l o → RO Γ ρ' S'.n env H' l o
  | .lst xs, k, z, h => by
    obtain ⟨a, ys, b, c⟩ := h
    exact ⟨a, ys, by rw [e.ag l hl]; exact k rfl _ b, c.extW e⟩
  | .dic kvs, k, z, h => by
    obtain ⟨a, ys, b, c⟩ := h
    exact ⟨a, ys, by rw [e.ag l hl]; exact k rfl _ b, c.extW e⟩
  | .clo i ls, k, z, h => by
    obtain ⟨cl, c', a, b, c⟩ := h
    exact ⟨cl, c', by rw [e.ag l hl]; exact k rfl _ a, e.keep _ _ b rfl, c.extW e⟩
  | .cel od, k, z, h => by
    rcases h with h | ⟨o, a, b⟩
    · exact .inl h
    · exact .inr ⟨o, by rw [e.ag l hl]; exact z _ _ rfl a, b.extW e⟩
  | .hid, _, _, _ => trivial
  | .exn c fs, k, z, h => by
    obtain ⟨dx, ws, a, b⟩ := h
    refine ⟨dx, ws, by rw [e.ag l hl]; exact k rfl _ a, b.imp id ?_⟩
    rintro ⟨d, x, y, z⟩
    exact ⟨d, x, e.keep _ _ y rfl, RFs.extW e z⟩
  | .opq, k, z, h => by
    obtain ⟨i, j, a, b⟩ := h
    exact ⟨i, j, by rw [e.ag l hl]; exact k rfl _ a, b⟩
  | .scr, k, z, h => by
    obtain ⟨ns, a⟩ := h
    exact ⟨ns, by rw [e.ag l hl]; exact k rfl _ a⟩
  | .scF, k, z, h => by
    obtain ⟨ns, h⟩ := h
    refine ⟨ns, ?_⟩
    rw [e.ag l hl]
    exact h.imp (fun ⟨ho, a⟩ => ⟨ho, e.keep _ _ a rfl⟩) id
theorem ExS.extW {X : Cx} {ρ ρ' : Nat → Addr} {S S' : St} {H H' : Hp} (e : ExtW ρ S H ρ' S' H') {c : Nat} {fs : List (Str × D)} {v : V} (h : ExS Γ X ρ S.n H c fs v) : ExS Γ X ρ' S'.n H' c fs v := by
  obtain ⟨a, oe, pn, vs, dd, h1, h2, h3, h4, h5, h6⟩ := h
  refine ⟨a, oe, pn, vs, dd, h1, h2, h3, h4, h5, h6.imp id ?_⟩
  rintro ⟨d, ws, x, y, z⟩
  exact ⟨d, ws, x, e.keep _ _ y rfl, z.extW e⟩
theorem RKs.ext0 {ρ ρ' : Nat → Addr} {S S' : St} {H H' : Hp} (e : Ext0 ρ S H ρ' S' H') {ks : List (D × D)} {vs : List (Key × V)} (h : RKs Γ ρ S.n H ks vs) : RKs Γ ρ' S'.n H' ks vs := h.extW e.w
theorem RFs.ext0 {ρ ρ' : Nat → Addr} {S S' : St} {H H' : Hp} (e : Ext0 ρ S H ρ' S' H') {fs : List (Str × D)} {ws : List (Str × V)} (h : RFs Γ ρ S.n H fs ws) : RFs Γ ρ' S'.n H' fs ws := h.extW e.w
theorem ClR.ext0 {ρ ρ' : Nat → Addr} {S S' : St} {H H' : Hp} (e : Ext0 ρ S H ρ' S' H') {fr : List Str} {cl : List (Str × Addr)} {ls : List Nat} (h : ClR ρ S.n fr cl ls) : ClR ρ' S'.n fr cl ls := h.extW e.w
theorem RO.ext0 {ρ ρ' : Nat → Addr} {S S' : St} {H H' : Hp} {env : Env} {l : Nat} (e : Ext0 ρ S H ρ' S' H') (hl : l < S.n) {o : O} (k : trk o = true → ∀ ho, H (ρ l) = some ho → H' (ρ l) = some ho) (h : RO Γ ρ S.n env H l o) : RO Γ ρ' S'.n env H' l o := h.extW e.w hl k fun _ u _ z => by exact e.keep _ _ z rfl
theorem ExS.ext0 {X : Cx} {ρ ρ' : Nat → Addr} {S S' : St} {H H' : Hp} (e : Ext0 ρ S H ρ' S' H') {c : Nat} {fs : List (Str × D)} {v : V} (h : ExS Γ X ρ S.n H c fs v) : ExS Γ X ρ' S'.n H' c fs v := h.extW e.w
theorem RKs.ext {ρ ρ' : Nat → Addr} {S S' : St} {H H' : Hp} (e : Ext ρ S H ρ' S' H') {ks : List (D × D)} {vs : List (Key × V)} (h : RKs Γ ρ S.n H ks vs) : RKs Γ ρ' S'.n H' ks vs := h.ext0 e.toExt0
theorem RFs.ext {ρ ρ' : Nat → Addr} {S S' : St} {H H' : Hp} (e : Ext ρ S H ρ' S' H') {fs : List (Str × D)} {ws : List (Str × V)} (h : RFs Γ ρ S.n H fs ws) : RFs Γ ρ' S'.n H' fs ws := h.ext0 e.toExt0
theorem ClR.ext {ρ ρ' : Nat → Addr} {S S' : St} {H H' : Hp} (e : Ext ρ S H ρ' S' H') {fr : List Str} {cl : List (Str × Addr)} {ls : List Nat} (h : ClR ρ S.n fr cl ls) : ClR ρ' S'.n fr cl ls := h.ext0 e.toExt0
theorem RO.ext {ρ ρ' : Nat → Addr} {S S' : St} {H H' : Hp} {env : Env} {l : Nat} (e : Ext ρ S H ρ' S' H') (hl : l < S.n) {o : O} (k : trk o = true → ∀ ho, H (ρ l) = some ho → H' (ρ l) = some ho) (h : RO Γ ρ S.n env H l o) : RO Γ ρ' S'.n env H' l o := h.ext0 e.toExt0 hl k
theorem ExS.ext {X : Cx} {ρ ρ' : Nat → Addr} {S S' : St} {H H' : Hp} (e : Ext ρ S H ρ' S' H') {c : Nat} {fs : List (Str × D)} {v : V} (h : ExS Γ X ρ S.n H c fs v) : ExS Γ X ρ' S'.n H' c fs v := h.ext0 e.toExt0
theorem RSl.extW {X : Cx} {ρ ρ' : Nat → Addr} {S S' : St} {H H' : Hp} {σ : L2.St} {i : Nat} (e : ExtW ρ S H ρ' S' H') (k : CelK S.n S S') : ∀ {s : Sl}, RSl Γ X ρ S σ H i s → RSl Γ X ρ' S' σ H' i s
  | .no, _ => trivial
  | .vl d, h => by
    obtain ⟨v, x, y⟩ := h
    exact ⟨v, x, y.extW e⟩
  | .ce l, h => by
    obtain ⟨a, ⟨x, b, c⟩, g⟩ := h
    refine ⟨Nat.lt_of_lt_of_le a e.le, ⟨x, b, by rw [e.ag l a]; exact c⟩, fun d hd => ?_⟩
    obtain ⟨v, x, y⟩ := g d (k l _ a hd)
    exact ⟨v, x, y.extW e⟩
  | .ex c fs, h => by
    obtain ⟨v, x, y⟩ := h
    exact ⟨v, x, y.extW e⟩
theorem Rs.extW {X : Cx} {ρ ρ' : Nat → Addr} {S S' : St} {H H' : Hp} {env : Env} {σ : L2.St} (e : ExtW ρ S H ρ' S' H') (k : CelK S.n S S') (h : Rs Γ X ρ S env σ H) : Rs Γ X ρ' S' env σ H' :=
  ⟨h.len, h.lenS, fun i s a => (h.sl i s a).extW e k, fun i j l l' a b c => h.cinj i j l l' a b (by
    have h1 := h.sl i _ a
    have h2 := h.sl j _ b
    rw [← e.ag l h1.1, ← e.ag l' h2.1]
    exact c)⟩
theorem Rs.ext {X : Cx} {ρ ρ' : Nat → Addr} {S S' : St} {H H' : Hp} {env : Env} {σ : L2.St} (e : Ext ρ S H ρ' S' H') (h : Rs Γ X ρ S env σ H) : Rs Γ X ρ' S' env σ H' := h.extW e.w e.cels
/-- what a tracked place is -/
theorem RO.at {ρ : Nat → Addr} {n : Nat} {env : Env} {H : Hp} {l : Nat} : ∀ {o : O}, trk o = true → RO Γ ρ n env H l o → ∃ ho, H (ρ l) = some ho
  | .lst _, _, ⟨_, _, b, _⟩ => ⟨_, b⟩
  | .dic _, _, ⟨_, _, b, _⟩ => ⟨_, b⟩
  | .clo _ _, _, ⟨_, _, b, _⟩ => ⟨_, b⟩
  | .exn _ _, _, ⟨_, _, b, _⟩ => ⟨_, b⟩
  | .opq, _, ⟨_, _, b, _⟩ => ⟨_, b⟩
  | .scr, _, ⟨_, b⟩ => ⟨_, b⟩
/-- places given out: one more -/
def rup (ρ : Nat → Addr) (n : Nat) (p : Addr) : Nat → Addr := fun l => if l = n then p else ρ l
theorem rup_same {ρ : Nat → Addr} {n : Nat} {p : Addr} : rup ρ n p n = p := by unfold rup; rw [if_pos rfl]
theorem rup_lt {ρ : Nat → Addr} {n l : Nat} {p : Addr} (h : l < n) : rup ρ n p l = ρ l := by unfold rup; rw [if_neg (Nat.ne_of_lt h)]
theorem Ext.new {ρ : Nat → Addr} {S : St} {H : Hp} {p : Addr} {o : HO} {x : O} (wf : ∀ l o, S.get l = some o → l < S.n) (h : H p = none) : Ext ρ S H (rup ρ S.n p) (S.new x) (upd H p o) := by
  refine ⟨⟨Nat.le_succ S.n, fun _ hl => rup_lt hl, fun _ _ ha _ => by rw [upd_ne (ne_of_none ha h)]; exact ha, fun _ _ ha _ _ => by rw [upd_ne (ne_of_none ha h)]; exact ha, fun l o' hl e t => ?_, fun l o' hl e t => ?_, fun a e => NdefX.upd_none e, fun l od hl e => ?_, fun l od hl e => ?_⟩, fun l od hl e => ?_⟩
  · rcases St.get_new e with ⟨a, b⟩ | ⟨a, b⟩
    · exact absurd a (Nat.ne_of_lt hl)
    · exact ⟨o', b, t⟩
  · rcases St.get_new e with ⟨a, b⟩ | ⟨a, b⟩
    · rw [a, rup_same]; exact h
    · exact absurd (wf l o' b) (Nat.not_lt.mpr hl)
  · rcases St.get_new e with ⟨a, b⟩ | ⟨a, b⟩
    · exact absurd a (Nat.ne_of_lt hl)
    · exact ⟨od, b⟩
  · rcases St.get_new e with ⟨a, b⟩ | ⟨a, b⟩
    · rw [a, rup_same]; exact h
    · exact absurd (wf l _ b) (Nat.not_lt.mpr hl)
  · rcases St.get_new e with ⟨a, b⟩ | ⟨a, b⟩
    · exact absurd a (Nat.ne_of_lt hl)
    · exact b
/-- an object that the store does not know is laid (a tuple) -/
theorem Ext.lay {ρ : Nat → Addr} {S : St} {H : Hp} {p : Addr} {o : HO} (wf : ∀ l o, S.get l = some o → l < S.n) (h : H p = none) : Ext ρ S H ρ S (upd H p o) :=
  ⟨⟨Nat.le_refl _, fun _ _ => rfl, fun _ _ ha _ => by rw [upd_ne (ne_of_none ha h)]; exact ha, fun _ _ ha _ _ => by rw [upd_ne (ne_of_none ha h)]; exact ha, fun l o' _ e t => ⟨o', e, t⟩, fun l o' hl e _ => absurd (wf l o' e) (Nat.not_lt.mpr hl), fun a e => NdefX.upd_none e, fun l od _ h => ⟨od, h⟩, fun l od h e => absurd (wf l _ e) (Nat.not_lt.mpr h)⟩, fun _ _ _ h => h⟩
theorem Ext.write {ρ : Nat → Addr} {S : St} {H : Hp} {l : Nat} {o u : HO} {x x0 : O} (wf : ∀ l o, S.get l = some o → l < S.n) (h0 : S.get l = some x0) (t0 : trk x0 = true) (h : H (ρ l) = some u) (hi : immut u = false) (tx : trk x = true) : Ext ρ S H ρ (S.put l x) (upd H (ρ l) o) := by
  refine ⟨⟨Nat.le_refl _, fun _ _ => rfl, fun a q ha hq => ?_, fun a q ha _ ht => ?_, fun j o' hl e t => ?_, fun j o' hl e t => ?_, fun a e => NdefX.upd_none e, fun j od hl e => ?_, fun j od hl e => ?_⟩, fun j od hl e => ?_⟩
  · rw [upd_ne fun z => ?_]
    · exact ha
    · rw [z, h] at ha
      cases ha
      rw [hi] at hq
      exact nomatch hq
  · rw [upd_ne fun z => ht ⟨l, x0, h0, t0, z.symm⟩]
    exact ha
  · rcases St.get_put e with ⟨a, b⟩ | ⟨a, b⟩
    · exact ⟨x0, by rw [a]; exact h0, t0⟩
    · exact ⟨o', b, t⟩
  · rcases St.get_put e with ⟨a, b⟩ | ⟨a, b⟩
    · exact absurd (wf _ _ h0) (Nat.not_lt.mpr (by rw [← a]; exact hl))
    · exact absurd (wf _ _ b) (Nat.not_lt.mpr hl)
  · rcases St.get_put e with ⟨a, b⟩ | ⟨a, b⟩
    · rw [← b] at tx
      exact nomatch tx
    · exact ⟨od, b⟩
  · rcases St.get_put e with ⟨a, b⟩ | ⟨a, b⟩
    · rw [← b] at tx
      exact nomatch tx
    · exact absurd (wf _ _ b) (Nat.not_lt.mpr hl)
  · rcases St.get_put e with ⟨a, b⟩ | ⟨a, b⟩
    · rw [← b] at tx
      exact nomatch tx
    · exact b
theorem tabs_fresh {T : List NdefX.NTab} {H : Hp} {p : Addr} {o : HO} (t : NdefX.TabsN T H) (h : H p = none) : NdefX.TabsN T (upd H p o) :=
  t.ext fun b u e => by rw [upd_ne (ne_of_none e h)]; exact e
theorem tabs_write {T : List NdefX.NTab} {H : Hp} {p : Addr} {o u : HO} (t : NdefX.TabsN T H) (h : H p = some u) (h1 : ∀ ps, u ≠ .tbl ps) (h2 : ∀ c q, u ≠ LamX.CodeO c q) : NdefX.TabsN T (upd H p o) := fun q hq => by
  obtain ⟨ps, a, b, c⟩ := t q hq
  refine ⟨ps, by rw [upd_ne (fun z => h1 ps (Option.some.inj (h.symm.trans (by rw [← z]; exact a))))]; exact a, b, fun pos cv e => ?_⟩
  obtain ⟨x, y, z⟩ := c pos cv e
  exact ⟨x, y, by rw [upd_ne (fun w => h2 _ _ (Option.some.inj (h.symm.trans (by rw [← w]; exact z))))]; exact z⟩
theorem Rh.wf {ρ : Nat → Addr} {env : Env} {S : St} {H : Hp} (R : Rh Γ ρ env S H) : ∀ l o, S.get l = some o → l < S.n := fun l o h => (R.obj l o h).1
theorem upd_frz {H : Hp} {p a : Addr} {o : HO} {u : Obj} {v : HO} (nf : ∀ u v, o ≠ .frz u v) (h : upd H p o a = some (.frz u v)) : H a = some (.frz u v) := by
  by_cases e : a = p
  · rw [e, upd_same] at h
    exact absurd (Option.some.inj h) (nf _ _)
  · rw [upd_ne e] at h
    exact h
section
variable {X : Cx} {ρ : Nat → Addr} {env : Env} {σ : L2.St} {S : St} {H : Hp}
theorem Rl.lay {p : Addr} {o : HO} (R : Rl Γ X ρ env σ S H) (h : H p = none) (nf : ∀ u v, o ≠ .frz u v := by intro _ _ h; cases h) : Rl Γ X ρ env σ S (upd H p o) :=
  ⟨⟨fun l x hx => ⟨(R.h.obj l x hx).1, (R.h.obj l x hx).2.ext (Ext.lay R.h.wf h) (R.h.obj l x hx).1 fun _ ho hh => by rw [upd_ne (ne_of_none hh h)]; exact hh⟩, R.h.inj, tabs_fresh R.h.tabs h, fun l l' od od' u n1 n2 h1 h2 h3 => R.h.injF l l' od od' u n1 n2 h1 h2 (upd_frz nf h3)⟩, R.s.ext (Ext.lay R.h.wf h)⟩
theorem Rl.new {p : Addr} {o : O} {ho : HO} (R : Rl Γ X ρ env σ S H) (h : H p = none) (hn : RO Γ (rup ρ S.n p) (S.n + 1) env (upd H p ho) S.n o) (nf : ∀ u v, ho ≠ .frz u v := by intro _ _ h; cases h) (nc : ∀ od, o ≠ .cel od := by intro _ h; cases h) : Rl Γ X (rup ρ S.n p) env σ (S.new o) (upd H p ho) := by
  refine ⟨⟨fun l x hx => ?_, fun l l' x x' hx hx' t t' e => ?_, tabs_fresh R.h.tabs h, fun l l' od od' u n1 n2 h1 h2 h3 z => ?_⟩, R.s.ext (Ext.new (x := o) R.h.wf h)⟩
  · rcases St.get_new hx with ⟨a, b⟩ | ⟨a, b⟩
    · subst a b
      exact ⟨Nat.lt_succ_self _, hn⟩
    · have q := R.h.obj l x b
      exact ⟨Nat.lt_succ_of_lt q.1, q.2.ext (Ext.new (x := o) R.h.wf h) q.1 fun _ ho hh => by rw [upd_ne (ne_of_none hh h)]; exact hh⟩
  · rcases St.get_new hx with ⟨a, b⟩ | ⟨a, b⟩
    · rcases St.get_new hx' with ⟨a', b'⟩ | ⟨a', b'⟩
      · exact a.trans a'.symm
      · have q := R.h.obj l' x' b'
        obtain ⟨ho', hh⟩ := q.2.at t'
        rw [a, rup_same, rup_lt q.1] at e
        rw [← e, h] at hh
        exact nomatch hh
    · have q := R.h.obj l x b
      rcases St.get_new hx' with ⟨a', b'⟩ | ⟨a', b'⟩
      · obtain ⟨ho', hh⟩ := q.2.at t
        rw [a', rup_same, rup_lt q.1] at e
        rw [e, h] at hh
        exact nomatch hh
      · have q' := R.h.obj l' x' b'
        rw [rup_lt q.1, rup_lt q'.1] at e
        exact R.h.inj l l' x x' b b' t t' e
  · rcases St.get_new h1 with ⟨a, b⟩ | ⟨a, b⟩
    · exact absurd b.symm (nc _)
    · rcases St.get_new h2 with ⟨a', b'⟩ | ⟨a', b'⟩
      · exact absurd b'.symm (nc _)
      · rw [rup_lt (R.h.wf _ _ b)] at h3 z
        rw [rup_lt (R.h.wf _ _ b')] at z
        exact R.h.injF l l' od od' u n1 n2 b b' (upd_frz nf h3) z
/-- a place is written: its kind stays -/
theorem Rl.set {l : Nat} {o o0 : O} {ho u : HO} (R : Rl Γ X ρ env σ S H) (h0 : S.get l = some o0) (t0 : trk o0 = true) (h : H (ρ l) = some u) (hi : immut u = false) (hu : ∀ ps, u ≠ .tbl ps) (tx : trk o = true) (hn : RO Γ ρ S.n env (upd H (ρ l) ho) l o) (nf : ∀ u v, ho ≠ .frz u v := by intro _ _ h; cases h) :
    Rl Γ X ρ env σ (S.put l o) (upd H (ρ l) ho) := by
  have hcode : ∀ c q, u ≠ LamX.CodeO c q := fun c q e => by rw [e] at hi; exact nomatch hi
  refine ⟨⟨fun l' x hx => ?_, fun l1 l2 x x' hx hx' t t' e => ?_, tabs_write R.h.tabs h hu hcode, fun l1 l2 od od' u n1 n2 h1 h2 h3 z => ?_⟩, R.s.ext (Ext.write (x := o) R.h.wf h0 t0 h hi tx)⟩
  · rcases St.get_put hx with ⟨a, b⟩ | ⟨a, b⟩
    · subst a b
      exact ⟨(R.h.obj _ _ h0).1, hn⟩
    · have q := R.h.obj l' x b
      exact ⟨q.1, q.2.ext (Ext.write (x := o) R.h.wf h0 t0 h hi tx) q.1 fun t ho' hh => by rw [upd_ne (fun z => a (R.h.inj _ _ _ _ b h0 t t0 z))]; exact hh⟩
  · have w : ∀ j y, (S.put l o).get j = some y → trk y = true → ∃ z, S.get j = some z ∧ trk z = true := fun j y hy ty => by
      rcases St.get_put hy with ⟨a, b⟩ | ⟨a, b⟩
      · exact ⟨o0, by rw [a]; exact h0, t0⟩
      · exact ⟨y, b, ty⟩
    obtain ⟨z, a, b⟩ := w l1 x hx t
    obtain ⟨z', a', b'⟩ := w l2 x' hx' t'
    exact R.h.inj l1 l2 z z' a a' b b' e
  · rcases St.get_put h1 with ⟨a, b⟩ | ⟨a, b⟩
    · rw [← b] at tx; exact nomatch tx
    · rcases St.get_put h2 with ⟨a', b'⟩ | ⟨a', b'⟩
      · rw [← b'] at tx; exact nomatch tx
      · exact R.h.injF l1 l2 od od' u n1 n2 b b' (upd_frz nf h3) z
end
end
end Ev
end
section
set_option Elab.async false
set_option linter.all false
set_option maxRecDepth 100000
set_option maxHeartbeats 2000000
/-! READINGS by the evaluator's answers. -/
namespace Ev
noncomputable section
open PySem PySem.Spec PyProof.Rows L2

/-- every way of it ends so -/
def Res.All {α : Type} (P : α → St → Prop) (E : Nat → List (Str × D) → St → Prop) : Res α → Prop
  | .ok v S => P v S
  | .exc c fs S => E c fs S
  | .draw n k => 0 < n ∧ ∀ d, d < n → (k d).All P E
  | .fail => False
theorem Res.All.mono {α : Type} {P P' : α → St → Prop} {E E' : Nat → List (Str × D) → St → Prop} (hP : ∀ v S, P v S → P' v S) (hE : ∀ c fs S, E c fs S → E' c fs S) : ∀ {r : Res α}, r.All P E → r.All P' E'
  | .ok v S, h => hP v S h
  | .exc c fs S, h => hE c fs S h
  | .draw n k, h => ⟨h.1, fun d hd => Res.All.mono hP hE (h.2 d hd)⟩
  | .fail, h => h
theorem Res.All.bind {α β : Type} {P : β → St → Prop} {E : Nat → List (Str × D) → St → Prop} {f : α → St → Res β} : ∀ {r : Res α}, (r.bind f).All P E → r.All (fun x S => (f x S).All P E) E
  | .ok v S, h => h
  | .exc c fs S, h => h
  | .draw n k, h => ⟨h.1, fun d hd => Res.All.bind (h.2 d hd)⟩
  | .fail, h => h
theorem Res.All.unbind {α β : Type} {P : β → St → Prop} {E : Nat → List (Str × D) → St → Prop} {f : α → St → Res β} : ∀ {r : Res α}, r.All (fun x S => (f x S).All P E) E → (r.bind f).All P E
  | .ok v S, h => h
  | .exc c fs S, h => h
  | .draw n k, h => ⟨h.1, fun d hd => Res.All.unbind (h.2 d hd)⟩
  | .fail, h => h
theorem Res.bind_assoc {α β γ : Type} {f : α → St → Res β} {g : β → St → Res γ} : ∀ (r : Res α), (r.bind f).bind g = r.bind fun x S => (f x S).bind g
  | .ok v S => rfl
  | .exc c fs S => rfl
  | .draw n k => congrArg (Res.draw n) (funext fun d => Res.bind_assoc (k d))
  | .fail => rfl
theorem Res.All.st {α : Type} {P : SO → St → Prop} {E : Nat → List (Str × D) → St → Prop} {v : Env} {f : α → St → Res SO} : ∀ {r : Res α}, (r.st v f).All P E → r.All (fun x S => (f x S).All P E) (fun c fs S => P (.xc c fs v) S)
  | .ok v S, h => h
  | .exc c fs S, h => h
  | .draw n k, h => ⟨h.1, fun d hd => Res.All.st (h.2 d hd)⟩
  | .fail, h => h
theorem Res.All.nox {α : Type} {P : α → St → Prop} {E E' : Nat → List (Str × D) → St → Prop} : ∀ {r : Res α}, r.nox.All P E → r.All P E'
  | .ok v S, h => h
  | .exc c fs S, h => False.elim h
  | .draw n k, h => ⟨h.1, fun d hd => Res.All.nox (h.2 d hd)⟩
  | .fail, h => h
/-- an answer that is no draw, no exception -/
theorem Res.All.ok {α : Type} {P : α → St → Prop} {E : Nat → List (Str × D) → St → Prop} {v : α} {S : St} (h : (Res.ok v S).All P E) : P v S := h

/-- a raised exception -/
def XR (Γ : Gm) (ρ : Nat → Addr) (n : Nat) (H : Hp) (c : Nat) (fs : List (Str × D)) (cls : Value) (dd : Option Addr) : Prop :=
  cls = .ref (Γ.clA c) ∧ (fs = [] ∨ ∃ d ws, dd = some d ∧ H d = some (.xd ws) ∧ RFs Γ ρ n H fs ws)
section
variable (Γ : Gm) (X : Cx) (W : WX)
/-- a relation between the evaluator's answer and what is handed on -/
abbrev RelT (α β : Type) := (Nat → Addr) → Nat → Hp → α → β → Prop
structure Mono {α β : Type} (R : RelT α β) : Prop where
  m : ∀ {ρ ρ' : Nat → Addr} {S S' : St} {H H' : Hp} {a : α} {b : β}, Ext ρ S H ρ' S' H' → R ρ S.n H a b → R ρ' S'.n H' a b
abbrev RB : RelT Bool Bool := fun _ _ _ a b => a = b
def PostG {α β : Type} (R : RelT α β) (env : Env) (σ : L2.St) (ρ : Nat → Addr) (S : St) (H : Hp) (Q : β → Hp → Prop) : α → St → Prop := fun d S' =>
  ∀ (ρ' : Nat → Addr) (H' : Hp) (v : β), Rl Γ X ρ' env σ S' H' → Ext ρ S H ρ' S' H' → R ρ' S'.n H' d v → Q v H'
def PostX (env : Env) (σ : L2.St) (ρ : Nat → Addr) (S : St) (H : Hp) : Nat → List (Str × D) → St → Prop := fun c fs S' =>
  ∀ (ρ' : Nat → Addr) (H' : Hp) (cls : Value) (dd : Option Addr), Rl Γ X ρ' env σ S' H' → Ext ρ S H ρ' S' H' → XR Γ ρ' S'.n H' c fs cls dd → W cls dd σ H'
/-- the reading of what the evaluator answers -/
def rdG {α β : Type} (R : RelT α β) (r : Env → St → Res α) : L2.St → Hp → (β → Hp → Prop) → Prop := fun σ H Q =>
  ∃ (ρ : Nat → Addr) (env : Env) (S : St), Rl Γ X ρ env σ S H ∧ (r env S).All (PostG Γ X R env σ ρ S H Q) (PostX Γ X W env σ ρ S H)
abbrev rd (r : Env → St → Res D) : TE := rdG Γ X W (RD Γ) r
abbrev rdL (r : Env → St → Res (List D)) : TA := rdG Γ X W (RDs Γ) r
abbrev rdB (r : Env → St → Res Bool) : TT := rdG Γ X W RB r
end
section
variable {Γ : Gm} {X : Cx} {W : WX} {α β γ δ : Type} {R : RelT α β} {R2 : RelT γ δ} {env : Env} {σ : L2.St} {ρ ρ1 : Nat → Addr} {S S1 : St} {H H1 : Hp}
theorem mono_RD : Mono (RD Γ) := ⟨fun e h => h.ext e⟩
theorem mono_RDs : Mono (RDs Γ) := ⟨fun e h => h.ext e⟩
theorem mono_RB : Mono RB := ⟨fun _ h => h⟩
theorem PostG.ext {Q : β → Hp → Prop} (w : ∀ l o, S.get l = some o → l < S.n) (w1 : ∀ l o, S1.get l = some o → l < S1.n) (e : Ext ρ S H ρ1 S1 H1) {d : α} {S' : St} (h : PostG Γ X R env σ ρ S H Q d S') : PostG Γ X R env σ ρ1 S1 H1 Q d S' :=
  fun ρ' H' v a b c => h ρ' H' v a (e.trans w w1 b) c
theorem PostX.ext (w : ∀ l o, S.get l = some o → l < S.n) (w1 : ∀ l o, S1.get l = some o → l < S1.n) (e : Ext ρ S H ρ1 S1 H1) {c : Nat} {fs : List (Str × D)} {S' : St} (h : PostX Γ X W env σ ρ S H c fs S') : PostX Γ X W env σ ρ1 S1 H1 c fs S' :=
  fun ρ' H' v d a b c => h ρ' H' v d a (e.trans w w1 b) c
theorem rdG.mono {r : Env → St → Res α} {Q Q' : β → Hp → Prop} (h : rdG Γ X W R r σ H Q) (hQ : ∀ b H1, Q b H1 → Q' b H1) : rdG Γ X W R r σ H Q' := by
  obtain ⟨ρ, env, S, a, b⟩ := h
  exact ⟨ρ, env, S, a, b.mono (fun v S' p ρ' H' v' x y z => hQ _ _ (p ρ' H' v' x y z)) fun _ _ _ p => p⟩
/-- what stands behind a first part: the state there, and what is left -/
def Mid (Γ : Gm) (X : Cx) (W : WX) (R : RelT α β) (R2 : RelT γ δ) (env : Env) (σ : L2.St) (ρ : Nat → Addr) (S : St) (H : Hp) (Q : δ → Hp → Prop) (f : α → St → Res γ) (b : β) (H1 : Hp) : Prop :=
  ∃ (ρ1 : Nat → Addr) (S1 : St) (a : α), Rl Γ X ρ1 env σ S1 H1 ∧ Ext ρ S H ρ1 S1 H1 ∧ R ρ1 S1.n H1 a b ∧ (f a S1).All (PostG Γ X R2 env σ ρ1 S1 H1 Q) (PostX Γ X W env σ ρ1 S1 H1)
/-- THE STEP: the first part's reading, the rest told behind it -/
theorem rd_step {g : Env → St → Res α} {f : α → St → Res γ} {Q : δ → Hp → Prop} (hl : Rl Γ X ρ env σ S H) (h : ((g env S).bind f).All (PostG Γ X R2 env σ ρ S H Q) (PostX Γ X W env σ ρ S H)) :
    rdG Γ X W R g σ H (Mid Γ X W R R2 env σ ρ S H Q f) :=
  ⟨ρ, env, S, hl, h.bind.mono (fun a S1 h1 ρ1 H1 b hl1 e r => ⟨ρ1, S1, a, hl1, e, r, h1.mono (fun _ _ p => p.ext hl.h.wf hl1.h.wf e) fun _ _ _ p => p.ext hl.h.wf hl1.h.wf e⟩) fun _ _ _ p => p⟩
/-- the end -/
theorem rd_end {Q : β → Hp → Prop} {a : α} {b : β} (hl : Rl Γ X ρ env σ S H) (h : (Res.ok a S).All (PostG Γ X R env σ ρ S H Q) (PostX Γ X W env σ ρ S H)) (r : R ρ S.n H a b) : Q b H :=
  h.ok ρ H b hl (Ext.refl hl.h.wf) r
end
/-- a judgement with a weaker reading -/
theorem _root_.L2.PE.wk {X : Cx} {e : Expr} {t t' : TE} (h : PE X e t) (w : ∀ σ H Q, t' σ H Q → t σ H Q) : PE X e t' := ⟨fun pins s σ H Q I q => h.run pins s σ H Q I (w _ _ _ q)⟩
theorem _root_.L2.PT.wk {X : Cx} {e : Expr} {t t' : TT} (h : PT X e t) (w : ∀ σ H Q, t' σ H Q → t σ H Q) : PT X e t' := ⟨fun pins s σ H Q I q => h.run pins s σ H Q I (w _ _ _ q)⟩
theorem _root_.L2.PW.wk {X : Cx} {e : Expr} {t t' : TT} (h : PW X e t) (w : ∀ σ H Q, t' σ H Q → t σ H Q) : PW X e t' := ⟨fun wh pins s σ H Q I q => h.run wh pins s σ H Q I (w _ _ _ q)⟩
theorem _root_.L2.PA.wk {X : Cx} {es : List Expr} {t t' : TA} (h : PA X es t) (w : ∀ σ H Q, t' σ H Q → t σ H Q) : PA X es t' := ⟨fun pos pins s σ H Q I q => h.run pos pins s σ H Q I (w _ _ _ q)⟩
theorem _root_.L2.PS.wk {X : Cx} {e : Stmt} {t t' : TS} (h : PS X e t) (w : ∀ D σ H, t' D σ H → t D σ H) : PS X e t' := ⟨fun pins s σ H D I q => h.run pins s σ H D I (w _ _ _ q)⟩
theorem _root_.L2.PSs.wk {X : Cx} {e : List Stmt} {t t' : TS} (h : PSs X e t) (w : ∀ D σ H, t' D σ H → t D σ H) : PSs X e t' := ⟨fun pins s σ H D I q => h.run pins s σ H D I (w _ _ _ q)⟩
theorem _root_.L2.PG.wk {X : Cx} {e : Expr} {t t' : TG} (h : PG X e t) (w : ∀ v σ H Q, t' v σ H Q → t v σ H Q) : PG X e t' := ⟨fun pins s σ H v u Q I r q => h.run pins s σ H v u Q I r (w _ _ _ _ q)⟩
theorem _root_.L2.PI.wk {X : Cx} {tg e : Expr} {t t' : TI} (h : PI X tg e t) (w : ∀ σ H Q, t' σ H Q → t σ H Q) : PI X tg e t' := ⟨fun pins s σ H Q I q => h.run pins s σ H Q I (w _ _ _ q)⟩
end
end Ev
end
section
set_option Elab.async false
set_option linter.all false
set_option maxRecDepth 100000
set_option maxHeartbeats 2000000
/-! THE PRIMITIVES by the hand layer's rules. -/
namespace Ev
noncomputable section
open PySem PySem.Spec PyProof.Rows L2

theorem lenN_eq {α : Type} : ∀ xs : List α, lenN xs = xs.length
  | [] => rfl
  | _ :: xs => congrArg Nat.succ (lenN_eq xs)
theorem fits_le {α : Type} {xs : List α} (h : fits xs = true) : xs.length ≤ 100000 := by
  have := Nat.le_of_ble_eq_true h
  rwa [lenN_eq] at this
theorem nth_get {α : Type} : ∀ (xs : List α) (i : Nat), nth xs i = xs[i]?
  | [], _ => by simp [nth]
  | x :: _, 0 => rfl
  | _ :: xs, i + 1 => by
    show nth xs i = _
    rw [nth_get xs i]
    simp
theorem setN_set {α : Type} : ∀ (xs : List α) (i : Nat) (v : α), setN xs i v = xs.set i v
  | [], _, _ => rfl
  | _ :: _, 0, _ => rfl
  | x :: xs, i + 1, v => congrArg (x :: ·) (setN_set xs i v)
theorem delN_erase {α : Type} : ∀ (xs : List α) (i : Nat), delN xs i = xs.eraseIdx i
  | [], _ => rfl
  | _ :: _, 0 => rfl
  | x :: xs, i + 1 => congrArg (x :: ·) (delN_erase xs i)

section
variable (Γ : Gm) (X : Cx) (W : WX)
/-- the evaluator goes on from here to Q -/
def Go {α β : Type} (R : RelT α β) (r : St → Res α) (H : Hp) (Q : β → Hp → Prop) : Prop :=
  ∃ (ρ : Nat → Addr) (env : Env) (σ : L2.St) (S : St), Rl Γ X ρ env σ S H ∧ (r S).All (PostG Γ X R env σ ρ S H Q) (PostX Γ X W env σ ρ S H)
/-- a primitive on values -/
def PP (p : Pr) (vs : List V) (H : Hp) (Q : VK) : Prop :=
  ∃ (ρ : Nat → Addr) (env : Env) (σ : L2.St) (S : St) (ds : List D), Rl Γ X ρ env σ S H ∧ RDs Γ ρ S.n H ds vs ∧ (prim Γ.G p ds S).All (PostG Γ X (RD Γ) env σ ρ S H Q) (PostX Γ X W env σ ρ S H)
abbrev PP1 (p : Pr) (x : V) (H : Hp) (Q : VK) : Prop := PP Γ X W p [x] H Q
abbrev PP2 (p : Pr) (x y : V) (H : Hp) (Q : VK) : Prop := PP Γ X W p [x, y] H Q
end
section
variable {Γ : Gm} {X : Cx} {W : WX} {p : Pr} {H : Hp} {Q : VK} {x y z : V}
theorem RDs.inv {ρ : Nat → Addr} {n : Nat} {H : Hp} : ∀ {ds : List D} {v : V} {vs : List V}, RDs Γ ρ n H ds (v :: vs) → ∃ d r, ds = d :: r ∧ RD Γ ρ n H d v ∧ RDs Γ ρ n H r vs
  | [], _, _, h => by
    have h : _ = [] := h
    exact nomatch h
  | d :: r, _, _, h => by
    unfold RDs at h
    obtain ⟨y, t, e, a, b⟩ := h
    cases e
    exact ⟨d, r, rfl, a, b⟩
theorem RDs.inv0 {ρ : Nat → Addr} {n : Nat} {H : Hp} : ∀ {ds : List D}, RDs Γ ρ n H ds [] → ds = []
  | [], _ => rfl
  | d :: r, h => by
    unfold RDs at h
    obtain ⟨y, t, e, a, b⟩ := h
    exact nomatch e
theorem PP.one (h : PP Γ X W p [x] H Q) : ∃ (ρ : Nat → Addr) (env : Env) (σ : L2.St) (S : St) (a : D), Rl Γ X ρ env σ S H ∧ RD Γ ρ S.n H a x ∧ (primF p Γ.G [a] S).All (PostG Γ X (RD Γ) env σ ρ S H Q) (PostX Γ X W env σ ρ S H) := by
  obtain ⟨ρ, env, σ, S, ds, R, r, h⟩ := h
  obtain ⟨a, t, rfl, ra, rt⟩ := r.inv
  cases rt.inv0
  exact ⟨ρ, env, σ, S, a, R, ra, by rw [← prim_eq]; exact h⟩
theorem PP.two (h : PP Γ X W p [x, y] H Q) : ∃ (ρ : Nat → Addr) (env : Env) (σ : L2.St) (S : St) (a b : D), Rl Γ X ρ env σ S H ∧ RD Γ ρ S.n H a x ∧ RD Γ ρ S.n H b y ∧ (primF p Γ.G [a, b] S).All (PostG Γ X (RD Γ) env σ ρ S H Q) (PostX Γ X W env σ ρ S H) := by
  obtain ⟨ρ, env, σ, S, ds, R, r, h⟩ := h
  obtain ⟨a, t, rfl, ra, rt⟩ := r.inv
  obtain ⟨b, t, rfl, rb, rt⟩ := rt.inv
  cases rt.inv0
  exact ⟨ρ, env, σ, S, a, b, R, ra, rb, by rw [← prim_eq]; exact h⟩
theorem PP.three (h : PP Γ X W p [x, y, z] H Q) : ∃ (ρ : Nat → Addr) (env : Env) (σ : L2.St) (S : St) (a b c : D), Rl Γ X ρ env σ S H ∧ RD Γ ρ S.n H a x ∧ RD Γ ρ S.n H b y ∧ RD Γ ρ S.n H c z ∧ (primF p Γ.G [a, b, c] S).All (PostG Γ X (RD Γ) env σ ρ S H Q) (PostX Γ X W env σ ρ S H) := by
  obtain ⟨ρ, env, σ, S, ds, R, r, h⟩ := h
  obtain ⟨a, t, rfl, ra, rt⟩ := r.inv
  obtain ⟨b, t, rfl, rb, rt⟩ := rt.inv
  obtain ⟨c, t, rfl, rc, rt⟩ := rt.inv
  cases rt.inv0
  exact ⟨ρ, env, σ, S, a, b, c, R, ra, rb, rc, by rw [← prim_eq]; exact h⟩
end
section
variable {Γ : Gm} {X : Cx} {W : WX} {H : Hp} {Q : VK} {ρ : Nat → Addr} {env : Env} {σ : L2.St} {S : St} {E : Nat → List (Str × D) → St → Prop}
theorem fin_val {d : D} {v : V} (R : Rl Γ X ρ env σ S H) (h : (Res.ok d S).All (PostG Γ X (RD Γ) env σ ρ S H Q) E) (r : RD Γ ρ S.n H d v) : Q v H :=
  h.ok ρ H v R (Ext.refl R.h.wf) r
theorem fin_tup {xs : List D} {ys : List V} (R : Rl Γ X ρ env σ S H) (h : (Res.ok (.tup xs) S).All (PostG Γ X (RD Γ) env σ ρ S H Q) E) (hl : xs.length ≤ 100000) (r : RDs Γ ρ S.n H xs ys) : ∀ p, H p = none → Q (.ref p) (upd H p (.tup ys)) := fun p hp => by
  refine h.ok ρ (upd H p (.tup ys)) (.ref p) (R.lay hp) (Ext.lay R.h.wf hp) ?_
  unfold RD
  exact ⟨hl, p, ys, rfl, upd_same, r.ext (Ext.lay R.h.wf hp)⟩
theorem fin_lst {xs : List D} {ys : List V} (R : Rl Γ X ρ env σ S H) (h : (mkL xs S).All (PostG Γ X (RD Γ) env σ ρ S H Q) E) (hl : xs.length ≤ 100000) (r : RDs Γ ρ S.n H xs ys) : ∀ p, H p = none → Q (.ref p) (upd H p (.lst ys)) := fun p hp => by
  have e : Ext ρ S H (rup ρ S.n p) (S.new (.lst xs)) (upd H p (.lst ys)) := Ext.new R.h.wf hp
  refine h.ok (rup ρ S.n p) (upd H p (.lst ys)) (.ref p) (R.new hp ⟨hl, ys, by rw [rup_same, upd_same], r.ext e⟩) e ?_
  unfold RD
  exact ⟨Nat.lt_succ_self _, by rw [rup_same]⟩
theorem lst_of {l : Nat} {xs : List D} (R : Rl Γ X ρ env σ S H) (h : S.get l = some (.lst xs)) : xs.length ≤ 100000 ∧ ∃ ys, H (ρ l) = some (.lst ys) ∧ RDs Γ ρ S.n H xs ys := (R.h.obj l _ h).2
theorem dic_of {l : Nat} {xs : List (D × D)} (R : Rl Γ X ρ env σ S H) (h : S.get l = some (.dic xs)) : xs.length ≤ 100000 ∧ ∃ ys, H (ρ l) = some (.dK ys) ∧ RKs Γ ρ S.n H xs ys := (R.h.obj l _ h).2
/-- a list is written -/
theorem fin_set {l : Nat} {x0 : O} {u : HO} {d : D} {v : V} {zs : List D} {ws : List V} (R : Rl Γ X ρ env σ S H) (h0 : S.get l = some x0) (t0 : trk x0 = true) (hu : H (ρ l) = some u) (hi : immut u = false) (ht : ∀ ps, u ≠ .tbl ps)
    (h : (Res.ok d (S.put l (.lst zs))).All (PostG Γ X (RD Γ) env σ ρ S H Q) E) (hl : zs.length ≤ 100000) (r : RDs Γ ρ S.n H zs ws) (rd : RD Γ ρ S.n H d v) : Q v (upd H (ρ l) (.lst ws)) := by
  have e : Ext ρ S H ρ (S.put l (.lst zs)) (upd H (ρ l) (.lst ws)) := Ext.write R.h.wf h0 t0 hu hi rfl
  exact h.ok ρ _ v (R.set h0 t0 hu hi ht rfl ⟨hl, ws, upd_same, r.ext e⟩) e (rd.ext e)
theorem rd_int {i : Int} {v : V} {n : Nat} (h : RD Γ ρ n H (.int i) v) : v = .int i := h
theorem rd_bl {i : Bool} {v : V} {n : Nat} (h : RD Γ ρ n H (.bl i) v) : v = .bl i := h
theorem rd_non {v : V} {n : Nat} (h : RD Γ ρ n H .non v) : v = .non := h
theorem rd_str {i : Str} {v : V} {n : Nat} (h : RD Γ ρ n H (.str i) v) : v = .str i ∧ i.length ≤ 100000 := h
theorem rd_ref {l : Nat} {v : V} {n : Nat} (h : RD Γ ρ n H (.ref l) v) : l < n ∧ v = .ref (ρ l) := h
theorem rd_tup {xs : List D} {v : V} {n : Nat} (h : RD Γ ρ n H (.tup xs) v) : xs.length ≤ 100000 ∧ ∃ a ys, v = .ref a ∧ H a = some (.tup ys) ∧ RDs Γ ρ n H xs ys := h
end

/-! ### ints -/
section
variable {Γ : Gm} {X : Cx} {W : WX}
theorem oWk {X : Cx} {f : Value → Value → Sem Value} {r r' : R2} (h : OpR X f r) (w : ∀ x y H Q, r' x y H Q → r x y H Q) : OpR X f r' := fun pins s σ H x y v u Q I a b q => h pins s σ H x y v u Q I a b (w _ _ _ _ q)
theorem uWk {X : Cx} {f : Value → Sem Value} {r r' : V → Hp → VK → Prop} (h : UnR X f r) (w : ∀ x H Q, r' x H Q → r x H Q) : UnR X f r' := fun pins s σ H x v Q I a q => h pins s σ H x v Q I a (w _ _ _ q)
theorem cWk {X : Cx} {f : Value} {r r' : List V → Hp → VK → Prop} (h : CallR X f r) (w : ∀ xs H Q, r' xs H Q → r xs H Q) : CallR X f r' := fun pins s σ H x v Q I a q => h pins s σ H x v Q I a (w _ _ _ q)
theorem o_sub : OpR X (binaryOp .Sub) (PP2 Γ X W .sub) := oWk op_sub fun x y H Q h => by
  obtain ⟨ρ, env, σ, S, a, b, R, ra, rb, h⟩ := h.two
  simp only [primF, p_sub] at h
  split at h
  · rename_i i j e
    cases e
    exact ⟨i, j, rd_int ra, rd_int rb, fin_val R h rfl⟩
  · exact h.elim
theorem small_lt {i : Int} (h : small i = true) : -(2 ^ 64) < i ∧ i < 2 ^ 64 := by
  cases i with
  | ofNat n =>
    have h : n.blt 18446744073709551616 = true := h
    have := Nat.le_of_ble_eq_true h
    have h2 : (Int.ofNat n) = (n : Int) := rfl
    rw [h2]
    omega
  | negSucc n =>
    have h : n.blt 18446744073709551615 = true := h
    have := Nat.le_of_ble_eq_true h
    omega
theorem o_add : OpR X (binaryOp .Add) (PP2 Γ X W .add) := oWk (OpR.or (OpR.or op_add op_catA) op_cat) fun x y H Q h => by
  obtain ⟨ρ, env, σ, S, a, b, R, ra, rb, h⟩ := h.two
  simp only [primF, p_add] at h
  split at h
  · rename_i i j e
    cases e
    exact .inl (.inl ⟨i, j, rd_int ra, rd_int rb, fin_val R h rfl⟩)
  · rename_i xs ys e
    cases e
    obtain ⟨h1, a1, v1, e1, q1, r1⟩ := rd_tup ra
    obtain ⟨h2, a2, v2, e2, q2, r2⟩ := rd_tup rb
    split at h
    · rename_i hf
      have hl := fits_le hf
      have l1 := r1.len
      have l2 := r2.len
      rw [List.length_append] at hl
      refine .inl (.inr ⟨a1, a2, v1, v2, e1, e2, SqT.of q1, SqT.of q2, Nat.le_trans (by omega) (Evl.sz_of (Nat.le_refl _)), fun z => ?_, fun _ z => ?_, fun _ _ => fin_tup R h (by rw [List.length_append]; exact hl) (r1.app r2)⟩)
      · subst z
        have : xs = [] := List.length_eq_zero_iff.mp l1.symm
        subst this
        exact fin_val R h (by unfold RD; exact ⟨by simpa using hl, a2, v2, rfl, q2, r2⟩)
      · subst z
        have : ys = [] := List.length_eq_zero_iff.mp l2.symm
        subst this
        exact fin_val R h (by unfold RD; exact ⟨by simpa using hl, a1, v1, rfl, q1, by simpa using r1⟩)
    · exact h.elim
  · rename_i la lb e
    cases e
    split at h
    · rename_i xs ys e1 e2
      obtain ⟨h1, v1, q1, r1⟩ := lst_of R e1
      obtain ⟨h2, v2, q2, r2⟩ := lst_of R e2
      split at h
      · rename_i hf
        have hl := fits_le hf
        have l1 := r1.len
        have l2 := r2.len
        rw [List.length_append] at hl
        exact .inr ⟨_, _, v1, v2, (rd_ref ra).2, (rd_ref rb).2, q1, q2, Nat.le_trans (by omega) (Evl.sz_of (Nat.le_refl _)), fin_lst R h (by rw [List.length_append]; exact hl) (r1.app r2)⟩
      · exact h.elim
    · exact h.elim
  · exact h.elim
end

section
variable {Γ : Gm} {X : Cx} {W : WX}
theorem o_lt : OpR X (compareOp .Lt) (PP2 Γ X W .lt) := oWk op_lt fun x y H Q h => by
  obtain ⟨ρ, env, σ, S, a, b, R, ra, rb, h⟩ := h.two
  simp only [primF, p_lt] at h
  split at h
  · rename_i i j e
    cases e
    exact ⟨i, j, rd_int ra, rd_int rb, fin_val R h rfl⟩
  · exact h.elim
theorem o_le : OpR X (compareOp .LtE) (PP2 Γ X W .le) := oWk op_le fun x y H Q h => by
  obtain ⟨ρ, env, σ, S, a, b, R, ra, rb, h⟩ := h.two
  simp only [primF, p_le] at h
  split at h
  · rename_i i j e
    cases e
    exact ⟨i, j, rd_int ra, rd_int rb, fin_val R h rfl⟩
  · exact h.elim
theorem o_gt : OpR X (compareOp .Gt) (PP2 Γ X W .gt) := oWk op_gt fun x y H Q h => by
  obtain ⟨ρ, env, σ, S, a, b, R, ra, rb, h⟩ := h.two
  simp only [primF, p_gt] at h
  split at h
  · rename_i i j e
    cases e
    exact ⟨i, j, rd_int ra, rd_int rb, fin_val R h rfl⟩
  · exact h.elim
theorem o_ge : OpR X (compareOp .GtE) (PP2 Γ X W .ge) := oWk op_ge fun x y H Q h => by
  obtain ⟨ρ, env, σ, S, a, b, R, ra, rb, h⟩ := h.two
  simp only [primF, p_ge] at h
  split at h
  · rename_i i j e
    cases e
    exact ⟨i, j, rd_int ra, rd_int rb, fin_val R h rfl⟩
  · exact h.elim
theorem i_sub : OpR X (inplaceOp .Sub) (PP2 Γ X W .sub) := oWk iop_sub fun x y H Q h => by
  obtain ⟨ρ, env, σ, S, a, b, R, ra, rb, h⟩ := h.two
  simp only [primF, p_sub] at h
  split at h
  · rename_i i j e
    cases e
    exact ⟨i, j, rd_int ra, rd_int rb, fin_val R h rfl⟩
  · exact h.elim
theorem rep_len {α : Type} (x : List α) : ∀ k : Nat, (List.replicate k x).flatten.length = k * x.length
  | 0 => by simp
  | k + 1 => by rw [List.replicate_succ, List.flatten_cons, List.length_append, rep_len x k, Nat.succ_mul, Nat.add_comm]
theorem RDs.rep {ρ : Nat → Addr} {n : Nat} {H : Hp} {xs : List D} {vs : List V} (h : RDs Γ ρ n H xs vs) : ∀ k : Nat, RDs Γ ρ n H (List.replicate k xs).flatten (List.replicate k vs).flatten
  | 0 => rfl
  | k + 1 => by
    rw [List.replicate_succ, List.flatten_cons, List.replicate_succ, List.flatten_cons]
    exact h.app (RDs.rep h k)
theorem o_mul : OpR X (binaryOp .Mult) (PP2 Γ X W .mul) := oWk (OpR.or (OpR.or op_mul op_rep) op_repT) fun x y H Q h => by
  obtain ⟨ρ, env, σ, S, a, b, R, ra, rb, h⟩ := h.two
  simp only [primF, p_mul] at h
  split at h
  · rename_i i j e
    cases e
    split at h
    · rename_i hs
      refine .inl (.inl ⟨i, j, rd_int ra, rd_int rb, ?_, fin_val R h rfl⟩)
      rcases Bool.or_eq_true_iff.mp hs with q | q
      · exact .inl (small_lt q)
      · exact .inr (small_lt q)
    · exact h.elim
  · rename_i l j e
    cases e
    split at h
    · rename_i xs e1
      obtain ⟨h1, v1, q1, r1⟩ := lst_of R e1
      split at h
      · rename_i hs
        obtain ⟨hs, h3⟩ := Bool.and_eq_true_iff.mp hs
        obtain ⟨c1, c2⟩ := Bool.and_eq_true_iff.mp hs
        have c1 := of_decide_eq_true c1
        have c2 := of_decide_eq_true c2
        have c3 : xs.length ≤ 100 := by
          have := Nat.le_of_ble_eq_true h3
          rwa [lenN_eq] at this
        have c4 : j.toNat ≤ 1000 := by omega
        have c5 : j.toNat * xs.length ≤ 1000 * 100 := Nat.mul_le_mul c4 c3
        refine .inl (.inr ⟨_, j, v1, (rd_ref ra).2, rd_int rb, q1, by omega, by omega, Nat.le_trans ?_ (Evl.sz_of (Nat.le_refl _)), fin_lst R h (by rw [rep_len]; exact c5) (r1.rep _)⟩)
        rw [r1.len, Nat.mul_comm]
        exact c5
      · exact h.elim
    · exact h.elim
  · rename_i xs j e
    cases e
    obtain ⟨h1, a1, v1, e1, q1, r1⟩ := rd_tup ra
    split at h
    · rename_i hs
      obtain ⟨hs, h4⟩ := Bool.and_eq_true_iff.mp hs
      obtain ⟨hs, h3⟩ := Bool.and_eq_true_iff.mp hs
      obtain ⟨c1, c2⟩ := Bool.and_eq_true_iff.mp hs
      have c1 := of_decide_eq_true c1
      have c2 := of_decide_eq_true c2
      have c3 : xs.length ≤ 100 := by
        have := Nat.le_of_ble_eq_true h3
        rwa [lenN_eq] at this
      have c6 : 0 < xs.length := by
        have := Nat.le_of_ble_eq_true h4
        rwa [lenN_eq] at this
      have c4 : j.toNat ≤ 1000 := by omega
      have c5 : j.toNat * xs.length ≤ 1000 * 100 := Nat.mul_le_mul c4 c3
      refine .inr ⟨a1, j, v1, e1, rd_int rb, SqT.of q1, fun z => ?_, c1, c2, by rw [r1.len]; omega, fin_tup R h (by rw [rep_len]; exact c5) (r1.rep _)⟩
      have := r1.len
      rw [z] at this
      simp at this
      omega
    · exact h.elim
  · exact h.elim
theorem o_fdiv : OpR X (binaryOp .FloorDiv) (PP2 Γ X W .fdiv) := oWk op_fdiv fun x y H Q h => by
  obtain ⟨ρ, env, σ, S, a, b, R, ra, rb, h⟩ := h.two
  simp only [primF, p_fdiv] at h
  split at h
  · rename_i i j e
    cases e
    split at h
    · rename_i hs
      obtain ⟨c1, c2⟩ := Bool.and_eq_true_iff.mp hs
      exact ⟨i, j, rd_int ra, rd_int rb, ⟨of_decide_eq_true c1, of_decide_eq_true c2⟩, fin_val R h rfl⟩
    · exact h.elim
  · exact h.elim
theorem o_mod : OpR X (binaryOp .Mod) (PP2 Γ X W .mod) := oWk op_mod fun x y H Q h => by
  obtain ⟨ρ, env, σ, S, a, b, R, ra, rb, h⟩ := h.two
  simp only [primF, p_mod] at h
  split at h
  · rename_i i j e
    cases e
    split at h
    · rename_i hs
      exact ⟨i, j, rd_int ra, rd_int rb, of_decide_eq_true hs, fin_val R h rfl⟩
    · exact h.elim
  · exact h.elim
theorem o_pow : OpR X (binaryOp .Pow) (PP2 Γ X W .pow) := oWk op_pow fun x y H Q h => by
  obtain ⟨ρ, env, σ, S, a, b, R, ra, rb, h⟩ := h.two
  simp only [primF, p_pow] at h
  split at h
  · rename_i i j e
    cases e
    split at h
    · rename_i hs
      obtain ⟨hs, c3⟩ := Bool.and_eq_true_iff.mp hs
      obtain ⟨c1, c2⟩ := Bool.and_eq_true_iff.mp hs
      have c2 := of_decide_eq_true c2
      have c3 := of_decide_eq_true c3
      have c4 := small_lt c1
      refine ⟨i, j, rd_int ra, rd_int rb, ⟨c2, by omega, ?_⟩, fin_val R h rfl⟩
      have : (2 : Int) ^ 64 = 18446744073709551616 := by decide
      rw [this] at c4
      show i.natAbs < 18446744073709551616
      omega
    · exact h.elim
  · exact h.elim
theorem u_neg : UnR X (unaryOp .USub) (PP1 Γ X W .neg) := uWk un_neg fun x H Q h => by
  obtain ⟨ρ, env, σ, S, a, R, ra, h⟩ := h.one
  simp only [primF, p_neg] at h
  split at h
  · rename_i i e
    cases e
    exact ⟨i, rd_int ra, fin_val R h rfl⟩
  · exact h.elim
/-! ### data -/
theorem mapO_some {α β : Type} {f : α → Option β} : ∀ {xs : List α} {ys : List β}, mapO f xs = some ys → Paired (fun x y => f x = some y) xs ys
  | [], ys, h => by
    cases h
    exact .nil
  | x :: xs, ys, h => by
    rw [mapO_cons] at h
    split at h
    · rename_i y e1
      split at h
      · rename_i zs e2
        cases h
        exact .cons e1 (mapO_some e2)
      · cases h
    · cases h
/-- what the data reads, of the heap -/
structure RdOk (h : Heap) (H : Hp) (dc : Bool) (n : Nat) (y : PyData) (u : Value) (as : List Addr) : Prop where
  rd : Reads h u y as
  tr : ∀ a, a ∈ as → H a ≠ none
  dp : y.depth ≤ n
  pl : dc = false → y.plain = true
theorem RdOk.all {h : Heap} {H : Hp} {dc : Bool} {n : Nat} : ∀ {ys : List PyData} {us : List Value}, Paired (fun y u => ∃ as, RdOk h H dc n y u as) ys us → ∃ as, ReadsAll h us ys as ∧ (∀ a, a ∈ as → H a ≠ none) ∧ PyData.depthAll ys ≤ n ∧ (dc = false → PyData.plainAll ys = true)
  | _, _, .nil => ⟨[], .nil, fun _ h => (nomatch h), Nat.zero_le _, fun _ => rfl⟩
  | _, _, .cons ⟨as, r⟩ t => by
    obtain ⟨bs, b1, b2, b3, b4⟩ := RdOk.all t
    refine ⟨as ++ bs, .cons r.rd b1, fun a ha => (List.mem_append.mp ha).elim (r.tr a) (b2 a), Nat.max_le.mpr ⟨r.dp, b3⟩, fun z => ?_⟩
    show (_ && _) = true
    rw [r.pl z, b4 z]; rfl
theorem pair_map {α β γ δ : Type} {F : α → β → Prop} {K : γ → δ → Prop} {L : β → δ → Prop} {M : α → γ → Prop} (k : ∀ a b c d, F a b → M a c → K c d → L b d) : ∀ {as : List α} {bs : List β} {cs : List γ} {ds : List δ}, Paired F as bs → Paired M as cs → Paired K cs ds → Paired L bs ds
  | _, _, _, _, .nil, .nil, .nil => .nil
  | _, _, _, _, .cons a r, .cons b t, .cons c q => .cons (k _ _ _ _ a b c) (pair_map k r t q)
theorem RDs.paired {ρ : Nat → Addr} {n : Nat} {H : Hp} : ∀ {ds : List D} {vs : List V}, RDs Γ ρ n H ds vs → Paired (RD Γ ρ n H) ds vs
  | [], _, h => by
    have h : _ = [] := h
    subst h
    exact .nil
  | d :: r, _, h => by
    unfold RDs at h
    obtain ⟨y, t, rfl, a, b⟩ := h
    exact .cons a (RDs.paired b)
theorem dict_empty {P : Program} {w : World} {H : Hp} {h : Heap} {a : Addr} (hok : HOk P w H h) (e : H a = some (.dK [])) : ∃ o ep, h.get? a = some o ∧ o.cls = .type "dict" ∧ o.data = .dict #[] ep := by
  obtain ⟨_, _, vs, kv, o, es, ep, ho, hx, hd, _, hp, _⟩ := hok a _ e
  cases kv
  have he : es.toList = [] := by
    have := hp.length
    exact List.length_eq_zero_iff.mp this
  have : es = #[] := by
    cases es
    simp at he
    rw [he]
  subst this
  exact ⟨o, ep, ho, hx.1, hd⟩
theorem pd_reads {pins : List (Addr × Obj)} {σ' : L2.St} {s : Shared} {ρ : Nat → Addr} {env : Env} {S : St} {H : Hp} {dc : Bool} (I : Inv X pins σ' H s) (R : Rh Γ ρ env S H) :
    ∀ (n : Nat) (d : D) (y : PyData) (v : V) (u : Value), pd dc S n d = some y → RD Γ ρ S.n H d v → RelV v u → ∃ as, RdOk s.heap H dc n y u as := by
  have sc : ∀ (n : Nat) (d : D) (y : PyData) (v : V) (u : Value), (∀ xs, d ≠ .tup xs) → (∀ l, d ≠ .ref l) → pd dc S n d = some y → RD Γ ρ S.n H d v → RelV v u → ∃ as, RdOk s.heap H dc n y u as := fun n d y v u h1 h2 h r q => by
    cases d with
    | int i =>
      have e : y = .int i := by cases n <;> exact (Option.some.inj h).symm
      subst e
      cases rd_int r
      obtain ⟨t, rfl⟩ := q
      exact ⟨[], .int i t, fun _ z => (nomatch z), Nat.zero_le _, fun _ => rfl⟩
    | str i =>
      have e : y = .str i := by cases n <;> exact (Option.some.inj h).symm
      subst e
      cases (rd_str r).1
      obtain ⟨t, rfl⟩ := q
      exact ⟨[], .str i t, fun _ z => (nomatch z), Nat.zero_le _, fun _ => rfl⟩
    | non =>
      have e : y = .none := by cases n <;> exact (Option.some.inj h).symm
      subst e
      cases rd_non r
      cases q
      exact ⟨[], .none, fun _ z => (nomatch z), Nat.zero_le _, fun _ => rfl⟩
    | bl i =>
      have e : y = .bool i := by cases n <;> exact (Option.some.inj h).symm
      subst e
      cases rd_bl r
      cases q
      exact ⟨[], .bool i, fun _ z => (nomatch z), Nat.zero_le _, fun _ => rfl⟩
    | tup xs => exact absurd rfl (h1 xs)
    | ref l => exact absurd rfl (h2 l)
    | fn i => cases n <;> exact nomatch h
    | cls i => cases n <;> exact nomatch h
    | ty i => cases n <;> exact nomatch h
  intro n
  induction n with
  | zero =>
    intro d y v u h r q
    cases d with
    | tup xs => exact nomatch h
    | ref l => exact nomatch h
    | int i => exact sc 0 _ y v u (fun _ z => D.noConfusion z) (fun _ z => D.noConfusion z) h r q
    | str i => exact sc 0 _ y v u (fun _ z => D.noConfusion z) (fun _ z => D.noConfusion z) h r q
    | non => exact sc 0 _ y v u (fun _ z => D.noConfusion z) (fun _ z => D.noConfusion z) h r q
    | bl i => exact sc 0 _ y v u (fun _ z => D.noConfusion z) (fun _ z => D.noConfusion z) h r q
    | fn i => exact nomatch h
    | cls i => exact nomatch h
    | ty i => exact nomatch h
  | succ n ih =>
    have all : ∀ (xs : List D) (ys : List PyData) (vs : List V) (us : List Value), mapO (pd dc S n) xs = some ys → RDs Γ ρ S.n H xs vs → Vals vs us → ∃ as, ReadsAll s.heap us ys as ∧ (∀ a, a ∈ as → H a ≠ none) ∧ PyData.depthAll ys ≤ n ∧ (dc = false → PyData.plainAll ys = true) := fun xs ys vs us h r q =>
      RdOk.all (pair_map (fun d y v u a b c => ih d y v u a b c) (mapO_some h) r.paired q)
    intro d y v u h r q
    cases d with
    | tup xs =>
      unfold pd at h
      split at h
      · rename_i ys e
        cases h
        obtain ⟨_, a, vs, rfl, ha, rs⟩ := rd_tup r
        cases q
        obtain ⟨its, rv, ⟨o, ho, hc, k, hd⟩, _⟩ := I.tuple (SqT.of ha)
        obtain ⟨as, r1, r2, r3, r4⟩ := all xs ys vs its e rs rv
        exact ⟨as, .tuple ho hc hd r1, r2, Nat.succ_le_succ r3, fun z => r4 z⟩
      · cases h
    | ref l =>
      unfold pd at h
      obtain ⟨_, rfl⟩ := rd_ref r
      cases q
      split at h
      · rename_i xs e
        split at h
        · rename_i ys e1
          cases h
          obtain ⟨_, vs, ha, rs⟩ := (R.obj l _ e).2
          obtain ⟨its, rv, ⟨o, k, ho, hc, _, hd⟩, _⟩ := I.list (SqL.of ha)
          obtain ⟨as, r1, r2, r3, r4⟩ := all xs ys vs its e1 rs rv
          refine ⟨ρ l :: as, .list ho hc hd r1, fun a z => ?_, Nat.succ_le_succ r3, fun z => r4 z⟩
          rcases List.mem_cons.mp z with rfl | z
          · rw [ha]; exact nofun
          · exact r2 a z
        · cases h
      · rename_i e
        split at h
        · cases h
          obtain ⟨_, rs, ha, rk⟩ := (R.obj l _ e).2
          have rk : rs = [] := rk
          subst rk
          obtain ⟨o, ep, ho, hc, hd⟩ := dict_empty I.hok ha
          refine ⟨[ρ l], .dict (kvs := []) ho hc hd .nil .nil, fun a z => ?_, by show 0 + 1 ≤ n + 1; omega, fun z => nomatch z⟩
          rw [List.mem_singleton.mp z, ha]
          exact nofun
        · cases h
      · cases h
    | int i => exact sc _ _ y v u (fun _ z => D.noConfusion z) (fun _ z => D.noConfusion z) h r q
    | str i => exact sc _ _ y v u (fun _ z => D.noConfusion z) (fun _ z => D.noConfusion z) h r q
    | non => exact sc _ _ y v u (fun _ z => D.noConfusion z) (fun _ z => D.noConfusion z) h r q
    | bl i => exact sc _ _ y v u (fun _ z => D.noConfusion z) (fun _ z => D.noConfusion z) h r q
    | fn i => exact nomatch h
    | cls i => exact nomatch h
    | ty i => exact nomatch h
theorem pds_reads {pins : List (Addr × Obj)} {σ' : L2.St} {s : Shared} {ρ : Nat → Addr} {env : Env} {S : St} {H : Hp} {dc : Bool} (I : Inv X pins σ' H s) (R : Rh Γ ρ env S H) (n : Nat) {xs : List D} {ys : List PyData} {vs : List V} {us : List Value}
    (h : mapO (pd dc S n) xs = some ys) (r : RDs Γ ρ S.n H xs vs) (q : Vals vs us) : ∃ as, ReadsAll s.heap us ys as ∧ (∀ a, a ∈ as → H a ≠ none) ∧ PyData.depthAll ys ≤ n ∧ (dc = false → PyData.plainAll ys = true) :=
  RdOk.all (pair_map (fun d y v u a b c => pd_reads I R n d y v u a b c) (mapO_some h) r.paired q)
end
end
end Ev
end
section
set_option Elab.async false
set_option linter.all false
set_option maxRecDepth 100000
set_option maxHeartbeats 2000000
namespace Ev
noncomputable section
open PySem PySem.Spec PyProof.Rows L2
section
variable {Γ : Gm} {X : Cx} {W : WX}
theorem eqD_some {S : St} {a b : D} {r : Bool} (h : eqD S a b = some r) : ∃ x y, pd false S fuelD a = some x ∧ pd false S fuelD b = some y ∧ r = PyData.eqv x y := by
  unfold eqD at h
  split at h
  · rename_i i j
    refine ⟨.int i, .int j, rfl, rfl, ?_⟩
    cases h
    show decide (i = j) = (i == j)
    by_cases e : i = j
    · subst e; simp
    · rw [decide_eq_false e]; exact (beq_eq_false_iff_ne.mpr e).symm
  · rename_i i j
    refine ⟨.str i, .str j, rfl, rfl, ?_⟩
    rw [eqS_eq] at h
    cases h
    show decide (i = j) = (i == j)
    by_cases e : i = j
    · subst e; simp
    · rw [decide_eq_false e]; exact (beq_eq_false_iff_ne.mpr e).symm
  · split at h
    · rename_i x y e1 e2
      cases h
      exact ⟨x, y, e1, e2, eqF_eq x y⟩
    · cases h
theorem o_eq (hu : X.A.units + 100 < cLine) : OpR X (compareOp .Eq) (PP2 Γ X W .eq) := by
  intro pins s σ' H x y v u Q I rx ry h
  obtain ⟨ρ, env, σ, S, a, b, R, ra, rb, h⟩ := h.two
  simp only [primF, p_eq, okB] at h
  split at h
  · rename_i r e
    obtain ⟨p, q, e1, e2, rfl⟩ := eqD_some e
    obtain ⟨as, A1⟩ := pd_reads I R.h _ a p x v e1 ra rx
    obtain ⟨bs, B1⟩ := pd_reads I R.h _ b q y u e2 rb ry
    have hd := A1.dp
    exact SeqAt.eq_plain A1.rd B1.rd (A1.pl rfl) (B1.pl rfl) (Nat.lt_of_le_of_lt (Nat.add_le_add_left (Nat.le_trans (Nat.min_le_left _ _) (Nat.le_trans hd (by decide))) _) hu) ⟨.bl _, H, I, rfl, fin_val R h rfl⟩
  · exact h.elim
theorem o_ne (hu : X.A.units + 100 < cLine) : OpR X (compareOp .NotEq) (PP2 Γ X W .ne) := by
  intro pins s σ' H x y v u Q I rx ry h
  obtain ⟨ρ, env, σ, S, a, b, R, ra, rb, h⟩ := h.two
  simp only [primF, p_ne] at h
  split at h
  · rename_i r e
    obtain ⟨p, q, e1, e2, rfl⟩ := eqD_some e
    obtain ⟨as, A1⟩ := pd_reads I R.h _ a p x v e1 ra rx
    obtain ⟨bs, B1⟩ := pd_reads I R.h _ b q y u e2 rb ry
    have hd := A1.dp
    exact SeqAt.ne_plain A1.rd B1.rd (A1.pl rfl) (B1.pl rfl) (Nat.lt_of_le_of_lt (Nat.add_le_add_left (Nat.le_trans (Nat.min_le_left _ _) (Nat.le_trans hd (by decide))) _) hu) ⟨.bl _, H, I, rfl, fin_val R h rfl⟩
  · exact h.elim
theorem o_is : OpR X (compareOp .Is) (PP2 Γ X W .is_) := oWk (OpR.or op_isN op_isBl) fun x y H Q h => by
  obtain ⟨ρ, env, σ, S, a, b, R, ra, rb, h⟩ := h.two
  simp only [primF, p_is_] at h
  split at h
  · refine .inl ⟨rd_non rb, fin_val R h ?_⟩
    cases a with
    | non =>
      have e := rd_non ra
      subst e
      rfl
    | bl i =>
      have e := rd_bl ra
      subst e
      rfl
    | int i =>
      have e := rd_int ra
      subst e
      rfl
    | str i =>
      have e := (rd_str ra).1
      subst e
      rfl
    | tup i =>
      obtain ⟨_, _, _, rfl, _⟩ := rd_tup ra
      rfl
    | ref i =>
      have e := (rd_ref ra).2
      subst e
      rfl
    | fn i =>
      have e : x = _ := ra
      subst e
      rfl
    | cls i =>
      have e : x = _ := ra
      subst e
      rfl
    | ty i =>
      have e : x = _ := ra
      subst e
      rfl
  · split at h
    · rename_i i j
      refine .inr ⟨_, _, rd_bl ra, rd_bl rb, fin_val R h ?_⟩
      show V.bl _ = V.bl _
      congr 1
    · exact h.elim
  · exact h.elim
theorem o_isnot : OpR X (compareOp .IsNot) (PP2 Γ X W .isnot) := oWk (OpR.or op_notN op_notBl) fun x y H Q h => by
  obtain ⟨ρ, env, σ, S, a, b, R, ra, rb, h⟩ := h.two
  simp only [primF, p_isnot] at h
  split at h
  · refine .inl ⟨rd_non rb, fin_val R h ?_⟩
    cases a with
    | non =>
      have e := rd_non ra
      subst e
      rfl
    | bl i =>
      have e := rd_bl ra
      subst e
      rfl
    | int i =>
      have e := rd_int ra
      subst e
      rfl
    | str i =>
      have e := (rd_str ra).1
      subst e
      rfl
    | tup i =>
      obtain ⟨_, _, _, rfl, _⟩ := rd_tup ra
      rfl
    | ref i =>
      have e := (rd_ref ra).2
      subst e
      rfl
    | fn i =>
      have e : x = _ := ra
      subst e
      rfl
    | cls i =>
      have e : x = _ := ra
      subst e
      rfl
    | ty i =>
      have e : x = _ := ra
      subst e
      rfl
  · split at h
    · rename_i i j
      refine .inr ⟨_, _, rd_bl ra, rd_bl rb, fin_val R h ?_⟩
      show V.bl _ = V.bl _
      congr 1
    · exact h.elim
  · exact h.elim
theorem anyEq_any (d : PyData) : ∀ ds : List PyData, anyEq d ds = ds.any fun y => PyData.eqv y d
  | [] => rfl
  | y :: ds => by
    unfold anyEq
    rw [List.any_cons, eqF_eq]
    split
    · rename_i e
      rw [e]; rfl
    · rename_i e
      rw [e, anyEq_any d ds]; rfl
/-- a list or a tuple and its items -/
theorem items_at {ρ : Nat → Addr} {env : Env} {S : St} {H : Hp} {d : D} {v : V} {xs : List D} (R : Rh Γ ρ env S H) (h : items S d = some xs) (r : RD Γ ρ S.n H d v) :
    xs.length ≤ 100000 ∧ ∃ a ys, v = .ref a ∧ RDs Γ ρ S.n H xs ys ∧ ((H a = some (.lst ys) ∧ ∃ l, d = .ref l) ∨ (H a = some (.tup ys) ∧ d = .tup xs)) := by
  unfold items at h
  split at h
  · cases h
    obtain ⟨hl, a, ys, e, ha, rs⟩ := rd_tup r
    exact ⟨hl, a, ys, e, rs, .inr ⟨ha, rfl⟩⟩
  · rename_i l
    split at h
    · rename_i zs e1
      cases h
      obtain ⟨hl, ys, ha, rs⟩ := (R.obj l _ e1).2
      exact ⟨hl, ρ l, ys, (rd_ref r).2, rs, .inl ⟨ha, l, rfl⟩⟩
    · cases h
  · cases h
theorem o_in (hu : X.A.units + 100 < cLine) : OpR X (compareOp .In) (PP2 Γ X W .in_) := by
  intro pins s σ' H x y v u Q I rx ry h
  obtain ⟨ρ, env, σ, S, a, b, R, ra, rb, g⟩ := h.two
  clear h
  simp only [primF, p_in_] at g
  split at g
  · rename_i xs e
    obtain ⟨hl, c, ys, rfl, rs, hc⟩ := items_at R.h e rb
    cases ry
    split at g
    · rename_i d ds e1 e2
      obtain ⟨as, A1⟩ := pd_reads I R.h _ a d x v e1 ra rx
      have hd := A1.dp
      have rm : X.A.units + 1 + min (PyData.depthAll ds) d.depth < cLine := by
        have : min (PyData.depthAll ds) d.depth ≤ fuelD := Nat.le_trans (Nat.min_le_right _ _) hd
        have : fuelD = 20 := rfl
        omega
      rcases hc with ⟨hc, _⟩ | ⟨hc, _⟩
      · obtain ⟨its, rv, ⟨o, k, ho, hcl, _, hdt⟩, _⟩ := I.list (SqL.of hc)
        obtain ⟨bs, r1, r2, r3, r4⟩ := pds_reads I R.h _ e2 rs rv
        refine SeqAt.in_list_data (.list ho hcl hdt r1) A1.rd (r4 rfl) (A1.pl rfl) rm ⟨.bl _, H, I, rfl, ?_⟩
        rw [← anyEq_any]
        exact fin_val R g rfl
      · obtain ⟨its, rv, ⟨o, ho, hcl, k, hdt⟩, _⟩ := I.tuple (SqT.of hc)
        obtain ⟨bs, r1, r2, r3, r4⟩ := pds_reads I R.h _ e2 rs rv
        refine SeqAt.in_tuple_data (.tuple ho hcl hdt r1) A1.rd (r4 rfl) (A1.pl rfl) rm ⟨.bl _, H, I, rfl, ?_⟩
        rw [← anyEq_any]
        exact fin_val R g rfl
    · exact g.elim
  · exact g.elim
theorem o_notin (hu : X.A.units + 100 < cLine) : OpR X (compareOp .NotIn) (PP2 Γ X W .notin) := by
  intro pins s σ' H x y v u Q I rx ry h
  obtain ⟨ρ, env, σ, S, a, b, R, ra, rb, g⟩ := h.two
  clear h
  simp only [primF, p_notin] at g
  split at g
  · rename_i xs e
    obtain ⟨hl, c, ys, rfl, rs, hc⟩ := items_at R.h e rb
    cases ry
    split at g
    · rename_i d ds e1 e2
      obtain ⟨as, A1⟩ := pd_reads I R.h _ a d x v e1 ra rx
      have hd := A1.dp
      have rm : X.A.units + 1 + min (PyData.depthAll ds) d.depth < cLine := by
        have : min (PyData.depthAll ds) d.depth ≤ fuelD := Nat.le_trans (Nat.min_le_right _ _) hd
        have : fuelD = 20 := rfl
        omega
      rcases hc with ⟨hc, _⟩ | ⟨hc, _⟩
      · obtain ⟨its, rv, ⟨o, k, ho, hcl, _, hdt⟩, _⟩ := I.list (SqL.of hc)
        obtain ⟨bs, r1, r2, r3, r4⟩ := pds_reads I R.h _ e2 rs rv
        refine SeqAt.notIn_list_data (.list ho hcl hdt r1) A1.rd (r4 rfl) (A1.pl rfl) rm ⟨.bl _, H, I, rfl, ?_⟩
        rw [← anyEq_any]
        exact fin_val R g rfl
      · obtain ⟨its, rv, ⟨o, ho, hcl, k, hdt⟩, _⟩ := I.tuple (SqT.of hc)
        obtain ⟨bs, r1, r2, r3, r4⟩ := pds_reads I R.h _ e2 rs rv
        refine SeqAt.notIn_tuple_data (.tuple ho hcl hdt r1) A1.rd (r4 rfl) (A1.pl rfl) rm ⟨.bl _, H, I, rfl, ?_⟩
        rw [← anyEq_any]
        exact fin_val R g rfl
    · exact g.elim
  · exact g.elim
/-! ### places -/
theorem ixOf_ix {i : Int} {n k : Nat} (h : ixOf i n = some k) : ixN n i = some k := by
  unfold ixOf at h
  unfold ixN
  split at h
  · rename_i j
    split at h
    · rename_i hb
      cases h
      have := Nat.le_of_ble_eq_true hb
      show (if (0 : Int) ≤ ((k : Nat) : Int) then if ((k : Nat) : Int) < (n : Int) then some (((k : Nat) : Int)).toNat else none else _) = _
      rw [if_pos (show (0 : Int) ≤ ((k : Nat) : Int) by omega), if_pos (show ((k : Nat) : Int) < (n : Int) by omega)]
      rfl
    · cases h
  · rename_i j
    split at h
    · rename_i hb
      cases h
      have := Nat.le_of_ble_eq_true hb
      rw [if_neg (by omega), if_pos (by omega)]
      congr 1
      show (Int.negSucc j + (n : Int)).toNat = n - (j + 1)
      omega
    · cases h
theorem sub_tail {prog : Program} {w : World} {A : Around} {E : Value → Shared → Prop} {s : Shared} {value slice : Expr} {o i : Value} {T id : String} {Q : Value → Shared → Prop} (ty : s.TypeIs o T) (lk : typeLookup (.type T) "__getitem__" = pure (some (.builtin id)))
    (pl : subscripted slice false o i = operate [o, i] (getItem o i)) (h : wpAny (model prog w) A (getItem o i) Q E s) : wpAny (model prog w) A (subscriptTail value slice o i) Q E s := by
  have last : wpAny (model prog w) A (subscripted slice false o i) (fun r s1 => wpAny (model prog w) A (letTemporaryGo value o r >>= fun _ => pure r) Q E s1) E s := by
    rw [pl]; exact wpAny_operating (wpAny_mono h (fun r s1 h1 => wpAny_bind (wpAny_letTemporaryGo (wpAny_pure h1))) fun _ _ z => z)
  unfold subscriptTail
  refine wpAny_bind (by rw [getitemInPython_of_ne ty.not_modules]; exact wpAny_bind (wpAny_specialOf ty lk (by first | exact wpAny_pure (wpAny_bind last) | exact wpAny_bind (wpAny_pure (wpAny_bind last)) | exact wpAny_bind last)))
theorem keyEq_eq {a b : D} {p q : Key} (ha : keyD a = some p) (hb : keyD b = some q) : keyEq a b = decide (p = q) := by
  cases a <;> cases ha <;> cases b <;> cases hb
  · rename_i i j
    show decide (i = j) = decide ((Sum.inl i : Key) = Sum.inl j)
    by_cases e : i = j
    · subst e; simp
    · rw [decide_eq_false e, decide_eq_false fun z => e (Sum.inl.inj z)]
  · exact (decide_eq_false (by intro z; cases z)).symm
  · exact (decide_eq_false (by intro z; cases z)).symm
  · rename_i i j
    show decide (i = j) = decide ((Sum.inr i : Key) = Sum.inr j)
    by_cases e : i = j
    · subst e; simp
    · rw [decide_eq_false e, decide_eq_false fun z => e (Sum.inr.inj z)]
theorem isKey_keyD {d : D} (h : isKey d = true) : ∃ k, keyD d = some k := by
  cases d <;> first | exact ⟨_, rfl⟩ | (simp [isKey] at h)
theorem keyD_kV {ρ : Nat → Addr} {n : Nat} {H : Hp} {d : D} {k : Key} {v : V} (h : keyD d = some k) (r : RD Γ ρ n H d v) : v = kV k := by
  cases d <;> cases h
  · exact rd_int r
  · exact (rd_str r).1
theorem lookD_val {ρ : Nat → Addr} {n : Nat} {H : Hp} {d : D} {k : Key} (hk : keyD d = some k) : ∀ {kvs : List (D × D)} {rs : List (Key × V)}, RKs Γ ρ n H kvs rs →
    (∀ x, lookD d kvs = some x → ∃ v, valV rs k = some v ∧ RD Γ ρ n H x v) ∧ (lookD d kvs = none → valV rs k = none)
  | [], rs, h => by
    have h : rs = [] := h
    subst h
    exact ⟨fun _ z => (by cases z), fun _ => rfl⟩
  | (a, b) :: r, rs, h => by
    unfold RKs at h
    obtain ⟨q, v, t, rfl, h1, h2, h3, h4⟩ := h
    obtain ⟨i1, i2⟩ := lookD_val hk h4
    have e1 := keyEq_eq h1 hk
    have e2 : valV ((q, v) :: t) k = if q = k then some v else valV t k := by
      unfold valV
      rw [List.find?_cons]
      by_cases e : q = k
      · subst e; simp
      · simp [e]
    unfold lookD
    rw [e1, e2]
    by_cases e : q = k
    · subst e
      simp only [decide_true, if_true]
      exact ⟨fun x z => ⟨v, rfl, by cases z; exact h3⟩, fun z => (by cases z)⟩
    · rw [if_neg e]
      simp only [e, decide_false]
      exact ⟨i1, i2⟩
theorem hasD_any {ρ : Nat → Addr} {n : Nat} {H : Hp} {d : D} {k : Key} (hk : keyD d = some k) : ∀ {kvs : List (D × D)} {rs : List (Key × V)}, RKs Γ ρ n H kvs rs → hasD d kvs = rs.any fun kv => decide (kv.1 = k)
  | [], rs, h => by
    have h : rs = [] := h
    subst h
    rfl
  | (a, b) :: r, rs, h => by
    unfold RKs at h
    obtain ⟨q, v, t, rfl, h1, h2, h3, h4⟩ := h
    unfold hasD
    rw [keyEq_eq h1 hk, List.any_cons, hasD_any hk h4]
    show _ = (decide (q = k) || _)
    by_cases e : q = k
    · rw [decide_eq_true e]; rfl
    · rw [decide_eq_false e]; rfl
theorem overD_over {ρ : Nat → Addr} {n : Nat} {H : Hp} {d x : D} {k : Key} {y : V} (hk : keyD d = some k) (rx : RD Γ ρ n H x y) : ∀ {kvs : List (D × D)} {rs : List (Key × V)}, RKs Γ ρ n H kvs rs →
    RKs Γ ρ n H (overD d x kvs) (rs.map fun kv => if kv.1 = k then (kv.1, y) else kv)
  | [], rs, h => by
    have h : rs = [] := h
    subst h
    rfl
  | (a, b) :: r, rs, h => by
    unfold RKs at h
    obtain ⟨q, v, t, rfl, h1, h2, h3, h4⟩ := h
    have ih := overD_over hk rx h4
    unfold overD
    rw [keyEq_eq h1 hk, List.map_cons]
    by_cases e : q = k
    · rw [decide_eq_true e, if_pos e]
      exact ⟨q, y, _, rfl, h1, h2, rx, ih⟩
    · rw [decide_eq_false e, if_neg e]
      exact ⟨q, v, _, rfl, h1, h2, h3, ih⟩
theorem RKs.app {ρ : Nat → Addr} {n : Nat} {H : Hp} : ∀ {ks ls : List (D × D)} {rs ts : List (Key × V)}, RKs Γ ρ n H ks rs → RKs Γ ρ n H ls ts → RKs Γ ρ n H (ks ++ ls) (rs ++ ts)
  | [], _, rs, _, h, g => by
    have h : rs = [] := h
    subst h
    exact g
  | (a, b) :: r, _, rs, _, h, g => by
    unfold RKs at h
    obtain ⟨q, v, t, rfl, h1, h2, h3, h4⟩ := h
    exact ⟨q, v, _, rfl, h1, h2, h3, RKs.app h4 g⟩
theorem putD_put {ρ : Nat → Addr} {n : Nat} {H : Hp} {d x : D} {k : Key} {y : V} (hk : keyD d = some k) (rd : RD Γ ρ n H d (kV k)) (rx : RD Γ ρ n H x y) {kvs : List (D × D)} {rs : List (Key × V)} (h : RKs Γ ρ n H kvs rs) : RKs Γ ρ n H (putD d x kvs) (putK rs k y) := by
  unfold putD putK
  rw [hasD_any hk h]
  split
  · rename_i e
    rw [if_pos e]
    exact overD_over hk rx h
  · rename_i e
    rw [if_neg (by rw [e]; decide)]
    exact h.app ⟨k, y, [], rfl, hk, rd, rx, rfl⟩
theorem RKs.len {ρ : Nat → Addr} {n : Nat} {H : Hp} : ∀ {ks : List (D × D)} {rs : List (Key × V)}, RKs Γ ρ n H ks rs → rs.length = ks.length
  | [], rs, h => by
    have h : rs = [] := h
    subst h
    rfl
  | (a, b) :: r, rs, h => by
    unfold RKs at h
    obtain ⟨q, v, t, rfl, h1, h2, h3, h4⟩ := h
    rw [List.length_cons, List.length_cons, RKs.len h4]
theorem overD_len (d x : D) : ∀ kvs : List (D × D), (overD d x kvs).length = kvs.length
  | [] => rfl
  | (a, b) :: r => by
    unfold overD
    split <;> rw [List.length_cons, List.length_cons, overD_len d x r]
theorem putD_len (d x : D) (kvs : List (D × D)) : (putD d x kvs).length ≤ kvs.length + 1 := by
  unfold putD
  split
  · rw [overD_len]; exact Nat.le_succ _
  · rw [List.length_append]; exact Nat.le_refl _
theorem ix_dict (hu : X.A.units + 100 < cLine) : IxR X (fun x y H Q => ∃ a v, x = .ref a ∧ DGet H a y (some v) ∧ Q v H) := by
  intro value slice pins s σ H x y u i Q I rx ry h hs
  obtain ⟨a, v, rfl, g, q⟩ := h
  cases rx
  exact sub_tail (dict_typeIs I g) PySem.F.slot_dict_getitem.lookup hs (d_getItem (by omega) I g ry fun w' s3 I3 rw' => ⟨v, H, I3, rw', q⟩)
theorem ix_seqW (hu : X.A.units + 100 < cLine) : IxR X (PP2 Γ X W .idx) := by
  intro value slice pins s σ' H x y u i Q I rx ry h hs
  refine (IxR.or (IxR.or ix_list ix_tup) (ix_dict hu)) value slice pins s σ' H x y u i Q I rx ry ?_ hs
  obtain ⟨ρ, env, σ, S, a, b, R, ra, rb, g⟩ := h.two
  clear h
  simp only [primF, p_idx] at g
  split at g
  · obtain ⟨_, rfl⟩ := rd_ref ra
    split at g
    · rename_i kvs e
      obtain ⟨hl, rs, hd, rk⟩ := dic_of R e
      split at g
      · rename_i hk
        obtain ⟨k, ek⟩ := isKey_keyD hk
        split at g
        · rename_i d ed
          obtain ⟨v, ev, rv⟩ := (lookD_val ek rk).1 d ed
          refine .inr ⟨_, v, rfl, ?_, fin_val R g rv⟩
          have ey := keyD_kV ek rb
          subst ey
          rw [← ev]
          exact DGet.k hd
        · exact g.elim
      · exact g.elim
    · rename_i ys e
      obtain ⟨hl, vs, hd, rs⟩ := lst_of R e
      split at g
      · split at g
        · rename_i k ek
          split at g
          · rename_i d ed
            obtain ⟨v, ev, rv⟩ := rs.get ed
            rw [lenN_eq, ← rs.len] at ek
            exact .inl (.inl ⟨_, vs, _, v, rfl, rd_int rb, SqL.of hd, by unfold atI; rw [ixOf_ix ek]; exact ev, fin_val R g rv⟩)
          · exact g.elim
        · exact g.elim
      · exact g.elim
    · exact g.elim
  · obtain ⟨hl, c, vs, rfl, hd, rs⟩ := rd_tup ra
    split at g
    · split at g
      · rename_i k ek
        split at g
        · rename_i d ed
          obtain ⟨v, ev, rv⟩ := rs.get ed
          rw [lenN_eq, ← rs.len] at ek
          exact .inl (.inr ⟨_, vs, _, v, rfl, rd_int rb, SqT.of hd, by unfold atI; rw [ixOf_ix ek]; exact ev, fin_val R g rv⟩)
        · exact g.elim
      · exact g.elim
    · exact g.elim
  · exact g.elim
theorem cutAt_ix (i : Int) (n d : Nat) : cutAt i n = HT.sIx n d (some i) := by
  unfold cutAt HT.sIx
  split
  · rename_i k
    show Nat.min k n = if ((k : Nat) : Int) < 0 then _ else min (((k : Nat) : Int).toNat) n
    rw [if_neg (by omega)]
    simp
  · rename_i k
    show n - (k + 1) = if Int.negSucc k < 0 then (Int.negSucc k + (n : Int)).toNat else _
    rw [if_pos (by omega)]
    omega
end
end
end Ev
end
section
set_option Elab.async false
set_option linter.all false
set_option maxRecDepth 100000
set_option maxHeartbeats 2000000
namespace Ev
noncomputable section
open PySem PySem.Spec PyProof.Rows L2
section
variable {Γ : Gm} {X : Cx} {W : WX}
/-! ### slices -/
theorem RDs.drop {ρ : Nat → Addr} {n : Nat} {H : Hp} : ∀ {ds : List D} {vs : List V} (k : Nat), RDs Γ ρ n H ds vs → RDs Γ ρ n H (ds.drop k) (vs.drop k)
  | _, _, 0, h => h
  | [], _, k + 1, h => by
    have h : _ = [] := h
    subst h
    rfl
  | d :: ds, _, k + 1, h => by
    unfold RDs at h
    obtain ⟨y, r, rfl, a, b⟩ := h
    exact RDs.drop k b
theorem RDs.take {ρ : Nat → Addr} {n : Nat} {H : Hp} : ∀ {ds : List D} {vs : List V} (k : Nat), RDs Γ ρ n H ds vs → RDs Γ ρ n H (ds.take k) (vs.take k)
  | _, _, 0, h => by
    rw [List.take_zero, List.take_zero]; rfl
  | [], _, k + 1, h => by
    have h : _ = [] := h
    subst h
    rfl
  | d :: ds, _, k + 1, h => by
    unfold RDs at h
    obtain ⟨y, r, rfl, a, b⟩ := h
    exact ⟨y, _, rfl, a, RDs.take k b⟩
theorem RDs.rev {ρ : Nat → Addr} {n : Nat} {H : Hp} : ∀ {ds : List D} {vs : List V}, RDs Γ ρ n H ds vs → RDs Γ ρ n H ds.reverse vs.reverse
  | [], _, h => by
    have h : _ = [] := h
    subst h
    rfl
  | d :: ds, _, h => by
    unfold RDs at h
    obtain ⟨y, r, rfl, a, b⟩ := h
    rw [List.reverse_cons, List.reverse_cons]
    exact (RDs.rev b).app (RDs.cons a rfl)
/-- the primitive of a slice -/
def slP : Option Int → Option Int → Pr
  | none, none => .sl00
  | none, some _ => .sl01
  | some _, none => .sl10
  | some _, some _ => .sl11
def slA : Option Int → Option Int → List V
  | none, none => []
  | none, some j => [.int j]
  | some i, none => [.int i]
  | some i, some j => [.int i, .int j]
theorem sl_fin {ρ : Nat → Addr} {env : Env} {σ : L2.St} {S : St} {H : Hp} {Q : VK} {E : Nat → List (Str × D) → St → Prop} {a : D} {x : V} {lo hi : Option Int} {zs : List D → List D} (R : Rl Γ X ρ env σ S H) (ra : RD Γ ρ S.n H a x)
    (hz : ∀ (xs : List D) (ys : List V), RDs Γ ρ S.n H xs ys → RDs Γ ρ S.n H (zs xs) (cutV ys lo hi))
    (ht : ∀ xs, a = .tup xs → (Res.ok (.tup (zs xs)) S).All (PostG Γ X (RD Γ) env σ ρ S H Q) E)
    (hr : ∀ l, a = .ref l → ∃ xs, S.get l = some (.lst xs) ∧ (mkL (zs xs) S).All (PostG Γ X (RD Γ) env σ ρ S H Q) E) (hd : (∃ xs, a = .tup xs) ∨ ∃ l, a = .ref l) : rSlA X.K x lo hi H Q ∨ rSlL X.K x lo hi H Q := by
  have lz : ∀ (xs : List D) (ys : List V), RDs Γ ρ S.n H xs ys → xs.length ≤ 100000 → (zs xs).length ≤ 100000 := fun xs ys r h => by
    have h1 := (hz xs ys r).len
    have h2 := cutV_length ys lo hi
    have h3 := r.len
    omega
  rcases hd with ⟨xs, rfl⟩ | ⟨l, rfl⟩
  · obtain ⟨hl, c, ys, rfl, hc, rs⟩ := rd_tup ra
    have g := ht xs rfl
    refine .inl ⟨c, ys, rfl, SqT.of hc, fun w => fin_val R g ?_, fun w => fin_tup R g (lz xs ys rs hl) (hz xs ys rs)⟩
    unfold RD
    have e : cutV ys lo hi = ys := by
      unfold cutV
      rw [w.1, w.2]
      simp
    refine ⟨lz xs ys rs hl, c, ys, rfl, hc, ?_⟩
    have := hz xs ys rs
    rwa [e] at this
  · obtain ⟨xs, e, g⟩ := hr l rfl
    obtain ⟨hl, ys, hc, rs⟩ := lst_of R e
    exact .inr ⟨_, ys, (rd_ref ra).2, SqL.of hc, fin_lst R g (lz xs ys rs hl) (hz xs ys rs)⟩
theorem cut_cut {ρ : Nat → Addr} {n : Nat} {H : Hp} {xs : List D} {ys : List V} {lo hi : Option Int} (r : RDs Γ ρ n H xs ys) (a b : Nat) (ha : a = HT.sIx ys.length 0 lo) (hb : b = HT.sIx ys.length ys.length hi) : RDs Γ ρ n H (cut xs a b) (cutV ys lo hi) := by
  subst ha hb
  exact (r.drop _).take _
theorem s_slice : SlR X (fun x lo hi H Q => PP Γ X W (slP lo hi) (x :: slA lo hi) H Q) := by
  intro pins s σ' H x v vl vu lo hi sl Q I rx hs pl pu h
  refine (SlR.or sl_tupA sl_list) pins s σ' H x v vl vu lo hi sl Q I rx hs pl pu ?_
  cases lo with
  | none =>
    cases hi with
    | none =>
      obtain ⟨ρ, env, σ, S, a, R, ra, g⟩ := h.one
      simp only [primF, slP, p_sl00] at g
      have hz : ∀ (xs : List D) (ys : List V), RDs Γ ρ S.n H xs ys → RDs Γ ρ S.n H xs (cutV ys none none) := fun xs ys r => by
        have e : cutV ys none none = ys := by
          unfold cutV
          rw [HT.sIx_none, HT.sIx_none]
          simp
        rw [e]; exact r
      split at g
      · rename_i xs e
        cases e
        exact sl_fin (zs := fun xs => xs) R ra hz (fun _ e => by cases e; exact g) (fun _ e => nomatch e) (.inl ⟨_, rfl⟩)
      · rename_i l e
        cases e
        split at g
        · rename_i xs e1
          exact sl_fin (zs := fun xs => xs) R ra hz (fun _ e => nomatch e) (fun _ e => by cases e; exact ⟨xs, e1, g⟩) (.inr ⟨_, rfl⟩)
        · exact g.elim
      · exact g.elim
    | some j =>
      obtain ⟨ρ, env, σ, S, a, b, R, ra, rb, g⟩ := PP.two (show PP Γ X W .sl01 [x, .int j] H Q from h)
      simp only [primF, p_sl01] at g
      split at g
      · rename_i xs i e
        cases e
        cases rd_int rb
        refine sl_fin (zs := fun xs => cut xs 0 (cutAt j (lenN xs))) R ra (fun xs ys r => cut_cut r _ _ (HT.sIx_none _ _).symm ?_) (fun _ e => by cases e; exact g) (fun _ e => nomatch e) (.inl ⟨_, rfl⟩)
        rw [lenN_eq, ← r.len]; exact cutAt_ix _ _ _
      · rename_i l i e
        cases e
        cases rd_int rb
        split at g
        · rename_i xs e1
          refine sl_fin (zs := fun xs => cut xs 0 (cutAt j (lenN xs))) R ra (fun xs ys r => cut_cut r _ _ (HT.sIx_none _ _).symm ?_) (fun _ e => nomatch e) (fun _ e => by cases e; exact ⟨xs, e1, g⟩) (.inr ⟨_, rfl⟩)
          rw [lenN_eq, ← r.len]; exact cutAt_ix _ _ _
        · exact g.elim
      · exact g.elim
  | some i =>
    cases hi with
    | none =>
      obtain ⟨ρ, env, σ, S, a, b, R, ra, rb, g⟩ := PP.two (show PP Γ X W .sl10 [x, .int i] H Q from h)
      simp only [primF, p_sl10] at g
      split at g
      · rename_i xs i' e
        cases e
        cases rd_int rb
        refine sl_fin (zs := fun xs => cut xs (cutAt i (lenN xs)) (lenN xs)) R ra (fun xs ys r => cut_cut r _ _ ?_ ?_) (fun _ e => by cases e; exact g) (fun _ e => nomatch e) (.inl ⟨_, rfl⟩)
        · rw [lenN_eq, ← r.len]; exact cutAt_ix _ _ _
        · rw [lenN_eq, ← r.len, HT.sIx_none]
      · rename_i l i' e
        cases e
        cases rd_int rb
        split at g
        · rename_i xs e1
          refine sl_fin (zs := fun xs => cut xs (cutAt i (lenN xs)) (lenN xs)) R ra (fun xs ys r => cut_cut r _ _ ?_ ?_) (fun _ e => nomatch e) (fun _ e => by cases e; exact ⟨xs, e1, g⟩) (.inr ⟨_, rfl⟩)
          · rw [lenN_eq, ← r.len]; exact cutAt_ix _ _ _
          · rw [lenN_eq, ← r.len, HT.sIx_none]
        · exact g.elim
      · exact g.elim
    | some j =>
      obtain ⟨ρ, env, σ, S, a, b, c, R, ra, rb, rc, g⟩ := PP.three (show PP Γ X W .sl11 [x, .int i, .int j] H Q from h)
      simp only [primF, p_sl11] at g
      split at g
      · rename_i xs i' j' e
        cases e
        cases rd_int rb
        cases rd_int rc
        refine sl_fin (zs := fun xs => cut xs (cutAt i (lenN xs)) (cutAt j (lenN xs))) R ra (fun xs ys r => cut_cut r _ _ ?_ ?_) (fun _ e => by cases e; exact g) (fun _ e => nomatch e) (.inl ⟨_, rfl⟩)
        · rw [lenN_eq, ← r.len]; exact cutAt_ix _ _ _
        · rw [lenN_eq, ← r.len]; exact cutAt_ix _ _ _
      · rename_i l i' j' e
        cases e
        cases rd_int rb
        cases rd_int rc
        split at g
        · rename_i xs e1
          refine sl_fin (zs := fun xs => cut xs (cutAt i (lenN xs)) (cutAt j (lenN xs))) R ra (fun xs ys r => cut_cut r _ _ ?_ ?_) (fun _ e => nomatch e) (fun _ e => by cases e; exact ⟨xs, e1, g⟩) (.inr ⟨_, rfl⟩)
          · rw [lenN_eq, ← r.len]; exact cutAt_ix _ _ _
          · rw [lenN_eq, ← r.len]; exact cutAt_ix _ _ _
        · exact g.elim
      · exact g.elim
/-! ### o[i] = v -/
theorem s_set (hu : X.A.units + 100 < cLine) : PSet X (fun o i v H Q => PP Γ X W .setIdx [o, i, v] H fun z H' => z = .non → Q H') := by
  intro pins s σ' H o i v ov iv u Q I ro ri rv h
  obtain ⟨ρ, env, σ, S, a, b, c, R, ra, rb, rc, g⟩ := h.three
  clear h
  simp only [primF, p_setIdx] at g
  split at g
  · rename_i l i' v' e
    cases e
    obtain ⟨_, rfl⟩ := rd_ref ra
    split at g
    · rename_i xs e1
      obtain ⟨hl, ys, hc, rs⟩ := lst_of R e1
      split at g
      · split at g
        · rename_i k ek
          cases rd_int rb
          rw [lenN_eq, ← rs.len] at ek
          refine set_list pins s σ' H _ _ v ov iv u Q I ro ri rv ⟨_, ys, _, k, rfl, rfl, hc, ixOf_ix ek, ?_⟩
          have st : ∀ (k : Nat) (xs : List D) (ys : List V), RDs Γ ρ S.n H xs ys → RDs Γ ρ S.n H (setN xs k c) (ys.set k v) := fun k => by
            induction k with
            | zero =>
              intro xs ys r
              cases xs with
              | nil =>
                have r : ys = [] := r
                subst r
                rfl
              | cons x xs =>
                unfold RDs at r
                obtain ⟨y, t, rfl, p, q⟩ := r
                exact ⟨v, t, rfl, rc, q⟩
            | succ k ih =>
              intro xs ys r
              cases xs with
              | nil =>
                have r : ys = [] := r
                subst r
                rfl
              | cons x xs =>
                unfold RDs at r
                obtain ⟨y, t, rfl, p, q⟩ := r
                exact ⟨y, _, rfl, p, ih _ _ q⟩
          exact fin_set (d := .non) (v := .non) R e1 rfl hc rfl nofun g (by rw [setN_set, List.length_set]; exact hl) (st k xs ys rs) rfl rfl
        · exact g.elim
      · exact g.elim
    · rename_i kvs e1
      obtain ⟨hl, rs, hc, rk⟩ := dic_of R e1
      split at g
      · rename_i hk
        obtain ⟨hk, hf⟩ := Bool.and_eq_true_iff.mp hk
        obtain ⟨k, ek⟩ := isKey_keyD hk
        have hf := fits_le hf
        have hlen := rk.len
        have ey := keyD_kV ek rb
        subst ey
        cases ro
        have wr : Ext ρ S H ρ (S.put l (.dic (putD b c kvs))) (upd H (ρ l) (.dK (putK rs k v))) := Ext.write R.h.wf e1 rfl hc rfl rfl
        refine d_setItem (H' := upd H (ρ l) (.dK (putK rs k v))) (by omega) I (.inl ⟨rs, k, hc, rfl, ?_, rfl⟩) ri rv fun s4 I4 => ⟨_, I4, ?_⟩
        · have := Evl.sz_lt (n := rs.length) (by rw [hlen]; simp only [List.length_cons] at hf; omega)
          exact this
        · have pl := putD_len b c kvs
          have hr : RKs Γ ρ S.n H (putD b c kvs) (putK rs k v) := putD_put ek rb rc rk
          exact g.ok ρ _ .non (R.set e1 rfl hc rfl nofun rfl ⟨by simp only [List.length_cons] at hf; omega, _, upd_same, hr.ext wr⟩) wr rfl rfl
      · exact g.elim
    · exact g.elim
  · exact g.elim
/-! ### calls of built-ins -/
theorem c_tuple : CallR X (.type "tuple") (fun vs H Q => PP Γ X W .tuple vs H Q ∧ vs.length = 1) := cWk call_tuple_of fun vs H Q ⟨h, hl⟩ => by
  obtain ⟨x, rfl⟩ := List.length_eq_one_iff.mp hl
  obtain ⟨ρ, env, σ, S, a, R, ra, g⟩ := h.one
  simp only [primF, p_tuple] at g
  split at g
  · rename_i xs e
    obtain ⟨hz, c, ys, rfl, rs, hc⟩ := items_at R.h e ra
    refine ⟨c, ys, rfl, ?_⟩
    rcases hc with ⟨hc, _⟩ | ⟨hc, rfl⟩
    · exact .inl ⟨SqL.of hc, fin_tup R g hz rs⟩
    · exact .inr ⟨SqT.of hc, fin_val R g ra⟩
  · exact g.elim
theorem c_list : CallR X (.type "list") (fun vs H Q => PP Γ X W .list vs H Q ∧ vs.length = 1) := cWk call_list_of fun vs H Q ⟨h, hl⟩ => by
  obtain ⟨x, rfl⟩ := List.length_eq_one_iff.mp hl
  obtain ⟨ρ, env, σ, S, a, R, ra, g⟩ := h.one
  simp only [primF, p_list] at g
  split at g
  · rename_i xs e
    obtain ⟨hz, c, ys, rfl, rs, hc⟩ := items_at R.h e ra
    refine ⟨c, ys, rfl, ?_, fin_lst R g hz rs⟩
    rcases hc with ⟨hc, _⟩ | ⟨hc, rfl⟩
    · exact .inl (SqL.of hc)
    · exact .inr (SqT.of hc)
  · exact g.elim
theorem c_len : CallR X (.builtin "len") (fun vs H Q => PP Γ X W .len vs H Q ∧ vs.length = 1) := cWk (CallR.or call_len_seq call_len_str) fun vs H Q ⟨h, hl⟩ => by
  obtain ⟨x, rfl⟩ := List.length_eq_one_iff.mp hl
  obtain ⟨ρ, env, σ, S, a, R, ra, g⟩ := h.one
  simp only [primF, p_len] at g
  split at g
  · rename_i z
    obtain ⟨rfl, hz⟩ := rd_str ra
    refine .inr ⟨z, rfl, Evl.sz_of hz, fin_val R g ?_⟩
    show V.int _ = V.int _
    congr 1
    rw [lenN_eq]
    show ((z.length : Nat) : Int) = ((z.cps.toList.length : Nat) : Int)
    rw [Array.length_toList]
    rfl
  · split at g
    · rename_i xs e
      obtain ⟨hl, c, ys, rfl, rs, hc⟩ := items_at R.h e ra
      refine .inl ⟨c, ys, rfl, ?_, fin_val R g ?_⟩
      · rcases hc with ⟨hc, _⟩ | ⟨hc, rfl⟩
        · exact .inl (SqL.of hc)
        · exact .inr (SqT.of hc)
      · show V.int _ = V.int _
        rw [lenN_eq, rs.len]
        rfl
    · exact g.elim

theorem flat_ok {pins : List (Addr × Obj)} {σ' : L2.St} {s : Shared} {ρ : Nat → Addr} {n : Nat} {H : Hp} (I : Inv X pins σ' H s) : ∀ {xs : List D} {bs : List Bool} {ys : List V} {us : List Value}, mapO flatB xs = some bs → RDs Γ ρ n H xs ys → Vals ys us →
    ∃ ds as, ReadsAll s.heap us ds as ∧ ds.map PyData.truthy = bs ∧ PyData.plainAll ds = true ∧ ∀ x ∈ ds, x.fits63
  | [], bs, ys, us, h, r, q => by
    have h : some [] = some bs := h
    cases h
    have r : ys = [] := r
    subst r
    cases q
    exact ⟨[], _, .nil, rfl, rfl, fun _ z => by cases z⟩
  | x :: xs, bs, ys, us, h, r, q => by
    rw [mapO_cons] at h
    split at h
    · rename_i b e1
      split at h
      · rename_i cs e2
        cases h
        unfold RDs at r
        obtain ⟨y, t, rfl, r1, r2⟩ := r
        cases q with
        | cons q1 q2 =>
          obtain ⟨ds, as, a1, a2, a3, a4⟩ := flat_ok I e2 r2 q2
          unfold flatB at e1
          split at e1
          · cases e1
            cases rd_bl r1
            cases q1
            exact ⟨.bool b :: ds, _, .cons (.bool _) a1, by rw [List.map_cons, a2]; rfl, a3, fun z hz => by
              rcases List.mem_cons.mp hz with rfl | hz
              · trivial
              · exact a4 z hz⟩
          · rename_i i
            cases e1
            cases rd_int r1
            obtain ⟨tk, rfl⟩ := q1
            refine ⟨.int i :: ds, _, .cons (.int _ _) a1, ?_, a3, fun z hz => ?_⟩
            · rw [List.map_cons, a2]
              congr 1
              show (i != 0) = _
              cases i with
              | ofNat k => cases k <;> rfl
              | negSucc k => rfl
            · rcases List.mem_cons.mp hz with rfl | hz
              · trivial
              · exact a4 z hz
          · cases e1
      · cases h
    · cases h
theorem allL_all : ∀ (bs : List Bool), allL bs = bs.all id
  | [] => rfl
  | b :: bs => by
    unfold allL
    rw [List.all_cons, allL_all bs]
    cases b <;> rfl
theorem anyL_any : ∀ (bs : List Bool), anyL bs = bs.any id
  | [] => rfl
  | b :: bs => by
    unfold anyL
    rw [List.any_cons, anyL_any bs]
    cases b <;> rfl
theorem map_all {α : Type} (f : α → Bool) : ∀ (xs : List α), (xs.map f).all id = xs.all f
  | [] => rfl
  | x :: xs => by rw [List.map_cons, List.all_cons, List.all_cons, map_all f xs]; rfl
theorem map_any {α : Type} (f : α → Bool) : ∀ (xs : List α), (xs.map f).any id = xs.any f
  | [] => rfl
  | x :: xs => by rw [List.map_cons, List.any_cons, List.any_cons, map_any f xs]; rfl
theorem c_all (hc : X.calm = true) : CallR X (.builtin "all") (fun vs H Q => PP Γ X W .all vs H Q ∧ vs.length = 1) := by
  intro pins s σ' H vs us Q I r ⟨h, hl⟩
  obtain ⟨x, rfl⟩ := List.length_eq_one_iff.mp hl
  obtain ⟨u, rfl, rx⟩ := vals1 r
  obtain ⟨ρ, env, σ, S, a, R, ra, g⟩ := h.one
  clear h
  simp only [primF, p_all] at g
  split at g
  · rename_i xs e
    obtain ⟨hz, c, ys, rfl, rs, hd⟩ := items_at R.h e ra
    cases rx
    split at g
    · rename_i bs eb
      have fin : ∀ ds : List PyData, ds.map PyData.truthy = bs → Q (.bl (ds.all PyData.truthy)) H := fun ds e => by
        rw [← map_all, e, ← allL_all]
        exact fin_val R g rfl
      rcases hd with ⟨hd, _⟩ | ⟨hd, rfl⟩
      · obtain ⟨its, rv, pl, _⟩ := I.list (SqL.of hd)
        obtain ⟨ds, as, a1, a2, a3, a4⟩ := flat_ok I eb rs rv
        exact PySem.W.all_list_data (I.ok.hd hc) pl.isList a1 a3 a4 fun h' tk hk => ⟨.bl _, H, I.kept hk, rfl, fin ds a2⟩
      · obtain ⟨its, rv, ⟨o, ho, hcl, k, hdt⟩, _⟩ := I.tuple (SqT.of hd)
        obtain ⟨ds, as, a1, a2, a3, a4⟩ := flat_ok I eb rs rv
        exact PySem.W.all_tuple_data (I.ok.hd hc) ⟨o, ho, hcl, k, hdt⟩ a1 a3 a4 fun h' tk hk => ⟨.bl _, H, I.kept hk, rfl, fin ds a2⟩
    · exact g.elim
  · exact g.elim
theorem c_any (hc : X.calm = true) : CallR X (.builtin "any") (fun vs H Q => PP Γ X W .any vs H Q ∧ vs.length = 1) := by
  intro pins s σ' H vs us Q I r ⟨h, hl⟩
  obtain ⟨x, rfl⟩ := List.length_eq_one_iff.mp hl
  obtain ⟨u, rfl, rx⟩ := vals1 r
  obtain ⟨ρ, env, σ, S, a, R, ra, g⟩ := h.one
  clear h
  simp only [primF, p_any] at g
  split at g
  · rename_i xs e
    obtain ⟨hz, c, ys, rfl, rs, hd⟩ := items_at R.h e ra
    cases rx
    split at g
    · rename_i bs eb
      have fin : ∀ ds : List PyData, ds.map PyData.truthy = bs → Q (.bl (ds.any PyData.truthy)) H := fun ds e => by
        rw [← map_any, e, ← anyL_any]
        exact fin_val R g rfl
      rcases hd with ⟨hd, _⟩ | ⟨hd, rfl⟩
      · obtain ⟨its, rv, pl, _⟩ := I.list (SqL.of hd)
        obtain ⟨ds, as, a1, a2, a3, a4⟩ := flat_ok I eb rs rv
        exact PySem.W.any_list_data (I.ok.hd hc) pl.isList a1 a3 a4 fun h' tk hk => ⟨.bl _, H, I.kept hk, rfl, fin ds a2⟩
      · obtain ⟨its, rv, ⟨o, ho, hcl, k, hdt⟩, _⟩ := I.tuple (SqT.of hd)
        obtain ⟨ds, as, a1, a2, a3, a4⟩ := flat_ok I eb rs rv
        exact PySem.W.any_tuple_data (I.ok.hd hc) ⟨o, ho, hcl, k, hdt⟩ a1 a3 a4 fun h' tk hk => ⟨.bl _, H, I.kept hk, rfl, fin ds a2⟩
    · exact g.elim
  · exact g.elim
theorem ints_of {ρ : Nat → Addr} {n : Nat} {H : Hp} : ∀ {xs : List D} {ns : List Int} {ys : List V}, mapO intD xs = some ns → RDs Γ ρ n H xs ys → ys = ns.map V.int
  | [], ns, ys, h, r => by
    have h : some [] = some ns := h
    cases h
    exact r
  | x :: xs, ns, ys, h, r => by
    rw [mapO_cons] at h
    split at h
    · rename_i b e1
      split at h
      · rename_i cs e2
        cases h
        unfold RDs at r
        obtain ⟨y, t, rfl, r1, r2⟩ := r
        rw [ints_of e2 r2]
        unfold intD at e1
        split at e1
        · cases e1
          rw [rd_int r1]; rfl
        · cases e1
      · cases h
    · cases h
theorem sumL_sum : ∀ ns : List Int, sumL ns = ns.sum
  | [] => rfl
  | n :: ns => by
    unfold sumL
    rw [List.sum_cons, sumL_sum ns]
theorem sum_tup {prog : Program} {w : World} {A : Around} {E : Value → Shared → Prop} {s : Shared} {t : Addr} {its : List Value} {ns : List Int} {Q : Value → Shared → Prop} (hh : A.handled = none) (ht : s.heap.IsTuple t its.toArray) (hi : IntsAre its ns)
    (h : ∀ h' tk t', (∀ b o, s.heap.get? b = some o → h'.get? b = some o) → Q (.int ns.sum t') { s with heap := h', toks := tk }) : wpAny (model prog w) A (call (.builtin "sum") [.ref t]) Q E s := by
  obtain ⟨xs, e⟩ := hi.allInts.items
  have hn : numsOf (intItems xs).toList = ns := (congrArg (fun z : Array Value => numsOf z.toList) e).symm.trans hi.numsOf
  rw [nums_intItems] at hn
  rw [e] at ht
  exact PySem.W.ktm_sumG hh ht fun h' tk t' hk => by rw [preSum_eq, List.take_of_length_le (by simp), hn]; exact h h' tk t' hk
theorem c_sum (hc : X.calm = true) : CallR X (.builtin "sum") (fun vs H Q => PP Γ X W .sum vs H Q ∧ vs.length = 1) := by
  intro pins s σ' H vs us Q I r ⟨h, hl⟩
  obtain ⟨x, rfl⟩ := List.length_eq_one_iff.mp hl
  obtain ⟨u, rfl, rx⟩ := vals1 r
  obtain ⟨ρ, env, σ, S, a, R, ra, g⟩ := h.one
  clear h
  simp only [primF, p_sum] at g
  split at g
  · rename_i xs e
    obtain ⟨hz, c, ys, rfl, rs, hd⟩ := items_at R.h e ra
    cases rx
    split at g
    · rename_i ns eb
      cases ints_of eb rs
      have q : Q (.int ns.sum) H := by
        rw [← sumL_sum]
        exact fin_val R g rfl
      rcases hd with ⟨hd, _⟩ | ⟨hd, rfl⟩
      · obtain ⟨its, rv, pl, _⟩ := I.list (SqL.of hd)
        exact sum_raw (I.ok.hd hc) pl.isList rv.ints fun h' tk t' hk => ⟨.int _, H, I.kept hk, ⟨_, rfl⟩, q⟩
      · obtain ⟨its, rv, ⟨o, ho, hcl, k, hdt⟩, _⟩ := I.tuple (SqT.of hd)
        exact sum_tup (I.ok.hd hc) ⟨o, ho, hcl, k, hdt⟩ rv.ints fun h' tk t' hk => ⟨.int _, H, I.kept hk, ⟨_, rfl⟩, q⟩
    · exact g.elim
  · exact g.elim
theorem maxL_ok : ∀ (ns : List Int) (m : Int), maxL m ns ∈ m :: ns ∧ ∀ y ∈ m :: ns, y ≤ maxL m ns
  | [], m => ⟨List.mem_cons_self, fun y hy => by rw [List.mem_singleton.mp hy]; exact Int.le_refl _⟩
  | n :: ns, m => by
    unfold maxL
    split
    · rename_i e
      have e := of_decide_eq_true e
      obtain ⟨a, b⟩ := maxL_ok ns n
      refine ⟨List.mem_cons_of_mem _ a, fun y hy => ?_⟩
      rcases List.mem_cons.mp hy with rfl | hy
      · exact Int.le_trans (Int.le_of_lt e) (b n List.mem_cons_self)
      · exact b y hy
    · rename_i e
      have e := of_decide_eq_false e
      obtain ⟨a, b⟩ := maxL_ok ns m
      refine ⟨?_, fun y hy => ?_⟩
      · rcases List.mem_cons.mp a with a | a
        · rw [a]; exact List.mem_cons_self
        · exact List.mem_cons_of_mem _ (List.mem_cons_of_mem _ a)
      · rcases List.mem_cons.mp hy with rfl | hy
        · exact b y List.mem_cons_self
        · rcases List.mem_cons.mp hy with rfl | hy
          · exact Int.le_trans (Int.not_lt.mp e) (b m List.mem_cons_self)
          · exact b y (List.mem_cons_of_mem _ hy)
theorem minL_ok : ∀ (ns : List Int) (m : Int), minL m ns ∈ m :: ns ∧ ∀ y ∈ m :: ns, minL m ns ≤ y
  | [], m => ⟨List.mem_cons_self, fun y hy => by rw [List.mem_singleton.mp hy]; exact Int.le_refl _⟩
  | n :: ns, m => by
    unfold minL
    split
    · rename_i e
      have e := of_decide_eq_true e
      obtain ⟨a, b⟩ := minL_ok ns n
      refine ⟨List.mem_cons_of_mem _ a, fun y hy => ?_⟩
      rcases List.mem_cons.mp hy with rfl | hy
      · exact Int.le_trans (b n List.mem_cons_self) (Int.le_of_lt e)
      · exact b y hy
    · rename_i e
      have e := of_decide_eq_false e
      obtain ⟨a, b⟩ := minL_ok ns m
      refine ⟨?_, fun y hy => ?_⟩
      · rcases List.mem_cons.mp a with a | a
        · rw [a]; exact List.mem_cons_self
        · exact List.mem_cons_of_mem _ (List.mem_cons_of_mem _ a)
      · rcases List.mem_cons.mp hy with rfl | hy
        · exact b y List.mem_cons_self
        · rcases List.mem_cons.mp hy with rfl | hy
          · exact Int.le_trans (b m List.mem_cons_self) (Int.not_lt.mp e)
          · exact b y (List.mem_cons_of_mem _ hy)
theorem c_max1 (hc : X.calm = true) : CallR X (.builtin "max") (fun vs H Q => PP Γ X W .max1 vs H Q ∧ vs.length = 1) := cWk (cr_max hc) fun vs H Q ⟨h, hl⟩ => by
  obtain ⟨x, rfl⟩ := List.length_eq_one_iff.mp hl
  obtain ⟨ρ, env, σ, S, a, R, ra, g⟩ := h.one
  simp only [primF, p_max1] at g
  split at g
  · rename_i l e
    cases e
    split at g
    · rename_i ys e
      obtain ⟨hz, vs, hd, rs⟩ := lst_of R e
      split at g
      · rename_i n ns eb
        cases ints_of eb rs
        obtain ⟨m1, m2⟩ := maxL_ok ns n
        refine ⟨_, n :: ns, by rw [(rd_ref ra).2], SqL.of hd, Nat.succ_pos _, fun m hm hy => ?_⟩
        have e : m = maxL n ns := Int.le_antisymm (m2 m hm) (hy _ m1)
        rw [e]
        exact fin_val R g rfl
      · exact g.elim
    · exact g.elim
  · exact g.elim
theorem c_min1 (hc : X.calm = true) : CallR X (.builtin "min") (fun vs H Q => PP Γ X W .min1 vs H Q ∧ vs.length = 1) := cWk (cr_min hc) fun vs H Q ⟨h, hl⟩ => by
  obtain ⟨x, rfl⟩ := List.length_eq_one_iff.mp hl
  obtain ⟨ρ, env, σ, S, a, R, ra, g⟩ := h.one
  simp only [primF, p_min1] at g
  split at g
  · rename_i l e
    cases e
    split at g
    · rename_i ys e
      obtain ⟨hz, vs, hd, rs⟩ := lst_of R e
      split at g
      · rename_i n ns eb
        cases ints_of eb rs
        obtain ⟨m1, m2⟩ := minL_ok ns n
        refine ⟨_, n :: ns, by rw [(rd_ref ra).2], SqL.of hd, Nat.succ_pos _, fun m hm hy => ?_⟩
        have e : m = minL n ns := Int.le_antisymm (hy _ m1) (m2 m hm)
        rw [e]
        exact fin_val R g rfl
      · exact g.elim
    · exact g.elim
  · exact g.elim
theorem len_two {α : Type} : ∀ {xs : List α}, xs.length = 2 → ∃ x y, xs = [x, y]
  | [x, y], _ => ⟨x, y, rfl⟩
theorem c_max2 (hc : X.calm = true) : CallR X (.builtin "max") (fun vs H Q => PP Γ X W .max2 vs H Q ∧ vs.length = 2) := cWk (call_max2 hc) fun vs H Q ⟨h, hl⟩ => by
  obtain ⟨x, y, rfl⟩ := len_two hl
  obtain ⟨ρ, env, σ, S, a, b, R, ra, rb, g⟩ := h.two
  simp only [primF, p_max2] at g
  split at g
  · rename_i i j e
    cases e
    exact ⟨i, j, by rw [rd_int ra, rd_int rb], fin_val R g rfl⟩
  · exact g.elim
theorem c_min2 (hc : X.calm = true) : CallR X (.builtin "min") (fun vs H Q => PP Γ X W .min2 vs H Q ∧ vs.length = 2) := cWk (call_min2 hc) fun vs H Q ⟨h, hl⟩ => by
  obtain ⟨x, y, rfl⟩ := len_two hl
  obtain ⟨ρ, env, σ, S, a, b, R, ra, rb, g⟩ := h.two
  simp only [primF, p_min2] at g
  split at g
  · rename_i i j e
    cases e
    exact ⟨i, j, by rw [rd_int ra, rd_int rb], fin_val R g rfl⟩
  · exact g.elim
theorem c_abs : CallR X (.builtin "abs") (fun vs H Q => PP Γ X W .abs vs H Q ∧ vs.length = 1) := cWk call_abs fun vs H Q ⟨h, hl⟩ => by
  obtain ⟨x, rfl⟩ := List.length_eq_one_iff.mp hl
  obtain ⟨ρ, env, σ, S, a, R, ra, g⟩ := h.one
  simp only [primF, p_abs] at g
  split at g
  · rename_i i e
    cases e
    exact ⟨i, by rw [rd_int ra], fin_val R g rfl⟩
  · exact g.elim
theorem c_int : CallR X (.type "int") (fun vs H Q => PP Γ X W .int vs H Q ∧ vs.length = 1) := cWk call_int1 fun vs H Q ⟨h, hl⟩ => by
  obtain ⟨x, rfl⟩ := List.length_eq_one_iff.mp hl
  obtain ⟨ρ, env, σ, S, a, R, ra, g⟩ := h.one
  simp only [primF, p_int] at g
  split at g
  · rename_i i e
    cases e
    exact .inl ⟨i, by rw [rd_int ra], fin_val R g rfl⟩
  · rename_i i e
    cases e
    exact .inr ⟨i, by rw [rd_bl ra], fin_val R g rfl⟩
  · exact g.elim
theorem c_divmod : CallR X (.builtin "divmod") (fun vs H Q => PP Γ X W .divmod vs H Q ∧ vs.length = 2) := cWk call_divmod fun vs H Q ⟨h, hl⟩ => by
  obtain ⟨x, y, rfl⟩ := len_two hl
  obtain ⟨ρ, env, σ, S, a, b, R, ra, rb, g⟩ := h.two
  simp only [primF, p_divmod] at g
  split at g
  · rename_i i j e
    cases e
    split at g
    · rename_i hs
      obtain ⟨c1, c2⟩ := Bool.and_eq_true_iff.mp hs
      exact ⟨i, j, by rw [rd_int ra, rd_int rb], ⟨of_decide_eq_true c1, of_decide_eq_true c2⟩, fin_tup R g (show 2 ≤ 100000 by decide) (RDs.cons rfl (RDs.cons rfl rfl))⟩
    · exact g.elim
  · exact g.elim
end
end
end Ev
end
section
set_option Elab.async false
set_option linter.all false
set_option maxRecDepth 100000
set_option maxHeartbeats 2000000
namespace Ev
noncomputable section
open PySem PySem.Spec PyProof.Rows L2
/-! ### isinstance -/
/-- what of the classes the head must say -/
def tyW (Γ : Gm) (t : Nat) : Value := match Nat.ble 100 t with
  | true => .type (tyS t)
  | false => .ref (Γ.clA t)
def clV (Γ : Gm) : D → Value
  | .cls u => .ref (Γ.clA u)
  | .ty u => .type (tyS u)
  | _ => .none
structure ClsOk (Γ : Gm) : Prop where
  isn : ∀ t u b, Nat.ble 100 t = false → Γ.G.below t u = some b → PySem.W.kitOne Γ.K (.ref (Γ.clA t)) (tyW Γ u) = some b
theorem bIs_ok : ∀ t ∈ [100, 101, 102, 103, 104, 105, 106], ∀ u ∈ [101, 102, 103, 104, 105, 106], kitB (tyS t) (tyS u) = bIs t u := by decide +kernel
theorem mem_of {t : Nat} (h1 : Nat.ble 100 t = true) (h2 : Nat.ble t 106 = true) : t ∈ [100, 101, 102, 103, 104, 105, 106] := by
  have h1 := Nat.le_of_ble_eq_true h1
  have h2 := Nat.le_of_ble_eq_true h2
  have : t = 100 ∨ t = 101 ∨ t = 102 ∨ t = 103 ∨ t = 104 ∨ t = 105 ∨ t = 106 := by omega
  rcases this with rfl | rfl | rfl | rfl | rfl | rfl | rfl <;> decide
theorem mem_of1 {t : Nat} (h1 : Nat.ble 101 t = true) (h2 : Nat.ble t 106 = true) : t ∈ [101, 102, 103, 104, 105, 106] := by
  have h1 := Nat.le_of_ble_eq_true h1
  have h2 := Nat.le_of_ble_eq_true h2
  have : t = 101 ∨ t = 102 ∨ t = 103 ∨ t = 104 ∨ t = 105 ∨ t = 106 := by omega
  rcases this with rfl | rfl | rfl | rfl | rfl | rfl <;> decide
theorem bIs_kit {K : PySem.W.Frag} {t u : Nat} {b : Bool} (h : bIs t u = some b) : PySem.W.kitOne K (.type (tyS t)) (.type (tyS u)) = some b := by
  refine kit_ty ?_
  have h0 := h
  unfold bIs at h0
  split at h0
  · rename_i hh
    obtain ⟨hh, h4⟩ := Bool.and_eq_true_iff.mp hh
    obtain ⟨hh, h3⟩ := Bool.and_eq_true_iff.mp hh
    obtain ⟨h1, h2⟩ := Bool.and_eq_true_iff.mp hh
    rw [bIs_ok t (mem_of h1 h2) u (mem_of1 h3 h4)]
    exact h
  · cases h0
section
variable {Γ : Gm} {X : Cx} {W : WX}
theorem isOne_kit (ck : ClsOk Γ) {t : Nat} {d : D} {b : Bool} (ht : Nat.ble 100 t = true) (h : isOne Γ.G t d = some b) : PySem.W.kitOne Γ.K (.type (tyS t)) (clV Γ d) = some b ∧ ∀ ρ n H v, RD Γ ρ n H d v → ClsV v (clV Γ d) := by
  unfold isOne at h
  rw [ht] at h
  split at h
  · rename_i u
    exact ⟨bIs_kit h, fun ρ n H v r => by
      have r : v = .ty (tyS u) := r
      subst r
      exact .ty _⟩
  · cases h
  · cases h
theorem isAny_kit (ck : ClsOk Γ) {t : Nat} (ht : Nat.ble 100 t = true) : ∀ {ds : List D} {b : Bool}, isAny Γ.G t ds = some b → PySem.W.kitAny Γ.K (.type (tyS t)) (ds.map (clV Γ)) = some b
  | [], b, h => by
    cases h
    exact kitAny_nil
  | d :: ds, b, h => by
    unfold isAny at h
    split at h
    · rename_i e
      cases h
      exact kitAny_cons (isOne_kit ck ht e).1 (fun z => nomatch z) (fun _ => rfl)
    · rename_i e
      exact kitAny_cons (isOne_kit ck ht e).1 (fun _ => isAny_kit ck ht h) (fun z => nomatch z)
    · cases h
theorem clsV_all {ρ : Nat → Addr} {n : Nat} {H : Hp} : ∀ {ds : List D} {vs : List V}, clsA ds = true → RDs Γ ρ n H ds vs → Paired ClsV vs (ds.map (clV Γ))
  | [], vs, _, r => by
    have r : vs = [] := r
    subst r
    exact .nil
  | d :: ds, vs, h, r => by
    unfold clsA at h
    split at h
    rotate_left
    · cases h
    rename_i h1
    unfold RDs at r
    obtain ⟨y, t, rfl, r1, r2⟩ := r
    refine .cons ?_ (clsV_all h r2)
    cases d with
    | cls u =>
      have r1 : y = .ref (Γ.clA _) := r1
      subst r1
      exact .own _
    | ty u =>
      have r1 : y = .ty (tyS _) := r1
      subst r1
      exact .ty _
    | _ => simp [clsD] at h1
theorem tyOf_ty {ρ : Nat → Addr} {env : Env} {S : St} {H : Hp} {d : D} {v : V} {t : Nat} {K : PySem.W.Frag} (R : Rh Γ ρ env S H) (h : tyOf S d = some t) (r : RD Γ ρ S.n H d v) : Nat.ble 100 t = true ∧ TyX K H v (.type (tyS t)) := by
  unfold tyOf at h
  split at h
  · cases h
    cases rd_non r
    exact ⟨rfl, .base .non⟩
  · cases h
    cases rd_bl r
    exact ⟨rfl, .base (.bl _)⟩
  · cases h
    cases rd_int r
    exact ⟨rfl, .base (.int _)⟩
  · cases h
    cases (rd_str r).1
    exact ⟨rfl, .base (.str _)⟩
  · cases h
    obtain ⟨_, a, ys, rfl, ha, _⟩ := rd_tup r
    exact ⟨rfl, .base (.tup ha)⟩
  · obtain ⟨_, rfl⟩ := rd_ref r
    split at h
    · rename_i e
      cases h
      obtain ⟨_, _, ha, _⟩ := (R.obj _ _ e).2
      exact ⟨rfl, .base (.lst ha)⟩
    · rename_i e
      cases h
      obtain ⟨_, _, ha, _⟩ := (R.obj _ _ e).2
      exact ⟨rfl, .base (.dK ha)⟩
    · cases h
  · cases h
theorem c_isi (ck : ClsOk Γ) (hK : X.K = Γ.K) : CallR X (.builtin "isinstance") (fun vs H Q => PP Γ X W .isi vs H Q ∧ vs.length = 2) := cWk (CallR.or call_isi call_isiT) fun vs H Q ⟨h, hl⟩ => by
  obtain ⟨x, y, rfl⟩ := len_two hl
  obtain ⟨ρ, env, σ, S, a, b, R, ra, rb, g⟩ := h.two
  simp only [primF, p_isi] at g
  split at g
  · rename_i t et
    obtain ⟨ht, ty⟩ := tyOf_ty (K := X.K) R.h et ra
    split at g
    · rename_i cs
      split at g
      rotate_left
      · exact g.elim
      rename_i hcl
      unfold okB at g
      split at g
      · rename_i r er
        obtain ⟨_, c, ws, rfl, hc, rs⟩ := rd_tup rb
        exact .inr ⟨x, c, ws, _, cs.map (clV Γ), r, rfl, hc, clsV_all hcl rs, ty, by rw [hK]; exact isAny_kit ck ht er, fin_val R g rfl⟩
      · exact g.elim
    · unfold okB at g
      split at g
      · rename_i r er
        obtain ⟨k1, k2⟩ := isOne_kit ck ht er
        exact .inl ⟨x, y, _, _, r, rfl, k2 _ _ _ _ rb, ty, by rw [hK]; exact k1, fin_val R g rfl⟩
      · exact g.elim
  · exact g.elim
/-! ### repr -/
theorem c_repr (hg : X.A.guards = some []) (hu : X.A.units + 100 < cLine) (hs : ∃ o, X.base.get? sysModules = some o) : CallR X (.builtin "repr") (fun vs H Q => PP Γ X W .repr vs H Q ∧ vs.length = 1) := by
  intro pins s σ' H vs us Q I r ⟨h, hl⟩
  obtain ⟨x, rfl⟩ := List.length_eq_one_iff.mp hl
  obtain ⟨u, rfl, rx⟩ := vals1 r
  obtain ⟨ρ, env, σ, S, a, R, ra, g⟩ := h.one
  clear h
  simp only [primF, p_repr, shownF_eq] at g
  split at g
  · rename_i d ed
    obtain ⟨as, A1⟩ := pd_reads I R.h _ a d x u ed ra rx
    split at g
    · rename_i hh
      obtain ⟨h1, h2⟩ := Bool.and_eq_true_iff.mp hh
      have h2 := Nat.le_of_ble_eq_true h2
      rw [lenN_eq] at h2
      have hz : d.shown.length ≤ 100000 := by
        show d.shown.cps.size ≤ _
        rw [← Array.length_toList]; exact h2
      have q : Q (.str d.shown) H := fin_val R g ⟨rfl, hz⟩
      have hsz := Evl.sz_of hz
      obtain ⟨rd, tr, dp, _⟩ := A1
      have hd : X.A.units + (d.depth + 1) < cLine := by
        have : d.depth ≤ 20 := dp
        omega
      have hno : sysModules ∉ as := fun z => by
        obtain ⟨o, ho⟩ := hs
        exact tr _ z (I.bs _ _ ho).2
      cases rd with
      | none => exact PySem.P.repr_of_none ⟨.str _, H, I.tok _, ⟨_, rfl⟩, q⟩
      | bool b => exact PySem.P.repr_of_bool ⟨.str _, H, I.tok _, ⟨_, rfl⟩, q⟩
      | int i t => exact PySem.P.repr_of_int (of_decide_eq_true h1) ⟨.str _, H, I.tok _, ⟨_, rfl⟩, q⟩
      | str z t => exact PySem.P.repr_of_str ⟨.str _, H, I.tok _, ⟨_, rfl⟩, q⟩ hsz
      | list a1 a2 a3 a4 => exact repr_of_reads' (.list a1 a2 a3 a4) h1 (fun _ => hno) hg hd (fun _ _ e => e) (fun h' w tk hk => ⟨.str _, H, I.kept hk, ⟨_, rfl⟩, q⟩) hsz
      | tuple a1 a2 a3 a4 => exact repr_of_reads' (.tuple a1 a2 a3 a4) h1 (fun _ => hno) hg hd (fun _ _ e => e) (fun h' w tk hk => ⟨.str _, H, I.kept hk, ⟨_, rfl⟩, q⟩) hsz
      | dict a1 a2 a3 a4 a5 => exact repr_of_reads' (.dict a1 a2 a3 a4 a5) h1 (fun _ => hno) hg hd (fun _ _ e => e) (fun h' w tk hk => ⟨.str _, H, I.kept hk, ⟨_, rfl⟩, q⟩) hsz
    · exact g.elim
  · exact g.elim
/-! ### methods -/
theorem mWk {id : String} {r r' : V → List V → Hp → VK → Prop} (h : MtR X id r) (w : ∀ x xs H Q, r' x xs H Q → r x xs H Q) : MtR X id r' := fun pins s σ H x xs v us Q I a b q => h pins s σ H x xs v us Q I a b (w _ _ _ _ q)
theorem m_append : MtR X "list.append" (fun x vs H Q => PP Γ X W .append (x :: vs) H Q ∧ vs.length = 1) := mWk mt_append fun x vs H Q ⟨h, hl⟩ => by
  obtain ⟨y, rfl⟩ := List.length_eq_one_iff.mp hl
  obtain ⟨ρ, env, σ, S, a, b, R, ra, rb, g⟩ := h.two
  simp only [primF, p_append] at g
  split at g
  · rename_i l v e
    cases e
    split at g
    · rename_i xs e
      obtain ⟨hz, ys, hd, rs⟩ := lst_of R e
      split at g
      · rename_i hf
        have hf := fits_le hf
        refine ⟨_, ys, y, (rd_ref ra).2, rfl, hd, ?_, fin_set R e rfl hd rfl nofun g hf (rs.app (RDs.cons rb rfl)) rfl⟩
        have := rs.len
        rw [List.length_append] at hf
        simp only [List.length_cons, List.length_nil] at hf
        exact Evl.sz_lt (by omega)
      · exact g.elim
    · exact g.elim
  · exact g.elim
theorem m_extend : MtR X "list.extend" (fun x vs H Q => PP Γ X W .extend (x :: vs) H Q ∧ vs.length = 1) := mWk mt_extend fun x vs H Q ⟨h, hl⟩ => by
  obtain ⟨y, rfl⟩ := List.length_eq_one_iff.mp hl
  obtain ⟨ρ, env, σ, S, a, b, R, ra, rb, g⟩ := h.two
  simp only [primF, p_extend] at g
  split at g
  · rename_i l m e
    cases e
    split at g
    · rename_i xs zs e e2
      obtain ⟨hz, ys, hd, rs⟩ := lst_of R e
      obtain ⟨hz2, ws, hd2, rs2⟩ := lst_of R e2
      split at g
      · rename_i hf
        have hf := fits_le hf
        have h1 := rs.len
        have h2 := rs2.len
        refine ⟨_, _, ys, ws, (rd_ref ra).2, by rw [(rd_ref rb).2], hd, hd2, Nat.le_trans ?_ (Evl.sz_of (Nat.le_refl _)), fin_set R e rfl hd rfl nofun g hf (rs.app rs2) rfl⟩
        rw [List.length_append] at hf
        omega
      · exact g.elim
    · exact g.elim
  · exact g.elim
theorem RDs.dropLast {ρ : Nat → Addr} {n : Nat} {H : Hp} {ds : List D} {vs : List V} (h : RDs Γ ρ n H ds vs) : RDs Γ ρ n H ds.dropLast vs.dropLast := by
  rw [List.dropLast_eq_take, List.dropLast_eq_take, h.len]
  exact h.take _
theorem m_pop : MtR X "list.pop" (fun x vs H Q => PP Γ X W .pop0 (x :: vs) H Q ∧ vs.length = 0) := mWk mt_pop fun x vs H Q ⟨h, hl⟩ => by
  have : vs = [] := List.length_eq_zero_iff.mp hl
  subst this
  obtain ⟨ρ, env, σ, S, a, R, ra, g⟩ := h.one
  simp only [primF, p_pop0] at g
  split at g
  · rename_i l e
    cases e
    split at g
    · rename_i xs e
      obtain ⟨hz, ys, hd, rs⟩ := lst_of R e
      split at g
      · rename_i d ed
        have hn : nth xs (xs.length - 1) = some d := by
          rw [nth_get, ← List.getLast?_eq_getElem?]; exact ed
        obtain ⟨v, ev, rv⟩ := rs.get hn
        rw [← rs.len] at ev
        exact ⟨_, ys, v, (rd_ref ra).2, rfl, hd, ev, fin_set R e rfl hd rfl nofun g (by rw [List.length_dropLast]; omega) rs.dropLast rv⟩
      · exact g.elim
    · exact g.elim
  · exact g.elim
theorem RDs.erase {ρ : Nat → Addr} {n : Nat} {H : Hp} : ∀ {ds : List D} {vs : List V} (k : Nat), RDs Γ ρ n H ds vs → RDs Γ ρ n H (delN ds k) (vs.eraseIdx k)
  | [], vs, _, h => by
    have h : vs = [] := h
    subst h
    rfl
  | d :: ds, _, 0, h => by
    unfold RDs at h
    obtain ⟨y, r, rfl, a, b⟩ := h
    exact b
  | d :: ds, _, k + 1, h => by
    unfold RDs at h
    obtain ⟨y, r, rfl, a, b⟩ := h
    exact ⟨y, _, rfl, a, RDs.erase k b⟩
theorem m_popAt : MtR X "list.pop" (fun x vs H Q => PP Γ X W .popAt (x :: vs) H Q ∧ vs.length = 1) := mWk mt_popAt fun x vs H Q ⟨h, hl⟩ => by
  obtain ⟨y, rfl⟩ := List.length_eq_one_iff.mp hl
  obtain ⟨ρ, env, σ, S, a, b, R, ra, rb, g⟩ := h.two
  simp only [primF, p_popAt] at g
  split at g
  · rename_i l i e
    cases e
    split at g
    · rename_i xs e
      obtain ⟨hz, ys, hd, rs⟩ := lst_of R e
      split at g
      · rename_i k ek
        split at g
        · rename_i d ed
          obtain ⟨v, ev, rv⟩ := rs.get ed
          rw [lenN_eq, ← rs.len] at ek
          obtain ⟨q1, q2, q3, q4⟩ := ixN_seq (ixOf_ix ek)
          have := rs.len
          refine ⟨_, ys, i, k, v, (rd_ref ra).2, by rw [rd_int rb], hd, by omega, by omega, q1, ev, fin_set R e rfl hd rfl nofun g ?_ (rs.erase k) rv⟩
          rw [delN_erase]
          exact Nat.le_trans (len_erase _ _) hz
        · exact g.elim
      · exact g.elim
    · exact g.elim
  · exact g.elim
end
end
end Ev
end
section
set_option Elab.async false
set_option linter.all false
set_option maxRecDepth 100000
set_option maxHeartbeats 2000000
/-! EXPRESSIONS by their parts' readings. -/
namespace Ev
noncomputable section
open PySem PySem.Spec PyProof.Rows L2
abbrev EvF (α : Type) := Env → St → Res α
section
variable {Γ : Gm} {X : Cx} {W : WX}
/-- from a middle to a primitive on values -/
theorem Mid.pp1 {env : Env} {σ : L2.St} {ρ : Nat → Addr} {S : St} {H H1 : Hp} {Q : VK} {p : Pr} {b : V} (m : Mid Γ X W (RD Γ) (RD Γ) env σ ρ S H Q (fun x S1 => prim Γ.G p [x] S1) b H1) : PP1 Γ X W p b H1 Q := by
  obtain ⟨ρ1, S1, a, R, e, r, h⟩ := m
  exact ⟨ρ1, env, σ, S1, [a], R, RDs.cons r rfl, h⟩
/-- two parts, one behind the other -/
theorem rd_two {α β : Type} {R2 : RelT α β} {fa fb : EvF D} {f : D → D → St → Res α} {σ : L2.St} {H : Hp} {Q : β → Hp → Prop} (h : rdG Γ X W R2 (fun v S => (fa v S).bind fun x S1 => (fb v S1).bind fun y S2 => f x y S2) σ H Q) :
    rd Γ X W fa σ H fun x H1 => rd Γ X W fb σ H1 fun y H2 => ∃ (ρ : Nat → Addr) (env : Env) (S : St) (a b : D), Rl Γ X ρ env σ S H2 ∧ RD Γ ρ S.n H2 a x ∧ RD Γ ρ S.n H2 b y ∧ (f a b S).All (PostG Γ X R2 env σ ρ S H2 Q) (PostX Γ X W env σ ρ S H2) := by
  obtain ⟨ρ, env, S, hl, h⟩ := h
  refine (rd_step hl h).mono fun x H1 ⟨ρ1, S1, a, hl1, e1, ra, h1⟩ => ?_
  refine (rd_step (g := fb) hl1 h1).mono fun y H2 ⟨ρ2, S2, b, hl2, e2, rb, h2⟩ => ?_
  exact ⟨ρ2, env, S2, a, b, hl2, ra.ext e2, rb, h2⟩
theorem rd_one {α β : Type} {R2 : RelT α β} {fa : EvF D} {f : D → St → Res α} {σ : L2.St} {H : Hp} {Q : β → Hp → Prop} (h : rdG Γ X W R2 (fun v S => (fa v S).bind fun x S1 => f x S1) σ H Q) :
    rd Γ X W fa σ H fun x H1 => ∃ (ρ : Nat → Addr) (env : Env) (S : St) (a : D), Rl Γ X ρ env σ S H1 ∧ RD Γ ρ S.n H1 a x ∧ (f a S).All (PostG Γ X R2 env σ ρ S H1 Q) (PostX Γ X W env σ ρ S H1) := by
  obtain ⟨ρ, env, S, hl, h⟩ := h
  exact (rd_step hl h).mono fun x H1 ⟨ρ1, S1, a, hl1, e1, ra, h1⟩ => ⟨ρ1, env, S1, a, hl1, ra, h1⟩
abbrev e2 (G : Pg) (p : Pr) (fa fb : EvF D) : EvF D := fun v S => (fa v S).bind fun x S1 => (fb v S1).bind fun y S2 => prim G p [x, y] S2
abbrev e1 (G : Pg) (p : Pr) (fa : EvF D) : EvF D := fun v S => (fa v S).bind fun x S1 => prim G p [x] S1
theorem rd_e2 {p : Pr} {fa fb : EvF D} {σ : L2.St} {H : Hp} {Q : VK} (h : rd Γ X W (e2 Γ.G p fa fb) σ H Q) : rd Γ X W fa σ H fun x H1 => rd Γ X W fb σ H1 fun y H2 => PP2 Γ X W p x y H2 Q :=
  (rd_two h).mono fun x H1 h1 => h1.mono fun y H2 ⟨ρ, env, S, a, b, hl, ra, rb, h2⟩ => ⟨ρ, env, σ, S, [a, b], hl, RDs.cons ra (RDs.cons rb rfl), h2⟩
theorem rd_e1 {p : Pr} {fa : EvF D} {σ : L2.St} {H : Hp} {Q : VK} (h : rd Γ X W (e1 Γ.G p fa) σ H Q) : rd Γ X W fa σ H fun x H1 => PP1 Γ X W p x H1 Q :=
  (rd_one h).mono fun x H1 ⟨ρ, env, S, a, hl, ra, h2⟩ => ⟨ρ, env, σ, S, [a], hl, RDs.cons ra rfl, h2⟩
variable {a b c : Expr} {fa fb fc : EvF D} {pos : Pos}
theorem x_bin {op : Operator} {p : Pr} (ho : OpR X (binaryOp op) (PP2 Γ X W p)) (ha : PE X a (rd Γ X W fa)) (hb : PE X b (rd Γ X W fb)) : PE X (.BinOp a op b pos) (rd Γ X W (e2 Γ.G p fa fb)) :=
  (pe_op ho ha hb).wk fun σ H Q h => rd_e2 h
theorem x_un {op : UnaryOp} {p : Pr} (ho : UnR X (unaryOp op) (PP1 Γ X W p)) (ha : PE X a (rd Γ X W fa)) : PE X (.UnaryOp op a pos) (rd Γ X W (e1 Γ.G p fa)) :=
  (pe_un ho ha).wk fun σ H Q h => rd_e1 h
theorem x_cmp {op : CmpOp} {p : Pr} (ho : OpR X (compareOp op) (PP2 Γ X W p)) (ha : PE X a (rd Γ X W fa)) (hb : PE X b (rd Γ X W fb)) (hm : behindInMarks op b = false) : PE X (.Compare a [op] [b] pos) (rd Γ X W (e2 Γ.G p fa fb)) :=
  (pe_cmpR ho ha hb hm).wk fun σ H Q h => rd_e2 h
/-- a value's truth -/
theorem truth_tru {ρ : Nat → Addr} {env : Env} {S : St} {H : Hp} {d : D} {v : V} {k : Bool} {K : PySem.W.Frag} (R : Rh Γ ρ env S H) (h : truth S d = some k) (r : RD Γ ρ S.n H d v) : TruV K v H k := by
  unfold truth at h
  split at h
  · cases h
    cases rd_non r
    rfl
  · cases h
    cases rd_bl r
    rfl
  · rename_i i
    cases rd_int r
    cases h
    show _ = (i != 0)
    cases i with
    | ofNat k => cases k <;> rfl
    | negSucc k => rfl
  · rename_i z
    obtain ⟨rfl, hz⟩ := rd_str r
    cases h
    refine ⟨Evl.sz_of hz, ?_⟩
    have e : z.length = z.cps.toList.length := (Array.length_toList).symm
    rw [e]
    cases z.cps.toList with
    | nil => rfl
    | cons y ys =>
      show true = ((((y :: ys).length : Nat) : Int) != 0)
      symm
      rw [bne_iff_ne, List.length_cons]
      omega
  · rename_i xs
    obtain ⟨_, a, ys, rfl, ha, rs⟩ := rd_tup r
    cases h
    refine .inr (.inl ⟨ys, SqT.of ha, ?_⟩)
    have := rs.len
    cases xs with
    | nil =>
      have : ys = [] := List.length_eq_zero_iff.mp this
      subst this
      rfl
    | cons x xs =>
      cases ys with
      | nil => simp at this
      | cons y ys => rfl
  · obtain ⟨_, rfl⟩ := rd_ref r
    split at h
    · rename_i xs e
      obtain ⟨_, ys, ha, rs⟩ := (R.obj _ _ e).2
      cases h
      refine .inl ⟨ys, SqL.of ha, ?_⟩
      have := rs.len
      cases xs with
      | nil =>
        have : ys = [] := List.length_eq_zero_iff.mp this
        subst this
        rfl
      | cons x xs =>
        cases ys with
        | nil => simp at this
        | cons y ys => rfl
    · rename_i xs e
      obtain ⟨_, ys, ha, rk⟩ := (R.obj _ _ e).2
      cases h
      refine .inr (.inr ⟨ys, ha, ?_⟩)
      have := rk.len
      cases xs with
      | nil =>
        have : ys = [] := List.length_eq_zero_iff.mp this
        subst this
        rfl
      | cons x xs =>
        cases ys with
        | nil => simp at this
        | cons y ys => rfl
    · cases h
  · cases h
/-- the truth of what is evaluated -/
abbrev tst (fa : EvF D) : EvF Bool := fun v S => (fa v S).bind fun x S1 => match truth S1 x with
  | some k => .ok k S1
  | none => .fail
theorem rd_tst {fa : EvF D} {σ : L2.St} {H : Hp} {Q : Bool → Hp → Prop} (h : rdB Γ X W (tst fa) σ H Q) {K : PySem.W.Frag} : rd Γ X W fa σ H fun x H1 => ∃ k, TruV K x H1 k ∧ Q k H1 :=
  (rd_one h).mono fun x H1 ⟨ρ, env, S, a, hl, ra, h2⟩ => by
    split at h2
    · rename_i k e
      exact ⟨k, truth_tru hl.h e ra, rd_end (R := RB) hl h2 rfl⟩
    · exact h2.elim
theorem x_truth (ha : PE X a (rd Γ X W fa)) (he : ∀ whole, isTrue a X.env whole = (do let v ← whole; standAt a.pos; holding [v] (truthy v))) : PT X a (rdB Γ X W (tst fa)) :=
  (pt_truth ha he).wk fun σ H Q h => rd_tst h
theorem x_not (ha : PE X a (rd Γ X W fa)) : PE X (.UnaryOp .Not a pos) (rd Γ X W (e1 Γ.G .not_ fa)) := (pe_notT ha).wk fun σ H Q h =>
  (rd_e1 h).mono fun x H1 g => by
    obtain ⟨ρ, env, σ1, S, a, R, ra, g⟩ := g.one
    simp only [primF, p_not_] at g
    split at g
    · rename_i k e
      exact ⟨k, truth_tru R.h e ra, fin_val R g rfl⟩
    · exact g.elim
abbrev eAnd (fa fb : EvF D) : EvF D := fun v S => (fa v S).bind fun x S1 => match truth S1 x with
  | some true => fb v S1
  | some false => .ok x S1
  | none => .fail
abbrev eOr (fa fb : EvF D) : EvF D := fun v S => (fa v S).bind fun x S1 => match truth S1 x with
  | some true => .ok x S1
  | some false => fb v S1
  | none => .fail
abbrev eIf (fc fa fb : EvF D) : EvF D := fun v S => (fc v S).bind fun x S1 => match truth S1 x with
  | some true => fa v S1
  | some false => fb v S1
  | none => .fail
/-- by an answer's truth: the one or the other -/
theorem rd_by {α β : Type} {R2 : RelT α β} {fa : EvF D} {f g : D → EvF α} {σ : L2.St} {H : Hp} {Q : β → Hp → Prop} (h : rdG Γ X W R2 (fun v S => (fa v S).bind fun x S1 => match truth S1 x with
    | some true => f x v S1
    | some false => g x v S1
    | none => .fail) σ H Q) {K : PySem.W.Frag} : rd Γ X W fa σ H fun x H1 => ∃ k, TruV K x H1 k ∧ ∃ (ρ : Nat → Addr) (env : Env) (S : St) (a : D), Rl Γ X ρ env σ S H1 ∧ RD Γ ρ S.n H1 a x ∧ truth S a = some k ∧
      (if k = true then (f a env S).All (PostG Γ X R2 env σ ρ S H1 Q) (PostX Γ X W env σ ρ S H1) else (g a env S).All (PostG Γ X R2 env σ ρ S H1 Q) (PostX Γ X W env σ ρ S H1)) := by
  obtain ⟨ρ, env, S, hl, h⟩ := h
  refine (rd_step hl h).mono fun x H1 ⟨ρ1, S1, a, hl1, e1, ra, h1⟩ => ?_
  dsimp only at h1
  split at h1
  · rename_i e
    exact ⟨true, truth_tru hl1.h e ra, ρ1, env, S1, a, hl1, ra, e, by rw [if_pos rfl]; exact h1⟩
  · rename_i e
    exact ⟨false, truth_tru hl1.h e ra, ρ1, env, S1, a, hl1, ra, e, by rw [if_neg (by decide)]; exact h1⟩
  · exact h1.elim
theorem x_and {rest : List Expr} (ha : PE X a (rd Γ X W fa)) (hb : PE X (.BoolOp .And (b :: rest) pos) (rd Γ X W fb)) : PE X (.BoolOp .And (a :: b :: rest) pos) (rd Γ X W (eAnd fa fb)) := (pe_andT ha hb).wk fun σ H Q h =>
  (rd_by (f := fun _ => fb) (g := fun x _ S => .ok x S) (K := X.K) h).mono fun x H1 ⟨k, tk, ρ, env, S, d, hl, ra, et, g⟩ => by
    refine ⟨k, tk, ?_⟩
    cases k
    · rw [if_neg (by decide)] at g ⊢
      exact rd_end (R := RD Γ) hl g ra
    · rw [if_pos rfl] at g ⊢
      exact ⟨ρ, env, S, hl, g⟩
theorem x_or {rest : List Expr} (ha : PE X a (rd Γ X W fa)) (hb : PE X (.BoolOp .Or (b :: rest) pos) (rd Γ X W fb)) : PE X (.BoolOp .Or (a :: b :: rest) pos) (rd Γ X W (eOr fa fb)) := (pe_orT ha hb).wk fun σ H Q h =>
  (rd_by (f := fun x _ S => .ok x S) (g := fun _ => fb) (K := X.K) h).mono fun x H1 ⟨k, tk, ρ, env, S, d, hl, ra, et, g⟩ => by
    refine ⟨k, tk, ?_⟩
    cases k
    · rw [if_neg (by decide)] at g ⊢
      exact ⟨ρ, env, S, hl, g⟩
    · rw [if_pos rfl] at g ⊢
      exact rd_end (R := RD Γ) hl g ra
theorem x_one {op : BoolOp} (ha : PE X a (rd Γ X W fa)) : PE X (.BoolOp op [a] pos) (rd Γ X W fa) := pe_one ha
theorem x_ife (hc : PT X c (rdB Γ X W (tst fc))) (ha : PE X a (rd Γ X W fa)) (hb : PE X b (rd Γ X W fb)) : PE X (.IfExp c a b pos) (rd Γ X W (eIf fc fa fb)) := (pe_ifExp hc ha hb).wk fun σ H Q h => by
  obtain ⟨ρ, env, S, hl, h⟩ := h
  refine ⟨ρ, env, S, hl, ?_⟩
  have e : (eIf fc fa fb) env S = (tst fc env S).bind fun k S1 => match k with
      | true => fa env S1
      | false => fb env S1 := by
    show Res.bind (fc env S) _ = Res.bind (Res.bind (fc env S) _) _
    rw [Res.bind_assoc]
    congr 1
    funext x S1
    cases truth S1 x with
    | none => rfl
    | some k => cases k <;> rfl
  rw [e] at h
  refine h.bind.mono (fun k S1 h1 ρ1 H1 k' hl1 e1 ek => ?_) fun _ _ _ p => p
  have ek : k = k' := ek
  subst ek
  cases k
  · dsimp only
    rw [if_neg (by decide)]
    exact ⟨ρ1, env, S1, hl1, h1.mono (fun _ _ p => p.ext hl.h.wf hl1.h.wf e1) fun _ _ _ p => p.ext hl.h.wf hl1.h.wf e1⟩
  · dsimp only
    rw [if_pos rfl]
    exact ⟨ρ1, env, S1, hl1, h1.mono (fun _ _ p => p.ext hl.h.wf hl1.h.wf e1) fun _ _ _ p => p.ext hl.h.wf hl1.h.wf e1⟩
/-! tests -/
theorem t_and {rest : List Expr} (ha : PT X a (rdB Γ X W (tst fa))) (hb : PW X (.BoolOp .And (b :: rest) pos) (rdB Γ X W (tst fb))) : PW X (.BoolOp .And (a :: b :: rest) pos) (rdB Γ X W (tst (eAnd fa fb))) := (pw_and ha hb).wk fun σ H Q h => by
  obtain ⟨ρ, env, S, hl, h⟩ := h
  refine ⟨ρ, env, S, hl, ?_⟩
  have e : tst (eAnd fa fb) env S = (tst fa env S).bind fun k S1 => match k with
      | true => tst fb env S1
      | false => .ok false S1 := by
    show Res.bind (Res.bind _ _) _ = Res.bind (Res.bind _ _) _
    rw [Res.bind_assoc, Res.bind_assoc]
    congr 1
    funext x S1
    cases hx : truth S1 x with
    | none => rfl
    | some k =>
      cases k
      · show (match truth S1 x with | some k => Res.ok k S1 | none => .fail) = _
        rw [hx]; rfl
      · rfl
  rw [e] at h
  refine h.bind.mono (fun k S1 h1 ρ1 H1 k' hl1 e1 ek => ?_) fun _ _ _ p => p
  have ek : k = k' := ek
  subst ek
  cases k
  · dsimp only
    rw [if_neg (by decide)]
    exact h1 ρ1 H1 false hl1 e1 rfl
  · dsimp only
    rw [if_pos rfl]
    exact ⟨ρ1, env, S1, hl1, h1.mono (fun _ _ p => p.ext hl.h.wf hl1.h.wf e1) fun _ _ _ p => p.ext hl.h.wf hl1.h.wf e1⟩
theorem t_or {rest : List Expr} (ha : PT X a (rdB Γ X W (tst fa))) (hb : PW X (.BoolOp .Or (b :: rest) pos) (rdB Γ X W (tst fb))) : PW X (.BoolOp .Or (a :: b :: rest) pos) (rdB Γ X W (tst (eOr fa fb))) := (pw_or ha hb).wk fun σ H Q h => by
  obtain ⟨ρ, env, S, hl, h⟩ := h
  refine ⟨ρ, env, S, hl, ?_⟩
  have e : tst (eOr fa fb) env S = (tst fa env S).bind fun k S1 => match k with
      | true => .ok true S1
      | false => tst fb env S1 := by
    show Res.bind (Res.bind _ _) _ = Res.bind (Res.bind _ _) _
    rw [Res.bind_assoc, Res.bind_assoc]
    congr 1
    funext x S1
    cases hx : truth S1 x with
    | none => rfl
    | some k =>
      cases k
      · rfl
      · show (match truth S1 x with | some k => Res.ok k S1 | none => .fail) = _
        rw [hx]; rfl
  rw [e] at h
  refine h.bind.mono (fun k S1 h1 ρ1 H1 k' hl1 e1 ek => ?_) fun _ _ _ p => p
  have ek : k = k' := ek
  subst ek
  cases k
  · dsimp only
    rw [if_neg (by decide)]
    exact ⟨ρ1, env, S1, hl1, h1.mono (fun _ _ p => p.ext hl.h.wf hl1.h.wf e1) fun _ _ _ p => p.ext hl.h.wf hl1.h.wf e1⟩
  · dsimp only
    rw [if_pos rfl]
    exact h1 ρ1 H1 true hl1 e1 rfl
theorem t_not (ha : PT X a (rdB Γ X W (tst fa))) : PT X (.UnaryOp .Not a pos) (rdB Γ X W (tst (e1 Γ.G .not_ fa))) := (pt_not ha).wk fun σ H Q h => by
  obtain ⟨ρ, env, S, hl, h⟩ := h
  refine ⟨ρ, env, S, hl, ?_⟩
  have e : tst (e1 Γ.G .not_ fa) env S = (tst fa env S).bind fun k S1 => .ok (!k) S1 := by
    show Res.bind (Res.bind _ _) _ = Res.bind (Res.bind _ _) _
    rw [Res.bind_assoc, Res.bind_assoc]
    congr 1
    funext x S1
    show Res.bind (match truth S1 x with | some b => Res.ok (D.bl (!b)) S1 | none => .fail) _ = _
    cases truth S1 x with
    | none => rfl
    | some k => rfl
  rw [e] at h
  exact h.bind.mono (fun k S1 h1 ρ1 H1 k' hl1 e1 ek => by
    have ek : k = k' := ek
    subst ek
    exact h1 ρ1 H1 (!k) hl1 e1 rfl) fun _ _ _ p => p
theorem t_cmp {op : CmpOp} {p : Pr} (ho : OpR X (compareOp op) (PP2 Γ X W p)) (ha : PE X a (rd Γ X W fa)) (hb : PE X b (rd Γ X W fb)) (hm : behindInMarks op b = false)
    (hbl : ∀ x y S, (∃ k, prim Γ.G p [x, y] S = .ok (.bl k) S) ∨ prim Γ.G p [x, y] S = .fail) : PT X (.Compare a [op] [b] pos) (rdB Γ X W (tst (e2 Γ.G p fa fb))) :=
  (pt_cmpR ho ha hb hm).wk fun σ H Q h => by
    obtain ⟨ρ, env, S, hl, h⟩ := h
    have q : rd Γ X W (e2 Γ.G p fa fb) σ H fun x H' => ∃ k, x = .bl k ∧ Q k H' := by
      refine ⟨ρ, env, S, hl, ?_⟩
      have e : tst (e2 Γ.G p fa fb) env S = (fa env S).bind fun x S1 => (fb env S1).bind fun y S2 => (prim Γ.G p [x, y] S2).bind fun z S3 => match truth S3 z with
          | some k => .ok k S3
          | none => .fail := by
        show Res.bind (Res.bind _ _) _ = _
        rw [Res.bind_assoc]
        congr 1
        funext x S1
        rw [Res.bind_assoc]
      rw [e] at h
      refine Res.All.unbind (h.bind.mono (fun x S1 h1 => Res.All.unbind (h1.bind.mono (fun y S2 h2 => ?_) fun _ _ _ z => z)) fun _ _ _ z => z)
      rcases hbl x y S2 with ⟨k, ek⟩ | ek
      · rw [ek] at h2 ⊢
        intro ρ' H' v a b c
        exact ⟨k, c, h2 ρ' H' k a b rfl⟩
      · rw [ek] at h2
        exact h2.elim
    exact rd_e2 q
end
end
end Ev
end
section
set_option Elab.async false
set_option linter.all false
set_option maxRecDepth 100000
set_option maxHeartbeats 2000000
namespace Ev
noncomputable section
open PySem PySem.Spec PyProof.Rows L2
section
variable {Γ : Gm} {X : Cx} {W : WX} {a b c e : Expr} {es : List Expr} {fa fb fc : EvF D} {fs : EvF (List D)} {pos p : Pos} {x : Str}
/-! ### names, constants -/
theorem x_var {i : Nat} (hN : X.N[i]? = some x) (hv : Vis X.env.scope x) (hd : (x == ("__debug__" : Str)) = false) (hcd : (x == ("__classdict__" : Str)) = false) : PE X (.Name x pos) (rd Γ X W fun v S => match look v S i with
    | some d => .ok d S
    | none => .fail) := (pe_var hN hv hd hcd).wk fun σ H Q h => by
  obtain ⟨ρ, env, S, hl, h⟩ := h
  dsimp only at h
  split at h
  · rename_i d ed
    rw [look_eq] at ed
    rw [nth_get] at ed
    split at ed
    · rename_i d' e1
      cases ed
      obtain ⟨v, e2, r⟩ := hl.s.sl i _ e1
      exact ⟨v, e2, fin_val hl h r⟩
    · rename_i l e1
      split at ed
      · rename_i d' e2
        cases ed
        obtain ⟨v, e3, r⟩ := (hl.s.sl i _ e1).2.2 _ e2
        exact ⟨v, e3, fin_val hl h r⟩
      · cases ed
    · cases ed
  · exact h.elim
theorem x_lit {d : D} {v : V} (h : PE X e (tC v)) (r : ∀ ρ n H, RD Γ ρ n H d v) : PE X e (rd Γ X W fun _ S => .ok d S) := h.wk fun σ H Q h => by
  obtain ⟨ρ, env, S, hl, h⟩ := h
  exact fin_val hl h (r _ _ _)
/-! ### argument lists, displays -/
theorem star_off {env : PySem.Env} (h : ∀ y q, e ≠ .Starred y q) : starEach (e :: es) env = (false, eval e env) :: starEach es env := by
  cases e <;> first | rfl | exact absurd rfl (h _ _)
theorem x_nil : PA X [] (rdL Γ X W fun _ S => .ok [] S) := pa_nil.wk fun σ H Q h => by
  obtain ⟨ρ, env, S, hl, h⟩ := h
  exact rd_end (R := RDs Γ) hl h rfl
abbrev eCons (fa : EvF D) (fs : EvF (List D)) : EvF (List D) := fun v S => (fa v S).bind fun x S1 => (fs v S1).bind fun xs S2 => .ok (x :: xs) S2
theorem x_cons (ha : PE X e (rd Γ X W fa)) (hs : PA X es (rdL Γ X W fs)) (h : ∀ y q, e ≠ .Starred y q) : PA X (e :: es) (rdL Γ X W (eCons fa fs)) := (pa_cons ha hs (star_off h)).wk fun σ H Q h => by
  obtain ⟨ρ, env, S, hl, h⟩ := h
  refine (rd_step hl h).mono fun x H1 ⟨ρ1, S1, a, hl1, e1, ra, h1⟩ => ?_
  refine (rd_step (g := fs) hl1 h1).mono fun ys H2 ⟨ρ2, S2, b, hl2, e2, rb, h2⟩ => ?_
  exact rd_end (R := RDs Γ) hl2 h2 (RDs.cons (ra.ext e2) rb)
abbrev eP (G : Pg) (p : Pr) (fs : EvF (List D)) : EvF D := fun v S => (fs v S).bind fun xs S1 => prim G p xs S1
theorem rd_eP {p : Pr} {σ : L2.St} {H : Hp} {Q : VK} (h : rd Γ X W (eP Γ.G p fs) σ H Q) : rdL Γ X W fs σ H fun vs H1 => PP Γ X W p vs H1 Q := by
  obtain ⟨ρ, env, S, hl, h⟩ := h
  exact (rd_step hl h).mono fun x H1 ⟨ρ1, S1, a, hl1, e1, ra, h1⟩ => ⟨ρ1, env, σ, S1, a, hl1, ra, h1⟩
theorem x_tup {k : Nat} (hs : PA X es (rdL Γ X W fs)) : PE X (.Tuple es k pos) (rd Γ X W (eP Γ.G .tup fs)) := (pe_tup hs).wk fun σ H Q h => (rd_eP h).mono fun vs H1 ⟨ρ, env, σ1, S, ds, R, r, g⟩ => by
  simp only [prim_eq, primF, p_tup] at g
  split at g
  · rename_i hf
    have hf := fits_le hf
    exact ⟨by rw [r.len]; exact Evl.sz_of hf, fin_tup R g hf r⟩
  · exact g.elim
theorem x_lst (hs : PA X es (rdL Γ X W fs)) : PE X (.List es pos) (rd Γ X W (eP Γ.G .lst fs)) := (pe_lst hs).wk fun σ H Q h => (rd_eP h).mono fun vs H1 ⟨ρ, env, σ1, S, ds, R, r, g⟩ => by
  simp only [prim_eq, primF, p_lst] at g
  split at g
  · rename_i hf
    have hf := fits_le hf
    exact ⟨by rw [r.len]; exact Evl.sz_of hf, fin_lst R g hf r⟩
  · exact g.elim
theorem x_dic : PE X (.Dict [] [] pos) (rd Γ X W fun _ S => prim Γ.G .dic [] S) := pe_dnewK.wk fun σ H Q h => by
  obtain ⟨ρ, env, S, hl, h⟩ := h
  simp only [prim_eq, primF, p_dic] at h
  intro q hq
  have e : Ext ρ S H (rup ρ S.n q) (S.new (.dic [])) (upd H q (.dK [])) := Ext.new hl.h.wf hq
  refine h.ok (rup ρ S.n q) (upd H q (.dK [])) (.ref q) (hl.new hq ⟨Nat.zero_le _, [], by rw [rup_same, upd_same], rfl⟩) e ?_
  unfold RD
  exact ⟨Nat.lt_succ_self _, by rw [rup_same]⟩
/-! ### subscripts -/
theorem x_ix (hu : X.A.units + 100 < cLine) (ha : PE X a (rd Γ X W fa)) (hb : PE X b (rd Γ X W fb)) (hs : PlainIx b) : PE X (.Subscript a b pos) (rd Γ X W (e2 Γ.G .idx fa fb)) := (pe_ix (ix_seqW hu) ha hb hs).wk fun σ H Q h => rd_e2 h
theorem x_sl00 {q : Pos} (ha : PE X a (rd Γ X W fa)) : PE X (.Subscript a (.Slice none none none q) pos) (rd Γ X W (e1 Γ.G .sl00 fa)) := (pe_slice s_slice ha po_none po_none).wk fun σ H Q h => rd_e1 h
theorem x_sl01 {q : Pos} (ha : PE X a (rd Γ X W fa)) (hb : PE X b (rd Γ X W fb)) : PE X (.Subscript a (.Slice none (some b) none q) pos) (rd Γ X W (e2 Γ.G .sl01 fa fb)) := (pe_slice s_slice ha po_none (po_some hb)).wk fun σ H Q h =>
  (rd_e2 h).mono fun x H1 h1 => h1.mono fun y H2 g => by
    obtain ⟨ρ, env, σ1, S, u, v, R, ru, rv, g0⟩ := g.two
    simp only [primF, p_sl01] at g0
    split at g0
    · rename_i i e
      cases e
      cases rd_int rv
      exact ⟨_, rfl, g⟩
    · rename_i i e
      cases e
      cases rd_int rv
      exact ⟨_, rfl, g⟩
    · exact g0.elim
theorem x_sl10 {q : Pos} (ha : PE X a (rd Γ X W fa)) (hb : PE X b (rd Γ X W fb)) : PE X (.Subscript a (.Slice (some b) none none q) pos) (rd Γ X W (e2 Γ.G .sl10 fa fb)) := (pe_slice s_slice ha (po_some hb) po_none).wk fun σ H Q h =>
  (rd_e2 h).mono fun x H1 h1 => h1.mono fun y H2 g => by
    obtain ⟨ρ, env, σ1, S, u, v, R, ru, rv, g0⟩ := g.two
    simp only [primF, p_sl10] at g0
    split at g0
    · rename_i i e
      cases e
      cases rd_int rv
      exact ⟨_, rfl, g⟩
    · rename_i i e
      cases e
      cases rd_int rv
      exact ⟨_, rfl, g⟩
    · exact g0.elim
abbrev e3 (G : Pg) (p : Pr) (fa fb fc : EvF D) : EvF D := fun v S => (fa v S).bind fun x S1 => (fb v S1).bind fun y S2 => (fc v S2).bind fun z S3 => prim G p [x, y, z] S3
theorem rd_e3 {p : Pr} {σ : L2.St} {H : Hp} {Q : VK} (h : rd Γ X W (e3 Γ.G p fa fb fc) σ H Q) : rd Γ X W fa σ H fun x H1 => rd Γ X W fb σ H1 fun y H2 => rd Γ X W fc σ H2 fun z H3 => PP Γ X W p [x, y, z] H3 Q := by
  obtain ⟨ρ, env, S, hl, h⟩ := h
  refine (rd_step hl h).mono fun x H1 ⟨ρ1, S1, a, hl1, e1, ra, h1⟩ => ?_
  refine (rd_step (g := fb) hl1 h1).mono fun y H2 ⟨ρ2, S2, b, hl2, e2, rb, h2⟩ => ?_
  refine (rd_step (g := fc) hl2 h2).mono fun z H3 ⟨ρ3, S3, c, hl3, e3, rc, h3⟩ => ?_
  exact ⟨ρ3, env, σ, S3, [a, b, c], hl3, RDs.cons ((ra.ext e2).ext e3) (RDs.cons (rb.ext e3) (RDs.cons rc rfl)), h3⟩
theorem x_sl11 {q p1 : Pos} {i : Int} {k : Nat} (ha : PE X a (rd Γ X W fa)) (hc : PE X c (rd Γ X W fc)) : PE X (.Subscript a (.Slice (some (.Constant (.int i) k p1)) (some c) none q) pos) (rd Γ X W (e3 Γ.G .sl11 fa (fun _ S => .ok (.int i) S) fc)) := (pe_slice s_slice ha (po_some pe_int) (po_some hc)).wk fun σ H Q h =>
  (rd_e3 h).mono fun x H1 h1 => by
    obtain ⟨ρ, env, S, hl, h1⟩ := h1
    have h2 := h1.ok ρ H1 (.int i) hl (Ext.refl hl.h.wf) rfl
    refine ⟨i, rfl, h2.mono fun z H3 g => ?_⟩
    obtain ⟨ρ, env, σ1, S, u, v, w, R, ru, rv, rw', g0⟩ := g.three
    simp only [primF, p_sl11] at g0
    split at g0
    · rename_i i e
      cases e
      cases rd_int rw'
      exact ⟨_, rfl, g⟩
    · rename_i i e
      cases e
      cases rd_int rw'
      exact ⟨_, rfl, g⟩
    · exact g0.elim
theorem x_slr {k : Nat} {p1 p2 p3 : Pos} (ha : PE X a (rd Γ X W fa)) : PE X (.Subscript a (.Slice none none (some (.UnaryOp .USub (.Constant (.int 1) k p1) p2)) p3) pos) (rd Γ X W (e1 Γ.G .slr fa)) := (pe_revL ha).wk fun σ H Q h =>
  (rd_e1 h).mono fun x H1 g => by
    obtain ⟨ρ, env, σ1, S, u, R, ru, g⟩ := g.one
    simp only [primF, p_slr] at g
    split at g
    · rename_i l e
      cases e
      split at g
      · rename_i xs e
        obtain ⟨hl, ys, hd, rs⟩ := lst_of R e
        exact ⟨_, ys, (rd_ref ru).2, SqL.of hd, fin_lst R g (by rw [List.length_reverse]; exact hl) rs.rev⟩
      · exact g.elim
    · exact g.elim
/-! ### calls of built-ins -/
def one? : Pr → Bool
  | .tuple => true | .list => true | .len => true | .all => true | .any => true | .sum => true | .max1 => true | .min1 => true | .abs => true | .int => true | .repr => true | .sorted => true
  | _ => false
def two? : Pr → Bool
  | .isi => true | .max2 => true | .min2 => true | .divmod => true
  | _ => false
theorem one_len {p : Pr} (h : one? p = true) {S : St} {ds : List D} (hl : ds.length ≠ 1) : prim Γ.G p ds S = .fail := by
  match ds, hl with
  | [], _ => cases p <;> first | rfl | (simp [one?] at h)
  | [x], hl => exact absurd rfl hl
  | x :: y :: r, _ => cases p <;> first | rfl | (simp [one?] at h; done) | (cases x <;> rfl)
theorem two_len {p : Pr} (h : two? p = true) {S : St} {ds : List D} (hl : ds.length ≠ 2) : prim Γ.G p ds S = .fail := by
  match ds, hl with
  | [], _ => cases p <;> first | rfl | (simp [two?] at h)
  | [x], hl => cases p <;> first | rfl | (simp [two?] at h; done) | (cases x <;> rfl)
  | [x, y], hl => exact absurd rfl hl
  | x :: y :: z :: r, _ => cases p <;> first | rfl | (simp [two?] at h; done) | (cases x <;> first | rfl | (cases y <;> rfl))
theorem PP.len1 {p : Pr} {vs : List V} {H : Hp} {Q : VK} (h1 : one? p = true) (h : PP Γ X W p vs H Q) : vs.length = 1 := by
  obtain ⟨ρ, env, σ, S, ds, R, r, g⟩ := h
  rw [r.len]
  by_cases hl : ds.length = 1
  · exact hl
  · rw [one_len h1 hl] at g
    exact g.elim
theorem PP.len2 {p : Pr} {vs : List V} {H : Hp} {Q : VK} (h1 : two? p = true) (h : PP Γ X W p vs H Q) : vs.length = 2 := by
  obtain ⟨ρ, env, σ, S, ds, R, r, g⟩ := h
  rw [r.len]
  by_cases hl : ds.length = 2
  · exact hl
  · rw [two_len h1 hl] at g
    exact g.elim
/-- no star in a list of arguments -/
def noStar : List Expr → Bool
  | [] => true
  | e :: r => match e with
    | .Starred _ _ => false
    | _ => noStar r
theorem noStar_tail {e : Expr} {r : List Expr} (h : noStar (e :: r) = true) : noStar r = true ∧ ∀ y q, e ≠ .Starred y q := by
  cases e <;> first | exact ⟨h, fun _ _ z => nomatch z⟩ | exact nomatch h
theorem plain_any {env : PySem.Env} : ∀ {es : List Expr} {pos : Pos}, noStar es = true → (backTo pos (starEach es env)).any (·.1) = false
  | [], _, _ => rfl
  | e :: r, pos, h => by
    obtain ⟨h1, h2⟩ := noStar_tail h
    rw [star_off h2]
    show (false || _) = false
    rw [Bool.false_or]
    exact plain_any h1
theorem x_callB {id : String} {p1 : Pr} {r : List V → Hp → VK → Prop} (hc : CallR X (.builtin id) r) (hr : ∀ vs H Q, PP Γ X W p1 vs H Q → r vs H Q) (hg : L2.Gl X x) (hm : X.mg x = none) (hv : bootBuiltins x = some (.builtin id)) (ha : PA X (e :: es) (rdL Γ X W fs)) (hn : x ≠ "__name__") (hdb : (x == ("__debug__" : Str)) = false)
    (hst : noStar (e :: es) = true) : PE X (.Call (.Name x p) (e :: es) [] pos) (rd Γ X W (eP Γ.G p1 fs)) :=
  (pe_callB hc hg hm hv ha hn hdb (star_off (noStar_tail hst).2) (plain_any (noStar_tail hst).1)).wk fun σ H Q h => (rd_eP h).mono fun vs H1 g => hr vs H1 Q g
theorem x_callTy {T : String} {p1 : Pr} {r : List V → Hp → VK → Prop} (hc : CallR X (.type T) r) (hr : ∀ vs H Q, PP Γ X W p1 vs H Q → r vs H Q) (hg : L2.Gl X x) (hm : X.mg x = none) (hv : bootBuiltins x = some (.type T)) (ha : PA X (e :: es) (rdL Γ X W fs)) (hn : x ≠ "__name__") (hdb : (x == ("__debug__" : Str)) = false)
    (hst : noStar (e :: es) = true) : PE X (.Call (.Name x p) (e :: es) [] pos) (rd Γ X W (eP Γ.G p1 fs)) :=
  (pe_callTy hc hg hm hv ha hn hdb (star_off (noStar_tail hst).2) (plain_any (noStar_tail hst).1)).wk fun σ H Q h => (rd_eP h).mono fun vs H1 g => hr vs H1 Q g
end
end
end Ev
end
section
set_option Elab.async false
set_option linter.all false
set_option maxRecDepth 100000
set_option maxHeartbeats 2000000
namespace Ev
noncomputable section
open PySem PySem.Spec PyProof.Rows L2
/-- only truth values come -/
def Res.Bl : Res D → Prop
  | .ok d _ => ∃ k, d = .bl k
  | .draw _ k => ∀ d, (k d).Bl
  | .exc _ _ _ => True
  | .fail => True
theorem Res.Bl.bind {α : Type} {f : α → St → Res D} (h : ∀ x S, (f x S).Bl) : ∀ (r : Res α), (r.bind f).Bl
  | .ok v S => h v S
  | .exc _ _ _ => trivial
  | .draw n k => fun d => Res.Bl.bind h (k d)
  | .fail => trivial
def blP : Pr → Bool
  | .eq => true | .ne => true | .lt => true | .le => true | .gt => true | .ge => true | .is_ => true | .isnot => true | .in_ => true | .notin => true
  | _ => false
theorem okB_bl (o : Option Bool) (S : St) : (okB o S).Bl := by
  cases o
  · exact trivial
  · exact ⟨_, rfl⟩
theorem blP_ok {G : Pg} {p : Pr} (h : blP p = true) (x y : D) (S : St) : (prim G p [x, y] S).Bl := by
  cases p <;> first | (simp [blP] at h; done) | skip
  · exact okB_bl _ _
  · simp only [prim_eq, primF, p_ne]
    split <;> first | exact ⟨_, rfl⟩ | exact trivial
  · simp only [prim_eq, primF, p_lt]
    split <;> first | exact ⟨_, rfl⟩ | exact trivial
  · simp only [prim_eq, primF, p_le]
    split <;> first | exact ⟨_, rfl⟩ | exact trivial
  · simp only [prim_eq, primF, p_gt]
    split <;> first | exact ⟨_, rfl⟩ | exact trivial
  · simp only [prim_eq, primF, p_ge]
    split <;> first | exact ⟨_, rfl⟩ | exact trivial
  · simp only [prim_eq, primF, p_is_]
    split
    · exact ⟨_, rfl⟩
    · split <;> first | exact ⟨_, rfl⟩ | exact trivial
    · exact trivial
  · simp only [prim_eq, primF, p_isnot]
    split
    · exact ⟨_, rfl⟩
    · split <;> first | exact ⟨_, rfl⟩ | exact trivial
    · exact trivial
  · simp only [prim_eq, primF, p_in_]
    split
    · split <;> first | exact ⟨_, rfl⟩ | exact trivial
    · exact trivial
  · simp only [prim_eq, primF, p_notin]
    split
    · split <;> first | exact ⟨_, rfl⟩ | exact trivial
    · exact trivial
section
variable {Γ : Gm} {X : Cx} {W : WX} {a b c e o : Expr} {es : List Expr} {fa fb fc : EvF D} {fs : EvF (List D)} {pos p : Pos} {x : Str}
theorem bl_all {env : Env} {σ : L2.St} {ρ : Nat → Addr} {S : St} {H : Hp} {Q : Bool → Hp → Prop} : ∀ {r : Res D}, r.Bl → (r.bind fun x S1 => match truth S1 x with
    | some k => Res.ok k S1
    | none => .fail).All (PostG Γ X RB env σ ρ S H Q) (PostX Γ X W env σ ρ S H) → r.All (PostG Γ X (RD Γ) env σ ρ S H fun x H' => ∃ k, x = .bl k ∧ Q k H') (PostX Γ X W env σ ρ S H)
  | .ok d S1, ⟨k, e⟩, h => by
    subst e
    exact fun ρ' H' v a b c => ⟨k, c, h ρ' H' k a b rfl⟩
  | .exc _ _ _, _, h => h
  | .draw n k, hb, h => ⟨h.1, fun d hd => bl_all (hb d) (h.2 d hd)⟩
  | .fail, _, h => h
theorem rd_bl' {σ : L2.St} {H : Hp} {Q : Bool → Hp → Prop} (hb : ∀ v S, (fa v S).Bl) (h : rdB Γ X W (tst fa) σ H Q) : rd Γ X W fa σ H fun x H' => ∃ k, x = .bl k ∧ Q k H' := by
  obtain ⟨ρ, env, S, hl, h⟩ := h
  exact ⟨ρ, env, S, hl, bl_all (hb env S) h⟩
theorem t_cmp' {op : CmpOp} {p : Pr} (ho : OpR X (compareOp op) (PP2 Γ X W p)) (ha : PE X a (rd Γ X W fa)) (hb : PE X b (rd Γ X W fb)) (hm : behindInMarks op b = false) (hp : blP p = true) :
    PT X (.Compare a [op] [b] pos) (rdB Γ X W (tst (e2 Γ.G p fa fb))) :=
  (pt_cmpR ho ha hb hm).wk fun σ H Q h => rd_e2 (rd_bl' (fun v S => Res.Bl.bind (fun x S1 => Res.Bl.bind (fun y S2 => blP_ok hp x y S2) _) _) h)
abbrev eChn (G : Pg) (p q : Pr) (fa fb fc : EvF D) : EvF D := fun v S => (fa v S).bind fun x S1 => (fb v S1).bind fun y S2 => (prim G p [x, y] S2).bind fun z S3 => match z with
    | .bl true => (fc v S3).bind fun w S4 => prim G q [y, w] S4
    | .bl false => .ok (.bl false) S3
    | _ => .fail
theorem rd_chn {p q : Pr} {σ : L2.St} {H : Hp} {Q : VK} (h : rd Γ X W (eChn Γ.G p q fa fb fc) σ H Q) : tChain (PP2 Γ X W p) (PP2 Γ X W q) (rd Γ X W fa) (rd Γ X W fb) (rd Γ X W fc) σ H Q := by
  obtain ⟨ρ, env, S, hl, h⟩ := h
  refine (rd_step hl h).mono fun x H1 ⟨ρ1, S1, a, hl1, e1, ra, h1⟩ => ?_
  refine (rd_step (g := fb) hl1 h1).mono fun y H2 ⟨ρ2, S2, b, hl2, e2, rb, h2⟩ => ?_
  refine ⟨ρ2, env, σ, S2, [a, b], hl2, RDs.cons (ra.ext e2) (RDs.cons rb rfl), h2.bind.mono (fun z S3 h3 ρ3 H3 zv hl3 e3 rz => ?_) fun _ _ _ w => w⟩
  have w2 := hl2.h.wf
  have w3 := hl3.h.wf
  split at h3
  · refine ⟨true, rd_bl rz, ?_⟩
    rw [if_pos rfl]
    refine (rd_step (g := fc) hl3 (h3.mono (fun _ _ w => w.ext w2 w3 e3) fun _ _ _ w => w.ext w2 w3 e3)).mono fun w' H4 ⟨ρ4, S4, c, hl4, e4, rc, h4⟩ => ?_
    exact ⟨ρ4, env, σ, S4, [b, c], hl4, RDs.cons ((rb.ext e3).ext e4) (RDs.cons rc rfl), h4⟩
  · refine ⟨false, rd_bl rz, ?_⟩
    rw [if_neg (by decide)]
    exact h3.ok ρ3 H3 (.bl false) hl3 e3 rfl
  · exact h3.elim
theorem x_chn {op op' : CmpOp} {p q : Pr} (ho : OpR X (compareOp op) (PP2 Γ X W p)) (ho' : OpR X (compareOp op') (PP2 Γ X W q)) (ha : PE X a (rd Γ X W fa)) (hb : PE X b (rd Γ X W fb)) (hc : PE X c (rd Γ X W fc)) (hm : lastMarks [op, op'] [b, c] = false) :
    PE X (.Compare a [op, op'] [b, c] pos) (rd Γ X W (eChn Γ.G p q fa fb fc)) := (pe_chain ho ho' ha hb hc hm).wk fun σ H Q h => rd_chn h
theorem t_chn {op op' : CmpOp} {p q : Pr} (ho : OpR X (compareOp op) (PP2 Γ X W p)) (ho' : OpR X (compareOp op') (PP2 Γ X W q)) (ha : PE X a (rd Γ X W fa)) (hb : PE X b (rd Γ X W fb)) (hc : PE X c (rd Γ X W fc)) (hm : lastMarks [op, op'] [b, c] = false) (hq : blP q = true) :
    PT X (.Compare a [op, op'] [b, c] pos) (rdB Γ X W (tst (eChn Γ.G p q fa fb fc))) := (pt_chain ho ho' ha hb hc hm).wk fun σ H Q h => rd_chn (rd_bl' (fun v S => Res.Bl.bind (fun x S1 => Res.Bl.bind (fun y S2 => Res.Bl.bind (fun z S3 => by
      split
      · exact Res.Bl.bind (fun w S4 => blP_ok hq _ w S4) _
      · exact ⟨_, rfl⟩
      · exact trivial) _) _) _) h)
/-! ### methods of lists -/
abbrev eM (G : Pg) (p : Pr) (fo : EvF D) (fs : EvF (List D)) : EvF D := fun v S => (fo v S).bind fun x S1 => (fs v S1).bind fun xs S2 => prim G p (x :: xs) S2
/-- a list's methods; the receiver must be told to be a list ahead of the arguments -/
abbrev eML (G : Pg) (p : Pr) (fo : EvF D) (fs : EvF (List D)) : EvF D := fun v S => (fo v S).bind fun x S1 => match x with
  | .ref l => match S1.get l with
    | some (.lst _) => (fs v S1).bind fun xs S2 => prim G p (x :: xs) S2
    | _ => .fail
  | _ => .fail
theorem rd_eML {p : Pr} {fo : EvF D} {σ : L2.St} {H : Hp} {Q : VK} (h : rd Γ X W (eML Γ.G p fo fs) σ H Q) : rd Γ X W fo σ H fun x H1 => tyV X.K "list" x H1 ∧ rdL Γ X W fs σ H1 fun vs H2 => PP Γ X W p (x :: vs) H2 Q := by
  obtain ⟨ρ, env, S, hl, h⟩ := h
  refine (rd_step hl h).mono fun x H1 ⟨ρ1, S1, a, hl1, e1, ra, h1⟩ => ?_
  dsimp only at h1
  split at h1
  · obtain ⟨_, rfl⟩ := rd_ref ra
    split at h1
    · rename_i xs e
      obtain ⟨_, ys, hd, _⟩ := lst_of hl1 e
      refine ⟨.inl ⟨rfl, ys, SqL.of hd⟩, ?_⟩
      refine (rd_step (g := fs) hl1 h1).mono fun vs H2 ⟨ρ2, S2, b, hl2, e2, rb, h2⟩ => ?_
      exact ⟨ρ2, env, σ, S2, _, hl2, RDs.cons (ra.ext e2) rb, h2⟩
    · exact h1.elim
  · exact h1.elim
theorem few_ok {env : PySem.Env} {cpos : Pos} : ∀ {es : List Expr}, noStar es = true → (backTo cpos (starEach es env)).all (fun x => !x.1) = true
  | [], _ => rfl
  | e :: r, h => by
    obtain ⟨h1, h2⟩ := noStar_tail h
    rw [star_off h2]
    show (true && _) = true
    rw [Bool.true_and]
    exact few_ok h1
theorem few_all {env : PySem.Env} {cpos : Pos} {es : List Expr} (h : noStar es = true) (hl : es.length < 20) : ((backTo cpos (starEach es env)).all (fun x => !x.1) && (backToKw cpos (keywordEach [] env)).all (fun x => x.1.isSome)
      && decide (es.length + ([] : List Keyword).length + (if ([] : List Keyword).isEmpty then 0 else 1) < 30)) = true := by
  rw [few_ok h, Bool.true_and]
  show (true && decide (es.length + 0 + 0 < 30)) = true
  rw [Bool.true_and]
  exact decide_eq_true (by omega)
theorem x_bm {name : Str} {id : String} {apos cpos : Pos} {p : Pr} {fo : EvF D} {n : Nat} (slot : Slot "list" name id) (hty : typeOf (.builtin id) = pure (.type "method_descriptor")) (hm : MtR X id (fun x vs H Q => PP Γ X W p (x :: vs) H Q ∧ vs.length = n)) (hp : ∀ x vs H Q, PP Γ X W p (x :: vs) H Q → vs.length = n)
    (ho : PE X o (rd Γ X W fo)) (ha : PA X (e :: es) (rdL Γ X W fs)) (hst : noStar (e :: es) = true) (hl : (e :: es).length < 20) (hbase : attributeBase o name X.env (eval o X.env) = eval o X.env) (hline : (apos.endLine == cpos.line) = true) :
    PE X (.Call (.Attribute o name apos) (e :: es) [] cpos) (rd Γ X W (eML Γ.G p fo fs)) :=
  (pe_bm PySem.F.plainAttrs_list slot hty hm ho ha hbase (few_all hst hl) hline (star_off (noStar_tail hst).2) (plain_any (noStar_tail hst).1)).wk fun σ H Q h =>
    (rd_eML h).mono fun x H1 ⟨ty, h1⟩ => ⟨ty, h1.mono fun vs H2 g => ⟨g, hp _ _ _ _ g⟩⟩
theorem x_bm0 {name : Str} {id : String} {apos cpos : Pos} {p : Pr} {fo : EvF D} (slot : Slot "list" name id) (hty : typeOf (.builtin id) = pure (.type "method_descriptor")) (hm : MtR X id (fun x vs H Q => PP Γ X W p (x :: vs) H Q ∧ vs.length = 0))
    (ho : PE X o (rd Γ X W fo)) (hbase : attributeBase o name X.env (eval o X.env) = eval o X.env) (hline : (apos.endLine == cpos.line) = true) :
    PE X (.Call (.Attribute o name apos) [] [] cpos) (rd Γ X W (eML Γ.G p fo fun _ S => .ok [] S)) :=
  (pe_bm0 PySem.F.plainAttrs_list slot hty hm ho hbase hline).wk fun σ H Q h => (rd_eML h).mono fun x H1 ⟨ty, ρ, env, S, hl, h1⟩ => ⟨ty, h1.ok ρ H1 [] hl (Ext.refl hl.h.wf) rfl, rfl⟩
/-! ### d.get(k, v) -/
abbrev eGet (G : Pg) (fo fa fb : EvF D) : EvF D := fun v S => (fo v S).bind fun x S1 => match x with
  | .ref l => match S1.get l with
    | some (.dic _) => (fa v S1).bind fun y S2 => (fb v S2).bind fun z S3 => prim G .get2 [x, y, z] S3
    | _ => .fail
  | _ => .fail
theorem x_get2 {fo : EvF D} {apos cpos : Pos} (hu : X.A.units + 100 < cLine) (ho : PE X o (rd Γ X W fo)) (ha : PE X a (rd Γ X W fa)) (hb : PE X b (rd Γ X W fb)) (hst : noStar [a, b] = true) (hbase : attributeBase o "get" X.env (eval o X.env) = eval o X.env) (hline : (apos.endLine == cpos.line) = true) :
    PE X (.Call (.Attribute o "get" apos) [a, b] [] cpos) (rd Γ X W (eGet Γ.G fo fa fb)) :=
  (pe_dget2 (by omega) ho ha hb ⟨hbase, few_all hst (show 2 < 20 by decide), hline, by
    obtain ⟨h1, h2⟩ := noStar_tail hst
    obtain ⟨h3, h4⟩ := noStar_tail h1
    rw [star_off h2, star_off h4]; rfl⟩).wk fun σ H Q h => by
    obtain ⟨ρ, env, S, hl, h⟩ := h
    refine (rd_step hl h).mono fun x H1 ⟨ρ1, S1, d, hl1, e1, rx, h1⟩ => ?_
    dsimp only at h1
    split at h1
    · rename_i l
      obtain ⟨_, rfl⟩ := rd_ref rx
      split at h1
      · rename_i kvs e
        obtain ⟨_, ys, hd, _⟩ := dic_of hl1 e
        refine ⟨_, rfl, .inl ⟨ys, .inl hd⟩, ?_⟩
        refine (rd_step (g := fa) hl1 h1).mono fun y H2 ⟨ρ2, S2, k, hl2, e2, ry, h2⟩ => ?_
        refine (rd_step (g := fb) hl2 h2).mono fun z H3 ⟨ρ3, S3, w, hl3, e3, rz, h3⟩ => ?_
        have rx3 := (rx.ext e2).ext e3
        simp only [prim_eq, primF, p_get2] at h3
        · split at h3
          · rename_i kvs' e'
            obtain ⟨_, rs, hd', rk⟩ := dic_of hl3 e'
            split at h3
            · rename_i hk
              obtain ⟨q, eq⟩ := isKey_keyD hk
              have ek := keyD_kV eq (ry.ext e3)
              subst ek
              have g := DGet.k (k := q) (show H3 (ρ3 l) = some (.dK rs) from hd')
              have er : ρ3 l = ρ1 l := by
                have := (rd_ref rx3).2
                injection this with this
                exact this.symm
              rw [er] at g
              refine ⟨_, g, ?_⟩
              obtain ⟨i1, i2⟩ := lookD_val eq rk
              split at h3
              · rename_i u eu
                obtain ⟨uv, e1', ru⟩ := i1 u eu
                rw [e1']
                exact rd_end (R := RD Γ) hl3 h3 ru
              · rename_i eu
                rw [i2 eu]
                exact rd_end (R := RD Γ) hl3 h3 rz
            · exact h3.elim
          · exact h3.elim
      · exact h1.elim
    · exact h1.elim
end
end
end Ev
end
section
set_option Elab.async false
set_option linter.all false
set_option maxRecDepth 100000
set_option maxHeartbeats 2000000
/-! STATEMENTS by their parts' readings. -/
namespace Ev
noncomputable section
open PySem PySem.Spec PyProof.Rows L2
/-- the running def's own cells stand behind n -/
def CeOk (n : Nat) (env : Env) : Prop := ∀ (i l : Nat), env[i]? = some (Sl.ce l) → n ≤ l
section
variable (Γ : Gm) (X : Cx) (W : WX) (n0 : Nat)
def PostS (ρ : Nat → Addr) (S : St) (H : Hp) (D : Ends) : SO → St → Prop := fun o S' => match o with
  | .nx v => ∀ (ρ' : Nat → Addr) (H' : Hp) (σ' : L2.St), Rl Γ X ρ' v σ' S' H' → Ext0 ρ S H ρ' S' H' → CelK n0 S S' → CeOk n0 v → D.nx σ' H'
  | .bk v => ∀ (ρ' : Nat → Addr) (H' : Hp) (σ' : L2.St), Rl Γ X ρ' v σ' S' H' → Ext0 ρ S H ρ' S' H' → CelK n0 S S' → CeOk n0 v → D.bk σ' H'
  | .ct v => ∀ (ρ' : Nat → Addr) (H' : Hp) (σ' : L2.St), Rl Γ X ρ' v σ' S' H' → Ext0 ρ S H ρ' S' H' → CelK n0 S S' → CeOk n0 v → D.ct σ' H'
  | .rt d v => ∀ (ρ' : Nat → Addr) (H' : Hp) (σ' : L2.St) (u : V), Rl Γ X ρ' v σ' S' H' → Ext0 ρ S H ρ' S' H' → CelK n0 S S' → CeOk n0 v → RD Γ ρ' S'.n H' d u → D.rt u H'
  | .xc c fs v => ∀ (ρ' : Nat → Addr) (H' : Hp) (σ' : L2.St) (cls : Value) (dd : Option Addr), Rl Γ X ρ' v σ' S' H' → Ext0 ρ S H ρ' S' H' → CelK n0 S S' → CeOk n0 v → XR Γ ρ' S'.n H' c fs cls dd → W cls dd σ' H'
def NoE : Nat → List (Str × D) → St → Prop := fun _ _ _ => False
/-- a statement's reading -/
def rS (r : EvF SO) : TS := fun D σ H => ∃ (ρ : Nat → Addr) (env : Env) (S : St), Rl Γ X ρ env σ S H ∧ n0 ≤ S.n ∧ CeOk n0 env ∧ (r env S).All (PostS Γ X W n0 ρ S H D) NoE
end
section
variable {Γ : Gm} {X : Cx} {W : WX} {n0 : Nat} {ρ ρ1 : Nat → Addr} {S S1 : St} {H H1 : Hp} {D' : Ends} {env : Env} {σ : L2.St}
theorem PostS.ext {D : Ends} (e : Ext0 ρ S H ρ1 S1 H1) (c : CelK n0 S S1) : ∀ {o : SO} {S' : St}, PostS Γ X W n0 ρ S H D o S' → PostS Γ X W n0 ρ1 S1 H1 D o S'
  | .nx v, S', h => fun ρ' H' σ' a b d f => h ρ' H' σ' a (e.trans b) (c.trans d (Nat.le_refl _)) f
  | .bk v, S', h => fun ρ' H' σ' a b d f => h ρ' H' σ' a (e.trans b) (c.trans d (Nat.le_refl _)) f
  | .ct v, S', h => fun ρ' H' σ' a b d f => h ρ' H' σ' a (e.trans b) (c.trans d (Nat.le_refl _)) f
  | .rt x v, S', h => fun ρ' H' σ' u a b d f g => h ρ' H' σ' u a (e.trans b) (c.trans d (Nat.le_refl _)) f g
  | .xc x fs v, S', h => fun ρ' H' σ' u w a b d f g => h ρ' H' σ' u w a (e.trans b) (c.trans d (Nat.le_refl _)) f g
theorem CelK.of {n : Nat} (e : Ext ρ S H ρ1 S1 H1) (h : n ≤ S.n) : CelK n S S1 := fun l od hl => e.cels l od (Nat.lt_of_lt_of_le hl h)
theorem CelK.refl {n : Nat} : CelK n S S := fun _ _ _ h => h
/-- an expression ahead: then f -/
theorem rS_exp {α β : Type} {D : Ends} {R : RelT α β} {g : EvF α} {f : α → EvF SO} (hl : Rl Γ X ρ env σ S H) (hn : n0 ≤ S.n) (hc : CeOk n0 env) (h : ((g env S).st env fun x S1 => f x env S1).All (PostS Γ X W n0 ρ S H D) NoE) :
    rdG Γ X W R g σ H fun b H1 => ∃ (ρ1 : Nat → Addr) (S1 : St) (a : α), Rl Γ X ρ1 env σ S1 H1 ∧ Ext ρ S H ρ1 S1 H1 ∧ n0 ≤ S1.n ∧ R ρ1 S1.n H1 a b ∧ (f a env S1).All (PostS Γ X W n0 ρ1 S1 H1 D) NoE :=
  ⟨ρ, env, S, hl, h.st.mono (fun a S1 h1 ρ1 H1 b hl1 e r => ⟨ρ1, S1, a, hl1, e, Nat.le_trans hn e.le, r, h1.mono (fun _ _ p => p.ext e.toExt0 (CelK.of e hn)) fun _ _ _ p => p⟩) fun c fs S1 h1 ρ1 H1 cls dd hl1 e x =>
    h1 ρ1 H1 σ cls dd hl1 e.toExt0 (CelK.of e hn) hc x⟩
theorem rS_end {o : SO} {D : Ends} (h : (Res.ok o S).All (PostS Γ X W n0 ρ S H D) NoE) : PostS Γ X W n0 ρ S H D o S := h
variable {st : Stmt} {rest : List Stmt} {f g : EvF SO} {e : Expr} {fe : EvF D} {pos : Pos}
theorem y_nil : PSs X [] (rS Γ X W n0 fun v S => .ok (.nx v) S) := pss_nil.wk fun D σ H ⟨ρ, env, S, hl, hn, hc, h⟩ => (rS_end h) ρ H σ hl (Ext0.refl hl.h.wf) CelK.refl hc
abbrev eSeq (f g : EvF SO) : EvF SO := fun v S => (f v S).bind fun o S1 => match o with
  | .nx v' => g v' S1
  | o => .ok o S1
theorem y_cons (h1 : PS X st (rS Γ X W n0 f)) (h2 : PSs X rest (rS Γ X W n0 g)) : PSs X (st :: rest) (rS Γ X W n0 (eSeq f g)) := (pss_cons h1 h2).wk fun D σ H ⟨ρ, env, S, hl, hn, hc, h⟩ =>
  ⟨ρ, env, S, hl, hn, hc, h.bind.mono (fun o S1 q => by
    cases o with
    | nx v => exact fun ρ' H' σ' a b c d => ⟨ρ', v, S1, a, Nat.le_trans hn b.le, d, q.mono (fun _ _ p => p.ext b c) fun _ _ _ p => p⟩
    | bk v => exact q
    | ct v => exact q
    | rt d v => exact q
    | xc c fs v => exact q) fun _ _ _ p => p⟩
theorem y_pass : PS X (.Pass pos) (rS Γ X W n0 fun v S => .ok (.nx v) S) := ps_pass.wk fun D σ H ⟨ρ, env, S, hl, hn, hc, h⟩ => (rS_end h) ρ H σ hl (Ext0.refl hl.h.wf) CelK.refl hc
theorem y_brk : PS X (.Break pos) (rS Γ X W n0 fun v S => .ok (.bk v) S) := ps_break.wk fun D σ H ⟨ρ, env, S, hl, hn, hc, h⟩ => (rS_end h) ρ H σ hl (Ext0.refl hl.h.wf) CelK.refl hc
theorem y_cnt : PS X (.Continue pos) (rS Γ X W n0 fun v S => .ok (.ct v) S) := ps_continue.wk fun D σ H ⟨ρ, env, S, hl, hn, hc, h⟩ => (rS_end h) ρ H σ hl (Ext0.refl hl.h.wf) CelK.refl hc
theorem y_exp (he : PE X e (rd Γ X W fe)) (hs : swapsWith e none pos.line X.env = pure false) : PS X (.Expr e pos) (rS Γ X W n0 fun v S => (fe v S).st v fun _ S1 => .ok (.nx v) S1) := (ps_expr he hs).wk fun D σ H ⟨ρ, env, S, hl, hn, hc, h⟩ =>
  (rS_exp (f := fun _ v S => .ok (.nx v) S) hl hn hc h).mono fun b H1 ⟨ρ1, S1, a, hl1, e1, hn1, r, h1⟩ => (rS_end h1) ρ1 H1 σ hl1 (Ext0.refl hl1.h.wf) CelK.refl hc
theorem y_ret (he : PE X e (rd Γ X W fe)) : PS X (.Return (some e) pos) (rS Γ X W n0 fun v S => (fe v S).st v fun x S1 => .ok (.rt x v) S1) := (ps_ret he).wk fun D σ H ⟨ρ, env, S, hl, hn, hc, h⟩ =>
  (rS_exp (f := fun x v S => .ok (.rt x v) S) hl hn hc h).mono fun b H1 ⟨ρ1, S1, a, hl1, e1, hn1, r, h1⟩ => (rS_end h1) ρ1 H1 σ b hl1 (Ext0.refl hl1.h.wf) CelK.refl hc r
theorem y_retN : PS X (.Return none pos) (rS Γ X W n0 fun v S => .ok (.rt .non v) S) := ps_retN.wk fun D σ H ⟨ρ, env, S, hl, hn, hc, h⟩ => (rS_end h) ρ H σ .non hl (Ext0.refl hl.h.wf) CelK.refl hc rfl
abbrev eIfS (fc : EvF D) (f g : EvF SO) : EvF SO := fun v S => (fc v S).st v fun x S1 => match truth S1 x with
  | some true => f v S1
  | some false => g v S1
  | none => .fail
theorem st_bind {α β : Type} {v : Env} {k : α → St → Res β} {f : β → St → Res SO} : ∀ (r : Res α), (r.bind k).st v f = r.st v fun x S => (k x S).st v f
  | .ok x S => rfl
  | .exc c fs S => rfl
  | .draw n k' => congrArg (Res.draw n) (funext fun d => st_bind (k' d))
  | .fail => rfl
theorem eIf_tst (fc : EvF D) (f g : Env → St → Res SO) (v : Env) (S : St) : ((fc v S).st v fun x S1 => match truth S1 x with
  | some true => f v S1
  | some false => g v S1
  | none => .fail) = (tst fc v S).st v fun k S1 => match k with
    | true => f v S1
    | false => g v S1 := by
  show _ = (Res.bind (fc v S) _).st v _
  rw [st_bind]
  congr 1
  funext x S1
  cases truth S1 x with
  | none => rfl
  | some k => cases k <;> rfl
theorem y_if {c : Expr} {a b : List Stmt} {fc : EvF D} (hc : PT X c (rdB Γ X W (tst fc))) (ha : PSs X a (rS Γ X W n0 f)) (hb : PSs X b (rS Γ X W n0 g)) : PS X (.If c a b pos) (rS Γ X W n0 (eIfS fc f g)) := (ps_if hc ha hb).wk fun D σ H ⟨ρ, env, S, hl, hn, hce, h⟩ => by
  have h : ((fc env S).st env fun x S1 => match truth S1 x with
    | some true => f env S1
    | some false => g env S1
    | none => .fail).All (PostS Γ X W n0 ρ S H D) NoE := h
  rw [eIf_tst fc f g] at h
  refine (rS_exp (R := RB) (f := fun k v S1 => match k with
    | true => f v S1
    | false => g v S1) hl hn hce h).mono fun k H1 ⟨ρ1, S1, k', hl1, e1, hn1, r, h1⟩ => ?_
  have r : k' = k := r
  subst r
  cases k'
  · rw [if_neg (by decide)]
    exact ⟨ρ1, env, S1, hl1, hn1, hce, h1⟩
  · rw [if_pos rfl]
    exact ⟨ρ1, env, S1, hl1, hn1, hce, h1⟩
/-! ### while -/
abbrev eWhl (fc : EvF D) (fb : EvF SO) : Nat → EvF SO
  | 0, _, _ => .fail
  | n + 1, v, S => (fc v S).st v fun x S1 => match truth S1 x with
    | none => .fail
    | some false => .ok (.nx v) S1
    | some true => (fb v S1).bind fun o S2 => match o with
      | .nx v' => eWhl fc fb n v' S2
      | .ct v' => eWhl fc fb n v' S2
      | .bk v' => .ok (.nx v') S2
      | o => .ok o S2
theorem y_whl {c : Expr} {a : List Stmt} {fc : EvF D} (N : Nat) (hp : PassesOwn (model X.prog X.w) X.A X.env X.xe) (hc : PT X c (rdB Γ X W (tst fc))) (hb : PSs X a (rS Γ X W n0 f)) : PS X (.While c a [] pos) (rS Γ X W n0 (eWhl fc f N)) := (ps_while hp hc hb).wk fun D σ H h => by
  refine ⟨fun m σ H => rS Γ X W n0 (eWhl fc f m) D σ H, ⟨N, h⟩, fun m σ H ⟨ρ, env, S, hl, hn, hce, h⟩ => ?_⟩
  cases m with
  | zero => exact h.elim
  | succ m =>
    have e : eWhl fc f (m + 1) env S = (tst fc env S).st env fun k S1 => match k with
        | false => .ok (.nx env) S1
        | true => (f env S1).bind fun o S2 => match o with
          | .nx v' => eWhl fc f m v' S2
          | .ct v' => eWhl fc f m v' S2
          | .bk v' => .ok (.nx v') S2
          | o => .ok o S2 := by
      show _ = (Res.bind (fc env S) _).st env _
      rw [st_bind]
      show (fc env S).st env _ = (fc env S).st env _
      congr 1
      funext x S1
      cases truth S1 x with
      | none => rfl
      | some k => cases k <;> rfl
    rw [e] at h
    refine (rS_exp (R := RB) (f := fun k v S1 => match k with
        | false => .ok (.nx v) S1
        | true => (f v S1).bind fun o S2 => match o with
          | .nx v' => eWhl fc f m v' S2
          | .ct v' => eWhl fc f m v' S2
          | .bk v' => .ok (.nx v') S2
          | o => .ok o S2) hl hn hce h).mono fun k H1 ⟨ρ1, S1, k', hl1, e1, hn1, r, h1⟩ => ?_
    have r : k' = k := r
    subst r
    dsimp only at h1 ⊢
    cases k'
    · rw [if_neg (by decide)]
      exact (rS_end h1) ρ1 H1 σ hl1 (Ext0.refl hl1.h.wf) CelK.refl hce
    · rw [if_pos rfl]
      refine ⟨fun σ' H' => rS Γ X W n0 (eWhl fc f m) D σ' H', fun σ' H' q => ⟨m, Nat.lt_succ_self _, q⟩, ρ1, env, S1, hl1, hn1, hce, h1.bind.mono (fun o S2 q => ?_) fun _ _ _ p => p⟩
      cases o with
      | nx v => exact fun ρ' H' σ' a b c d => ⟨ρ', v, S2, a, Nat.le_trans hn1 b.le, d, q.mono (fun _ _ p => p.ext b c) fun _ _ _ p => p⟩
      | ct v => exact fun ρ' H' σ' a b c d => ⟨ρ', v, S2, a, Nat.le_trans hn1 b.le, d, q.mono (fun _ _ p => p.ext b c) fun _ _ _ p => p⟩
      | bk v => exact q
      | rt d v => exact q
      | xc c fs v => exact q
end
end
end Ev
end
section
set_option Elab.async false
set_option linter.all false
set_option maxRecDepth 100000
set_option maxHeartbeats 2000000
/-! ENUMERATE over a tuple. -/
namespace PySem
namespace EvK
open Sem (wp)
theorem meets_enum1 {v : Value} {o : Obj} {H : Heap → Prop} (B : Begins v o H) :
    Meets (Builtin.«enumerate.__new__» ⟨[.type "enumerate", v], []⟩) (fun _ R s => H s.heap ∧
      R (.ok (.ret (.ref (s.heap.push o).objs.size))) { s with heap := (s.heap.push o).push { cls := .type "enumerate", data := .fields #[.none, .bool false, .ref s.heap.objs.size, rawInt 0, .none, .none] } }) :=
  .of_wp fun prog w A R s h => by
    obtain ⟨hp, g, d, tk, os⟩ := s
    obtain ⟨h1, h⟩ := h
    have hsub := sub_enumerate
    have q1 : ∀ {A' : Around} {E : Value → Shared → Prop} {Q : Value → Shared → Prop}, Q (.ref hp.objs.size) ⟨hp.push o, g, d, tk, os⟩ → wpAny (model prog w) A' (pyIter v) Q E ⟨hp, g, d, tk, os⟩ :=
      fun q => B.iter prog w _ _ ⟨hp, g, d, tk, os⟩ _ h1 q
    wp_walk using q1
    refine wpAny_stack_any fun st => wpAny_pure ?_
    split
    · rename_i c _ _ _ _ _
      cases (c == Value.type "enumerate")
      · wp_walk using q1
        exact ⟨_, rfl, h⟩
      · wp_walk using q1
        exact ⟨_, rfl, h⟩
    · wp_walk using q1
      exact ⟨_, rfl, h⟩
theorem enum1 {prog : Program} {w : World} {A : Around} {E : Value → Shared → Prop} {s : Shared} {v : Value} {o : Obj} {H : Heap → Prop} {Q : Value → Shared → Prop} (B : Begins v o H) (h1 : H s.heap)
    (h : ∀ h2, IsEnum h2 (s.heap.objs.size + 1) s.heap.objs.size 0 .none → h2.get? s.heap.objs.size = some o → h2.objs.size = s.heap.objs.size + 2 → (∀ b u, s.heap.get? b = some u → h2.get? b = some u) → Q (.ref (s.heap.objs.size + 1)) { s with heap := h2 }) :
    wpAny (model prog w) A (call (.type "enumerate") [v]) Q E s := by
  refine callType_new F.called_enumerate (by decide) (F.typeCall_enumerate_1 _) (F.newCall_enumerate_1 _) (fun ob => F.args_object_init_2 ob _) F.entry_enumerate_new (meets_enum1 B) ⟨h1, ?_⟩
  have hz : (s.heap.push o).objs.size = s.heap.objs.size + 1 := Heap.size_push ..
  show _ ∧ _
  rw [hz]
  have he : IsEnum ((s.heap.push o).push { cls := .type "enumerate", data := .fields #[.none, .bool false, .ref s.heap.objs.size, rawInt 0, .none, .none] }) (s.heap.objs.size + 1) s.heap.objs.size 0 .none := by
    have q := Heap.get?_push_size (s.heap.push o) (o := { cls := .type "enumerate", data := .fields #[.none, .bool false, .ref s.heap.objs.size, rawInt 0, .none, .none] }) rfl
    rw [hz] at q
    exact q
  exact ⟨⟨_, he, rfl⟩, h _ he (Heap.get?_push_of_some _ (Heap.get?_push_size _ B.free)) (by rw [Heap.size_push, hz]) fun b u x => Heap.get?_push_of_some _ (Heap.get?_push_of_some _ x)⟩
end EvK
end PySem
namespace Ev
noncomputable section
open PySem PySem.Spec PyProof.Rows L2
/-- the tuple at a, each item in a new pair -/
def IteT (K : PySem.W.Frag) (a : Addr) : L2.It :=
  ⟨fun i H => ∃ (xs : List V) (x : V), SqT K H a xs ∧ xs[i]? = some x, fun i H v H' => ∃ T x, v = .ref T ∧ H T = none ∧ H' = upd H T (.tup [.int (i : Nat), x]) ∧ ∀ xs, SqT K H a xs → xs[i]? = some x, fun i H => ∃ xs : List V, SqT K H a xs ∧ xs.length = i⟩
theorem turn_enumT {P : Program} {w : World} {K : PySem.W.Frag} {elts : List Expr} {kk : Nat} {tpos : Pos} (a e it : Addr) :
    Turn P w K (.Tuple elts kk tpos) (IteT K a) [e, it] e (fun i h => (∃ old, IsEnum h e it ((i : Nat) : Int) old) ∧ h.IsTupleIter it a i ∧ e ≠ it ∧ e ≠ a ∧ a ≠ it) where
  mem := by simp
  obj := fun i h st b hb => by
    obtain ⟨⟨old, he⟩, ⟨o, ho, hc, hd⟩, _⟩ := st
    have eb : b = e ∨ b = it := by simpa using hb
    rcases eb with z | z
    · rw [z]; exact ⟨_, he, fun v q => (nomatch q)⟩
    · rw [z]; exact ⟨o, ho, fun v q => by rw [hd] at q; exact nomatch q⟩
  keep := fun i h h' st k => let ⟨⟨old, he⟩, hi, r⟩ := st; ⟨⟨old, k e (by simp) _ he⟩, hi.at fun o q => k it (by simp) o q, r⟩
  item := by
    intro X hP hw hK hc i pins s σ H E I hf st hg
    subst hP hw hK
    obtain ⟨⟨old, he⟩, hit, hne, hea, hai⟩ := st
    obtain ⟨xs, x, hq, hx⟩ := hg
    obtain ⟨its, rv, p, hz⟩ := I.tuple hq
    obtain ⟨u, hu, ru⟩ := rv.get hx
    have hel : e < s.heap.objs.size := Heap.lt_size he
    have hil : it < s.heap.objs.size := by obtain ⟨_, q, _⟩ := hit; exact Heap.lt_size q
    have D := Draws.tuple (prog := X.prog) (w := X.w) (A := X.A.in1) (I.ok.hd hc) it a hai its.toArray
    refine wpAny_pyNext_enum_itemD D he ⟨hit, p⟩ (by
      have := (List.getElem?_eq_some_iff.mp hu).1
      rw [List.size_toArray]; exact this) hne (by simp [hne, hea]) fun u2 h' tk hu2 ho hit' hT hsz hk => ?_
    have eu : u2 = u := by
      have q : its.toArray[i]? = some u2 := hu2
      rw [List.getElem?_toArray, hu] at q
      exact (Option.some.inj q).symm
    subst eu
    refine ⟨_, rfl, wpAny_letOwnedTupleGo_enum (s := { s with heap := h', toks := tk + 1 }) ho fun h2 he2 sb => ?_⟩
    have hT2 : h2.get? s.heap.objs.size = some { cls := .type "tuple", data := .seq #[.int i tk, u2] } := (sb.2 _ (Nat.ne_of_gt hel)).trans hT
    have new : ObjOk X.prog X.w (upd H s.heap.objs.size (.tup [.int (i : Nat), x])) h2 s.heap.objs.size (.tup [.int (i : Nat), x]) :=
      ⟨by show 2 ≤ sizeLine; decide, [.int i tk, u2], .cons ⟨_, rfl⟩ (.cons ru .nil), ⟨_, hT2, rfl, _, rfl⟩⟩
    have I1 : Inv X pins σ (upd H s.heap.objs.size (.tup [.int (i : Nat), x])) { s with heap := h2, toks := tk + 1 } :=
      I.turnedNew (ch := [e, it]) (fun b ob hb q => (sb.2 b (fun z => hb (by simp [z]))).trans (hk b ob (fun z => hb (by simp [z])) (fun z => hb (by simp [z])) q)) hf (Nat.le_refl _) new
    refine ⟨.ref s.heap.objs.size, _, I1, rfl, ⟨_, x, rfl, I.hok.fresh (Nat.le_refl _), rfl, fun ys hy => by rw [I.tuple_inj hy hq]; exact hx⟩, ⟨⟨u2, ?_⟩, hit'.1.at fun o q => (sb.2 it (Ne.symm hne)).trans q, hne, hea, hai⟩, fun b hb => ?_⟩
    · rw [show ((i + 1 : Nat) : Int) = (i : Int) + 1 from by omega]
      exact he2
    · have lb : b < s.heap.objs.size := by
        have eb : b = e ∨ b = it := by simpa using hb
        rcases eb with z | z
        · rw [z]; exact hel
        · rw [z]; exact hil
      rw [upd_ne (Nat.ne_of_lt lb)]
      exact (hf b hb).1
  done := by
    intro X hP hw hK hc i pins s σ H E I hf st hg
    subst hP hw hK
    obtain ⟨⟨old, he⟩, hit, hne, hea, hai⟩ := st
    obtain ⟨xs, hq, hx⟩ := hg
    obtain ⟨its, rv, p, hz⟩ := I.tuple hq
    obtain ⟨f0, f1, f2, f3, f4, f5⟩ := hf it (by simp)
    have hl := rv.length
    have D := Draws.tuple (prog := X.prog) (w := X.w) (A := X.A.in1) (I.ok.hd hc) it a hai its.toArray
    have hsz : its.toArray.size = i := by rw [List.size_toArray, ← hl]; exact hx
    exact wpAny_pyNext_enum_endD D he (by rw [hsz]; exact ⟨hit, p⟩) fun h2 eb => ⟨rfl, I.turned (t' := s.toks) (fun b o hb q => eb b o hb q) f0 f1 f3 f4 f5⟩
  self := fun A i s Q E st h => let ⟨⟨_, he⟩, _⟩ := st; wpAny_pyIter_enum he h
/-- enumerate of a list, of a tuple -/
def iEnumA (K : PySem.W.Frag) (ta : TA) : TI := fun σ H R => ta σ H fun vs H1 => ∃ a, vs = [.ref a] ∧ ((∃ xs, SqL K H1 a xs ∧ R (Ite K a) H1) ∨ ∃ xs, SqT K H1 a xs ∧ R (IteT K a) H1)
theorem pi_enumA {X : Cx} {e : Expr} {ta : TA} {p pos tpos : Pos} {elts : List Expr} {kk : Nat} (hg : L2.Gl X "enumerate") (hm : X.mg "enumerate" = none) (ha : PA X [e] ta) (hs : starEach [e] X.env = [(false, eval e X.env)]) :
    PI X (.Tuple elts kk tpos) (.Call (.Name "enumerate" p) [e] [] pos) (iEnumA X.K ta) := by
  refine ⟨fun pins s σ H R I h => ?_⟩
  refine Call_ (ld_blt I hg hm boot_enumerate (PyProof.Rows.callWith_type1 (thn (ha.run pos pins s σ H _ I h) fun us s1 ⟨vs, H1, I1, r1, a, ex, q1⟩ => ?_) hs rfl))
  subst ex
  cases r1 with
  | cons r rr =>
    cases rr
    cases r
    have young : ∀ b, b = s1.heap.objs.size + 1 ∨ b = s1.heap.objs.size → FpOk X pins H1 b := fun b eb => by
      have hle : s1.heap.objs.size ≤ b := by
        rcases eb with z | z
        · rw [z]; exact Nat.le_add_right _ _
        · rw [z]; exact Nat.le_refl _
      exact I1.fpOk hle (I1.hok.fresh hle)
    rcases q1 with ⟨xs, hq, q⟩ | ⟨xs, hq, q⟩
    · obtain ⟨its, rv, pl, hz⟩ := I1.list hq
      refine call_enumerate_list pl.isList fun h2 he hit hsz hk => wpAny_pyIter_enum he ?_
      exact ⟨s1.heap.objs.size + 1, [s1.heap.objs.size + 1, s1.heap.objs.size], _, _, H1, rfl, I1.kept (t' := s1.toks) hk, turn_enum a (s1.heap.objs.size + 1) s1.heap.objs.size, ⟨⟨.none, he⟩, hit, Nat.succ_ne_self _⟩, fun b hb => young b (by simpa using hb), q⟩
    · obtain ⟨its, rv, pl, hz⟩ := I1.tuple hq
      have la : a < s1.heap.objs.size := by obtain ⟨o, ho, _⟩ := pl; exact Heap.lt_size ho
      refine PySem.EvK.enum1 (begins_tuple a its.toArray) (show s1.heap.IsTuple a its.toArray from pl) fun h2 he hit hsz hk => wpAny_pyIter_enum he ?_
      exact ⟨s1.heap.objs.size + 1, [s1.heap.objs.size + 1, s1.heap.objs.size], _, _, H1, rfl, I1.kept (t' := s1.toks) hk, turn_enumT a (s1.heap.objs.size + 1) s1.heap.objs.size, ⟨⟨.none, he⟩, ⟨_, hit, rfl, rfl⟩, Nat.succ_ne_self _, Nat.ne_of_gt (Nat.lt_succ_of_lt la), Nat.ne_of_lt la⟩, fun b hb => young b (by simpa using hb), q⟩
end
end Ev
end
section
set_option Elab.async false
set_option linter.all false
set_option maxRecDepth 100000
set_option maxHeartbeats 2000000
namespace Ev
noncomputable section
open PySem PySem.Spec PyProof.Rows L2
section
variable (Γ : Gm) (X : Cx) (W : WX) (n0 : Nat)
/-- no more cells among the names -/
def flatSl : Sl → Bool
  | .no => true
  | .vl _ => true
  | _ => false
def CeSub (v env : Env) : Prop := ∀ (j : Nat) (s : Sl), v[j]? = some s → flatSl s = false → env[j]? = some s
/-- the slots but ts are as they were -/
def SgSub (ts : List Nat) (σ' σ : L2.St) : Prop := σ'.length = σ.length ∧ ∀ j, j ∉ ts → σ'[j]? = σ[j]?
/-- behind a store -/
def PostT (ts : List Nat) (ρ : Nat → Addr) (env : Env) (σ : L2.St) (S : St) (H : Hp) (Q : L2.St → Hp → Prop) : Env → St → Prop := fun v S' =>
  ∀ (ρ' : Nat → Addr) (H' : Hp) (σ' : L2.St), Rl Γ X ρ' v σ' S' H' → Ext0 ρ S H ρ' S' H' → CelK n0 S S' → CeSub v env → SgSub ts σ' σ → Q σ' H'
def rT (ts : List Nat) (f : D → EvF Env) : TG := fun val σ H Q => ∃ (ρ : Nat → Addr) (env : Env) (S : St) (d : D), Rl Γ X ρ env σ S H ∧ n0 ≤ S.n ∧ CeOk n0 env ∧ RD Γ ρ S.n H d val ∧ (f d env S).All (PostT Γ X n0 ts ρ env σ S H Q) (PostX Γ X W env σ ρ S H)
def rTs (ts : List Nat) (f : List D → EvF Env) : TGs := fun vals σ H Q => ∃ (ρ : Nat → Addr) (env : Env) (S : St) (ds : List D), Rl Γ X ρ env σ S H ∧ n0 ≤ S.n ∧ CeOk n0 env ∧ RDs Γ ρ S.n H ds vals ∧ (f ds env S).All (PostT Γ X n0 ts ρ env σ S H Q) NoE
end
section
variable {Γ : Gm} {X : Cx} {W : WX} {n0 : Nat} {ρ : Nat → Addr} {S : St} {H : Hp} {env : Env} {σ : L2.St}
theorem CeSub.refl {v : Env} : CeSub v v := fun _ _ h _ => h
theorem CeSub.trans {u v w : Env} (a : CeSub u v) (b : CeSub v w) : CeSub u w := fun j l h f => b j l (a j l h f) f
theorem CeOk.sub {v w : Env} (b : CeOk n0 w) (a : CeSub v w) : CeOk n0 v := fun j l h => b j l (a j _ h rfl)
theorem SgSub.refl {ts : List Nat} {σ : L2.St} : SgSub ts σ σ := ⟨rfl, fun _ _ => rfl⟩
theorem SgSub.trans {ts us : List Nat} {σ σ1 σ2 : L2.St} (a : SgSub ts σ1 σ) (b : SgSub us σ2 σ1) : SgSub (ts ++ us) σ2 σ := ⟨b.1.trans a.1, fun j h => (b.2 j fun z => h (List.mem_append_right _ z)).trans (a.2 j fun z => h (List.mem_append_left _ z))⟩
theorem set_get {α : Type} {xs : List α} {i j : Nat} {a : α} (h : j ≠ i) : (xs.set i a)[j]? = xs[j]? := by
  rw [List.getElem?_set]
  rw [if_neg (Ne.symm h)]
/-- a name is stored -/
theorem store_rl {i : Nat} {d : D} {val : V} {v' : Env} {S' : St} (R : Rl Γ X ρ env σ S H) (hn : n0 ≤ S.n) (hc : CeOk n0 env) (r : RD Γ ρ S.n H d val) (h : store env S i d = some (v', S')) :
    Rl Γ X ρ v' (σ.set i (some val)) S' H ∧ Ext0 ρ S H ρ S' H ∧ CelK n0 S S' ∧ CeSub v' env := by
  unfold store at h
  rw [nth_get] at h
  split at h
  · rename_i l e1
    split at h
    · rename_i od e2
      cases h
      have hl := (R.s.sl i _ e1).1
      have hil : i < σ.length := by
        have := (List.getElem?_eq_some_iff.mp e1).1
        rw [R.s.lenS, ← R.s.len]; exact this
      have ex : Ext0 ρ S H ρ (S.put l (.cel (some d))) H := ⟨Nat.le_refl _, fun _ _ => rfl, fun _ _ h _ => h, fun _ _ h _ _ => h, fun j o' _ e t => by
          rcases St.get_put e with ⟨a, b⟩ | ⟨a, b⟩
          · rw [b] at t; exact nomatch t
          · exact ⟨o', b, t⟩, fun j o' hj e _ => by
          rcases St.get_put e with ⟨a, b⟩ | ⟨a, b⟩
          · rw [a] at hj; exact absurd hl (Nat.not_lt.mpr hj)
          · exact absurd (R.h.wf _ _ b) (Nat.not_lt.mpr hj), fun _ h => h, fun j od' _ e => by
          rcases St.get_put e with ⟨a, b⟩ | ⟨a, b⟩
          · exact ⟨od, by rw [a]; exact e2⟩
          · exact ⟨od', b⟩, fun j od' hj e => by
          rcases St.get_put e with ⟨a, b⟩ | ⟨a, b⟩
          · rw [a] at hj; exact absurd hl (Nat.not_lt.mpr hj)
          · exact absurd (R.h.wf _ _ b) (Nat.not_lt.mpr hj)⟩
      refine ⟨⟨⟨fun j o hj => ?_, fun j j' o o' hj hj' t t' => ?_, R.h.tabs, fun j j' od1 od2 u n1 n2 h1 h2 h3 z => ?_⟩, ⟨R.s.len, by rw [List.length_set]; exact R.s.lenS, fun j s hj => ?_, R.s.cinj⟩⟩, ex, fun j od' hj e => ?_, CeSub.refl⟩
      · rcases St.get_put hj with ⟨a, b⟩ | ⟨a, b⟩
        · subst a b
          exact ⟨hl, .inl ⟨i, e1⟩⟩
        · have q := R.h.obj j o b
          exact ⟨q.1, q.2.ext0 ex q.1 fun _ _ h => h⟩
      · have w : ∀ j o, (S.put l (.cel (some d))).get j = some o → trk o = true → S.get j = some o := fun j o hj t => by
          rcases St.get_put hj with ⟨a, b⟩ | ⟨a, b⟩
          · rw [b] at t; exact nomatch t
          · exact b
        exact R.h.inj j j' o o' (w j o hj t) (w j' o' hj' t') t t'
      · have w : ∀ {j : Nat} {o1 : Option D}, (S.put l (.cel (some d))).get j = some (.cel o1) → ∃ o2, S.get j = some (.cel o2) := fun {j o1} hj => by
          rcases St.get_put hj with ⟨a, b⟩ | ⟨a, b⟩
          · exact ⟨od, by rw [a]; exact e2⟩
          · exact ⟨o1, b⟩
        obtain ⟨x1, y1⟩ := w h1
        obtain ⟨x2, y2⟩ := w h2
        exact R.h.injF j j' x1 x2 u n1 n2 y1 y2 h3 z
      · by_cases hji : j = i
        · subst hji
          rw [e1] at hj
          cases hj
          obtain ⟨a, b, c⟩ := R.s.sl j _ e1
          refine ⟨a, b, fun d' hd' => ?_⟩
          rcases St.get_put hd' with ⟨_, q⟩ | ⟨q, _⟩
          · cases q
            exact ⟨val, by rw [List.getElem?_set]; simp [hil], r⟩
          · exact absurd rfl q
        · have q := R.s.sl j s hj
          cases s with
          | no => trivial
          | vl d' =>
            obtain ⟨v, a, b⟩ := q
            exact ⟨v, by rw [set_get hji]; exact a, b⟩
          | ce l' =>
            obtain ⟨a, b, c⟩ := q
            refine ⟨a, b, fun d' hd' => ?_⟩
            rcases St.get_put hd' with ⟨z, _⟩ | ⟨_, z⟩
            · subst z
              exact absurd (R.s.cinj j i _ _ hj e1 rfl) hji
            · obtain ⟨v, x, y⟩ := c d' z
              exact ⟨v, by rw [set_get hji]; exact x, y⟩
          | ex c fs =>
            obtain ⟨v, a, b⟩ := q
            exact ⟨v, by rw [set_get hji]; exact a, b.ext0 ex⟩
      · rcases St.get_put e with ⟨a, b⟩ | ⟨a, b⟩
        · subst a
          exact absurd (hc i j e1) (Nat.not_le.mpr hj)
        · exact b
    · cases h
  · rename_i s e0 e1
    cases h
    rw [setN_set]
    have hil : i < env.length := (List.getElem?_eq_some_iff.mp e1).1
    have hiσ : i < σ.length := by rw [R.s.lenS, ← R.s.len]; exact hil
    have ce : ∀ (j : Nat) (s : Sl), (env.set i (Sl.vl d))[j]? = some s → flatSl s = false → j ≠ i ∧ env[j]? = some s := fun j s hj hf => by
      by_cases hji : j = i
      · subst hji
        rw [List.getElem?_set] at hj
        simp [hil] at hj
        subst hj
        exact nomatch hf
      · rw [set_get hji] at hj
        exact ⟨hji, hj⟩
    have cw : ∀ {a j : Nat}, env[a]? = some (Sl.ce j) → (env.set i (Sl.vl d))[a]? = some (Sl.ce j) := fun {a j} c => by
      by_cases h : a = i
      · subst h
        rw [e1] at c
        cases c
        exact absurd rfl (e0 _)
      · rw [set_get h]; exact c
    refine ⟨⟨⟨fun j o hj => ?_, R.h.inj, R.h.tabs, fun j j' od1 od2 u n1 n2 h1 => R.h.injF j j' od1 od2 u (fun a c => n1 a (cw c)) (fun a c => n2 a (cw c)) h1⟩, ⟨by rw [List.length_set]; exact R.s.len, by rw [List.length_set]; exact R.s.lenS, fun j s' hj => ?_, fun a b l l' ha hb => ?_⟩⟩, Ext0.refl R.h.wf, CelK.refl, fun j l hj hf => (ce j l hj hf).2⟩
    · have q := R.h.obj j o hj
      refine ⟨q.1, ?_⟩
      cases o with
      | cel od =>
        rcases q.2 with ⟨k, hk⟩ | q
        · refine .inl ⟨k, ?_⟩
          by_cases hki : k = i
          · subst hki
            rw [e1] at hk
            cases hk
            exact absurd rfl (e0 j)
          · rw [set_get hki]; exact hk
        · exact .inr q
      | _ => exact q.2
    · by_cases hji : j = i
      · subst hji
        rw [List.getElem?_set] at hj
        simp [hil] at hj
        subst hj
        exact ⟨val, by rw [List.getElem?_set]; simp [hiσ], r⟩
      · rw [set_get hji] at hj
        have q := R.s.sl j s' hj
        cases s' with
        | no => trivial
        | vl d' =>
          obtain ⟨v, a, b⟩ := q
          exact ⟨v, by rw [set_get hji]; exact a, b⟩
        | ce l' =>
          obtain ⟨a, b, c⟩ := q
          refine ⟨a, b, fun d' hd' => ?_⟩
          obtain ⟨v, x, y⟩ := c d' hd'
          exact ⟨v, by rw [set_get hji]; exact x, y⟩
        | ex c fs =>
          obtain ⟨v, a, b⟩ := q
          exact ⟨v, by rw [set_get hji]; exact a, b⟩
    · exact R.s.cinj a b l l' (ce a _ ha rfl).2 (ce b _ hb rfl).2
  · cases h

variable {pos : Pos} {x : Str}
abbrev eNm (i : Nat) : D → EvF Env := fun d v S => match store v S i d with
  | some (v', S') => .ok v' S'
  | none => .fail
theorem g_nm {i : Nat} (hN : X.N.Nodup) (hi : X.N[i]? = some x) (hx : Loc X.env.scope x) (hf : X.fn x = true ∨ X.env.scope.names.lookup x = some .local) : PG X (.Name x pos) (rT Γ X W n0 [i] (eNm i)) :=
  (pg_name hN hi hx hf).wk fun val σ H Q ⟨ρ, env, S, d, R, hn, hc, r, h⟩ => by
    dsimp only [eNm] at h
    split at h
    · rename_i v' S' e
      obtain ⟨a, b, c, f⟩ := store_rl R hn hc r e
      exact h ρ H _ a b c f ⟨List.length_set, fun j hj => set_get fun z => hj (List.mem_singleton.mpr z)⟩
    · exact h.elim
abbrev eTsNil : List D → EvF Env := fun ds v S => match ds with
  | [] => .ok v S
  | _ => .fail
abbrev eTsCons (f : D → EvF Env) (fs : List D → EvF Env) : List D → EvF Env := fun ds v S => match ds with
  | d :: r => (f d v S).bind fun v' S' => fs r v' S'
  | [] => .fail
theorem RDs.nil_of {ρ : Nat → Addr} {n : Nat} {H : Hp} : ∀ {vs : List V}, RDs Γ ρ n H [] vs → vs = [] := fun h => h
/-- no exception -/
def Calm (f : D → EvF Env) : Prop := ∀ d v S c fs S', f d v S ≠ .exc c fs S'
theorem gs_nil : PGs X [] (rTs Γ X n0 [] eTsNil) := ⟨fun pins s σ H vs us Q I r ⟨ρ, env, S, ds, R, hn, hc, rs, h⟩ => by
  dsimp only [eTsNil] at h
  split at h
  · have e := rs.nil_of
    subst e
    exact pgs_nil.run pins s σ H [] us Q I r ⟨rfl, h ρ H σ R (Ext0.refl R.h.wf) CelK.refl CeSub.refl SgSub.refl⟩
  · exact h.elim⟩
theorem PostT.ext {Q : L2.St → Hp → Prop} {ts us : List Nat} {ρ1 : Nat → Addr} {env1 : Env} {σ1 : L2.St} {S1 : St} {H1 : Hp} (e : Ext0 ρ S H ρ1 S1 H1) (c : CelK n0 S S1) (ce : CeSub env1 env) (sg : SgSub ts σ1 σ) {v : Env} {S' : St} (h : PostT Γ X n0 (ts ++ us) ρ env σ S H Q v S') : PostT Γ X n0 us ρ1 env1 σ1 S1 H1 Q v S' :=
  fun ρ' H' σ' a b d f g => h ρ' H' σ' a (e.trans b) (c.trans d (Nat.le_refl _)) (f.trans ce) (sg.trans g)
theorem gs_cons {ts us : List Nat} {e : Expr} {es : List Expr} {f : D → EvF Env} {fs : List D → EvF Env} (h1 : PG X e (rT Γ X W n0 ts f)) (h2 : PGs X es (rTs Γ X n0 us fs)) (hs : (assignEach (e :: es) X.env).map (·.2) = assign e X.env :: (assignEach es X.env).map (·.2)) :
    PGs X (e :: es) (rTs Γ X n0 (ts ++ us) (eTsCons f fs)) := ⟨fun pins s σ H vs us Q I r ⟨ρ, env, S, ds, R, hn, hc, rs, h⟩ => by
  dsimp only [eTsCons] at h
  split at h
  · rename_i d ds'
    unfold RDs at rs
    obtain ⟨y, t, rfl, r1, r2⟩ := rs
    refine (pgs_cons h1 h2 hs).run pins s σ H _ us Q I r ⟨y, t, rfl, ρ, env, S, d, R, hn, hc, r1, h.bind.mono (fun v' S' q ρ' H' σ' a b c g g2 => ?_) fun _ _ _ z => z.elim⟩
    exact ⟨ρ', v', S', ds', a, Nat.le_trans hn b.le, hc.sub g, r2.ext0 b, q.mono (fun _ _ p => p.ext b c g g2) fun _ _ _ p => p⟩
  · exact h.elim⟩
abbrev eTp (fs : List D → EvF Env) : D → EvF Env := fun d v S => match items S d with
  | some xs => fs xs v S
  | none => .fail
theorem each_len {env : PySem.Env} : ∀ es : List Expr, (assignEach es env).length = es.length
  | [] => rfl
  | e :: es => by
    cases e <;> (show (assignEach es env).length + 1 = es.length + 1; rw [each_len es])
theorem each_star {env : PySem.Env} : ∀ {es : List Expr}, noStar es = true → (assignEach es env).findIdx? (·.1) = none
  | [], _ => rfl
  | e :: es, h => by
    obtain ⟨h1, h2⟩ := noStar_tail h
    have ih := each_star (env := env) h1
    have : assignEach (e :: es) env = (false, assign e env) :: assignEach es env := by
      cases e <;> first | rfl | exact absurd rfl (h2 _ _)
    rw [this, List.findIdx?_cons, ih]; rfl
theorem each_cons {env : PySem.Env} {e : Expr} {es : List Expr} (h : ∀ y q, e ≠ .Starred y q) : (assignEach (e :: es) env).map (·.2) = assign e env :: (assignEach es env).map (·.2) := by
  cases e <;> first | rfl | exact absurd rfl (h _ _)
theorem g_tp {ts : List Nat} {es : List Expr} {k : Nat} {fs : List D → EvF Env} (hc : X.calm = true) (h : PGs X es (rTs Γ X n0 ts fs)) (hst : noStar es = true) (hfs : ∀ ds v S, ds.length ≠ es.length → ∀ P E, ¬ (fs ds v S).All P E)
    (hno : ∀ ds v S P E, (fs ds v S).All P E → (fs ds v S).All P NoE) : PG X (.Tuple es k pos) (rT Γ X W n0 ts (eTp fs)) := ⟨fun pins s σ H val u Q I r ⟨ρ, env, S, d, R, hn, hce, rd, g⟩ => by
  dsimp only [eTp] at g
  split at g
  · rename_i xs e
    obtain ⟨hz, a, ys, rfl, rs, hd⟩ := items_at R.h e rd
    have hl : ys.length = es.length := by
      rw [rs.len]
      by_cases q : xs.length = es.length
      · exact q
      · exact absurd g (hfs xs env S q _ _)
    have g' := hno _ _ _ _ _ g
    rcases hd with ⟨hd, _⟩ | ⟨hd, _⟩
    · exact (pg_unl hc h (each_len es) (each_star hst)).run pins s σ H _ u Q I r ⟨a, ys, rfl, SqL.of hd, hl, ρ, env, S, xs, R, hn, hce, rs, g'⟩
    · exact (pg_tup hc h (each_len es) (each_star hst)).run pins s σ H _ u Q I r ⟨a, ys, rfl, SqT.of hd, hl, ρ, env, S, xs, R, hn, hce, rs, g'⟩
  · exact g.elim⟩
abbrev eSb (G : Pg) (fo fi : EvF D) : D → EvF Env := fun d v S => (fo v S).bind fun x S1 => (fi v S1).bind fun y S2 => (prim G .setIdx [x, y, d] S2).bind fun _ S3 => .ok v S3
theorem g_sb {o i : Expr} {fo fi : EvF D} (hu : X.A.units + 100 < cLine) (ho : PE X o (rd Γ X W fo)) (hi : PE X i (rd Γ X W fi)) (ha : ∀ v, assign (.Subscript o i pos) X.env v = (do
      let ov ← holding [v] (eval o X.env)
      let iv ← holding [v, ov] (eval i X.env)
      standAt pos
      holding [v, ov, iv] (setItem ov iv v)
      release [v, ov, iv] [])) : PG X (.Subscript o i pos) (rT Γ X W n0 [] (eSb Γ.G fo fi)) := (pg_sub ho hi (s_set (Γ := Γ) (W := W) hu) ha).wk fun val σ H Q ⟨ρ, env, S, d, R, hn, hc, r, h⟩ => by
  refine ⟨ρ, env, S, R, h.bind.mono (fun x S1 h1 ρ1 H1 xv R1 e1 r1 => ?_) fun _ _ _ z => z⟩
  refine ⟨ρ1, env, S1, R1, h1.bind.mono (fun y S2 h2 ρ2 H2 yv R2 e2 r2 => ?_) fun c fs S2 z ρ2 H2 cls dd R2 e2 x => z ρ2 H2 cls dd R2 (e1.trans R.h.wf R1.h.wf e2) x⟩
  have e12 := e1.trans R.h.wf R1.h.wf e2
  refine ⟨ρ2, env, σ, S2, [x, y, d], R2, RDs.cons (r1.ext e2) (RDs.cons r2 (RDs.cons (r.ext e12) rfl)), h2.bind.mono (fun z S3 h3 ρ3 H3 zv R3 e3 r3 ez => ?_) fun c fs S3 z ρ3 H3 cls dd R3 e3 x => z ρ3 H3 cls dd R3 (e12.trans R.h.wf R2.h.wf e3) x⟩
  have e123 := e12.trans R.h.wf R2.h.wf e3
  exact h3 ρ3 H3 σ R3 e123.toExt0 (CelK.of e123 hn) CeSub.refl SgSub.refl
/-! ### assignments -/
abbrev eAsg (fe : EvF D) (f : D → EvF Env) : EvF SO := fun v S => (fe v S).st v fun x S1 => (f x v S1).st v fun v' S2 => .ok (.nx v') S2
variable {e tg : Expr} {fe : EvF D} {f : D → EvF Env} {ts : List Nat}
theorem y_asg (he : PE X e (rd Γ X W fe)) (hg : PG X tg (rT Γ X W n0 ts f)) (hs : swapsWithSole [tg] e pos.line X.env = pure false) (hw : swappedStores [tg] e X.env = pure none) (h1 : (assignEach [tg] X.env).map (·.2) = [assign tg X.env]) :
    PS X (.Assign [tg] e pos) (rS Γ X W n0 (eAsg fe f)) := (ps_asg he hg hs hw h1).wk fun D σ H ⟨ρ, env, S, hl, hn, hc, h⟩ =>
  (rS_exp (f := fun x v S1 => (f x v S1).st v fun v' S2 => .ok (.nx v') S2) hl hn hc h).mono fun b H1 ⟨ρ1, S1, a, hl1, e1, hn1, r, h1⟩ =>
    ⟨ρ1, env, S1, a, hl1, hn1, hc, r, h1.st.mono (fun v' S2 q ρ2 H2 σ2 a b c d _ => q ρ2 H2 σ2 a b c (hc.sub d)) fun c fs S2 q ρ2 H2 cls dd hl2 e2 x => q ρ2 H2 σ cls dd hl2 e2.toExt0 (CelK.of e2 hn1) hc x⟩
/-! ### for -/
section
variable (K : PySem.W.Frag)
/-- what is walked, at the turn i -/
def IR (ρ : Nat → Addr) (n : Nat) (H : Hp) (t : Ev.It) (J : L2.It) (i : Nat) : Prop := match t with
  | .seq xs => ∃ a ys, J = Itt K a ∧ H a = some (.tup ys) ∧ RDs Γ ρ n H xs (ys.drop i) ∧ i ≤ ys.length
  | .lst l k => k = i ∧ l < n ∧ J = Itl K (ρ l)
  | .rng lo m => ∃ lo0 m0, J = Itr lo0 m0 ∧ lo = lo0 + (i : Nat) ∧ m0 = i + m
  | .stp lo c m => ∃ lo0 m0, J = Itc lo0 c m0 ∧ lo = lo0 + (i : Nat) * c ∧ m0 = i + m
  | .enm j t => j = i ∧ match t with
    | .seq xs => ∃ a ys, J = IteT K a ∧ H a = some (.tup ys) ∧ RDs Γ ρ n H xs (ys.drop i) ∧ i ≤ ys.length
    | .lst l k => k = i ∧ l < n ∧ J = Ite K (ρ l)
    | _ => False
  | .zip t u => match t, u with
    | .seq xs, .seq xs' => ∃ a b ys ys', J = RZ.ItzT K a b ∧ H a = some (.tup ys) ∧ RDs Γ ρ n H xs (ys.drop i) ∧ i ≤ ys.length ∧ H b = some (.tup ys') ∧ RDs Γ ρ n H xs' (ys'.drop i) ∧ i ≤ ys'.length
    | .lst l k, .lst l' k' => k = i ∧ l < n ∧ k' = i ∧ l' < n ∧ J = Itz K (ρ l) (ρ l')
    | _, _ => False
abbrev IR0 : RelT Ev.It L2.It := fun ρ n H t J => IR (Γ := Γ) K ρ n H t J 0
end
theorem IR.extW {K : PySem.W.Frag} {ρ' : Nat → Addr} {S' : St} {H' : Hp} (e : ExtW ρ S H ρ' S' H') {t : Ev.It} {J : L2.It} {i : Nat} (h : IR (Γ := Γ) K ρ S.n H t J i) : IR (Γ := Γ) K ρ' S'.n H' t J i := by
  cases t with
  | seq xs =>
    obtain ⟨a, ys, h1, h2, h3, h4⟩ := h
    exact ⟨a, ys, h1, e.keep _ _ h2 rfl, h3.extW e, h4⟩
  | lst l k =>
    obtain ⟨h1, h2, h3⟩ := h
    exact ⟨h1, Nat.lt_of_lt_of_le h2 e.le, by rw [e.ag l h2]; exact h3⟩
  | rng lo m => exact h
  | stp _ _ _ => exact h
  | enm j t =>
    cases t with
    | seq xs =>
      obtain ⟨h0, a, ys, h1, h2, h3, h4⟩ := h
      exact ⟨h0, a, ys, h1, e.keep _ _ h2 rfl, h3.extW e, h4⟩
    | lst l k =>
      obtain ⟨h0, h1, h2, h3⟩ := h
      exact ⟨h0, h1, Nat.lt_of_lt_of_le h2 e.le, by rw [e.ag l h2]; exact h3⟩
    | rng _ _ => exact h
    | stp _ _ _ => exact h
    | enm _ _ => exact h
    | zip _ _ => exact h
  | zip t u =>
    cases t with
    | seq xs =>
      cases u with
      | seq xs' =>
        obtain ⟨a, b, ys, ys', h1, h2, h3, h4, h5, h6, h7⟩ := h
        exact ⟨a, b, ys, ys', h1, e.keep _ _ h2 rfl, h3.extW e, h4, e.keep _ _ h5 rfl, h6.extW e, h7⟩
      | lst _ _ => exact h
      | rng _ _ => exact h
      | stp _ _ _ => exact h
      | enm _ _ => exact h
      | zip _ _ => exact h
    | lst l k =>
      cases u with
      | lst l' k' =>
        obtain ⟨h1, h2, h3, h4, h5⟩ := h
        exact ⟨h1, Nat.lt_of_lt_of_le h2 e.le, h3, Nat.lt_of_lt_of_le h4 e.le, by rw [e.ag l h2, e.ag l' h4]; exact h5⟩
      | seq _ => exact h
      | rng _ _ => exact h
      | stp _ _ _ => exact h
      | enm _ _ => exact h
      | zip _ _ => exact h
    | rng _ _ => exact h
    | stp _ _ _ => exact h
    | enm _ _ => exact h
    | zip _ _ => exact h
theorem IR.ext0 {K : PySem.W.Frag} {ρ' : Nat → Addr} {S' : St} {H' : Hp} (e : Ext0 ρ S H ρ' S' H') {t : Ev.It} {J : L2.It} {i : Nat} (h : IR (Γ := Γ) K ρ S.n H t J i) : IR (Γ := Γ) K ρ' S'.n H' t J i := h.extW e.w
theorem sqt_inj {K : PySem.W.Frag} {a : Addr} {xs ys : List V} (hK : K.lookup a = none) (h : H a = some (.tup xs)) (g : SqT K H a ys) : ys = xs := by
  rcases g with (g | ⟨o, g⟩) | ⟨o, its, n, g, _⟩
  · rw [h] at g; injection g with g; injection g with g; exact g.symm
  · rw [h] at g; injection g with g; cases g
  · rw [hK] at g; cases g
theorem sql_inj {K : PySem.W.Frag} {a : Addr} {xs ys : List V} (hK : K.lookup a = none) (h : H a = some (.lst xs)) (g : SqL K H a ys) : ys = xs := by
  rcases g with (g | ⟨o, g⟩) | ⟨o, its, n, g, _⟩
  · rw [h] at g; injection g with g; injection g with g; exact g.symm
  · rw [h] at g; injection g with g; cases g
  · rw [hK] at g; cases g
end
end
end Ev
end
section
set_option Elab.async false
set_option linter.all false
set_option maxRecDepth 100000
set_option maxHeartbeats 2000000
namespace Ev
noncomputable section
open PySem PySem.Spec PyProof.Rows L2
section
variable {Γ : Gm} {X : Cx} {W : WX} {n0 : Nat} {ρ : Nat → Addr} {S : St} {H : Hp} {env : Env} {σ : L2.St} {K : PySem.W.Frag} {pos : Pos}
theorem drop_nil {ys : List V} {i : Nat} (h : ys.drop i = []) (l : i ≤ ys.length) : ys.length = i := by
  have := congrArg List.length h
  rw [List.length_drop] at this
  simp at this
  omega
theorem drop_cons {ys r : List V} {y : V} {i : Nat} (e1 : ys.drop i = y :: r) : ys[i]? = some y ∧ ys.drop (i + 1) = r ∧ i + 1 ≤ ys.length := by
  have hi : ys[i]? = some y := by
    have := congrArg (fun l => l[0]?) e1
    rw [List.getElem?_drop] at this
    simpa using this
  refine ⟨hi, ?_, (List.getElem?_eq_some_iff.mp hi).1⟩
  have := congrArg (List.drop 1) e1
  rw [List.drop_drop] at this
  simpa using this
/-- a new pair is laid -/
theorem pair_laid {T : Addr} {d1 d2 : D} {v1 v2 : V} (R : Rl Γ X ρ env σ S H) (h : H T = none) (r1 : RD Γ ρ S.n H d1 v1) (r2 : RD Γ ρ S.n H d2 v2) : Rl Γ X ρ env σ S (upd H T (.tup [v1, v2])) ∧ Ext ρ S H ρ S (upd H T (.tup [v1, v2])) ∧ RD Γ ρ S.n (upd H T (.tup [v1, v2])) (.tup [d1, d2]) (.ref T) := by
  have e : Ext ρ S H ρ S (upd H T (.tup [v1, v2])) := Ext.lay R.h.wf h
  exact ⟨R.lay h, e, (by decide : 2 ≤ 100000), T, [v1, v2], rfl, upd_same, RDs.cons (r1.ext e) (RDs.cons (r2.ext e) RDs.nil)⟩
theorem next_lst {l k : Nat} {t : Ev.It} {d : D} (h : next S (.lst l k) = .yld d t) : ∃ xs, S.get l = some (.lst xs) ∧ xs[k]? = some d ∧ t = .lst l (k + 1) := by
  unfold next at h
  split at h
  · rename_i xs e
    split at h
    · rename_i z e2
      cases h
      rw [nth_get] at e2
      exact ⟨xs, e, e2, rfl⟩
    · cases h
  · cases h
theorem next_lst_end {l k : Nat} (h : next S (.lst l k) = .stop) : ∃ xs, S.get l = some (.lst xs) ∧ xs.length ≤ k := by
  unfold next at h
  split at h
  · rename_i xs e
    split at h
    · cases h
    · rename_i e2
      rw [nth_get] at e2
      exact ⟨xs, e, List.getElem?_eq_none_iff.mp e2⟩
  · cases h
theorem next_stop {t : Ev.It} {J : L2.It} {i : Nat} (R : Rl Γ X ρ env σ S H) (q : IR (Γ := Γ) K ρ S.n H t J i) (h : next S t = .stop) : J.stop i H := by
  cases t with
  | seq xs =>
    obtain ⟨a, ys, rfl, h2, h3, h4⟩ := q
    cases xs with
    | nil => exact ⟨ys, SqT.of h2, Nat.le_of_eq (drop_nil h3 h4)⟩
    | cons x xs => exact nomatch h
  | lst l k =>
    obtain ⟨rfl, h2, rfl⟩ := q
    obtain ⟨xs, e, hl⟩ := next_lst_end h
    obtain ⟨_, ys, hd, rs⟩ := lst_of R e
    exact ⟨ys, SqL.of hd, by rw [rs.len]; exact hl⟩
  | rng lo m =>
    obtain ⟨lo0, m0, rfl, h2, h3⟩ := q
    cases m with
    | zero => exact (show m0 ≤ i by omega)
    | succ m => exact nomatch h
  | stp lo c m =>
    obtain ⟨lo0, m0, rfl, h2, h3⟩ := q
    cases m with
    | zero => exact (show m0 ≤ i by omega)
    | succ m => exact nomatch h
  | enm j t =>
    unfold next at h
    obtain ⟨rfl, q⟩ := q
    cases t with
    | seq xs =>
      obtain ⟨a, ys, rfl, h2, h3, h4⟩ := q
      cases xs with
      | nil => exact ⟨ys, SqT.of h2, drop_nil h3 h4⟩
      | cons x xs => exact nomatch h
    | lst l k =>
      obtain ⟨rfl, h2, rfl⟩ := q
      split at h
      · cases h
      · obtain ⟨xs, e, hl⟩ := next_lst_end h
        obtain ⟨_, ys, hd, rs⟩ := lst_of R e
        exact ⟨ys, SqL.of hd, by rw [rs.len]; exact hl⟩
    | rng _ _ => exact q.elim
    | stp _ _ _ => exact q.elim
    | enm _ _ => exact q.elim
    | zip _ _ => exact q.elim
  | zip t u =>
    unfold next at h
    cases t with
    | seq xs =>
      cases u with
      | seq xs' =>
        obtain ⟨a, b, ys, ys', rfl, h2, h3, h4, h5, h6, h7⟩ := q
        refine ⟨ys, ys', SqT.of h2, SqT.of h5, ?_⟩
        cases xs with
        | nil => exact .inl (Nat.le_of_eq (drop_nil h3 h4))
        | cons x xs =>
          cases xs' with
          | nil => exact .inr (Nat.le_of_eq (drop_nil h6 h7))
          | cons y xs' => exact nomatch h
      | lst _ _ => exact q.elim
      | rng _ _ => exact q.elim
      | stp _ _ _ => exact q.elim
      | enm _ _ => exact q.elim
      | zip _ _ => exact q.elim
    | lst l k =>
      cases u with
      | lst l' k' =>
        obtain ⟨rfl, h1, h2, h3, rfl⟩ := q
        subst h2
        split at h
        · rename_i x t1 e1
          obtain ⟨xs, g1, _, _⟩ := next_lst e1
          obtain ⟨_, zs, gd, gs⟩ := lst_of R g1
          split at h
          · cases h
          · obtain ⟨ys, e, hl⟩ := next_lst_end h
            obtain ⟨_, ws, hd, rs⟩ := lst_of R e
            exact ⟨zs, ws, SqL.of gd, SqL.of hd, .inr (by rw [rs.len]; exact hl)⟩
        · exact nomatch h
        · rename_i e1
          obtain ⟨xs, g1, g2⟩ := next_lst_end e1
          obtain ⟨_, zs, gd, gs⟩ := lst_of R g1
          have : ∃ ys, S.get l' = some (.lst ys) := by
            cases e2 : next S (.lst l' _) with
            | bad => rw [e2] at h; exact nomatch h
            | stop => obtain ⟨ys, e, _⟩ := next_lst_end e2; exact ⟨ys, e⟩
            | yld y u => obtain ⟨ys, e, _⟩ := next_lst e2; exact ⟨ys, e⟩
          obtain ⟨ys, e⟩ := this
          obtain ⟨_, ws, hd, rs⟩ := lst_of R e
          exact ⟨zs, ws, SqL.of gd, SqL.of hd, .inl (by rw [gs.len]; exact g2)⟩
      | seq _ => exact q.elim
      | rng _ _ => exact q.elim
      | stp _ _ _ => exact q.elim
      | enm _ _ => exact q.elim
      | zip _ _ => exact q.elim
    | rng _ _ => exact q.elim
    | stp _ _ _ => exact q.elim
    | enm _ _ => exact q.elim
    | zip _ _ => exact q.elim
theorem next_yld {t t' : Ev.It} {J : L2.It} {i : Nat} {d : D} (R : Rl Γ X ρ env σ S H) (q : IR (Γ := Γ) K ρ S.n H t J i) (h : next S t = .yld d t') :
    J.go i H ∧ ∀ x H', J.yld i H x H' → Rl Γ X ρ env σ S H' ∧ Ext ρ S H ρ S H' ∧ RD Γ ρ S.n H' d x ∧ IR (Γ := Γ) K ρ S.n H' t' J (i + 1) := by
  cases t with
  | seq xs =>
    obtain ⟨a, ys, rfl, h2, h3, h4⟩ := q
    cases xs with
    | nil => exact nomatch h
    | cons x xs =>
      cases h
      unfold RDs at h3
      obtain ⟨y, r, e1, e2, e3⟩ := h3
      obtain ⟨hi, e4, e5⟩ := drop_cons e1
      refine ⟨⟨ys, y, SqT.of h2, hi⟩, fun v H' ⟨e, hv⟩ => ?_⟩
      subst e
      have ev := hv ys (SqT.of h2)
      rw [hi] at ev
      cases ev
      exact ⟨R, Ext.refl R.h.wf, e2, a, ys, rfl, h2, by rw [e4]; exact e3, e5⟩
  | lst l k =>
    obtain ⟨rfl, h2, rfl⟩ := q
    obtain ⟨xs, e, e2, rfl⟩ := next_lst h
    obtain ⟨_, ys, hd, rs⟩ := lst_of R e
    obtain ⟨v, ev, rv⟩ := rs.get (by rw [nth_get]; exact e2)
    refine ⟨⟨ys, v, SqL.of hd, ev⟩, fun x H' ⟨e, hv⟩ => ?_⟩
    subst e
    have ex := hv ys (SqL.of hd)
    rw [ev] at ex
    cases ex
    exact ⟨R, Ext.refl R.h.wf, rv, rfl, h2, rfl⟩
  | rng lo m =>
    obtain ⟨lo0, m0, rfl, h2, h3⟩ := q
    cases m with
    | zero => exact nomatch h
    | succ m =>
      cases h
      refine ⟨show i < m0 by omega, fun x H' ⟨e, ex⟩ => ?_⟩
      subst e ex
      refine ⟨R, Ext.refl R.h.wf, ?_, lo0, m0, rfl, ?_, by omega⟩
      · show V.int _ = V.int _
        rw [h2]
      · rw [h2]
        show lo0 + (i : Int) + 1 = lo0 + ((i + 1 : Nat) : Int)
        omega
  | stp lo c m =>
    obtain ⟨lo0, m0, rfl, h2, h3⟩ := q
    cases m with
    | zero => exact nomatch h
    | succ m =>
      cases h
      refine ⟨show i < m0 by omega, fun x H' ⟨e, ex⟩ => ?_⟩
      subst e ex
      refine ⟨R, Ext.refl R.h.wf, ?_, lo0, m0, rfl, ?_, by omega⟩
      · show V.int _ = V.int _
        rw [h2]
      · rw [h2]
        show lo0 + (i : Int) * c + c = lo0 + ((i + 1 : Nat) : Int) * c
        rw [Int.natCast_succ, Int.add_mul, Int.one_mul, Int.add_assoc]
  | enm j t =>
    unfold next at h
    obtain ⟨rfl, q⟩ := q
    cases t with
    | seq xs =>
      obtain ⟨a, ys, rfl, h2, h3, h4⟩ := q
      cases xs with
      | nil => exact nomatch h
      | cons x xs =>
        cases h
        unfold RDs at h3
        obtain ⟨y, r, e1, e2, e3⟩ := h3
        obtain ⟨hi, e4, e5⟩ := drop_cons e1
        refine ⟨⟨ys, y, SqT.of h2, hi⟩, fun v H' ⟨T, x1, ev, hT, e, hv⟩ => ?_⟩
        subst ev e
        have ex := hv ys (SqT.of h2)
        rw [hi] at ex
        cases ex
        obtain ⟨R1, x1, r1⟩ := pair_laid (d1 := .int (.ofNat j)) (v1 := .int (j : Nat)) R hT rfl e2
        exact ⟨R1, x1, r1, rfl, a, ys, rfl, x1.keep _ _ h2 rfl, by rw [e4]; exact e3.ext x1, e5⟩
    | lst l k =>
      obtain ⟨rfl, h2, rfl⟩ := q
      split at h
      · rename_i x u e1
        cases h
        obtain ⟨xs, e, e2, rfl⟩ := next_lst e1
        obtain ⟨_, ys, hd, rs⟩ := lst_of R e
        obtain ⟨v, ev, rv⟩ := rs.get (by rw [nth_get]; exact e2)
        refine ⟨⟨ys, v, SqL.of hd, ev⟩, fun w H' ⟨T, x1, ew, hT, e, hv⟩ => ?_⟩
        subst ew e
        have ex := hv ys (SqL.of hd)
        rw [ev] at ex
        cases ex
        obtain ⟨R1, x1, r1⟩ := pair_laid (d1 := .int (.ofNat k)) (v1 := .int (k : Nat)) R hT rfl rv
        exact ⟨R1, x1, r1, rfl, rfl, h2, rfl⟩
      · rename_i hne
        exact absurd h (hne _ _)
    | rng _ _ => exact q.elim
    | stp _ _ _ => exact q.elim
    | enm _ _ => exact q.elim
    | zip _ _ => exact q.elim
  | zip t u =>
    unfold next at h
    cases t with
    | seq xs =>
      cases u with
      | seq xs' =>
        obtain ⟨a, b, ys, ys', rfl, h2, h3, h4, h5, h6, h7⟩ := q
        cases xs with
        | nil =>
          cases xs' with
          | nil => exact nomatch h
          | cons _ _ => exact nomatch h
        | cons x xs =>
          cases xs' with
          | nil => exact nomatch h
          | cons x' xs' =>
            cases h
            unfold RDs at h3 h6
            obtain ⟨y, r, e1, e2, e3⟩ := h3
            obtain ⟨hi, e4, e5⟩ := drop_cons e1
            obtain ⟨y', r', e1', e2', e3'⟩ := h6
            obtain ⟨hi', e4', e5'⟩ := drop_cons e1'
            refine ⟨⟨ys, ys', y, y', SqT.of h2, SqT.of h5, hi, hi'⟩, fun v H' ⟨T, x1, x2, ev, hT, e, hv, hv'⟩ => ?_⟩
            subst ev e
            have ex := hv ys (SqT.of h2)
            rw [hi] at ex
            cases ex
            have ex := hv' ys' (SqT.of h5)
            rw [hi'] at ex
            cases ex
            obtain ⟨R1, x1, r1⟩ := pair_laid R hT e2 e2'
            exact ⟨R1, x1, r1, a, b, ys, ys', rfl, x1.keep _ _ h2 rfl, by rw [e4]; exact e3.ext x1, e5, x1.keep _ _ h5 rfl, by rw [e4']; exact e3'.ext x1, e5'⟩
      | lst _ _ => exact q.elim
      | rng _ _ => exact q.elim
      | stp _ _ _ => exact q.elim
      | enm _ _ => exact q.elim
      | zip _ _ => exact q.elim
    | lst l k =>
      cases u with
      | lst l' k' =>
        obtain ⟨rfl, h1, h2, h3, rfl⟩ := q
        subst h2
        split at h
        · rename_i x t1 e1
          obtain ⟨xs, g1, g2, rfl⟩ := next_lst e1
          obtain ⟨_, zs, gd, gs⟩ := lst_of R g1
          obtain ⟨v, ev, rv⟩ := gs.get (by rw [nth_get]; exact g2)
          split at h
          · rename_i y u1 e2
            cases h
            obtain ⟨ys, e, e3, rfl⟩ := next_lst e2
            obtain ⟨_, ws, hd, rs⟩ := lst_of R e
            obtain ⟨v', ev', rv'⟩ := rs.get (by rw [nth_get]; exact e3)
            refine ⟨⟨zs, ws, v, v', SqL.of gd, SqL.of hd, ev, ev'⟩, fun w H' ⟨T, x1, x2, ew, hT, e, hv, hv'⟩ => ?_⟩
            subst ew e
            have ex := hv zs (SqL.of gd)
            rw [ev] at ex
            cases ex
            have ex := hv' ws (SqL.of hd)
            rw [ev'] at ex
            cases ex
            obtain ⟨R1, x1, r1⟩ := pair_laid R hT rv rv'
            exact ⟨R1, x1, r1, rfl, h1, rfl, h3, rfl⟩
          · rename_i hne
            exact absurd h (hne _ _)
        · exact nomatch h
        · split at h <;> exact nomatch h
      | seq _ => exact q.elim
      | rng _ _ => exact q.elim
      | stp _ _ _ => exact q.elim
      | enm _ _ => exact q.elim
      | zip _ _ => exact q.elim
    | rng _ _ => exact q.elim
    | stp _ _ _ => exact q.elim
    | enm _ _ => exact q.elim
    | zip _ _ => exact q.elim
/-! ### for -/
abbrev eFor (f : D → EvF Env) (fb : EvF SO) : Nat → Ev.It → EvF SO
  | 0, _, _, _ => .fail
  | n + 1, i, v, S => match next S i with
    | .bad => .fail
    | .stop => .ok (.nx v) S
    | .yld d j => (f d v S).st v fun v1 S1 => (fb v1 S1).bind fun o S2 => match o with
      | .nx v' => eFor f fb n j v' S2
      | .ct v' => eFor f fb n j v' S2
      | .bk v' => .ok (.nx v') S2
      | o => .ok o S2
theorem y_for {ts : List Nat} {tg it : Expr} {a : List Stmt} {fi : EvF Ev.It} {f : D → EvF Env} {fb : EvF SO} (N : Nat) (hp : PassesOwn (model X.prog X.w) X.A X.env X.xe) (hc : X.calm = true) (hi : PI X tg it (rdG Γ X W (IR0 (Γ := Γ) K) fi)) (hg : PG X tg (rT Γ X W n0 ts f)) (hb : PSs X a (rS Γ X W n0 fb))
    (hs : ∀ x, foldedSetIterable it X.env x = pure x) : PS X (.For tg it a [] pos) (rS Γ X W n0 fun v S => (fi v S).st v fun i S1 => eFor f fb N i v S1) := (ps_for hp hc hi hg hb hs).wk fun D σ H ⟨ρ, env, S, hl, hn, hce, h⟩ => by
  refine (rS_exp (f := fun i v S1 => eFor f fb N i v S1) hl hn hce h).mono fun J H1 ⟨ρ1, S1, t, hl1, e1, hn1, q, h1⟩ => ?_
  refine ⟨fun i m σ H => ∃ (ρ : Nat → Addr) (env : Env) (S : St) (t : Ev.It), Rl Γ X ρ env σ S H ∧ n0 ≤ S.n ∧ CeOk n0 env ∧ IR (Γ := Γ) K ρ S.n H t J i ∧ (eFor f fb m t env S).All (PostS Γ X W n0 ρ S H D) NoE, ⟨N, ρ1, env, S1, t, hl1, hn1, hce, q, h1⟩, ?_⟩
  intro i m σ H ⟨ρ, env, S, t, hl, hn, hce, q, h⟩
  cases m with
  | zero => exact h.elim
  | succ m =>
    unfold eFor at h
    split at h
    · exact h.elim
    · rename_i e
      exact .inl ⟨next_stop hl q e, (rS_end h) ρ H σ hl (Ext0.refl hl.h.wf) CelK.refl hce⟩
    · rename_i d j e
      obtain ⟨go, yl⟩ := next_yld hl q e
      refine .inr ⟨go, fun σ' H' => ∃ (ρ : Nat → Addr) (env : Env) (S : St) (t : Ev.It), Rl Γ X ρ env σ' S H' ∧ n0 ≤ S.n ∧ CeOk n0 env ∧ IR (Γ := Γ) K ρ S.n H' t J (i + 1) ∧ (eFor f fb m t env S).All (PostS Γ X W n0 ρ S H' D) NoE,
        fun σ' H' w => ⟨m, Nat.lt_succ_self _, w⟩, fun x H' hy => ?_⟩
      obtain ⟨hl', ex, rx, q'⟩ := yl x H' hy
      refine ⟨ρ, env, S, d, hl', hn, hce, rx, h.st.mono (fun v1 S1 h1 ρ1 H1 σ1 R1 e1 c1 ce1 _ => ?_) fun c fs S1 z ρ1 H1 cls dd R1 e1 xr => ?_⟩
      · have e01 := ex.toExt0.trans e1
        refine ⟨ρ1, v1, S1, R1, Nat.le_trans hn e1.le, hce.sub ce1, h1.bind.mono (fun o S2 w => ?_) fun _ _ _ z => z⟩
        have c01 : CelK n0 S S1 := c1
        cases o with
        | nx v => exact fun ρ' H' σ' a b c d => ⟨ρ', v, S2, j, a, Nat.le_trans hn (Nat.le_trans e1.le b.le), d, (q'.ext0 e1).ext0 b, w.mono (fun _ _ p => p.ext (e01.trans b) (c01.trans c (Nat.le_refl _))) fun _ _ _ p => p⟩
        | ct v => exact fun ρ' H' σ' a b c d => ⟨ρ', v, S2, j, a, Nat.le_trans hn (Nat.le_trans e1.le b.le), d, (q'.ext0 e1).ext0 b, w.mono (fun _ _ p => p.ext (e01.trans b) (c01.trans c (Nat.le_refl _))) fun _ _ _ p => p⟩
        | bk v => exact PostS.ext e01 c01 w
        | rt d v => exact PostS.ext e01 c01 w
        | xc c fs v => exact PostS.ext e01 c01 w
      · exact z ρ1 H1 σ cls dd R1 (ex.toExt0.trans e1.toExt0) (CelK.of (ex.trans hl.h.wf hl'.h.wf e1) hn) hce xr
/-! ### what is walked -/
/-- a list or a tuple, as it comes -/
theorem pi_sq {tg e : Expr} {te : TE} (he : PE X e te) : PI X tg e (fun σ H R => te σ H fun x H1 => (∃ a, x = .ref a ∧ (∃ xs, SqL X.K H1 a xs) ∧ R (Itl X.K a) H1) ∨ ∃ a, x = .ref a ∧ (∃ xs, SqT X.K H1 a xs) ∧ R (Itt X.K a) H1) := ⟨fun pins s σ H R I h => by
  refine thn (he.run pins s σ H _ I h) fun v s1 ⟨x, H1, I1, r1, q1⟩ => ?_
  have fin : ∀ (h' : Heap) (b : Addr), b ∈ [s1.heap.objs.size] → FpOk X pins H1 b := fun h' b hb => by
    obtain rfl := List.mem_singleton.mp hb
    exact I1.fpOk (Nat.le_refl _) (I1.hok.fresh (Nat.le_refl _))
  rcases q1 with ⟨a, rfl, ⟨xs, hq⟩, q⟩ | ⟨a, rfl, ⟨xs, hq⟩, q⟩
  · cases r1
    obtain ⟨its, rv, p, _⟩ := I1.list hq
    exact wpAny_pyIter_list p.isList ⟨_, [s1.heap.objs.size], _, _, H1, rfl, I1.kept (t' := s1.toks) (fun b o z => Heap.get?_push_of_some _ z), turn_list a _, ⟨_, Heap.get?_push_size _ rfl, rfl, rfl⟩, fin s1.heap, q⟩
  · cases r1
    obtain ⟨its, rv, p, _⟩ := I1.tuple hq
    exact wpAny_pyIter_tuple (show s1.heap.IsTuple a its.toArray from p) ⟨_, [s1.heap.objs.size], _, _, H1, rfl, I1.kept (t' := s1.toks) (fun b o z => Heap.get?_push_of_some _ z), turn_tuple a _, ⟨_, Heap.get?_push_size _ rfl, rfl, rfl⟩, fin s1.heap, q⟩⟩
abbrev iVal (fe : EvF D) : EvF Ev.It := fun v S => (fe v S).bind fun x S1 => match iter S1 x with
  | some t => .ok t S1
  | none => .fail
theorem iter_ir {d : D} {x : V} {t : Ev.It} (R : Rl Γ X ρ env σ S H) (h : iter S d = some t) (r : RD Γ ρ S.n H d x) : (∃ a, x = .ref a ∧ (∃ xs, SqL K H a xs) ∧ IR (Γ := Γ) K ρ S.n H t (Itl K a) 0) ∨ ∃ a, x = .ref a ∧ (∃ xs, SqT K H a xs) ∧ IR (Γ := Γ) K ρ S.n H t (Itt K a) 0 := by
  unfold iter at h
  split at h
  · cases h
    obtain ⟨_, a, ys, rfl, ha, rs⟩ := rd_tup r
    exact .inr ⟨a, rfl, ⟨ys, SqT.of ha⟩, a, ys, rfl, ha, by simpa using rs, Nat.zero_le _⟩
  · obtain ⟨hl, rfl⟩ := rd_ref r
    split at h
    · rename_i xs e
      cases h
      obtain ⟨_, ys, hd, rs⟩ := lst_of R e
      exact .inl ⟨_, rfl, ⟨ys, SqL.of hd⟩, rfl, hl, rfl⟩
    · cases h
  · cases h
theorem i_val {tg e : Expr} {fe : EvF D} (he : PE X e (rd Γ X W fe)) : PI X tg e (rdG Γ X W (IR0 (Γ := Γ) X.K) (iVal fe)) := (pi_sq he).wk fun σ H R h =>
  (rd_one h).mono fun x H1 ⟨ρ, env, S, a, hl, ra, h2⟩ => by
    split at h2
    · rename_i t et
      rcases iter_ir (K := X.K) hl et ra with ⟨c, rfl, hq, q⟩ | ⟨c, rfl, hq, q⟩
      · exact .inl ⟨c, rfl, hq, rd_end (R := IR0 (Γ := Γ) X.K) hl h2 q⟩
      · exact .inr ⟨c, rfl, hq, rd_end (R := IR0 (Γ := Γ) X.K) hl h2 q⟩
    · exact h2.elim
theorem small62_lt {i : Int} (h : small62 i = true) : -(2 ^ 62) ≤ i ∧ i < 2 ^ 62 := by
  cases i with
  | ofNat n =>
    have := Nat.le_of_ble_eq_true (show n.blt 4611686018427387904 = true from h)
    have h2 : (Int.ofNat n) = (n : Int) := rfl
    rw [h2]
    omega
  | negSucc n =>
    have := Nat.le_of_ble_eq_true (show n.blt 4611686018427387904 = true from h)
    omega
abbrev iRg1 (fa : EvF D) : EvF Ev.It := fun v S => (fa v S).bind fun x S1 => match x with
  | .int j => match small62 j with
    | true => .ok (.rng 0 j.toNat) S1
    | false => .fail
  | _ => .fail
theorem i_rng1 {tg a : Expr} {fa : EvF D} {p : Pos} (hg : L2.Gl X "range") (hm : X.mg "range" = none) (ha : PE X a (rd Γ X W fa)) (hst : noStar [a] = true) : PI X tg (.Call (.Name "range" p) [a] [] pos) (rdG Γ X W (IR0 (Γ := Γ) K) (iRg1 fa)) :=
  (pi_range1 hg hm (x_cons ha x_nil (noStar_tail hst).2) (by rw [star_off (noStar_tail hst).2]; rfl)).wk fun σ H R h => by
    obtain ⟨ρ, env, S, hl, h⟩ := h
    refine ⟨ρ, env, S, hl, Res.All.unbind (h.bind.mono (fun x S1 h1 => ?_) fun _ _ _ z => z)⟩
    intro ρ' H' vs R1 e1 rs
    obtain ⟨y, t, rfl, r1, r2⟩ := (show ∃ y r, vs = y :: r ∧ RD Γ ρ' S1.n H' x y ∧ RDs Γ ρ' S1.n H' [] r from rs)
    have r2 : t = [] := r2
    subst r2
    split at h1
    · rename_i j
      split at h1
      · rename_i hs
        obtain ⟨s1, s2⟩ := small62_lt hs
        cases rd_int r1
        exact ⟨j, rfl, s1, s2, h1 ρ' H' _ R1 e1 ⟨0, j.toNat, rfl, by simp, by omega⟩⟩
      · exact h1.elim
    · exact h1.elim
abbrev iRg2 (fa fb : EvF D) : EvF Ev.It := fun v S => (fa v S).bind fun x S1 => (fb v S1).bind fun y S2 => match x, y with
  | .int i, .int j => match small62 i && small62 j with
    | true => .ok (.rng i (j - i).toNat) S2
    | false => .fail
  | _, _ => .fail
theorem i_rng2 {tg a b : Expr} {fa fb : EvF D} {p : Pos} (hg : L2.Gl X "range") (hm : X.mg "range" = none) (ha : PE X a (rd Γ X W fa)) (hb : PE X b (rd Γ X W fb)) (hst : noStar [a, b] = true) : PI X tg (.Call (.Name "range" p) [a, b] [] pos) (rdG Γ X W (IR0 (Γ := Γ) K) (iRg2 fa fb)) := by
  obtain ⟨t1, t2⟩ := noStar_tail hst
  obtain ⟨t3, t4⟩ := noStar_tail t1
  refine (pi_range2 hg hm (x_cons ha (x_cons hb x_nil t4) t2) (by rw [star_off t2, star_off t4]; rfl) (by rw [star_off t4]; rfl)).wk fun σ H R h => ?_
  obtain ⟨ρ, env, S, hl, h⟩ := h
  refine ⟨ρ, env, S, hl, Res.All.unbind (h.bind.mono (fun x S1 h1 => Res.All.unbind (Res.All.unbind (h1.bind.mono (fun y S2 h2 => ?_) fun _ _ _ z => z))) fun _ _ _ z => z)⟩
  intro ρ' H' vs R1 e1 rs
  obtain ⟨u, t, rfl, r1, r2⟩ := (show ∃ z r, vs = z :: r ∧ RD Γ ρ' S2.n H' x z ∧ RDs Γ ρ' S2.n H' [y] r from rs)
  obtain ⟨w, t, rfl, r3, r4⟩ := (show ∃ z r, t = z :: r ∧ RD Γ ρ' S2.n H' y z ∧ RDs Γ ρ' S2.n H' [] r from r2)
  have r4 : t = [] := r4
  subst r4
  split at h2
  · rename_i i j
    split at h2
    · rename_i hs
      obtain ⟨q1, q2⟩ := Bool.and_eq_true_iff.mp hs
      obtain ⟨s1, s2⟩ := small62_lt q1
      obtain ⟨s3, s4⟩ := small62_lt q2
      cases rd_int r1
      cases rd_int r3
      exact ⟨i, j, rfl, ⟨s1, s2, s3, s4⟩, h2 ρ' H' _ R1 e1 ⟨i, (j - i).toNat, rfl, by simp, by omega⟩⟩
    · exact h2.elim
  · exact h2.elim
end
end
end Ev
end
section
set_option Elab.async false
set_option linter.all false
set_option maxRecDepth 100000
set_option maxHeartbeats 2000000
/-! LIST COMPREHENSIONS. -/
namespace Ev
noncomputable section
open PySem PySem.Spec PyProof.Rows L2
/-- plain names alone -/
def NoX (env : Env) : Prop := ∀ (j : Nat) (s : Sl), env[j]? = some s → flatSl s = true
section
variable {Γ : Gm} {X X' : Cx} {W : WX} {n0 : Nat} {ρ ρ0 : Nat → Addr} {S S0 : St} {H H0 : Hp} {env : Env} {σ : L2.St} {D : Addr} {xs : List Ev.D} {ys zs : List V}
theorem NoX.sub {v w : Env} (h : NoX w) (a : CeSub v w) : NoX v := fun j s hj => by
  cases hf : flatSl s with
  | true => rfl
  | false => exact hf.symm.trans (h j s (a j s hj hf))
theorem NoX.ceok {v : Env} (h : NoX v) : CeOk n0 v := fun j l hj => nomatch h j _ hj
/-- plain names mean the same in every context of the same names -/
theorem Rl.swap (R : Rl Γ X ρ env σ S H) (hf : NoX env) (hN : X'.N = X.N) : Rl Γ X' ρ env σ S H := by
  refine ⟨R.h, by rw [hN]; exact R.s.len, by rw [hN]; exact R.s.lenS, fun i s hi => ?_, R.s.cinj⟩
  have q := R.s.sl i s hi
  cases s with
  | no => trivial
  | vl d => exact q
  | ce l => exact nomatch hf i _ hi
  | ex c fs => exact nomatch hf i _ hi
theorem wOff (h : H D = some (.lst ys)) : ExtW ρ S H ρ S (upd H D (.lst zs)) := ⟨Nat.le_refl _, fun _ _ => rfl, fun a o ha hi => by
    rw [upd_ne fun z => ?_]
    · exact ha
    · rw [z, h] at ha; cases ha; exact nomatch hi⟩
/-- the names of before, in the state of now -/
theorem Rl.back {ρ' : Nat → Addr} {S' : St} {H' : Hp} {v' : Env} {σ' : L2.St} (R : Rl Γ X ρ env σ S H) (R' : Rl Γ X ρ' v' σ' S' H') (nv : NoX v') (e : Ext ρ S H ρ' S' H') : Rl Γ X ρ' env σ S' H' := by
  refine ⟨⟨fun l o ho => ?_, R'.h.inj, R'.h.tabs, fun l l' od od' u _ _ h1 => R'.h.injF l l' od od' u (fun i c => nomatch nv i _ c) (fun i c => nomatch nv i _ c) h1⟩, R.s.extW e.w e.cels⟩
  have q := R'.h.obj l o ho
  refine ⟨q.1, ?_⟩
  cases o with
  | cel od =>
    rcases q.2 with ⟨i, c⟩ | c
    · exact nomatch nv i _ c
    · exact .inr c
  | _ => exact q.2
/-- a list that the store does not know is written -/
theorem Rl.off (R : Rl Γ X ρ env σ S H) (h : H D = some (.lst ys)) (hk : ¬ Trk ρ S D) : Rl Γ X ρ env σ S (upd H D (.lst zs)) := by
  have e : ExtW ρ S H ρ S (upd H D (.lst zs)) := ⟨Nat.le_refl _, fun _ _ => rfl, fun a o ha hi => by
    rw [upd_ne fun z => ?_]
    · exact ha
    · rw [z, h] at ha; cases ha; exact nomatch hi⟩
  refine ⟨⟨fun l o ho => ⟨(R.h.obj l o ho).1, (R.h.obj l o ho).2.extW e (R.h.obj l o ho).1 (fun t u hu => ?_) fun _ u _ z => ?_⟩, R.h.inj, tabs_write R.h.tabs h (fun _ z => nomatch z) (fun _ _ z => nomatch z), fun l l' od od' u n1 n2 h1 h2 h3 => R.h.injF l l' od od' u n1 n2 h1 h2 (upd_frz (fun _ _ z => HO.noConfusion z) h3)⟩, R.s.extW e fun _ _ _ h => h⟩
  · rw [upd_ne fun z => hk ⟨l, o, ho, t, z⟩]
    exact hu
  · rw [upd_ne fun w => ?_]
    · exact z
    · rw [w, h] at z; exact nomatch z
/-- .. told from the start, where it was not there -/
theorem Ext0.off (e : Ext0 ρ0 S0 H0 ρ S H) (h : H0 D = none) {u : HO} : Ext0 ρ0 S0 H0 ρ S (upd H D u) :=
  ⟨e.le, e.ag, fun a o ha hi => by rw [upd_ne (ne_of_none ha h)]; exact e.keep a o ha hi, fun a o ha hi ht => by rw [upd_ne (ne_of_none ha h)]; exact e.fr a o ha hi ht, e.old, e.fresh, fun a z => e.dom a (NdefX.upd_none z), e.oldC, e.freshC⟩
/-- it becomes one of the store's -/
theorem Rl.adopt (R : Rl Γ X ρ env σ S H) (h : H D = some (.lst ys)) (hk : ¬ Trk ρ S D) (r : RDs Γ ρ S.n H xs ys) (hl : xs.length ≤ 100000) : Rl Γ X (rup ρ S.n D) env σ (S.new (.lst xs)) H := by
  have e : ExtW ρ S H (rup ρ S.n D) (S.new (.lst xs)) H := ⟨Nat.le_succ _, fun _ h => rup_lt h, fun _ _ h _ => h⟩
  refine ⟨⟨fun l o ho => ?_, fun l l' o o' ho ho' t t' z => ?_, R.h.tabs, fun l l' od od' u n1 n2 h1 h2 h3 z => ?_⟩, R.s.extW e fun l od hl ho => ?_⟩
  · rcases St.get_new ho with ⟨a, b⟩ | ⟨a, b⟩
    · subst a b
      exact ⟨Nat.lt_succ_self _, hl, ys, by rw [rup_same]; exact h, r.extW e⟩
    · have q := R.h.obj l o b
      exact ⟨Nat.lt_succ_of_lt q.1, q.2.extW e q.1 (fun _ _ h => h) fun _ _ _ h => h⟩
  · rcases St.get_new ho with ⟨a, b⟩ | ⟨a, b⟩
    · rcases St.get_new ho' with ⟨a', b'⟩ | ⟨a', b'⟩
      · exact a.trans a'.symm
      · rw [a, rup_same, rup_lt (R.h.wf _ _ b')] at z
        exact absurd ⟨l', o', b', t', z.symm⟩ hk
    · rcases St.get_new ho' with ⟨a', b'⟩ | ⟨a', b'⟩
      · rw [a', rup_same, rup_lt (R.h.wf _ _ b)] at z
        exact absurd ⟨l, o, b, t, z⟩ hk
      · rw [rup_lt (R.h.wf _ _ b), rup_lt (R.h.wf _ _ b')] at z
        exact R.h.inj l l' o o' b b' t t' z
  · rcases St.get_new h1 with ⟨a, b⟩ | ⟨a, b⟩
    · exact nomatch b
    · rcases St.get_new h2 with ⟨a', b'⟩ | ⟨a', b'⟩
      · exact nomatch b'
      · rw [rup_lt (R.h.wf _ _ b)] at h3 z
        rw [rup_lt (R.h.wf _ _ b')] at z
        exact R.h.injF l l' od od' u n1 n2 b b' h3 z
  · rcases St.get_new ho with ⟨a, b⟩ | ⟨a, b⟩
    · exact absurd a (Nat.ne_of_lt hl)
    · exact b
theorem Ext.adopt (wf : ∀ l o, S.get l = some o → l < S.n) (e : Ext ρ0 S0 H0 ρ S H) (h : H0 D = none) {x : O} : Ext ρ0 S0 H0 (rup ρ S.n D) (S.new x) H := by
  refine ⟨⟨Nat.le_succ_of_le e.le, fun l hl => (rup_lt (Nat.lt_of_lt_of_le hl e.le)).trans (e.ag l hl), e.keep, e.fr, fun l o hl ho t => ?_, fun l o hl ho t => ?_, e.dom, fun l od hl ho => ?_, fun l od hl ho => ?_⟩, fun l od hl ho => ?_⟩
  · rcases St.get_new ho with ⟨a, b⟩ | ⟨a, b⟩
    · exact absurd (Nat.lt_of_lt_of_le hl e.le) (by omega)
    · exact e.old l o hl b t
  · rcases St.get_new ho with ⟨a, b⟩ | ⟨a, b⟩
    · rw [a, rup_same]; exact h
    · rw [rup_lt (wf _ _ b)]
      exact e.fresh l o hl b t
  · rcases St.get_new ho with ⟨a, b⟩ | ⟨a, b⟩
    · exact absurd (Nat.lt_of_lt_of_le hl e.le) (by omega)
    · exact e.oldC l od hl b
  · rcases St.get_new ho with ⟨a, b⟩ | ⟨a, b⟩
    · rw [a, rup_same]; exact h
    · rw [rup_lt (wf _ _ b)]
      exact e.freshC l od hl b
  · rcases St.get_new ho with ⟨a, b⟩ | ⟨a, b⟩
    · exact absurd (Nat.lt_of_lt_of_le hl e.le) (by omega)
    · exact e.cels l od hl b
/-! ### the block's names -/
theorem snap_n : ∀ (env : Env) (S : St), (snap env S).2.n = S.n
  | [], S => rfl
  | s :: r, S => by
    rw [snap_cons]
    have ih := snap_n r S
    cases s with
    | ce l =>
      dsimp only
      split <;> exact ih
    | _ => exact ih
theorem snap_len : ∀ (env : Env) (S : St), (snap env S).1.length = env.length
  | [], S => rfl
  | s :: r, S => by
    rw [snap_cons]
    have ih := snap_len r S
    cases s with
    | ce l =>
      dsimp only
      split <;> exact congrArg (· + 1) ih
    | _ => exact congrArg (· + 1) ih
theorem snap_get : ∀ (env : Env) (S : St) (j : Nat) (o : O), (snap env S).2.get j = some o → (o = .hid ∧ ∃ i : Nat, env[i]? = some (Sl.ce j)) ∨ (S.get j = some o ∧ ∀ i : Nat, env[i]? ≠ some (Sl.ce j))
  | [], S, j, o, h => .inr ⟨h, fun i => by simp⟩
  | s :: r, S, j, o, h => by
    have ih := snap_get r S j
    have up : ∀ {P : Prop}, (∃ i : Nat, r[i]? = some (Sl.ce j)) → ∃ i : Nat, (s :: r)[i]? = some (Sl.ce j) := fun ⟨i, hi⟩ => ⟨i + 1, by simpa using hi⟩
    have keep : (∀ l, s ≠ .ce l) → (snap r S).2.get j = some o → (o = .hid ∧ ∃ i : Nat, (s :: r)[i]? = some (Sl.ce j)) ∨ (S.get j = some o ∧ ∀ i : Nat, (s :: r)[i]? ≠ some (Sl.ce j)) := fun hs h => by
      rcases ih o h with ⟨a, b⟩ | ⟨a, b⟩
      · exact .inl ⟨a, up (P := True) b⟩
      · refine .inr ⟨a, fun i hi => ?_⟩
        cases i with
        | zero => exact hs j (by simpa using hi)
        | succ i => exact b i (by simpa using hi)
    rw [snap_cons] at h
    cases s with
    | ce l =>
      dsimp only at h
      have h : ((snap r S).2.put l .hid).get j = some o := by split at h <;> exact h
      rcases St.get_put h with ⟨a, b⟩ | ⟨a, b⟩
      · exact .inl ⟨b, 0, by rw [a]; rfl⟩
      · rcases ih o b with ⟨c, d⟩ | ⟨c, d⟩
        · exact .inl ⟨c, up (P := True) d⟩
        · refine .inr ⟨c, fun i hi => ?_⟩
          cases i with
          | zero =>
            have : Sl.ce l = Sl.ce j := by simpa using hi
            cases this
            exact a rfl
          | succ i => exact d i (by simpa using hi)
    | no => exact keep (fun _ => nofun) h
    | vl d => exact keep (fun _ => nofun) h
    | ex c fs => exact keep (fun _ => nofun) h
theorem snap_sl : ∀ (env : Env) (S : St) (i : Nat) (s : Sl), (snap env S).1[i]? = some s → s = .no ∨ ∃ d, s = .vl d ∧ (env[i]? = some (.vl d) ∨ ∃ l, env[i]? = some (Sl.ce l) ∧ S.get l = some (.cel (some d)))
  | [], S, i, s, h => by simp [snap] at h
  | t :: r, S, i, s, h => by
    have ih := snap_sl r S
    rw [snap_cons] at h
    cases i with
    | zero =>
      cases t with
      | no => exact .inl (by simpa using h.symm)
      | vl d => exact .inr ⟨d, by simpa using h.symm, .inl rfl⟩
      | ex c fs => exact .inl (by simpa using h.symm)
      | ce l =>
        dsimp only at h
        split at h
        · rename_i d e
          exact .inr ⟨d, by simpa using h.symm, .inr ⟨l, rfl, e⟩⟩
        · exact .inl (by simpa using h.symm)
    | succ i =>
      have h : (snap r S).1[i]? = some s := by
        cases t with
        | ce l =>
          dsimp only at h
          split at h <;> simpa using h
        | _ => simpa using h
      rcases ih i s h with a | ⟨d, a, b⟩
      · exact .inl a
      · exact .inr ⟨d, a, by simpa using b⟩
theorem wipeE_len (v : Env) : ∀ is : List Nat, (wipeE v is).length = v.length
  | [] => rfl
  | i :: r => by
    rw [wipeE_cons]
    rw [setN_set, List.length_set, wipeE_len v r]
theorem wipeE_get (v : Env) : ∀ (is : List Nat) (j : Nat) (s : Sl), (wipeE v is)[j]? = some s → s = .no ∨ (j ∉ is ∧ v[j]? = some s)
  | [], j, s, h => .inr ⟨by simp, h⟩
  | i :: r, j, s, h => by
    rw [wipeE_cons] at h
    rw [setN_set] at h
    by_cases e : j = i
    · subst e
      rw [List.getElem?_set] at h
      by_cases q : j < (wipeE v r).length
      · simp [q] at h
        exact .inl h.symm
      · simp [q] at h
    · rw [set_get e] at h
      rcases wipeE_get v r j s h with a | ⟨a, b⟩
      · exact .inl a
      · exact .inr ⟨by simp [e, a], b⟩
theorem snap_rl (R : Rl Γ X ρ env σ S H) (own : List Nat) : Rl Γ X ρ (wipeE (snap env S).1 own) (wipe σ own) (snap env S).2 H ∧ NoX (wipeE (snap env S).1 own) ∧ Ext ρ S H ρ (snap env S).2 H := by
  have nx : NoX (wipeE (snap env S).1 own) := fun j s h => by
    rcases wipeE_get _ _ _ _ h with a | ⟨_, a⟩
    · rw [a]; rfl
    · rcases snap_sl _ _ _ _ a with a | ⟨d, a, _⟩ <;> rw [a] <;> rfl
  have sn := snap_n env S
  refine ⟨⟨⟨fun l o h => ?_, fun l l' o o' h h' t t' => ?_, R.h.tabs, fun l l' od od' u n1 n2 h1 h2 h3 z => ?_⟩, ?_⟩, nx, ?_⟩
  · rw [sn]
    rcases snap_get _ _ _ _ h with ⟨a, i, b⟩ | ⟨a, b⟩
    · subst a
      exact ⟨(R.s.sl i _ b).1, trivial⟩
    · have q := R.h.obj l o a
      refine ⟨q.1, ?_⟩
      cases o with
      | cel od =>
        rcases q.2 with ⟨i, c⟩ | c
        · exact absurd c (b i)
        · exact .inr c
      | _ => exact q.2
  · have f : ∀ {l : Nat} {o : O}, (snap env S).2.get l = some o → trk o = true → S.get l = some o := fun h t => by
      rcases snap_get _ _ _ _ h with ⟨a, _⟩ | ⟨a, _⟩
      · rw [a] at t; exact nomatch t
      · exact a
    exact R.h.inj l l' o o' (f h t) (f h' t') t t'
  · rcases snap_get _ _ _ _ h1 with ⟨a, _⟩ | ⟨a, w⟩
    · exact nomatch a
    · rcases snap_get _ _ _ _ h2 with ⟨a', _⟩ | ⟨a', w'⟩
      · exact nomatch a'
      · exact R.h.injF l l' od od' u w w' a a' h3 z
  · refine ⟨by rw [wipeE_len, snap_len]; exact R.s.len, by rw [wipe_length]; exact R.s.lenS, fun j s h => ?_, fun i j l l' a => nomatch nx i _ a⟩
    rcases wipeE_get _ _ _ _ h with a | ⟨hj, a⟩
    · rw [a]; trivial
    · rcases snap_sl _ _ _ _ a with a | ⟨d, a, b⟩
      · rw [a]; trivial
      · rw [a]
        show ∃ v, (wipe σ own)[j]? = some (some v) ∧ RD Γ ρ (snap env S).2.n H d v
        rw [wipe_out hj, sn]
        rcases b with b | ⟨l, b, c⟩
        · exact R.s.sl j _ b
        · exact (R.s.sl j _ b).2.2 d c
  · refine ⟨⟨by rw [sn]; exact Nat.le_refl _, fun _ _ => rfl, fun _ _ h _ => h, fun _ _ h _ _ => h, fun l o _ h t => ?_, fun l o hl h t => ?_, fun _ h => h, fun l od _ h => ?_, fun l od hl h => ?_⟩, fun l od _ h => ?_⟩
    · rcases snap_get _ _ _ _ h with ⟨a, _⟩ | ⟨a, _⟩
      · rw [a] at t; exact nomatch t
      · exact ⟨o, a, t⟩
    · rcases snap_get _ _ _ _ h with ⟨a, _⟩ | ⟨a, _⟩
      · rw [a] at t; exact nomatch t
      · exact absurd (R.h.wf _ _ a) (Nat.not_lt.mpr hl)
    · rcases snap_get _ _ _ _ h with ⟨a, _⟩ | ⟨a, _⟩
      · exact nomatch a
      · exact ⟨od, a⟩
    · rcases snap_get _ _ _ _ h with ⟨a, _⟩ | ⟨a, _⟩
      · exact nomatch a
      · exact absurd (R.h.wf _ _ a) (Nat.not_lt.mpr hl)
    · rcases snap_get _ _ _ _ h with ⟨a, _⟩ | ⟨a, _⟩
      · exact nomatch a
      · exact a
theorem unsnap_n (S0 : St) : ∀ (env : Env) (S : St), (unsnap S0 env S).n = S.n
  | [], S => rfl
  | s :: r, S => by
    have ih := unsnap_n S0 r S
    rw [unsnap_cons]
    cases s with
    | ce l =>
      dsimp only
      split <;> exact ih
    | _ => exact ih
theorem unsnap_get (S0 : St) : ∀ (env : Env) (S : St) (j : Nat) (o : O), (unsnap S0 env S).get j = some o → ((∃ i : Nat, env[i]? = some (Sl.ce j)) ∧ S0.get j = some o ∧ ∃ od, o = .cel od) ∨ S.get j = some o
  | [], S, j, o, h => .inr h
  | s :: r, S, j, o, h => by
    have ih := unsnap_get S0 r S j o
    have up : ((∃ i : Nat, r[i]? = some (Sl.ce j)) ∧ S0.get j = some o ∧ ∃ od, o = .cel od) ∨ S.get j = some o → ((∃ i : Nat, (s :: r)[i]? = some (Sl.ce j)) ∧ S0.get j = some o ∧ ∃ od, o = .cel od) ∨ S.get j = some o := fun z => by
      rcases z with ⟨⟨i, hi⟩, b⟩ | z
      · exact .inl ⟨⟨i + 1, by simpa using hi⟩, b⟩
      · exact .inr z
    rw [unsnap_cons] at h
    cases s with
    | ce l =>
      dsimp only at h
      split at h
      · rename_i x e
        rcases St.get_put h with ⟨a, b⟩ | ⟨a, b⟩
        · exact .inl ⟨⟨0, by rw [a]; rfl⟩, by rw [a, b]; exact e, _, b⟩
        · exact up (ih b)
      · exact up (ih h)
    | no => exact up (ih h)
    | vl d => exact up (ih h)
    | ex c fs => exact up (ih h)
theorem unsnap_rl {ρ' : Nat → Addr} {env2 : Env} {σ2 : L2.St} {S3 : St} {H' : Hp} (R : Rl Γ X ρ env σ S H) (R3 : Rl Γ X' ρ' env2 σ2 S3 H') (nx : NoX env2) (e : Ext ρ S H ρ' S3 H') :
    Rl Γ X ρ' env σ (unsnap S env S3) H' ∧ Ext ρ S H ρ' (unsnap S env S3) H' := by
  have sn := unsnap_n S env S3
  have tk : ∀ {l : Nat} {o : O}, (unsnap S env S3).get l = some o → trk o = true → S3.get l = some o := fun {l o} h t => by
    rcases unsnap_get _ _ _ _ _ h with ⟨_, _, od, b⟩ | a
    · rw [b] at t; exact nomatch t
    · exact a
  have cl : CelK S.n S (unsnap S env S3) := fun l od hl h => by
    rcases unsnap_get _ _ _ _ _ h with ⟨_, b, _⟩ | a
    · exact b
    · exact e.cels l od hl a
  refine ⟨⟨⟨fun l o h => ?_, fun l l' o o' h h' t t' => R3.h.inj l l' o o' (tk h t) (tk h' t') t t', R3.h.tabs, fun l l' od od' u n1 n2 h1 h2 h3 z => ?_⟩, ?_⟩, ⟨⟨by rw [sn]; exact e.le, e.ag, e.keep, e.fr, fun l o hl h t => e.old l o hl (tk h t) t, fun l o hl h t => e.fresh l o hl (tk h t) t, e.dom, fun l od hl h => ⟨od, cl l od hl h⟩, fun l od hl h => ?_⟩, cl⟩⟩
  · rw [sn]
    rcases unsnap_get _ _ _ _ _ h with ⟨⟨i, a⟩, b, od, c⟩ | a
    · subst c
      exact ⟨Nat.lt_of_lt_of_le (R.h.wf _ _ b) e.le, .inl ⟨i, a⟩⟩
    · have q := R3.h.obj l o a
      refine ⟨q.1, ?_⟩
      cases o with
      | cel od =>
        rcases q.2 with ⟨i, c⟩ | c
        · exact nomatch nx i _ c
        · exact .inr c
      | _ => exact q.2
  · rcases unsnap_get _ _ _ _ _ h1 with ⟨⟨i, a⟩, _⟩ | a
    · exact absurd a (n1 i)
    · rcases unsnap_get _ _ _ _ _ h2 with ⟨⟨i, a'⟩, _⟩ | a'
      · exact absurd a' (n2 i)
      · exact R3.h.injF l l' od od' u (fun i c => nomatch nx i _ c) (fun i c => nomatch nx i _ c) a a' h3 z
  · exact R.s.extW ⟨by rw [sn]; exact e.le, e.ag, e.w.keep⟩ cl
  · rcases unsnap_get _ _ _ _ _ h with ⟨_, b, _⟩ | a
    · exact absurd (R.h.wf _ _ b) (Nat.not_lt.mpr hl)
    · exact e.freshC l od hl a
end
end
end Ev
end
section
set_option Elab.async false
set_option linter.all false
set_option maxRecDepth 100000
set_option maxHeartbeats 2000000
namespace Ev
noncomputable section
open PySem PySem.Spec PyProof.Rows L2
section
variable (Γ : Gm) (X : Cx)
abbrev WF : WX := fun _ _ _ _ => False
/-- readings in a block, told in the words of the def around -/
def blkR {α β : Type} (R : RelT α β) (r : EvF α) : L2.St → Hp → (β → Hp → Prop) → Prop := fun σ H Q => ∃ (ρ : Nat → Addr) (env : Env) (S : St), NoX env ∧ Rl Γ X ρ env σ S H ∧
  (r env S).All (fun d S' => ∀ (ρ' : Nat → Addr) (H' : Hp) (v : β), Rl Γ X ρ' env σ S' H' → Ext ρ S H ρ' S' H' → R ρ' S'.n H' d v → Q v H') NoE
def blkG (ts : List Nat) (f : D → EvF Env) : TG := fun val σ H Q => ∃ (ρ : Nat → Addr) (env : Env) (S : St) (d : D), NoX env ∧ Rl Γ X ρ env σ S H ∧ RD Γ ρ S.n H d val ∧
  (f d env S).All (fun v' S' => ∀ (ρ' : Nat → Addr) (H' : Hp) (σ' : L2.St), Rl Γ X ρ' v' σ' S' H' → Ext ρ S H ρ' S' H' → NoX v' → SgSub ts σ' σ → Q σ' H') NoE
end
section
variable {Γ : Gm} {X X' : Cx} {W : WX}
theorem blkR_rd {α β : Type} {R : RelT α β} {r : EvF α} {σ : L2.St} {H : Hp} {Q : β → Hp → Prop} (hN : X'.N = X.N) (h : blkR Γ X R r σ H Q) : rdG Γ X' WF R r σ H Q := by
  obtain ⟨ρ, env, S, nx, R, h⟩ := h
  exact ⟨ρ, env, S, R.swap nx hN, h.mono (fun d S' p ρ' H' v a b c => p ρ' H' v (a.swap nx hN.symm) b c) fun _ _ _ z => z.elim⟩
theorem blkG_rT {ts : List Nat} {f : D → EvF Env} {val : V} {σ : L2.St} {H : Hp} {Q : L2.St → Hp → Prop} (hN : X'.N = X.N) (h : blkG Γ X ts f val σ H Q) : ∃ n0, rT Γ X' WF n0 ts f val σ H Q := by
  obtain ⟨ρ, env, S, d, nx, R, r, h⟩ := h
  refine ⟨S.n, ρ, env, S, d, R.swap nx hN, Nat.le_refl _, nx.ceok, r, h.mono (fun v' S' p ρ' H' σ' a b c e g => ?_) fun _ _ _ z => z.elim⟩
  have nv := nx.sub e
  exact p ρ' H' σ' (a.swap nv hN.symm) ⟨b, c⟩ nv g
abbrev eLc (f : D → EvF Env) (ft : EvF Bool) (fe : EvF D) : Nat → Ev.It → List D → EvF D
  | 0, _, _, _, _ => .fail
  | n + 1, i, acc, v, S => match next S i with
    | .bad => .fail
    | .stop => mkL acc.reverse S
    | .yld d j => (f d v S).bind fun v' S1 => (ft v' S1).bind fun b S2 => match b with
      | true => (fe v' S2).bind fun x S3 => eLc f ft fe n j (x :: acc) v S3
      | false => eLc f ft fe n j acc v S2
abbrev eComp (fi : EvF Ev.It) (f : D → EvF Env) (ft : EvF Bool) (fe : EvF D) (own : List Nat) (N : Nat) : EvF D := fun v S => (fi v S).bind fun i S1 => match snap v S1 with
    | (v', S2) => (eLc f ft fe N i [] (wipeE v' own) S2).nox.bind fun d S3 => .ok d (unsnap S1 v S3)
theorem wipe_eq {σ σ' : L2.St} {vs : List Nat} (h : SgSub vs σ' (wipe σ vs)) : wipe σ' vs = wipe σ vs := by
  apply List.ext_getElem?
  intro i
  have hl : σ'.length = σ.length := by rw [h.1, wipe_length]
  by_cases hi : i ∈ vs
  · have none_at : ∀ (τ : L2.St), i < τ.length → ∀ ws : List Nat, i ∈ ws → (wipe τ ws)[i]? = some none := fun τ ht ws => by
      induction ws with
      | nil => intro z; simp at z
      | cons w ws ih =>
        intro z
        show ((wipe τ ws).set w none)[i]? = _
        by_cases e : i = w
        · subst e
          rw [List.getElem?_set]
          simp [wipe_length, ht]
        · rw [set_get e]
          exact ih (by simpa [e] using z)
    by_cases ht : i < σ.length
    · rw [none_at σ' (by omega) vs hi, none_at σ ht vs hi]
    · rw [List.getElem?_eq_none_iff.mpr (by rw [wipe_length]; omega), List.getElem?_eq_none_iff.mpr (by rw [wipe_length]; omega)]
  · rw [wipe_out hi, h.2 i hi]
theorem SgSub.more {ts us : List Nat} {σ σ' : L2.St} (h : SgSub ts σ' σ) (s : ∀ i ∈ ts, i ∈ us) : SgSub us σ' σ := ⟨h.1, fun j hj => h.2 j fun z => hj (s j z)⟩
/-- what the comprehension's reading gives -/
theorem lc_wk {own : List (Str × Nat)} {fi : EvF Ev.It} {f : D → EvF Env} {ft : EvF Bool} {fe : EvF D} {ts : List Nat} (N : Nat) (hz : N ≤ 100000) (hts : ∀ i ∈ ts, i ∈ own.map (·.2)) {σ : L2.St} {H : Hp} {Q : VK} (h : rd Γ X W (eComp fi f ft fe (own.map (·.2)) N) σ H Q) :
    tLc (rdG Γ X W (IR0 (Γ := Γ) X.K) fi) (blkG Γ X ts f) (blkR Γ X RB ft) (blkR Γ X (RD Γ) fe) (own.map (·.2)) σ H Q := by
  obtain ⟨ρ, env, S, hl, h⟩ := h
  refine (rd_step hl h).mono fun J H1 ⟨ρ1, S1, t, hl1, e1, q1, h1⟩ => fun D hD => ?_
  have h1 : ((eLc f ft fe N t [] (wipeE (snap env S1).1 (own.map (·.2))) (snap env S1).2).nox.bind fun d S3 => .ok d (unsnap S1 env S3)).All (PostG Γ X (RD Γ) env σ ρ1 S1 H1 Q) (PostX Γ X W env σ ρ1 S1 H1) := h1
  have h2 := Res.All.nox (E' := NoE) h1.bind
  obtain ⟨hs2, nx2, ex2⟩ := snap_rl hl1 (own.map (·.2))
  generalize hS2 : (snap env S1).2 = S2 at h2 hs2 ex2
  generalize hv2 : wipeE (snap env S1).1 (own.map (·.2)) = env2 at h2 hs2 nx2
  have k0 : ¬ Trk ρ1 S2 D := fun ⟨l, o, a, b, c⟩ => by
    obtain ⟨ho, hh⟩ := (hs2.h.obj l o a).2.at b
    rw [c, hD] at hh
    exact nomatch hh
  have R0 : Rl Γ X ρ1 env2 (wipe σ (own.map (·.2))) S2 (upd H1 D (.lst [])) := hs2.lay hD
  have q2 : IR (Γ := Γ) X.K ρ1 S2.n (upd H1 D (.lst [])) t J 0 := IR.ext0 (ex2.toExt0.off hD) q1
  refine ⟨fun i m H => ∃ (ρ : Nat → Addr) (S : St) (t : Ev.It) (acc : List Ev.D) (ys : List V), Rl Γ X ρ env2 (wipe σ (own.map (·.2))) S H ∧ Ext ρ1 S1 H1 ρ S H ∧ IR (Γ := Γ) X.K ρ S.n H t J i ∧ H D = some (.lst ys) ∧ ¬ Trk ρ S D ∧ RDs Γ ρ S.n H acc.reverse ys ∧ acc.length + m ≤ 100000 ∧
      (eLc f ft fe m t acc env2 S).All (fun d S3 => PostG Γ X (RD Γ) env σ ρ1 S1 H1 Q d (unsnap S1 env S3)) NoE,
    ⟨N, ρ1, S2, t, [], [], R0, ⟨ex2.toExt0.off hD, ex2.cels⟩, q2, upd_same, k0, rfl, by simpa using hz, h2⟩, ?_⟩
  intro i m H ⟨ρ, S, t, acc, ys, R, ex, q, hd, hk, rs, hm, h⟩
  cases m with
  | zero => exact h.elim
  | succ m =>
    unfold eLc at h
    split at h
    · exact h.elim
    · rename_i e
      refine .inl ⟨next_stop R q e, ?_⟩
      have ad := R.adopt hd hk rs (by rw [List.length_reverse]; omega)
      have ea : Ext ρ1 S1 H1 (rup ρ S.n D) (S.new (.lst acc.reverse)) H := Ext.adopt R.h.wf ex hD
      obtain ⟨u1, u2⟩ := unsnap_rl hl1 ad nx2 ea
      refine h (rup ρ S.n D) H (.ref D) u1 u2 ?_
      unfold RD
      rw [unsnap_n]
      exact ⟨Nat.lt_succ_self _, by rw [rup_same]⟩
    · rename_i d j e
      obtain ⟨go, yl⟩ := next_yld R q e
      refine .inr ⟨go, fun H => ∃ (ρ : Nat → Addr) (S : St) (t : Ev.It) (acc : List Ev.D) (ys : List V), Rl Γ X ρ env2 (wipe σ (own.map (·.2))) S H ∧ Ext ρ1 S1 H1 ρ S H ∧ IR (Γ := Γ) X.K ρ S.n H t J (i + 1) ∧ H D = some (.lst ys) ∧ ¬ Trk ρ S D ∧ RDs Γ ρ S.n H acc.reverse ys ∧ acc.length + m ≤ 100000 ∧
          (eLc f ft fe m t acc env2 S).All (fun d S3 => PostG Γ X (RD Γ) env σ ρ1 S1 H1 Q d (unsnap S1 env S3)) NoE, fun H' w => ⟨m, Nat.lt_succ_self _, w⟩, fun x H' hy => ?_⟩
      obtain ⟨R', ex', rx, q'⟩ := yl x H' hy
      -- what stands outside the store stays
      have far : ∀ {ρa ρb : Nat → Addr} {Sa Sb : St} {Ha Hb : Hp}, Ext ρa Sa Ha ρb Sb Hb → ∀ zs, Ha D = some (.lst zs) → ¬ Trk ρa Sa D → (Rl Γ X ρb env2 (wipe σ (own.map (·.2))) Sb Hb ∨ True) → Hb D = some (.lst zs) ∧ ¬ Trk ρb Sb D := fun {ρa ρb Sa Sb Ha Hb} ea zs hz hka _ =>
        ⟨ea.fr D _ hz nofun hka, fun ⟨l, o, a, b, c⟩ => by
          by_cases hll : l < Sa.n
          · obtain ⟨o', a', b'⟩ := ea.old l o hll a b
            exact hka ⟨l, o', a', b', (ea.ag l hll).symm.trans c⟩
          · have := ea.fresh l o (Nat.not_lt.mp hll) a b
            rw [c, hz] at this
            exact nomatch this⟩
      obtain ⟨d1, k1⟩ := far ex' ys hd hk (.inr trivial)
      have x1 := ex.trans hl1.h.wf R.h.wf ex'
      refine ⟨ρ, env2, S, d, nx2, R', rx, h.bind.mono (fun v' S' h3 ρ3 H3 σ3 R3 e3 nv sg => ?_) fun _ _ _ z => z⟩
      have we : wipe σ3 (own.map (·.2)) = wipe σ (own.map (·.2)) := wipe_eq (sg.more hts)
      refine ⟨we, ρ3, v', S', nv, R3, h3.bind.mono (fun b S4 h4 ρ4 H4 b' R4 e4 eb => ?_) fun _ _ _ z => z⟩
      have eb : b = b' := eb
      subst eb
      obtain ⟨d3, k3⟩ := far e3 ys d1 k1 (.inr trivial)
      obtain ⟨d4, k4⟩ := far e4 ys d3 k3 (.inr trivial)
      have x3 := x1.trans hl1.h.wf R'.h.wf e3
      have x4 := x3.trans hl1.h.wf R3.h.wf e4
      have r4 := ((rs.ext ex').ext e3).ext e4
      have q4 := ((q'.ext0 e3.toExt0).ext0 e4.toExt0)
      have y4 := (ex'.trans R.h.wf R'.h.wf e3).trans R.h.wf R3.h.wf e4
      cases b
      · dsimp only
        rw [if_neg (by decide)]
        exact ⟨ρ4, S4, j, acc, ys, R.back R4 nv y4, x4, q4, d4, k4, r4, by omega, h4⟩
      · dsimp only
        rw [if_pos rfl]
        refine ⟨ρ4, v', S4, nv, R4, h4.bind.mono (fun y S5 h5 ρ5 H5 yv R5 e5 ry => ?_) fun _ _ _ z => z⟩
        obtain ⟨d5, k5⟩ := far e5 ys d4 k4 (.inr trivial)
        have x5 := x4.trans hl1.h.wf R4.h.wf e5
        have r5 := r4.ext e5
        have hlen := rs.len
        rw [List.length_reverse] at hlen
        refine ⟨ys, d5, Evl.sz_lt (by omega), ρ5, S5, j, y :: acc, ys ++ [yv], ?_, ⟨x5.toExt0.off hD, x5.cels⟩, ?_, upd_same, k5, ?_, by simp only [List.length_cons]; omega, h5⟩
        · exact (R.back R5 nv (y4.trans R.h.wf R4.h.wf e5)).off d5 k5
        · exact (q4.ext0 e5.toExt0).extW (wOff d5)
        · rw [List.reverse_cons]
          exact (r5.app (RDs.cons ry RDs.nil)).extW (wOff d5)
section
variable {elt tg it : Expr} {ifs : List Expr} {scope : Scope} {own : List (Str × Nat)} {pos : Pos} {fi : EvF Ev.It} {f : D → EvF Env} {ft : EvF Bool} {fe : EvF D} {ts : List Nat} (N : Nat) (hz : N ≤ 100000) (hc : X.calm = true) (hN : X.N.Nodup)
    (hi : PI X tg it (rdG Γ X W (IR0 (Γ := Γ) X.K) fi)) (ok : BlkOk X.N X.env.scope scope own) (hts : ∀ i ∈ ts, i ∈ own.map (·.2))
    (hg : ∀ (s : Shared) (H : Hp) (C : Addr) (cl : List (Str × Addr)) (fp : List Addr) (n0 : Nat), PG (X.blk s H scope (compEnvC scope cl C X.env) fp) tg (rT Γ (X.blk s H scope (compEnvC scope cl C X.env) fp) WF n0 ts f))
    (ht : ∀ (s : Shared) (H : Hp) (C : Addr) (cl : List (Str × Addr)) (fp : List Addr), PTs (X.blk s H scope (compEnvC scope cl C X.env) fp) ifs (rdB Γ (X.blk s H scope (compEnvC scope cl C X.env) fp) WF ft))
    (he : ∀ (s : Shared) (H : Hp) (C : Addr) (cl : List (Str × Addr)) (fp : List Addr), PE (X.blk s H scope (compEnvC scope cl C X.env) fp) elt (rd Γ (X.blk s H scope (compEnvC scope cl C X.env) fp) WF fe))
    (hs : ∀ x, foldedSetIterable it X.env x = pure x)
include hz hc hN hi ok hts hg ht he hs
theorem x_lc : PE X (.ListComp elt [⟨tg, it, ifs, 0⟩] scope pos) (rd Γ X W (eComp fi f ft fe (own.map (·.2)) N)) :=
  (pe_lc (g := blkG Γ X ts f) (tt := blkR Γ X RB ft) (te := blkR Γ X (RD Γ) fe) hc hN hi ok (fun s H C cl fp => ⟨fun pins s' σ H' v u Q I r q => by
      obtain ⟨n0, q⟩ := blkG_rT (X := X) (X' := X.blk s H scope (compEnvC scope cl C X.env) fp) rfl q
      exact (hg s H C cl fp n0).run pins s' σ H' v u Q I r q⟩) (fun s H C cl fp => ⟨fun pins s' σ H' Q I q => (ht s H C cl fp).run pins s' σ H' Q I (blkR_rd (X := X) rfl q)⟩)
    (fun s H C cl fp => (he s H C cl fp).wk fun σ H Q q => blkR_rd (X := X) rfl q) hs).wk fun σ H Q h => lc_wk N hz hts h
theorem ps_setC {i : Nat} {y : Str} {py spos : Pos} (hy : X.N[i]? = some y) (hyl : X.env.scope.names.lookup y = some .local) (hsw : swapsWith (.ListComp elt [⟨tg, it, ifs, 0⟩] scope pos) (some (.Name y py)) spos.line X.env = pure true) :
    PS X (.Assign [.Name y py] (.ListComp elt [⟨tg, it, ifs, 0⟩] scope pos) spos) (tAsg (rd Γ X W (eComp fi f ft fe (own.map (·.2)) N)) (gName i)) :=
  (ps_setLc (g := blkG Γ X ts f) (tt := blkR Γ X RB ft) (te := blkR Γ X (RD Γ) fe) hc hN hy hyl hsw hi ok (fun s H C cl fp => ⟨fun pins s' σ H' v u Q I r q => by
      obtain ⟨n0, q⟩ := blkG_rT (X := X) (X' := X.blk s H scope (compEnvC scope cl C X.env) fp) rfl q
      exact (hg s H C cl fp n0).run pins s' σ H' v u Q I r q⟩) (fun s H C cl fp => ⟨fun pins s' σ H' Q I q => (ht s H C cl fp).run pins s' σ H' Q I (blkR_rd (X := X) rfl q)⟩)
    (fun s H C cl fp => (he s H C cl fp).wk fun σ H Q q => blkR_rd (X := X) rfl q) hs).wk fun D σ H h => lc_wk N hz hts h
/-- x = [..], the value stored by the comprehension's own end -/
theorem y_setLc {i : Nat} {y : Str} {py spos : Pos} {n0 : Nat} (hy : X.N[i]? = some y) (hyl : X.env.scope.names.lookup y = some .local) (hsw : swapsWith (.ListComp elt [⟨tg, it, ifs, 0⟩] scope pos) (some (.Name y py)) spos.line X.env = pure true) :
    PS X (.Assign [.Name y py] (.ListComp elt [⟨tg, it, ifs, 0⟩] scope pos) spos) (rS Γ X W n0 (eAsg (eComp fi f ft fe (own.map (·.2)) N) (eNm i))) :=
  (ps_setC N hz hc hN hi ok hts hg ht he hs hy hyl hsw).wk fun D σ H h => by
    obtain ⟨ρ, env, S, hl, hn, hce, h⟩ := h
    refine (rS_exp (R := RD Γ) (g := eComp fi f ft fe (own.map (·.2)) N) (f := fun x v S1 => (eNm i x v S1).st v fun v' S2 => .ok (.nx v') S2) hl hn hce h).mono fun u H1 ⟨ρ1, S1, a, R1, e1, hn1, r1, h1⟩ => ?_
    show D.nx (σ.set i (some u)) H1
    unfold eNm at h1
    split at h1
    · rename_i v' S' es
      obtain ⟨R2, e2, c2, s2⟩ := store_rl R1 hn1 hce r1 es
      exact (show PostS Γ X W n0 ρ1 S1 H1 D (.nx v') S' from h1) _ _ _ R2 e2 c2 (hce.sub s2)
    · exact h1.elim
end
end
end
end Ev
end
section
set_option Elab.async false
set_option linter.all false
set_option maxRecDepth 100000
set_option maxHeartbeats 200000
/-! CALLS: the running def's own cells stand still while a callee runs. -/
namespace Ev
noncomputable section
open PySem PySem.Spec PyProof.Rows L2
/-- the running def's own cells -/
def ownA (env : Env) (ρ : Nat → Addr) : List Addr := env.filterMap fun s => match s with
  | .ce l => some (ρ l)
  | _ => none
theorem mem_ownA {env : Env} {ρ : Nat → Addr} {a : Addr} : a ∈ ownA env ρ ↔ ∃ (i l : Nat), env[i]? = some (Sl.ce l) ∧ ρ l = a := by
  unfold ownA
  rw [List.mem_filterMap]
  constructor
  · rintro ⟨s, hs, e⟩
    obtain ⟨i, hi⟩ := List.mem_iff_getElem?.mp hs
    cases s with
    | ce l => exact ⟨i, l, hi, Option.some.inj e⟩
    | _ => exact nomatch e
  · rintro ⟨i, l, hi, e⟩
    exact ⟨.ce l, List.mem_of_getElem? hi, congrArg some e⟩
def frH (A : List Addr) (h : Heap) (H : Hp) : Hp := fun a => if a ∈ A then (match h.get? a with
  | some o => some (.frz o (.own 0))
  | none => none) else H a
def thH (A : List Addr) (H : Hp) : Hp := fun a => if a ∈ A then none else H a
theorem frH_out {A : List Addr} {h : Heap} {H : Hp} {a : Addr} (n : a ∉ A) : frH A h H a = H a := by unfold frH; rw [if_neg n]
theorem frH_in {A : List Addr} {h : Heap} {H : Hp} {a : Addr} {o : Obj} (n : a ∈ A) (e : h.get? a = some o) : frH A h H a = some (.frz o (.own 0)) := by unfold frH; rw [if_pos n, e]
theorem thH_out {A : List Addr} {H : Hp} {a : Addr} (n : a ∉ A) : thH A H a = H a := by unfold thH; rw [if_neg n]
theorem thH_in {A : List Addr} {H : Hp} {a : Addr} (n : a ∈ A) : thH A H a = none := by unfold thH; rw [if_pos n]
theorem RO.nofrz {Γ : Gm} {ρ : Nat → Addr} {n : Nat} {env : Env} {H : Hp} {l : Nat} {o : O} (t : trk o = true) (h : RO Γ ρ n env H l o) {u : Obj} {v : HO} : H (ρ l) ≠ some (.frz u v) := fun e => by
  cases o with
  | lst xs => obtain ⟨_, _, b, _⟩ := h; rw [e] at b; exact nomatch b
  | dic xs => obtain ⟨_, _, b, _⟩ := h; rw [e] at b; exact nomatch b
  | clo i ls => obtain ⟨_, _, b, _⟩ := h; rw [e] at b; exact nomatch b
  | exn i ls => obtain ⟨_, _, b, _⟩ := h; rw [e] at b; exact nomatch b
  | opq => obtain ⟨_, _, b, _⟩ := h; rw [e] at b; exact nomatch b
  | scr => obtain ⟨_, b⟩ := h; rw [e] at b; exact nomatch b
  | _ => exact nomatch t
theorem tabs_nf {T : List NdefX.NTab} {H H' : Hp} (t : NdefX.TabsN T H) (e : ∀ b o, H b = some o → (∀ u v, o ≠ .frz u v) → H' b = some o) : NdefX.TabsN T H' := fun q hq => by
  obtain ⟨ps, a, b, c⟩ := t q hq
  refine ⟨ps, e _ _ a (fun u v z => HO.noConfusion z), b, fun pos cv k => ?_⟩
  obtain ⟨x, y, z⟩ := c pos cv k
  exact ⟨x, y, e _ _ z fun u v w => by unfold LamX.CodeO at w; exact HO.noConfusion w⟩
section
variable {Γ : Gm} {X : Cx} {W : WX} {ρ ρ' : Nat → Addr} {S S' : St} {H H' : Hp} {env : Env} {σ : L2.St} {pins : List (Addr × Obj)} {s s' : Shared}
structure OwnF (X : Cx) (ρ : Nat → Addr) (env : Env) (σ : L2.St) (H : Hp) (s : Shared) (A : List Addr) : Prop where
  no : ∀ a ∈ A, H a = none
  get : ∀ a ∈ A, ∃ o w, s.heap.get? a = some o ∧ o.data = .cell w
  base : ∀ a ∈ A, X.base.get? a = none
  stk : ∀ a ∈ A, a ∉ frs X.stack
theorem ownF (I : Inv X pins σ H s) (R : Rl Γ X ρ env σ S H) : OwnF X ρ env σ H s (ownA env ρ) := by
  have key : ∀ a ∈ ownA env ρ, ∃ x, RCe X a x := fun a ha => by
    obtain ⟨i, l, hi, rfl⟩ := mem_ownA.mp ha
    obtain ⟨_, ⟨x, _, c⟩, _⟩ := R.s.sl i _ hi
    exact ⟨x, c⟩
  refine ⟨fun a ha => ?_, fun a ha => ?_, fun a ha => ?_, fun a ha => ?_⟩
  · obtain ⟨x, c⟩ := key a ha
    exact I.freeC x a c.look
  · obtain ⟨x, c⟩ := key a ha
    obtain ⟨v, o, ho, hd⟩ := I.cell x a c.look
    exact ⟨o, v, ho, hd⟩
  · obtain ⟨x, c⟩ := key a ha
    exact c.base
  · obtain ⟨x, c⟩ := key a ha
    intro hm
    rcases List.mem_cons.mp (I.stkSub a hm) with z | z
    · exact I.cne x a c.look z
    · exact c.nofs z
theorem OwnF.keep {A : List Addr} (f : OwnF X ρ env σ H s A) {a : Addr} {o : HO} (h : H a = some o) : frH A s.heap H a = some o := by
  rw [frH_out fun m => ?_]
  · exact h
  · rw [f.no a m] at h; exact nomatch h
theorem OwnF.out {A : List Addr} (f : OwnF X ρ env σ H s A) {a : Addr} {o : HO} (h : H a = some o) : a ∉ A := fun m => by
  rw [f.no a m] at h; exact nomatch h
theorem OwnF.dom {A : List Addr} (f : OwnF X ρ env σ H s A) {a : Addr} (h : frH A s.heap H a = none) : H a = none := by
  by_cases m : a ∈ A
  · exact f.no a m
  · rw [frH_out m] at h; exact h
theorem OwnF.isfr {A : List Addr} (f : OwnF X ρ env σ H s A) {a : Addr} (m : a ∈ A) : ∃ o, s.heap.get? a = some o ∧ frH A s.heap H a = some (.frz o (.own 0)) := by
  obtain ⟨o, _, e, _⟩ := f.get a m
  exact ⟨o, e, frH_in m e⟩
theorem OwnF.hok {A : List Addr} (f : OwnF X ρ env σ H s A) {P : Program} {w : World} (h : HOk P w H s.heap) : HOk P w (frH A s.heap H) s.heap := fun a o e => by
  by_cases m : a ∈ A
  · obtain ⟨u, e1, e2⟩ := f.isfr m
    rw [e2] at e
    cases e
    exact ⟨e1, u, e1⟩
  · rw [frH_out m] at e
    exact (h a o e).stay (fun b u _ q => q) (fun b q => f.keep q) fun b xs q => f.keep q
theorem env0_fr (I : Inv X pins σ H s) (R : Rl Γ X ρ env σ S H) : Env0 X.prog X.w X.K X.mg X.base X.A X.stack s (frH (ownA env ρ) s.heap H) := by
  have f := ownF I R
  have e := I.env0
  refine ⟨e.frames, e.mod, fun b o h => ⟨(e.bs b o h).1, ?_⟩, e.bsz, e.funs, fun b h => ?_, f.hok e.hok, e.bare⟩
  · rw [frH_out fun m => by rw [f.base b m] at h; exact nomatch h]
    exact (e.bs b o h).2
  · rw [frH_out fun m => f.stk b m h]
    exact e.frf b h
theorem extW_fr {A : List Addr} (f : OwnF X ρ env σ H s A) : ExtW ρ S H ρ S (frH A s.heap H) := ⟨Nat.le_refl _, fun _ _ => rfl, fun _ _ h _ => f.keep h⟩
theorem rh_fr (I : Inv X pins σ H s) (R : Rl Γ X ρ env σ S H) : Rh Γ ρ [] S (frH (ownA env ρ) s.heap H) := by
  have f := ownF I R
  have e : ExtW ρ S H ρ S (frH (ownA env ρ) s.heap H) := extW_fr f
  refine ⟨fun l o h => ?_, R.h.inj, R.h.tabs.ext fun b o h => f.keep h, fun l l' od od' u _ _ h1 h2 h3 z => ?_⟩
  rotate_left
  · by_cases m : ∃ i : Nat, env[i]? = some (Sl.ce l)
    · obtain ⟨i, a⟩ := m
      by_cases m' : ∃ i : Nat, env[i]? = some (Sl.ce l')
      · obtain ⟨i', a'⟩ := m'
        have e := R.s.cinj i i' l l' a a' z
        subst e
        rw [a] at a'
        cases a'
        rfl
      · rcases (R.h.obj l' _ h2).2 with ⟨i', c⟩ | ⟨v, c, _⟩
        · exact absurd ⟨i', c⟩ m'
        · rw [← z] at c
          exact absurd (mem_ownA.mpr ⟨i, l, a, rfl⟩) (f.out c)
    · by_cases m' : ∃ i : Nat, env[i]? = some (Sl.ce l')
      · obtain ⟨i', a'⟩ := m'
        rcases (R.h.obj l _ h1).2 with ⟨i, c⟩ | ⟨v, c, _⟩
        · exact absurd ⟨i, c⟩ m
        · rw [z] at c
          exact absurd (mem_ownA.mpr ⟨i', l', a', rfl⟩) (f.out c)
      · rcases (R.h.obj l _ h1).2 with ⟨i, c⟩ | ⟨v, c, _⟩
        · exact absurd ⟨i, c⟩ m
        · exact R.h.injF l l' od od' v (fun i c => m ⟨i, c⟩) (fun i c => m' ⟨i, c⟩) h1 h2 c z
  have q := R.h.obj l o h
  refine ⟨q.1, ?_⟩
  have q2 := q.2.extW e q.1 (fun _ _ h => f.keep h) fun _ _ _ h => f.keep h
  cases o with
  | cel od =>
    rcases q2 with ⟨i, c⟩ | c
    · refine .inr ?_
      obtain ⟨a, ⟨x, b, c'⟩, g⟩ := R.s.sl i _ c
      have m : ρ l ∈ ownA env ρ := mem_ownA.mpr ⟨i, l, c, rfl⟩
      obtain ⟨ob, w, e1, e2⟩ := f.get _ m
      refine ⟨ob, frH_in m e1, w, e2, fun d hd => ?_⟩
      subst hd
      obtain ⟨v, x1, x2⟩ := g d h
      obtain ⟨mm, _, hl⟩ := I.loc
      obtain ⟨u, r1, lk⟩ := hl i x v b x1 (c'.kin.elim (fun z => .inr (.inl z)) fun z => .inr (.inr z))
      rcases lk with ⟨z, _⟩ | ⟨_, a', ha', o', ho', hd'⟩
      · have z : X.env.scope.names.lookup x = some .local := z
        rcases c'.kin with k | k <;> rw [k] at z <;> exact nomatch z
      · rw [c'.look] at ha'
        cases ha'
        rw [e1] at ho'
        cases ho'
        rw [e2] at hd'
        cases hd'
        exact ⟨u, v, rfl, r1, x2.extW e⟩
    · exact .inr c
  | _ => exact q2
/-- back: what the callee left, without those cells -/
theorem extW_th {A : List Addr} (f : OwnF X ρ env σ H s A) (x : Ext ρ S (frH A s.heap H) ρ' S' H') : ExtW ρ' S' H' ρ' S' (thH A H') := ⟨Nat.le_refl _, fun _ _ => rfl, fun a o h i => by
  rw [thH_out fun m => ?_]
  · exact h
  · obtain ⟨u, _, e⟩ := f.isfr m
    rw [x.keep a _ e rfl] at h
    cases h
    exact nomatch i⟩
theorem ext_th {A : List Addr} (f : OwnF X ρ env σ H s A) (x : Ext ρ S (frH A s.heap H) ρ' S' H') : Ext ρ S H ρ' S' (thH A H') :=
  ⟨⟨x.le, x.ag, fun a o h i => by rw [thH_out (f.out h)]; exact x.keep a o (f.keep h) i, fun a o h i t => by rw [thH_out (f.out h)]; exact x.fr a o (f.keep h) i t, x.old, fun l o hl h t => f.dom (x.fresh l o hl h t), fun a h => by
    by_cases m : a ∈ A
    · exact f.no a m
    · rw [thH_out m] at h
      exact f.dom (x.dom a h), x.oldC, fun l od hl h => f.dom (x.freshC l od hl h)⟩, x.cels⟩
theorem rl_th (f : OwnF X ρ env σ H s (ownA env ρ)) (R : Rl Γ X ρ env σ S H) (x : Ext ρ S (frH (ownA env ρ) s.heap H) ρ' S' H') (R' : Rh Γ ρ' [] S' H') : Rl Γ X ρ' env σ S' (thH (ownA env ρ) H') := by
  have e := extW_th f x
  have e2 := (ext_th f x).w
  refine ⟨⟨fun l o h => ?_, R'.inj, tabs_nf R'.tabs fun b o h n => ?_, fun l l' od od' u _ _ h1 h2 h3 z => R'.injF l l' od od' u (fun i c => by simp at c) (fun i c => by simp at c) h1 h2 (by
    by_cases m : ρ' l ∈ ownA env ρ
    · rw [thH_in m] at h3; exact nomatch h3
    · rw [thH_out m] at h3; exact h3) z⟩, R.s.extW e2 x.cels⟩
  · have q := R'.obj l o h
    refine ⟨q.1, ?_⟩
    cases o with
    | cel od =>
      by_cases hl : l < S.n
      · have h0 := x.cels l od hl h
        rcases (R.h.obj l _ h0).2 with ⟨i, c⟩ | ⟨u, c, c2⟩
        · exact .inl ⟨i, c⟩
        · refine .inr ⟨u, ?_, c2.extW e2⟩
          rw [x.ag l hl, thH_out (f.out c)]
          exact x.keep _ _ (f.keep c) rfl
      · have n := x.freshC l od (Nat.not_lt.mp hl) h
        rcases q.2 with ⟨i, c⟩ | ⟨u, c, c2⟩
        · simp at c
        · refine .inr ⟨u, ?_, c2.extW e⟩
          rw [thH_out fun m => ?_]
          · exact c
          · obtain ⟨v, _, e3⟩ := f.isfr m
            rw [n] at e3
            exact nomatch e3
    | lst _ | dic _ | clo _ _ | hid | exn _ _ | opq | scr =>
      refine RO.extW (env := env) e q.1 (fun t ho hh => ?_) (fun _ _ z => nomatch z) q.2
      rw [thH_out fun m => ?_]
      · exact hh
      · obtain ⟨u, _, e3⟩ := f.isfr m
        exact RO.nofrz t q.2 (x.keep _ _ e3 rfl)
    | scF =>
      obtain ⟨ns, q2⟩ := q.2
      refine ⟨ns, q2.imp (fun ⟨ho, a⟩ => ⟨ho, ?_⟩) id⟩
      rw [thH_out fun m => ?_]
      · exact a
      · obtain ⟨u, _, e3⟩ := f.isfr m
        have e4 := x.keep _ _ e3 rfl
        rw [a] at e4
        exact nomatch e4
  · rw [thH_out fun m => ?_]
    · exact h
    · obtain ⟨u, _, e3⟩ := f.isfr m
      rw [x.keep _ _ e3 rfl] at h
      exact n _ _ (Option.some.inj h).symm
theorem hok_th {P : Program} {w : World} {A : List Addr} {h : Heap} (f : OwnF X ρ env σ H s A) (z : ∀ b o u, frH A s.heap H b = some (.frz o u) → H' b = some (.frz o u)) (k : HOk P w H' h) : HOk P w (thH A H') h := fun a o e => by
  have nz : ∀ b u, H' b = some u → (∀ x y, u ≠ .frz x y) → thH A H' b = some u := fun b u q n => by
    rw [thH_out fun m => ?_]
    · exact q
    · obtain ⟨v, _, e3⟩ := f.isfr m
      rw [z _ _ _ e3] at q
      exact n _ _ (Option.some.inj q).symm
  by_cases m : a ∈ A
  · rw [thH_in m] at e; exact nomatch e
  · rw [thH_out m] at e
    exact (k a o e).stay (fun b u _ q => q) (fun b q => nz b (.own a) q fun x y z => HO.noConfusion z) fun b xs q => nz b (.tup xs) q fun x y z => HO.noConfusion z
theorem un_th {P : Program} {w : World} {A fs : List Addr} {h' : Heap} (f : OwnF X ρ env σ H s A) (k : HOk P w H' h') (u : Un fs [] (frH A s.heap H) H' s.heap h') : Un fs [] H (thH A H') s.heap h' := by
  have own : ∀ b o, s.heap.get? b = some o → b ∈ A → h'.get? b = some o := fun b o e m => by
    obtain ⟨v, e1, e3⟩ := f.isfr m
    rw [e] at e1
    cases e1
    obtain ⟨q, _⟩ := k b _ (u.frzs _ _ _ e3)
    exact q
  refine ⟨fun b o e n hb hx => ?_, fun b o e n hb hx => ?_, fun b o e n hx => ?_, fun b o e hx => u.there b o e hx, fun b xs e => ?_, fun b o v e => ?_, fun b ps e => ?_⟩
  · by_cases m : b ∈ A
    · exact own b o e m
    · exact u.keep b o e (by rw [frH_out m]; exact n) hb hx
  · by_cases m : b ∈ A
    · exact ⟨o.slots, own b o e m⟩
    · exact u.slot b o e (by rw [frH_out m]; exact n) hb hx
  · by_cases m : b ∈ A
    · exact thH_in m
    · rw [thH_out m]
      exact u.free b o e (by rw [frH_out m]; exact n) hx
  · rw [thH_out (f.out e)]
    exact u.tups b xs (f.keep e)
  · rw [thH_out (f.out e)]
    exact u.frzs b o v (f.keep e)
  · obtain ⟨m, q⟩ := u.tbls b ps (f.keep e)
    exact ⟨m, by rw [thH_out (f.out e)]; exact q⟩
theorem ub_th {P : Program} {w : World} {A fs : List Addr} {B h' : Heap} (f : OwnF X ρ env σ H s A) (k : HOk P w H' B) (u : UB fs (frH A s.heap H) H' s.heap B h') : UB fs H (thH A H') s.heap B h' := by
  have own : ∀ b o, s.heap.get? b = some o → b ∈ A → B.get? b = some o := fun b o e m => by
    obtain ⟨v, e1, e3⟩ := f.isfr m
    rw [e] at e1
    cases e1
    obtain ⟨q, _⟩ := k b _ (u.frzs _ _ _ e3)
    exact q
  refine ⟨fun b o e n hb => ?_, fun b o e hb => u.slot b o e hb, fun b o e n => ?_, fun b o e hx => u.there b o e hx, fun b xs e => ?_, fun b o v e => ?_, fun b ps e => ?_⟩
  · by_cases m : b ∈ A
    · exact own b o e m
    · exact u.keep b o e (by rw [frH_out m]; exact n) hb
  · by_cases m : b ∈ A
    · exact thH_in m
    · rw [thH_out m]
      exact u.free b o e (by rw [frH_out m]; exact n)
  · rw [thH_out (f.out e)]
    exact u.tups b xs (f.keep e)
  · rw [thH_out (f.out e)]
    exact u.frzs b o v (f.keep e)
  · obtain ⟨m, q⟩ := u.tbls b ps (f.keep e)
    exact ⟨m, by rw [thH_out (f.out e)]; exact q⟩
end
end
end Ev
end
section
set_option Elab.async false
set_option linter.all false
set_option maxRecDepth 100000
set_option maxHeartbeats 400000
/-! CALLS: the rule. -/
namespace Ev
noncomputable section
open PySem PySem.Spec PyProof.Rows L2
theorem XR.extW {Γ : Gm} {ρ ρ' : Nat → Addr} {S S' : St} {H H' : Hp} (e : ExtW ρ S H ρ' S' H') {c : Nat} {fs : List (Str × D)} {cls : Value} {dd : Option Addr} (h : XR Γ ρ S.n H c fs cls dd) : XR Γ ρ' S'.n H' c fs cls dd := by
  obtain ⟨a, b⟩ := h
  refine ⟨a, b.imp id ?_⟩
  rintro ⟨d, ws, x, y, z⟩
  exact ⟨d, ws, x, e.keep _ _ y rfl, z.extW e⟩
def PostC (Γ : Gm) (ρ : Nat → Addr) (S : St) (H : Hp) (Q : VK) : D → St → Prop := fun d S' =>
  ∀ (ρ' : Nat → Addr) (H' : Hp) (v : V), Rh Γ ρ' [] S' H' → Ext ρ S H ρ' S' H' → RD Γ ρ' S'.n H' d v → Q v H'
def PostCX (Γ : Gm) (ρ : Nat → Addr) (S : St) (H : Hp) (E : XK) : Nat → List (Str × D) → St → Prop := fun c fs S' =>
  ∀ (ρ' : Nat → Addr) (H' : Hp) (cls : Value) (dd : Option Addr), Rh Γ ρ' [] S' H' → Ext ρ S H ρ' S' H' → XR Γ ρ' S'.n H' c fs cls dd → E cls dd H'
section
variable {Γ : Gm} {X : Cx} {W : WX} {ρ ρ' : Nat → Addr} {S S' : St} {H H' : Hp} {env : Env} {σ : L2.St} {pins : List (Addr × Obj)} {s s' : Shared} {Q : VK}
theorem ce_th {A : List Addr} {outer : List PySem.Env} {P : Program} {w : World} {u : Value} (f : OwnF X ρ env σ H s A) (c : L2.CE outer P w (frH A s.heap H) s (fun v H2 => Q v (thH A H2)) u s') : L2.CE outer P w H s Q u s' := by
  obtain ⟨v, H2, os, bare, un, hok, r, q⟩ := c
  exact ⟨v, thH A H2, os, bare, un_th f hok un, hok_th f un.frzs hok, r, q⟩
theorem cx_th {A : List Addr} {outer : List PySem.Env} {P : Program} {w : World} {u : Value} {E : XK} (f : OwnF X ρ env σ H s A) (c : L2N.CX P w outer (frH A s.heap H) s (fun cls d H2 => E cls d (thH A H2)) u s') : L2N.CX P w outer H s E u s' := by
  obtain ⟨a, B, H2, cls, d, e, fl, hok, ub, na, os, bare, q⟩ := c
  refine ⟨a, B, thH A H2, cls, d, e, fl, hok_th f ub.frzs hok, ub_th f hok ub, ?_, os, bare, q⟩
  by_cases m : a ∈ A
  · exact thH_in m
  · rw [thH_out m]; exact na
/-- THE RULE: a callee that keeps its promise, from a body -/
theorem run_cf {r : Res D} {code : Code} (tk : L2N.Takes X W) (I : Inv X pins σ H s) (R : Rl Γ X ρ env σ S H)
    (hC : ∀ (H1 : Hp) (Q1 : VK) (E1 : XK), Env0 X.prog X.w X.K X.mg X.base X.A X.stack s H1 → Rh Γ ρ [] S H1 → ExtW ρ S H ρ S H1 → r.All (PostC Γ ρ S H1 Q1) (PostCX Γ ρ S H1 E1) →
      codeAny (model X.prog X.w) X.A code (CR (L2N.CX X.prog X.w) X.stack X.prog X.w H1 s Q1 E1) s)
    (h : r.All (PostG Γ X (RD Γ) env σ ρ S H Q) (PostX Γ X W env σ ρ S H)) :
    codeAny (model X.prog X.w) X.A code (fun r s' => match r with
      | .ok (.ret u) => EP X pins σ Q u s'
      | .ok _ => False
      | .error e => X.xe e s') s := by
  have f := ownF I R
  have h1 : ∀ (d : D) (S2 : St), PostG Γ X (RD Γ) env σ ρ S H Q d S2 → PostC Γ ρ S (frH (ownA env ρ) s.heap H) (fun v H2 => Q v (thH (ownA env ρ) H2)) d S2 := fun d S2 p ρ2 H2 v a b c => p ρ2 _ v (rl_th f R b a) (ext_th f b) (RD.extW (extW_th f b) c)
  have h2 : ∀ (c : Nat) (fs : List (Str × D)) (S2 : St), PostX Γ X W env σ ρ S H c fs S2 → PostCX Γ ρ S (frH (ownA env ρ) s.heap H) (fun cls d H2 => W cls d σ (thH (ownA env ρ) H2)) c fs S2 := fun c fs S2 p ρ2 H2 cls dd a b x => p ρ2 _ cls dd (rl_th f R b a) (ext_th f b) (XR.extW (extW_th f b) x)
  refine codeAny_mono (hC (frH (ownA env ρ) s.heap H) (fun v H2 => Q v (thH (ownA env ρ) H2)) (fun cls d H2 => W cls d σ (thH (ownA env ρ) H2)) (env0_fr I R) (rh_fr I R) (extW_fr f)
    (h.mono h1 h2)) fun r s' hq => ?_
  cases r with
  | error e => exact tk e s' (L2N.XE.of_call I (E := fun cls d H2 => W cls d σ H2) (fun _ _ _ h => h) (cx_th f hq))
  | ok fl =>
    cases fl with
    | ret u => exact I.after (ce_th f hq)
    | next => exact False.elim hq
    | brk => exact False.elim hq
    | cont => exact False.elim hq
/-- the promise of the defs -/
def DfOk (Γ : Gm) (k : Nat) (cf : CallF) : Prop := ∀ (i : Nat) (ds : List D) (A : Around) (outer : List PySem.Env) (s : Shared) (ρ : Nat → Addr) (S : St) (H : Hp) (args : Args) (us : List Value) (vs : List V) (Q : VK) (E : XK),
  Room k A → A.guards = some [] → Env0 Γ.P Γ.w Γ.K Γ.mg Γ.base A outer s H → Rh Γ ρ [] S H → RDs Γ ρ S.n H ds vs → Vals vs us → BindsTo s (Γ.fd i) args ((Γ.psn i).zip us) → (cf (.df i) ds S).All (PostC Γ ρ S H Q) (PostCX Γ ρ S H E) →
    codeAny (model Γ.P Γ.w) A (.call (.ref (Γ.fnA i)) args) (CR (L2N.CX Γ.P Γ.w) outer Γ.P Γ.w H s Q E) s
/-- .. of the lambdas -/
def LmOk (Γ : Gm) (k : Nat) (cf : CallF) : Prop := ∀ (i l : Nat) (ls : List Nat) (ds : List D) (A : Around) (outer : List PySem.Env) (s : Shared) (ρ : Nat → Addr) (S : St) (H : Hp) (us : List Value) (vs : List V) (Q : VK) (E : XK),
  Room k A → A.guards = some [] → Env0 Γ.P Γ.w Γ.K Γ.mg Γ.base A outer s H → Rh Γ ρ [] S H → S.get l = some (.clo i ls) → RDs Γ ρ S.n H ds vs → Vals vs us → (cf (.lm i ls) ds S).All (PostC Γ ρ S H Q) (PostCX Γ ρ S H E) →
    codeAny (model Γ.P Γ.w) A (.call (.ref (ρ l)) ⟨us, []⟩) (CR (L2N.CX Γ.P Γ.w) outer Γ.P Γ.w H s Q E) s
end
end
end Ev
end
section
set_option Elab.async false
set_option linter.all false
set_option maxRecDepth 100000
set_option maxHeartbeats 400000
/-! CALLS of the text's defs. -/
namespace Ev
noncomputable section
open PySem PySem.Spec PyProof.Rows L2
/-- the context is one of this text -/
structure XG (Γ : Gm) (X : Cx) : Prop where
  P : X.prog = Γ.P
  w : X.w = Γ.w
  K : X.K = Γ.K
  mg : X.mg = Γ.mg
  base : X.base = Γ.base
def argsV {α : Type} : List Ar → List α → Option (List α)
  | [], _ => some []
  | .df _ :: _, _ => none
  | .at_ i :: r, xs => match xs[i]?, argsV r xs with
    | some x, some ys => some (x :: ys)
    | _, _ => none
/-- how the calls bind -/
def ShpOk (Γ : Gm) : Prop := ∀ (i n : Nat) (ks : List Str), (i, n, ks) ∈ Γ.shp → ∀ (us ws : List Value), us.length = n → ws.length = ks.length →
  ∃ ar zs, params n ks ((Γ.psn i).map fun x => (x, none)) 0 = some ar ∧ argsV ar (us ++ ws) = some zs ∧ bindArgs (Γ.fd i) ⟨us, ks.zip ws⟩ = pure ((Γ.psn i).zip zs)
section
variable {Γ : Gm} {X : Cx} {W : WX} {ρ ρ' : Nat → Addr} {S S' : St} {H H' : Hp} {env : Env} {σ : L2.St} {pins : List (Addr × Obj)} {s s' : Shared} {Q : VK} {k : Nat} {cf : CallF}
theorem args_rel {n : Nat} {ds : List D} {vs : List V} {us : List Value} (r : RDs Γ ρ n H ds vs) (rv : Vals vs us) : ∀ {ar : List Ar} {ys : List D} {zs : List Value}, argsOf ar ds = some ys → argsV ar us = some zs → ∃ ws, RDs Γ ρ n H ys ws ∧ Vals ws zs
  | [], ys, zs, h1, h2 => by
    cases h1
    cases h2
    exact ⟨[], rfl, .nil⟩
  | .df _ :: ar, _, _, _, h2 => by exact nomatch h2
  | .at_ i :: ar, ys, zs, h1, h2 => by
    rw [argsOf_at] at h1
    unfold argsV at h2
    split at h1
    · rename_i x ys' e1 e2
      cases h1
      split at h2
      · rename_i u zs' e3 e4
        cases h2
        obtain ⟨v, e5, rx⟩ := r.get e1
        obtain ⟨u', e6, ru⟩ := rv.get e5
        rw [e3] at e6
        cases e6
        obtain ⟨ws, a, b⟩ := args_rel r rv e2 e4
        exact ⟨v :: ws, a.cons rx, .cons ru b⟩
      · exact nomatch h2
    · exact nomatch h1
abbrev fCall (cf : CallF) (i : Nat) (ar : List Ar) : List D → St → Res D := fun xs S => match argsOf ar xs with
  | some ys => cf (.df i) ys S
  | none => .fail
theorem call_df {i n : Nat} {ks : List Str} {ar : List Ar} {us ws : List Value} {ds : List D} {vs : List V} (tk : L2N.Takes X W) (g : XG Γ X) (sh : ShpOk Γ) (hd : DfOk Γ k cf) (hr : Room k X.A) (hgd : X.A.guards = some []) (hm : (i, n, ks) ∈ Γ.shp)
    (har : params n ks ((Γ.psn i).map fun x => (x, none)) 0 = some ar) (I : Inv X pins σ H s) (R : Rl Γ X ρ env σ S H) (r : RDs Γ ρ S.n H ds vs) (rv : Vals vs (us ++ ws)) (l1 : us.length = n) (l2 : ws.length = ks.length)
    (h : (fCall cf i ar ds S).All (PostG Γ X (RD Γ) env σ ρ S H Q) (PostX Γ X W env σ ρ S H)) : wpAny (model X.prog X.w) X.A (call (.ref (Γ.fnA i)) us (ks.zip ws)) (EP X pins σ Q) X.xe s := by
  obtain ⟨ar', zs, e1, e2, e3⟩ := sh i n ks hm us ws l1 l2
  rw [har] at e1
  cases e1
  unfold fCall at h
  split at h
  · rename_i ys ey
    obtain ⟨w2, ry, rz⟩ := args_rel r rv ey e2
    refine wpAny_call (codeAny_mono (run_cf tk I R (fun H1 Q1 E1 e0 rh ew hh => ?_) h) fun r s' hq => ?_)
    · rw [g.P, g.w, g.K, g.mg, g.base] at e0
      rw [g.P, g.w]
      exact hd i ys X.A X.stack s ρ S H1 _ zs w2 Q1 E1 hr hgd e0 rh (RDs.extW ew ry) rz (.of_eq e3) hh
    · cases r with
      | error e => exact hq
      | ok fl => cases fl <;> exact hq
  · exact False.elim h
variable {e : Expr} {es : List Expr} {kws : List Keyword} {fs fk : EvF (List D)} {pos p : Pos} {x : Str}
/-! ### lengths -/
def Res.Wk {α : Type} (P : α → Prop) : Res α → Prop
  | .ok v _ => P v
  | .draw n k => ∀ d, d < n → (k d).Wk P
  | _ => True
theorem Res.Wk.bind {α β : Type} {P : α → Prop} {P' : β → Prop} {f : α → St → Res β} (hf : ∀ a S, P a → (f a S).Wk P') : ∀ {r : Res α}, r.Wk P → (r.bind f).Wk P'
  | .ok v S, h => hf v S h
  | .exc _ _ _, _ => trivial
  | .draw n k, h => fun d hd => Res.Wk.bind hf (h d hd)
  | .fail, _ => trivial
theorem Res.Wk.any {α : Type} : ∀ {r : Res α}, r.Wk fun _ => True
  | .ok v S => trivial
  | .exc _ _ _ => trivial
  | .draw n k => fun d hd => Res.Wk.any
  | .fail => trivial
theorem Res.All.wk {α : Type} {P : α → St → Prop} {P' : α → Prop} {E : Nat → List (Str × D) → St → Prop} : ∀ {r : Res α}, r.All P E → r.Wk P' → r.All (fun v S => P' v ∧ P v S) E
  | .ok v S, h, k => ⟨k, h⟩
  | .exc c fs S, h, _ => h
  | .draw n k, h, kk => ⟨h.1, fun d hd => Res.All.wk (h.2 d hd) (kk d hd)⟩
  | .fail, h, _ => h
def LenF (n : Nat) (fs : EvF (List D)) : Prop := ∀ v S, (fs v S).Wk fun ds => ds.length = n
theorem LenF.nil : LenF 0 fun _ S => .ok [] S := fun _ _ => rfl
theorem LenF.cons {n : Nat} {fa : EvF D} (h : LenF n fs) : LenF (n + 1) (eCons fa fs) := fun v S => by
  refine Res.Wk.bind (P := fun _ => True) (fun a S1 _ => ?_) Res.Wk.any
  refine Res.Wk.bind (P := fun ds => ds.length = n) (fun ds S2 hd => ?_) (h v S1)
  show (a :: ds).length = n + 1
  rw [List.length_cons, hd]
/-- a list's reading, with its length -/
theorem rdL_len {n : Nat} {γ δ : Type} {R2 : RelT γ δ} {f : List D → St → Res γ} {Q : δ → Hp → Prop} (hl : Rl Γ X ρ env σ S H) (ln : LenF n fs) (h : ((fs env S).bind f).All (PostG Γ X R2 env σ ρ S H Q) (PostX Γ X W env σ ρ S H)) :
    rdL Γ X W fs σ H fun us H1 => us.length = n ∧ Mid Γ X W (RDs Γ) R2 env σ ρ S H Q f us H1 := by
  refine ⟨ρ, env, S, hl, (h.bind.wk (ln env S)).mono (fun a S1 ⟨la, h1⟩ ρ1 H1 b hl1 e r => ⟨r.len.trans la, ρ1, S1, a, hl1, e, r, h1.mono (fun _ _ p => p.ext hl.h.wf hl1.h.wf e) fun _ _ _ p => p.ext hl.h.wf hl1.h.wf e⟩) fun _ _ _ p => p⟩
/-! ### keywords -/
theorem x_knil : PK X [] (rdL Γ X W fun _ S => .ok [] S) := ⟨fun pos pins s σ H Q I h => pk_nil.run pos pins s σ H Q I (by
  obtain ⟨ρ, env, S, hl, h⟩ := h
  exact rd_end (R := RDs Γ) hl h rfl)⟩
theorem x_kcons {nm : Option Str} {kp : Pos} {fa : EvF D} (ha : PE X e (rd Γ X W fa)) (hs : PK X kws (rdL Γ X W fk)) : PK X (⟨nm, e, kp⟩ :: kws) (rdL Γ X W (eCons fa fk)) := ⟨fun pos pins s σ H Q I h => (pk_cons ha hs).run pos pins s σ H Q I (by
  obtain ⟨ρ, env, S, hl, h⟩ := h
  refine (rd_step hl h).mono fun x H1 ⟨ρ1, S1, a, hl1, e1, ra, h1⟩ => ?_
  refine (rd_step (g := fk) hl1 h1).mono fun ys H2 ⟨ρ2, S2, b, hl2, e2, rb, h2⟩ => ?_
  exact rd_end (R := RDs Γ) hl2 h2 (RDs.cons (ra.ext e2) rb))⟩
def kwNm : List Keyword → Bool
  | [] => true
  | k :: r => k.arg.isSome && kwNm r
theorem kw_all {env : PySem.Env} : ∀ {kws : List Keyword} {pos : Pos}, kwNm kws = true → (backToKw pos (keywordEach kws env)).all (·.1.isSome) = true
  | [], _, _ => rfl
  | ⟨nm, v, _⟩ :: r, pos, h => by
    unfold kwNm at h
    rw [Bool.and_eq_true] at h
    show (nm.isSome && _) = true
    rw [h.1, Bool.true_and]
    exact kw_all h.2
theorem kw_none {env : PySem.Env} : ∀ {kws : List Keyword} {pos : Pos}, kwNm kws = true → (backToKw pos (keywordEach kws env)).any (·.1.isNone) = false
  | [], _, _ => rfl
  | ⟨nm, v, _⟩ :: r, pos, h => by
    unfold kwNm at h
    rw [Bool.and_eq_true] at h
    show (nm.isNone || _) = false
    cases nm with
    | none => exact nomatch h.1
    | some y =>
      show (false || _) = false
      rw [Bool.false_or]
      exact kw_none h.2
theorem kw_names {env : PySem.Env} : ∀ {kws : List Keyword} {pos : Pos}, (backToKw pos (keywordEach kws env)).filterMap (·.1) = kws.filterMap (·.arg)
  | [], _ => rfl
  | ⟨nm, v, _⟩ :: r, pos => by
    show ((nm, _) :: backToKw pos (keywordEach r env)).filterMap (·.1) = _
    cases nm with
    | none => exact kw_names
    | some y => exact congrArg (y :: ·) kw_names
theorem kw_len : ∀ {kws : List Keyword}, kwNm kws = true → (kws.filterMap (·.arg)).length = kws.length
  | [], _ => rfl
  | ⟨nm, v, _⟩ :: r, h => by
    unfold kwNm at h
    rw [Bool.and_eq_true] at h
    cases nm with
    | none => exact nomatch h.1
    | some y => exact congrArg (· + 1) (kw_len h.2)
/-! ### the calls -/
abbrev eCall (cf : CallF) (i : Nat) (ar : List Ar) (fs : EvF (List D)) : EvF D := fun v S => (fs v S).bind fun xs S1 => fCall cf i ar xs S1
structure CallH (Γ : Gm) (X : Cx) (W : WX) (k : Nat) (cf : CallF) : Prop where
  tk : L2N.Takes X W
  g : XG Γ X
  sh : ShpOk Γ
  df : DfOk Γ k cf
  lm : LmOk Γ k cf
  ix : ∀ (i : Nat) (ds : List D) (S : St) (P : D → St → Prop) (E : Nat → List (Str × D) → St → Prop), (cf (.df i) ds S).All P E → ds.length = (Γ.psn i).length ∧ ∀ us : List Value, us.length = (Γ.psn i).length → bindArgs (Γ.fd i) ⟨us, []⟩ = pure ((Γ.psn i).zip us)
  hr : Room k X.A
  kp : ∀ i : Nat, PySem.W.keepIn Γ.K (.ref (Γ.fnA i)) = true
  hgd : X.A.guards = some []
section
variable {i n : Nat} {ks : List Str} {ar : List Ar} (c : CallH Γ X W k cf) (hm : (i, n, kws.filterMap (·.arg)) ∈ Γ.shp) (har : params n (kws.filterMap (·.arg)) ((Γ.psn i).map fun x => (x, none)) 0 = some ar)
  (hg : L2.Gl X x) (hmg : X.mg x = some (.ref (Γ.fnA i)))  (hdb : (x == ("__debug__" : Str)) = false)
include c hm har hg hmg hdb
/-- f(e, ..) -/
theorem x_call (hn : (e :: es).length = n) (hkw : kws = []) (ha : PA X (e :: es) (rdL Γ X W fs)) (ln : LenF (e :: es).length fs) (hst : noStar (e :: es) = true) : PE X (.Call (.Name x p) (e :: es) kws pos) (rd Γ X W (eCall cf i ar fs)) := by
  subst hkw
  have hk : PySem.W.keepIn X.K (.ref (Γ.fnA i)) = true := by rw [c.g.K]; exact c.kp i
  refine ⟨fun pins s σ H Q I h => ?_⟩
  obtain ⟨ρ, env, S, R, h⟩ := h
  refine wpAny_Call_Name_kw (ld_glob I hg hmg ?_ hdb)
  refine PySem.W.callWith_K (h₀ := X.base) I.ok.mod.kin hk (thn (ha.run pos pins s σ H _ I (rdL_len R ln h)) fun us s1 ⟨vs, H1, I1, r, l1, ρ1, S1, ds, R1, e1, rr, h1⟩ => ⟨I1.kIn, ?_⟩) (star_off (noStar_tail hst).2) (plain_any (noStar_tail hst).1)
  exact call_df (ks := []) (ws := []) (us := us) c.tk c.g c.sh c.df c.hr c.hgd hm har I1 R1 rr (by rw [List.append_nil]; exact r) (r.length.symm.trans (l1.trans hn)) rfl h1
/-- f() -/
theorem x_call0 (hn : 0 = n) (hkw : kws = []) : PE X (.Call (.Name x p) [] kws pos) (rd Γ X W (eCall cf i ar fun _ S => .ok [] S)) := by
  subst hkw
  have hk : PySem.W.keepIn X.K (.ref (Γ.fnA i)) = true := by rw [c.g.K]; exact c.kp i
  refine ⟨fun pins s σ H Q I h => ?_⟩
  obtain ⟨ρ, env, S, R, h⟩ := h
  refine wpAny_Call_Name_kw (ld_glob I hg hmg ?_ hdb)
  refine PySem.W.callWith_K0 I.kIn hk ?_
  exact call_df (ks := []) (ws := []) (us := []) (ds := []) (vs := []) c.tk c.g c.sh c.df c.hr c.hgd hm har I R RDs.nil .nil hn rfl h
/-- f(k = v, ..) -/
theorem x_callK0 (hn : 0 = n) (hkn : kwNm kws = true) (hw : PK X kws (rdL Γ X W fk)) (lk : LenF kws.length fk) : PE X (.Call (.Name x p) [] kws pos) (rd Γ X W (eCall cf i ar fk)) := by
  have hk : PySem.W.keepIn X.K (.ref (Γ.fnA i)) = true := by rw [c.g.K]; exact c.kp i
  refine ⟨fun pins s σ H Q I h => ?_⟩
  obtain ⟨ρ, env, S, R, h⟩ := h
  refine wpAny_Call_Name_kw (ld_glob I hg hmg ?_ hdb)
  refine PySem.W.callWith_KW0 (h₀ := X.base) I.ok.mod.kin hk (kw_all hkn) (thn (hw.run pos pins s σ H _ I (rdL_len R lk h)) fun us s1 ⟨vs, H1, I1, r, l1, ρ1, S1, ds, R1, e1, rr, h1⟩ => ⟨I1.kIn, ?_⟩) (by
    show (false || _) = false
    rw [Bool.false_or]
    exact kw_none hkn)
  rw [kw_names]
  exact call_df (us := []) (ws := us) c.tk c.g c.sh c.df c.hr c.hgd hm har I1 R1 rr r hn (r.length.symm.trans (l1.trans (kw_len hkn).symm)) h1
/-- f(e, .., k = v, ..) -/
theorem x_callK (hn : (e :: es).length = n) (hkn : kwNm kws = true) (ha : PA X (e :: es) (rdL Γ X W fs)) (ln : LenF (e :: es).length fs) (hst : noStar (e :: es) = true) (hw : PK X kws (rdL Γ X W fk)) (lk : LenF kws.length fk) :
    PE X (.Call (.Name x p) (e :: es) kws pos) (rd Γ X W fun v S => (fs v S).bind fun xs S1 => (fk v S1).bind fun ys S2 => fCall cf i ar (xs ++ ys) S2) := by
  have hk : PySem.W.keepIn X.K (.ref (Γ.fnA i)) = true := by rw [c.g.K]; exact c.kp i
  refine ⟨fun pins s σ H Q I h => ?_⟩
  obtain ⟨ρ, env, S, R, h⟩ := h
  refine wpAny_Call_Name_kw (ld_glob I hg hmg ?_ hdb)
  refine PySem.W.callWith_KW (h₀ := X.base) I.ok.mod.kin hk (kw_all hkn) (thn (ha.run pos pins s σ H _ I (rdL_len R ln h)) fun us s1 ⟨vs, H1, I1, r, l1, ρ1, S1, ds, R1, e1, rr, h1⟩ => ?_) (by
    rw [plain_any hst, Bool.false_or]
    exact kw_none hkn) (star_off (noStar_tail hst).2)
  refine thn (hw.run pos pins s1 σ H1 _ I1 (rdL_len R1 lk h1)) fun ws s2 ⟨zs, H2, I2, rz, l2, ρ2, S2, ys, R2, e2, ry, h2⟩ => ⟨I2.kIn, ?_⟩
  rw [kw_names]
  exact call_df (us := us) (ws := ws) c.tk c.g c.sh c.df c.hr c.hgd hm har I2 R2 ((rr.ext e2).app ry) (r.append rz) (r.length.symm.trans (l1.trans hn)) (rz.length.symm.trans (l2.trans (kw_len hkn).symm)) h2
end
end
end
end Ev
end
section
set_option Elab.async false
set_option linter.all false
set_option maxRecDepth 100000
set_option maxHeartbeats 400000
/-! CALLS of values: defs, lambdas. -/
namespace Ev
noncomputable section
open PySem PySem.Spec PyProof.Rows L2
section
variable {Γ : Gm} {X : Cx} {W : WX} {ρ ρ' : Nat → Addr} {S S' : St} {H H' : Hp} {env : Env} {σ : L2.St} {pins : List (Addr × Obj)} {s s' : Shared} {Q : VK} {k : Nat} {cf : CallF}
theorem fnL_at {P : Program} {w : World} {h : Heap} {f c' : Addr} {L : LamI} {cl : List (Str × Addr)} (hok : HOk P w H h) (e : H f = some (FnL f L cl c')) : PySem.W.FnAt f h := by
  obtain ⟨⟨pm, ctv, z⟩, _, _⟩ := hok f _ e
  exact ⟨_, _, _, _, z⟩
theorem clo_at {i l : Nat} {ls : List Nat} (I : Inv X pins σ H s) (R : Rl Γ X ρ env σ S H) (h : S.get l = some (.clo i ls)) : PySem.W.FnAt (ρ l) s.heap := by
  obtain ⟨cl, c', a, _, _⟩ := (R.h.obj l _ h).2
  exact fnL_at I.hok a
theorem call_dfv {i : Nat} {us : List Value} {ds : List D} {vs : List V} (c : CallH Γ X W k cf) (I : Inv X pins σ H s) (R : Rl Γ X ρ env σ S H) (r : RDs Γ ρ S.n H ds vs) (rv : Vals vs us)
    (h : (cf (.df i) ds S).All (PostG Γ X (RD Γ) env σ ρ S H Q) (PostX Γ X W env σ ρ S H)) : wpAny (model X.prog X.w) X.A (call (.ref (Γ.fnA i)) us) (EP X pins σ Q) X.xe s := by
  obtain ⟨l1, hb⟩ := c.ix i ds S _ _ h
  refine wpAny_call (codeAny_mono (run_cf c.tk I R (fun H1 Q1 E1 e0 rh ew hh => ?_) h) fun r s' hq => ?_)
  · rw [c.g.P, c.g.w, c.g.K, c.g.mg, c.g.base] at e0
    rw [c.g.P, c.g.w]
    exact c.df i ds X.A X.stack s ρ S H1 _ us vs Q1 E1 c.hr c.hgd e0 rh (RDs.extW ew r) rv (.of_eq (hb us (by rw [← rv.length, r.len, l1]))) hh
  · cases r with
    | error e => exact hq
    | ok fl => cases fl <;> exact hq
theorem call_lmv {i l : Nat} {ls : List Nat} {us : List Value} {ds : List D} {vs : List V} (c : CallH Γ X W k cf) (I : Inv X pins σ H s) (R : Rl Γ X ρ env σ S H) (hl : S.get l = some (.clo i ls)) (r : RDs Γ ρ S.n H ds vs) (rv : Vals vs us)
    (h : (cf (.lm i ls) ds S).All (PostG Γ X (RD Γ) env σ ρ S H Q) (PostX Γ X W env σ ρ S H)) : wpAny (model X.prog X.w) X.A (call (.ref (ρ l)) us) (EP X pins σ Q) X.xe s := by
  refine wpAny_call (codeAny_mono (run_cf c.tk I R (fun H1 Q1 E1 e0 rh ew hh => ?_) h) fun r s' hq => ?_)
  · rw [c.g.P, c.g.w, c.g.K, c.g.mg, c.g.base] at e0
    rw [c.g.P, c.g.w]
    exact c.lm i l ls ds X.A X.stack s ρ S H1 us vs Q1 E1 c.hr c.hgd e0 rh hl (RDs.extW ew r) rv hh
  · cases r with
    | error e => exact hq
    | ok fl => cases fl <;> exact hq
variable {e : Expr} {es : List Expr} {ff : EvF D} {fs : EvF (List D)} {pos p : Pos} {x : Str}
abbrev eCal (cf : CallF) (ff : EvF D) (fs : EvF (List D)) : EvF D := fun v S => (ff v S).bind fun g S1 => match fnOf S1 g with
  | none => .fail
  | some _ => (fs v S1).bind fun xs S2 => match fnOf S2 g with
    | some h => cf h xs S2
    | none => .fail
theorem fnOf_ref {g : D} {h : Fn} (e : fnOf S g = some h) : (∃ i, g = .fn i ∧ h = .df i) ∨ ∃ l i ls, g = .ref l ∧ S.get l = some (.clo i ls) ∧ h = .lm i ls := by
  unfold fnOf at e
  split at e
  · cases e
    exact .inl ⟨_, rfl, rfl⟩
  · split at e
    · rename_i l i cs q
      cases e
      exact .inr ⟨_, _, _, rfl, q, rfl⟩
    · exact nomatch e
  · exact nomatch e
theorem x_cal (c : CallH Γ X W k cf) (hf : PE X (.Name x p) (rd Γ X W ff)) (ha : PA X (e :: es) (rdL Γ X W fs)) (hst : noStar (e :: es) = true) : PE X (.Call (.Name x p) (e :: es) [] pos) (rd Γ X W (eCal cf ff fs)) := by
  refine ⟨fun pins s σ H Q I h => ?_⟩
  obtain ⟨ρ, env, S, R, h⟩ := h
  refine wpAny_Call_Name_kw (thn (hf.run pins s σ H _ I (rd_step R h)) fun u s1 ⟨v, H1, I1, r1, ρ1, S1, g, R1, e1, rg, h1⟩ => ?_)
  dsimp only at h1
  split at h1
  · exact False.elim h1
  · rename_i h0 e0
    rcases fnOf_ref e0 with ⟨i, rfl, _⟩ | ⟨l, i, ls, rfl, hl, _⟩
    · obtain rfl : v = .ref (Γ.fnA i) := rg
      obtain rfl : u = Value.ref (Γ.fnA i) := r1
      have hk : PySem.W.keepIn X.K (.ref (Γ.fnA i)) = true := by rw [c.g.K]; exact c.kp i
      refine PySem.W.callWith_K (h₀ := X.base) I1.ok.mod.kin hk (thn (ha.run pos pins s1 σ H1 _ I1 (rd_step R1 h1)) fun us s2 ⟨vs, H2, I2, r, ρ2, S2, ds, R2, e2, rr, h2⟩ => ⟨I2.kIn, ?_⟩) (star_off (noStar_tail hst).2) (plain_any (noStar_tail hst).1)
      exact call_dfv c I2 R2 rr r h2
    · obtain ⟨lt, rfl⟩ := (show l < S1.n ∧ v = .ref (ρ1 l) from rg)
      obtain rfl : u = Value.ref (ρ1 l) := r1
      refine PySem.W.callWith_F (first := []) (clo_at I1 R1 hl) (thn (ha.run pos pins s1 σ H1 _ I1 (rd_step R1 h1)) fun us s2 ⟨vs, H2, I2, r, ρ2, S2, ds, R2, e2, rr, h2⟩ => ?_) (star_off (noStar_tail hst).2) (plain_any (noStar_tail hst).1)
      dsimp only at h2
      split at h2
      · rename_i h3 e3
        rcases fnOf_ref e3 with ⟨i, z, _⟩ | ⟨l', i', ls', z, hl', q⟩
        · exact nomatch z
        · cases z
          subst q
          rw [← e2.ag l lt]
          exact ⟨clo_at I2 R2 hl', call_lmv c I2 R2 hl' rr r h2⟩
      · exact False.elim h2
theorem x_cal0 (c : CallH Γ X W k cf) (hf : PE X (.Name x p) (rd Γ X W ff)) : PE X (.Call (.Name x p) [] [] pos) (rd Γ X W (eCal cf ff fun _ S => .ok [] S)) := by
  refine ⟨fun pins s σ H Q I h => ?_⟩
  obtain ⟨ρ, env, S, R, h⟩ := h
  refine wpAny_Call_Name_kw (thn (hf.run pins s σ H _ I (rd_step R h)) fun u s1 ⟨v, H1, I1, r1, ρ1, S1, g, R1, e1, rg, h1⟩ => ?_)
  dsimp only at h1
  split at h1
  · exact False.elim h1
  · rename_i h0 e0
    have h1 : (match fnOf S1 g with
      | some h => cf h [] S1
      | none => .fail).All (PostG Γ X (RD Γ) env σ ρ1 S1 H1 Q) (PostX Γ X W env σ ρ1 S1 H1) := h1
    rw [e0] at h1
    rcases fnOf_ref e0 with ⟨i, rfl, rfl⟩ | ⟨l, i, ls, rfl, hl, rfl⟩
    · obtain rfl : v = .ref (Γ.fnA i) := rg
      obtain rfl : u = Value.ref (Γ.fnA i) := r1
      have hk : PySem.W.keepIn X.K (.ref (Γ.fnA i)) = true := by rw [c.g.K]; exact c.kp i
      refine PySem.W.callWith_K0 I1.kIn hk ?_
      exact call_dfv (us := []) (ds := []) (vs := []) c I1 R1 RDs.nil .nil h1
    · obtain ⟨lt, rfl⟩ := (show l < S1.n ∧ v = .ref (ρ1 l) from rg)
      obtain rfl : u = Value.ref (ρ1 l) := r1
      refine PySem.W.callWith_F0 (first := []) (clo_at I1 R1 hl) ?_
      exact call_lmv (us := []) (ds := []) (vs := []) c I1 R1 hl RDs.nil .nil h1
end
end
end Ev
end
section
set_option Elab.async false
set_option linter.all false
set_option maxRecDepth 100000
set_option maxHeartbeats 400000
/-! LAMBDAS: their making. -/
namespace Ev
noncomputable section
open PySem PySem.Spec PyProof.Rows L2 LamX
section
variable {Γ : Gm} {X : Cx} {W : WX} {ρ ρ' : Nat → Addr} {S S' : St} {H H1 : Hp} {env : Env} {σ : L2.St} {pins : List (Addr × Obj)} {s s' : Shared} {f : Addr} {o : O}
theorem Ext.newN (wf : ∀ l o, S.get l = some o → l < S.n) (h : H f = none) (e : ExtN H H1) (dm : ∀ b, H1 b = none → H b = none) : Ext ρ S H (rup ρ S.n f) (S.new o) H1 := by
  refine ⟨⟨Nat.le_succ S.n, fun _ hl => rup_lt hl, fun a u ha hi => e a u ha (fun ps z => by rw [z] at hi; exact (nomatch hi)), fun a u ha hn _ => e a u ha hn, fun l o' hl e t => ?_, fun l o' hl e t => ?_, dm, fun l od hl e => ?_, fun l od hl e => ?_⟩, fun l od hl e => ?_⟩
  · rcases St.get_new e with ⟨a, b⟩ | ⟨a, b⟩
    · exact absurd a (Nat.ne_of_lt hl)
    · exact ⟨o', b, t⟩
  · rcases St.get_new e with ⟨a, b⟩ | ⟨a, b⟩
    · rw [a, rup_same]; exact h
    · exact absurd (wf l o' b) (Nat.not_lt.mpr hl)
  · rcases St.get_new e with ⟨a, b⟩ | ⟨a, b⟩
    · exact absurd a (Nat.ne_of_lt hl)
    · exact ⟨od, b⟩
  · rcases St.get_new e with ⟨a, b⟩ | ⟨a, b⟩
    · rw [a, rup_same]; exact h
    · exact absurd (wf l _ b) (Nat.not_lt.mpr hl)
  · rcases St.get_new e with ⟨a, b⟩ | ⟨a, b⟩
    · exact absurd a (Nat.ne_of_lt hl)
    · exact b
theorem RO.notbl {n l : Nat} (t : trk o = true) (h : RO Γ ρ n env H l o) {ps : Array Value} : H (ρ l) ≠ some (.tbl ps) := fun e => by
  cases o with
  | lst xs => obtain ⟨_, _, b, _⟩ := h; rw [e] at b; exact nomatch b
  | dic xs => obtain ⟨_, _, b, _⟩ := h; rw [e] at b; exact nomatch b
  | clo i ls => obtain ⟨_, _, b, _⟩ := h; rw [e] at b; exact nomatch b
  | exn i ls => obtain ⟨_, _, b, _⟩ := h; rw [e] at b; exact nomatch b
  | opq => obtain ⟨_, _, b, _⟩ := h; rw [e] at b; exact nomatch b
  | scr => obtain ⟨_, b⟩ := h; rw [e] at b; exact nomatch b
  | _ => exact nomatch t
theorem Rl.newN (R : Rl Γ X ρ env σ S H) (h : H f = none) (e : ExtN H H1) (dm : ∀ b, H1 b = none → H b = none) (T1 : NdefX.TabsN Γ.T H1) (hn : RO Γ (rup ρ S.n f) (S.n + 1) env H1 S.n o) (nc : ∀ od, o ≠ .cel od := by intro _ h; cases h) : Rl Γ X (rup ρ S.n f) env σ (S.new o) H1 := by
  have x : Ext ρ S H (rup ρ S.n f) (S.new o) H1 := Ext.newN R.h.wf h e dm
  refine ⟨⟨fun l x' hx => ?_, fun l l' x x' hx hx' t t' z => ?_, T1, fun l l' od od' u n1 n2 h1 h2 h3 z => ?_⟩, R.s.ext x⟩
  · rcases St.get_new hx with ⟨a, b⟩ | ⟨a, b⟩
    · subst a b
      exact ⟨Nat.lt_succ_self _, hn⟩
    · have q := R.h.obj l x' b
      exact ⟨Nat.lt_succ_of_lt q.1, q.2.ext x q.1 fun t ho hh => e _ _ hh fun ps z => RO.notbl t q.2 (hh.trans (congrArg some z))⟩
  · rcases St.get_new hx with ⟨a, b⟩ | ⟨a, b⟩
    · rcases St.get_new hx' with ⟨a', b'⟩ | ⟨a', b'⟩
      · exact a.trans a'.symm
      · have q := R.h.obj l' x' b'
        obtain ⟨ho', hh⟩ := q.2.at t'
        rw [a, rup_same, rup_lt q.1] at z
        rw [← z, h] at hh
        exact nomatch hh
    · have q := R.h.obj l x b
      rcases St.get_new hx' with ⟨a', b'⟩ | ⟨a', b'⟩
      · obtain ⟨ho', hh⟩ := q.2.at t
        rw [a', rup_same, rup_lt q.1] at z
        rw [z, h] at hh
        exact nomatch hh
      · have q' := R.h.obj l' x' b'
        rw [rup_lt q.1, rup_lt q'.1] at z
        exact R.h.inj l l' x x' b b' t t' z
  · rcases St.get_new h1 with ⟨a, b⟩ | ⟨a, b⟩
    · exact absurd b.symm (nc _)
    · rcases St.get_new h2 with ⟨a', b'⟩ | ⟨a', b'⟩
      · exact absurd b'.symm (nc _)
      · rw [rup_lt (R.h.wf _ _ b), rup_lt (R.h.wf _ _ b')] at z
        rcases (R.h.obj l _ b).2 with ⟨i, c⟩ | ⟨v, c, _⟩
        · exact absurd c (n1 i)
        · exact R.h.injF l l' od od' v n1 n2 b b' c z
/-- a lambda just made is known from now on -/
theorem inv_lam {L : LamI} {cl : List (Str × Addr)} {pm ctv : Value} {c' : Addr} {t' : Nat} (I : Inv X pins σ H s) :
    Inv X pins σ (upd H s.heap.objs.size (FnL s.heap.objs.size L cl c')) { s with heap := s.heap.push (lamO L cl pm c' ctv), toks := t' } := by
  refine I.laid (a := s.heap.objs.size) (fun b u e => Heap.get?_push_of_some _ e) (Nat.le_refl _) ?_
  have e : (s.heap.push (lamO L cl pm c' ctv)).get? s.heap.objs.size = some (lamO L cl pm c' ctv) := Heap.get?_push_size _ rfl
  exact ⟨⟨pm, ctv, e⟩, ⟨_, e⟩, fun h1 h2 ⟨p, t, z⟩ st => ⟨p, t, st _ z⟩⟩
theorem lam_makeN {T : List NdefX.NTab} {nm : Nat → Nat → Str} {c P : Addr} {L : LamI} {pos : Pos} {E : Value → Shared → Prop} {Q : Value → Shared → Prop} (I : Inv X pins σ H s) (TB : TabB X.base X.mg c P) (hcode : X.env.code = .ref c) (hq : X.env.qual = L.qual)
    (hm : (P, nm) ∈ T) (hn : nm pos.line pos.col = L.q) (hu : ∀ p ∈ T, p.1 = P → p.2 = nm) (hT : NdefX.TabsN T H) (hdef : defaultsOf L.params X.env = ([], [])) (hfree : ∀ y ∈ L.scope.names, y.2 = .free → ∃ c, X.env.cells.lookup y.1 = some c)
    (h : ∀ (f c' : Addr) (H1 : Hp) (s' : Shared), Inv X pins σ H1 s' → ExtN H H1 → (∀ b, H1 b = none → H b = none) → NdefX.TabsN T H1 → H f = none → H1 f = some (FnL f L (cloFrom X.env.cells L.scope.names []) c') → H1 c' = some (CodeO c' L.q) → Q (.ref f) s') :
    wpAny (model X.prog X.w) X.A (eval (.Lambda L.params L.body L.scope pos) X.env) Q E s := by
  obtain ⟨ps, hP, ht, ha⟩ := (show NdefX.TabN H P nm from hT _ hm)
  refine PySem.W.kla_eval hdef ?_
  have bP : s.heap.BuiltinsAt X.mg P := TB.bm.keeps I.bk
  have hP' : s.heap.get? P = some { cls := .none, data := .fields ps } := I.hok P _ hP
  have hLq : L.q = X.env.qual ++ "<lambda>" := by rw [hq]
  cases hc : codeAmong pos ps.toList with
  | none =>
    refine PySem.W.kla_makeFunction (mg := X.mg) (c := c) (P := P) (ps := ps) (closure_ok hfree) I.ok.glob (I.mod.glob.keeps I.bk) hcode (TB.code.keeps I.bk) hP' ht hc TB.gP bP fun c' ctv h' tk hx hge hlt hrec htb => ?_
    rw [← hLq] at hrec ⊢
    obtain ⟨c2, oc, vs, t, e2, hoc, hd, hv⟩ := hrec
    cases e2
    have nC : H c' = none := I.hok.fresh hge
    have I1 := inv_table (t' := tk) (more := #[rawInt pos.line, rawInt pos.col, .ref c']) (h' := h') I hP (fun b o hb e => hx b o hb e) htb hge ⟨oc, vs, t, hoc, hd, hv⟩
    have hE : ExtN H (upd (upd H P (.tbl (ps ++ #[rawInt pos.line, rawInt pos.col, .ref c']))) c' (CodeO c' L.q)) := fun b o e n => by
      rw [upd_ne (ne_of_none e nC), upd_ne (fun z => n ps (Option.some.inj (e.symm.trans (by rw [z]; exact hP))))]
      exact e
    have eL : (ps ++ #[rawInt pos.line, rawInt pos.col, .ref c']).toList = ps.toList ++ [rawInt pos.line, rawInt pos.col, .ref c'] := by simp
    have T1 : NdefX.TabsN T (upd (upd H P (.tbl (ps ++ #[rawInt pos.line, rawInt pos.col, .ref c']))) c' (CodeO c' L.q)) := fun p hp => by
      by_cases hb : p.1 = P
      · rw [hu p hp hb, hb]
        refine ⟨_, by rw [upd_ne (ne_of_none hP nC), upd_same], by rw [eL]; exact PySem.TriplesOk_snoc _ _ _ _ ht, fun p' cv hcv => ?_⟩
        rw [eL] at hcv
        rcases NdefX.among_app2 _ ht hcv with z | ⟨z, z1, z2⟩
        · obtain ⟨c0, e1, e2⟩ := ha p' cv z
          exact ⟨c0, e1, hE _ _ e2 codeO_ne⟩
        · refine ⟨c', z, ?_⟩
          rw [← z1, ← z2, hn]
          exact upd_same
      · obtain ⟨ps', a1, a2, a3⟩ := hT p hp
        refine ⟨ps', by rw [upd_ne (ne_of_none a1 nC), upd_ne hb]; exact a1, a2, fun p' cv hcv => ?_⟩
        obtain ⟨c0, e1, e2⟩ := a3 p' cv hcv
        exact ⟨c0, e1, hE _ _ e2 codeO_ne⟩
    have nF := I1.hok.fresh (Nat.le_refl _)
    have I2 := inv_lam (L := L) (cl := cloFrom X.env.cells L.scope.names []) (c' := c') (t' := tk) (pm := (X.mg "__name__").getD .none) (ctv := ctv) I1
    refine h h'.objs.size c' _ _ I2 (fun b o e n => ?_) (fun b e => NdefX.upd_none (NdefX.upd_none (NdefX.upd_none e))) (T1.ext fun b o e => ?_) (I.hok.fresh (Nat.le_trans hge (Nat.le_of_lt hlt))) upd_same ?_
    · have e1 := hE b o e n
      exact (upd_ne (ne_of_none e1 nF)).trans e1
    · exact (upd_ne (ne_of_none e nF)).trans e
    · exact (upd_ne (Nat.ne_of_lt hlt)).trans upd_same
  | some cv =>
    obtain ⟨c', e, hco⟩ := ha pos cv hc
    subst e
    rw [hn] at hco
    refine PySem.W.kla_makeFunctionHit (mg := X.mg) (c := c) (P := P) (ps := ps) (closure_ok hfree) I.ok.glob (I.mod.glob.keeps I.bk) hcode (TB.code.keeps I.bk) hP' ht hc bP fun ctv h' tk hx hsz => ?_
    rw [← hLq]
    have I1 : Inv X pins σ H { s with heap := h', toks := tk } := I.kept hx
    have nF : H h'.objs.size = none := I1.hok.fresh (Nat.le_refl _)
    have I2 := inv_lam (L := L) (cl := cloFrom X.env.cells L.scope.names []) (c' := c') (t' := tk) (pm := (X.mg "__name__").getD .none) (ctv := ctv) I1
    refine h h'.objs.size c' _ _ I2 (fun b o e n => ?_) (fun b e => NdefX.upd_none e) (hT.ext fun b o e => ?_) nF upd_same ?_
    · exact (upd_ne (ne_of_none e nF)).trans e
    · exact (upd_ne (ne_of_none e nF)).trans e
    · exact (upd_ne (ne_of_none hco nF)).trans hco
end
end
end Ev
end
section
set_option Elab.async false
set_option linter.all false
set_option maxRecDepth 100000
set_option maxHeartbeats 400000
/-! LAMBDAS: the rule of their making. -/
namespace Ev
noncomputable section
open PySem PySem.Spec PyProof.Rows L2 LamX
section
variable {Γ : Gm} {X : Cx} {W : WX} {ρ ρ' : Nat → Addr} {S S' : St} {H H1 : Hp} {env : Env} {σ : L2.St} {pins : List (Addr × Obj)} {s s' : Shared} {f : Addr} {o : O}
theorem cellsAt_get : ∀ {cs ls : List Nat}, cellsAt env cs = some ls → ls.length = cs.length ∧ ∀ (j i : Nat), cs[j]? = some i → ∃ l, ls[j]? = some l ∧ env[i]? = some (Sl.ce l)
  | [], ls, h => by
    cases h
    exact ⟨rfl, fun j i e => by simp at e⟩
  | c :: cs, ls, h => by
    rw [cellsAt_cons] at h
    rw [nth_get] at h
    split at h
    · rename_i l ls' e1 e2
      cases h
      obtain ⟨a, b⟩ := cellsAt_get e2
      refine ⟨congrArg (· + 1) a, fun j i e => ?_⟩
      cases j with
      | zero =>
        have e : c = i := by simpa using e
        subst e
        exact ⟨l, rfl, e1⟩
      | succ j =>
        obtain ⟨l', x, y⟩ := b j i (by simpa using e)
        exact ⟨l', by simpa using x, y⟩
    · exact nomatch h
theorem mem_freeOf {sc : Scope} {y : Str} : y ∈ freeOf sc ↔ (y, NameKind.free) ∈ sc.names := by
  unfold freeOf
  rw [List.mem_filterMap]
  constructor
  · rintro ⟨⟨x, k⟩, hm, e⟩
    dsimp only at e
    split at e
    · rename_i q
      have q : k = .free := by simpa using q
      cases e
      rw [q] at hm
      exact hm
    · exact nomatch e
  · intro h
    exact ⟨(y, .free), h, by simp⟩
/-- the facts about a lambda's text, where it stands -/
structure LamAt (Γ : Gm) (X : Cx) (i : Nat) (cs : List Nat) (pos : Pos) (c P : Addr) (nm : Nat → Nat → Str) : Prop where
  TB : TabB X.base X.mg c P
  code : X.env.code = .ref c
  q : X.env.qual = (Γ.lam i).qual
  tab : (P, nm) ∈ Γ.T
  nm_ : nm pos.line pos.col = (Γ.lam i).q
  uni : ∀ p ∈ Γ.T, p.1 = P → p.2 = nm
  dflt : defaultsOf (Γ.lam i).params X.env = ([], [])
  free : ∀ y ∈ (Γ.lam i).scope.names, y.2 = .free → X.env.scope.names.lookup y.1 = some .cell ∨ X.env.scope.names.lookup y.1 = some .free
  fr : (Γ.lam i).fr = freeOf (Γ.lam i).scope
  at_ : cs.map (fun j => X.N[j]?) = (Γ.lam i).fr.map some
theorem x_lam {i : Nat} {cs : List Nat} {pos : Pos} {c P : Addr} {nm : Nat → Nat → Str} (L : LamAt Γ X i cs pos c P nm) : PE X (.Lambda (Γ.lam i).params (Γ.lam i).body (Γ.lam i).scope pos) (rd Γ X W fun v S => match cellsAt v cs with
    | some ls => .ok (.ref S.n) (S.new (.clo i ls))
    | none => .fail) := by
  refine ⟨fun pins s σ H Q I h => ?_⟩
  obtain ⟨ρ, env, S, R, h⟩ := h
  dsimp only at h
  split at h
  · rename_i ls el
    have hfree : ∀ y ∈ (Γ.lam i).scope.names, y.2 = .free → ∃ c, X.env.cells.lookup y.1 = some c := fun y hy e => (L.free y hy e).elim (fun z => I.ok.has _ (.inl z)) fun z => I.ok.has _ (.inr z)
    refine lam_makeN I L.TB L.code L.q L.tab L.nm_ L.uni R.h.tabs L.dflt hfree fun f c' H1 s' I1 eN dm T1 f0 f1 c1 => ?_
    have cR : ClR (rup ρ S.n f) (S.n + 1) (Γ.lam i).fr (cloFrom X.env.cells (Γ.lam i).scope.names []) ls := by
      obtain ⟨l1, l2⟩ := cellsAt_get el
      have hl : cs.length = (Γ.lam i).fr.length := by
        have := congrArg List.length L.at_
        simpa using this
      have lt : ∀ l ∈ ls, l < S.n := fun l hl' => by
        obtain ⟨j, hj⟩ := List.mem_iff_getElem?.mp hl'
        have hj' : j < cs.length := by rw [← l1]; exact (List.getElem?_eq_some_iff.mp hj).1
        obtain ⟨l', a, b⟩ := l2 j cs[j] (List.getElem?_eq_getElem hj')
        rw [hj] at a
        cases a
        exact (R.s.sl _ _ b).1
      refine ⟨l1.trans hl, fun l hl' => Nat.lt_succ_of_lt (lt l hl'), fun j y hj => ?_, fun y c0 hc => ?_, fun x y c0 hx hy => I.ok.inj x y c0 (NdefX.clo_cm hfree hx) (NdefX.clo_cm hfree hy)⟩
      · have hj' : j < cs.length := by rw [hl]; exact (List.getElem?_eq_some_iff.mp hj).1
        obtain ⟨l, a, b⟩ := l2 j cs[j] (List.getElem?_eq_getElem hj')
        have e2 : (cs.map fun j => X.N[j]?)[j]? = some (some y) := by
          rw [L.at_, List.getElem?_map, hj]
          rfl
        rw [List.getElem?_map, List.getElem?_eq_getElem hj'] at e2
        have e3 : X.N[cs[j]]? = some y := Option.some.inj e2
        obtain ⟨_, ⟨x, hx, rc⟩, _⟩ := R.s.sl _ _ b
        rw [e3] at hx
        cases hx
        refine ⟨l, a, ?_⟩
        rw [rup_lt (lt l (List.mem_of_getElem? a))]
        exact NdefX.clo_has hfree (mem_freeOf.mp (by rw [← L.fr]; exact List.mem_of_getElem? hj)) rc.look
      · rw [L.fr]
        rcases cloFrom_mem (PySem.mem_of_lookup hc) with hm | ⟨h1, _⟩
        · cases hm
        · exact mem_freeOf.mpr h1
    have R1 : Rl Γ X (rup ρ S.n f) env σ (S.new (.clo i ls)) H1 := R.newN f0 eN dm T1 ⟨_, c', by rw [rup_same]; exact f1, c1, cR⟩
    exact ⟨.ref f, H1, I1, rfl, (h.ok) (rup ρ S.n f) H1 (.ref f) R1 (Ext.newN R.h.wf f0 eN dm) ⟨Nat.lt_succ_self _, by rw [rup_same]⟩⟩
  · exact False.elim h
end
end
end Ev
end
section
set_option Elab.async false
set_option linter.all false
set_option maxRecDepth 100000
set_option maxHeartbeats 400000
/-! LAMBDAS: their cells stand free while they run, and still again behind. -/
namespace Ev
noncomputable section
open PySem PySem.Spec PyProof.Rows L2 LamX
structure FrzA (H : Hp) (A : List Addr) : Prop where
  is : ∀ a ∈ A, ∃ o w, H a = some (.frz o (.own 0)) ∧ o.data = .cell w
def rfH (A : List Addr) (H H' : Hp) : Hp := fun a => if a ∈ A then H a else H' a
theorem rfH_out {A : List Addr} {H H' : Hp} {a : Addr} (n : a ∉ A) : rfH A H H' a = H' a := by unfold rfH; rw [if_neg n]
theorem rfH_in {A : List Addr} {H H' : Hp} {a : Addr} (n : a ∈ A) : rfH A H H' a = H a := by unfold rfH; rw [if_pos n]
section
variable {Γ : Gm} {ρ ρ' : Nat → Addr} {S S' : St} {H H' : Hp} {A : List Addr} {P : Program} {w : World} {K : PySem.W.Frag} {mg : Str → Option Value} {base : Heap} {Ar : Around} {outer : List PySem.Env} {s s' : Shared} {Q : VK} {E : XK}
theorem FrzA.keep (f : FrzA H A) {a : Addr} {o : HO} (h : H a = some o) (n : ∀ u v, o ≠ .frz u v) : thH A H a = some o := by
  rw [thH_out fun m => ?_]
  · exact h
  · obtain ⟨u, _, e, _⟩ := f.is a m
    rw [h] at e
    exact n _ _ (Option.some.inj e)
theorem FrzA.env0 (f : FrzA H A) (e : Env0 P w K mg base Ar outer s H) : Env0 P w K mg base Ar outer s (thH A H) := by
  have nn : ∀ b, H b = none → thH A H b = none := fun b h => by
    unfold thH
    split
    · rfl
    · exact h
  exact ⟨e.frames, e.mod, fun b o h => ⟨(e.bs b o h).1, nn b (e.bs b o h).2⟩, e.bsz, e.funs, fun b h => nn b (e.frf b h), fun a o h => by
    have m : a ∉ A := fun m => by rw [thH_in m] at h; exact nomatch h
    rw [thH_out m] at h
    exact (e.hok a o h).stay (fun b u _ q => q) (fun b q => f.keep q fun u v z => HO.noConfusion z) fun b xs q => f.keep q fun u v z => HO.noConfusion z, e.bare⟩
theorem FrzA.extW (f : FrzA H A) : ExtW ρ S H ρ S (thH A H) := ⟨Nat.le_refl _, fun _ _ => rfl, fun a o h i => by
  by_cases m : a ∈ A
  · obtain ⟨_, _, e, _⟩ := f.is a m
    rw [h] at e
    rw [Option.some.inj e] at i
    exact nomatch i
  · rw [thH_out m]; exact h⟩
theorem un_rf {fs : List Addr} {h h' : Heap} (f : FrzA H A) (u : Un fs [] (thH A H) H' h h') : Un fs [] H (rfH A H H') h h' := by
  have no : ∀ b, H b = none → b ∉ A := fun b n m => by
    obtain ⟨_, _, e, _⟩ := f.is b m
    rw [n] at e
    exact nomatch e
  have th : ∀ b, H b = none → thH A H b = none := fun b n => by rw [thH_out (no b n)]; exact n
  refine ⟨fun b o e n hb hx => u.keep b o e (th b n) hb hx, fun b o e n hb hx => u.slot b o e (th b n) hb hx, fun b o e n hx => ?_, u.there, fun b xs e => ?_, fun b o v e => ?_, fun b ps e => ?_⟩
  · rw [rfH_out (no b n)]
    exact u.free b o e (th b n) hx
  · have k := f.keep e fun u v z => HO.noConfusion z
    rw [rfH_out fun m => by rw [thH_in m] at k; exact nomatch k]
    exact u.tups b xs k
  · by_cases m : b ∈ A
    · rw [rfH_in m]; exact e
    · rw [rfH_out m]
      exact u.frzs b o v (by rw [thH_out m]; exact e)
  · have k := f.keep e fun u v z => HO.noConfusion z
    obtain ⟨mo, q⟩ := u.tbls b ps k
    exact ⟨mo, by rw [rfH_out fun m => by rw [thH_in m] at k; exact nomatch k]; exact q⟩
theorem hok_rf {h' : Heap} (f : FrzA H A) (cel : ∀ a o v, a ∈ A → H a = some (.frz o v) → h'.get? a = some o) (no : ∀ a ∈ A, H' a = none) (k : HOk P w H' h') : HOk P w (rfH A H H') h' := fun a o e => by
  by_cases m : a ∈ A
  · obtain ⟨u, _, e1, _⟩ := f.is a m
    rw [rfH_in m, e1] at e
    cases e
    exact ⟨cel _ _ _ m e1, u, cel _ _ _ m e1⟩
  · rw [rfH_out m] at e
    have out : ∀ b u, H' b = some u → b ∉ A := fun b u q m => by rw [no b m] at q; exact nomatch q
    exact (k a o e).stay (fun b u _ q => q) (fun b q => by rw [rfH_out (out _ _ q)]; exact q) fun b xs q => by rw [rfH_out (out _ _ q)]; exact q
theorem ce_rf {u : Value} (f : FrzA H A) (e0 : Env0 P w K mg base Ar outer s H) (c : L2.CE outer P w (thH A H) s (fun v H2 => (∀ a ∈ A, H2 a = none) → Q v (rfH A H H2)) u s') : L2.CE outer P w H s Q u s' := by
  obtain ⟨v, H2, os, bare, un, hok, r, q⟩ := c
  have nf : ∀ a ∈ A, a ∉ frs outer := fun a m z => by
    obtain ⟨_, _, e, _⟩ := f.is a m
    rw [e0.frf a z] at e
    exact nomatch e
  have hp : ∀ a o v, a ∈ A → H a = some (.frz o v) → s.heap.get? a = some o := fun a o v m e => (e0.hok a _ e).1
  have noA : ∀ a ∈ A, H2 a = none := fun a m => by
    obtain ⟨o, _, e, _⟩ := f.is a m
    exact un.free a o (hp a o _ m e) (thH_in m) (by simp)
  exact ⟨v, rfH A H H2, os, bare, un_rf f un, hok_rf f (fun a o v m e => un.keep a o (hp a o v m e) (thH_in m) (nf a m) (by simp)) noA hok, r, q noA⟩
theorem cx_rf {u : Value} (f : FrzA H A) (e0 : Env0 P w K mg base Ar outer s H) (c : L2N.CX P w outer (thH A H) s (fun cls d H2 => (∀ a ∈ A, H2 a = none) → E cls d (rfH A H H2)) u s') : L2N.CX P w outer H s E u s' := by
  obtain ⟨a, B, H2, cls, d, rfl, fl, hok, ub, na, os, bare, q⟩ := c
  have nf : ∀ a ∈ A, a ∉ frs outer := fun a m z => by
    obtain ⟨_, _, e, _⟩ := f.is a m
    rw [e0.frf a z] at e
    exact nomatch e
  have hp : ∀ a o v, a ∈ A → H a = some (.frz o v) → s.heap.get? a = some o := fun a o v m e => (e0.hok a _ e).1
  have cel : ∀ a o v, a ∈ A → H a = some (.frz o v) → B.get? a = some o := fun a o v m e => ub.keep a o (hp a o v m e) (thH_in m) (nf a m)
  have noA : ∀ a ∈ A, H2 a = none := fun a m => by
    obtain ⟨o, _, e, _⟩ := f.is a m
    exact ub.free a o (hp a o _ m e) (thH_in m)
  have no : ∀ b, H b = none → b ∉ A := fun b n m => by
    obtain ⟨_, _, e, _⟩ := f.is b m
    rw [n] at e
    exact nomatch e
  have th : ∀ b, H b = none → thH A H b = none := fun b n => by rw [thH_out (no b n)]; exact n
  have kA : ∀ {b u}, thH A H b = some u → b ∉ A := fun {b u} k m => by rw [thH_in m] at k; exact nomatch k
  refine ⟨a, B, rfH A H H2, cls, d, rfl, fl, hok_rf f cel noA hok, ⟨fun b o e n hb => ub.keep b o e (th b n) hb, ub.slot, fun b o e n => ?_, ub.there, fun b xs e => ?_, fun b o v e => ?_, fun b ps e => ?_⟩, ?_, os, bare, q noA⟩
  · rw [rfH_out (no b n)]
    exact ub.free b o e (th b n)
  · have k := f.keep e fun u v z => HO.noConfusion z
    rw [rfH_out (kA k)]
    exact ub.tups b xs k
  · by_cases m : b ∈ A
    · rw [rfH_in m]; exact e
    · rw [rfH_out m]
      exact ub.frzs b o v (by rw [thH_out m]; exact e)
  · have k := f.keep e fun u v z => HO.noConfusion z
    obtain ⟨mo, q⟩ := ub.tbls b ps k
    exact ⟨mo, by rw [rfH_out (kA k)]; exact q⟩
  · rw [rfH_out fun m => ?_]
    · exact na
    · obtain ⟨o, _, e, _⟩ := f.is a m
      have z := cel a o _ m e
      have z2 := fl.2.1
      rw [z] at z2
      exact nomatch z2
end
end
end Ev
end
section
set_option Elab.async false
set_option linter.all false
set_option maxRecDepth 100000
set_option maxHeartbeats 400000
/-! LAMBDAS: their run. -/
namespace Ev
noncomputable section
open PySem PySem.Spec PyProof.Rows L2 LamX
structure LamF (Γ : Gm) (i : Nat) (d : Lm) : Prop where
  sc : NdefX.NScope (Γ.lam i).N (Γ.lam i).ps (Γ.lam i).fr (Γ.lam i).scope
  np : d.np = (Γ.lam i).ps.length
  ns : d.ns = (Γ.lam i).N.length
  bind : ∀ (cl : List (Str × Addr)) (pm : Value) (c' : Addr) (ctv : Value) (us : List Value), us.length = (Γ.lam i).ps.length →
    bindArgs (PySem.W.kla_fn "<lambda>" (Γ.lam i).q (Γ.lam i).params (Γ.lam i).body (Γ.lam i).scope cl pm (.ref c') ctv) ⟨us, []⟩ = pure ((Γ.lam i).ps.zip us)
section
variable {Γ : Gm} {ρ ρ' : Nat → Addr} {S S' : St} {H H' : Hp}
/-- what is known of one captured cell -/
def CelAt (Γ : Gm) (ρ : Nat → Addr) (S : St) (H : Hp) (l : Nat) (wo : Option V) : Prop :=
  ∃ o w, H (ρ l) = some (.frz o (.own 0)) ∧ o.data = .cell w ∧ (∀ d, S.get l = some (.cel (some d)) → ∃ v, wo = some v ∧ RD Γ ρ S.n H d v) ∧ ∀ v, wo = some v → ∃ u, w = some u ∧ RelV v u
theorem celAt_of (R : Rh Γ ρ [] S H) {l : Nat} {od : Option D} (h : S.get l = some (.cel od)) : ∃ wo, CelAt Γ ρ S H l wo := by
  rcases (R.obj l _ h).2 with ⟨i, c⟩ | ⟨o, e, w, hd, hw⟩
  · simp at c
  · cases od with
    | none => exact ⟨none, o, w, e, hd, fun d q => by rw [h] at q; exact (nomatch q), nofun⟩
    | some d =>
      obtain ⟨u, v, e1, e2, e3⟩ := hw d rfl
      exact ⟨some v, o, w, e, hd, fun d' q => by rw [h] at q; cases q; exact ⟨v, rfl, e3⟩, fun v' q => by cases q; exact ⟨u, e1, e2⟩⟩
theorem cels_of (R : Rh Γ ρ [] S H) : ∀ {ls : List Nat}, celsOk S ls = true → ∃ ws : List (Option V), ws.length = ls.length ∧ ∀ j l : Nat, ls[j]? = some l → ∃ wo, ws[j]? = some wo ∧ CelAt Γ ρ S H l wo
  | [], _ => ⟨[], rfl, fun j l h => by simp at h⟩
  | l :: r, h => by
    rw [celsOk_cons] at h
    split at h
    · rename_i od e
      obtain ⟨ws, a, b⟩ := cels_of R h
      obtain ⟨wo, c⟩ := celAt_of R e
      refine ⟨wo :: ws, congrArg (· + 1) a, fun j l' hj => ?_⟩
      cases j with
      | zero =>
        have hj : l = l' := by simpa using hj
        subst hj
        exact ⟨wo, rfl, c⟩
      | succ j =>
        obtain ⟨w2, x, y⟩ := b j l' (by simpa using hj)
        exact ⟨w2, by simpa using x, y⟩
    · exact nomatch h
theorem celsOk_mem : ∀ {ls : List Nat} {l : Nat}, celsOk S ls = true → l ∈ ls → ∃ od, S.get l = some (.cel od)
  | [], _, _, h => by simp at h
  | x :: r, l, h, hm => by
    rw [celsOk_cons] at h
    split at h
    · rename_i od e
      rcases List.mem_cons.mp hm with z | z
      · rw [z]; exact ⟨od, e⟩
      · exact celsOk_mem h z
    · exact nomatch h
theorem pad_len : ∀ n : Nat, (pad n).length = n
  | 0 => rfl
  | n + 1 => congrArg (· + 1) (pad_len n)
theorem pad_get : ∀ (n j : Nat) (s : Sl), (pad n)[j]? = some s → s = .no
  | 0, j, s, h => by rw [show pad 0 = [] from rfl] at h; simp at h
  | n + 1, 0, s, h => by
    rw [pad_succ] at h
    simpa using h.symm
  | n + 1, j + 1, s, h => by
    rw [pad_succ] at h
    exact pad_get n j s (by simpa using h)
end
end
end Ev
end
section
set_option Elab.async false
set_option linter.all false
set_option maxRecDepth 100000
set_option maxHeartbeats 400000
/-! LAMBDAS: their run. -/
namespace Ev
noncomputable section
open PySem PySem.Spec PyProof.Rows L2 LamX
/-- the lambda's words as a nested function's -/
abbrev LamI.nf (L : LamI) (cl : List (Str × Addr)) (c' : Addr) : NdefX.NF := ⟨"<lambda>", L.q, L.params, [], L.scope, cl, c'⟩
abbrev lcx (Γ : Gm) (L : LamI) (cl : List (Str × Addr)) (c' f : Addr) (A : Around) (outer : List PySem.Env) (s : Shared) (H : Hp) (E : XK) : Cx := NdefX.ncx (L2N.CX Γ.P Γ.w) Γ.P Γ.w Γ.K Γ.mg Γ.base L.N (L.nf cl c') f A outer s H E
abbrev lenv (ds : List D) (ls : List Nat) (d : Lm) : Env := ds.map .vl ++ (ls.map .ce ++ pad (Nat.sub d.ns (Nat.add d.np (lenN ls))))
section
variable {Γ : Gm} {ρ ρ' : Nat → Addr} {S S' : St} {H H' : Hp} {i k l : Nat} {d : Lm} {ls : List Nat} {ds : List D} {ev : EvF D} {A : Around} {outer : List PySem.Env} {s : Shared} {us : List Value} {vs : List V} {Q : VK} {E : XK}
theorem frzA_of (R : Rh Γ ρ [] S H) (h : celsOk S ls = true) : FrzA H (ls.map ρ) := ⟨fun a ha => by
  obtain ⟨l, hl, rfl⟩ := List.mem_map.mp ha
  obtain ⟨od, e⟩ := celsOk_mem h hl
  rcases (R.obj l _ e).2 with ⟨i, c⟩ | ⟨o, e, w, hd, _⟩
  · simp at c
  · exact ⟨o, w, e, hd⟩⟩
theorem cellsAt_of {cl : List (Str × Addr)} {fr : List Str} {ws : List (Option V)} {P : Program} {w : World} {h : Heap} (hok : HOk P w H h) (cr : ClR ρ S.n fr cl ls) (lw : ws.length = ls.length) (hw : ∀ j l : Nat, ls[j]? = some l → ∃ wo, ws[j]? = some wo ∧ CelAt Γ ρ S H l wo) :
    NdefX.CellsAt cl fr ws h (thH (ls.map ρ) H) := by
  refine ⟨lw.trans cr.len, fun y c hc => ?_, cr.inj, fun j y hj => ?_⟩
  · obtain ⟨j, hj⟩ := List.mem_iff_getElem?.mp (cr.only y c hc)
    obtain ⟨l, e1, e2⟩ := cr.at_ j y hj
    rw [hc] at e2
    cases e2
    obtain ⟨wo, _, o, w, e3, e4, _⟩ := hw j l e1
    exact ⟨thH_in (List.mem_map.mpr ⟨l, List.mem_of_getElem? e1, rfl⟩), w, o, (hok _ _ e3).1, e4⟩
  · obtain ⟨l, e1, e2⟩ := cr.at_ j y hj
    refine ⟨ρ l, e2, fun v ev => ?_⟩
    obtain ⟨wo, ew, o, w, e3, e4, _, e6⟩ := hw j l e1
    rw [ew] at ev
    obtain ⟨u, e7, e8⟩ := e6 v (Option.some.inj ev)
    exact ⟨u, e8, o, (hok _ _ e3).1, by rw [e4, e7]⟩
/-- the relation at the start of a lambda -/
theorem rl_lam {cl : List (Str × Addr)} {c' f : Addr} {ws : List (Option V)} (F : LamF Γ i d) (R : Rh Γ ρ [] S H) (e0 : Env0 Γ.P Γ.w Γ.K Γ.mg Γ.base A outer s H) (ok : celsOk S ls = true) (cr : ClR ρ S.n (Γ.lam i).fr cl ls) (r : RDs Γ ρ S.n H ds vs)
    (hds : ds.length = d.np) (lw : ws.length = ls.length) (hw : ∀ j l : Nat, ls[j]? = some l → ∃ wo, ws[j]? = some wo ∧ CelAt Γ ρ S H l wo) :
    Rl Γ (lcx Γ (Γ.lam i) cl c' f A outer s (thH (ls.map ρ) H) E) ρ (lenv ds ls d) (NdefX.startF (Γ.lam i).N vs ws) S (thH (ls.map ρ) H) := by
  have fz := frzA_of R ok
  have ew : ExtW ρ S H ρ S (thH (ls.map ρ) H) := fz.extW
  have hps : vs.length = (Γ.lam i).ps.length := by rw [r.len, hds, F.np]
  have hN : (Γ.lam i).ps.length + (Γ.lam i).fr.length ≤ (Γ.lam i).N.length := by
    have q := congrArg List.length F.sc.pre
    rw [List.length_take, List.length_append] at q
    omega
  have dl : ds.length = vs.length := r.len.symm
  have pl : (Nat.sub d.ns (Nat.add d.np (lenN ls))) = (Γ.lam i).N.length - vs.length - ws.length := by
    have e1 : lenN ls = ls.length := lenN_eq ls
    rw [e1, F.ns, F.np]
    show (Γ.lam i).N.length - ((Γ.lam i).ps.length + ls.length) = _
    omega
  have get : ∀ {j : Nat} {s' : Sl}, (lenv ds ls d)[j]? = some s' → (∃ x, ds[j]? = some x ∧ s' = .vl x) ∨ (∃ j' l, j = ds.length + j' ∧ ls[j']? = some l ∧ s' = .ce l) ∨ s' = .no := fun {j s'} h => by
    by_cases h1 : j < ds.length
    · rw [List.getElem?_append_left (by rw [List.length_map]; exact h1), List.getElem?_map] at h
      rw [List.getElem?_eq_getElem h1] at h
      exact .inl ⟨ds[j], List.getElem?_eq_getElem h1, (Option.some.inj h).symm⟩
    · rw [List.getElem?_append_right (by rw [List.length_map]; omega), List.length_map] at h
      by_cases h2 : j - ds.length < ls.length
      · rw [List.getElem?_append_left (by rw [List.length_map]; exact h2), List.getElem?_map, List.getElem?_eq_getElem h2] at h
        exact .inr (.inl ⟨j - ds.length, _, by omega, List.getElem?_eq_getElem h2, (Option.some.inj h).symm⟩)
      · rw [List.getElem?_append_right (by rw [List.length_map]; omega)] at h
        exact .inr (.inr (pad_get _ _ _ h))
  have own : ∀ {l : Nat}, ρ l ∈ ls.map ρ → (∃ od, S.get l = some (.cel od)) → l ∈ ls := fun {l} m ⟨od, e⟩ => by
    obtain ⟨l', hl', z⟩ := List.mem_map.mp m
    obtain ⟨od', e'⟩ := celsOk_mem ok hl'
    rcases (R.obj l _ e).2 with ⟨i, c⟩ | ⟨o, eo, _⟩
    · simp at c
    · rw [R.injF l l' od od' o (fun i c => by simp at c) (fun i c => by simp at c) e e' eo z.symm]
      exact hl'
  have inenv : ∀ {l : Nat}, l ∈ ls → ∃ i : Nat, (lenv ds ls d)[i]? = some (Sl.ce l) := fun {l} hl => by
    obtain ⟨j, hj⟩ := List.mem_iff_getElem?.mp hl
    have hj' : j < ls.length := (List.getElem?_eq_some_iff.mp hj).1
    refine ⟨ds.length + j, ?_⟩
    rw [List.getElem?_append_right (by rw [List.length_map]; omega), List.length_map, List.getElem?_append_left (by rw [List.length_map]; omega), List.getElem?_map]
    rw [show ds.length + j - ds.length = j from by omega, hj]
    rfl
  refine ⟨⟨fun l o h => ?_, R.inj, tabs_nf R.tabs fun b o h n => fz.keep h n, fun l l' od od' u n1 n2 h1 h2 h3 z => ?_⟩, ⟨?_, ?_, fun j s' h => ?_, fun j1 j2 l1 l2 h1 h2 z => ?_⟩⟩
  · have q := R.obj l o h
    refine ⟨q.1, ?_⟩
    cases o with
    | cel od =>
      by_cases m : ρ l ∈ ls.map ρ
      · exact .inl (inenv (own m ⟨od, h⟩))
      · rcases q.2 with ⟨i, c⟩ | ⟨o, e, rc⟩
        · simp at c
        · exact .inr ⟨o, by rw [thH_out m]; exact e, rc.extW ew⟩
    | lst _ | dic _ | clo _ _ | hid | exn _ _ | opq | scr | scF =>
      refine RO.extW (env := lenv ds ls d) ew q.1 (fun t ho hh => fz.keep hh fun u v z => RO.nofrz t q.2 (hh.trans (congrArg some z))) (fun _ _ z => nomatch z) q.2
  · refine R.injF l l' od od' u (fun i c => by simp at c) (fun i c => by simp at c) h1 h2 ?_ z
    by_cases m : ρ l ∈ ls.map ρ
    · rw [thH_in m] at h3; exact nomatch h3
    · rw [thH_out m] at h3; exact h3
  · show (lenv ds ls d).length = (Γ.lam i).N.length
    rw [List.length_append, List.length_append, List.length_map, List.length_map, pad_len, pl]
    have := cr.len
    omega
  · show (NdefX.startF (Γ.lam i).N vs ws).length = (Γ.lam i).N.length
    unfold NdefX.startF
    rw [List.length_append, List.length_append, List.length_map, List.length_replicate]
    have := cr.len
    omega
  · rcases get h with ⟨x, hx, rfl⟩ | ⟨j', l, hj, hl, rfl⟩ | rfl
    · have hv : ∃ v, vs[j]? = some v ∧ RD Γ ρ S.n H x v := r.get (by rw [nth_get]; exact hx)
      obtain ⟨v, ev, rv⟩ := hv
      refine ⟨v, ?_, rv.extW ew⟩
      have hj : j < vs.length := (List.getElem?_eq_some_iff.mp ev).1
      unfold NdefX.startF
      rw [List.getElem?_append_left (by rw [List.length_map]; exact hj), List.getElem?_map, ev]
      rfl
    · have lt : l < S.n := cr.lt l (List.mem_of_getElem? hl)
      have hj' : j' < ls.length := (List.getElem?_eq_some_iff.mp hl).1
      have hjf : j' < (Γ.lam i).fr.length := by rw [← cr.len]; exact hj'
      obtain ⟨l2, e1, e2⟩ := cr.at_ j' _ (List.getElem?_eq_getElem hjf)
      rw [hl] at e1
      cases e1
      obtain ⟨wo, ew1, o, w, e3, e4, e5, e6⟩ := hw j' l hl
      have hNj : (Γ.lam i).N[j]? = some (Γ.lam i).fr[j'] := by
        have q : ((Γ.lam i).N.take ((Γ.lam i).ps.length + (Γ.lam i).fr.length))[j]? = some (Γ.lam i).fr[j'] := by
          rw [F.sc.pre, List.getElem?_append_right (by omega)]
          rw [show j - (Γ.lam i).ps.length = j' from by omega]
          exact List.getElem?_eq_getElem hjf
        rw [List.getElem?_take_of_lt (by omega)] at q
        exact q
      refine ⟨lt, ⟨_, hNj, e2, .inr (F.sc.frk _ (List.getElem_mem hjf)), ?_, fun m => ?_⟩, fun x hx => ?_⟩
      · cases q : Γ.base.get? (ρ l) with
        | none => exact q
        | some ob =>
          rw [(e0.bs _ _ q).2] at e3
          exact nomatch e3
      · rw [e0.frf _ m] at e3
        exact nomatch e3
      · obtain ⟨v, ev, rv⟩ := e5 x hx
        refine ⟨v, ?_, rv.extW ew⟩
        unfold NdefX.startF
        rw [List.getElem?_append_right (by rw [List.length_map]; omega), List.length_map, show j - vs.length = j' from by omega, List.getElem?_append_left (by omega), ew1, ev]
    · trivial
  · rcases get h1 with ⟨x, _, q⟩ | ⟨a1, l1', hj1, hl1, q⟩ | q
    · exact nomatch q
    · cases q
      rcases get h2 with ⟨x, _, q⟩ | ⟨a2, l2', hj2, hl2, q⟩ | q
      · exact nomatch q
      · cases q
        have b1 : a1 < (Γ.lam i).fr.length := by rw [← cr.len]; exact (List.getElem?_eq_some_iff.mp hl1).1
        have b2 : a2 < (Γ.lam i).fr.length := by rw [← cr.len]; exact (List.getElem?_eq_some_iff.mp hl2).1
        obtain ⟨x1, e1, e1'⟩ := cr.at_ a1 _ (List.getElem?_eq_getElem b1)
        obtain ⟨x2, e2, e2'⟩ := cr.at_ a2 _ (List.getElem?_eq_getElem b2)
        rw [hl1] at e1
        rw [hl2] at e2
        cases e1
        cases e2
        rw [← z] at e2'
        have en := cr.inj _ _ _ e1' e2'
        have nd : (Γ.lam i).fr.Nodup := by
          have q := F.sc.nd.sublist (List.take_sublist ((Γ.lam i).ps.length + (Γ.lam i).fr.length) (Γ.lam i).N)
          rw [F.sc.pre] at q
          exact (List.nodup_append.mp q).2.1
        have := (List.getElem_inj nd).mp en
        omega
      · exact nomatch q
    · exact nomatch q
end
end
end Ev
end
section
set_option Elab.async false
set_option linter.all false
set_option maxRecDepth 100000
set_option maxHeartbeats 400000
/-! LAMBDAS: their promise. -/
namespace Ev
noncomputable section
open PySem PySem.Spec PyProof.Rows L2 LamX
section
variable {Γ : Gm} {ρ ρ' : Nat → Addr} {S S' : St} {H H' : Hp} {i k l : Nat} {d : Lm} {ls : List Nat} {ds : List D} {ev : EvF D} {A : Around} {outer : List PySem.Env} {s : Shared} {us : List Value} {vs : List V} {Q : VK} {E : XK}
/-- behind a lambda: its cells again -/
theorem rh_rf {X : Cx} {env : Env} {σ : L2.St} {A : List Addr} (fz : FrzA H A) (R : Rh Γ ρ [] S H) (R' : Rl Γ X ρ' env σ S' H') (e : Ext ρ S (thH A H) ρ' S' H') (no : ∀ a ∈ A, H' a = none) (hce : ∀ i l : Nat, env[i]? = some (Sl.ce l) → l < S.n) :
    Rh Γ ρ' [] S' (rfH A H H') ∧ Ext ρ S H ρ' S' (rfH A H H') ∧ ExtW ρ' S' H' ρ' S' (rfH A H H') := by
  have out : ∀ {b u}, H' b = some u → b ∉ A := fun {b u} q m => by rw [no b m] at q; exact nomatch q
  have kp : ∀ {b u}, H' b = some u → rfH A H H' b = some u := fun {b u} q => by rw [rfH_out (out q)]; exact q
  have w : ExtW ρ' S' H' ρ' S' (rfH A H H') := ⟨Nat.le_refl _, fun _ _ => rfl, fun a o h _ => kp h⟩
  have dn : ∀ {b}, H b = none → b ∉ A := fun {b} n m => by
    obtain ⟨_, _, z, _⟩ := fz.is b m
    rw [n] at z; exact nomatch z
  have up : ∀ {a o}, H a = some o → (∀ b u, b ∉ A → H b = some u → thH A H b = some u) := fun _ b u m q => by rw [thH_out m]; exact q
  have x0 : Ext0 ρ S H ρ' S' (rfH A H H') := by
    refine ⟨e.le, e.ag, fun a o h i => ?_, fun a o h i t => ?_, e.old, fun l o hl h t => ?_, fun a h => ?_, e.oldC, fun l od hl h => ?_⟩
    · by_cases m : a ∈ A
      · rw [rfH_in m]; exact h
      · rw [rfH_out m]; exact e.keep a o (by rw [thH_out m]; exact h) i
    · by_cases m : a ∈ A
      · rw [rfH_in m]; exact h
      · rw [rfH_out m]; exact e.fr a o (by rw [thH_out m]; exact h) i t
    · have q := e.fresh l o hl h t
      by_cases m : ρ' l ∈ A
      · obtain ⟨u, hu⟩ := (R'.h.obj l o h).2.at t
        exact absurd m (out hu)
      · rw [thH_out m] at q; exact q
    · by_cases m : a ∈ A
      · rw [rfH_in m] at h; exact h
      · rw [rfH_out m] at h
        have q := e.dom a h
        rw [thH_out m] at q; exact q
    · have q := e.freshC l od hl h
      by_cases m : ρ' l ∈ A
      · rcases (R'.h.obj l _ h).2 with ⟨i, c⟩ | ⟨u, hu, _⟩
        · exact absurd (hce i l c) (Nat.not_lt.mpr hl)
        · exact absurd m (out hu)
      · rw [thH_out m] at q; exact q
  refine ⟨⟨fun l o h => ?_, R'.h.inj, R'.h.tabs.ext fun b o h => kp h, fun l l' od od' u _ _ h1 h2 h3 z => ?_⟩, ⟨x0, e.cels⟩, w⟩
  · have q := R'.h.obj l o h
    refine ⟨q.1, ?_⟩
    cases o with
    | cel od =>
      refine .inr ?_
      by_cases hl : l < S.n
      · rcases (R.obj l _ (e.cels l od hl h)).2 with ⟨i, c⟩ | ⟨u, c, rc⟩
        · simp at c
        · refine ⟨u, ?_, rc.extW x0.w⟩
          rw [e.ag l hl]
          exact x0.keep _ _ c rfl
      · rcases q.2 with ⟨i, c⟩ | ⟨u, c, rc⟩
        · exact absurd (hce i l c) hl
        · exact ⟨u, kp c, rc.extW w⟩
    | lst _ | dic _ | clo _ _ | hid | exn _ _ | opq | scr | scF =>
      exact RO.extW (env := []) w q.1 (fun t ho hh => kp hh) (fun _ _ z => nomatch z) q.2
  · by_cases hl : l < S.n
    · by_cases hl' : l' < S.n
      · have c1 := e.cels l od hl h1
        have c2 := e.cels l' od' hl' h2
        rcases (R.obj l _ c1).2 with ⟨i, c⟩ | ⟨v, c, _⟩
        · simp at c
        · exact R.injF l l' od od' v (fun i c => by simp at c) (fun i c => by simp at c) c1 c2 c (by rw [← e.ag l hl, ← e.ag l' hl']; exact z)
      · have c1 := e.cels l od hl h1
        rcases (R.obj l _ c1).2 with ⟨i, c⟩ | ⟨v, c, _⟩
        · simp at c
        · have q := x0.freshC l' od' (Nat.not_lt.mp hl') h2
          rw [← z, e.ag l hl, c] at q
          exact nomatch q
    · by_cases hl' : l' < S.n
      · have c1 := e.cels l' od' hl' h2
        rcases (R.obj l' _ c1).2 with ⟨i, c⟩ | ⟨v, c, _⟩
        · simp at c
        · have q := x0.freshC l od (Nat.not_lt.mp hl) h1
          rw [z, e.ag l' hl', c] at q
          exact nomatch q
      · rcases (R'.h.obj l _ h1).2 with ⟨i, c⟩ | ⟨v, c, _⟩
        · exact absurd (hce i l c) hl
        · exact R'.h.injF l l' od od' v (fun i c => hl (hce i l c)) (fun i c => hl' (hce i l' c)) h1 h2 c z
end
end
end Ev
end
section
set_option Elab.async false
set_option linter.all false
set_option maxRecDepth 100000
set_option maxHeartbeats 400000
/-! LAMBDAS: their promise. -/
namespace Ev
noncomputable section
open PySem PySem.Spec PyProof.Rows L2 LamX
section
variable {Γ : Gm} {ρ ρ' : Nat → Addr} {S S' : St} {H H' : Hp} {i k l : Nat} {d : Lm} {ls : List Nat} {ds : List D} {ev : EvF D} {A : Around} {outer : List PySem.Env} {s : Shared} {us : List Value} {vs : List V} {Q : VK} {E : XK}
theorem lm_run (F : LamF Γ i d) (hbody : ∀ (cl : List (Str × Addr)) (c' f : Addr) (A : Around) (outer : List PySem.Env) (s : Shared) (H : Hp) (E : XK), Room (k + 1) A → A.guards = some [] →
      PE (lcx Γ (Γ.lam i) cl c' f A outer s H E) (Γ.lam i).body (rd Γ (lcx Γ (Γ.lam i) cl c' f A outer s H E) (fun cls d _ H => E cls d H) ev))
    (hr : Room (k + 1) A) (hg : A.guards = some []) (e0 : Env0 Γ.P Γ.w Γ.K Γ.mg Γ.base A outer s H) (R : Rh Γ ρ [] S H) (hl : S.get l = some (.clo i ls)) (r : RDs Γ ρ S.n H ds vs) (rv : Vals vs us)
    (hds : ds.length = d.np) (ok : celsOk S ls = true) (h : (ev (lenv ds ls d) S).All (PostC Γ ρ S H Q) (PostCX Γ ρ S H E)) :
    codeAny (model Γ.P Γ.w) A (.call (.ref (ρ l)) ⟨us, []⟩) (CR (L2N.CX Γ.P Γ.w) outer Γ.P Γ.w H s Q E) s := by
  obtain ⟨cl, c', hf, hc, cr⟩ := (R.obj l _ hl).2
  obtain ⟨ws, lw, hw⟩ := cels_of R ok
  have fz := frzA_of R ok
  have e1 := fz.env0 e0
  have C := cellsAt_of e0.hok cr lw hw
  have hlen : vs.length = (Γ.lam i).ps.length := by rw [r.len, hds, F.np]
  obtain ⟨⟨pm, ctv, of1⟩, _, _⟩ := e0.hok _ _ hf
  obtain ⟨⟨oc, xs, t, hoc, hdc, hvc⟩, _, _⟩ := e0.hok _ _ hc
  have lim : s.heap.NoLimit := e0.mod.nolimit.keeps fun b o e => (e0.bs b o e).1
  refine PySem.W.kla_callFunE hr.depth of1 rfl F.sc.co F.sc.gen rfl ⟨c', oc, xs, t, rfl, hoc, hdc, hvc⟩ ?_
  rw [F.bind cl pm c' ctv us (by rw [← rv.length]; exact hlen)]
  refine wpAny_pure (wpAny_newFunctionEnv F.sc.nocell (fun ⟨n, _⟩ hy => F.sc.par n (List.of_mem_zip hy).1) (fun h₁ hns hsb => ⟨lim.fresh _ hsb, ?_⟩) F.sc.kind)
  have kp : ∀ b o, s.heap.get? b = some o → h₁.get? b = some o := fun b o e => hsb.extBut b o (Nat.ne_of_lt (Heap.lt_size e)) (Heap.get?_push_of_some _ e)
  have J := NdefX.inv_startN (CX := L2N.CX Γ.P Γ.w) (F := (Γ.lam i).nf cl c') (f := ρ l) (E := fun cls d H2 => (∀ a ∈ ls.map ρ, H2 a = none) → E cls d (rfH (ls.map ρ) H H2)) (tk := s.toks + ((Γ.lam i).ps.zip us).length) F.sc hr.hd e1 hlen rv C hns kp
  have RL := rl_lam (cl := cl) (c' := c') (f := ρ l) (outer := outer) (E := fun cls d H2 => (∀ a ∈ ls.map ρ, H2 a = none) → E cls d (rfH (ls.map ρ) H H2)) F R e0 ok cr r hds lw hw
  have hce : ∀ i l : Nat, (lenv ds ls d)[i]? = some (Sl.ce l) → l < S.n := fun i l e => (RL.s.sl i _ e).1
  have h1 : (ev (lenv ds ls d) S).All (PostG Γ (lcx Γ (Γ.lam i) cl c' (ρ l) A outer s (thH (ls.map ρ) H) (fun cls d H2 => (∀ a ∈ ls.map ρ, H2 a = none) → E cls d (rfH (ls.map ρ) H H2))) (RD Γ) (lenv ds ls d) (NdefX.startF (Γ.lam i).N vs ws) ρ S (thH (ls.map ρ) H) fun v H2 => (∀ a ∈ ls.map ρ, H2 a = none) → Q v (rfH (ls.map ρ) H H2))
      (PostX Γ (lcx Γ (Γ.lam i) cl c' (ρ l) A outer s (thH (ls.map ρ) H) (fun cls d H2 => (∀ a ∈ ls.map ρ, H2 a = none) → E cls d (rfH (ls.map ρ) H H2))) (fun cls d _ H2 => (∀ a ∈ ls.map ρ, H2 a = none) → E cls d (rfH (ls.map ρ) H H2)) (lenv ds ls d) (NdefX.startF (Γ.lam i).N vs ws) ρ S (thH (ls.map ρ) H)) := by
    refine h.mono (fun x S2 p => ?_) fun c fs S2 p => ?_
    · intro ρ2 H2 v R2 e2 r2 no
      obtain ⟨a, b, w⟩ := rh_rf fz R R2 e2 no hce
      exact p ρ2 _ v a b (RD.extW w r2)
    · intro ρ2 H2 cls dd R2 e2 r2 no
      obtain ⟨a, b, w⟩ := rh_rf fz R R2 e2 no hce
      exact p ρ2 _ cls dd a b (XR.extW w r2)
  refine PySem.W.kla_codeExpr (wpAny_mono ((hbody cl c' (ρ l) A outer s (thH (ls.map ρ) H) (fun cls d H2 => (∀ a ∈ ls.map ρ, H2 a = none) → E cls d (rfH (ls.map ρ) H H2)) hr hg).run [] _ _ _ _ J ⟨ρ, _, S, RL, h1⟩) (fun v s' hq => ?_) fun e s' hq => ?_)
  · obtain ⟨v2, H2, J2, rv2, q⟩ := hq
    exact ce_rf fz e0 ⟨v2, H2, J2.os, J2.bare, J2.base, J2.hok, rv2, q⟩
  · exact wpAny_mono hq (fun _ s'' c => cx_rf fz e0 c) fun e' s'' c => cx_rf fz e0 c
end
end
end Ev
end
section
set_option Elab.async false
set_option linter.all false
set_option maxRecDepth 100000
set_option maxHeartbeats 400000
/-! DEFS: their entry, their ends. -/
namespace Ev
noncomputable section
open PySem PySem.Spec PyProof.Rows L2
/-! ### a list of statements, then more -/
structure PSt (X : Cx) (ss : List Stmt) (t : TS) : Prop where
  run : ∀ (rest : List Stmt) (pins : List (Addr × Obj)) (s : Shared) (σ : L2.St) (H : Hp) (D : Ends) (Qf : Flow → Shared → Prop), Inv X pins σ H s → t D σ H →
    (∀ s' σ' H', Inv X pins σ' H' s' → D.nx σ' H' → wpAny (model X.prog X.w) X.A (execs rest X.env) Qf X.xe s') → (∀ fl s', fl ≠ .next → SP X pins D fl s' → Qf fl s') → wpAny (model X.prog X.w) X.A (execs (ss ++ rest) X.env) Qf X.xe s
section
variable {Γ : Gm} {X : Cx} {W : WX} {n0 : Nat} {ρ ρ1 : Nat → Addr} {S S1 : St} {H H1 : Hp} {env : Env} {σ : L2.St} {st : Stmt} {ss : List Stmt} {t u : TS} {f g : EvF SO}
theorem PSt.wk {t' : TS} (h : PSt X ss t) (w : ∀ D σ H, t' D σ H → t D σ H) : PSt X ss t' := ⟨fun rest pins s σ H D Qf I q => h.run rest pins s σ H D Qf I (w _ _ _ q)⟩
theorem pst_nil : PSt X [] tNext := ⟨fun rest pins s σ H D Qf I h hn _ => hn s σ H I h⟩
theorem pst_cons (h1 : PS X st t) (h2 : PSt X ss u) : PSt X (st :: ss) (tSeq t u) := by
  refine ⟨fun rest pins s σ H D Qf I h hn hq => ?_⟩
  refine wpAny_execs_cons (thn (h1.run pins s σ H { D with nx := u D } I h) fun fl s1 q => ?_)
  cases fl with
  | next =>
    obtain ⟨σ', H', I', q⟩ := q
    exact h2.run rest pins s1 σ' H' D Qf I' q hn hq
  | ret v => exact hq _ _ (fun z => Flow.noConfusion z) q
  | brk => exact hq _ _ (fun z => Flow.noConfusion z) q
  | cont => exact hq _ _ (fun z => Flow.noConfusion z) q
theorem PSt.pss (h : PSt X ss t) : PSs X ss t := ⟨fun pins s σ H D I q => by
  have z := h.run [] pins s σ H D (SP X pins D) I q (fun s' σ' H' I' n => wpAny_execs_nil ⟨σ', H', I', n⟩) fun fl s' _ q => q
  rw [List.append_nil] at z
  exact z⟩
theorem z_nil : PSt X [] (rS Γ X W n0 fun v S => .ok (.nx v) S) := pst_nil.wk fun D σ H ⟨ρ, env, S, hl, hn, hc, h⟩ => (rS_end h) ρ H σ hl (Ext0.refl hl.h.wf) CelK.refl hc
theorem z_cons (h1 : PS X st (rS Γ X W n0 f)) (h2 : PSt X ss (rS Γ X W n0 g)) : PSt X (st :: ss) (rS Γ X W n0 (eSeq f g)) := (pst_cons h1 h2).wk fun D σ H ⟨ρ, env, S, hl, hn, hc, h⟩ =>
  ⟨ρ, env, S, hl, hn, hc, h.bind.mono (fun o S1 q => by
    cases o with
    | nx v => exact fun ρ' H' σ' a b c d => ⟨ρ', v, S1, a, Nat.le_trans hn b.le, d, q.mono (fun _ _ p => p.ext b c) fun _ _ _ p => p⟩
    | bk v => exact q
    | ct v => exact q
    | rt d v => exact q
    | xc c fs v => exact q) fun _ _ _ p => p⟩
/-! ### the own cells are hidden -/
theorem St.get_hide : ∀ {v : Env} {S : St} {j : Nat} {o : O}, (hide v S).get j = some o → (o = .hid ∧ ∃ (i l : Nat), v[i]? = some (Sl.ce l) ∧ j = l) ∨ ((∀ i : Nat, v[i]? ≠ some (Sl.ce j)) ∧ S.get j = some o)
  | [], S, j, o, h => .inr ⟨fun i e => by simp at e, h⟩
  | s :: r, S, j, o, h => by
    have fin : (hide r S).get j = some o → (∀ l, s = .ce l → j ≠ l) → (o = .hid ∧ ∃ (i l : Nat), (s :: r)[i]? = some (Sl.ce l) ∧ j = l) ∨ ((∀ i : Nat, (s :: r)[i]? ≠ some (Sl.ce j)) ∧ S.get j = some o) := fun h n => by
      rcases St.get_hide h with ⟨a, i, l, b, c⟩ | ⟨a, b⟩
      · exact .inl ⟨a, i + 1, l, by simpa using b, c⟩
      · refine .inr ⟨fun i e => ?_, b⟩
        cases i with
        | zero =>
          have e : s = Sl.ce j := by simpa using e
          exact n j e rfl
        | succ i => exact a i (by simpa using e)
    cases s with
    | ce l =>
      have h : ((hide r S).put l .hid).get j = some o := h
      rcases St.get_put h with ⟨a, b⟩ | ⟨a, b⟩
      · exact .inl ⟨b, 0, l, rfl, a⟩
      · exact fin b fun l' e => by cases e; exact a
    | no => exact fin h fun l e => nomatch e
    | vl d => exact fin h fun l e => nomatch e
    | ex c fs => exact fin h fun l e => nomatch e
theorem hide_n : ∀ {v : Env} {S : St}, (hide v S).n = S.n
  | [], _ => rfl
  | .ce l :: r, S => by
    show ((hide r S).put l .hid).n = S.n
    exact hide_n (v := r)
  | .no :: r, S => hide_n (v := r)
  | .vl _ :: r, S => hide_n (v := r)
  | .ex _ _ :: r, S => hide_n (v := r)
theorem rh_hide (R : Rl Γ X ρ env σ S H) : Rh Γ ρ [] (hide env S) H := by
  refine ⟨fun l o h => ?_, fun l l' o o' h h' t t' z => ?_, R.h.tabs, fun l l' od od' u _ _ h1 h2 h3 z => ?_⟩
  · rw [hide_n]
    rcases St.get_hide h with ⟨rfl, i, l', a, rfl⟩ | ⟨a, b⟩
    · exact ⟨(R.s.sl i _ a).1, trivial⟩
    · have q := R.h.obj l o b
      refine ⟨q.1, ?_⟩
      cases o with
      | cel od =>
        rcases q.2 with ⟨i, c⟩ | c
        · exact absurd c (a i)
        · exact .inr c
      | _ => exact q.2
  · rcases St.get_hide h with ⟨rfl, _⟩ | ⟨_, b⟩
    · exact nomatch t
    · rcases St.get_hide h' with ⟨rfl, _⟩ | ⟨_, b'⟩
      · exact nomatch t'
      · exact R.h.inj l l' o o' b b' t t' z
  · rcases St.get_hide h1 with ⟨a, _⟩ | ⟨a, b⟩
    · exact nomatch a
    · rcases St.get_hide h2 with ⟨a', _⟩ | ⟨a', b'⟩
      · exact nomatch a'
      · exact R.h.injF l l' od od' u a a' b b' h3 z
theorem ext_hide {ρ0 : Nat → Addr} {S0 : St} {H0 : Hp} (e : Ext0 ρ0 S0 H0 ρ S H) (c : CelK S0.n S0 S) : Ext ρ0 S0 H0 ρ (hide env S) H :=
  ⟨⟨by rw [hide_n]; exact e.le, e.ag, e.keep, e.fr, fun l o' hl h t => by
    rcases St.get_hide h with ⟨rfl, _⟩ | ⟨_, b⟩
    · exact nomatch t
    · exact e.old l o' hl b t, fun l o' hl h t => by
    rcases St.get_hide h with ⟨rfl, _⟩ | ⟨_, b⟩
    · exact nomatch t
    · exact e.fresh l o' hl b t, e.dom, fun l od hl h => by
    rcases St.get_hide h with ⟨a, _⟩ | ⟨_, b⟩
    · exact nomatch a
    · exact e.oldC l od hl b, fun l od hl h => by
    rcases St.get_hide h with ⟨a, _⟩ | ⟨_, b⟩
    · exact nomatch a
    · exact e.freshC l od hl b⟩, fun l od hl h => by
    rcases St.get_hide h with ⟨a, _⟩ | ⟨_, b⟩
    · exact nomatch a
    · exact c l od hl b⟩
theorem Res.All.hide {P : Ev.D → St → Prop} {E : Nat → List (Str × Ev.D) → St → Prop} {v : Env} : ∀ {r : Res Ev.D}, (r.hide v).All P E → r.All P fun c fs S => E c fs (Ev.hide v S)
  | .ok _ _, h => h
  | .exc _ _ _, h => h
  | .draw n k, h => ⟨h.1, fun d hd => Res.All.hide (h.2 d hd)⟩
  | .fail, h => h
/-! ### the cells at the entry -/
theorem ext_cell {od : Option Ev.D} {a : Addr} (wf : ∀ l o, S.get l = some o → l < S.n) (h : H a = none) : Ext ρ S H (rup ρ S.n a) (S.new (.cel od)) H := by
  refine ⟨⟨Nat.le_succ S.n, fun _ hl => rup_lt hl, fun _ _ ha _ => ha, fun _ _ ha _ _ => ha, fun l o' hl e t => ?_, fun l o' hl e t => ?_, fun a e => e, fun l od hl e => ?_, fun l od hl e => ?_⟩, fun l od hl e => ?_⟩
  · rcases St.get_new e with ⟨a, b⟩ | ⟨a, b⟩
    · exact absurd a (Nat.ne_of_lt hl)
    · exact ⟨o', b, t⟩
  · rcases St.get_new e with ⟨a, b⟩ | ⟨a, b⟩
    · rw [b] at t; exact nomatch t
    · exact absurd (wf l o' b) (Nat.not_lt.mpr hl)
  · rcases St.get_new e with ⟨a, b⟩ | ⟨a, b⟩
    · exact absurd a (Nat.ne_of_lt hl)
    · exact ⟨od, b⟩
  · rcases St.get_new e with ⟨a, b⟩ | ⟨a, b⟩
    · rw [a, rup_same]; exact h
    · exact absurd (wf l _ b) (Nat.not_lt.mpr hl)
  · rcases St.get_new e with ⟨a, b⟩ | ⟨a, b⟩
    · exact absurd a (Nat.ne_of_lt hl)
    · exact b
theorem rl_cell {i : Nat} {s : Sl} {a : Addr} {x : Str} {od : Option Ev.D} (hN : X.N.Nodup) (inj : ∀ x y c, X.env.cells.lookup x = some c → X.env.cells.lookup y = some c → x = y) (R : Rl Γ X ρ env σ S H) (hs : env[i]? = some s) (ho : (∃ d, s = .vl d ∧ od = some d) ∨ (s = .no ∧ od = none))
    (hx : X.N[i]? = some x) (rc : RCe X a x) (ha : H a = none) : Rl Γ X (rup ρ S.n a) (env.set i (.ce S.n)) σ (S.new (.cel od)) H := by
  have e : Ext ρ S H (rup ρ S.n a) (S.new (.cel od)) H := ext_cell R.h.wf ha
  have il : i < env.length := (List.getElem?_eq_some_iff.mp hs).1
  have me : (env.set i (.ce S.n))[i]? = some (.ce S.n) := by rw [List.getElem?_set_self il]
  have up : ∀ {l : Nat}, (∃ j : Nat, env[j]? = some (Sl.ce l)) → ∃ j : Nat, (env.set i (.ce S.n))[j]? = some (Sl.ce l) := fun {l} ⟨j, hj⟩ => by
    refine ⟨j, ?_⟩
    rw [set_get]
    · exact hj
    · rintro rfl
      rw [hs] at hj
      rcases ho with ⟨d, rfl, _⟩ | ⟨rfl, _⟩ <;> exact nomatch hj
  have dn : ∀ {j l : Nat}, (env.set i (.ce S.n))[j]? = some (Sl.ce l) → (j = i ∧ l = S.n) ∨ (j ≠ i ∧ env[j]? = some (Sl.ce l)) := fun {j l} h => by
    by_cases z : j = i
    · rw [z, me] at h
      cases h
      exact .inl ⟨z, rfl⟩
    · rw [set_get z] at h
      exact .inr ⟨z, h⟩
  refine ⟨⟨fun l o h => ?_, fun l l' o o' h h' t t' z => ?_, R.h.tabs, fun l l' od' od'' u n1 n2 h1 h2 h3 z => ?_⟩, ⟨?_, R.s.lenS, fun j s' h => ?_, fun j1 j2 l1 l2 h1 h2 z => ?_⟩⟩
  · rcases St.get_new h with ⟨rfl, rfl⟩ | ⟨p, q⟩
    · exact ⟨Nat.lt_succ_self _, .inl ⟨i, me⟩⟩
    · have r := R.h.obj l o q
      refine ⟨Nat.lt_succ_of_lt r.1, ?_⟩
      have r2 := r.2.ext e r.1 fun _ _ h => h
      cases o with
      | cel od =>
        rcases r2 with c | c
        · exact .inl (up c)
        · exact .inr c
      | _ => exact r2
  · rcases St.get_new h with ⟨rfl, rfl⟩ | ⟨p, q⟩
    · exact nomatch t
    · rcases St.get_new h' with ⟨rfl, rfl⟩ | ⟨p', q'⟩
      · exact nomatch t'
      · rw [rup_lt (R.h.wf _ _ q), rup_lt (R.h.wf _ _ q')] at z
        exact R.h.inj l l' o o' q q' t t' z
  · rcases St.get_new h1 with ⟨rfl, _⟩ | ⟨p, q⟩
    · exact absurd me (n1 i)
    · rcases St.get_new h2 with ⟨rfl, _⟩ | ⟨p', q'⟩
      · exact absurd me (n2 i)
      · rw [rup_lt (R.h.wf _ _ q)] at h3 z
        rw [rup_lt (R.h.wf _ _ q')] at z
        exact R.h.injF l l' od' od'' u (fun j c => by obtain ⟨j', k⟩ := up ⟨j, c⟩; exact n1 j' k) (fun j c => by obtain ⟨j', k⟩ := up ⟨j, c⟩; exact n2 j' k) q q' h3 z
  · rw [List.length_set]; exact R.s.len
  · by_cases z : j = i
    · rw [z, me] at h
      cases h
      refine ⟨Nat.lt_succ_self _, ⟨x, by rw [z]; exact hx, by rw [rup_same]; exact rc⟩, fun d hd => ?_⟩
      rcases St.get_new hd with ⟨_, p⟩ | ⟨p, _⟩
      · have q := R.s.sl i _ hs
        rcases ho with ⟨d', rfl, rfl⟩ | ⟨rfl, rfl⟩
        · cases p
          obtain ⟨v, e1, e2⟩ := q
          exact ⟨v, by rw [z]; exact e1, e2.ext e⟩
        · exact nomatch p
      · exact absurd rfl p
    · rw [set_get z] at h
      exact (R.s.sl j _ h).extW e.toExt0.w e.cels
  · have key : ∀ {j l : Nat}, env[j]? = some (Sl.ce l) → rup ρ S.n a l = a → j = i := fun {j l} h q => by
      obtain ⟨lt, ⟨y, hy, rc'⟩, _⟩ := R.s.sl j _ h
      rw [rup_lt lt] at q
      have en := inj y x a (by rw [← q]; exact rc'.look) rc.look
      subst en
      have j1 := (List.getElem?_eq_some_iff.mp hy)
      have j2 := (List.getElem?_eq_some_iff.mp hx)
      exact (List.getElem_inj hN).mp (j1.2.trans j2.2.symm)
    rcases dn h1 with ⟨a1, rfl⟩ | ⟨a1, b1⟩
    · rcases dn h2 with ⟨a2, rfl⟩ | ⟨a2, b2⟩
      · exact a1.trans a2.symm
      · rw [rup_same] at z
        exact absurd (key b2 z.symm) a2
    · rcases dn h2 with ⟨a2, rfl⟩ | ⟨a2, b2⟩
      · rw [rup_same] at z
        exact absurd (key b1 z) a1
      · have l1' := (R.s.sl _ _ b1).1
        have l2' := (R.s.sl _ _ b2).1
        rw [rup_lt l1', rup_lt l2'] at z
        exact R.s.cinj j1 j2 l1 l2 b1 b2 z
theorem rl_cells (hN : X.N.Nodup) (inj : ∀ x y c, X.env.cells.lookup x = some c → X.env.cells.lookup y = some c → x = y) : ∀ {cells : List Nat} {env : Env} {S : St} {ρ : Nat → Addr} {v : Env} {S1 : St}, Rl Γ X ρ env σ S H → n0 ≤ S.n → CeOk n0 env →
    (∀ c ∈ cells, ∃ x a, X.N[c]? = some x ∧ RCe X a x ∧ H a = none) → celled cells env S = some (v, S1) → ∃ ρ1, Rl Γ X ρ1 v σ S1 H ∧ Ext0 ρ S H ρ1 S1 H ∧ CelK n0 S S1 ∧ CeOk n0 v
  | [], env, S, ρ, v, S1, R, hn, hc, hx, h => by
    cases h
    exact ⟨ρ, R, Ext0.refl R.h.wf, CelK.refl, hc⟩
  | i :: cells, env, S, ρ, v, S1, R, hn, hc, hx, h => by
    obtain ⟨x, a, h1, h2, h3⟩ := hx i List.mem_cons_self
    unfold celled at h
    rw [nth_get] at h
    have step : ∀ {s : Sl} {od : Option Ev.D}, env[i]? = some s → ((∃ d, s = .vl d ∧ od = some d) ∨ (s = .no ∧ od = none)) → celled cells (setN env i (.ce S.n)) (S.new (.cel od)) = some (v, S1) → ∃ ρ1, Rl Γ X ρ1 v σ S1 H ∧ Ext0 ρ S H ρ1 S1 H ∧ CelK n0 S S1 ∧ CeOk n0 v := fun {s od} hs ho h => by
      rw [setN_set] at h
      have R1 := rl_cell hN inj R hs ho h1 h2 h3
      have e1 : Ext ρ S H (rup ρ S.n a) (S.new (.cel od)) H := ext_cell R.h.wf h3
      obtain ⟨ρ1, r1, r2, r3, r4⟩ := rl_cells hN inj R1 (Nat.le_succ_of_le hn) (fun j l hj => by
        by_cases z : j = i
        · rw [z, List.getElem?_set_self (List.getElem?_eq_some_iff.mp hs).1] at hj
          cases hj
          exact hn
        · rw [set_get z] at hj
          exact hc j l hj) (fun c m => hx c (List.mem_cons_of_mem _ m)) h
      exact ⟨ρ1, r1, e1.toExt0.trans r2, (CelK.of e1 hn).trans r3 (Nat.le_refl _), r4⟩
    split at h
    · rename_i d e
      exact step e (.inl ⟨d, rfl, rfl⟩) h
    · rename_i e
      exact step e (.inr ⟨rfl, rfl⟩) h
    · exact nomatch h
/-- the names at the entry, without the cells -/
theorem rl_start {ps : List Str} {sc : Scope} {ds : List Ev.D} {vs : List V} (F : FnScope X.N ps sc) (R : Rh Γ ρ [] S H) (r : RDs Γ ρ S.n H ds vs) (hl : ds.length = ps.length) : Rl Γ X ρ (ds.map .vl ++ pad (X.N.length - ps.length)) (L2.start X.N vs) S H := by
  have pl : ps.length ≤ X.N.length := by have := congrArg List.length F.pre; rw [List.length_take] at this; omega
  have vl : vs.length = ps.length := r.len.trans hl
  have nce : ∀ (i l : Nat), (ds.map Sl.vl ++ pad (X.N.length - ps.length))[i]? ≠ some (Sl.ce l) := fun i l h => by
    by_cases hi : i < ds.length
    · rw [List.getElem?_append_left (by rw [List.length_map]; exact hi), List.getElem?_map, List.getElem?_eq_getElem hi] at h
      exact nomatch h
    · rw [List.getElem?_append_right (by rw [List.length_map]; omega)] at h
      exact nomatch pad_get _ _ _ h
  refine ⟨⟨fun l o h => ?_, R.inj, R.tabs, fun l l' od od' u _ _ h1 => R.injF l l' od od' u (fun i c => by simp at c) (fun i c => by simp at c) h1⟩, ⟨?_, ?_, fun i s h => ?_, fun i j l l' h _ _ => absurd h (nce i l)⟩⟩
  · have q := R.obj l o h
    refine ⟨q.1, ?_⟩
    cases o with
    | cel od =>
      rcases q.2 with ⟨i, c⟩ | c
      · simp at c
      · exact .inr c
    | _ => exact q.2
  · rw [List.length_append, List.length_map, pad_len]; omega
  · unfold L2.start
    rw [List.length_append, List.length_map, List.length_replicate]; omega
  · by_cases hi : i < ds.length
    · rw [List.getElem?_append_left (by rw [List.length_map]; exact hi), List.getElem?_map, List.getElem?_eq_getElem hi] at h
      cases h
      obtain ⟨v, e1, e2⟩ := r.get (i := i) (d := ds[i]) (by rw [nth_get]; exact List.getElem?_eq_getElem hi)
      refine ⟨v, ?_, e2⟩
      unfold L2.start
      rw [List.getElem?_append_left (by rw [List.length_map]; omega), List.getElem?_map, e1]
      rfl
    · rw [List.getElem?_append_right (by rw [List.length_map]; omega)] at h
      rw [pad_get _ _ _ h]
      trivial
end
end
end Ev
end
section
set_option Elab.async false
set_option linter.all false
set_option maxRecDepth 100000
set_option maxHeartbeats 400000
/-! DEFS: their promise. -/
namespace Ev
noncomputable section
open PySem PySem.Spec PyProof.Rows L2
structure DefI where
  name : Str
  qual : Str
  params : Arguments
  body : List Stmt
  scope : Scope
  dV : Value
  kV : Value
  doc : Value
  pm : Value
  an : Option Addr
  cdv : Value
  ct : Value
  N : List Str
abbrev DefI.fd (F : DefI) : FuncData := PySem.W.fnOf F.name F.qual F.params F.body F.scope F.dV F.kV F.doc F.pm F.an F.cdv F.ct
structure DefF (Γ : Gm) (i : Nat) (F : DefI) (d : Df) : Prop where
  lk : ∃ oc od osl, Γ.K.lookup (Γ.fnA i) = some ⟨oc, od, .func F.fd, osl⟩
  fd : Γ.fd i = F.fd
  cd : PySem.W.codeIn Γ.K F.cdv F.qual = true
  S : FnScope F.N (Γ.psn i) F.scope
  np : d.np = (Γ.psn i).length
  ns : d.ns = F.N.length
  cel : ∀ c ∈ d.cells, ∃ x, F.N[c]? = some x ∧ F.scope.names.lookup x = some .cell
abbrev dcx (Γ : Gm) (F : DefI) (i : Nat) (A : Around) (outer : List PySem.Env) (s : Shared) (H : Hp) (E : XK) : Cx := cxOf (L2N.CX Γ.P Γ.w) Γ.P Γ.w Γ.K Γ.mg Γ.base F.N F.qual F.scope (Γ.fnA i) F.cdv A outer s H E
/-- the two parts of a body -/
structure BodyOk (Γ : Gm) (X : Cx) (W : WX) (body : List Stmt) (evI : EvF SO) (fin : Option (EvF D)) : Prop where
  is : (fin = none ∧ ∀ n0, PSt X body (rS Γ X W n0 evI)) ∨ ∃ ini e pos ev, fin = some ev ∧ body = ini ++ [.Return (some e) pos] ∧ (∀ n0, PSt X ini (rS Γ X W n0 evI)) ∧ PE X e (rd Γ X W ev)
section
variable {Γ : Gm} {ρ ρ' : Nat → Addr} {S S' : St} {H H' : Hp} {i k : Nat} {d : Df} {F : DefI} {ds : List D} {evI : EvF SO} {fin : Option (EvF D)} {A : Around} {outer : List PySem.Env} {s s' : Shared} {us : List Value} {vs : List V} {Q : VK} {E : XK}
/-- its end by the own cells' freeze -/
theorem ext_fr {X : Cx} {env : Env} {σ : L2.St} {pins : List (Addr × Obj)} {ρ0 : Nat → Addr} {S0 : St} {H0 : Hp} (f : OwnF X ρ env σ H s (ownA env ρ)) (e : Ext ρ0 S0 H0 ρ S H) (n0 : ∀ a ∈ ownA env ρ, H0 a = none) : Ext ρ0 S0 H0 ρ S (frH (ownA env ρ) s.heap H) :=
  ⟨⟨e.le, e.ag, fun a o h i => f.keep (e.keep a o h i), fun a o h i t => f.keep (e.fr a o h i t), e.old, e.fresh, fun a h => e.dom a (f.dom h), e.oldC, e.freshC⟩, e.cels⟩
theorem df_run (hF : DefF Γ i F d) (hbody : ∀ (A : Around) (outer : List PySem.Env) (s : Shared) (H : Hp) (E : XK), Room (k + 1) A → A.guards = some [] → BodyOk Γ (dcx Γ F i A outer s H E) (fun cls d _ H => E cls d H) F.body evI fin) {args : Args}
    (hr : Room (k + 1) A) (hg : A.guards = some []) (e0 : Env0 Γ.P Γ.w Γ.K Γ.mg Γ.base A outer s H) (R : Rh Γ ρ [] S H) (r : RDs Γ ρ S.n H ds vs) (rv : Vals vs us) (hb : BindsTo s (Γ.fd i) args ((Γ.psn i).zip us)) (hds : ds.length = d.np)
    (h : (match celled d.cells (ds.map Sl.vl ++ pad (Nat.sub d.ns d.np)) S with
      | some (v, S1) => (evI v S1).nox.bind (retOf fin)
      | none => .fail).All (PostC Γ ρ S H Q) (PostCX Γ ρ S H E)) : codeAny (model Γ.P Γ.w) A (.call (.ref (Γ.fnA i)) args) (CR (L2N.CX Γ.P Γ.w) outer Γ.P Γ.w H s Q E) s := by
  obtain ⟨oc, od, osl, lk⟩ := hF.lk
  have hl : vs.length = (Γ.psn i).length := by rw [r.len, hds, hF.np]
  rw [hF.fd] at hb
  have KX : Γ.K.In s.heap := e0.mod.kin.keeps fun b o e => (e0.bs b o e).1
  have lim : s.heap.NoLimit := e0.mod.nolimit.keeps fun b o e => (e0.bs b o e).1
  have hkind : ∀ y ∈ (Γ.psn i).zip us, F.scope.names.lookup y.1 = some .local ∨ (F.scope.names.lookup y.1 = some .cell ∧ ((cellsFrom (s.heap.objs.size + 1) F.scope.names []).lookup y.1).isSome = true) := fun ⟨n, v⟩ hy => by
    rcases hF.S.par n (List.of_mem_zip hy).1 with q | q
    · exact .inl q
    · exact .inr ⟨q, PySem.W.cellsFrom_some _ _ _ (.inl q)⟩
  refine codeAny_call_function hr.depth (KX _ _ lk) rfl hF.S.co hF.S.gen rfl (PySem.W.codeRec_of KX hF.cd) (hb _ _ _ _ ?_)
  refine wpAny_newFunctionEnv_cells hF.S.kind hkind fun env he s1 x => ?_
  subst he
  refine ⟨lim.keeps x.toInCall.keep, codeAny_func ?_⟩
  have I : Inv (dcx Γ F i A outer s H E) [] (L2.start F.N vs) H s1 := inv_start hF.S hr.hd e0 hl rv x
  have R0 : Rl Γ (dcx Γ F i A outer s H E) ρ (ds.map Sl.vl ++ pad (F.N.length - (Γ.psn i).length)) (L2.start F.N vs) S H := rl_start (X := dcx Γ F i A outer s H E) hF.S R r (hds.trans hF.np)
  have pe : pad (Nat.sub d.ns d.np) = pad (F.N.length - (Γ.psn i).length) := by rw [hF.ns, hF.np]; rfl
  rw [pe] at h
  split at h
  · rename_i v S1 hc
    have nce : CeOk S.n (ds.map Sl.vl ++ pad (F.N.length - (Γ.psn i).length)) := fun j l hj => by
      by_cases hi : j < ds.length
      · rw [List.getElem?_append_left (by rw [List.length_map]; exact hi), List.getElem?_map, List.getElem?_eq_getElem hi] at hj
        exact nomatch hj
      · rw [List.getElem?_append_right (by rw [List.length_map]; omega)] at hj
        exact nomatch pad_get _ _ _ hj
    obtain ⟨ρ1, R1, x1, c1, v1⟩ := rl_cells (n0 := S.n) hF.S.nd I.ok.inj R0 (Nat.le_refl _) nce (fun c hm => by
      obtain ⟨y, hy, hk⟩ := hF.cel c hm
      obtain ⟨a, ha⟩ := I.ok.has y (.inl hk)
      have ab : s.heap.objs.size ≤ a := I.ok.cab y a rfl ha
      refine ⟨y, a, hy, ⟨ha, .inl hk, Heap.get?_none_of_le (Nat.le_trans e0.bsz ab), fun m => ?_⟩, I.freeC y a ha⟩
      obtain ⟨_, o, ho, _⟩ := I.ok.funs.mem m
      exact absurd (Heap.lt_size ho) (Nat.not_lt.mpr ab)) hc
    let FinP : Flow → Shared → Prop := fun fl s' => match fl with
      | .ret u => L2.CE outer Γ.P Γ.w H s Q u s'
      | .next => L2.CE outer Γ.P Γ.w H s Q Value.none s'
      | _ => False
    have stay : ∀ {σ' : L2.St} {H' : Hp} {w : V} {u : Value} {s' : Shared}, Inv (dcx Γ F i A outer s H E) [] σ' H' s' → RelV w u → Q w H' → L2.CE outer Γ.P Γ.w H s Q u s' :=
      fun {σ' H' w u s'} J rw q => ⟨w, H', J.os, J.bare, J.base, J.hok, rw, q⟩
    -- what a body's end is
    have ends : ∀ (D : Ends), (∀ w H', Q w H' → D.rt w H') → ∀ o S2, (∀ v2, o = .nx v2 → PostS Γ (dcx Γ F i A outer s H E) (fun cls d _ H => E cls d H) S.n ρ1 S1 H D o S2) → (retOf fin o S2).All (PostC Γ ρ S H Q) (PostCX Γ ρ S H E) →
        PostS Γ (dcx Γ F i A outer s H E) (fun cls d _ H => E cls d H) S.n ρ1 S1 H D o S2 := fun D hrt o S2 hnx q => by
      cases o with
      | nx v2 => exact hnx v2 rfl
      | bk v2 => exact False.elim q
      | ct v2 => exact False.elim q
      | rt d2 v2 => exact fun ρ' H' σ' u a b c _ f => hrt _ _ (q ρ' H' u (rh_hide a) (ext_hide (x1.trans b) (c1.trans c (Nat.le_refl _))) (by rw [hide_n]; exact f))
      | xc cc fs v2 => exact fun ρ' H' σ' cls dd a b c _ f => q ρ' H' cls dd (rh_hide a) (ext_hide (x1.trans b) (c1.trans c (Nat.le_refl _))) (by rw [hide_n]; exact f)
    have main : wpAny (model Γ.P Γ.w) (dcx Γ F i A outer s H E).A (execs F.body (dcx Γ F i A outer s H E).env) FinP (dcx Γ F i A outer s H E).xe s1 := by
      rcases (hbody A outer s H E hr hg).is with ⟨hf, hp⟩ | ⟨ini, e, pos, ev, hf, hbd, hp, he⟩
      · subst hf
        refine thn ((hp S.n).pss.run [] s1 _ H { nx := fun _ H' => Q .non H', rt := Q } I ⟨ρ1, v, S1, R1, x1.le, v1, h.bind.nox.mono (fun o S2 q => ends _ (fun _ _ h => h) o S2 (fun v2 z => ?_) q) fun _ _ _ p => p⟩) fun fl s' hs => ?_
        · subst z
          exact fun ρ' H' σ' a b c _ => q ρ' H' .non (rh_hide a) (ext_hide (x1.trans b) (c1.trans c (Nat.le_refl _))) rfl
        · cases fl with
          | ret u =>
            obtain ⟨w, σ', H', J, rw, q⟩ := hs
            exact stay J rw q
          | next =>
            obtain ⟨σ', H', J, q⟩ := hs
            exact stay (w := V.non) (u := Value.none) J rfl q
          | brk => obtain ⟨_, _, _, q⟩ := hs; exact q
          | cont => obtain ⟨_, _, _, q⟩ := hs; exact q
      · subst hf
        rw [hbd]
        refine (hp S.n).run [.Return (some e) pos] [] s1 _ H { nx := fun σ' H' => ∃ (ρ' : Nat → Addr) (v' : Env) (S' : St), Rl Γ (dcx Γ F i A outer s H E) ρ' v' σ' S' H' ∧ Ext0 ρ S H ρ' S' H' ∧ CelK S.n S S' ∧ ((ev v' S').hide v').All (PostC Γ ρ S H Q) (PostCX Γ ρ S H E), rt := Q } FinP I
          ⟨ρ1, v, S1, R1, x1.le, v1, h.bind.nox.mono (fun o S2 q => ends _ (fun _ _ h => h) o S2 (fun v2 z => ?_) q) fun _ _ _ p => p⟩ (fun s2 σ2 H2 J ⟨ρ2, v2, S2, R2, x2, c2, q2⟩ => ?_) fun fl s' nn hs => ?_
        · subst z
          exact fun ρ' H' σ' a b c _ => ⟨ρ', v2, S2, a, x1.trans b, c1.trans c (Nat.le_refl _), q⟩
        · have q3 := q2.hide
          refine wpAny_execs_cons (wpAny_Return_some (thn (he.run [] s2 σ2 H2 (fun w H3 => ∃ (ρ3 : Nat → Addr) (S3 : St) (d3 : D), Rl Γ (dcx Γ F i A outer s H E) ρ3 v2 σ2 S3 H3 ∧ Ext ρ2 S2 H2 ρ3 S3 H3 ∧ RD Γ ρ3 S3.n H3 d3 w ∧ PostC Γ ρ S H Q d3 S3) J
            ⟨ρ2, v2, S2, R2, q3.mono (fun d3 S3 p ρ3 H3 w R3 e3 r3 => ⟨ρ3, S3, d3, R3, e3, r3, p⟩) fun cc fs S3 p ρ3 H3 cls dd R3 e3 r3 => p ρ3 H3 cls dd (rh_hide R3) (ext_hide (x2.trans e3.toExt0) (c2.trans e3.cels x2.le)) (by rw [hide_n]; exact r3)⟩) fun u s3 ⟨w, H3, J3, rw, ρ3, S3, d3, R3, e3, r3, p⟩ => ?_))
          have f := ownF J3 R3
          have up : ∀ a ∈ ownA v2 ρ3, s.heap.objs.size ≤ a := fun a ha => by
            obtain ⟨j, l, hj, rfl⟩ := mem_ownA.mp ha
            obtain ⟨_, ⟨y, _, rc⟩, _⟩ := R3.s.sl j _ hj
            exact J3.ok.cab y _ rfl rc.look
          have H0n : ∀ a ∈ ownA v2 ρ3, H a = none := fun a ha => e0.hok.fresh (up a ha)
          have ee : Ext ρ S H ρ3 S3 H3 := ⟨x2.trans e3.toExt0, c2.trans e3.cels x2.le⟩
          have Q1 := p ρ3 (frH (ownA v2 ρ3) s3.heap H3) w (rh_fr J3 R3) (ext_fr (pins := []) f ee H0n) (RD.extW (S := S3) (S' := S3) (extW_fr f) r3)
          have un := J3.base
          refine ⟨w, _, J3.os, J3.bare, ⟨un.keep, un.slot, fun b o hb n hx => ?_, un.there, fun b xs hb => f.keep (un.tups b xs hb), fun b o u hb => f.keep (un.frzs b o u hb), fun b ps hb => ?_⟩, f.hok J3.hok, rw, Q1⟩
          · rw [frH_out fun m => absurd (Heap.lt_size hb) (Nat.not_lt.mpr (up b m))]
            exact un.free b o hb n hx
          · obtain ⟨more, z⟩ := un.tbls b ps hb
            exact ⟨more, f.keep z⟩
        · cases fl with
          | ret u =>
            obtain ⟨w, σ', H', J, rw, q⟩ := hs
            exact stay J rw q
          | next => exact absurd rfl nn
          | brk => obtain ⟨_, _, _, q⟩ := hs; exact q
          | cont => obtain ⟨_, _, _, q⟩ := hs; exact q
    refine wpAny_mono main (fun fl s' hs => ?_) fun e s' hs => hs
    cases fl with
    | ret u => exact hs
    | next => exact hs
    | brk => exact False.elim hs
    | cont => exact False.elim hs
  · exact False.elim h
end
end
end Ev
end
section
set_option Elab.async false
set_option linter.all false
set_option maxRecDepth 100000
set_option maxHeartbeats 400000
/-! EXCEPTIONS: try with several clauses, named or not. -/
namespace Ev
noncomputable section
open PySem PySem.Spec PyProof.Rows L2
abbrev TSu := Addr → Value → Option Addr → TS
/-- the ends behind a clause's name -/
def gone (i : Nat) (D : Ends) : Ends := { nx := fun τ G => D.nx (τ.set i none) G, rt := D.rt, bk := fun τ G => D.bk (τ.set i none) G, ct := fun τ G => D.ct (τ.set i none) G }
def wHs (K : PySem.W.Frag) (Wo : WX) (D : Ends) : List (Value × Option Nat × TSu) → WX
  | [] => Wo
  | (c, none, ts) :: r => fun cls d τ G => ∃ b, PySem.W.exmOne K cls c = some b ∧ (b = true → ∀ a, G a = none → ts a cls d D τ G) ∧ (b = false → wHs K Wo D r cls d τ G)
  | (c, some i, ts) :: r => fun cls d τ G => ∃ b, PySem.W.exmOne K cls c = some b ∧ (b = true → ∀ a, G a = none → ts a cls d (gone i D) (τ.set i (some (.ref a))) G) ∧ (b = false → wHs K Wo D r cls d τ G)
/-- a suite, in its context -/
def SuOk (X : Cx) (b : List Stmt) (ts : TSu) : Prop := ∀ (a : Addr) (oe : Obj) (cls : Value) (d : Option Addr) (pn : List (Addr × Obj)), L2N.Zn cls d oe → (∃ vs, oe.data = .fields vs) → PSs (X.suite a ((a, oe) :: pn)) b (ts a cls d)
inductive HdsG (X : Cx) : List ExceptHandler → List (Value × Option Nat × TSu) → Prop
  | nil : HdsG X [] []
  | one {x : Str} {c : Value} {ts : TSu} {b₀ : Stmt} {b : List Stmt} {p q : Pos} {hds : List ExceptHandler} {l : List (Value × Option Nat × TSu)} (hc : Names X x c) (hsu : SuOk X (b₀ :: b) ts) (r : HdsG X hds l) :
      HdsG X (.ExceptHandler (some (.Name x p)) none (b₀ :: b) q :: hds) ((c, none, ts) :: l)
  | as_ {x n : Str} {i : Nat} {c : Value} {ts : TSu} {b₀ : Stmt} {b : List Stmt} {p q : Pos} {hds : List ExceptHandler} {l : List (Value × Option Nat × TSu)} (hc : Names X x c) (hi : X.N[i]? = some n) (hl : X.env.kindOf n = some .local) (hsu : SuOk X (b₀ :: b) ts) (r : HdsG X hds l) :
      HdsG X (.ExceptHandler (some (.Name x p)) (some n) (b₀ :: b) q :: hds) ((c, some i, ts) :: l)
section
variable {X : Cx} {Wo : WX} {D : Ends} {pins pins1 : List (Addr × Obj)} {τ : L2.St} {G : Hp} {sI sh : Shared} {B : Heap} {a : Addr} {cls : Value} {d : Option Addr}
/-- the clauses, one after the other: the exception at a noted, on the ground -/
theorem clauses (hstk : X.stack = X.env :: X.outer) (hfr : X.env.frame = some X.env.locals) (hN : X.N.Nodup) (tk : L2N.Takes X Wo) (J : Inv X pins τ G sI) (nb : ∀ b o, sI.heap.get? b = some o → b ∉ frs X.stack → B.get? b = some o) (up : sI.heap.UpToSlots sh.heap)
    (hos : sh.os = sI.os) (hbare : AllBare sh.gens) (na : G a = none) (fl : HandSPX.FlyingZ B (X.env :: X.outer) a (L2N.Zn cls d) sh.heap) : ∀ {hds : List ExceptHandler} {l : List (Value × Option Nat × TSu)}, HdsG X hds l → wHs X.K Wo D l cls d τ G →
      wpAny (model X.prog X.w) X.A (handleBy (.ref a) X.env hds) (SP X pins D) X.xe sh := by
  have ground : ∀ {h2 : Heap}, B.StaysIn h2 → sI.heap.UpToSlots h2 → Inv X pins τ G { sh with heap := h2 } := fun {h2} st u => J.landed (s' := { sh with heap := h2 }) nb st u hos hbare
  have out : ∀ {h2 : Heap}, HandSPX.FlyingZ B (X.env :: X.outer) a (L2N.Zn cls d) h2 → a ≠ X.env.locals ∧ a ∉ X.fs := fun {h2} f2 => by
    obtain ⟨o2, v2, g2, _, d2⟩ := f2.there
    have nm : a ∉ frs (X.env :: X.outer) := fun m => by
      obtain ⟨_, o3, g3, n3⟩ := f2.2.2.1.mem m
      rw [g2] at g3
      cases g3
      exact n3 _ d2
    refine ⟨fun z => nm (List.mem_filterMap.mpr ⟨X.env, List.mem_cons_self, by rw [hfr, z]⟩), fun m => nm ?_⟩
    obtain ⟨e, he, q⟩ := List.mem_filterMap.mp m
    exact List.mem_filterMap.mpr ⟨e, List.mem_cons_of_mem _ he, q⟩
  intro hds l hk
  induction hk with
  | nil =>
    intro w
    refine wpAny_handleBy_nil ?_
    obtain ⟨_, _, _, oe, vs, T, oT, ts', he, _, hd, h1, _⟩ := id fl
    unfold PySem.passOn
    refine wpAny_bind (wpAny_field he hd h1 ?_)
    rw [if_neg (show ¬ ((Value.ref T == Value.none) = true) from by simp)]
    have up_ : wpAny (model X.prog X.w) X.A (setFlight (.ref a) X.env.frame) (fun _ s4 => wpAny (model X.prog X.w) X.A (throw (.ref a) : Sem Flow) (SP X pins D) X.xe s4) X.xe sh := by
      rw [hfr]
      refine HandSPX.setFlight_upZ fl fun h4 hh u4 => wpAny_throw (tk _ _ ⟨a, B, sI, pins, τ, G, cls, d, rfl, J, nb, up.trans u4, .inr (.inr (by rw [hstk]; exact hh)), na, hos, hbare, w⟩)
    first
      | exact wpAny_bind (wpAny_pure (wpAny_bind up_))
      | exact wpAny_bind up_
  | @one x c ts b₀ b p q hds2 l2 hc hsu r ih =>
    intro w
    obtain ⟨k, hk1, hyes, hno⟩ := w
    obtain ⟨o3, v3, g3, z3, d3⟩ := fl.there
    obtain ⟨nL, nF⟩ := out fl
    have J3 := ground fl.1 up
    have S3 := J3.suite g3 d3 na nL nF
    refine wpAny_handleBy_cons (codeAny_handlers_test ?_) (by intro q; cases q)
    have LT : PySem.W.Looks (model X.prog X.w) sh.heap (typeOf (.ref a)) cls := fun A Q E s k q => wpAny_typeOf_ref (k _ _ g3) (by rw [z3.1]; exact q)
    have LM := PySem.W.exm_one (M := model X.prog X.w) J3.kIn LT hk1
    have test : ∀ {Q : Value → Shared → Prop} {E : Value → Shared → Prop}, Q c sh → wpAny (model X.prog X.w) (X.A.mark (some (.ref a))) (eval (.Name x p) X.env) Q E sh := fun {Q E} y => by
      obtain ⟨hg, hdbg, hm | ⟨hm, hv, hnn⟩⟩ := hc
      · exact ld_glob (X := X.suite a ((a, o3) :: (X.pn ++ pins))) S3 hg hm y hdbg
      · exact ld_blt (X := X.suite a ((a, o3) :: (X.pn ++ pins))) S3 hg hm hv y hnn hdbg
    refine test (LM.here ?_)
    cases k with
    | false => exact ih (hno rfl)
    | true =>
      refine codeAny_handlers_suite (HandSPX.lands_againZ fl fun h4 fl4 u4 => ?_)
      obtain ⟨o4, v4, g4, z4, d4⟩ := fl4.there
      have J4 := ground fl4.1 (up.trans u4)
      refine wpAny_mono ((hsu a o4 cls d (X.pn ++ pins) z4 ⟨_, d4⟩).run [] _ _ G _ (J4.suite g4 d4 na nL nF) (hyes rfl a na)) (fun f s6 y => ?_) fun _ _ z => False.elim z
      cases f with
      | ret u =>
        obtain ⟨v6, τ6, G6, S6, r6, q6⟩ := y
        exact ⟨v6, τ6, G6, S6.unsuite J.ok, r6, q6⟩
      | next =>
        obtain ⟨τ6, G6, S6, q6⟩ := y
        exact ⟨τ6, G6, S6.unsuite J.ok, q6⟩
      | brk =>
        obtain ⟨τ6, G6, S6, q6⟩ := y
        exact ⟨τ6, G6, S6.unsuite J.ok, q6⟩
      | cont =>
        obtain ⟨τ6, G6, S6, q6⟩ := y
        exact ⟨τ6, G6, S6.unsuite J.ok, q6⟩
  | @as_ x n i c ts b₀ b p q hds2 l2 hc hi hln hsu r ih =>
    intro w
    obtain ⟨k, hk1, hyes, hno⟩ := w
    obtain ⟨o3, v3, g3, z3, d3⟩ := fl.there
    obtain ⟨nL, nF⟩ := out fl
    have J3 := ground fl.1 up
    have S3 := J3.suite g3 d3 na nL nF
    refine wpAny_handleBy_cons (codeAny_handlers_test ?_) (by intro q; cases q)
    have LT : PySem.W.Looks (model X.prog X.w) sh.heap (typeOf (.ref a)) cls := fun A Q E s k q => wpAny_typeOf_ref (k _ _ g3) (by rw [z3.1]; exact q)
    have LM := PySem.W.exm_one (M := model X.prog X.w) J3.kIn LT hk1
    have test : ∀ {Q : Value → Shared → Prop} {E : Value → Shared → Prop}, Q c sh → wpAny (model X.prog X.w) (X.A.mark (some (.ref a))) (eval (.Name x p) X.env) Q E sh := fun {Q E} y => by
      obtain ⟨hg, hdbg, hm | ⟨hm, hv, hnn⟩⟩ := hc
      · exact ld_glob (X := X.suite a ((a, o3) :: (X.pn ++ pins))) S3 hg hm y hdbg
      · exact ld_blt (X := X.suite a ((a, o3) :: (X.pn ++ pins))) S3 hg hm hv y hnn hdbg
    refine test (LM.here ?_)
    cases k with
    | false => exact ih (hno rfl)
    | true =>
      refine codeAny_handlers_suite_as (HandSPX.lands_againZ fl fun h4 fl4 u4 => ?_)
      obtain ⟨o4, v4, g4, z4, d4⟩ := fl4.there
      have J4 := ground fl4.1 (up.trans u4)
      refine store_ok (X := X.suite a ((a, o4) :: (X.pn ++ pins))) (v := .ref a) (J4.suite g4 d4 na nL nF) hN hi (.inl hln) rfl (fun s5 S5 => ?_) (.inr hln)
      refine wpAny_mono ((hsu a o4 cls d (X.pn ++ pins) z4 ⟨_, d4⟩).run [] s5 _ G _ S5 (hyes rfl a na)) (fun f s6 y => ?_) fun _ _ z => False.elim z
      have fin_ : ∀ {τ6 : L2.St} {G6 : Hp} {Q : Shared → Prop}, Inv (X.suite a ((a, o4) :: (X.pn ++ pins))) [] τ6 G6 s6 → (∀ s7, Inv X pins (τ6.set i none) G6 s7 → Q s7) →
          wpAny (model X.prog X.w) X.A (do bindName X.env n .none; unbindBehindTheSuite X.env n q) (fun _ s7 => Q s7) X.xe s6 := fun {τ6 G6 Q} S6 hq => gone_ok (S6.unsuite J.ok) hN hi hln hq
      cases f with
      | ret u =>
        obtain ⟨v6, τ6, G6, S6, r6, q6⟩ := y
        exact fin_ S6 fun s7 J7 => ⟨v6, _, G6, J7, r6, q6⟩
      | next =>
        obtain ⟨τ6, G6, S6, q6⟩ := y
        exact fin_ S6 fun s7 J7 => ⟨_, G6, J7, q6⟩
      | brk =>
        obtain ⟨τ6, G6, S6, q6⟩ := y
        exact fin_ S6 fun s7 J7 => ⟨_, G6, J7, q6⟩
      | cont =>
        obtain ⟨τ6, G6, S6, q6⟩ := y
        exact fin_ S6 fun s7 J7 => ⟨_, G6, J7, q6⟩
end
/-- THE RULE -/
theorem ps_try_g {X : Cx} {body : List Stmt} {h0 : ExceptHandler} {hds : List ExceptHandler} {l : List (Value × Option Nat × TSu)} {pos : Pos} {tb : WX → TS} {Wo : WX} (hstk : X.stack = X.env :: X.outer) (hfr : X.env.frame = some X.env.locals) (hN : X.N.Nodup) (tk : L2N.Takes X Wo)
    (hb : ∀ (W : WX) (pn : List (Addr × Obj)) (xe : Value → Shared → Prop), L2N.Takes (X.tr pn xe) W → PassesOwn (model X.prog X.w) X.A X.env xe → PSs (X.tr pn xe) body (tb W)) (hh : HdsG X (h0 :: hds) l) :
    PS X (.Try body (h0 :: hds) [] [] pos) (fun D σ H => tb (wHs X.K Wo D l) D σ H) := by
  refine ⟨fun pins s σ H D I h => ?_⟩
  refine wpAny_Try_except ?_
  refine wpAny_mono ((hb (wHs X.K Wo D l) (X.pn ++ pins) (fun e t1 => wpAny (model X.prog X.w) X.A (noteFrame e X.env) (fun _ t2 => wpAny (model X.prog X.w) X.A (setFlight e none) (fun _ t3 =>
    wpAny (model X.prog X.w) X.A (handleBy e X.env (h0 :: hds)) (SP X pins D) X.xe t3) X.xe t2) X.xe t1) (fun u t ⟨a, B, sI, pins1, τ, G, cls, d, eu, J1, nb, up, sky, na, hos, hbare, w⟩ => ?_) PassesOwn.looking).run [] s σ H D (I.toTry _) h) (fun f t y => ?_) fun e t y => y
  · subst eu
    have J : Inv X pins τ G sI := J1.ofTry I.ok
    have sky2 : Sky B (X.env :: X.outer) a (L2N.Zn cls d) X.env.locals t.heap := by rw [← hstk]; exact sky
    show wpAny (model X.prog X.w) X.A (noteFrame (.ref a) X.env) _ _ _
    refine L2N.Sky.land L2N.Zn.steady (by rw [I.ok.frames, hstk]) hfr sky2 fun h3 fl3 up3 => ?_
    exact clauses (sh := { t with heap := h3 }) hstk hfr hN tk J nb (up.trans up3) hos hbare na fl3 hh w
  · cases f with
    | ret u =>
      obtain ⟨v, τ, G, J, r, q⟩ := y
      exact ⟨v, τ, G, J.ofTry I.ok, r, q⟩
    | next =>
      obtain ⟨τ, G, J, q⟩ := y
      exact wpAny_execs_nil ⟨τ, G, J.ofTry I.ok, q⟩
    | brk =>
      obtain ⟨τ, G, J, q⟩ := y
      exact ⟨τ, G, J.ofTry I.ok, q⟩
    | cont =>
      obtain ⟨τ, G, J, q⟩ := y
      exact ⟨τ, G, J.ofTry I.ok, q⟩
end
end Ev
end
section
set_option Elab.async false
set_option linter.all false
set_option maxRecDepth 100000
set_option maxHeartbeats 400000
/-! EXCEPTIONS: try, as the evaluator has it. -/
namespace Ev
noncomputable section
open PySem PySem.Spec PyProof.Rows L2
def noexS : Sl → Sl
  | .ex _ _ => .no
  | s => s
theorem noex_map : ∀ v : Env, noex v = v.map noexS
  | [] => rfl
  | .ex _ _ :: r => congrArg (_ :: ·) (noex_map r)
  | .no :: r => congrArg (_ :: ·) (noex_map r)
  | .vl _ :: r => congrArg (_ :: ·) (noex_map r)
  | .ce _ :: r => congrArg (_ :: ·) (noex_map r)
theorem noex_get {v : Env} {i : Nat} {s : Sl} (h : (noex v)[i]? = some s) : ∃ t, v[i]? = some t ∧ s = noexS t := by
  rw [noex_map, List.getElem?_map] at h
  cases e : v[i]? with
  | none => rw [e] at h; exact nomatch h
  | some t => rw [e] at h; exact ⟨t, rfl, (Option.some.inj h).symm⟩
theorem noex_ce {v : Env} {i l : Nat} : (noex v)[i]? = some (Sl.ce l) ↔ v[i]? = some (Sl.ce l) := by
  constructor
  · intro h
    obtain ⟨t, a, b⟩ := noex_get h
    cases t with
    | ce l' => cases b; exact a
    | _ => exact nomatch b
  · intro h
    rw [noex_map, List.getElem?_map, h]
    rfl
theorem noex_noex (v : Env) : noex (noex v) = noex v := by
  rw [noex_map, noex_map, List.map_map]
  congr 1
  funext s
  cases s <;> rfl
theorem noex_nex {v : Env} {i c : Nat} {fs : List (Str × D)} : (noex v)[i]? ≠ some (Sl.ex c fs) := fun h => by
  obtain ⟨t, _, b⟩ := noex_get h
  cases t <;> exact nomatch b
section
variable {Γ : Gm} {X X' : Cx} {W : WX} {n0 : Nat} {ρ : Nat → Addr} {S : St} {H : Hp} {env v : Env} {σ : L2.St}
theorem ceok_noex : CeOk n0 (noex v) ↔ CeOk n0 v := ⟨fun h i l e => h i l (noex_ce.mpr e), fun h i l e => h i l (noex_ce.mp e)⟩
/-- contexts of the same frame -/
structure SameF (X X' : Cx) : Prop where
  N : X'.N = X.N
  env : X'.env = X.env
  base : X'.base = X.base
  outer : X'.outer = X.outer
theorem rl_noex (f : SameF X X') (R : Rl Γ X ρ v σ S H) : Rl Γ X' ρ (noex v) σ S H := by
  refine ⟨⟨fun l o h => ?_, R.h.inj, R.h.tabs, fun l l' od od' u n1 n2 h1 h2 h3 => R.h.injF l l' od od' u (fun i c => n1 i (noex_ce.mpr c)) (fun i c => n2 i (noex_ce.mpr c)) h1 h2 h3⟩, ⟨?_, by rw [f.N]; exact R.s.lenS, fun i s h => ?_, fun i j l l' h1 h2 => R.s.cinj i j l l' (noex_ce.mp h1) (noex_ce.mp h2)⟩⟩
  · have q := R.h.obj l o h
    refine ⟨q.1, ?_⟩
    cases o with
    | cel od =>
      rcases q.2 with ⟨i, c⟩ | c
      · exact .inl ⟨i, noex_ce.mpr c⟩
      · exact .inr c
    | _ => exact q.2
  · rw [noex_map, List.length_map, f.N]; exact R.s.len
  · obtain ⟨t, a, rfl⟩ := noex_get h
    have q := R.s.sl i t a
    cases t with
    | no => trivial
    | vl d => exact q
    | ex c fs => trivial
    | ce l =>
      obtain ⟨lt, ⟨x, hx, rc⟩, g⟩ := q
      exact ⟨lt, ⟨x, by rw [f.N]; exact hx, ⟨by rw [f.env]; exact rc.look, by rw [f.env]; exact rc.kin, by rw [f.base]; exact rc.base, by show _ ∉ frs X'.outer; rw [f.outer]; exact rc.nofs⟩⟩, g⟩
theorem SameF.refl : SameF X X := ⟨rfl, rfl, rfl, rfl⟩
theorem SameF.symm (f : SameF X X') : SameF X' X := ⟨f.N.symm, f.env.symm, f.base.symm, f.outer.symm⟩
/-- a plain name is dropped -/
theorem rl_drop {i : Nat} (R : Rl Γ X ρ v σ S H) (h : ∀ l, v[i]? ≠ some (Sl.ce l)) : Rl Γ X ρ (v.set i .no) (σ.set i none) S H := by
  have ce : ∀ {j l : Nat}, (v.set i .no)[j]? = some (Sl.ce l) ↔ v[j]? = some (Sl.ce l) := fun {j l} => by
    by_cases z : j = i
    · subst z
      constructor
      · intro q
        rw [List.getElem?_set] at q
        split at q
        · split at q <;> exact nomatch q
        · exact absurd rfl ‹¬ _›
      · intro q
        exact absurd q (h l)
    · rw [set_get z]
  refine ⟨⟨fun l o ho => ?_, R.h.inj, R.h.tabs, fun l l' od od' u n1 n2 h1 h2 h3 => R.h.injF l l' od od' u (fun i c => n1 i (ce.mpr c)) (fun i c => n2 i (ce.mpr c)) h1 h2 h3⟩, ⟨by rw [List.length_set]; exact R.s.len, by rw [List.length_set]; exact R.s.lenS, fun j s hs => ?_, fun a b l l' h1 h2 => R.s.cinj a b l l' (ce.mp h1) (ce.mp h2)⟩⟩
  · have q := R.h.obj l o ho
    refine ⟨q.1, ?_⟩
    cases o with
    | cel od =>
      rcases q.2 with ⟨j, c⟩ | c
      · exact .inl ⟨j, ce.mpr c⟩
      · exact .inr c
    | _ => exact q.2
  · by_cases z : j = i
    · subst z
      rw [List.getElem?_set] at hs
      split at hs
      · split at hs
        · cases hs; trivial
        · exact nomatch hs
      · exact absurd rfl ‹¬ _›
    · rw [set_get z] at hs
      have q := R.s.sl j s hs
      have e : (σ.set i none)[j]? = σ[j]? := set_get z
      cases s with
      | no => trivial
      | vl d => obtain ⟨w, a, b⟩ := q; exact ⟨w, by rw [e]; exact a, b⟩
      | ce l => obtain ⟨a, b, c⟩ := q; exact ⟨a, b, fun d hd => by rw [e]; exact c d hd⟩
      | ex c fs => obtain ⟨w, a, b⟩ := q; exact ⟨w, by rw [e]; exact a, b⟩
/-- the exception's name in its suite -/
theorem rl_exn {i c : Nat} {fs : List (Str × D)} {val : V} (R : Rl Γ X ρ v σ S H) (h : ∀ l, v[i]? ≠ some (Sl.ce l)) (hi : i < v.length) (E : ExS Γ X ρ S.n H c fs val) : Rl Γ X ρ (v.set i (.ex c fs)) (σ.set i (some val)) S H := by
  have ce : ∀ {j l : Nat}, (v.set i (.ex c fs))[j]? = some (Sl.ce l) ↔ v[j]? = some (Sl.ce l) := fun {j l} => by
    by_cases z : j = i
    · subst z
      rw [List.getElem?_set_self hi]
      exact ⟨fun q => (nomatch q), fun q => absurd q (h l)⟩
    · rw [set_get z]
  refine ⟨⟨fun l o ho => ?_, R.h.inj, R.h.tabs, fun l l' od od' u n1 n2 h1 h2 h3 => R.h.injF l l' od od' u (fun i c => n1 i (ce.mpr c)) (fun i c => n2 i (ce.mpr c)) h1 h2 h3⟩, ⟨by rw [List.length_set]; exact R.s.len, by rw [List.length_set]; exact R.s.lenS, fun j s hs => ?_, fun a b l l' h1 h2 => R.s.cinj a b l l' (ce.mp h1) (ce.mp h2)⟩⟩
  · have q := R.h.obj l o ho
    refine ⟨q.1, ?_⟩
    cases o with
    | cel od =>
      rcases q.2 with ⟨j, c⟩ | c
      · exact .inl ⟨j, ce.mpr c⟩
      · exact .inr c
    | _ => exact q.2
  · by_cases z : j = i
    · subst z
      rw [List.getElem?_set_self hi] at hs
      cases hs
      exact ⟨val, List.getElem?_set_self (by rw [R.s.lenS, ← R.s.len]; exact hi), E⟩
    · rw [set_get z] at hs
      have q := R.s.sl j s hs
      have e : (σ.set i (some val))[j]? = σ[j]? := set_get z
      cases s with
      | no => trivial
      | vl d => obtain ⟨w, a, b⟩ := q; exact ⟨w, by rw [e]; exact a, b⟩
      | ce l => obtain ⟨a, b, c⟩ := q; exact ⟨a, b, fun d hd => by rw [e]; exact c d hd⟩
      | ex c fs => obtain ⟨w, a, b⟩ := q; exact ⟨w, by rw [e]; exact a, b⟩
end
/-! ### the rule -/
def clsVal (Γ : Gm) (k : Nat) : Value := match Nat.ble 100 k with
  | true => .type (tyS k)
  | false => .ref (Γ.clA k)
abbrev NoW : WX := fun _ _ _ _ => False
def noexO : SO → SO
  | .nx v => .nx (noex v)
  | .bk v => .bk (noex v)
  | .ct v => .ct (noex v)
  | .rt d v => .rt d (noex v)
  | .xc c fs v => .xc c fs (noex v)
/-- the clauses -/
inductive HdsE (Γ : Gm) (X : Cx) (n0 : Nat) (ih : IH) : List ExceptHandler → List (Nat × Option Nat × List CS) → Prop
  | nil : HdsE Γ X n0 ih [] []
  | one {x : Str} {k : Nat} {b₀ : Stmt} {b : List Stmt} {cb : List CS} {p q : Pos} {hds : List ExceptHandler} {hs : List (Nat × Option Nat × List CS)} (hc : Names X x (clsVal Γ k))
      (hsu : ∀ (a : Addr) (oe : Obj) (cls : Value) (d : Option Addr) (pn : List (Addr × Obj)), L2N.Zn cls d oe → (∃ vs, oe.data = .fields vs) → PSs (X.suite a ((a, oe) :: pn)) (b₀ :: b) (rS Γ (X.suite a ((a, oe) :: pn)) NoW n0 (ih.ss cb))) (r : HdsE Γ X n0 ih hds hs) :
      HdsE Γ X n0 ih (.ExceptHandler (some (.Name x p)) none (b₀ :: b) q :: hds) ((k, none, cb) :: hs)
  | as_ {x n : Str} {i k : Nat} {b₀ : Stmt} {b : List Stmt} {cb : List CS} {p q : Pos} {hds : List ExceptHandler} {hs : List (Nat × Option Nat × List CS)} (hc : Names X x (clsVal Γ k)) (hi : X.N[i]? = some n) (hl : X.env.kindOf n = some .local)
      (hsu : ∀ (a : Addr) (oe : Obj) (cls : Value) (d : Option Addr) (pn : List (Addr × Obj)), L2N.Zn cls d oe → (∃ vs, oe.data = .fields vs) → PSs (X.suite a ((a, oe) :: pn)) (b₀ :: b) (rS Γ (X.suite a ((a, oe) :: pn)) NoW n0 (ih.ss cb))) (r : HdsE Γ X n0 ih hds hs) :
      HdsE Γ X n0 ih (.ExceptHandler (some (.Name x p)) (some n) (b₀ :: b) q :: hds) ((k, some i, cb) :: hs)
/-- what a suite is given, what it leaves -/
def suT (Γ : Gm) (X : Cx) (n0 : Nat) (ih : IH) (i : Option Nat) (cb : List CS) : TSu := fun a cls d D τ G => ∃ (ρ : Nat → Addr) (v : Env) (τ0 : L2.St) (S : St) (c : Nat) (fs : List (Str × Ev.D)), Rl Γ X ρ (noex v) τ0 S G ∧ n0 ≤ S.n ∧ CeOk n0 v ∧ XR Γ ρ S.n G c fs cls d ∧
  match i with
  | none => τ = τ0 ∧ (ih.ss cb (noex v) S).All (fun o S' => match o with
    | .nx w => ∀ (ρ' : Nat → Addr) (G' : Hp) (τ' : L2.St), Rl Γ X ρ' (noex w) τ' S' G' → Ext0 ρ S G ρ' S' G' → CelK n0 S S' → CeOk n0 w → D.nx τ' G'
    | .rt x w => ∀ (ρ' : Nat → Addr) (G' : Hp) (τ' : L2.St) (u : V), Rl Γ X ρ' (noex w) τ' S' G' → Ext0 ρ S G ρ' S' G' → CelK n0 S S' → CeOk n0 w → RD Γ ρ' S'.n G' x u → D.rt u G'
    | _ => False) NoE
  | some i => τ = τ0.set i (some (.ref a)) ∧ i < v.length ∧ (∀ l, v[i]? ≠ some (Sl.ce l)) ∧ (ih.ss cb ((noex v).set i (.ex c fs)) S).All (fun o S' => match o with
    | .nx w => (∀ l, w[i]? ≠ some (Sl.ce l)) ∧ ∀ (ρ' : Nat → Addr) (G' : Hp) (τ' : L2.St), Rl Γ X ρ' (noex (w.set i .no)) (τ'.set i none) S' G' → Ext0 ρ S G ρ' S' G' → CelK n0 S S' → CeOk n0 w → D.nx τ' G'
    | .rt x w => (∀ l, w[i]? ≠ some (Sl.ce l)) ∧ ∀ (ρ' : Nat → Addr) (G' : Hp) (τ' : L2.St) (u : V), Rl Γ X ρ' (noex (w.set i .no)) (τ'.set i none) S' G' → Ext0 ρ S G ρ' S' G' → CelK n0 S S' → CeOk n0 w → RD Γ ρ' S'.n G' x u → D.rt u G'
    | _ => False) NoE
section
variable {Γ : Gm} {X : Cx} {W : WX} {n0 : Nat} {ih : IH}
def hdsL (Γ : Gm) (X : Cx) (n0 : Nat) (ih : IH) : List (Nat × Option Nat × List CS) → List (Value × Option Nat × TSu)
  | [] => []
  | (k, i, cb) :: r => (clsVal Γ k, i, suT Γ X n0 ih i cb) :: hdsL Γ X n0 ih r
theorem same_su {a : Addr} {pn : List (Addr × Obj)} : SameF X (X.suite a pn) := ⟨rfl, rfl, rfl, rfl⟩
theorem same_tr {pn : List (Addr × Obj)} {xe : Value → Shared → Prop} : SameF X (X.tr pn xe) := ⟨rfl, rfl, rfl, rfl⟩
theorem rl_toS {X' : Cx} {ρ : Nat → Addr} {v : Env} {σ : L2.St} {S : St} {H : Hp} (f : SameF X X') (R : Rl Γ X ρ (noex v) σ S H) : Rl Γ X' ρ (noex v) σ S H := by
  have q := rl_noex f R
  rw [noex_noex] at q
  exact q
theorem hdsG_of : ∀ {hds : List ExceptHandler} {hs : List (Nat × Option Nat × List CS)}, HdsE Γ X n0 ih hds hs → HdsG X hds (hdsL Γ X n0 ih hs)
  | _, _, .nil => .nil
  | _, _, .one hc hsu r => .one hc (fun a oe cls d pn hz hf => (hsu a oe cls d pn hz hf).wk fun D τ G ⟨ρ, v, τ0, S, c, fs, R, hn, hce, xr, e, h⟩ => by
      subst e
      refine ⟨ρ, noex v, S, rl_toS same_su R, hn, ceok_noex.mpr hce, h.mono (fun o S' q => ?_) fun _ _ _ z => z⟩
      cases o with
      | nx w => exact fun ρ' G' τ' a b c d => q ρ' G' τ' (rl_noex same_su.symm a) b c d
      | rt x w => exact fun ρ' G' τ' u a b c d r => q ρ' G' τ' u (rl_noex same_su.symm a) b c d r
      | bk _ => exact False.elim q
      | ct _ => exact False.elim q
      | xc _ _ _ => exact False.elim q) (hdsG_of r)
  | _, _, .as_ (i := i) hc hi hl hsu r => .as_ hc hi hl (fun a oe cls d pn hz hf => (hsu a oe cls d pn hz hf).wk fun D τ G ⟨ρ, v, τ0, S, c, fs, R, hn, hce, xr, e, lt, nc, h⟩ => by
      subst e
      have nc' : ∀ l, (noex v)[i]? ≠ some (Sl.ce l) := fun l z => nc l (noex_ce.mp z)
      have il : i < (noex v).length := by rw [noex_map, List.length_map]; exact lt
      obtain ⟨ec, xr⟩ := xr
      have E : ExS Γ (X.suite a ((a, oe) :: pn)) ρ S.n G c fs (.ref a) := by
        obtain ⟨vs, hv⟩ := hf
        refine ⟨a, oe, pn, vs, oe.dict, rfl, rfl, hz.1.trans ec, rfl, hv, ?_⟩
        rcases xr with z | ⟨dd, ws, e1, e2, e3⟩
        · exact .inl z
        · exact .inr ⟨dd, ws, hz.2.1.trans e1, e2, e3⟩
      have nce : CeOk n0 ((noex v).set i (.ex c fs)) := fun j l hj => by
        by_cases z : j = i
        · rw [z, List.getElem?_set_self il] at hj
          exact nomatch hj
        · rw [set_get z] at hj
          exact hce j l (noex_ce.mp hj)
      refine ⟨ρ, (noex v).set i (.ex c fs), S, rl_exn (rl_toS same_su R) nc' il E, hn, nce, h.mono (fun o S' q => ?_) fun _ _ _ z => z⟩
      cases o with
      | nx w => exact fun ρ' G' τ' a b c d => q.2 ρ' G' τ' (rl_noex same_su.symm (rl_drop a q.1)) b c d
      | rt x w => exact fun ρ' G' τ' u a b c d r => q.2 ρ' G' τ' u (rl_noex same_su.symm (rl_drop a q.1)) b c d r
      | bk _ => exact False.elim q
      | ct _ => exact False.elim q
      | xc _ _ _ => exact False.elim q) (hdsG_of r)
/-- which exceptions a clause takes -/
def ExmOk (Γ : Gm) : Prop := ∀ (c k : Nat) (b : Bool), Γ.G.below c k = some b → PySem.W.exmOne Γ.K (.ref (Γ.clA c)) (clsVal Γ k) = some b
theorem hand_ok (ex : ExmOk Γ) (hK : X.K = Γ.K) {D : Ends} {ρ0 : Nat → Addr} {S0 : St} {H0 : Hp} {ρ : Nat → Addr} {v : Env} {S : St} {H : Hp} {σ : L2.St} {c : Nat} {fs : List (Str × Ev.D)} {cls : Value} {dd : Option Addr} (R : Rl Γ X ρ (noex v) σ S H) (e : Ext0 ρ0 S0 H0 ρ S H) (cc : CelK n0 S0 S) (hn : n0 ≤ S.n) (hce : CeOk n0 v)
    (xr : XR Γ ρ S.n H c fs cls dd) : ∀ {hs : List (Nat × Option Nat × List CS)}, (hand Γ.G ih c fs hs (noex v) S).All (PostS Γ X W n0 ρ0 S0 H0 D) NoE → wHs X.K W D (hdsL Γ X n0 ih hs) cls dd σ H
  | [], h => (show PostS Γ X W n0 ρ0 S0 H0 D (.xc c fs (noex v)) S from h) ρ H σ cls dd R e cc (ceok_noex.mpr hce) xr
  | (k, i, cb) :: hs, h => by
    have ecls : cls = .ref (Γ.clA c) := xr.1
    unfold hand at h
    split at h
    · exact False.elim h
    · rename_i hb
      have q := hand_ok ex hK R e cc hn hce xr (hs := hs) h
      have eb : PySem.W.exmOne X.K cls (clsVal Γ k) = some false := by rw [hK, ecls]; exact ex c k false hb
      cases i with
      | none => exact ⟨false, eb, (fun z => nomatch z), fun _ => q⟩
      | some i => exact ⟨false, eb, (fun z => nomatch z), fun _ => q⟩
    · rename_i hb
      have eb : PySem.W.exmOne X.K cls (clsVal Γ k) = some true := by rw [hK, ecls]; exact ex c k true hb
      split at h
      · refine ⟨true, eb, fun _ a na => ⟨ρ, v, σ, S, c, fs, R, hn, hce, xr, rfl, h.bind.mono (fun o S' q => ?_) fun _ _ _ z => z⟩, (fun z => nomatch z)⟩
        cases o with
        | nx w => exact fun ρ' G' τ' a b d f => (show PostS Γ X W n0 ρ0 S0 H0 D (.nx (noex w)) S' from q) ρ' G' τ' a (e.trans b) (cc.trans d (Nat.le_refl _)) (ceok_noex.mpr f)
        | rt x w => exact fun ρ' G' τ' u a b d f g => (show PostS Γ X W n0 ρ0 S0 H0 D (.rt x (noex w)) S' from q) ρ' G' τ' u a (e.trans b) (cc.trans d (Nat.le_refl _)) (ceok_noex.mpr f) g
        | bk _ => exact False.elim q
        | ct _ => exact False.elim q
        | xc _ _ _ => exact False.elim q
      · rename_i j
        have main : (∀ l, v[j]? ≠ some (Sl.ce l)) → j < v.length → ((ih.ss cb (setN (noex v) j (.ex c fs)) S).bind (handEnd (some j))).All (PostS Γ X W n0 ρ0 S0 H0 D) NoE → wHs X.K W D (hdsL Γ X n0 ih ((k, some j, cb) :: hs)) cls dd σ H := fun nc lt h => by
          rw [setN_set] at h
          have dropOk : ∀ {w : Env}, CeOk n0 w → CeOk n0 (noex (w.set j .no)) := fun {w} cw => ceok_noex.mpr fun a l ha => by
            by_cases z : a = j
            · subst z
              rw [List.getElem?_set] at ha
              split at ha
              · split at ha <;> exact nomatch ha
              · exact absurd rfl ‹¬ _›
            · rw [set_get z] at ha
              exact cw a l ha
          refine ⟨true, eb, fun _ a na => ⟨ρ, v, σ, S, c, fs, R, hn, hce, xr, rfl, lt, nc, h.bind.mono (fun o S' q => ?_) fun _ _ _ z => z⟩, (fun z => nomatch z)⟩
          cases o with
          | nx w =>
            have q : ((match nth w j with
              | some (.ce _) => Res.fail
              | _ => Res.ok (SO.nx (noex (setN w j .no))) S') : Res SO).All (PostS Γ X W n0 ρ0 S0 H0 D) NoE := q
            split at q
            · exact False.elim q
            · rename_i hne
              rw [setN_set] at q
              exact ⟨fun l z => hne l (by rw [nth_get]; exact z), fun ρ' G' τ' a b d f => (show PostS Γ X W n0 ρ0 S0 H0 D (.nx (noex (w.set j .no))) S' from q) ρ' G' _ a (e.trans b) (cc.trans d (Nat.le_refl _)) (dropOk f)⟩
          | rt x w =>
            have q : ((match nth w j with
              | some (.ce _) => Res.fail
              | _ => Res.ok (SO.rt x (noex (setN w j .no))) S') : Res SO).All (PostS Γ X W n0 ρ0 S0 H0 D) NoE := q
            split at q
            · exact False.elim q
            · rename_i hne
              rw [setN_set] at q
              exact ⟨fun l z => hne l (by rw [nth_get]; exact z), fun ρ' G' τ' u a b d f g => (show PostS Γ X W n0 ρ0 S0 H0 D (.rt x (noex (w.set j .no))) S' from q) ρ' G' _ u a (e.trans b) (cc.trans d (Nat.le_refl _)) (dropOk f) g⟩
          | bk _ => exact False.elim q
          | ct _ => exact False.elim q
          | xc _ _ _ => exact False.elim q
        split at h
        · rename_i hj
          rw [nth_get] at hj
          obtain ⟨t, a, b⟩ := noex_get hj
          refine main (fun l z => ?_) (List.getElem?_eq_some_iff.mp a).1 h
          rw [a] at z
          cases z
          exact nomatch b
        · rename_i dv hj
          rw [nth_get] at hj
          obtain ⟨t, a, b⟩ := noex_get hj
          refine main (fun l z => ?_) (List.getElem?_eq_some_iff.mp a).1 h
          rw [a] at z
          cases z
          exact nomatch b
        · exact False.elim h
theorem y_try {body : List Stmt} {h0 : ExceptHandler} {hds : List ExceptHandler} {hs : List (Nat × Option Nat × List CS)} {pos : Pos} {fb : EvF SO} (ex : ExmOk Γ) (hK : X.K = Γ.K) (hstk : X.stack = X.env :: X.outer) (hfr : X.env.frame = some X.env.locals) (hN : X.N.Nodup) (tk : L2N.Takes X W)
    (hb : ∀ (W : WX) (pn : List (Addr × Obj)) (xe : Value → Shared → Prop), L2N.Takes (X.tr pn xe) W → PassesOwn (model X.prog X.w) X.A X.env xe → PSs (X.tr pn xe) body (rS Γ (X.tr pn xe) W n0 fb)) (hh : HdsE Γ X n0 ih (h0 :: hds) hs) :
    PS X (.Try body (h0 :: hds) [] [] pos) (rS Γ X W n0 fun v S => (fb (noex v) S).bind (tryEnd Γ.G ih hs)) := by
  refine (ps_try_g (tb := fun W D σ H => ∃ (ρ : Nat → Addr) (env : Env) (S : St), Rl Γ X ρ (noex env) σ S H ∧ n0 ≤ S.n ∧ CeOk n0 env ∧ (fb (noex env) S).All (fun o S' => PostS Γ X W n0 ρ S H D (noexO o) S') NoE) hstk hfr hN tk (fun W' pn xe tk' po => (hb W' pn xe tk' po).wk fun D σ H ⟨ρ, env, S, R, hn, hce, h⟩ => ?_) (hdsG_of hh)).wk fun D σ H ⟨ρ, env, S, R, hn, hce, h⟩ => ?_
  · refine ⟨ρ, noex env, S, rl_toS same_tr R, hn, ceok_noex.mpr hce, h.mono (fun o S' q => ?_) fun _ _ _ z => z⟩
    cases o with
    | nx v => exact fun ρ' H' σ' a b c d => q ρ' H' σ' (rl_noex same_tr.symm a) b c (ceok_noex.mpr d)
    | bk v => exact fun ρ' H' σ' a b c d => q ρ' H' σ' (rl_noex same_tr.symm a) b c (ceok_noex.mpr d)
    | ct v => exact fun ρ' H' σ' a b c d => q ρ' H' σ' (rl_noex same_tr.symm a) b c (ceok_noex.mpr d)
    | rt x v => exact fun ρ' H' σ' u a b c d f => q ρ' H' σ' u (rl_noex same_tr.symm a) b c (ceok_noex.mpr d) f
    | xc k fs v => exact fun ρ' H' σ' cls dd a b c d f => q ρ' H' σ' cls dd (rl_noex same_tr.symm a) b c (ceok_noex.mpr d) f
  · refine ⟨ρ, env, S, rl_noex SameF.refl R, hn, hce, h.bind.mono (fun o S1 q => ?_) fun _ _ _ z => z⟩
    cases o with
    | nx v => exact q
    | bk v => exact q
    | ct v => exact q
    | rt x v => exact q
    | xc k fs v => exact fun ρ' H' σ' cls dd a b c d f => hand_ok ex hK a b c (Nat.le_trans hn b.le) (ceok_noex.mp d) f q
end
end
end Ev
end
section
set_option Elab.async false
set_option linter.all false
set_option maxRecDepth 100000
set_option maxHeartbeats 1000000
/-! TUPLES taken apart where an exception is handled; names exchanged. -/
namespace Ev
noncomputable section
open PySem PySem.Spec PyProof.Rows L2
section
variable {prog : Program} {w : World} {A : Around} {E : Value → Shared → Prop} {s : Shared}
/-- a tuple's iterator at its end, while the exception at e1 is handled -/
theorem tupEnd_hot {e1 it t : Addr} {i : Nat} {xs : Array Value} {Q : Option Value → Shared → Prop} (hot : HotX.HotAt A e1 s.heap) (hit : IsTupIter s.heap it t i) (ht : IsTup s.heap t xs) (hx : xs[i]? = none) (hQ : ∀ h2, Heap.ExtBut it s.heap h2 → Q none { s with heap := h2 }) :
    wpAny (model prog w) A (pyNext (.ref it)) Q E s := by
  obtain ⟨oi, hoi, hci, hdi⟩ := id hit
  obtain ⟨ot, hot', _, nt, hdt⟩ := ht
  obtain ⟨hh, o1, vs1, g1, d1, c1⟩ := hot
  have ne : e1 ≠ it := fun z => by
    rw [z, hoi] at g1
    cases g1
    rw [hdi] at d1
    cases d1
    exact nomatch c1
  unfold pyNext
  refine wpAny_bind (wpAny_attempt (wpAny_callSpecial?_slot (name := Str.ofString "__next__") hit.typeIs slot_tupleiter_next
    (wpAny_call_entry slot_tupleiter_next hit.typeIs entry_tupleiter_next ?_ (args_tupleiter_next _))))
  show wpAny _ _ (field (.ref it) 0 >>= _) _ _ s
  refine wpAny_bind (wpAny_field hoi hdi (x := .ref t) rfl ?_)
  show wpAny _ _ (if (Value.ref t == Value.none) = true then _ else _) _ _ s
  rw [if_neg (show ¬ ((Value.ref t == Value.none) = true) from Bool.false_ne_true)]
  show wpAny _ _ (field (.ref it) 1 >>= _) _ _ s
  refine wpAny_bind (wpAny_field hoi hdi (x := .int i 0) rfl ?_)
  show wpAny _ _ (seqItems? (.ref t) >>= _) _ _ s
  refine wpAny_bind (wpAny_seqItems hot' hdt ?_)
  simp only [Int.toNat_natCast, hx]
  refine wpAny_bind (wpAny_rule (wpAny_bind (wpAny_setField hoi hdi (by simp) ?_)))
  show wpAny _ _ (newExc (.type "StopIteration") [] >>= _) _ _ _
  refine wpAny_bind ?_
  simp only [newExc, newTuple]
  refine wpAny_bind (wpAny_newObj_type ?_ (by size_fits))
  refine wpAny_bind (m := firstArgMember _ _) (wpAny_of_eq (a := Value.none) (by first | rfl | (simp only [firstArgMember]; rfl)) ?_)
  refine wpAny_newObj_type ?_ (by size_fits)
  have g2 := (Heap.get?_update_other s.heap (Obj.mapFields (·.setIfInBounds 0 Value.none)) (Ne.symm ne)).trans g1
  refine HotX.raiseNew_hot ⟨hh, o1, vs1, Heap.get?_push_of_some _ (Heap.get?_push_of_some _ g2), d1, c1⟩ (Nat.ne_of_lt (Heap.lt_size (Heap.get?_push_of_some _ g2))) (Heap.get?_push_size _ rfl) rfl (by first | (simp; done) | (simp; omega) | (simp only [Array.size_append]; simp; omega)) ?_
  refine wpAny_bind (wpAny_isInstance (T := "StopIteration") (b := true) ⟨_, Heap.get?_update_self _ (Heap.get?_push_size _ rfl) rfl, rfl⟩ isSubtype_stop ?_)
  refine wpAny_pure (hQ _ fun b o hb e => ?_)
  have e2 : (s.heap.update it (Obj.mapFields (·.setIfInBounds 0 Value.none))).get? b = some o := (Heap.get?_update_other _ _ (Ne.symm hb)).trans e
  rw [Heap.get?_update_other _ _ (Nat.ne_of_gt (Heap.lt_size (Heap.get?_push_of_some _ e2)))]
  exact Heap.get?_push_of_some _ (Heap.get?_push_of_some _ e2)
theorem unpackTup_hot {e1 t : Addr} {xs : Array Value} {Q : List Value → Shared → Prop} (hot : HotX.HotAt A e1 s.heap) (ht : IsTup s.heap t xs) (hQ : ∀ h2, Heap.ExtBut s.heap.objs.size s.heap h2 → Q xs.toList { s with heap := h2 }) :
    wpAny (model prog w) A (unpackItems (.ref t) xs.size none) Q E s := by
  have lt : t ≠ s.heap.objs.size := by obtain ⟨o, ho, _⟩ := ht; exact Nat.ne_of_lt (Heap.lt_size ho)
  unfold unpackItems
  refine wpAny_bind ?_
  unfold notIterableAtAll
  refine wpAny_bind (wpAny_specialOf ht.typeIs slot_tuple_iter.lookup (wpAny_pure ?_))
  simp only [Bool.false_eq_true, if_false]
  refine wpAny_bind (wpAny_holding (iter_tuple ht ?_))
  refine wpAny_bind (wpAny_holding (draw_tuple lt xs.size 0 _ _ ⟨_, Heap.get?_push_size _ rfl, rfl, rfl⟩ (ht.push _) (by omega) fun h1 hit hs1 => ?_))
  have all_ : List.take xs.size (List.drop 0 xs.toList) = xs.toList := by
    rw [List.drop_zero]
    exact List.take_of_length_le (by simp)
  rw [all_, if_neg (by simp)]
  obtain ⟨hh, o1, vs1, g1, d1, c1⟩ := hot
  have keep : ∀ b o, b ≠ s.heap.objs.size → s.heap.get? b = some o → h1.get? b = some o := fun b o hb e => hs1.extBut b o hb (Heap.get?_push_of_some _ e)
  refine wpAny_bind (wpAny_holding (tupEnd_hot ⟨hh, o1, vs1, keep _ _ (Nat.ne_of_lt (Heap.lt_size g1)) g1, d1, c1⟩ hit ((ht.push _).extBut hs1.extBut lt) (by simp) fun h2 he2 => ?_))
  simp only [Option.isSome_none, Bool.false_eq_true, if_false]
  exact wpAny_pure (hQ h2 fun b o hb e => he2 b o hb (keep b o hb e))
end
/-- a tuple may be taken apart here -/
def UnpT (X : Cx) : Prop := ∀ (pins : List (Addr × Obj)) (σ : L2.St) (H : Hp) (s : Shared) (t : Addr) (xs : Array Value) (Q : List Value → Shared → Prop), Inv X pins σ H s → IsTup s.heap t xs →
  (∀ h2, Heap.ExtBut s.heap.objs.size s.heap h2 → Q xs.toList { s with heap := h2 }) → wpAny (model X.prog X.w) X.A (unpackItems (.ref t) xs.size none) Q X.xe s
theorem unpT_calm {X : Cx} (hc : X.calm = true) : UnpT X := fun pins σ H s t xs Q I ht hQ => unpackItems_tuple (I.ok.hd hc) ht hQ
theorem unpT_hot {X : Cx} (hc : L2H.HotC X) : UnpT X := fun pins σ H s t xs Q I ht hQ => by
  obtain ⟨e1, h⟩ := hc.at I
  exact unpackTup_hot h ht hQ
theorem hotC_suite {X : Cx} {a : Addr} {oe : Obj} {cls : Value} {d : Option Addr} {pn : List (Addr × Obj)} (hz : L2N.Zn cls d oe) (hf : ∃ vs, oe.data = .fields vs) : L2H.HotC (X.suite a ((a, oe) :: pn)) := by
  obtain ⟨vs, hv⟩ := hf
  exact ⟨(a, oe), ⟨rfl, vs, hv, hz.2.2 vs hv⟩, List.mem_cons_self⟩
/-! ### names exchanged -/
def setAll : L2.St → List Nat → List V → L2.St
  | σ, i :: is, v :: vs => setAll (σ.set i (some v)) is vs
  | σ, _, _ => σ
def setAllR : L2.St → List Nat → List V → L2.St
  | σ, i :: is, v :: vs => (setAllR σ is vs).set i (some v)
  | σ, _, _ => σ
theorem setAllR_set {i : Nat} {x : Option V} : ∀ {is : List Nat} {vs : List V} {σ : L2.St}, i ∉ is → (setAllR σ is vs).set i x = setAllR (σ.set i x) is vs
  | [], _, _, _ => rfl
  | _ :: _, [], _, _ => rfl
  | j :: is, v :: vs, σ, h => by
    have hj : i ≠ j := fun z => h (by rw [z]; exact List.mem_cons_self)
    show ((setAllR σ is vs).set j (some v)).set i x = (setAllR (σ.set i x) is vs).set j (some v)
    rw [List.set_comm _ _ (Ne.symm hj), setAllR_set fun z => h (List.mem_cons_of_mem _ z)]
theorem setAll_eq : ∀ {is : List Nat} {vs : List V} {σ : L2.St}, is.Nodup → setAll σ is vs = setAllR σ is vs
  | [], _, _, _ => by unfold setAll setAllR; rfl
  | _ :: _, [], _, _ => rfl
  | i :: is, v :: vs, σ, h => by
    obtain ⟨h1, h2⟩ := List.nodup_cons.mp h
    show setAll (σ.set i (some v)) is vs = (setAllR σ is vs).set i (some v)
    rw [setAll_eq h2, setAllR_set h1]
section
variable {Γ : Gm} {X : Cx} {W : WX} {n0 : Nat}
/-- names with their slots: plain local ones -/
def LocN (X : Cx) : List Nat → List Str → Prop
  | [], [] => True
  | i :: is, x :: xs => X.N[i]? = some x ∧ X.env.scope.names.lookup x = some .local ∧ LocN X is xs
  | _, _ => False
theorem bindAll {pins : List (Addr × Obj)} {H : Hp} (hN : X.N.Nodup) : ∀ {is : List Nat} {xs : List Str} {vs : List V} {us : List Value} {σ : L2.St} {s : Shared} {T : List (Value → Sem Unit)} {U : List Value} {Q : Unit → Shared → Prop}, LocN X is xs → Vals vs us → vs.length = is.length → Inv X pins σ H s →
    (∀ s2, Inv X pins (setAllR σ is vs) H s2 → wpAny (model X.prog X.w) X.A (assignInOrder T U) Q X.xe s2) → wpAny (model X.prog X.w) X.A (assignInOrder ((xs.reverse.map fun n v => bindName X.env n v) ++ T) (us.reverse ++ U)) Q X.xe s
  | [], [], [], _, σ, s, T, U, Q, _, .nil, _, I, h => h s I
  | [], [], _ :: _, _, _, _, _, _, _, _, _, e, _, _ => nomatch e
  | [], _ :: _, _, _, _, _, _, _, _, h, _, _, _, _ => False.elim h
  | _ :: _, [], _, _, _, _, _, _, _, h, _, _, _, _ => False.elim h
  | _ :: _, _ :: _, [], _, _, _, _, _, _, _, _, e, _, _ => nomatch e
  | i :: is, x :: xs, v :: vs, u :: us, σ, s, T, U, Q, ⟨h1, h2, h3⟩, .cons r rr, e, I, h => by
    have e1 : ((x :: xs).reverse.map fun n v => bindName X.env n v) ++ T = (xs.reverse.map fun n v => bindName X.env n v) ++ ((fun v => bindName X.env x v) :: T) := by simp
    have e2 : (u :: us).reverse ++ U = us.reverse ++ (u :: U) := by simp
    rw [e1, e2]
    exact bindAll hN h3 rr (Nat.succ.inj e) I fun s2 I2 => assignInOrder_cons (wpAny_bindName (store_ok I2 hN h1 (.inl h2) r (fun s3 I3 => h s3 I3) (.inr h2)))
def tParN (is : List Nat) (ta : TA) : TS := fun D σ H => ta σ H fun vs H1 => vs.length = is.length ∧ D.nx (setAll σ is vs) H1
theorem ps_parN {is : List Nat} {xs : List Str} {ts es : List Expr} {ta : TA} {pt pt2 pos : Pos} {kt k2 : Nat} (un : UnpT X) (hN : X.N.Nodup) (hl : LocN X is xs) (nd : is.Nodup) (l1 : xs.length = is.length) (hsz : is.length ≤ 10) (ha : PA X es ta)
    (hw : swappedStores [.Tuple ts kt pt] (.Tuple es k2 pt2) X.env = pure (some xs)) : PS X (.Assign [.Tuple ts kt pt] (.Tuple es k2 pt2) pos) (tParN is ta) := by
  refine ⟨fun pins s σ H D I h => ?_⟩
  rw [exec_Assign_arm]
  refine wpAny_bind (wpAny_standAt ?_)
  rw [show swapsWithSole [.Tuple ts kt pt] (.Tuple es k2 pt2) pos.line X.env = pure false from rfl]
  refine wpAny_bind (wpAny_pure ?_)
  rw [if_neg (by decide)]
  refine wpAny_bind (Tuple_ (thn (ha.run _ pins s σ H _ I h) fun us s1 ⟨vs, H1, I1, r1, q1, q2⟩ => ?_))
  have lu : us.length = is.length := r1.length.symm.trans q1
  refine wpAny_newObj_type ?_ (by
    show us.toArray.size ≤ sizeLine
    rw [List.size_toArray, lu, sizeLine_eq]
    omega)
  have I2 : Inv X pins σ H1 { s1 with heap := s1.heap.push { cls := .type "tuple", data := .seq us.toArray } } := I1.kept (t' := s1.toks) fun b o e => Heap.get?_push_of_some _ e
  rw [hw]
  refine wpAny_bind (wpAny_pure ?_)
  show wpAny (model X.prog X.w) X.A (do rule "assign.swapped-stores"; let items ← unpackItems (.ref s1.heap.objs.size) xs.length none; assignInOrder (xs.reverse.map fun n => bindName X.env n) items.reverse; pure Flow.next) _ _ _
  rw [show xs.length = us.toArray.size from by rw [List.size_toArray, lu, l1]]
  refine wpAny_bind (wpAny_rule (wpAny_bind (un pins σ H1 _ _ us.toArray _ I2 (IsTup.new s1.heap _) fun h2 hx => ?_)))
  have I3 : Inv X pins σ H1 { s1 with heap := h2 } := I2.kept (h' := h2) (t' := s1.toks) fun b o e => hx b o (Nat.ne_of_lt (Heap.lt_size e)) e
  refine wpAny_bind ?_
  have z := bindAll (T := []) (U := []) (Q := fun _ s2 => wpAny (model X.prog X.w) X.A (pure Flow.next) (SP X pins D) X.xe s2) hN hl r1 q1 I3 fun s2 I4 => assignInOrder_nil (wpAny_pure ⟨setAll σ is vs, H1, by rw [setAll_eq nd]; exact I4, q2⟩)
  rw [List.append_nil, List.append_nil] at z
  exact z
def stAll : List Nat → List D → Env → St → Res Env
  | [], [], v, S => .ok v S
  | i :: is, d :: ds, v, S => match store v S i d with
    | some (v', S') => stAll is ds v' S'
    | none => .fail
  | _, _, _, _ => .fail
theorem stAll_ok {D' : Ends} {ρ ρ0 : Nat → Addr} {H H0 : Hp} {S0 : St} : ∀ {is : List Nat} {ds : List D} {vs : List V} {env v0 : Env} {σ : L2.St} {S : St}, Rl Γ X ρ env σ S H → Ext0 ρ0 S0 H0 ρ S H → CelK n0 S0 S → n0 ≤ S.n → CeOk n0 env → RDs Γ ρ S.n H ds vs →
    ((stAll is ds env S).st v0 fun v' S2 => .ok (.nx v') S2).All (PostS Γ X W n0 ρ0 S0 H0 D') NoE → vs.length = is.length ∧ D'.nx (setAll σ is vs) H
  | [], [], vs, env, v0, σ, S, R, e, c, hn, hc, r, h => by
    have z : vs = [] := r
    subst z
    exact ⟨rfl, (show PostS Γ X W n0 ρ0 S0 H0 D' (.nx env) S from h) ρ H σ R e c hc⟩
  | [], _ :: _, _, _, _, _, _, _, _, _, _, _, _, h => False.elim h
  | _ :: _, [], _, _, _, _, _, _, _, _, _, _, _, h => False.elim h
  | i :: is, d :: ds, vs, env, v0, σ, S, R, e, c, hn, hc, r, h => by
    unfold RDs at r
    obtain ⟨v, vr, rfl, rd, rr⟩ := r
    unfold stAll at h
    split at h
    · rename_i v' S' es
      obtain ⟨R1, e1, c1, s1⟩ := store_rl R hn hc rd es
      obtain ⟨a, b⟩ := stAll_ok R1 (e.trans e1) (c.trans c1 (Nat.le_refl _)) (Nat.le_trans hn e1.le) (hc.sub s1) (rr.ext0 e1) h
      exact ⟨congrArg (· + 1) a, b⟩
    · exact False.elim h
abbrev ePar (G : Pg) (is : List Nat) (fs : EvF (List D)) : EvF SO := fun v S => (eP G .tup fs v S).st v fun x S1 => match items S1 x with
  | some xs => (stAll is xs v S1).st v fun v' S2 => .ok (.nx v') S2
  | none => .fail
theorem y_par {is : List Nat} {xs : List Str} {ts es : List Expr} {fs : EvF (List D)} {pt pt2 pos : Pos} {kt k2 : Nat} (un : UnpT X) (hN : X.N.Nodup) (hl : LocN X is xs) (nd : is.Nodup) (l1 : xs.length = is.length) (hsz : is.length ≤ 10) (ha : PA X es (rdL Γ X W fs))
    (hw : swappedStores [.Tuple ts kt pt] (.Tuple es k2 pt2) X.env = pure (some xs)) : PS X (.Assign [.Tuple ts kt pt] (.Tuple es k2 pt2) pos) (rS Γ X W n0 (ePar Γ.G is fs)) := (ps_parN un hN hl nd l1 hsz ha hw).wk fun D σ H ⟨ρ, env, S, R, hn, hc, h⟩ => by
  have h : ((Res.bind (fs env S) fun xs S1 => prim Γ.G .tup xs S1).st env fun x S1 => match items S1 x with
    | some xs => (stAll is xs env S1).st env fun v' S2 => .ok (.nx v') S2
    | none => .fail).All (PostS Γ X W n0 ρ S H D) NoE := h
  rw [st_bind] at h
  refine (rS_exp (R := RDs Γ) (f := fun xs v S1 => (prim Γ.G .tup xs S1).st v fun x S1 => match items S1 x with
    | some xs => (stAll is xs v S1).st v fun v' S2 => .ok (.nx v') S2
    | none => .fail) hn (hl := R) hc h).mono fun vs H1 ⟨ρ1, S1, ds, R1, e1, hn1, r, h1⟩ => ?_
  have h1 : ((p_tup Γ.G ds S1).st env fun x S1 => match items S1 x with
    | some xs => (stAll is xs env S1).st env fun v' S2 => .ok (.nx v') S2
    | none => .fail).All (PostS Γ X W n0 ρ1 S1 H1 D) NoE := h1
  unfold p_tup at h1
  split at h1
  · exact stAll_ok R1 (Ext0.refl R1.h.wf) CelK.refl hn1 hc r h1
  · exact False.elim h1
end
end
end Ev
end
section
set_option Elab.async false
set_option linter.all false
set_option maxRecDepth 100000
set_option maxHeartbeats 4000000
/-! EXCEPTIONS of one's own classes, made by place and by name. -/
namespace PySem
namespace EvK
open PySem.W PySem.HandSPX
section
variable {M : Model} {A : Around} {E : Value → Shared → Prop} {h : Heap} {g : Array GenState} {d : Drawn} {t : Nat} {os : OsState}
variable {nm q : Str} {C N : Addr} {bs bm bmB : List Value} {hdct : Bool} {sn : List Str} {sub : List Value} {ab : Bool} {col : Option Bool} {dd : Option Addr} {k0 k1 k2 k3 k5 : Option Value} {B newId initId : String}
theorem check_newK (F : ExcBaseFacts B newId initId bmB) (hT : ∀ X : String, bm.contains (.type X) = bmB.contains (.type X)) {us : List Value} {kw : List (Str × Value)} {Q : Unit → Shared → Prop}
    (hC : h.get? C = some (excClassObj nm q C N bs bm hdct sn sub ab col dd k0 k1 k2 k3 k5 newId)) (hq : Q () ⟨h, g, d, t, os⟩) : wpAny M A (checkBuiltinCall newId ⟨.ref C :: us, kw⟩) Q E ⟨h, g, d, t, os⟩ := by
  have hB : (Value.ref C :: bm).contains (.type B) = true := by rw [List.contains_cons, hT, F.hasB, Bool.or_true]
  have hs := F.noStar
  simp only [checkBuiltinCall, F.newKind, F.newSplit, F.newRow]
  repeat (first | refine wpAny_loadPart_at hC ?_ | (refine wpAny_isSubtype_exc hC ?_; rw [hB]) | refine wpAny_staticBase_exc hC ?_ | refine wpAny_madeBy_exc hC ?_ | simp only [bne_self_eq_false, Bool.false_eq_true, if_false] | wp_step)
  exact hq
end
section
variable {prog : Program} {w : World} {A : Around} {E : Value → Shared → Prop} {R : Result → Shared → Prop} {h : Heap} {g : Array GenState} {d : Drawn} {t : Nat} {os : OsState}
variable {nm q : Str} {C N : Addr} {bs bm bmB : List Value} {hdct : Bool} {sn : List Str} {sub : List Value} {ab : Bool} {col : Option Bool} {dd : Option Addr} {k0 k1 k2 k3 k5 : Option Value} {B newId initId : String}
theorem new_K (F : ExcBaseFacts B newId initId bmB) (hT : ∀ X : String, bm.contains (.type X) = bmB.contains (.type X)) {us : List Value} {kw : List (Str × Value)}
    (hC : h.get? C = some (excClassObj nm q C N bs bm hdct sn sub ab col dd k0 k1 k2 k3 k5 newId))
    (hq : R (.ok (.ret (.ref (h.objs.size + 1)))) ⟨(h.push (kdv_tup us)).push (excO C h.objs.size), g, d, t, os⟩) (hl : us.length ≤ sizeLine) :
    codeAny (model prog w) A (.builtin newId ⟨.ref C :: us, kw⟩) R ⟨h, g, d, t, os⟩ := by
  have he := F.ends
  have hB : (Value.ref C :: bm).contains (.type B) = true := by rw [List.contains_cons, hT, F.hasB, Bool.or_true]
  have hA : (Value.ref C :: bm).contains (.type "AttributeError") = false := by rw [List.contains_cons, hT, F.noAttr]; rfl
  have hN : (Value.ref C :: bm).contains (.type "NameError") = false := by rw [List.contains_cons, hT, F.noName]; rfl
  refine codeAny_builtinAt F.entry ?_
  unfold Builtin.«BaseException.__new__»
  refine wpAt_bind ?_
  show wpAt _ _ _ (stack >>= _) _ _ _
  refine wpAt_bind (wpAt_stack fun p below => wpAt_of_wpAny ?_)
  wp_walk
  refine wpAt_of_wpAny ?_
  rw [F.owner]
  repeat (first | with_reducible refine wpAny_madeHere_exc F.canon hC ?_ | with_reducible refine wpAny_loadPart_at hC ?_ | (with_reducible refine wpAny_isSubtype_exc hC ?_; first | rw [hB] | rw [hA] | rw [hN]) | wp_step)
  show R _ _
  rw [Heap.size_push]
  exact hq
theorem type_callK (F : ExcBaseFacts B newId initId bmB) (hT : ∀ X : String, bm.contains (.type X) = bmB.contains (.type X)) {us : List Value} {kw : List (Str × Value)} {fI : Addr} {Q : Fin → Shared → Prop}
    (hC : h.get? C = some (excClassObj nm q C N bs bm hdct sn sub ab col dd k0 k1 k2 k3 k5 newId))
    (hi : W.Looks (model prog w) h (typeLookup (.ref C) "__init__") (some (.ref fI))) (hb : ∀ self, W.Looks (model prog w) h (bindSpecial (.ref fI) self) (.ref fI, [self])) (hl : us.length ≤ sizeLine)
    (hq : codeAny (model prog w) A (.call (.ref fI) ⟨.ref (h.objs.size + 1) :: us, kw⟩)
      (fun r s' => match r with | .ok (.ret v) => v = .none ∧ Q (.done (.ret (.ref (h.objs.size + 1)))) s' | .ok _ => False | .error e => E e s')
      ⟨(h.push (kdv_tup us)).push (excO C h.objs.size), g, d, t, os⟩) :
    wpAny (model prog w) A (Builtin.«type.__call__» ⟨.ref C :: us, kw⟩) Q E ⟨h, g, d, t, os⟩ := by
  repeat (first | with_reducible refine wpAny_loadPart_at hC ?_ | with_reducible refine wpAny_madeBy_exc hC ?_ | wp_step)
  refine codeAny_call_builtin_code (Code.quiet_builtin _ F.quiet) (check_newK F hT hC ?_)
  refine new_K F hT hC ?_ hl
  show wpAny _ _ _ _ _ _
  have k : ∀ b o, h.get? b = some o → ((h.push (kdv_tup us)).push (excO C h.objs.size)).get? b = some o := fun b o e => Heap.get?_push_of_some _ (Heap.get?_push_of_some _ e)
  have hC2 := k _ _ hC
  have hg : ((h.push (kdv_tup us)).push (excO C h.objs.size)).get? (h.objs.size + 1) = some (excO C h.objs.size) := by heap_get
  have hcC : (Value.ref C :: bm).contains (.ref C) = true := by simp
  have i1 := hi.keeps k
  have b1 := (hb (.ref (h.objs.size + 1))).keeps k
  unfold isInstance
  repeat (first | with_reducible refine wpAny_loadPart_at hg ?_ | (with_reducible refine wpAny_isSubtype_exc hC2 ?_; rw [hcC]) | wp_step)
  show wpAny _ _ (typeLookup (.ref C) _) _ _ _
  refine i1.at ?_
  refine wpAny_holding (wpAny_bind (b1.at ?_))
  refine wpAny_bind (wpAny_call (codeAny_mono hq fun r s' z => ?_))
  rcases r with e | (v | _ | _ | _) <;> first | exact z | exact z.elim | skip
  obtain ⟨rfl, z⟩ := z
  first
    | exact wpAny_pure (wpAny_pure z)
    | (wp_walk; exact z)
theorem call_K (F : ExcBaseFacts B newId initId bmB) (hT : ∀ X : String, bm.contains (.type X) = bmB.contains (.type X)) {us : List Value} {kw : List (Str × Value)} {fI : Addr}
    (hC : h.get? C = some (excClassObj nm q C N bs bm hdct sn sub ab col dd k0 k1 k2 k3 k5 newId))
    (hi : W.Looks (model prog w) h (typeLookup (.ref C) "__init__") (some (.ref fI))) (hb : ∀ self, W.Looks (model prog w) h (bindSpecial (.ref fI) self) (.ref fI, [self])) (hl : us.length ≤ sizeLine)
    (hq : codeAny (model prog w) (A.under (.builtin "type.__call__" ⟨.ref C :: us, kw⟩)) (.call (.ref fI) ⟨.ref (h.objs.size + 1) :: us, kw⟩) (InitBack (h.objs.size + 1) R) ⟨(h.push (kdv_tup us)).push (excO C h.objs.size), g, d, t, os⟩) :
    codeAny (model prog w) A (.call (.ref C) ⟨us, kw⟩) R ⟨h, g, d, t, os⟩ := by
  have f1 := tc_lookup
  have f2 := tc_bind (.ref C)
  have hTy : (⟨h, g, d, t, os⟩ : Shared).TypeIs (.ref C) "type" := ⟨_, hC, rfl⟩
  refine codeAny_of_tree ?_
  show wpAny _ _ (callAny (.ref C) _) _ _ _
  repeat (any_goals (first | assumption | with_reducible refine wpAny_loadPart_at hC ?_ | wp_step))
  refine ⟨rfl, ?_⟩
  refine codeAny_call_builtin_at (Code.quiet_builtin _ (by decide +kernel)) entry_typeCall (wpAny_check_type_call_sub hC (type_callK F hT hC hi hb hl ?_))
  refine codeAny_mono hq fun r s' z => ?_
  rcases r with e | (v | _ | _ | _) <;> exact z
end
end EvK
end PySem
end
section
set_option Elab.async false
set_option linter.all false
set_option maxRecDepth 100000
set_option maxHeartbeats 1000000
/-! EXCEPTIONS with one field, stored by an own __init__. -/
namespace Ev
noncomputable section
open PySem PySem.Spec PyProof.Rows L2
/-- what such an __init__ does -/
def spIni (K : PySem.W.Frag) (f : Str) : Sp := fun vs H Q _ => ∃ (a C : Addr) (y : V), vs = [.ref a, y] ∧ OexC K C ∧ PySem.W.findIn K (.ref C) f = some none ∧ H a = some (exo a C none) ∧
  ∀ dx, H dx = none → dx ≠ a → Q .non (upd (upd H dx (exd dx [(f, y)])) a (exo a C (some dx)))
theorem init_ok {P : Program} {w : World} {K : PySem.W.Frag} {mg : Str → Option Value} {base : Heap} {k : Nat} {fI : Addr} {name qual f : Str} {params : Arguments} {scope : Scope} {dV kV doc pm cdv ct oc : Value} {an od : Option Addr} {osl : Array (Option Value)} {p1 p2 p3 p4 : Pos}
    (lk : K.lookup fI = some ⟨oc, od, .func (PySem.W.fnOf name qual params [.Assign [.Attribute (.Name "self" p1) f p2] (.Name f p3) p4] scope dV kV doc pm an cdv ct), osl⟩) (hcd : PySem.W.codeIn K cdv qual = true) (S : FnScope ["self", f] ["self", f] scope)
    (hs : scope.names.lookup ("self" : Str) = some .local) (hf : scope.names.lookup f = some .local) (hd : (f == ("__debug__" : Str)) = false) (hcl : (f == ("__classdict__" : Str)) = false) :
    FnOk P w K mg base (L2N.CX P w) (k + 1) fI (PySem.W.fnOf name qual params [.Assign [.Attribute (.Name "self" p1) f p2] (.Name f p3) p4] scope dV kV doc pm an cdv ct) ["self", f] (spIni K f) := by
  refine fn_of lk hcd S (fun vs H Q E ⟨a, C, y, e, _⟩ => by rw [e]; rfl) fun A outer s H vs Q E hr hsp => ?_
  obtain ⟨a, C, y, rfl, T, hno, ha, hq⟩ := hsp
  refine ⟨_, pss_one (ps_ost (pe_var (i := 0) rfl (.inl hs) rfl rfl) (pe_var (i := 1) rfl (.inl hf) hd hcl)), ?_⟩
  exact ⟨y, rfl, .ref a, rfl, a, C, rfl, T, hno, .inl ⟨ha, fun dx n ne => hq dx n ne⟩⟩
/-- the facts of a class -/
structure MkC (Γ : Gm) (k : Nat) (c : Nat) (f : Str) (n : Nat) (ks : List Str) : Prop where
  T : OexC Γ.K (Γ.clA c)
  nof : PySem.W.findIn Γ.K (.ref (Γ.clA c)) f = some none
  flds : Γ.G.flds.get c = some [f]
  one : n + ks.length = 1
  ini : ∃ (fI : Addr) (fd : FuncData), PySem.W.findIn Γ.K (.ref (Γ.clA c)) "__init__" = some (some (.ref fI)) ∧ PySem.W.typeIn Γ.K (.ref fI) = some (.type "function") ∧ FnOk Γ.P Γ.w Γ.K Γ.mg Γ.base (L2N.CX Γ.P Γ.w) k fI fd ["self", f] (spIni Γ.K f) ∧
    ∀ (s : Shared) (self u : Value) (us ws : List Value), Γ.K.In s.heap → us.length = n → ws.length = ks.length → us ++ ws = [u] → BindsTo s fd ⟨self :: us, ks.zip ws⟩ [("self", self), (f, u)]
section
variable {Γ : Gm} {X : Cx} {W : WX} {ρ : Nat → Addr} {S : St} {H H1 : Hp} {env : Env} {σ : L2.St} {pins : List (Addr × Obj)} {s s' : Shared} {k c n : Nat} {f : Str} {ks : List Str}
theorem mk_run {us ws : List Value} {y : V} {u : Value} {Q : Value → Shared → Prop} (g : XG Γ X) (M : MkC Γ k c f n ks) (hr : Room (k + 1) X.A) (I : Inv X pins σ H s) (l1 : us.length = n) (l2 : ws.length = ks.length) (eu : us ++ ws = [u]) (ry : RelV y u)
    (h : ∀ (a d : Addr) (hp2 : Heap) (s' : Shared), s.heap.objs.size ≤ a → H a = none → H d = none → d ≠ a → (∀ b o, s.heap.get? b = some o → hp2.get? b = some o) → Inv X pins σ (upd H a (exo a (Γ.clA c) none)) { s with heap := hp2 } →
      L2.CE X.stack X.prog X.w (upd H a (exo a (Γ.clA c) none)) { s with heap := hp2 } (fun v H2 => v = .non ∧ H2 = upd (upd (upd H a (exo a (Γ.clA c) none)) d (exd d [(f, y)])) a (exo a (Γ.clA c) (some d))) .none s' → Q (.ref a) s') :
    wpAny (model X.prog X.w) X.A (call (.ref (Γ.clA c)) us (ks.zip ws)) Q X.xe s := by
  obtain ⟨nm, q, N, bs, bm, sn, sub, ab, col, dd, k0, k1, k2, k3, k5, hC, hbm⟩ := M.T.cls
  obtain ⟨fI, fd, iC, tI, F1, hb⟩ := M.ini
  obtain ⟨hp, gs, dr, tk, os⟩ := s
  have KI : Γ.K.In hp := by
    have z := I.kIn
    rw [g.K] at z
    exact z
  have hsz : hp.objs.size ≤ hp.objs.size + 1 := Nat.le_succ _
  have ha : H (hp.objs.size + 1) = none := I.hok.fresh hsz
  have kk : ∀ b o, hp.get? b = some o → ((hp.push (PySem.W.kdv_tup us)).push (PySem.HandSPX.excO (Γ.clA c) hp.objs.size)).get? b = some o := fun b o e => Heap.get?_push_of_some _ (Heap.get?_push_of_some _ e)
  have hg : ((hp.push (PySem.W.kdv_tup us)).push (PySem.HandSPX.excO (Γ.clA c) hp.objs.size)).get? (hp.objs.size + 1) = some (PySem.HandSPX.excO (Γ.clA c) hp.objs.size) := by heap_get
  have I2 : Inv X pins σ (upd H (hp.objs.size + 1) (exo (hp.objs.size + 1) (Γ.clA c) none)) ⟨(hp.push (PySem.W.kdv_tup us)).push (PySem.HandSPX.excO (Γ.clA c) hp.objs.size), gs, dr, tk, os⟩ :=
    I.laid (t' := tk) (a := hp.objs.size + 1) (o := exo (hp.objs.size + 1) (Γ.clA c) none) (h' := (hp.push (PySem.W.kdv_tup us)).push (PySem.HandSPX.excO (Γ.clA c) hp.objs.size)) kk hsz (exo_ok hg)
  have ul : us.length ≤ 1 := by have := M.one; omega
  have r2 : Vals [V.ref (hp.objs.size + 1), y] [Value.ref (hp.objs.size + 1), u] := .cons rfl (.cons ry .nil)
  have e0 := I2.env0.make (Γ.clA c) us (ks.zip ws)
  rw [g.P, g.w, g.K, g.mg, g.base] at e0
  have B2 := hb ⟨(hp.push (PySem.W.kdv_tup us)).push (PySem.HandSPX.excO (Γ.clA c) hp.objs.size), gs, dr, tk, os⟩ (.ref (hp.objs.size + 1)) u us ws (KI.keeps kk) l1 l2 eu
  have main := F1.run (X.A.under (.builtin "type.__call__" ⟨.ref (Γ.clA c) :: us, ks.zip ws⟩)) X.stack ⟨(hp.push (PySem.W.kdv_tup us)).push (PySem.HandSPX.excO (Γ.clA c) hp.objs.size), gs, dr, tk, os⟩ (upd H (hp.objs.size + 1) (exo (hp.objs.size + 1) (Γ.clA c) none)) ⟨.ref (hp.objs.size + 1) :: us, ks.zip ws⟩ [.ref (hp.objs.size + 1), u] [.ref (hp.objs.size + 1), y]
    (fun v H2 => v = .non ∧ ∃ d, H d = none ∧ d ≠ hp.objs.size + 1 ∧ H2 = upd (upd (upd H (hp.objs.size + 1) (exo (hp.objs.size + 1) (Γ.clA c) none)) d (exd d [(f, y)])) (hp.objs.size + 1) (exo (hp.objs.size + 1) (Γ.clA c) (some d))) (fun _ _ _ => False) (hr.make (Γ.clA c) us (ks.zip ws)) e0 B2 r2
    ⟨_, Γ.clA c, y, rfl, M.T, M.nof, upd_same, fun dx n ne => ⟨rfl, dx, by rw [upd_ne ne] at n; exact n, ne, rfl⟩⟩
  rw [g.P, g.w] at *
  refine wpAny_call (PySem.EvK.call_K F.excBase_ValueError (fun Y => PySem.HandSPX.refsVE_contains Y bm hbm) (KI _ _ hC) (PySem.W.looks_findIn KI iC) (fun self => PySem.W.bind_fn KI self tI) (Nat.le_trans ul (by rw [sizeLine_eq]; omega)) (codeAny_mono main fun r s2 hq => ?_))
  cases r with
  | error er =>
    obtain ⟨_, _, _, _, _, _, _, _, _, _, _, _, z⟩ := hq
    exact False.elim z
  | ok fl =>
    cases fl with
    | ret u2 =>
      obtain ⟨v, H2, o1, b1, un, ok2, rv, ev, d, hd, dne, eH⟩ := hq
      subst ev
      have eu2 : u2 = Value.none := rv
      exact ⟨eu2, h (hp.objs.size + 1) d _ s2 hsz ha hd dne kk I2 ⟨.non, H2, o1, b1, un, ok2, rfl, rfl, eH⟩⟩
    | next => exact False.elim hq
    | brk => exact False.elim hq
    | cont => exact False.elim hq
/-- the dict of an exception, as one -/
theorem Inv.as_xd {d : Addr} {fs : List (Str × V)} (I : Inv X pins σ H s) (h : H d = some (exd d fs)) : Inv X pins σ (upd H d (.xd fs)) s := by
  have nd : ∀ b, H b = none → b ≠ d := fun b n z => by rw [z, h] at n; exact nomatch n
  have keep : ∀ {b o}, H b = some o → (∀ φ, o ≠ .ext φ) → upd H d (.xd fs) b = some o := fun {b o} e n => by
    rw [upd_ne fun z => ?_]
    · exact e
    · rw [z, h] at e
      exact n _ (Option.some.inj e).symm
  refine ⟨I.ok, I.os, I.bare, ⟨I.base.keep, I.base.slot, fun b o e n hx => ?_, I.base.there, fun b xs e => keep (I.base.tups b xs e) fun φ z => HO.noConfusion z, fun b o u e => keep (I.base.frzs b o u e) fun φ z => HO.noConfusion z, fun b ps e => ?_⟩, I.loc, I.cell, ?_, fun x c e => ?_, fun p hp => ?_, fun b o e => ?_, I.len⟩
  · have z := I.base.free b o e n hx
    rw [upd_ne (nd b z)]
    exact z
  · obtain ⟨m, z⟩ := I.base.tbls b ps e
    exact ⟨m, keep z fun φ z => HO.noConfusion z⟩
  · rw [upd_ne (nd _ I.free)]; exact I.free
  · rw [upd_ne (nd _ (I.freeC x c e))]; exact I.freeC x c e
  · obtain ⟨a, b, r⟩ := I.pin p hp
    exact ⟨a, by rw [upd_ne (nd _ b)]; exact b, r⟩
  · by_cases hb : b = d
    · subst hb
      rw [upd_same] at e
      cases e
      obtain ⟨mA, hn, r⟩ := exd_at I.hok h
      exact ⟨mA, hn, r⟩
    · rw [upd_ne hb] at e
      exact (I.hok b o e).stay (fun _ _ _ q => q) (fun c q => keep q fun φ z => HO.noConfusion z) fun c xs q => keep q fun φ z => HO.noConfusion z
end
end
end Ev
end
section
set_option Elab.async false
set_option linter.all false
set_option maxRecDepth 100000
set_option maxHeartbeats 1000000
/-! EXCEPTIONS as values, raised. -/
namespace Ev
noncomputable section
open PySem PySem.Spec PyProof.Rows L2
abbrev fMk (G : Pg) (c : Nat) (ar : List Ar) : List D → St → Res D := fun xs S => match argsOf ar xs, G.flds.get c with
  | some ys, some fs => match zipF fs ys with
    | some z => .ok (.ref S.n) (S.new (.exn c z))
    | none => .fail
  | _, _ => .fail
abbrev fRs (G : Pg) (c : Nat) (ar : List Ar) : List D → Env → St → Res SO := fun xs v S => match argsOf ar xs, G.flds.get c with
  | some ys, some fs => match zipF fs ys with
    | some z => .ok (.xc c z v) S
    | none => .fail
  | _, _ => .fail
section
variable {Γ : Gm} {X : Cx} {W : WX} {ρ : Nat → Addr} {S : St} {H H1 : Hp} {env : Env} {σ : L2.St} {pins : List (Addr × Obj)} {s s' : Shared} {k c n : Nat} {f x : Str} {ks : List Str} {e : Expr} {fa : EvF D} {fs : EvF (List D)} {p pos kp : Pos} {Q : VK} {n0 : Nat}
theorem rfs_one {ρ : Nat → Addr} {m : Nat} {d : D} {y : V} (r : RD Γ ρ m H d y) : RFs Γ ρ m H [(f, d)] [(f, y)] := fun g z h => by
  rw [List.lookup_cons] at h ⊢
  split at h
  · cases h
    exact ⟨y, rfl, r⟩
  · exact nomatch h
theorem one_of {us : List V} (h : us.length = 1) : ∃ y, us = [y] := by
  cases us with
  | nil => exact nomatch h
  | cons y r => cases r with
    | nil => exact ⟨y, rfl⟩
    | cons _ _ => exact nomatch h
/-- behind the arguments: the exception as a value -/
theorem mk_fin {us ws : List Value} {ds : List D} {vs : List V} (g : XG Γ X) (M : MkC Γ k c f n ks) (hr : Room (k + 1) X.A) (I : Inv X pins σ H s) (R : Rl Γ X ρ env σ S H) (r : RDs Γ ρ S.n H ds vs) (rv : Vals vs (us ++ ws)) (l1 : us.length = n) (l2 : ws.length = ks.length)
    (h : (fMk Γ.G c [.at_ 0] ds S).All (PostG Γ X (RD Γ) env σ ρ S H Q) (PostX Γ X W env σ ρ S H)) : wpAny (model X.prog X.w) X.A (call (.ref (Γ.clA c)) us (ks.zip ws)) (EP X pins σ Q) X.xe s := by
  have lv : vs.length = 1 := by rw [rv.length, List.length_append, l1, l2]; exact M.one
  obtain ⟨y, rfl⟩ := one_of lv
  obtain ⟨d0, rr, rfl, rd, r0⟩ := r.inv
  have r0 := r0.inv0
  subst r0
  obtain ⟨u, eu, ry⟩ : ∃ u, us ++ ws = [u] ∧ RelV y u := by
    cases hz : us ++ ws with
    | nil => rw [hz] at rv; cases rv
    | cons u0 r1 =>
      rw [hz] at rv
      cases rv with
      | cons a b =>
        cases b
        exact ⟨u0, rfl, a⟩
  have h : (Res.ok (.ref S.n) (S.new (.exn c [(f, d0)])) : Res D).All (PostG Γ X (RD Γ) env σ ρ S H Q) (PostX Γ X W env σ ρ S H) := by
    have z : fMk Γ.G c [.at_ 0] [d0] S = .ok (.ref S.n) (S.new (.exn c [(f, d0)])) := by
      unfold fMk
      rw [M.flds]
      rfl
    rw [← z]
    exact h
  refine mk_run (y := y) (u := u) g M hr I l1 l2 eu ry fun a d hp2 s2 asz ha hd dne kk I2 ce => ?_
  obtain ⟨v, H2, J, rv2, ev, eH⟩ := I2.after ce
  subst eH
  have J2 := Inv.as_xd (d := d) (fs := [(f, y)]) J (by rw [upd_ne dne, upd_same])
  have eq : upd (upd (upd (upd H a (exo a (Γ.clA c) none)) d (exd d [(f, y)])) a (exo a (Γ.clA c) (some d))) d (.xd [(f, y)]) = upd (upd H d (.xd [(f, y)])) a (exo a (Γ.clA c) (some d)) := by
    funext b
    by_cases hb : b = d
    · rw [hb, upd_same, upd_ne dne, upd_same]
    · rw [upd_ne hb]
      by_cases hba : b = a
      · rw [hba, upd_same, upd_same]
      · rw [upd_ne hba, upd_ne hb, upd_ne hba, upd_ne hba, upd_ne hb]
  rw [eq] at J2
  have R1 : Rl Γ X ρ env σ S (upd H d (.xd [(f, y)])) := R.lay hd
  have x1 : Ext ρ S H ρ S (upd H d (.xd [(f, y)])) := Ext.lay R.h.wf hd
  have ha1 : upd H d (.xd [(f, y)]) a = none := by rw [upd_ne (Ne.symm dne)]; exact ha
  have x2 : Ext ρ S (upd H d (.xd [(f, y)])) (rup ρ S.n a) (S.new (.exn c [(f, d0)])) (upd (upd H d (.xd [(f, y)])) a (exo a (Γ.clA c) (some d))) := Ext.new R.h.wf ha1
  have rd2 := (rd.ext x1).ext x2
  have R2 : Rl Γ X (rup ρ S.n a) env σ (S.new (.exn c [(f, d0)])) (upd (upd H d (.xd [(f, y)])) a (exo a (Γ.clA c) (some d))) := R1.new ha1 ⟨some d, [(f, y)], by rw [rup_same, upd_same]; rfl, .inr ⟨d, rfl, by rw [upd_ne dne, upd_same], rfs_one rd2⟩⟩ (fun u v z => exo_frz z)
  exact ⟨.ref a, _, J2, rfl, h.ok _ _ _ R2 (x1.trans R.h.wf R.h.wf x2) ⟨Nat.lt_succ_self _, by rw [rup_same]⟩⟩
/-- arguments ahead, as many as told -/
theorem rS_expL {D : Ends} {f : List Ev.D → EvF SO} {m : Nat} (hl : Rl Γ X ρ env σ S H) (hn : n0 ≤ S.n) (hc : CeOk n0 env) (ln : LenF m fs) (h : ((fs env S).st env fun x S1 => f x env S1).All (PostS Γ X W n0 ρ S H D) NoE) :
    rdL Γ X W fs σ H fun b H1 => ∃ (ρ1 : Nat → Addr) (S1 : St) (a : List Ev.D), a.length = m ∧ Rl Γ X ρ1 env σ S1 H1 ∧ Ext ρ S H ρ1 S1 H1 ∧ n0 ≤ S1.n ∧ RDs Γ ρ1 S1.n H1 a b ∧ (f a env S1).All (PostS Γ X W n0 ρ1 S1 H1 D) NoE :=
  ⟨ρ, env, S, hl, (h.st.wk (ln env S)).mono (fun a S1 ⟨la, h1⟩ ρ1 H1 b hl1 e r => ⟨ρ1, S1, a, la, hl1, e, Nat.le_trans hn e.le, r, h1.mono (fun _ _ p => p.ext e.toExt0 (CelK.of e hn)) fun _ _ _ p => p⟩) fun c fs S1 h1 ρ1 H1 cls dd hl1 e x =>
    h1 ρ1 H1 σ cls dd hl1 e.toExt0 (CelK.of e hn) hc x⟩
variable (g : XG Γ X) (hr : Room (k + 1) X.A) (hg : L2.Gl X x) (hm : X.mg x = some (.ref (Γ.clA c))) (hdb : (x == ("__debug__" : Str)) = false)
include g hr hg hm hdb
/-- C(e), by place -/
theorem x_mk (M : MkC Γ k c f 1 []) {es : List Expr} (ha : PA X [e] (rdL Γ X W fs)) (ln : LenF 1 fs) (hst : noStar [e] = true) : PE X (.Call (.Name x p) [e] [] pos) (rd Γ X W fun v S => (fs v S).bind fun xs S1 => fMk Γ.G c [.at_ 0] xs S1) := by
  have hk : PySem.W.keepIn X.K (.ref (Γ.clA c)) = true := by rw [g.K]; exact M.T.kC
  refine ⟨fun pins s σ H Q I h => ?_⟩
  obtain ⟨ρ, env, S, R, h⟩ := h
  refine wpAny_Call_Name_kw (ld_glob I hg hm ?_ hdb)
  refine PySem.W.callWith_K (h₀ := X.base) I.ok.mod.kin hk (thn (ha.run pos pins s σ H _ I (rdL_len R ln h)) fun us s1 ⟨vs, H1, I1, r, l1, ρ1, S1, ds, R1, e1, rr, h1⟩ => ⟨I1.kIn, ?_⟩) (star_off (noStar_tail hst).2) (plain_any (noStar_tail hst).1)
  exact mk_fin (ks := []) (ws := []) (us := us) g M hr I1 R1 rr (by rw [List.append_nil]; exact r) (r.length.symm.trans l1) rfl h1
/-- C(f = e), by name -/
theorem x_mkK (M : MkC Γ k c f 0 [f]) (hw : PK X [⟨some f, e, kp⟩] (rdL Γ X W fs)) (lk : LenF 1 fs) : PE X (.Call (.Name x p) [] [⟨some f, e, kp⟩] pos) (rd Γ X W fun v S => (fs v S).bind fun xs S1 => fMk Γ.G c [.at_ 0] xs S1) := by
  have hk : PySem.W.keepIn X.K (.ref (Γ.clA c)) = true := by rw [g.K]; exact M.T.kC
  refine ⟨fun pins s σ H Q I h => ?_⟩
  obtain ⟨ρ, env, S, R, h⟩ := h
  refine wpAny_Call_Name_kw (ld_glob I hg hm ?_ hdb)
  refine PySem.W.callWith_KW0 (h₀ := X.base) I.ok.mod.kin hk (kw_all rfl) (thn (hw.run pos pins s σ H _ I (rdL_len R lk h)) fun us s1 ⟨vs, H1, I1, r, l1, ρ1, S1, ds, R1, e1, rr, h1⟩ => ⟨I1.kIn, ?_⟩) (by
    show (false || _) = false
    rw [Bool.false_or]
    exact kw_none rfl)
  rw [kw_names]
  exact mk_fin (ks := [f]) (us := []) (ws := us) g M hr I1 R1 rr r rfl (r.length.symm.trans l1) h1
/-- an exception made, to be raised -/
theorem pmk_own1 (M : MkC Γ k c f 1 []) {ta : TA} (ha : PA X [e] ta) (hst : noStar [e] = true) : L2N.PMk X (.Call (.Name x p) [e] [] pos) (fun σ H Q => ta σ H fun vs H1 => ∃ y, vs = [y] ∧ ∀ d, H1 d = none → Q (.ref (Γ.clA c)) (some d) (upd H1 d (.xd [(f, y)]))) := by
  have hk : PySem.W.keepIn X.K (.ref (Γ.clA c)) = true := by rw [g.K]; exact M.T.kC
  intro pins s σ H Q I h
  refine wpAny_Call_Name_kw (ld_glob I hg hm ?_ hdb)
  refine PySem.W.callWith_K (h₀ := X.base) I.ok.mod.kin hk (thn (ha.run pos pins s σ H _ I h) fun us s1 ⟨vs, H1, I1, r, y, ey, q⟩ => ⟨I1.kIn, ?_⟩) (star_off (noStar_tail hst).2) (plain_any (noStar_tail hst).1)
  subst ey
  cases r with
  | @cons _ u _ _ ry rn =>
    cases rn
    refine mk_run (ks := []) (us := [u]) (ws := []) (y := y) (u := u) g M hr I1 rfl rfl rfl ry fun a d hp2 s2 asz ha1 hd dne kk I2 ce => ?_
    obtain ⟨v, H2, o1, b1, un, ok2, rv, ev, eH⟩ := ce
    subst eH
    obtain ⟨h1, g1, d1, t1, os1⟩ := s1
    obtain ⟨h3, g3, d3, t3, os3⟩ := s2
    obtain ⟨t0, G, J, kG, ge, hoe, na⟩ := mk_end0 (d := d) (fs := [(f, y)]) (d2 := d3) (t2 := t3) I1 asz kk un ok2 o1 b1 upd_same (by rw [upd_ne dne, upd_same]) hd
    have eq : upd (del (upd (upd (upd H1 a (exo a (Γ.clA c) none)) d (exd d [(f, y)])) a (exo a (Γ.clA c) (some d))) a) d (.xd [(f, y)]) = upd H1 d (.xd [(f, y)]) := by
      funext b
      by_cases hb : b = d
      · rw [hb, upd_same, upd_same]
      · rw [upd_ne hb, upd_ne hb]
        by_cases hba : b = a
        · rw [hba, del_same]; exact ha1.symm
        · rw [del_ne hba, upd_ne hba, upd_ne hb, upd_ne hba]
    rw [eq] at J na
    exact ⟨a, _, _, ⟨G, g3, d3, t3, os3⟩, _, .ref (Γ.clA c), some d, rfl, J, kG, ge, hoe, ⟨rfl, rfl, fun vs e => by cases e; rfl⟩, rfl, rfl, na, rfl, b1, raises_own (by rw [g.K]; exact M.T.exC) (by rw [g.K]; exact M.T.tyC), q d hd⟩
/-- raise C(e) -/
theorem y_rse (M : MkC Γ k c f 1 []) {pos' : Pos} (hc : X.calm = true) (tk : L2N.Takes X W) (ha : PA X [e] (rdL Γ X W fs)) (ln : LenF 1 fs) (hst : noStar [e] = true) : PS X (.Raise (some (.Call (.Name x p) [e] [] pos)) none pos') (rS Γ X W n0 fun v S => (fs v S).st v fun xs S1 => fRs Γ.G c [.at_ 0] xs v S1) :=
  (L2N.ps_raise hc tk (pmk_own1 (p := p) (pos := pos) g hr hg hm hdb M ha hst)).wk fun D σ H ⟨ρ, env, S, R, hn, hce, h⟩ => by
    refine (rS_expL (f := fun xs v S1 => fRs Γ.G c [.at_ 0] xs v S1) hn (hl := R) hce ln h).mono fun vs H1 ⟨ρ1, S1, ds, la, R1, e1, hn1, r, h1⟩ => ?_
    have h1 : (fRs Γ.G c [.at_ 0] ds env S1).All (PostS Γ X W n0 ρ1 S1 H1 D) NoE := h1
    unfold fRs at h1
    rw [M.flds] at h1
    cases ds with
    | nil => exact False.elim h1
    | cons d0 r1 =>
      have r2 := r
      unfold RDs at r2
      obtain ⟨y, ys, rfl, rd, rr⟩ := r2
      cases r1 with
      | cons d1 r3 =>
        exact nomatch la
      | nil =>
        obtain rfl : ys = [] := rr
        refine ⟨y, rfl, fun d hd => ?_⟩
        have x1 : Ext ρ1 S1 H1 ρ1 S1 (upd H1 d (.xd [(f, y)])) := Ext.lay R1.h.wf hd
        exact (show PostS Γ X W n0 ρ1 S1 H1 D (.xc c [(f, d0)] env) S1 from h1) ρ1 _ σ _ (some d) (R1.lay hd) x1.toExt0 CelK.refl hce ⟨rfl, .inr ⟨d, [(f, y)], rfl, upd_same, rfs_one (rd.ext x1)⟩⟩
end
end
end Ev
end
section
set_option Elab.async false
set_option linter.all false
set_option maxRecDepth 100000
set_option maxHeartbeats 1000000
/-! EXCEPTIONS read: their fields, their classes. -/
namespace Ev
noncomputable section
open PySem PySem.Spec PyProof.Rows L2
/-- what the classes must say for that -/
structure KxC (K : PySem.W.Frag) (C : Addr) : Prop where
  cl : (PySem.W.clsIn K C).isSome = true
  ga : PySem.W.findIn K (.ref C) "__getattribute__" = some (some (.builtin "BaseException.__getattribute__"))
  gg : PySem.W.findIn K (.ref C) "__getattr__" = some none
  sb : PySem.W.subIn K (.ref C) (.type "BaseException") = some true
  hd : PySem.W.hasDictIn K C = true
  ca : PySem.W.findIn K (.ref C) "__class__" = some (some (.builtin "object.__class__"))
  sp : PySem.W.specialIn K (.builtin "object.__class__") "__get__" = some (some (.builtin "getset_descriptor.__get__"))
  tk : PySem.W.takesIn K (.builtin "object.__class__") = some true
  mr : PySem.W.mroIn K C (.type "object") = some true
structure XcOk (Γ : Gm) : Prop where
  kx : ∀ c u b, Γ.G.below c u = some b → Nat.ble 100 c = false → KxC Γ.K (Γ.clA c)
  fl : ∀ c fs, Γ.G.flds.get c = some fs → KxC Γ.K (Γ.clA c) ∧ ∀ f, hasS f fs = true → PySem.W.findIn Γ.K (.ref (Γ.clA c)) f = some none
section
variable {Γ : Gm} {X : Cx} {W : WX} {ρ : Nat → Addr} {S : St} {H H1 : Hp} {env : Env} {σ : L2.St} {pins : List (Addr × Obj)} {s s' : Shared} {x z f : Str} {e : Expr} {p pos : Pos} {Q : VK} {i : Nat}
theorem isOne_kx (ck : ClsOk Γ) {c : Nat} {d : D} {b : Bool} (hc : Nat.ble 100 c = false) (h : isOne Γ.G c d = some b) : PySem.W.kitOne Γ.K (.ref (Γ.clA c)) (clV Γ d) = some b ∧ (∀ ρ n H v, RD Γ ρ n H d v → ClsV v (clV Γ d)) ∧ ∃ u b, Γ.G.below c u = some b := by
  unfold isOne at h
  rw [hc] at h
  split at h
  · rename_i u
    dsimp only at h
    split at h
    · rename_i hu
      have q := ck.isn c u b hc h
      unfold tyW at q
      rw [hu] at q
      refine ⟨q, fun ρ n H v r => ?_, u, b, h⟩
      have r : v = .ty (tyS u) := r
      subst r
      exact .ty _
    · exact nomatch h
  · rename_i u
    dsimp only at h
    split at h
    · exact nomatch h
    · rename_i hu
      have q := ck.isn c u b hc h
      unfold tyW at q
      rw [hu] at q
      refine ⟨q, fun ρ n H v r => ?_, u, b, h⟩
      have r : v = .ref (Γ.clA u) := r
      subst r
      exact .own _
  · exact nomatch h
theorem isAny_kx (ck : ClsOk Γ) {c : Nat} (hc : Nat.ble 100 c = false) : ∀ {ds : List D} {b : Bool}, isAny Γ.G c ds = some b → PySem.W.kitAny Γ.K (.ref (Γ.clA c)) (ds.map (clV Γ)) = some b
  | [], b, h => by
    cases h
    exact kitAny_nil
  | d :: ds, b, h => by
    unfold isAny at h
    split at h
    · rename_i e
      cases h
      exact kitAny_cons (isOne_kx ck hc e).1 (fun z => (nomatch z)) (fun _ => rfl)
    · rename_i e
      exact kitAny_cons (isOne_kx ck hc e).1 (fun _ => isAny_kx ck hc h) (fun z => (nomatch z))
    · cases h
/-- an exception's object with its dict -/
theorem inst_of {C a d : Addr} {oe : Obj} {vs : Array Value} {ws : List (Str × V)} {P : Program} {w : World} {h : Heap} (hok : HOk P w H h) (hg : h.get? a = some oe) (hc : oe.cls = .ref C) (hv : oe.data = .fields vs) (hd : oe.dict = some d) (hw : H d = some (.xd ws)) :
    ∃ od, PySem.W.InstAt h a oe C (some od) ∧ ∃ mA : Str → Option Value, (∀ f, RelO (ws.lookup f) (mA f)) ∧ ∀ f, PySem.W.lookIn f od = some (mA f) := by
  obtain ⟨mA, hns, hr⟩ := (show ObjOk P w H h d (.xd ws) from hok d _ hw)
  obtain ⟨od, ho, hl⟩ := lookIn_ns hns
  exact ⟨od, ⟨hg, hc, by unfold PySem.W.notCls; rw [hv] <;> rfl, by rw [hd]; exact ho⟩, mA, hr, hl⟩
/-- its field -/
theorem fld_get {C a d : Addr} {oe : Obj} {vs : Array Value} {ws : List (Str × V)} {v0 : V} {Q1 : Value → Shared → Prop} (g : X.K = Γ.K) (kx : KxC Γ.K C) (hno : PySem.W.findIn Γ.K (.ref C) f = some none) (I : Inv X pins σ H s) (hg : s.heap.get? a = some oe) (hc : oe.cls = .ref C) (hv : oe.data = .fields vs)
    (hd : oe.dict = some d) (hw : H d = some (.xd ws)) (hl : ws.lookup f = some v0) (h : ∀ u, RelV v0 u → Q1 u { s with toks := s.toks + 1 }) : wpAny (model X.prog X.w) X.A (getAttr (.ref a) f true) Q1 X.xe s := by
  obtain ⟨od, J, mA, hr, hm⟩ := inst_of I.hok hg hc hv hd hw
  obtain ⟨u, hu, ru⟩ := RelO.some_of (v := v0) (o := mA f) (by rw [← hl]; exact hr f)
  have KI : Γ.K.In s.heap := by
    have z := I.kIn
    rw [g] at z
    exact z
  exact PySem.HandSPX.exc_get KI J kx.ga kx.gg kx.sb (PySem.W.findObj_own kx.hd hno rfl (by rw [hm, hu])) (handed_of ru) (h u ru)
theorem fldOf_ok (xc : XcOk Γ) {c : Nat} {fs : List (Str × Ev.D)} {d : Ev.D} (h : fldOf Γ.G c fs f = some d) : KxC Γ.K (Γ.clA c) ∧ PySem.W.findIn Γ.K (.ref (Γ.clA c)) f = some none ∧ fs.lookup f = some d := by
  unfold fldOf at h
  split at h
  · rename_i gs e
    split at h
    · rename_i hs
      obtain ⟨a, b⟩ := xc.fl c gs e
      exact ⟨a, b f hs, h⟩
    · exact nomatch h
  · exact nomatch h
/-- x.f, x an exception held as a value -/
theorem x_fld {fo : EvF Ev.D} (g : X.K = Γ.K) (xc : XcOk Γ) (hb : attributeBase e f X.env (eval e X.env) = eval e X.env) (he : PE X e (rd Γ X W fo)) : PE X (.Attribute e f pos) (rd Γ X W (e1 Γ.G (.fld f) fo)) := by
  refine ⟨fun pins s σ H Q I h => ?_⟩
  refine attr_of hb (thn (he.run pins s σ H _ I (rd_e1 h)) fun u s1 ⟨x, H1, I1, rx, q⟩ => ?_)
  obtain ⟨ρ, env, σ1, S, a, R, ra, g1⟩ := q.one
  simp only [primF, p_fld] at g1
  split at g1
  · rename_i l heq
    cases heq
    obtain ⟨lt, rfl⟩ := rd_ref ra
    split at g1
    · rename_i c fs eo
      split at g1
      · rename_i d ef
        obtain ⟨kx, hno, hl⟩ := fldOf_ok xc ef
        obtain ⟨dx, ws, ho, hfs⟩ := (R.h.obj l _ eo).2
        obtain rfl : u = Value.ref (ρ l) := rx
        rcases hfs with rfl | ⟨d1, rfl, hw, rf⟩
        · exact nomatch hl
        · obtain ⟨v0, hv0, rv0⟩ := rf f d hl
          obtain ⟨⟨t1, hg⟩, _, _⟩ := I1.hok _ _ ho
          exact fld_get (vs := #[.ref t1, .none, .none, .none, .bool false, .none]) g kx hno I1 hg rfl rfl rfl hw hv0 fun u ru => ⟨v0, H1, I1.tok _, ru, fin_val R g1 rv0⟩
      · exact g1.elim
    · exact g1.elim
  · exact g1.elim
end
/-! ### in an except suite -/
section
variable {Γ : Gm} {X : Cx} {W : WX} {a : Addr} {oe : Obj} {cls : Value} {dd : Option Addr} {pn : List (Addr × Obj)} {z f x : Str} {e : Expr} {p pos : Pos} {i : Nat}
/-- e.f, e the exception that the suite holds -/
theorem x_exf (g : X.K = Γ.K) (xc : XcOk Γ) (hi : X.N[i]? = some z) (hv : Vis X.env.scope z) (hdb : (z == ("__debug__" : Str)) = false) (hcd : (z == ("__classdict__" : Str)) = false) :
    PE (X.suite a ((a, oe) :: pn)) (.Attribute (.Name z p) f pos) (rd Γ (X.suite a ((a, oe) :: pn)) W fun v S => match nth v i with
      | some (.ex c fs) => match fldOf Γ.G c fs f with
        | some d => .ok d S
        | none => .fail
      | _ => .fail) := by
  refine ⟨fun pins s σ H Q I h => ?_⟩
  obtain ⟨ρ, env, S, R, h⟩ := h
  dsimp only at h
  rw [nth_get] at h
  split at h
  · rename_i c fs eo
    split at h
    · rename_i d ef
      obtain ⟨kx, hno, hl⟩ := fldOf_ok xc ef
      obtain ⟨v, hσ, a1, oe1, pn1, vs, d1, rfl, epn, hc, hd, hvs, hfs⟩ := R.s.sl i _ eo
      have epn : (a, oe) :: pn = (a1, oe1) :: pn1 := epn
      cases epn
      rcases hfs with rfl | ⟨d2, ws, rfl, hw, rf⟩
      · exact nomatch hl
      · obtain ⟨v0, hv0, rv0⟩ := rf f d hl
        have hN : (X.suite a ((a, oe) :: pn)).N[i]? = some z := hi
        refine attr_of rfl (thn ((pe_var (X := X.suite a ((a, oe) :: pn)) hN hv hdb hcd).run pins s σ H (fun v H1 => v = .ref a ∧ H1 = H) I ⟨_, hσ, rfl, rfl⟩) fun u s1 ⟨v1, H1, I1, rx, ev, eH⟩ => ?_)
        subst ev eH
        obtain rfl : u = Value.ref a := rx
        obtain ⟨ha, _⟩ := I1.pin (a, oe) (List.mem_append_left _ List.mem_cons_self)
        exact fld_get (X := X.suite a ((a, oe) :: pn)) g kx hno I1 ha hc hvs hd hw hv0 fun u ru => ⟨v0, H1, I1.tok _, ru, fin_val R h rv0⟩
    · exact h.elim
  · exact h.elim
/-- isinstance of it -/
def rKx (Γ : Gm) (a : Addr) (oe : Obj) (c : Nat) : List V → Hp → VK → Prop := fun xs H Q => ∃ (v2 : V) (b : Bool), xs = [.ref a, v2] ∧ (∃ d ws, oe.dict = some d ∧ H d = some (.xd ws)) ∧
  ((∃ cv, ClsV v2 cv ∧ PySem.W.kitOne Γ.K (.ref (Γ.clA c)) cv = some b) ∨ ∃ tp ws us, v2 = .ref tp ∧ H tp = some (.tup ws) ∧ Paired ClsV ws us ∧ PySem.W.kitAny Γ.K (.ref (Γ.clA c)) us = some b) ∧ Q (.bl b) H
theorem call_kx {c : Nat} {vs : Array Value} (g : X.K = Γ.K) (kx : KxC Γ.K (Γ.clA c)) (hc : oe.cls = .ref (Γ.clA c)) (hvs : oe.data = .fields vs) : CallR (X.suite a ((a, oe) :: pn)) (.builtin "isinstance") (rKx Γ a oe c) := by
  intro pins s σ H xs us Q I r h
  obtain ⟨v2, b, rfl, ⟨d, ws, hd, hw⟩, hk, q⟩ := h
  obtain ⟨u1, u2, rfl, r1, r2⟩ := vals2 r
  obtain rfl : u1 = Value.ref a := r1
  obtain ⟨ha, _⟩ := I.pin (a, oe) (List.mem_append_left _ List.mem_cons_self)
  obtain ⟨od, J, _⟩ := inst_of I.hok ha hc hvs hd hw
  have KI : Γ.K.In s.heap := by
    have y := I.kIn
    have y : X.K.In s.heap := y
    rw [g] at y
    exact y
  rcases hk with ⟨cv, k1, k2⟩ | ⟨tp, ws, us, rfl, ht, k1, k2⟩
  · have e2 := k1.eq r2
    subst e2
    exact PySem.W.kia_one (PySem.W.kitx_exc kx.cl kx.ga kx.gg kx.sb kx.ca kx.sp kx.tk kx.mr) KI J k2 (fun z => (nomatch z)) fun tk => ⟨.bl b, H, I.tok tk, rfl, q⟩
  · obtain rfl : u2 = Value.ref tp := r2
    obtain ⟨_, its, rv, o, h1, h2, n, h3⟩ := (show ObjOk X.prog X.w H s.heap tp (.tup ws) from I.hok tp _ ht)
    have e3 := ClsV.all k1 rv
    subst e3
    obtain ⟨oc, od2, dt, sl⟩ := o
    simp only at h2 h3
    subst h2 h3
    exact PySem.W.kia_tup (PySem.W.kitx_exc kx.cl kx.ga kx.gg kx.sb kx.ca kx.sp kx.tk kx.mr) KI J h1 k2 (fun z => (nomatch z)) fun tk => ⟨.bl b, H, I.tok tk, rfl, q⟩
theorem x_exi {dC : Ev.D} {cs : List Ev.D} (g : X.K = Γ.K) (xc : XcOk Γ) (ck : ClsOk Γ) (hi : X.N[i]? = some z) (hv : Vis X.env.scope z) (hdb : (z == ("__debug__" : Str)) = false) (hcd : (z == ("__classdict__" : Str)) = false)
    (hg : L2.Gl X x) (hm : X.mg x = none) (hbt : bootBuiltins x = some (.builtin "isinstance")) (hn : x ≠ "__name__") (hxd : (x == ("__debug__" : Str)) = false) (hst : noStar [.Name z p, e] = true)
    (hd : cs = [dC] ∨ (dC = .tup cs ∧ clsA cs = true ∧ cs ≠ [])) (he : PE (X.suite a ((a, oe) :: pn)) e (rd Γ (X.suite a ((a, oe) :: pn)) W fun _ S => .ok dC S)) {p0 : Pos} :
    PE (X.suite a ((a, oe) :: pn)) (.Call (.Name x p0) [.Name z p, e] [] pos) (rd Γ (X.suite a ((a, oe) :: pn)) W fun v S => match nth v i with
      | some (.ex c (_ :: _)) => match Nat.ble 100 c with
        | true => .fail
        | false => okB (isAny Γ.G c cs) S
      | _ => .fail) := by
  refine ⟨fun pins s σ H Q I h => ?_⟩
  obtain ⟨ρ, env, S, R, h⟩ := h
  dsimp only at h
  rw [nth_get] at h
  split at h
  · rename_i c fd fs eo
    split at h
    · exact h.elim
    · rename_i hble
      obtain ⟨v, hσ, a1, oe1, pn1, vs, d1, rfl, epn, hc, hd1, hvs, hfs⟩ := R.s.sl i _ eo
      have epn : (a, oe) :: pn = (a1, oe1) :: pn1 := epn
      cases epn
      rcases hfs with hz | ⟨d2, ws, rfl, hw, rf⟩
      · exact nomatch hz
      · unfold okB at h
        split at h
        · rename_i b eb
          have kx : KxC Γ.K (Γ.clA c) := by
            have : ∃ u b, Γ.G.below c u = some b := by
              rcases hd with rfl | ⟨_, _, hne⟩
              · unfold isAny at eb
                split at eb
                · rename_i e1
                  exact (isOne_kx ck hble e1).2.2
                · rename_i e1
                  exact (isOne_kx ck hble e1).2.2
                · exact nomatch eb
              · cases cs with
                | nil => exact absurd rfl hne
                | cons c1 cs =>
                  unfold isAny at eb
                  split at eb
                  · rename_i e1
                    exact (isOne_kx ck hble e1).2.2
                  · rename_i e1
                    exact (isOne_kx ck hble e1).2.2
                  · exact nomatch eb
            obtain ⟨u, b', q⟩ := this
            exact xc.kx c u b' q hble
          have hN : (X.suite a ((a, oe) :: pn)).N[i]? = some z := hi
          have P := pe_callB (X := X.suite a ((a, oe) :: pn)) (x := x) (p := p0) (pos := pos) (call_kx (a := a) (pn := pn) g kx hc hvs) hg hm hbt (pa_cons (pe_var (X := X.suite a ((a, oe) :: pn)) (pos := p) hN hv hdb hcd) (pa_cons he pa_nil (star_off (noStar_tail (noStar_tail hst).1).2)) (star_off (noStar_tail hst).2)) hn hxd (star_off (noStar_tail hst).2) (plain_any (noStar_tail hst).1)
          refine P.run pins s σ H Q I ⟨_, hσ, ρ, env, S, R, fun ρ2 H2 v2 R2 x2 r2 => ⟨v2, b, rfl, ⟨d2, ws, hd1, x2.keep _ _ hw rfl⟩, ?_, fin_val R2 (h.mono (fun _ _ q => q.ext R.h.wf R2.h.wf x2) fun _ _ _ q => q.ext R.h.wf R2.h.wf x2) rfl⟩⟩
          rcases hd with rfl | ⟨rfl, hcl, _⟩
          · unfold isAny at eb
            split at eb
            · rename_i e1
              cases eb
              obtain ⟨k1, k2, _⟩ := isOne_kx ck hble e1
              exact .inl ⟨_, k2 _ _ _ _ r2, k1⟩
            · rename_i e1
              cases eb
              obtain ⟨k1, k2, _⟩ := isOne_kx ck hble e1
              exact .inl ⟨_, k2 _ _ _ _ r2, k1⟩
            · exact nomatch eb
          · obtain ⟨_, tp, ws2, rfl, ht, rs⟩ := rd_tup r2
            exact .inr ⟨tp, ws2, _, rfl, ht, clsV_all hcl rs, isAny_kx ck hble eb⟩
        · exact h.elim
  · exact h.elim
end
end
end Ev
end
section
set_option Elab.async false
set_option linter.all false
set_option maxRecDepth 100000
set_option maxHeartbeats 2000000
/-! dict(zip(a, b)), lists and tuples in any mix. -/
namespace PySem
namespace EvK
open Sem (wp)
section
variable {prog : Program} {w : World} {A : Around} {E : Value → Shared → Prop} {s : Shared} {z TI TO T i1 i2 : Addr} {f : Bool} {oT : Obj} {fp1 fp2 : List Addr} {n1 n2 i : Nat} {P1 P2 : Nat → Value → Prop} {St1 St2 : Nat → Heap → Prop}
theorem zipH_item {Q : Value → Shared → Prop} (S : ZipSep2 z TI TO i1 i2 fp1 fp2) (D1 : Draws prog w A i1 fp1 n1 P1 St1) (D2 : Draws prog w A i2 fp2 n2 P2 St2) (hz : IsZipHeld s.heap z TI TO T f) (hT : s.heap.get? T = some oT) (hTI : IsTupOf2 s.heap TI (.ref i1) (.ref i2))
    (st1 : St1 i s.heap) (st2 : St2 i s.heap) (l1 : i < n1) (l2 : i < n2)
    (hQ : ∀ x y h' tk, P1 i x → P2 i y → IsZipHeld h' z TI TO T true → St1 (i + 1) h' → St2 (i + 1) h' → IsTupOf2 h' s.heap.objs.size x y → h'.objs.size = s.heap.objs.size + 1 →
      (∀ c o, c ≠ z → c ≠ i1 → c ≠ i2 → s.heap.get? c = some o → h'.get? c = some o) → Q (.ref s.heap.objs.size) { s with heap := h', toks := tk }) :
    wpAny (model prog w) A (Builtin.«zip.__next__» ⟨[.ref z], []⟩) (fun fin s' => ∃ v, fin = .done (.ret v) ∧ Q v s') E s := by
  obtain ⟨hp, g, d, tk0, os⟩ := s
  show wpAny _ _ (field (.ref z) 2 >>= _) _ _ _
  refine wpAny_bind (wpAny_field hz rfl (x := .bool false) rfl ?_)
  show wpAny _ _ (field (.ref z) 3 >>= _) _ _ _
  refine wpAny_bind (wpAny_field hz rfl (x := .ref TI) rfl ?_)
  refine wpAny_bind (wpAny_seqItems hTI rfl ?_)
  show wpAny _ _ (Builtin.SmallTypes.ownedTupleIsFree (.ref z) >>= _) _ _ _
  refine wpAny_bind (wpAny_tupleHeld_zip hz hT fun g1 hz1 hs1 => ?_)
  replace hz1 : IsZipHeld g1 z TI TO T true := hz1
  replace hs1 : Heap.SameBut z hp g1 := hs1
  simp only [Bool.false_eq_true, if_false]
  refine wpAny_bind ?_
  rw [← Array.forIn_toList]
  simp only [List.forIn_cons, List.forIn_nil]
  refine wpAny_bind (wpAny_bind (wpAny_holding ?_))
  show wpAny _ _ (Builtin.SmallTypes.nextOf (.ref i1) >>= _) _ _ ⟨g1, g, d, tk0, os⟩
  refine wpAny_bind (D1.item i _ _ _ l1 (D1.over st1 hs1 S.zf1) fun x g2 tk2 hx sn1 hs2 => wpAny_pure ?_)
  replace hs2 : Heap.SameBut i1 g1 g2 := hs2
  refine wpAny_pure ?_
  refine wpAny_bind (wpAny_bind (wpAny_holding ?_))
  show wpAny _ _ (Builtin.SmallTypes.nextOf (.ref i2) >>= _) _ _ ⟨g2, g, d, tk2, os⟩
  refine wpAny_bind (D2.item i _ _ _ l2 (D2.over (D2.over st2 hs1 S.zf2) hs2 S.sep1_2) fun y g3 tk3 hy sn2 hs3 => wpAny_pure ?_)
  replace hs3 : Heap.SameBut i2 g2 g3 := hs3
  refine wpAny_pure (wpAny_pure ?_)
  show wpAny _ _ (newTuple [x, y] >>= _) _ _ ⟨g3, g, d, tk3, os⟩
  refine wpAny_bind (wpAny_newTuple ?_)
  have sz : g3.objs.size = hp.objs.size := by rw [hs3.1, hs2.1, hs1.1]
  have hz3 : IsZipHeld g3 z TI TO T true := hs3.extBut _ _ S.zi2 (hs2.extBut _ _ S.zi1 hz1)
  have kk : ∀ c o, c ≠ z → c ≠ i1 → c ≠ i2 → hp.get? c = some o → g3.get? c = some o := fun c o c1 c2 c3 e => hs3.extBut _ _ c3 (hs2.extBut _ _ c2 (hs1.extBut _ _ c1 e))
  have st13 : St1 (i + 1) g3 := D1.over sn1 hs3 S.sep2_1
  refine wpAny_pure ⟨_, rfl, ?_⟩
  show Q (.ref g3.objs.size) _
  have hp2 : IsTupOf2 (g3.push { cls := .type "tuple", data := .seq #[x, y] }) g3.objs.size x y := Heap.get?_push_size _ rfl
  have hz4 : (g3.push { cls := .type "tuple", data := .seq #[x, y] }).objs.size = g3.objs.size + 1 := Heap.size_push ..
  have up : ∀ c o, g3.get? c = some o → (g3.push { cls := .type "tuple", data := .seq #[x, y] }).get? c = some o := fun c o e => Heap.get?_push_of_some _ e
  rw [sz] at hp2 hz4 ⊢
  exact hQ x y _ tk3 hx hy (up _ _ hz3) (D1.frame _ _ _ st13 fun b _ o e => up b o e) (D2.frame _ _ _ sn2 fun b _ o e => up b o e) hp2 hz4 fun c o c1 c2 c3 e => up c o (kk c o c1 c2 c3 e)
theorem zipH_end {Q : Fin → Shared → Prop} (S : ZipSep2 z TI TO i1 i2 fp1 fp2) (D1 : Draws prog w A i1 fp1 n1 P1 St1) (D2 : Draws prog w A i2 fp2 n2 P2 St2) (hz : IsZipHeld s.heap z TI TO T f) (hT : s.heap.get? T = some oT) (hTI : IsTupOf2 s.heap TI (.ref i1) (.ref i2))
    (st1 : St1 i s.heap) (st2 : St2 i s.heap) (l1 : i ≤ n1) (l2 : i ≤ n2) (hend : i = n1 ∨ i = n2)
    (hE : ∀ h' tk e, (∀ c o, c ≠ z → c ≠ i1 → c ≠ i2 → s.heap.get? c = some o → h'.get? c = some o) → (∃ o, h'.get? e = some o ∧ o.cls = .type "StopIteration") → E (.ref e) { s with heap := h', toks := tk }) :
    wpAny (model prog w) A (Builtin.«zip.__next__» ⟨[.ref z], []⟩) Q E s := by
  obtain ⟨hp, g, d, tk0, os⟩ := s
  show wpAny _ _ (field (.ref z) 2 >>= _) _ _ _
  refine wpAny_bind (wpAny_field hz rfl (x := .bool false) rfl ?_)
  show wpAny _ _ (field (.ref z) 3 >>= _) _ _ _
  refine wpAny_bind (wpAny_field hz rfl (x := .ref TI) rfl ?_)
  refine wpAny_bind (wpAny_seqItems hTI rfl ?_)
  show wpAny _ _ (Builtin.SmallTypes.ownedTupleIsFree (.ref z) >>= _) _ _ _
  refine wpAny_bind (wpAny_tupleHeld_zip hz hT fun g1 hz1 hs1 => ?_)
  replace hs1 : Heap.SameBut z hp g1 := hs1
  simp only [Bool.false_eq_true, if_false]
  refine wpAny_bind ?_
  rw [← Array.forIn_toList]
  simp only [List.forIn_cons, List.forIn_nil]
  refine wpAny_bind (wpAny_bind (wpAny_holding ?_))
  show wpAny _ _ (Builtin.SmallTypes.nextOf (.ref i1) >>= _) _ _ ⟨g1, g, d, tk0, os⟩
  by_cases lt1 : i < n1
  · have e2 : i = n2 := by omega
    refine wpAny_bind (D1.item i _ _ _ lt1 (D1.over st1 hs1 S.zf1) fun x g2 tk2 hx sn1 hs2 => wpAny_pure ?_)
    replace hs2 : Heap.SameBut i1 g1 g2 := hs2
    refine wpAny_pure ?_
    refine wpAny_bind (wpAny_bind (wpAny_holding ?_))
    show wpAny _ _ (Builtin.SmallTypes.nextOf (.ref i2) >>= _) _ _ ⟨g2, g, d, tk2, os⟩
    refine wpAny_bind (D2.done ⟨g2, g, d, tk2, os⟩ _ _ (by rw [← e2]; exact D2.over (D2.over st2 hs1 S.zf2) hs2 S.sep1_2) fun g3 e hs3 he => ?_)
    replace hs3 : Heap.ExtBut i2 g2 g3 := hs3
    exact hE g3 tk2 e (fun c o c1 c2 c3 x => hs3 _ _ c3 (hs2.extBut _ _ c2 (hs1.extBut _ _ c1 x))) he
  · have e1 : i = n1 := by omega
    refine wpAny_bind (D1.done ⟨g1, g, d, tk0, os⟩ _ _ (by rw [← e1]; exact D1.over st1 hs1 S.zf1) fun g3 e hs3 he => ?_)
    replace hs3 : Heap.ExtBut i1 g1 g3 := hs3
    exact hE g3 tk0 e (fun c o c1 c2 _ x => hs3 _ _ c2 (hs1.extBut _ _ c1 x)) he
theorem nextH_item {Q : Option Value → Shared → Prop} (S : ZipSep2 z TI TO i1 i2 fp1 fp2) (D1 : Draws prog w A.in1 i1 fp1 n1 P1 St1) (D2 : Draws prog w A.in1 i2 fp2 n2 P2 St2) (hz : IsZipHeld s.heap z TI TO T f) (hT : s.heap.get? T = some oT) (hTI : IsTupOf2 s.heap TI (.ref i1) (.ref i2))
    (st1 : St1 i s.heap) (st2 : St2 i s.heap) (l1 : i < n1) (l2 : i < n2)
    (hQ : ∀ x y h' tk, P1 i x → P2 i y → IsZipHeld h' z TI TO T true → St1 (i + 1) h' → St2 (i + 1) h' → IsTupOf2 h' s.heap.objs.size x y → h'.objs.size = s.heap.objs.size + 1 →
      (∀ c o, c ≠ z → c ≠ i1 → c ≠ i2 → s.heap.get? c = some o → h'.get? c = some o) → Q (some (.ref s.heap.objs.size)) { s with heap := h', toks := tk }) : wpAny (model prog w) A (pyNext (.ref z)) Q E s := by
  have hTy : s.TypeIs (.ref z) "zip" := ⟨_, hz, rfl⟩
  unfold pyNext
  exact wpAny_bind (wpAny_attempt (wpAny_callSpecial?_slot (name := Str.ofString "__next__") hTy F.slot_zip_next
    (wpAny_call_entry F.slot_zip_next hTy F.entry_zip_next (zipH_item S D1 D2 hz hT hTI st1 st2 l1 l2 fun x y h' tk a1 a2 a3 a4 a5 a6 a7 a8 => wpAny_pure (hQ x y h' tk a1 a2 a3 a4 a5 a6 a7 a8)) (F.args_zip_next_1 _))))
theorem nextH_end {Q : Option Value → Shared → Prop} (S : ZipSep2 z TI TO i1 i2 fp1 fp2) (D1 : Draws prog w A.in1 i1 fp1 n1 P1 St1) (D2 : Draws prog w A.in1 i2 fp2 n2 P2 St2) (hz : IsZipHeld s.heap z TI TO T f) (hT : s.heap.get? T = some oT) (hTI : IsTupOf2 s.heap TI (.ref i1) (.ref i2))
    (st1 : St1 i s.heap) (st2 : St2 i s.heap) (l1 : i ≤ n1) (l2 : i ≤ n2) (hend : i = n1 ∨ i = n2)
    (hQ : ∀ h' tk, (∀ c o, c ≠ z → c ≠ i1 → c ≠ i2 → s.heap.get? c = some o → h'.get? c = some o) → Q none { s with heap := h', toks := tk }) : wpAny (model prog w) A (pyNext (.ref z)) Q E s := by
  have hTy : s.TypeIs (.ref z) "zip" := ⟨_, hz, rfl⟩
  unfold pyNext
  refine wpAny_bind (wpAny_attempt (wpAny_callSpecial?_slot (name := Str.ofString "__next__") hTy F.slot_zip_next
    (wpAny_call_entry F.slot_zip_next hTy F.entry_zip_next (zipH_end S D1 D2 hz hT hTI st1 st2 l1 l2 hend fun h' tk e hk he => ?_) (F.args_zip_next_1 _))))
  obtain ⟨o, ho, hc⟩ := he
  refine wpAny_bind (wpAny_isInstance (T := "StopIteration") (b := true) ⟨o, ho, hc⟩ isSubtype_stop ?_)
  exact wpAny_pure (hQ _ _ hk)
end
/-- where the items stand, how they are drawn -/
structure DrwAt (prog : Program) (w : World) (i : Addr) (fp : List Addr) (n : Nat) (P : Nat → Value → Prop) (St : Nat → Heap → Prop) : Prop where
  at_ : ∀ A : Around, A.handled = none → Draws prog w A i fp n P St
  there : ∀ k h, St k h → ∀ b ∈ fp, ∃ o, h.get? b = some o
  frame : ∀ i h h', St i h → (∀ b ∈ fp, ∀ o, h.get? b = some o → h'.get? b = some o) → St i h'
theorem pairD {prog : Program} {w : World} {z TI TO i1 i2 : Addr} {fp1 fp2 : List Addr} {n1 n2 : Nat} {P1 P2 : Nat → Value → Prop} {St1 St2 : Nat → Heap → Prop} (S : ZipSep2 z TI TO i1 i2 fp1 fp2) (F1 : DrwAt prog w i1 fp1 n1 P1 St1) (F2 : DrwAt prog w i2 fp2 n2 P2 St2)
    (T1 : TI ∉ fp1) (T2 : TI ∉ fp2) :
    PairArg prog w "zip" z (z :: TI :: TO :: (fp1 ++ fp2)) [z, TO, i1, i2] (min n1 n2) (fun i k v => P1 i k ∧ P2 i v) (fun h => IsZip h z TI TO .none ∧ IsTupOf2 h TI (.ref i1) (.ref i2) ∧ (∃ a b, IsTupOf2 h TO a b) ∧ St1 0 h ∧ St2 0 h) where
  type := fun s ok => ⟨_, ok.1, rfl⟩
  notDict := by decide
  keep := fun h h' ok hk => by
    obtain ⟨hz, hTI, ⟨a, b, hTO⟩, s1, s2⟩ := ok
    exact ⟨hk _ _ hz, hk _ _ hTI, ⟨a, b, hk _ _ hTO⟩, F1.frame _ _ _ s1 fun b _ o e => hk b o e, F2.frame _ _ _ s2 fun b _ o e => hk b o e⟩
  there := fun h ok b hb => by
    obtain ⟨hz, hTI, ⟨a, c, hTO⟩, s1, s2⟩ := ok
    rcases List.mem_cons.mp hb with rfl | hb
    · exact ⟨_, hz⟩
    · rcases List.mem_cons.mp hb with rfl | hb
      · exact ⟨_, hTI⟩
      · rcases List.mem_cons.mp hb with rfl | hb
        · exact ⟨_, hTO⟩
        · rcases List.mem_append.mp hb with hb | hb
          · exact F1.there _ _ s1 b hb
          · exact F2.there _ _ s2 b hb
  sub := fun c hc => by
    have hc' : c = z ∨ c = TO ∨ c = i1 ∨ c = i2 := by simpa using hc
    rcases hc' with rfl | rfl | rfl | rfl
    · exact List.mem_cons_self ..
    · exact List.mem_cons_of_mem _ (List.mem_cons_of_mem _ (List.mem_cons_self ..))
    · exact List.mem_cons_of_mem _ (List.mem_cons_of_mem _ (List.mem_cons_of_mem _ (List.mem_append_left _ S.mem1)))
    · exact List.mem_cons_of_mem _ (List.mem_cons_of_mem _ (List.mem_cons_of_mem _ (List.mem_append_right _ S.mem2)))
  noKeys := fun A s Q E hA ok h => getAttrOr_miss_zip ok.1 rfl rfl rfl zip_no_keys (by decide +kernel) hA h
  iter := fun A s d Q E hA ok hd hdf h => by
    obtain ⟨hz, hTI, ⟨a, b, hTO⟩, s1, s2⟩ := ok
    have D1 := F1.at_ A.in1 hA
    have D2 := F2.at_ A.in1 hA
    have dz : d ≠ z := fun e => hdf (by rw [e]; exact List.mem_cons_self ..)
    have dTI : d ≠ TI := fun e => hdf (by rw [e]; exact List.mem_cons_of_mem _ (List.mem_cons_self ..))
    have dTO : d ≠ TO := fun e => hdf (by rw [e]; exact List.mem_cons_of_mem _ (List.mem_cons_of_mem _ (List.mem_cons_self ..)))
    have d1 : d ∉ fp1 := fun e => hdf (List.mem_cons_of_mem _ (List.mem_cons_of_mem _ (List.mem_cons_of_mem _ (List.mem_append_left _ e))))
    have d2 : d ∉ fp2 := fun e => hdf (List.mem_cons_of_mem _ (List.mem_cons_of_mem _ (List.mem_cons_of_mem _ (List.mem_append_right _ e))))
    have di1 : d ≠ i1 := fun e => d1 (by rw [e]; exact S.mem1)
    have di2 : d ≠ i2 := fun e => d2 (by rw [e]; exact S.mem2)
    refine wpAny_pyIter_zip hz (h z [z, TO, i1, i2] (fun i h => IsTupOf2 h TI (.ref i1) (.ref i2) ∧ St1 i h ∧ St2 i h ∧
      ((IsZip h z TI TO .none ∧ ∃ a b, IsTupOf2 h TO a b) ∨ ∃ T f oT, IsZipHeld h z TI TO T f ∧ h.get? T = some oT ∧ T ≠ z ∧ T ≠ i1 ∧ T ≠ i2 ∧ T ≠ d)) s.heap s.toks ?_ ⟨hTI, s1, s2, .inl ⟨hz, a, b, hTO⟩⟩ (fun _ _ e => e) fun b hb => .inl hb)
    exact {
      off := fun hm => by
        simp only [List.mem_cons, List.not_mem_nil, or_false] at hm
        rcases hm with e | e | e | e
        · exact dz e
        · exact dTO e
        · exact di1 e
        · exact di2 e
      frame := fun i h1 h2 st hk => by
        obtain ⟨hTI, s1, s2, hz⟩ := st
        refine ⟨hk _ _ (Ne.symm dTI) hTI, D1.frame _ _ _ s1 fun b hb o e => hk b o (fun q => d1 (q ▸ hb)) e, D2.frame _ _ _ s2 fun b hb o e => hk b o (fun q => d2 (q ▸ hb)) e, ?_⟩
        rcases hz with ⟨hz, a, b, hTO⟩ | ⟨T, f, oT, hz, hT, r1, r2, r3, r4⟩
        · exact .inl ⟨hk _ _ (Ne.symm dz) hz, a, b, hk _ _ (Ne.symm dTO) hTO⟩
        · exact .inr ⟨T, f, oT, hk _ _ (Ne.symm dz) hz, hk _ _ r4 hT, r1, r2, r3, r4⟩
      item := fun i t Q1 E1 hi st hds hQ => by
        obtain ⟨hTI, s1, s2, hz⟩ := st
        have l1 : i < n1 := Nat.lt_of_lt_of_le hi (Nat.min_le_left ..)
        have l2 : i < n2 := Nat.lt_of_lt_of_le hi (Nat.min_le_right ..)
        have lt : ∀ {c o}, t.heap.get? c = some o → t.heap.objs.size ≠ c := fun e => Nat.ne_of_gt (Heap.lt_size e)
        have m1 : t.heap.objs.size ≠ i1 := by obtain ⟨_, e⟩ := D1.live _ _ s1; exact lt e
        have m2 : t.heap.objs.size ≠ i2 := by obtain ⟨_, e⟩ := D2.live _ _ s2; exact lt e
        rcases hz with ⟨hz, a, b, hTO⟩ | ⟨T, f, oT, hz, hT, r1, r2, r3, r4⟩
        · refine wpAny_pyNext_zipD2_item S D1 D2 hz hTI hTO s1 s2 l1 l2 fun x y h' tk a1 a2 a3 a4 a5 a6 a7 a8 hk => ?_
          exact hQ t.heap.objs.size _ _ h' tk ⟨a1, a2⟩ (.inl ⟨_, a7, rfl, _, rfl⟩) ⟨hk _ _ S.TIz S.TITO S.TIi1 S.TIi2 hTI, a5, a6, .inr ⟨t.heap.objs.size, false, _, a3, a7, lt hz, m1, m2, Nat.ne_of_gt hds⟩⟩
            fun c o hc e => hk c o (fun x => hc (by simp [x])) (fun x => hc (by simp [x])) (fun x => hc (by simp [x])) (fun x => hc (by simp [x])) e
        · refine nextH_item S D1 D2 hz hT hTI s1 s2 l1 l2 fun x y h' tk a1 a2 a3 a5 a6 a7 a8 hk => ?_
          exact hQ t.heap.objs.size _ _ h' tk ⟨a1, a2⟩ (.inl ⟨_, a7, rfl, _, rfl⟩) ⟨hk _ _ S.TIz S.TIi1 S.TIi2 hTI, a5, a6, .inr ⟨T, true, oT, a3, hk _ _ r1 r2 r3 hT, r1, r2, r3, r4⟩⟩
            fun c o hc e => hk c o (fun x => hc (by simp [x])) (fun x => hc (by simp [x])) (fun x => hc (by simp [x])) e
      done := fun t Q1 E1 st hQ => by
        obtain ⟨hTI, s1, s2, hz⟩ := st
        rcases hz with ⟨hz, a, b, hTO⟩ | ⟨T, f, oT, hz, hT, r1, r2, r3, r4⟩
        · exact wpAny_pyNext_zipD2_end S D1 D2 hz hTI hTO s1 s2 (by omega) (by omega) (by omega) fun h' tk hk => hQ h' tk fun c o hc e => hk c o (fun x => hc (by simp [x])) (fun x => hc (by simp [x])) (fun x => hc (by simp [x])) (fun x => hc (by simp [x])) e
        · exact nextH_end S D1 D2 hz hT hTI s1 s2 (by omega) (by omega) (by omega) fun h' tk hk => hQ h' tk fun c o hc e => hk c o (fun x => hc (by simp [x])) (fun x => hc (by simp [x])) (fun x => hc (by simp [x])) e }
end EvK
end PySem
end
section
set_option Elab.async false
set_option linter.all false
set_option maxRecDepth 100000
set_option maxHeartbeats 2000000
namespace Ev
noncomputable section
open PySem PySem.Spec PyProof.Rows L2 PySem.EvK
theorem no_up {n a j : Nat} (h : a < n) : n + j ≠ a := by omega
theorem no_at {n j : Nat} (h : j ≠ 0) : n + j ≠ n := by omega
theorem no_up2 {n i j : Nat} (h : i ≠ j) : n + i ≠ n + j := by omega
/-- a list, a tuple, as what is drawn from -/
theorem seq_src {prog : Program} {w : World} {s : Shared} {a : Addr} {its : List Value} (h : s.heap.IsList a its.toArray ∨ s.heap.IsTuple a its.toArray) :
    ∃ (o : Obj) (Hc : Heap → Prop) (St : Addr → Nat → Heap → Prop), Begins (.ref a) o Hc ∧ Hc s.heap ∧ a < s.heap.objs.size ∧ ∀ it, a ≠ it → DrwAt prog w it [it, a] its.toArray.size (fun i v => its.toArray[i]? = some v) (St it) ∧ ∀ h2, h2.get? it = some o → Hc h2 → St it 0 h2 := by
  rcases h with h | h
  · refine ⟨_, _, fun it i h => h.IsListIter it a i ∧ h.IsList a its.toArray, begins_list a its.toArray, h, ?_, fun it ne => ⟨⟨fun A hh => Draws.list hh it a ne its.toArray, fun k h2 st b hb => ?_, fun i h2 h3 st hk => ?_⟩, fun h2 e q => ⟨⟨_, e, rfl, rfl⟩, q⟩⟩⟩
    · obtain ⟨o, ho, _⟩ := h
      exact Heap.lt_size ho
    · obtain ⟨⟨o1, e1, _⟩, o2, e2, _⟩ := st
      rcases List.mem_cons.mp hb with rfl | hb
      · exact ⟨o1, e1⟩
      · rw [List.mem_singleton.mp hb]; exact ⟨o2, e2⟩
    · exact ⟨st.1.at fun o e => hk it (by simp) o e, st.2.at fun o e => hk a (by simp) o e⟩
  · refine ⟨_, _, fun it i h => h.IsTupleIter it a i ∧ h.IsTuple a its.toArray, begins_tuple a its.toArray, h, ?_, fun it ne => ⟨⟨fun A hh => Draws.tuple hh it a ne its.toArray, fun k h2 st b hb => ?_, fun i h2 h3 st hk => ?_⟩, fun h2 e q => ⟨⟨_, e, rfl, rfl⟩, q⟩⟩⟩
    · obtain ⟨o, ho, _⟩ := h
      exact Heap.lt_size ho
    · obtain ⟨⟨o1, e1, _⟩, o2, e2, _⟩ := st
      rcases List.mem_cons.mp hb with rfl | hb
      · exact ⟨o1, e1⟩
      · rw [List.mem_singleton.mp hb]; exact ⟨o2, e2⟩
    · exact ⟨st.1.at fun o e => hk it (by simp) o e, st.2.at fun o e => hk a (by simp) o e⟩
/-- the pairs of two rows -/
inductive ZipK : List V → List V → List (Key × V) → Prop
  | nil1 {ys : List V} : ZipK [] ys []
  | nil2 {xs : List V} : ZipK xs [] []
  | cons {k : Key} {xs ys : List V} {v : V} {kvs : List (Key × V)} (r : ZipK xs ys kvs) : ZipK (kV k :: xs) (v :: ys) ((k, v) :: kvs)
theorem zipK_vals {P : Program} {w : World} : ∀ {xs ys : List V} {kvs : List (Key × V)} {its its2 : List Value}, ZipK xs ys kvs → Vals xs its → Vals ys its2 → ∃ prs : List (Key × Value), KV kvs prs ∧ prs.length = min its.length its2.length ∧
    ∀ (i : Nat) (key v : Value), its[i]? = some key → its2[i]? = some v → ∃ k, prs[i]? = some (k, v) ∧ (mixKind P w).is k key = true
  | _, _, _, _, _, .nil1, .nil, _ => ⟨[], .nil, by simp, fun i key v h _ => by simp at h⟩
  | _, _, _, _, _, .nil2, _, .nil => ⟨[], .nil, by simp, fun i key v _ h => by simp at h⟩
  | _, _, _, _, _, .cons (k := k) (v := v) r, .cons (b := u) ru tu, .cons (b := u2) rv tv => by
    obtain ⟨prs, a, b, c⟩ := zipK_vals r tu tv
    refine ⟨(k, u2) :: prs, .cons ⟨rfl, rv⟩ a, ?_, fun i key y h1 h2 => ?_⟩
    · rw [List.length_cons, List.length_cons, List.length_cons, b]; omega
    · cases i with
      | zero =>
        have e1 : u = key := by simpa using h1
        have e2 : u2 = y := by simpa using h2
        subst e1 e2
        exact ⟨k, rfl, kV_is (P := P) (w := w) ru⟩
      | succ i =>
        obtain ⟨k2, e1, e2⟩ := c i key y (by simpa using h1) (by simpa using h2)
        exact ⟨k2, by simpa using e1, e2⟩
theorem zipK_len : ∀ {xs ys : List V} {kvs : List (Key × V)}, ZipK xs ys kvs → kvs.length ≤ xs.length
  | _, _, _, .nil1 => Nat.le_refl _
  | _, _, _, .nil2 => Nat.zero_le _
  | _, _, _, .cons r => Nat.succ_le_succ (zipK_len r)
def SeqA (K : PySem.W.Frag) (H : Hp) (a : Addr) (xs : List V) : Prop := SqL K H a xs ∨ SqT K H a xs
theorem seqA_at {X : Cx} {pins : List (Addr × Obj)} {σ : L2.St} {H : Hp} {s : Shared} {a : Addr} {xs : List V} (I : Inv X pins σ H s) (h : SeqA X.K H a xs) : ∃ its : List Value, Vals xs its ∧ xs.length ≤ sizeLine ∧ (s.heap.IsList a its.toArray ∨ s.heap.IsTuple a its.toArray) := by
  rcases h with h | h
  · obtain ⟨its, r, p, z⟩ := I.list h
    exact ⟨its, r, z, .inl p.isList⟩
  · obtain ⟨its, r, p, z⟩ := I.tuple h
    exact ⟨its, r, z, .inr p⟩
theorem pe_dzip {X : Cx} {x y : Str} {e e2 : Expr} {ta : TA} {p1 p2 q2 pos : Pos} (hc : X.calm = true) (hg : L2.Gl X x) (hm : X.mg x = none) (hv : bootBuiltins x = some (.type "dict")) (hn : x ≠ "__name__") (hd : (x == ("__debug__" : Str)) = false)
    (hg2 : L2.Gl X y) (hm2 : X.mg y = none) (hv2 : bootBuiltins y = some (.type "zip")) (hn2 : y ≠ "__name__") (hd2 : (y == ("__debug__" : Str)) = false) (ha : PA X [e, e2] ta) (hst : noStar [e, e2] = true) :
    PE X (.Call (.Name x p1) [.Call (.Name y p2) [e, e2] [] q2] [] pos) (fun σ H Q => ta σ H fun vs H1 => ∃ a b xs ys kvs, vs = [.ref a, .ref b] ∧ SeqA X.K H1 a xs ∧ SeqA X.K H1 b ys ∧ ZipK xs ys kvs ∧ ∀ p, H1 p = none → Q (.ref p) (upd H1 p (.dK (mergeK [] kvs)))) := by
  refine ⟨fun pins s σ H Q I h => ?_⟩
  have st1 : noStar [Expr.Call (.Name y p2) [e, e2] [] q2] = true := rfl
  refine Call_ (ld_blt I hg hm hv (PyProof.Rows.callWith_type1 (rest := []) ?_ rfl rfl) hn hd)
  show wpAny _ _ (spliced ((false, eval (.Call (.Name y p2) [e, e2] [] q2) X.env) :: backTo pos (starEach [] X.env))) _ _ s
  refine Calls.spliced_cons ?_
  refine Call_ (ld_blt I hg2 hm2 hv2 (PyProof.Rows.callWith_type1 (thn (ha.run q2 pins s σ H _ I h) fun us s1 ⟨vs, H1, I1, r1, a, b, xs, ys, kvs, ev, ha1, hb1, zk, q⟩ => ?_) (star_off (noStar_tail hst).2) (plain_any (noStar_tail hst).1)) hn2 hd2)
  subst ev
  obtain ⟨u1, u2, rfl, r1, r2⟩ := vals2 r1
  obtain rfl : u1 = Value.ref a := r1
  obtain rfl : u2 = Value.ref b := r2
  obtain ⟨its, rv, z1, sq1⟩ := seqA_at I1 ha1
  obtain ⟨its2, rv2, z2, sq2⟩ := seqA_at I1 hb1
  obtain ⟨o1, C1, St1, B1, c1, la, F1⟩ := seq_src (prog := X.prog) (w := X.w) sq1
  obtain ⟨o2, C2, St2, B2, c2, lb, F2⟩ := seq_src (prog := X.prog) (w := X.w) sq2
  refine zip_begins2 B1 B2 c1 c2 fun h2 hz hTI hTO g1 g2 hsz hk => ?_
  refine Calls.spliced_nil ?_
  show wpAny _ _ (call (.type "dict") [.ref (s1.heap.objs.size + 4)]) _ _ _
  obtain ⟨prs, kv, lp, hp⟩ := zipK_vals (P := X.prog) (w := X.w) zk rv rv2
  have D1 := F1 s1.heap.objs.size (Nat.ne_of_lt la)
  have D2 := F2 (s1.heap.objs.size + 1) (Nat.ne_of_lt (Nat.lt_succ_of_lt lb))
  have sep := zip_sep2 (N := s1.heap.objs.size) (fp1 := [a]) (fp2 := [b]) (fun c hc => by rw [List.mem_singleton.mp hc]; exact la) (fun c hc => by rw [List.mem_singleton.mp hc]; exact lb)
  have T1 : s1.heap.objs.size + 2 ∉ [s1.heap.objs.size, a] := fun hm => by
    rcases List.mem_cons.mp hm with z | hm
    · exact no_at (j := 2) (by decide) z
    · exact no_up (j := 2) la (List.mem_singleton.mp hm)
  have T2 : s1.heap.objs.size + 2 ∉ [s1.heap.objs.size + 1, b] := fun hm => by
    rcases List.mem_cons.mp hm with z | hm
    · exact no_up2 (i := 2) (j := 1) (by decide) z
    · exact no_up (j := 2) lb (List.mem_singleton.mp hm)
  have P := pairD (prog := X.prog) (w := X.w) sep D1.1 D2.1 T1 T2
  refine PySem.call_dict_pairs (knd := mixKind X.prog X.w) (kvs := prs) P (I.ok.hd hc) ⟨hz, hTI, ⟨_, _, hTO⟩, D1.2 _ g1 (B1.keeps _ _ c1 hk), D2.2 _ g2 (B2.keeps _ _ c2 hk)⟩ ⟨by rw [lp, List.size_toArray, List.size_toArray], fun i key v ⟨h1, h3⟩ => hp i key v (by simpa using h1) (by simpa using h3)⟩ ?_ fun h3 tk hd3 hk3 => ?_
  · rw [List.size_toArray, List.size_toArray, ← rv.length]
    exact Nat.le_trans (Nat.min_le_left _ _) z1
  · have sz2 : h2.objs.size = s1.heap.objs.size + 5 := hsz
    have hd3 : h3.DictOf (mixKind X.prog X.w) h2.objs.size (merged [] prs) := hd3
    show EP X pins σ Q (.ref h2.objs.size) _
    have keep : ∀ b o, s1.heap.get? b = some o → h3.get? b = some o := fun c o e => hk3 c o (fun hm => by
      have lc := Heap.lt_size e
      have hm' : c = s1.heap.objs.size + 4 ∨ c = s1.heap.objs.size + 3 ∨ c = s1.heap.objs.size ∨ c = s1.heap.objs.size + 1 := by simpa using hm
      rcases hm' with z | z | z | z
      · exact no_up (j := 4) lc z.symm
      · exact no_up (j := 3) lc z.symm
      · exact Nat.ne_of_lt lc z
      · exact no_up (j := 1) lc z.symm) (hk c o e)
    have le : s1.heap.objs.size ≤ h2.objs.size := by rw [sz2]; exact Nat.le_add_right _ _
    have hm : (h2.objs.size == sysModules) = false := beq_eq_false_iff_ne.mpr (Nat.ne_of_gt (Nat.lt_of_lt_of_le I1.big le))
    have hlen : (mergeK [] kvs).length ≤ sizeLine := by
      refine Nat.le_trans (length_mergeK kvs []) ?_
      rw [List.length_nil, Nat.zero_add]
      exact Nat.le_trans (zipK_len zk) z1
    exact ⟨.ref h2.objs.size, upd H1 h2.objs.size (.dK (mergeK [] kvs)), I1.laid (t' := tk) keep le (show ObjOk X.prog X.w _ _ _ (.dK (mergeK [] kvs)) from ⟨hlen, hm, merged [] prs, KV.merge kv .nil, hd3⟩), rfl, q _ (I1.hok.fresh le)⟩
/-! ### the evaluator's -/
section
variable {Γ : Gm} {X : Cx} {W : WX}
theorem pairs_ok {ρ : Nat → Addr} {n : Nat} {H : Hp} : ∀ {ks vs : List D} {kv vv : List V} {acc r : List (D × D)} {rs : List (Key × V)}, pairs ks vs acc = some r → RDs Γ ρ n H ks kv → RDs Γ ρ n H vs vv → RKs Γ ρ n H acc rs →
    ∃ kvs, ZipK kv vv kvs ∧ RKs Γ ρ n H r (mergeK rs kvs) ∧ r.length ≤ acc.length + ks.length
  | [], vs, kv, vv, acc, r, rs, h, h1, h2, h3 => by
    have h1 : kv = [] := h1
    subst h1
    have h : some acc = some r := h
    cases h
    exact ⟨[], .nil1, h3, Nat.le_refl _⟩
  | k :: ks, [], kv, vv, acc, r, rs, h, h1, h2, h3 => by
    have h2 : vv = [] := h2
    subst h2
    have h : some acc = some r := h
    cases h
    exact ⟨[], .nil2, h3, Nat.le_add_right _ _⟩
  | k :: ks, v :: vs, kv, vv, acc, r, rs, h, h1, h2, h3 => by
    unfold RDs at h1 h2
    obtain ⟨y, t, rfl, a1, a2⟩ := h1
    obtain ⟨z, u, rfl, b1, b2⟩ := h2
    rw [pairs_cons] at h
    split at h
    · rename_i hk
      obtain ⟨q, hq⟩ := isKey_keyD hk
      have e := keyD_kV hq a1
      subst e
      obtain ⟨kvs, c1, c2, c3⟩ := pairs_ok h a2 b2 (putD_put hq a1 b1 h3)
      refine ⟨(q, z) :: kvs, .cons c1, c2, ?_⟩
      have := putD_len k v acc
      rw [List.length_cons]
      omega
    · exact nomatch h
theorem x_dzip {x y : Str} {a b : Expr} {fa fb : EvF D} {p1 p2 q2 pos : Pos} (hc : X.calm = true) (hg : L2.Gl X x) (hm : X.mg x = none) (hv : bootBuiltins x = some (.type "dict")) (hn : x ≠ "__name__") (hd : (x == ("__debug__" : Str)) = false)
    (hg2 : L2.Gl X y) (hm2 : X.mg y = none) (hv2 : bootBuiltins y = some (.type "zip")) (hn2 : y ≠ "__name__") (hd2 : (y == ("__debug__" : Str)) = false) (hst : noStar [a, b] = true) (ha : PE X a (rd Γ X W fa)) (hb : PE X b (rd Γ X W fb)) :
    PE X (.Call (.Name x p1) [.Call (.Name y p2) [a, b] [] q2] [] pos) (rd Γ X W (e2 Γ.G .dzip fa fb)) :=
  (pe_dzip hc hg hm hv hn hd hg2 hm2 hv2 hn2 hd2 (pa_cons ha (pa_cons hb pa_nil (star_off (noStar_tail (noStar_tail hst).1).2)) (star_off (noStar_tail hst).2)) hst).wk fun σ H Q h =>
    (rd_e2 h).mono fun u H1 h1 => h1.mono fun v H2 q => by
      obtain ⟨ρ, env, σ1, S, d1, d2, R, r1, r2, g⟩ := q.two
      simp only [primF, p_dzip] at g
      split at g
      · rename_i xs ys e1 e2
        obtain ⟨l1, a1, us, rfl, rs1, hd1⟩ := items_at R.h e1 r1
        obtain ⟨l2, a2, ws, rfl, rs2, hd2⟩ := items_at R.h e2 r2
        split at g
        · rename_i r er
          obtain ⟨kvs, zk, rk, ln⟩ := pairs_ok er rs1 rs2 (rs := []) rfl
          have sq : ∀ {a : Addr} {ws : List V} {d : D} {zs : List D}, (H2 a = some (.lst ws) ∧ ∃ l, d = .ref l) ∨ (H2 a = some (.tup ws) ∧ d = .tup zs) → SeqA X.K H2 a ws := fun {a ws d zs} h => by
            rcases h with ⟨h, _⟩ | ⟨h, _⟩
            · exact .inl (SqL.of h)
            · exact .inr (SqT.of h)
          refine ⟨a1, a2, us, ws, kvs, rfl, sq hd1, sq hd2, zk, fun p hp => ?_⟩
          have x1 : Ext ρ S H2 (rup ρ S.n p) (S.new (.dic r)) (upd H2 p (.dK (mergeK [] kvs))) := Ext.new R.h.wf hp
          have R1 : Rl Γ X (rup ρ S.n p) env σ1 (S.new (.dic r)) (upd H2 p (.dK (mergeK [] kvs))) := R.new hp ⟨by have : r.length ≤ 0 + xs.length := ln; omega, _, by rw [rup_same, upd_same], rk.ext x1⟩
          exact g.ok _ _ _ R1 x1 ⟨Nat.lt_succ_self _, by rw [rup_same]⟩
        · exact g.elim
      · exact g.elim
end
end
end Ev
end
section
set_option Elab.async false
set_option linter.all false
set_option maxRecDepth 100000
set_option maxHeartbeats 400000
/-! THE TRANSLATION IS SOUND: small lemmas. -/
namespace Ev
noncomputable section
open PySem PySem.Spec PyProof.Rows L2
/-! ### several values -/
theorem evs_one {α : Type} {ev : CE → Env → St → Res D} {a : CE} {v : Env} {S : St} {f : List D → St → Res α} : (evs ev [a] v S).bind f = (ev a v S).bind fun x S1 => f [x] S1 := by
  show ((ev a v S).bind _).bind f = _
  rw [Res.bind_assoc]
  rfl
theorem evs_two {α : Type} {ev : CE → Env → St → Res D} {a b : CE} {v : Env} {S : St} {f : List D → St → Res α} : (evs ev [a, b] v S).bind f = (ev a v S).bind fun x S1 => (ev b v S1).bind fun y S2 => f [x, y] S2 := by
  show ((ev a v S).bind fun x S1 => (evs ev [b] v S1).bind _).bind f = _
  rw [Res.bind_assoc]
  congr 1
  funext x S1
  rw [evs_one, Res.bind_assoc]
  rfl
theorem evs_three {α : Type} {ev : CE → Env → St → Res D} {a b c : CE} {v : Env} {S : St} {f : List D → St → Res α} : (evs ev [a, b, c] v S).bind f = (ev a v S).bind fun x S1 => (ev b v S1).bind fun y S2 => (ev c v S2).bind fun z S3 => f [x, y, z] S3 := by
  show ((ev a v S).bind fun x S1 => (evs ev [b, c] v S1).bind _).bind f = _
  rw [Res.bind_assoc]
  congr 1
  funext x S1
  rw [evs_two]
  show ((ev b v S1).bind _).bind f = _
  rw [Res.bind_assoc]
  congr 1
  funext y S2
  rw [Res.bind_assoc]
  rfl
theorem evs_app {α : Type} {ev : CE → Env → St → Res D} {v : Env} {ys : List CE} : ∀ {xs : List CE} {S : St} {f : List D → St → Res α}, (evs ev (xs ++ ys) v S).bind f = (evs ev xs v S).bind fun a S1 => (evs ev ys v S1).bind fun b S2 => f (a ++ b) S2
  | [], S, f => rfl
  | x :: xs, S, f => by
    show ((ev x v S).bind fun d S1 => (evs ev (xs ++ ys) v S1).bind _).bind f = ((ev x v S).bind fun d S1 => (evs ev xs v S1).bind _).bind _
    rw [Res.bind_assoc, Res.bind_assoc]
    congr 1
    funext d S1
    rw [evs_app, Res.bind_assoc (evs ev xs v S1), Res.bind_assoc (evs ev xs v S1)]
    refine congrArg (Res.bind (evs ev xs v S1)) (funext fun a => funext fun S2 => ?_)
    rw [Res.bind_assoc]
    rfl
/-! ### readings of like things -/
section
variable {Γ : Gm} {X : Cx} {W : WX} {e : Expr} {es : List Expr} {n0 : Nat} {ts : List Nat} {ss : List Stmt} {st : Stmt} {tg : Expr}
theorem pe_eq {f g : EvF D} (p : PE X e (rd Γ X W f)) (h : ∀ v S, g v S = f v S) : PE X e (rd Γ X W g) := by
  have : g = f := funext fun v => funext fun S => h v S
  rw [this]; exact p
theorem pt_eq {f g : EvF Bool} (p : PT X e (rdB Γ X W f)) (h : ∀ v S, g v S = f v S) : PT X e (rdB Γ X W g) := by
  have : g = f := funext fun v => funext fun S => h v S
  rw [this]; exact p
theorem pw_eq {f g : EvF Bool} (p : PW X e (rdB Γ X W f)) (h : ∀ v S, g v S = f v S) : PW X e (rdB Γ X W g) := by
  have : g = f := funext fun v => funext fun S => h v S
  rw [this]; exact p
theorem ps_eq {f g : EvF SO} (p : PS X st (rS Γ X W n0 f)) (h : ∀ v S, g v S = f v S) : PS X st (rS Γ X W n0 g) := by
  have : g = f := funext fun v => funext fun S => h v S
  rw [this]; exact p
theorem pg_eq {f g : D → EvF Env} (p : PG X e (rT Γ X W n0 ts f)) (h : ∀ d v S, g d v S = f d v S) : PG X e (rT Γ X W n0 ts g) := by
  have : g = f := funext fun d => funext fun v => funext fun S => h d v S
  rw [this]; exact p
theorem pi_eq {K : PySem.W.Frag} {f g : EvF Ev.It} (p : PI X tg e (rdG Γ X W (IR0 (Γ := Γ) K) f)) (h : ∀ v S, g v S = f v S) : PI X tg e (rdG Γ X W (IR0 (Γ := Γ) K) g) := by
  have : g = f := funext fun v => funext fun S => h v S
  rw [this]; exact p
theorem pe_no : PE X e (rd Γ X W fun _ _ => .fail) := ⟨fun _ _ _ _ _ _ ⟨_, _, _, _, h⟩ => h.elim⟩
theorem pt_no : PT X e (rdB Γ X W (tst fun _ _ => .fail)) := ⟨fun _ _ _ _ _ _ ⟨_, _, _, _, h⟩ => h.elim⟩
theorem pw_no : PW X e (rdB Γ X W (tst fun _ _ => .fail)) := ⟨fun _ _ _ _ _ _ _ ⟨_, _, _, _, h⟩ => h.elim⟩
theorem pg_no : PG X e (rT Γ X W n0 ts fun _ _ _ => .fail) := ⟨fun _ _ _ _ _ _ _ _ _ ⟨_, _, _, _, _, _, _, _, h⟩ => h.elim⟩
theorem pi_no {K : PySem.W.Frag} : PI X tg e (rdG Γ X W (IR0 (Γ := Γ) K) fun _ _ => .fail) := ⟨fun _ _ _ _ _ _ ⟨_, _, _, _, h⟩ => h.elim⟩
theorem ps_no : PS X st (rS Γ X W n0 fun _ _ => .fail) := ⟨fun _ _ _ _ _ _ ⟨_, _, _, _, _, _, h⟩ => h.elim⟩
end
/-! ### names -/
theorem ixS_get : ∀ {N : List Str} {x : Str} {i : Nat}, ixS N x = some i → N[i]? = some x
  | [], _, _, h => by unfold ixS at h; exact nomatch h
  | y :: r, x, i, h => by
    unfold ixS at h
    cases hd : decide (y = x) with
    | true => rw [hd] at h; cases h; exact congrArg some (of_decide_eq_true hd)
    | false =>
      rw [hd] at h
      dsimp only at h
      split at h
      · rename_i j e
        cases h
        rw [List.getElem?_cons_succ]
        exact ixS_get e
      · exact nomatch h
theorem ix1_get : ∀ {N xs : List Str} {is : List Nat}, ix1 N xs = some is → is.map (fun j => N[j]?) = xs.map some
  | N, [], is, h => by unfold ix1 at h; cases h; rfl
  | N, x :: r, is, h => by
    unfold ix1 at h
    split at h
    · rename_i i js e1 e2
      cases h
      show N[i]? :: _ = some x :: _
      rw [ixS_get e1, ix1_get e2]
    · exact nomatch h
theorem ownIx_get : ∀ {N : List Str} {l : List (Str × NameKind)} {p : Str × Nat}, p ∈ ownIx N l → N[p.2]? = some p.1
  | N, [], p, h => by unfold ownIx at h; simp at h
  | N, (x, k) :: r, p, h => by
    unfold ownIx at h
    split at h
    · split at h
      · rename_i i e
        rcases List.mem_cons.mp h with h | h
        · rw [h]; exact ixS_get e
        · exact ownIx_get h
      · exact ownIx_get h
    · exact ownIx_get h
theorem ixS_none : ∀ {N : List Str} {x : Str}, ixS N x = none → x ∉ N
  | [], x, _ => by simp
  | y :: r, x, h => by
    unfold ixS at h
    cases hd : decide (y = x) with
    | true => rw [hd] at h; exact nomatch h
    | false =>
      rw [hd] at h
      dsimp only at h
      split at h
      · exact nomatch h
      · rename_i e
        have a := ixS_none e
        have b : y ≠ x := of_decide_eq_false hd
        simp only [List.mem_cons, not_or]
        exact ⟨fun e => b e.symm, a⟩
theorem ownIx_all : ∀ {N : List Str} {l : List (Str × NameKind)} {y : Str × NameKind}, y ∈ l → y.2 = .local ∨ y.2 = .cell → y.1 ∈ (ownIx N l).map (·.1) ∨ y.1 ∉ N
  | N, (x, k) :: r, y, h, hk => by
    unfold ownIx
    rcases List.mem_cons.mp h with h | h
    · subst h
      have : (k == NameKind.local || k == NameKind.cell) = true := by
        rcases hk with hk | hk
        · have : k = .local := hk
          subst this; rfl
        · have : k = .cell := hk
          subst this; rfl
      rw [this]
      dsimp only
      cases e : ixS N x with
      | some i => exact .inl (by simp)
      | none => exact .inr (ixS_none e)
    · rcases ownIx_all (N := N) h hk with q | q
      · split
        · split
          · exact .inl (by rw [List.map_cons]; exact List.mem_cons_of_mem _ q)
          · exact .inl q
        · exact .inl q
      · exact .inr q
theorem uniq_get : ∀ {l : List (Str × NameKind)} {y : Str × NameKind}, uniq l = true → y ∈ l → l.lookup y.1 = some y.2
  | (x, k) :: r, y, h, m => by
    unfold uniq at h
    split at h
    · rename_i e
      rcases List.mem_cons.mp m with m | m
      · subst m; simp
      · have ih := uniq_get h m
        rw [List.lookup_cons]
        cases hx : y.1 == x with
        | false => exact ih
        | true =>
          rw [beq_iff_eq] at hx
          rw [hx, e] at ih
          exact nomatch ih
    · exact nomatch h
theorem freeOk_get {sc : Scope} : ∀ {l : List (Str × NameKind)} {y : Str × NameKind}, freeOk sc l = true → y ∈ l → y.2 = .free → sc.names.lookup y.1 = some .cell ∨ sc.names.lookup y.1 = some .free
  | (x, k) :: r, y, h, m, hy => by
    unfold freeOk at h
    rcases List.mem_cons.mp m with m | m
    · subst m
      have : k = .free := hy
      subst this
      dsimp only at h
      split at h
      · rename_i e; exact .inl e
      · rename_i e; exact .inr e
      · exact nomatch h
    · have : freeOk sc r = true := by
        split at h
        · split at h
          · exact h
          · exact h
          · exact nomatch h
        · exact h
      exact freeOk_get this m hy
theorem subIx_get : ∀ {is js : List Nat}, subIx is js = true → ∀ i ∈ is, i ∈ js
  | [], js, _, i, h => by simp at h
  | j :: r, js, h, i, m => by
    unfold subIx at h
    split at h
    · rename_i e
      rcases List.mem_cons.mp m with m | m
      · subst m; simpa using e
      · exact subIx_get h i m
    · exact nomatch h
theorem okN_get {x : Str} (h : okN x = true) : (x == ("__debug__" : Str)) = false ∧ (x == ("__classdict__" : Str)) = false ∧ x ≠ "__name__" := by
  unfold okN at h
  simp only [Bool.and_eq_true, Bool.not_eq_true'] at h
  exact ⟨h.1, h.2.1, by simpa using h.2.2⟩
theorem base_ok {o : Expr} {f : Str} {env : PySem.Env} (h : baseOk o = true) : attributeBase o f env (eval o env) = eval o env := by
  unfold attributeBase
  split
  · exact nomatch h
  · rfl
theorem plainIx_of {b : Expr} (h : ∀ l u s p, b ≠ .Slice l u s p) : PlainIx b := by
  intro o i
  unfold subscripted
  split
  · exact absurd rfl (h _ _ _ _)
  · rename_i e; exact nomatch e
  · rfl
theorem lamIx_get {a : Arguments} {b : Expr} {sc : Scope} {p : Pos} {i : Nat} : ∀ {l : List (Nat × Expr)}, lamIx a b sc p l = some i → (i, Expr.Lambda a b sc p) ∈ l
  | [], h => by unfold lamIx at h; exact nomatch h
  | (j, e) :: r, h => by
    unfold lamIx at h
    split at h
    · rename_i h0; exact nomatch h0
    · rename_i a' b' sc' p' l' he
      cases he
      split at h
      · split at h
        · rename_i q1 q2 q3 q4 _ _ _ _
          cases h
          subst q1 q2 q3 q4
          exact List.mem_cons_self
        · exact nomatch h
      · exact List.mem_cons_of_mem _ (lamIx_get h)
    · rename_i q l' hne he
      cases he
      exact List.mem_cons_of_mem _ (lamIx_get h)
end
end Ev
end
section
set_option Elab.async false
set_option linter.all false
set_option maxRecDepth 100000
set_option maxHeartbeats 400000
/-! THE TRANSLATION IS SOUND: what the world, the context must be. -/
namespace Ev
noncomputable section
open PySem PySem.Spec PyProof.Rows L2 LamX
def bNames : List Str := tyL.map (·.1) ++ (callL.map (·.1.1) ++ [("range" : Str), "enumerate", "zip", "dict"])
structure WOk (Γ : Gm) : Prop where
  ck : ClsOk Γ
  xc : XcOk Γ
  ex : ExmOk Γ
  con : ∀ x d, Γ.gl.lookup x = some (.con d) → ∃ v u, Γ.mg x = some u ∧ RelV v u ∧ ∀ (ρ : Nat → Addr) (n : Nat) (H : Hp), RD Γ ρ n H d v
  df : ∀ x i ps, Γ.gl.lookup x = some (.df i ps) → Γ.mg x = some (.ref (Γ.fnA i)) ∧ ps.map (·.1) = Γ.psn i
  cl : ∀ x i ps, Γ.gl.lookup x = some (.cl i ps) → Γ.mg x = some (.ref (Γ.clA i))
  bl : ∀ x ∈ bNames, Γ.gl.lookup x = none → Γ.mg x = none
  mkc : ∀ x i f d, Γ.gl.lookup x = some (.cl i [(f, d)]) → MkC Γ 1 i f 1 [] ∧ MkC Γ 1 i f 0 [f]
  sys : ∃ o, Γ.base.get? sysModules = some o
abbrev eDrw (fa fb : EvF D) : EvF D := fun v S => (fa v S).bind fun x S1 => (fb v S1).bind fun m S2 => match x, m with
    | .ref l, .int (.ofNat k) => match S2.get l with
      | some .opq => match Nat.blt k 1000000 with
        | true => .draw k fun d => .ok (.int (.ofNat d)) S2
        | false => .fail
      | _ => .fail
    | _, _ => .fail
abbrev ePot (fa fb : EvF D) : EvF D := fun v S => (fa v S).bind fun x S1 => (fb v S1).bind fun m S2 => match x, m with
    | .ref l, .int (.ofNat _) => match S2.get l with
      | some .scr => .ok (.ref S2.n) (S2.new .opq)
      | some .scF => .ok (.ref S2.n) (S2.new .opq)
      | _ => .fail
    | _, _ => .fail
/-- the law's drawing -/
structure DrwOk (Γ : Gm) (k : Nat) : Prop where
  drw : ∀ (X : Cx) (W : WX) (p pos : Pos) (a b : Expr) (fa fb : EvF D), XG Γ X → Room k X.A → X.A.guards = some [] → L2N.Takes X W → L2.Gl X "_law_draw" → PE X a (rd Γ X W fa) → PE X b (rd Γ X W fb) → noStar [a, b] = true → PE X (.Call (.Name "_law_draw" p) [a, b] [] pos) (rd Γ X W (eDrw fa fb))
  pot : ∀ (X : Cx) (W : WX) (p pos : Pos) (a b : Expr) (fa fb : EvF D), XG Γ X → Room k X.A → X.A.guards = some [] → L2N.Takes X W → L2.Gl X "_law_pot" → PE X a (rd Γ X W fa) → PE X b (rd Γ X W fb) → noStar [a, b] = true → PE X (.Call (.Name "_law_pot" p) [a, b] [] pos) (rd Γ X W (ePot fa fb))
/-- the callees -/
structure CfK (Γ : Gm) (k : Nat) (cf : CallF) : Prop where
  sh : ShpOk Γ
  df : DfOk Γ k cf
  lm : LmOk Γ k cf
  ix : ∀ (i : Nat) (ds : List D) (S : St) (P : D → St → Prop) (E : Nat → List (Str × D) → St → Prop), (cf (.df i) ds S).All P E → ds.length = (Γ.psn i).length ∧ ∀ us : List Value, us.length = (Γ.psn i).length → bindArgs (Γ.fd i) ⟨us, []⟩ = pure ((Γ.psn i).zip us)
  kp : ∀ i : Nat, PySem.W.keepIn Γ.K (.ref (Γ.fnA i)) = true
  k2 : 2 ≤ k
/-- a lambda's text in its def -/
structure LamB (Γ : Gm) (X : Cx) (i : Nat) (e : Expr) : Prop where
  is : ∃ (pos : Pos) (c P : Addr) (nm : Nat → Nat → Str), e = .Lambda (Γ.lam i).params (Γ.lam i).body (Γ.lam i).scope pos ∧ TabB X.base X.mg c P ∧ X.env.code = .ref c ∧ X.env.qual = (Γ.lam i).qual ∧ (P, nm) ∈ Γ.T ∧ nm pos.line pos.col = (Γ.lam i).q ∧
    (∀ p ∈ Γ.T, p.1 = P → p.2 = nm) ∧ defaultsOf (Γ.lam i).params X.env = ([], []) ∧ (Γ.lam i).fr = freeOf (Γ.lam i).scope
structure Cool (Γ : Gm) (k : Nat) (cf : CallF) (C : CC) (X : Cx) (W : WX) : Prop where
  calm : X.calm = true
  cf : CfK Γ k cf
  room : Room k X.A
  fr : C.blk = false → X.stack = X.env :: X.outer ∧ X.env.frame = some X.env.locals ∧ PassesOwn (model X.prog X.w) X.A X.env X.xe
  lam : C.blk = false → ∀ i e, (i, e) ∈ C.lamT → LamB Γ X i e
  dr : C.drw = true → DrwOk Γ k
structure XOk (Γ : Gm) (k : Nat) (cf : CallF) (C : CC) (X : Cx) (W : WX) : Prop where
  wd : WOk Γ
  g : XG Γ X
  tk : L2N.Takes X W
  gl : C.gl = Γ.gl
  shp : ∀ q ∈ C.shp, q ∈ Γ.shp
  N : X.N = C.N
  nd : X.N.Nodup
  kd : X.env.scope.kind = .function
  loc : ∀ x, C.sc.names.lookup x = some .local → X.env.scope.names.lookup x = some .local
  cel : ∀ x, C.sc.names.lookup x = some .cell → X.env.scope.names.lookup x = some .cell ∧ X.fn x = true
  fre : ∀ x, C.sc.names.lookup x = some .free → X.env.scope.names.lookup x = some .cell ∨ X.env.scope.names.lookup x = some .free
  glb : ∀ x, C.sc.names.lookup x = some .globalImplicit → X.env.scope.names.lookup x = some .globalImplicit
  u : X.A.units + 100 < cLine
  gd : X.A.guards = some []
  un : UnpT X
  cool : C.hot = none → Cool Γ k cf C X W
  hot : ∀ z, C.hot = some z → ∃ (X0 : Cx) (a : Addr) (oe : Obj) (pn : List (Addr × Obj)), X = X0.suite a ((a, oe) :: pn)
section
variable {Γ : Gm} {k : Nat} {cf : CallF} {C : CC} {X : Cx} {W : WX} {x : Str} {i : Nat}
theorem XOk.var (o : XOk Γ k cf C X W) (h : nmK C x = some (.var i)) : X.N[i]? = some x ∧ Vis X.env.scope x ∧ (x == ("__debug__" : Str)) = false ∧ (x == ("__classdict__" : Str)) = false := by
  unfold nmK at h
  split at h
  · exact nomatch h
  · rename_i e
    have q := okN_get e
    have ix : ∀ {j : Option Nat}, j.map NK.var = some (.var i) → j = some i := fun {j} h => by
      cases j with
      | none => exact nomatch h
      | some j => cases h; rfl
    split at h
    · rename_i e; exact ⟨by rw [o.N]; exact ixS_get (ix h), .inl (o.loc _ e), q.1, q.2.1⟩
    · rename_i e; exact ⟨by rw [o.N]; exact ixS_get (ix h), .inr (.inl (o.cel _ e).1), q.1, q.2.1⟩
    · rename_i e; exact ⟨by rw [o.N]; exact ixS_get (ix h), .inr (o.fre _ e), q.1, q.2.1⟩
    · exact nomatch h
    · exact nomatch h
theorem XOk.glob (o : XOk Γ k cf C X W) (h : nmK C x = some .glb) : L2.Gl X x ∧ (x == ("__debug__" : Str)) = false ∧ x ≠ "__name__" := by
  unfold nmK at h
  split at h
  · exact nomatch h
  · rename_i e
    have q := okN_get e
    have no : ∀ {j : Option Nat}, j.map NK.var ≠ some .glb := fun {j} h => by
      cases j with
      | none => exact nomatch h
      | some j => exact nomatch h
    split at h
    · exact absurd h no
    · exact absurd h no
    · exact absurd h no
    · rename_i e; exact ⟨o.glb _ e, q.1, q.2.2⟩
    · exact nomatch h
theorem XOk.blt (o : XOk Γ k cf C X W) (h : bltn C x = true) : L2.Gl X x ∧ (x == ("__debug__" : Str)) = false ∧ x ≠ "__name__" ∧ (x ∈ bNames → X.mg x = none) := by
  unfold bltn at h
  split at h
  · rename_i e
    split at h
    · rename_i e2
      have q := o.glob e
      exact ⟨q.1, q.2.1, q.2.2, fun hb => by rw [o.g.mg]; exact o.wd.bl x hb (by rw [← o.gl]; exact e2)⟩
    · exact nomatch h
  · exact nomatch h
theorem tyBoot : ∀ q ∈ tyL, bootBuiltins q.1 = some (.type (tyS q.2)) := by
  intro q h
  simp only [tyL, List.mem_cons, List.mem_nil_iff, or_false] at h
  rcases h with h | h | h | h | h | h | h | h | h | h <;> subst h <;> rfl
/-- a module's name as a value -/
theorem XOk.globV {pos : Pos} {d : D} (o : XOk Γ k cf C X W) (h : nmK C x = some .glb) (hd : globD C x = some d) : PE X (.Name x pos) (rd Γ X W fun _ S => .ok d S) := by
  have q := o.glob h
  unfold globD at hd
  rw [o.gl] at hd
  split at hd
  · rename_i c e
    cases hd
    obtain ⟨v, u, a, b, r⟩ := o.wd.con _ _ e
    exact x_lit (pe_glob q.1 (by rw [o.g.mg]; exact a) b q.2.1) r
  · rename_i j ps e
    cases hd
    exact x_lit (v := .ref (Γ.fnA j)) (pe_glob q.1 (by rw [o.g.mg]; exact (o.wd.df _ _ _ e).1) rfl q.2.1) fun _ _ _ => rfl
  · rename_i j ps e
    cases hd
    exact x_lit (v := .ref (Γ.clA j)) (pe_glob q.1 (by rw [o.g.mg]; exact o.wd.cl _ _ _ e) rfl q.2.1) fun _ _ _ => rfl
  · rename_i e
    cases ht : tyNo x with
    | none => rw [ht] at hd; exact nomatch hd
    | some t =>
      rw [ht] at hd
      cases hd
      have m : (x, t) ∈ tyL := PySem.mem_of_lookup ht
      have hb : x ∈ bNames := List.mem_append_left _ (List.mem_map.mpr ⟨_, m, rfl⟩)
      exact x_lit (v := .ty (tyS t)) (pe_bltn q.1 (by rw [o.g.mg]; exact o.wd.bl x hb e) (tyBoot _ m) rfl q.2.2 q.2.1) fun _ _ _ => rfl
end
end
end Ev
end
section
set_option Elab.async false
set_option linter.all false
set_option maxRecDepth 100000
set_option maxHeartbeats 400000
/-! WHAT IS WALKED: enumerate, zip; ranges as lists. -/
namespace Ev
noncomputable section
open PySem PySem.Spec PyProof.Rows L2
section
variable {Γ : Gm} {X : Cx} {W : WX} {pos : Pos} {ρ : Nat → Addr} {env : Env} {σ : L2.St} {S : St} {H : Hp}
abbrev iEnm (fe : EvF D) : EvF Ev.It := fun v S => (fe v S).bind fun x S1 => match iter S1 x with
  | some t => .ok (.enm 0 t) S1
  | none => .fail
/-- a list or a tuple: what is walked -/
theorem iter_of {d : D} {x : V} {t : Ev.It} (R : Rl Γ X ρ env σ S H) (h : iter S d = some t) (r : RD Γ ρ S.n H d x) :
    (∃ l xs, d = .ref l ∧ t = .lst l 0 ∧ l < S.n ∧ x = .ref (ρ l) ∧ SqL X.K H (ρ l) xs) ∨ ∃ a xs ys, t = .seq xs ∧ x = .ref a ∧ H a = some (.tup ys) ∧ RDs Γ ρ S.n H xs ys ∧ SqT X.K H a ys := by
  unfold iter at h
  split at h
  · cases h
    obtain ⟨_, a, ys, rfl, ha, rs⟩ := rd_tup r
    exact .inr ⟨a, _, ys, rfl, rfl, ha, rs, SqT.of ha⟩
  · obtain ⟨hl, rfl⟩ := rd_ref r
    split at h
    · rename_i xs e
      cases h
      obtain ⟨_, ys, hd, rs⟩ := lst_of R e
      exact .inl ⟨_, ys, rfl, rfl, hl, rfl, SqL.of hd⟩
    · cases h
  · cases h
theorem i_enm {e : Expr} {fe : EvF D} {elts : List Expr} {kk : Nat} {tpos p : Pos} (hg : L2.Gl X "enumerate") (hm : X.mg "enumerate" = none) (he : PE X e (rd Γ X W fe)) (hst : noStar [e] = true) :
    PI X (.Tuple elts kk tpos) (.Call (.Name "enumerate" p) [e] [] pos) (rdG Γ X W (IR0 (Γ := Γ) X.K) (iEnm fe)) :=
  (pi_enumA hg hm (x_cons he x_nil (noStar_tail hst).2) (by rw [star_off (noStar_tail hst).2]; rfl)).wk fun σ H R h => by
    obtain ⟨ρ, env, S, hl, h⟩ := h
    refine ⟨ρ, env, S, hl, Res.All.unbind (h.bind.mono (fun x S1 h1 => ?_) fun _ _ _ z => z)⟩
    intro ρ' H' vs R1 e1 rs
    obtain ⟨y, t, rfl, r1, r2⟩ := (show ∃ y r, vs = y :: r ∧ RD Γ ρ' S1.n H' x y ∧ RDs Γ ρ' S1.n H' [] r from rs)
    have r2 : t = [] := r2
    subst r2
    split at h1
    · rename_i t et
      rcases iter_of R1 et r1 with ⟨l, xs, rfl, rfl, lt, rfl, sq⟩ | ⟨a, xs, ys, rfl, rfl, ha, rs2, sq⟩
      · exact ⟨_, rfl, .inl ⟨xs, sq, h1 ρ' H' _ R1 e1 ⟨rfl, rfl, lt, rfl⟩⟩⟩
      · exact ⟨_, rfl, .inr ⟨ys, sq, h1 ρ' H' _ R1 e1 ⟨rfl, a, ys, rfl, ha, rs2, Nat.zero_le _⟩⟩⟩
    · exact h1.elim
abbrev iZip (fa fb : EvF D) : EvF Ev.It := fun v S => (fa v S).bind fun x S1 => (fb v S1).bind fun y S2 => match iter S2 x, iter S2 y with
    | some (.seq t), some (.seq u) => .ok (.zip (.seq t) (.seq u)) S2
    | some (.lst t i), some (.lst u j) => .ok (.zip (.lst t i) (.lst u j)) S2
    | _, _ => .fail
theorem i_zip {a b : Expr} {fa fb : EvF D} {elts : List Expr} {kk : Nat} {tpos p : Pos} (hg : L2.Gl X "zip") (hm : X.mg "zip" = none) (ha : PE X a (rd Γ X W fa)) (hb : PE X b (rd Γ X W fb)) (hst : noStar [a, b] = true) :
    PI X (.Tuple elts kk tpos) (.Call (.Name "zip" p) [a, b] [] pos) (rdG Γ X W (IR0 (Γ := Γ) X.K) (iZip fa fb)) :=
  (RZ.pi_zipA hg hm (pa_cons ha (pa_cons hb pa_nil (star_off (noStar_tail (noStar_tail hst).1).2)) (star_off (noStar_tail hst).2)) (star_off (noStar_tail hst).2) (plain_any (noStar_tail hst).1)).wk fun σ H R h =>
    (rd_two h).mono fun x H1 h1 => h1.mono fun y H2 ⟨ρ, env, S, d1, d2, R1, r1, r2, g⟩ => by
      split at g
      · rename_i t u e1 e2
        rcases iter_of R1 e1 r1 with ⟨l, xs, rfl, et, lt, rfl, sq⟩ | ⟨a1, xs, ys, et, rfl, ha1, rs1, sq1⟩
        · exact nomatch et
        · rcases iter_of R1 e2 r2 with ⟨l, xs, rfl, et2, lt, rfl, sq⟩ | ⟨a2, xs2, ys2, et2, rfl, ha2, rs2, sq2⟩
          · exact nomatch et2
          · cases et; cases et2
            exact ⟨a1, a2, ys, ys2, rfl, .inr ⟨sq1, sq2, rd_end (R := IR0 (Γ := Γ) X.K) R1 g ⟨a1, a2, ys, ys2, rfl, ha1, rs1, Nat.zero_le _, ha2, rs2, Nat.zero_le _⟩⟩⟩
      · rename_i t i u j e1 e2
        rcases iter_of R1 e1 r1 with ⟨l, xs, rfl, et, lt, rfl, sq⟩ | ⟨a1, xs, ys, et, rfl, ha1, rs1, sq1⟩
        · rcases iter_of R1 e2 r2 with ⟨l2, xs2, rfl, et2, lt2, rfl, sq2⟩ | ⟨a2, xs2, ys2, et2, rfl, ha2, rs2, sq2⟩
          · cases et; cases et2
            exact ⟨_, _, xs, xs2, rfl, .inl ⟨sq, sq2, rd_end (R := IR0 (Γ := Γ) X.K) R1 g ⟨rfl, lt, rfl, lt2, rfl⟩⟩⟩
          · exact nomatch et2
        · exact nomatch et
      · exact g.elim
/-! ### ranges as lists, tuples -/
theorem rng_rgV {ρ : Nat → Addr} {n : Nat} {H : Hp} : ∀ {m : Nat} {a : Int}, RDs Γ ρ n H (rng a m) ((List.range m).map fun i => V.int (a + (i : Nat)))
  | 0, a => rfl
  | m + 1, a => by
    unfold rng
    rw [List.range_succ_eq_map, List.map_cons, List.map_map]
    refine RDs.cons (by show V.int (a + ((0 : Nat) : Int)) = V.int a; simp) ?_
    have e : ((fun i : Nat => V.int (a + (i : Nat))) ∘ Nat.succ) = fun i : Nat => V.int (a + 1 + (i : Nat)) := by
      funext i
      show V.int (a + ((i + 1 : Nat) : Int)) = V.int (a + 1 + (i : Nat))
      congr 1
      omega
    rw [e]
    exact rng_rgV
theorem rng_len : ∀ {m : Nat} {a : Int}, (rng a m).length = m
  | 0, a => rfl
  | m + 1, a => by unfold rng; rw [List.length_cons, rng_len]
theorem rg_ok {i j : Int} (h : (Nat.ble (j - i).toNat 100000 && small62 i && small62 j) = true) : RgOk i j ∧ (j - i).toNat ≤ 100000 := by
  simp only [Bool.and_eq_true] at h
  have a := Nat.le_of_ble_eq_true h.1.1
  obtain ⟨b1, b2⟩ := small62_lt h.1.2
  obtain ⟨c1, c2⟩ := small62_lt h.2
  exact ⟨⟨b1, b2, c1, c2, by omega⟩, a⟩
theorem rg_ok1 {j : Int} (h : (Nat.ble j.toNat 100000 && small62 j) = true) : RgOk 0 j ∧ (j - 0).toNat ≤ 100000 := by
  simp only [Bool.and_eq_true] at h
  have a := Nat.le_of_ble_eq_true h.1
  obtain ⟨c1, c2⟩ := small62_lt h.2
  exact ⟨⟨by omega, by omega, c1, c2, by omega⟩, by omega⟩
variable {a b : Expr} {fa fb : EvF D} {p p2 q2 : Pos}
theorem x_tR1 (hc : X.calm = true) (hg : L2.Gl X "tuple") (hm : X.mg "tuple" = none) (hg2 : L2.Gl X "range") (hm2 : X.mg "range" = none) (ha : PE X a (rd Γ X W fa)) (hst : noStar [a] = true) :
    PE X (.Call (.Name "tuple" p) [.Call (.Name "range" p2) [a] [] q2] [] pos) (rd Γ X W (e1 Γ.G .tR1 fa)) :=
  (pe_tupRg hc hg hm (prg_1 hg2 hm2 ha (star_off (noStar_tail hst).2))).wk fun σ H Q h => (rd_e1 h).mono fun x H1 q => by
    obtain ⟨ρ, env, σ1, S, d1, R, r1, g⟩ := q.one
    simp only [primF, p_tR1] at g
    split at g
    · rename_i j e
      cases e
      split at g
      · rename_i hs
        cases rd_int r1
        obtain ⟨ok, le⟩ := rg_ok1 hs
        refine ⟨_, rfl, ok, fin_tup R g (by rw [rng_len]; omega) ?_⟩
        unfold rgV
        rw [show (j - 0).toNat = j.toNat by simp]
        exact rng_rgV
      · exact g.elim
    · exact g.elim
theorem x_lR1 (hc : X.calm = true) (hg : L2.Gl X "list") (hm : X.mg "list" = none) (hg2 : L2.Gl X "range") (hm2 : X.mg "range" = none) (ha : PE X a (rd Γ X W fa)) (hst : noStar [a] = true) :
    PE X (.Call (.Name "list" p) [.Call (.Name "range" p2) [a] [] q2] [] pos) (rd Γ X W (e1 Γ.G .lR1 fa)) :=
  (pe_listRg hc hg hm (prg_1 hg2 hm2 ha (star_off (noStar_tail hst).2))).wk fun σ H Q h => (rd_e1 h).mono fun x H1 q => by
    obtain ⟨ρ, env, σ1, S, d1, R, r1, g⟩ := q.one
    simp only [primF, p_lR1] at g
    split at g
    · rename_i j e
      cases e
      split at g
      · rename_i hs
        cases rd_int r1
        obtain ⟨ok, le⟩ := rg_ok1 hs
        refine ⟨_, rfl, ok, fin_lst R g (by rw [rng_len]; omega) ?_⟩
        unfold rgV
        rw [show (j - 0).toNat = j.toNat by simp]
        exact rng_rgV
      · exact g.elim
    · exact g.elim
theorem x_tR2 (hc : X.calm = true) (hg : L2.Gl X "tuple") (hm : X.mg "tuple" = none) (hg2 : L2.Gl X "range") (hm2 : X.mg "range" = none) (ha : PE X a (rd Γ X W fa)) (hb : PE X b (rd Γ X W fb)) (hst : noStar [a, b] = true) :
    PE X (.Call (.Name "tuple" p) [.Call (.Name "range" p2) [a, b] [] q2] [] pos) (rd Γ X W (e2 Γ.G .tR2 fa fb)) :=
  (pe_tupRg hc hg hm (prg_2 hg2 hm2 ha hb (star_off (noStar_tail hst).2) (star_off (noStar_tail (noStar_tail hst).1).2) (plain_any (noStar_tail hst).1))).wk fun σ H Q h => (rd_e2 h).mono fun x H1 q => q.mono fun y H2 q => by
    obtain ⟨ρ, env, σ1, S, d1, d2, R, r1, r2, g⟩ := q.two
    simp only [primF, p_tR2] at g
    split at g
    · rename_i i j e
      cases e
      split at g
      · rename_i hs
        cases rd_int r1
        cases rd_int r2
        obtain ⟨ok, le⟩ := rg_ok hs
        exact ⟨_, _, rfl, rfl, ok, fin_tup R g (by rw [rng_len]; omega) rng_rgV⟩
      · exact g.elim
    · exact g.elim
theorem x_lR2 (hc : X.calm = true) (hg : L2.Gl X "list") (hm : X.mg "list" = none) (hg2 : L2.Gl X "range") (hm2 : X.mg "range" = none) (ha : PE X a (rd Γ X W fa)) (hb : PE X b (rd Γ X W fb)) (hst : noStar [a, b] = true) :
    PE X (.Call (.Name "list" p) [.Call (.Name "range" p2) [a, b] [] q2] [] pos) (rd Γ X W (e2 Γ.G .lR2 fa fb)) :=
  (pe_listRg hc hg hm (prg_2 hg2 hm2 ha hb (star_off (noStar_tail hst).2) (star_off (noStar_tail (noStar_tail hst).1).2) (plain_any (noStar_tail hst).1))).wk fun σ H Q h => (rd_e2 h).mono fun x H1 q => q.mono fun y H2 q => by
    obtain ⟨ρ, env, σ1, S, d1, d2, R, r1, r2, g⟩ := q.two
    simp only [primF, p_lR2] at g
    split at g
    · rename_i i j e
      cases e
      split at g
      · rename_i hs
        cases rd_int r1
        cases rd_int r2
        obtain ⟨ok, le⟩ := rg_ok hs
        exact ⟨_, _, rfl, rfl, ok, fin_lst R g (by rw [rng_len]; omega) rng_rgV⟩
      · exact g.elim
    · exact g.elim
end
end
end Ev
end
section
set_option Elab.async false
set_option linter.all false
set_option maxRecDepth 100000
set_option maxHeartbeats 400000
/-! SORTED over tuples, the first one empty. -/
namespace PySem
namespace EvK
open PySem.W PySem.SeqAt PyProof.Rows
section
variable {prog : Program} {w : World} {A : Around} {E : Value → Shared → Prop} {s : Shared}
theorem call_tuple_lt {Q : Value → Shared → Prop} {l b : Addr} {items items2 : Array Value} {e r : Nat → Bool} (hl : s.heap.IsTuple l items) (hb : s.heap.IsTuple b items2)
    (he : ∀ j (h1 : j < items.size) (h2 : j < items2.size), EqAt A.in1 s items[j] items2[j] (e j)) (hr : ∀ j (h1 : j < items.size) (h2 : j < items2.size), e j = false → RcLt A.in1 s items[j] items2[j] (r j))
    (h : Q (.bool (firstLt e r (decide (items.size < items2.size)) (List.range (min items.size items2.size)))) s) : wpAny (model prog w) A (call (.builtin "tuple.__lt__") [.ref l, .ref b]) Q E s := by
  obtain ⟨⟨cls, dd, data, sl⟩, ho, hc, n, hd⟩ := id hl
  obtain ⟨⟨cls2, dd2, data2, sl2⟩, ho2, hc2, n2, hd2⟩ := id hb
  simp only at hc hd hc2 hd2
  subst hc hd hc2 hd2
  exact call_meets F.slot_tuple_lt ⟨_, ho, rfl⟩ F.entry_tuple_lt (F.args_tuple_lt_2 _ _) (tuple_ltAt l b items items2 n n2 dd dd2 sl sl2 e r) ⟨ho, ho2, he, hr, h⟩
/-- two tuples, as sorting compares them -/
theorem oneLt_tup {xs ys : List PyData} {a b : Value} {as bs : List Addr} {Q : Bool → Shared → Prop} (ra : Reads s.heap a (.tuple xs) as) (rb : Reads s.heap b (.tuple ys) bs) (h : alike (.tuple xs) (.tuple ys) = true)
    (hu : A.units + min (PyData.tuple xs).depth (PyData.tuple ys).depth < cLine) (hq : Q (dataLt (.tuple xs) (.tuple ys)) s) : wpAny (model prog w) A (oneLt' true a b) Q E s := by
  have hal : alikeAll xs ys = true := by simpa [alike] using h
  cases ra with
  | @tuple l o vs n _ as₁ h1 h2 h3 h4 =>
    cases rb with
    | @tuple l' o' vs' n' _ bs₁ k1 k2 k3 k4 =>
      have n1 : vs.size = xs.length := by simpa using ReadsAll.length _ _ _ h4
      have n2 : vs'.size = ys.length := by simpa using ReadsAll.length _ _ _ k4
      rw [dataLt_tuple, ← firstLt_toks xs ys hal, ← n1, ← n2] at hq
      rw [oneLt'_eq]
      simp only [if_true]
      refine wpAny_bind (wpAny_cRoomFor (room_here hu) ?_)
      refine wpAny_bind (wpAny_callSpecialIfBound?_slot (T := "tuple") ⟨_, h1, h2⟩ F.slot_tuple_lt (call_tuple_lt (e := pairEq xs ys) (r := fun j => dataLt (xs.getD j .none) (ys.getD j .none)) ⟨_, h1, h2, _, h3⟩ ⟨_, k1, k2, _, k3⟩ (fun j j1 j2 => ?_) (fun j j1 j2 hj => ?_) ?_))
      · have := eqAt_alikeAll xs ys A.in1 s vs.toList vs'.toList _ _ h4 k4 hal (room_in hu) j (by simpa using j1) (by simpa using j2)
        simpa using this
      · have := rcLt_alikeAll xs ys A.in1 s vs.toList vs'.toList _ _ h4 k4 hal (room_in hu) j (by simpa using j1) (by simpa using j2) hj
        simpa using this
      · exact wpAny_truthy_bool hq
theorem mapM_each {α β : Type} {M : Model} {f : α → Sem β} {g : α → β} : ∀ (l : List α) {Q : List β → Shared → Prop}, (∀ v ∈ l, ∀ (Q' : β → Shared → Prop), Q' (g v) s → wpAny M A (f v) Q' E s) → Q (l.map g) s → wpAny M A (l.mapM f) Q E s
  | [], _, _, h => by rw [List.mapM_nil]; exact wpAny_pure h
  | x :: l, Q, hf, h => by
    rw [List.mapM_cons]
    exact wpAny_bind (hf x (.head _) _ (wpAny_bind (mapM_each l (Q := fun bs s' => wpAny M A (pure (g x :: bs)) Q E s') (fun v hv => hf v (.tail _ hv)) (wpAny_pure h))))
/-- the first item of what stands there -/
def firstIn (h : Heap) : Value → Option Value
  | .ref a => match h.get? a with
    | some o => match o.data with
      | .seq xs _ => xs[0]?
      | _ => none
    | none => none
  | _ => none
theorem kind_tup0 {v0 v1 : Value} {vs : List Value} {Q : SortKind → Shared → Prop} (hT : ∀ v ∈ v0 :: v1 :: vs, ∃ (a : Addr) (its : Array Value), v = .ref a ∧ s.heap.IsTuple a its) (h0 : firstIn s.heap v0 = none) (h : Q oneType' s) :
    wpAny (model prog w) A (keyKind' (v0 :: v1 :: vs).toArray) Q E s := by
  have look : ∀ v ∈ v0 :: v1 :: vs, Looks (model prog w) s.heap (typeOf v) (.type "tuple") := fun v hv => by
    obtain ⟨a, its, rfl, o, ho, hc, n, hd⟩ := hT v hv
    exact hc ▸ (Looks.ld ho).andThen .now
  rw [keyKind'_eq, List.mapM_toArray, map_eq_pure_bind]
  refine wpAny_bind (wpAny_bind (mapM_each (g := firstIn s.heap) _ (fun v hv Q' hq => ?_) (wpAny_pure ?_)))
  · rw [kas_first_eq]
    obtain ⟨a, its, rfl, o, ho, hc, n, hd⟩ := hT v hv
    refine wpAny_bind ((look _ hv).here ?_)
    rw [if_neg (by decide)]
    refine wpAny_bind (listItems_at ho hd ?_)
    have e : firstIn s.heap (.ref a) = its[0]? := by
      unfold firstIn
      dsimp only
      rw [ho]
      dsimp only
      rw [hd]
    rw [e] at hq
    exact wpAny_pure hq
  · rw [if_neg (by simp [h0]), if_neg (by simp [h0])]
    rw [oneTypeOnly'_eq, List.mapM_toArray, map_eq_pure_bind]
    refine wpAny_bind (wpAny_bind (wpAny_bind (kas_mapM (r := Value.type "tuple") _ (fun v hv Q' hq => (look v hv).here hq) (wpAny_pure ?_))))
    have hall : ((List.map (fun _ => Value.type "tuple") (v0 :: v1 :: vs)).toArray.all fun x => x == Value.type "tuple") = true := by
      simp only [List.all_toArray, List.all_map, List.all_eq_true]
      intro _ _
      exact beq_self_eq_true _
    have h0 : (List.map (fun _ => Value.type "tuple") (v0 :: v1 :: vs)).toArray[0]? = some (Value.type "tuple") := by simp
    rw [h0]
    simp only [hall, if_true]
    exact wpAny_pure (wpAny_pure h)
/-- tuples, the first one empty, can be sorted -/
theorem sortsAt_tup0 {vs : List Value} {ds : List PyData} (e : EachIs (fun v d => ∃ as, Reads s.heap v d as) vs (.tuple [] :: ds)) (hal : AllAlike (.tuple [] :: ds)) (ht : ∀ d ∈ ds, ∃ xs, d = .tuple xs) (hu : ∀ d, d ∈ PyData.tuple [] :: ds → A.units + d.depth < cLine) :
    SortsAt prog w A s (dataKind s.heap (.tuple [] :: ds)) vs := by
  have room : ∀ {d d' : PyData}, d ∈ PyData.tuple [] :: ds → A.units + min d.depth d'.depth < cLine := fun {d d'} hd => Nat.lt_of_le_of_lt (Nat.add_le_add_left (Nat.min_le_left _ _) _) (hu d hd)
  have ht' : ∀ d ∈ PyData.tuple [] :: ds, ∃ xs, d = .tuple xs := fun d hd => by
    rcases List.mem_cons.mp hd with rfl | hd
    · exact ⟨[], rfl⟩
    · exact ht d hd
  refine ⟨fun v hv => ?_, oneType', ?_, fun h2 E Q hq => ?_⟩
  · obtain ⟨d, hd, as, r⟩ := e.left v hv
    exact ⟨_, dataKind_some hal hd r⟩
  · intro E x y a b Q ha hb hq
    obtain ⟨d, as, hd, ra, rfl⟩ := dataKind_inv ha
    obtain ⟨d', as', hd', rb, rfl⟩ := dataKind_inv hb
    obtain ⟨xs, rfl⟩ := ht' d hd
    obtain ⟨ys, rfl⟩ := ht' d' hd'
    rw [keyLt'_oneType]
    exact oneLt_tup ra rb (hal _ hd _ hd') (room hd) hq
  · have tup : ∀ v ∈ vs, ∃ (a : Addr) (its : Array Value), v = .ref a ∧ s.heap.IsTuple a its := fun v hv => by
      obtain ⟨d, hd, as, r⟩ := e.left v hv
      obtain ⟨xs, rfl⟩ := ht' d hd
      cases r with
      | @tuple a o its n _ _ h1 h2 h3 h4 => exact ⟨a, its, rfl, o, h1, h2, n, h3⟩
    match vs, h2, e, tup with
    | v0 :: v1 :: r, _, .cons ⟨as, r0⟩ _, tup =>
      refine kind_tup0 tup ?_ hq
      cases r0 with
      | @tuple a o its n _ _ h1 h2 h3 h4 =>
        unfold firstIn
        dsimp only
        rw [h1]
        dsimp only
        rw [h3]
        dsimp only
        have : its.toList = [] := by
          cases q : its.toList with
          | nil => rfl
          | cons x y => rw [q] at h4; cases h4
        have : its = #[] := by
          rw [← Array.toArray_toList (xs := its), this]
        rw [this]
        rfl
end
end EvK
end PySem
end
section
set_option Elab.async false
set_option linter.all false
set_option maxRecDepth 100000
set_option maxHeartbeats 400000
/-! SORTED. -/
namespace Ev
noncomputable section
open PySem PySem.Spec PyProof.Rows L2 PySem.W PySem.SeqAt
/-! ### rows of ints -/
theorem leL_le : ∀ xs ys : List Int, leL xs ys = decide (xs ≤ ys)
  | [], ys => by
    have : ([] : List Int) ≤ ys := List.nil_le ys
    simp [leL, this]
  | x :: xs, [] => by
    have : ¬ (x :: xs) ≤ ([] : List Int) := fun h => h (List.nil_lt_cons _ _)
    simp [leL, this]
  | x :: xs, y :: ys => by
    unfold leL
    have ih := leL_le xs ys
    by_cases h : x < y
    · have : x :: xs ≤ y :: ys := fun q => by
        rcases List.cons_lt_cons_iff.mp q with q | ⟨q, _⟩ <;> omega
      simp [h, this]
    · by_cases h2 : x = y
      · subst h2
        have : (x :: xs ≤ x :: ys) ↔ xs ≤ ys := ⟨fun q r => q (List.cons_lt_cons_iff.mpr (.inr ⟨rfl, r⟩)), fun q r => by
          rcases List.cons_lt_cons_iff.mp r with r | ⟨_, r⟩
          · omega
          · exact q r⟩
        simp [ih, this]
      · have : ¬ x :: xs ≤ y :: ys := fun q => q (List.cons_lt_cons_iff.mpr (.inl (by omega)))
        simp [h, h2, this]
theorem leL_trans (a b c : List Int) (h1 : leL a b = true) (h2 : leL b c = true) : leL a c = true := by
  rw [leL_le, decide_eq_true_eq] at *
  exact List.le_trans h1 h2
theorem leL_total (a b : List Int) : (leL a b || leL b a) = true := by
  rw [leL_le, leL_le, Bool.or_eq_true, decide_eq_true_eq, decide_eq_true_eq]
  exact List.le_total a b
theorem leL_anti (a b : List Int) (h1 : leL a b = true) (h2 : leL b a = true) : a = b := by
  rw [leL_le, decide_eq_true_eq] at *
  exact List.le_antisymm h1 h2
theorem insK_perm (x : List Int) : ∀ l, (insK x l).Perm (x :: l)
  | [] => .refl _
  | y :: ys => by
    unfold insK
    split
    · exact ((insK_perm x ys).cons y).trans (List.Perm.swap x y ys)
    · exact .refl _
theorem insK_pair (x : List Int) : ∀ l, l.Pairwise (fun a b => leL a b = true) → (insK x l).Pairwise (fun a b => leL a b = true)
  | [], _ => List.pairwise_singleton _ _
  | y :: ys, h => by
    have h' := List.pairwise_cons.mp h
    unfold insK
    split
    · rename_i e
      refine List.pairwise_cons.mpr ⟨fun z hz => ?_, insK_pair x ys h'.2⟩
      rcases List.mem_cons.mp ((insK_perm x ys).mem_iff.mp hz) with rfl | hz
      · exact e
      · exact h'.1 z hz
    · rename_i e
      have xy : leL x y = true := by
        have t := leL_total x y
        rw [e, Bool.or_false] at t
        exact t
      refine List.pairwise_cons.mpr ⟨fun z hz => ?_, h⟩
      rcases List.mem_cons.mp hz with rfl | hz
      · exact xy
      · exact leL_trans _ _ _ xy (h'.1 z hz)
theorem sortK_perm : ∀ l, (sortK l).Perm l
  | [] => .refl _
  | x :: xs => by unfold sortK; exact (insK_perm x _).trans ((sortK_perm xs).cons x)
theorem sortK_pair : ∀ l, (sortK l).Pairwise (fun a b => leL a b = true)
  | [] => .nil
  | x :: xs => by unfold sortK; exact insK_pair x _ (sortK_pair xs)
theorem sortK_eq (l : List (List Int)) : sortK l = l.mergeSort leL := by
  refine List.Perm.eq_of_pairwise (le := fun a b => leL a b = true) (fun a b _ _ => leL_anti a b) (sortK_pair l) (List.pairwise_mergeSort leL_trans leL_total l) ((sortK_perm l).trans (List.mergeSort_perm l leL).symm)
theorem dataLe_tups {β : Type} (x : β → List Int) : PySem.W.dataLe false (fun b => .tuple ((x b).map .int)) = fun p q => leL (x p) (x q) := by
  have q := PySem.W.dataLe_rows x
  funext a b
  rw [leL_le]
  have e := congrFun (congrFun q a) b
  rw [← e]
  show (!PySem.W.dataLt (.tuple ((x b).map .int)) (.tuple ((x a).map .int))) = (!PySem.W.dataLt (.list ((x b).map .int)) (.list ((x a).map .int)))
  rfl
section
variable {Γ : Gm} {X : Cx} {W : WX}
theorem mapO_len {α β : Type} {f : α → Option β} : ∀ {xs : List α} {ys : List β}, mapO f xs = some ys → ys.length = xs.length
  | [], ys, h => by cases h; rfl
  | x :: xs, ys, h => by
    rw [mapO_cons] at h
    split at h
    · split at h
      · rename_i e
        cases h
        rw [List.length_cons, List.length_cons, mapO_len e]
      · exact nomatch h
    · exact nomatch h
/-- the items that are keys: each by its key -/
def KeyD (key : D → Option (List Int)) (enc : List Int → PyData) (un : List Int → D) : Prop := ∀ d k, key d = some k → d = un k ∧ ∀ (S : St) (m : Nat), pd false S (m + 2) d = some (enc k)
theorem mapO_ints : ∀ {xs : List D} {is : List Int}, mapO intD xs = some is → xs = is.map .int
  | [], is, h => by cases h; rfl
  | x :: xs, is, h => by
    rw [mapO_cons] at h
    split at h
    · rename_i i ei
      split at h
      · rename_i js ej
        cases h
        rw [List.map_cons, ← mapO_ints ej]
        cases x with
        | int j => cases ei; rfl
        | _ => exact nomatch ei
      · exact nomatch h
    · exact nomatch h
theorem pds_ints {S : St} {m : Nat} : ∀ is : List Int, mapO (pd false S m) (is.map .int) = some (is.map PyData.int)
  | [] => rfl
  | i :: is => by
    rw [List.map_cons]
    rw [mapO_cons]
    rw [pds_ints is]
    cases m <;> rfl
theorem keyT_ok : KeyD keyT (fun k => .tuple (k.map .int)) unT := fun d k h => by
  cases d with
  | tup xs =>
    have e : xs = k.map .int := mapO_ints h
    subst e
    refine ⟨rfl, fun S m => ?_⟩
    show (match mapO (pd false S (m + 1)) (k.map .int) with | some ys => some (PyData.tuple ys) | none => none) = _
    rw [pds_ints]
  | _ => exact nomatch h
theorem keyI_ok : KeyD keyI (fun k => .int (k.headD 0)) unI := fun d k h => by
  cases d with
  | int i => cases h; exact ⟨rfl, fun S m => rfl⟩
  | _ => exact nomatch h
theorem mapO_get {α β : Type} {f : α → Option β} : ∀ {xs : List α} {ys : List β} {i : Nat} {y : β}, mapO f xs = some ys → ys[i]? = some y → ∃ x, xs[i]? = some x ∧ f x = some y
  | [], ys, i, y, h, hy => by cases h; simp at hy
  | x :: xs, ys, i, y, h, hy => by
    rw [mapO_cons] at h
    split at h
    · rename_i z ez
      split at h
      · rename_i zs ezs
        cases h
        cases i with
        | zero => simp at hy; subst hy; exact ⟨x, rfl, ez⟩
        | succ i =>
          rw [List.getElem?_cons_succ] at hy
          obtain ⟨w, a, b⟩ := mapO_get ezs hy
          exact ⟨w, by rw [List.getElem?_cons_succ]; exact a, b⟩
      · exact nomatch h
    · exact nomatch h
/-- items, their objects, their values -/
structure Trip (Γ : Gm) (ρ : Nat → Addr) (n : Nat) (H : Hp) (key : D → Option (List Int)) (v : Value) (b : List Int × D × V) : Prop where
  r : RelV b.2.2 v
  d : RD Γ ρ n H b.2.1 b.2.2
  k : key b.2.1 = some b.1
theorem trips {ρ : Nat → Addr} {n : Nat} {H : Hp} {key : D → Option (List Int)} : ∀ {ds : List D} {vs : List V} {us : List Value} {ks : List (List Int)}, mapO key ds = some ks → RDs Γ ρ n H ds vs → Vals vs us → ∃ bs : List (List Int × D × V), EachIs (Trip Γ ρ n H key) us bs ∧ bs.map (·.1) = ks ∧ bs.map (·.2.1) = ds
  | [], vs, us, ks, h, r, q => by
    cases h
    have r : vs = [] := r
    subst r
    cases q
    exact ⟨[], .nil, rfl, rfl⟩
  | d :: ds, vs, us, ks, h, r, q => by
    rw [mapO_cons] at h
    split at h
    · rename_i k ek
      split at h
      · rename_i ks' eks
        cases h
        obtain ⟨y, t, rfl, r1, r2⟩ := (show ∃ y r, vs = y :: r ∧ RD Γ ρ n H d y ∧ RDs Γ ρ n H ds r from r)
        cases q with
        | cons q1 q2 =>
          obtain ⟨bs, a, b, c⟩ := trips eks r2 q2
          exact ⟨(k, d, y) :: bs, .cons ⟨q1, r1, ek⟩ a, by rw [List.map_cons, b], by rw [List.map_cons, c]⟩
      · exact nomatch h
    · exact nomatch h
theorem trips_out {ρ : Nat → Addr} {n : Nat} {H : Hp} {key : D → Option (List Int)} {enc : List Int → PyData} {un : List Int → D} (ok : KeyD key enc un) : ∀ {us : List Value} {bs : List (List Int × D × V)}, EachIs (Trip Γ ρ n H key) us bs → RDs Γ ρ n H ((bs.map (·.1)).map un) (bs.map (·.2.2)) ∧ Vals (bs.map (·.2.2)) us
  | _, _, .nil => ⟨rfl, .nil⟩
  | _, _, .cons h t => by
    obtain ⟨a, b⟩ := trips_out ok t
    refine ⟨?_, .cons h.r b⟩
    have e := (ok _ _ h.k).1
    show RDs Γ ρ n H (un _ :: _) (_ :: _)
    rw [← e]
    exact RDs.cons h.d a
theorem all_alike {bs : List (List Int × D × V)} : PySem.W.AllAlike (bs.map fun b => PyData.tuple (b.1.map .int)) := PySem.W.AllAlike.of fun b b' => by
  show alike (PyData.tuple _) (PyData.tuple _) = true
  simp only [alike]
  exact PySem.W.alike_ints _ _
theorem reads_trips {pins : List (Addr × Obj)} {σ σ' : L2.St} {s : Shared} {ρ : Nat → Addr} {env : Env} {S : St} {H : Hp} {key : D → Option (List Int)} {enc : List Int → PyData} {un : List Int → D} (ok : KeyD key enc un) (I : Inv X pins σ H s) (R : Rl Γ X ρ env σ' S H) :
    ∀ {us : List Value} {bs : List (List Int × D × V)}, EachIs (Trip Γ ρ S.n H key) us bs → EachIs (fun v b => ∃ as, Reads s.heap v (enc b.1) as) us bs
  | _, _, .nil => .nil
  | _, _, .cons h t => by
    obtain ⟨as, rd⟩ := pd_reads I R.h 2 _ _ _ _ ((ok _ _ h.k).2 S 0) h.d h.r
    exact .cons ⟨as, rd.rd⟩ (reads_trips ok I R t)
theorem trip_len {ρ : Nat → Addr} {n : Nat} {H : Hp} {key : D → Option (List Int)} : ∀ {us : List Value} {bs : List (List Int × D × V)}, EachIs (Trip Γ ρ n H key) us bs → us.length = bs.length
  | _, _, .nil => rfl
  | _, _, .cons _ t => by rw [List.length_cons, List.length_cons, trip_len t]
theorem sorted_run {pins : List (Addr × Obj)} {σ σ' : L2.St} {s : Shared} {ρ : Nat → Addr} {env : Env} {S : St} {H : Hp} {Q : VK} {l : Nat} {ys : List D} {ks : List (List Int)} {key : D → Option (List Int)} {enc : List Int → PyData} {un : List Int → D} (ok : KeyD key enc un) (I : Inv X pins σ H s) (R : Rl Γ X ρ env σ' S H)
    (hl : S.get l = some (.lst ys)) (hk : mapO key ys = some ks)
    (hS : ∀ (bs : List (List Int × D × V)) (us : List Value) (s2 : Shared), bs.map (·.1) = ks → EachIs (fun v b => ∃ as, Reads s2.heap v (enc b.1) as) us bs → AllAlike (bs.map fun b => enc b.1) ∧ SortsAt X.prog X.w X.A.in1.in1 s2 (dataKind s2.heap (bs.map fun b => enc b.1)) us ∧ ∀ a ∈ bs, ∀ b ∈ bs, dataLe false (fun b : List Int × D × V => enc b.1) a b = leL a.1 b.1)
    (h : (mkL ((sortK ks).map un) S).All (PostG Γ X (RD Γ) env σ' ρ S H Q) (PostX Γ X W env σ' ρ S H)) : wpAny (model X.prog X.w) X.A (call (.builtin "sorted") [.ref (ρ l)]) (EP X pins σ Q) X.xe s := by
  obtain ⟨len, zs, hd, rs⟩ := lst_of R hl
  obtain ⟨its, rv, pl, hz⟩ := I.list (SqL.of hd)
  obtain ⟨bs, tr, b1, b2⟩ := trips hk rs rv
  have er := reads_trips ok I R tr
  have er' : EachIs (fun v b => ∃ as, Reads (sortingHeap (copyHeap s.heap its) (s.heap.objs.size + 1) its) v (enc b.1) as) its bs := er.mono fun _ _ ⟨as, r⟩ => ⟨as, PyProof.Rows.Reads.keeps (fun _ _ => sorting_copy_old) r⟩
  obtain ⟨hal, so, hle⟩ := hS bs its { s with heap := sortingHeap (copyHeap s.heap its) (s.heap.objs.size + 1) its } b1 er'
  have il : its.length = zs.length := rv.length.symm
  refine sorted_vals pl.isList so (by rw [il]; exact hz) ?_
  have out := sortVals_data false tr er' hal
  generalize sortVals (dataKind (sortingHeap (copyHeap s.heap its) (s.heap.objs.size + 1) its) (bs.map fun b => enc b.1)) false its its = us at out
  have e1 : (bs.mergeSort (dataLe false fun b : List Int × D × V => enc b.1)).map (·.1) = sortK ks := by
    rw [sort_maps (s := leL) (fun b : List Int × D × V => b.1) hle, b1, sortK_eq]
  obtain ⟨o1, o2⟩ := trips_out ok out
  rw [e1] at o1
  have lb : bs.length = ys.length := by rw [← b2, List.length_map]
  have hn : ((sortK ks).map un).length ≤ 100000 := by
    rw [List.length_map, (sortK_perm ks).length_eq, ← b1, List.length_map, lb]
    exact len
  have lv := o1.len
  obtain ⟨c, hc⟩ := sortedAll_at s.heap its us.toArray
  refine ⟨.ref (s.heap.objs.size + 1), _, I.laid (t' := s.toks) (fun b o e => sortedAll_old e) (Nat.le_succ _) (show ObjOk X.prog X.w _ _ _ (.lst _) from ⟨?_, us, c, o2, hc⟩), rfl, fin_lst R h hn o1 _ (I.hok.fresh (Nat.le_succ _))⟩
  rw [lv]
  exact Evl.sz_of hn
theorem nonE_all : ∀ {ks : List (List Int)}, nonE ks = true → ∀ k ∈ ks, ∃ i r, k = i :: r
  | [], _, k, h => by simp at h
  | [] :: _, h, _, _ => nomatch h
  | (i :: r) :: t, h, k, m => by
    rcases List.mem_cons.mp m with rfl | m
    · exact ⟨i, r, rfl⟩
    · exact nonE_all (by simpa [nonE] using h) k m
theorem c_sorted (hu : X.A.units + 100 < cLine) : CallR X (.builtin "sorted") (fun vs H Q => PP Γ X W .sorted vs H Q ∧ vs.length = 1) := by
  intro pins s σ' H vs us Q I r ⟨h, hl⟩
  obtain ⟨x, rfl⟩ := List.length_eq_one_iff.mp hl
  obtain ⟨u, rfl, rx⟩ := vals1 r
  obtain ⟨ρ, env, σ, S, a, R, ra, g⟩ := h.one
  clear h
  simp only [primF, p_sorted] at g
  split at g
  · rename_i l e0
    cases e0
    obtain ⟨_, rfl⟩ := rd_ref ra
    obtain rfl : u = .ref (ρ l) := rx
    split at g
    · rename_i ys hy
      split at g
      · rename_i ks ek
        refine sorted_run keyI_ok I R hy ek (fun bs us s2 e er => ?_) g
        have one : ∀ b ∈ bs, ∃ i, b.1 = [i] := fun b hb => by
          have m : b.1 ∈ ks := by rw [← e]; exact List.mem_map.mpr ⟨b, hb, rfl⟩
          obtain ⟨j, hj⟩ := List.mem_iff_getElem?.mp m
          obtain ⟨d, _, hd⟩ := mapO_get ek hj
          cases d with
          | int i => exact ⟨i, (Option.some.inj (show some [i] = some b.1 from hd)).symm⟩
          | _ => exact nomatch hd
        have al : AllAlike (bs.map fun b => PyData.int (b.1.headD 0)) := AllAlike.of fun b b' => by simp [alike]
        refine ⟨al, SortsAt.data (each_map (R := fun v d => ∃ as, Reads s2.heap v d as) (fun b : List Int × D × V => PyData.int (b.1.headD 0)) er) al (.inr fun d hd => ?_) (fun d hd => ?_), fun a ha b hb => ?_⟩
        · obtain ⟨b, _, rfl⟩ := List.mem_map.mp hd
          exact ⟨nofun, nofun⟩
        · obtain ⟨b, _, rfl⟩ := List.mem_map.mp hd
          show X.A.units + 2 + (PyData.int _).depth < _
          simp only [PyData.depth]
          omega
        · obtain ⟨i, ei⟩ := one a ha
          obtain ⟨j, ej⟩ := one b hb
          rw [dataLe_int (fun b : List Int × D × V => b.1.headD 0)]
          show decide (a.1.headD 0 ≤ b.1.headD 0) = leL a.1 b.1
          rw [ei, ej]
          show decide (i ≤ j) = _
          unfold leL
          by_cases q : i < j
          · simp [q, Int.le_of_lt q]
          · by_cases q2 : i = j
            · subst q2; simp [leL]
            · have : ¬ i ≤ j := by omega
              simp [q, q2, this]
      · split at g
        · rename_i ks ek
          split at g
          · rename_i ho
            refine sorted_run keyT_ok I R hy ek (fun bs us s2 e er => ?_) g
            have al : AllAlike (bs.map fun b => PyData.tuple (b.1.map .int)) := all_alike
            have dp : ∀ d ∈ bs.map fun b => PyData.tuple (b.1.map .int), X.A.in1.in1.units + d.depth < cLine := fun d hd => by
              obtain ⟨b, _, rfl⟩ := List.mem_map.mp hd
              show X.A.units + 2 + (PyData.tuple _).depth < _
              simp only [PyData.depth, depth_ints]
              omega
            have em := each_map (R := fun v d => ∃ as, Reads s2.heap v d as) (fun b : List Int × D × V => PyData.tuple (b.1.map .int)) er
            refine ⟨al, ?_, fun a ha b hb => by rw [dataLe_tups (fun b : List Int × D × V => b.1)]⟩
            unfold sortOk at ho
            split at ho
            · rename_i r0
              cases bs with
              | nil => exact nomatch e
              | cons b bs =>
                have e0 : b.1 = [] := (List.cons.inj e).1
                have em2 : EachIs (fun v d => ∃ as, Reads s2.heap v d as) us (PyData.tuple [] :: bs.map fun b => PyData.tuple (b.1.map .int)) := by
                  have : (PyData.tuple [] :: bs.map fun b => PyData.tuple (b.1.map .int)) = (b :: bs).map fun b => PyData.tuple (b.1.map .int) := by rw [List.map_cons, e0]; rfl
                  rw [this]
                  exact em
                have e2 : (b :: bs).map (fun b => PyData.tuple (b.1.map .int)) = PyData.tuple [] :: bs.map fun b => PyData.tuple (b.1.map .int) := by rw [List.map_cons, e0]; rfl
                show SortsAt _ _ _ s2 (dataKind s2.heap ((b :: bs).map fun b => PyData.tuple (b.1.map .int))) us
                rw [e2] at al dp ⊢
                exact PySem.EvK.sortsAt_tup0 em2 al (fun d hd => by
                  obtain ⟨b, _, rfl⟩ := List.mem_map.mp hd
                  exact ⟨_, rfl⟩) dp
            · refine SortsAt.data em al (.inl fun d hd => ?_) dp
              obtain ⟨b, hb, rfl⟩ := List.mem_map.mp hd
              obtain ⟨i, r, er⟩ := nonE_all ho b.1 (by rw [← e]; exact List.mem_map.mpr ⟨b, hb, rfl⟩)
              exact ⟨.int i, r.map .int, by rw [er]; rfl⟩
          · exact g.elim
        · exact g.elim
    · exact g.elim
  · exact g.elim
end
end
end Ev
end
section
set_option Elab.async false
set_option linter.all false
set_option maxRecDepth 100000
set_option maxHeartbeats 400000
/-! THE TRANSLATION IS SOUND: expressions, but the calls. -/
namespace Ev
noncomputable section
open PySem PySem.Spec PyProof.Rows L2
section
variable {Γ : Gm} {X : Cx} {W : WX} {a b c e : Expr} {fa fb fc : EvF D} {pos : Pos}
/-- a test by the one or the other -/
theorem t_ife (hc : PT X c (rdB Γ X W (tst fc))) (ha : PT X a (rdB Γ X W (tst fa))) (hb : PT X b (rdB Γ X W (tst fb))) : PT X (.IfExp c a b pos) (rdB Γ X W (tst (eIf fc fa fb))) := by
  refine ⟨fun pins s σ H Q I h => ?_⟩
  show wpAny _ _ (do if ← isTrue c X.env (eval c X.env) then isTrue a X.env (eval a X.env) else isTrue b X.env (eval b X.env)) _ _ s
  obtain ⟨ρ, env, S, hl, h⟩ := h
  have e : tst (eIf fc fa fb) env S = (tst fc env S).bind fun k S1 => match k with
      | true => tst fa env S1
      | false => tst fb env S1 := by
    show Res.bind (Res.bind (fc env S) _) _ = Res.bind (Res.bind (fc env S) _) _
    rw [Res.bind_assoc, Res.bind_assoc]
    congr 1
    funext x S1
    cases truth S1 x with
    | none => rfl
    | some k => cases k <;> rfl
  rw [e] at h
  refine wpAny_bind (thn (hc.run pins s σ H (fun k H1 => (k = true → rdB Γ X W (tst fa) σ H1 Q) ∧ (k = false → rdB Γ X W (tst fb) σ H1 Q)) I
    ⟨ρ, env, S, hl, h.bind.mono (fun k S1 h1 ρ1 H1 k' hl1 e1 ek => ?_) fun _ _ _ p => p⟩) fun k s1 ⟨H1, I1, q1⟩ => ?_)
  · have ek : k = k' := ek
    subst ek
    have w := hl.h.wf
    have w1 := hl1.h.wf
    cases k
    · exact ⟨fun z => (nomatch z), fun _ => ⟨ρ1, env, S1, hl1, h1.mono (fun _ _ p => p.ext w w1 e1) fun _ _ _ p => p.ext w w1 e1⟩⟩
    · exact ⟨fun _ => ⟨ρ1, env, S1, hl1, h1.mono (fun _ _ p => p.ext w w1 e1) fun _ _ _ p => p.ext w w1 e1⟩, fun z => (nomatch z)⟩
  · cases k with
    | true => exact ha.run pins s1 σ H1 Q I1 (q1.1 rfl)
    | false => exact hb.run pins s1 σ H1 Q I1 (q1.2 rfl)
end
/-- an expression's two readings -/
def Eok (Γ : Gm) (X : Cx) (W : WX) (f : EvF D) (e : Expr) : Prop := PE X e (rd Γ X W f) ∧ PT X e (rdB Γ X W (tst f))
/-- the translation of expressions is sound -/
structure OkE (Γ : Gm) (k : Nat) (cf : CallF) (F : FE) : Prop where
  ok : ∀ C X W, XOk Γ k cf C X W → ∀ e c, F C e = some c → ∀ M, Eok Γ X W ((ite_ Γ.G cf M).e c) e
  st : ∀ C y p, F C (.Starred y p) = none
section
variable {Γ : Gm} {k : Nat} {cf : CallF} {F : FE} {C : CC} {X : Cx} {W : WX} {e : Expr} {es : List Expr} {c : CE} {cs : List CE} {M : Nat} {pos : Pos}
theorem Eok.no : Eok Γ X W (fun _ _ => .fail) e := ⟨pe_no, pt_no⟩
theorem Eok.val {f : EvF D} (p : PE X e (rd Γ X W f)) (he : ∀ whole, isTrue e X.env whole = (do let v ← whole; standAt e.pos; holding [v] (truthy v))) : Eok Γ X W f e := ⟨p, x_truth p he⟩
theorem Eok.eq {f g : EvF D} (p : Eok Γ X W f e) (h : ∀ v S, g v S = f v S) : Eok Γ X W g e := by
  have : g = f := funext fun v => funext fun S => h v S
  rw [this]; exact p
theorem nostar (hF : OkE Γ k cf F) (h : F C e = some c) : ∀ y q, e ≠ .Starred y q := by
  intro y q he
  subst he
  rw [hF.st] at h
  exact nomatch h
theorem mapE_ok (hF : OkE Γ k cf F) (o : XOk Γ k cf C X W) : ∀ {es : List Expr} {cs : List CE}, mapE (F C) es = some cs → PA X es (rdL Γ X W (evs (ite_ Γ.G cf M).e cs)) ∧ LenF es.length (evs (ite_ Γ.G cf M).e cs) ∧ noStar es = true ∧ cs.length = es.length
  | [], cs, h => by unfold mapE at h; cases h; exact ⟨x_nil, LenF.nil, rfl, rfl⟩
  | e :: r, cs, h => by
    unfold mapE at h
    split at h
    · rename_i x ex
      split at h
      · rename_i xs exs
        cases h
        obtain ⟨a, b, d, l⟩ := mapE_ok hF o exs
        have ns := nostar hF ex
        refine ⟨x_cons (hF.ok C X W o e x ex M).1 a ns, LenF.cons b, ?_, by rw [List.length_cons, List.length_cons, l]⟩
        unfold noStar
        split
        · rename_i y q; exact absurd rfl (ns y q)
        · exact d
      · exact nomatch h
    · exact nomatch h
theorem mapK_ok (hF : OkE Γ k cf F) (o : XOk Γ k cf C X W) : ∀ {ks : List Keyword} {cs : List CE}, mapK (F C) ks = some cs → PK X ks (rdL Γ X W (evs (ite_ Γ.G cf M).e cs)) ∧ LenF ks.length (evs (ite_ Γ.G cf M).e cs) ∧ kwNm ks = true
  | [], cs, h => by unfold mapK at h; cases h; exact ⟨x_knil, LenF.nil, rfl⟩
  | ⟨nm, e, kp⟩ :: r, cs, h => by
    unfold mapK at h
    split at h
    · rename_i h0; exact nomatch h0
    · rename_i nm' e' kp' r' he
      cases he
      split at h
      · rename_i x ex
        split at h
        · rename_i xs exs
          cases h
          obtain ⟨a, b, d⟩ := mapK_ok hF o exs
          exact ⟨x_kcons (hF.ok C X W o e x ex M).1 a, LenF.cons b, by unfold kwNm; rw [d]; rfl⟩
        · exact nomatch h
      · exact nomatch h
    · exact nomatch h
theorem compB_ok (hF : OkE Γ k cf F) (o : XOk Γ k cf C X W) {op : BoolOp} : ∀ {es : List Expr} {c : CE}, compB (F C) op es = some c → ∀ M, PE X (.BoolOp op es pos) (rd Γ X W ((ite_ Γ.G cf M).e c)) ∧ PW X (.BoolOp op es pos) (rdB Γ X W (tst ((ite_ Γ.G cf M).e c)))
  | [], c, h, M => by unfold compB at h; exact nomatch h
  | [a], c, h, M => by
    unfold compB at h
    have q := hF.ok C X W o a c h M
    refine ⟨x_one q.1, ?_⟩
    cases op
    · exact pw_and1 q.2
    · exact pw_or1 q.2
  | a :: b :: r, c, h, M => by
    unfold compB at h
    dsimp only at h
    split at h
    · rename_i x y ex ey
      cases h
      cases M with
      | zero => exact ⟨pe_no, pw_no⟩
      | succ M =>
        have q := hF.ok C X W o a x ex M
        have ih := compB_ok hF o ey M
        cases op
        · exact ⟨pe_eq (x_and q.1 ih.1) fun _ _ => rfl, pw_eq (t_and q.2 ih.2) fun _ _ => rfl⟩
        · exact ⟨pe_eq (x_or q.1 ih.1) fun _ _ => rfl, pw_eq (t_or q.2 ih.2) fun _ _ => rfl⟩
    · exact nomatch h
/-! ### operators -/
theorem op_ok {op : Operator} {p : Pr} (h : opNo op = some p) : OpR X (binaryOp op) (PP2 Γ X W p) := by
  cases op <;> simp only [opNo] at h <;> cases h
  · exact o_add
  · exact o_sub
  · exact o_mul
  · exact o_mod
  · exact o_pow
  · exact o_fdiv
theorem cmp_ok (hu : X.A.units + 100 < cLine) (op : CmpOp) : OpR X (compareOp op) (PP2 Γ X W (cmpNo op)) := by
  cases op
  · exact o_eq hu
  · exact o_ne hu
  · exact o_lt
  · exact o_le
  · exact o_gt
  · exact o_ge
  · exact o_is
  · exact o_isnot
  · exact o_in hu
  · exact o_notin hu
theorem cmp_bl (op : CmpOp) : blP (cmpNo op) = true := by cases op <;> rfl
/-- two parts -/
theorem two_ok (hF : OkE Γ k cf F) (o : XOk Γ k cf C X W) {a b : Expr} {x y : CE} (ha : F C a = some x) (hb : F C b = some y) : (PE X a (rd Γ X W ((ite_ Γ.G cf M).e x))) ∧ PE X b (rd Γ X W ((ite_ Γ.G cf M).e y)) := ⟨(hF.ok C X W o a x ha M).1, (hF.ok C X W o b y hb M).1⟩
theorem pr1_eq {p : Pr} {x : CE} (v : Env) (S : St) : (ite_ Γ.G cf (M + 1)).e (.pr p [x]) v S = e1 Γ.G p ((ite_ Γ.G cf M).e x) v S := evs_one
theorem pr2_eq {p : Pr} {x y : CE} (v : Env) (S : St) : (ite_ Γ.G cf (M + 1)).e (.pr p [x, y]) v S = e2 Γ.G p ((ite_ Γ.G cf M).e x) ((ite_ Γ.G cf M).e y) v S := evs_two
theorem pr3_eq {p : Pr} {x y z : CE} (v : Env) (S : St) : (ite_ Γ.G cf (M + 1)).e (.pr p [x, y, z]) v S = e3 Γ.G p ((ite_ Γ.G cf M).e x) ((ite_ Γ.G cf M).e y) ((ite_ Γ.G cf M).e z) v S := evs_three
theorem cmpC_ok (hF : OkE Γ k cf F) (o : XOk Γ k cf C X W) {a : Expr} {ops : List CmpOp} {bs : List Expr} (h : cmpC (F C) a ops bs = some c) (M : Nat) : Eok Γ X W ((ite_ Γ.G cf M).e c) (.Compare a ops bs pos) := by
  unfold cmpC at h
  split at h
  · rename_i op b
    split at h
    · exact nomatch h
    · rename_i hm
      split at h
      · rename_i x y ex ey
        cases h
        cases M with
        | zero => exact .no
        | succ M =>
          have q := two_ok (M := M) hF o ex ey
          exact ⟨pe_eq (x_cmp (cmp_ok o.u op) q.1 q.2 hm) pr2_eq, pt_eq (t_cmp' (cmp_ok o.u op) q.1 q.2 hm (cmp_bl op)) fun v S => by
            show ((ite_ Γ.G cf (M + 1)).e (.pr (cmpNo op) [x, y]) v S).bind _ = _
            rw [pr2_eq]⟩
      · exact nomatch h
  · rename_i op op' b d
    split at h
    · exact nomatch h
    · rename_i hm
      split at h
      · rename_i x y z ex ey ez
        cases h
        cases M with
        | zero => exact .no
        | succ M =>
          have q := two_ok (M := M) hF o ex ey
          have q3 := (hF.ok C X W o d z ez M).1
          exact ⟨pe_eq (x_chn (cmp_ok o.u op) (cmp_ok o.u op') q.1 q.2 q3 hm) fun _ _ => rfl, pt_eq (t_chn (cmp_ok o.u op) (cmp_ok o.u op') q.1 q.2 q3 hm (cmp_bl op')) fun _ _ => rfl⟩
      · exact nomatch h
  · exact nomatch h
theorem slc_val {a : Expr} {i : Expr} {f : EvF D} (p : PE X (.Subscript a i pos) (rd Γ X W f)) : Eok Γ X W f (.Subscript a i pos) := .val p fun _ => rfl
theorem subC_ok (hF : OkE Γ k cf F) (o : XOk Γ k cf C X W) {a i : Expr} (h : subC (F C) a i = some c) (M : Nat) : Eok Γ X W ((ite_ Γ.G cf M).e c) (.Subscript a i pos) := by
  unfold subC at h
  split at h
  · exact nomatch h
  · rename_i x ex
    have two : ∀ {b : Expr} {g : CE → CE}, (F C b).map g = some c → ∃ y, F C b = some y ∧ c = g y := fun {b g} h => by
      cases e : F C b with
      | none => rw [e] at h; exact nomatch h
      | some y => rw [e] at h; cases h; exact ⟨y, rfl, rfl⟩
    cases M with
    | zero => exact .no
    | succ M =>
      have qa := (hF.ok C X W o a x ex M).1
      split at h
      · split at h
        · cases h
          exact slc_val (pe_eq (x_sl00 qa) pr1_eq)
        · obtain ⟨y, ey, rfl⟩ := two h
          exact slc_val (pe_eq (x_sl10 qa (hF.ok C X W o _ y ey M).1) pr2_eq)
        · obtain ⟨y, ey, rfl⟩ := two h
          exact slc_val (pe_eq (x_sl01 qa (hF.ok C X W o _ y ey M).1) pr2_eq)
        · obtain ⟨y, ey, rfl⟩ := two h
          cases M with
          | zero =>
            refine slc_val (pe_eq pe_no fun v S => ?_)
            rw [pr3_eq]
            show Res.bind ((ite_ Γ.G cf 0).e x v S) _ = _
            rfl
          | succ M => exact slc_val (pe_eq (x_sl11 qa (hF.ok C X W o _ y ey (M + 1)).1) pr3_eq)
        · cases h
          exact slc_val (pe_eq (x_slr qa) pr1_eq)
        · exact nomatch h
      · rename_i hne
        obtain ⟨y, ey, rfl⟩ := two h
        exact slc_val (pe_eq (x_ix o.u qa (hF.ok C X W o _ y ey M).1 (plainIx_of fun l u s p e => hne l u s p e)) pr2_eq)
end
end
end Ev
end
section
set_option Elab.async false
set_option linter.all false
set_option maxRecDepth 100000
set_option maxHeartbeats 400000
/-! THE TRANSLATION IS SOUND: calls. -/
namespace Ev
noncomputable section
open PySem PySem.Spec PyProof.Rows L2
section
variable {Γ : Gm} {k : Nat} {cf : CallF} {F : FE} {C : CC} {X : Cx} {W : WX} {e : Expr} {es : List Expr} {c : CE} {cs : List CE} {M : Nat} {pos p0 : Pos} {x : Str}
theorem call_val {f : Expr} {as : List Expr} {ks : List Keyword} {g : EvF D} (p : PE X (.Call f as ks pos) (rd Γ X W g)) : Eok Γ X W g (.Call f as ks pos) := .val p fun _ => rfl
theorem map_of {α β : Type} {o : Option α} {g : α → β} {b : β} (h : o.map g = some b) : ∃ a, o = some a ∧ b = g a := by
  cases o with
  | none => exact nomatch h
  | some a => cases h; exact ⟨a, rfl, rfl⟩
theorem var_ok (o : XOk Γ k cf C X W) {i : Nat} (h : nmK C x = some (.var i)) (M : Nat) : Eok Γ X W ((ite_ Γ.G cf M).e (.var i)) (.Name x pos) := by
  cases M with
  | zero => exact .no
  | succ M =>
    obtain ⟨a, b, d, e⟩ := o.var h
    exact .val (pe_eq (x_var a b d e) fun _ _ => rfl) fun _ => rfl
theorem lit_eq {d : D} (v : Env) (S : St) : (ite_ Γ.G cf (M + 1)).e (.lit d) v S = .ok d S := rfl
theorem mem_of_lk {α β : Type} [BEq α] [LawfulBEq α] {k : α} {v : β} : ∀ {l : List (α × β)}, l.lookup k = some v → (k, v) ∈ l
  | [], h => nomatch h
  | (a, b) :: r, h => by
    rw [List.lookup_cons] at h
    split at h
    · rename_i e
      cases h
      rw [eq_of_beq e]
      exact List.mem_cons_self
    · exact List.mem_cons_of_mem _ (mem_of_lk h)
/-! ### built-ins -/
theorem PP.fail {p1 : Pr} {vs : List V} {H : Hp} {Q : VK} {n : Nat} (hf : ∀ S (ds : List D), ds.length ≠ n → prim Γ.G p1 ds S = .fail) (h : PP Γ X W p1 vs H Q) : vs.length = n := by
  obtain ⟨ρ, env, σ, S, ds, R, r, g⟩ := h
  rw [r.len]
  by_cases hl : ds.length = n
  · exact hl
  · rw [hf S ds hl] at g
    exact g.elim
theorem one_e {n : Nat} (h : es.length = n + 1) : ∃ e r, es = e :: r := by
  cases es with
  | nil => exact nomatch h
  | cons e r => exact ⟨e, r, rfl⟩
theorem blt_ok (o : XOk Γ k cf C X W) (cl : Cool Γ k cf C X W) {g : Str} {p1 : Pr} {fs : EvF (List D)} (h : callNo g es.length = some p1) (hb : bltn C g = true) (ha : PA X es (rdL Γ X W fs)) (hst : noStar es = true) :
    PE X (.Call (.Name g p0) es [] pos) (rd Γ X W (eP Γ.G p1 fs)) := by
  obtain ⟨hg, hdb, hn, hm⟩ := o.blt hb
  have m : ((g, es.length), p1) ∈ callL := mem_of_lk h
  have hm := hm (List.mem_append_right _ (List.mem_append_left _ (List.mem_map.mpr ⟨_, m, rfl⟩)))
  simp only [callL, List.mem_cons, List.mem_nil_iff, or_false, Prod.mk.injEq] at m
  rcases m with m | m | m | m | m | m | m | m | m | m | m | m | m | m | m | m <;> obtain ⟨⟨rfl, hl⟩, rfl⟩ := m <;> obtain ⟨e, r, rfl⟩ := one_e hl
  · exact x_callB c_len (fun _ _ _ q => ⟨q, q.len1 rfl⟩) hg hm rfl ha hn hdb hst
  · exact x_callB (c_isi o.wd.ck o.g.K) (fun _ _ _ q => ⟨q, q.len2 rfl⟩) hg hm rfl ha hn hdb hst
  · exact x_callTy c_tuple (fun _ _ _ q => ⟨q, q.len1 rfl⟩) hg hm rfl ha hn hdb hst
  · exact x_callTy c_list (fun _ _ _ q => ⟨q, q.len1 rfl⟩) hg hm rfl ha hn hdb hst
  · exact x_callB (c_all cl.calm) (fun _ _ _ q => ⟨q, q.len1 rfl⟩) hg hm rfl ha hn hdb hst
  · exact x_callB (c_any cl.calm) (fun _ _ _ q => ⟨q, q.len1 rfl⟩) hg hm rfl ha hn hdb hst
  · exact x_callB (c_sum cl.calm) (fun _ _ _ q => ⟨q, q.len1 rfl⟩) hg hm rfl ha hn hdb hst
  · exact x_callTy c_int (fun _ _ _ q => ⟨q, q.len1 rfl⟩) hg hm rfl ha hn hdb hst
  · exact x_callB c_abs (fun _ _ _ q => ⟨q, q.len1 rfl⟩) hg hm rfl ha hn hdb hst
  · exact x_callB (c_max1 cl.calm) (fun _ _ _ q => ⟨q, q.len1 rfl⟩) hg hm rfl ha hn hdb hst
  · exact x_callB (c_min1 cl.calm) (fun _ _ _ q => ⟨q, q.len1 rfl⟩) hg hm rfl ha hn hdb hst
  · exact x_callB (c_max2 cl.calm) (fun _ _ _ q => ⟨q, q.len2 rfl⟩) hg hm rfl ha hn hdb hst
  · exact x_callB (c_min2 cl.calm) (fun _ _ _ q => ⟨q, q.len2 rfl⟩) hg hm rfl ha hn hdb hst
  · exact x_callB (c_repr o.gd o.u (by rw [o.g.base]; exact o.wd.sys)) (fun _ _ _ q => ⟨q, q.len1 rfl⟩) hg hm rfl ha hn hdb hst
  · exact x_callB c_divmod (fun _ _ _ q => ⟨q, q.len2 rfl⟩) hg hm rfl ha hn hdb hst
  · exact x_callB (c_sorted o.u) (fun _ _ _ q => ⟨q, q.len1 rfl⟩) hg hm rfl ha hn hdb hst
theorem nestC_ok (hF : OkE Γ k cf F) (o : XOk Γ k cf C X W) (cl : Cool Γ k cf C X W) {g h : Str} {bs : List Expr} {p1 q1 : Pos} (hg : L2.Gl X g) (hm : g ∈ bNames → X.mg g = none) (hh : nestC (F C) C g h bs = some c) (M : Nat) :
    PE X (.Call (.Name g p0) [.Call (.Name h p1) bs [] q1] [] pos) (rd Γ X W ((ite_ Γ.G cf M).e c)) := by
  unfold nestC at hh
  split at hh
  · exact nomatch hh
  · rename_i eb
    obtain ⟨hg2, hdb2, hn2, hm2⟩ := o.blt eb
    have st1 : ∀ {e : Expr} {x : CE}, F C e = some x → noStar [e] = true := fun {e x} ex => by
      unfold noStar
      split
      · rename_i y q; exact absurd rfl (nostar hF ex y q)
      · rfl
    have st2 : ∀ {e d : Expr} {x y : CE}, F C e = some x → F C d = some y → noStar [e, d] = true := fun {e d x y} ex ey => by
      unfold noStar
      split
      · rename_i y q; exact absurd rfl (nostar hF ex y q)
      · exact st1 ey
    split at hh
    · rename_i er
      rw [beq_iff_eq] at er
      subst er
      have hm2 := hm2 (by decide)
      split at hh
      · rename_i a et
        rw [beq_iff_eq] at et
        subst et
        obtain ⟨x, ex, rfl⟩ := map_of hh
        cases M with
        | zero => exact pe_no
        | succ M => exact pe_eq (x_tR1 cl.calm hg (hm (by decide)) hg2 hm2 (hF.ok C X W o a x ex M).1 (st1 ex)) pr1_eq
      · rename_i a b et
        rw [beq_iff_eq] at et
        subst et
        split at hh
        · rename_i x y ex ey
          cases hh
          cases M with
          | zero => exact pe_no
          | succ M => exact pe_eq (x_tR2 cl.calm hg (hm (by decide)) hg2 hm2 (hF.ok C X W o a x ex M).1 (hF.ok C X W o b y ey M).1 (st2 ex ey)) pr2_eq
        · exact nomatch hh
      · rename_i a _ et
        rw [beq_iff_eq] at et
        subst et
        obtain ⟨x, ex, rfl⟩ := map_of hh
        cases M with
        | zero => exact pe_no
        | succ M => exact pe_eq (x_lR1 cl.calm hg (hm (by decide)) hg2 hm2 (hF.ok C X W o a x ex M).1 (st1 ex)) pr1_eq
      · rename_i a b _ et
        rw [beq_iff_eq] at et
        subst et
        split at hh
        · rename_i x y ex ey
          cases hh
          cases M with
          | zero => exact pe_no
          | succ M => exact pe_eq (x_lR2 cl.calm hg (hm (by decide)) hg2 hm2 (hF.ok C X W o a x ex M).1 (hF.ok C X W o b y ey M).1 (st2 ex ey)) pr2_eq
        · exact nomatch hh
      · exact nomatch hh
    · split at hh
      · rename_i a b ez
        simp only [Bool.and_eq_true, beq_iff_eq] at ez
        obtain ⟨rfl, rfl⟩ := ez
        split at hh
        · rename_i x y ex ey
          cases hh
          cases M with
          | zero => exact pe_no
          | succ M => exact pe_eq (x_dzip cl.calm hg (hm (by decide)) rfl (by decide) (by decide) hg2 (hm2 (by decide)) rfl (by decide) (by decide) (st2 ex ey) (hF.ok C X W o a x ex M).1 (hF.ok C X W o b y ey M).1) pr2_eq
        · exact nomatch hh
      · exact nomatch hh
theorem isNest_eq {h : Str} {bs : List Expr} (hh : isNest C es = some (h, bs)) : ∃ p1 q1, es = [.Call (.Name h p1) bs [] q1] := by
  unfold isNest at hh
  split at hh
  · split at hh
    · cases hh; exact ⟨_, _, rfl⟩
    · exact nomatch hh
  · exact nomatch hh
theorem bltC_ok (hF : OkE Γ k cf F) (o : XOk Γ k cf C X W) (cl : Cool Γ k cf C X W) {g : Str} {ks : List Keyword} (hb : bltn C g = true) (h : bltC (F C) C g es ks = some c) (M : Nat) : PE X (.Call (.Name g p0) es ks pos) (rd Γ X W ((ite_ Γ.G cf M).e c)) := by
  unfold bltC at h
  split at h
  · split at h
    · rename_i h' bs en
      obtain ⟨p1, q1, rfl⟩ := isNest_eq en
      obtain ⟨hg, hdb, hn, hm⟩ := o.blt hb
      exact nestC_ok hF o cl hg hm h M
    · split at h
      · rename_i p1 xs e1 e2
        cases h
        cases M with
        | zero => exact pe_no
        | succ M =>
          obtain ⟨a, b, d, l⟩ := mapE_ok (M := M) hF o e2
          exact pe_eq (blt_ok o cl e1 hb a d) fun _ _ => rfl
      · exact nomatch h
  · exact nomatch h
/-! ### methods -/
theorem methC_ok (hF : OkE Γ k cf F) (o : XOk Γ k cf C X W) {ob : Expr} {m : Str} {ap cp : Pos} (h : methC (F C) ob m ap cp es = some c) (M : Nat) : PE X (.Call (.Attribute ob m ap) es [] cp) (rd Γ X W ((ite_ Γ.G cf M).e c)) := by
  unfold methC at h
  split at h
  · exact nomatch h
  · rename_i eb
    simp only [Bool.and_eq_true, decide_eq_true_eq] at eb
    obtain ⟨eb, el, en⟩ := eb
    have hb : ∀ f, attributeBase ob f X.env (eval ob X.env) = eval ob X.env := fun f => base_ok eb
    split at h
    · rename_i eg
      rw [beq_iff_eq] at eg
      subst eg
      split at h
      · rename_i a b
        split at h
        · rename_i x y z ex ey ez
          cases h
          cases M with
          | zero => exact pe_no
          | succ M =>
            have st2 : noStar [a, b] = true := by
              unfold noStar
              split
              · rename_i y q; exact absurd rfl (nostar hF ey y q)
              · unfold noStar
                split
                · rename_i y q; exact absurd rfl (nostar hF ez y q)
                · rfl
            exact pe_eq (x_get2 o.u (hF.ok C X W o ob x ex M).1 (hF.ok C X W o a y ey M).1 (hF.ok C X W o b z ez M).1 st2 (hb _) el) fun _ _ => rfl
        · exact nomatch h
      · exact nomatch h
    · split at h
      · rename_i p1 x xs e1 ex exs
        cases h
        cases M with
        | zero => exact pe_no
        | succ M =>
          obtain ⟨ha, ln, hst, l⟩ := mapE_ok (M := M) hF o exs
          have ho := (hF.ok C X W o ob x ex M).1
          have m : ((m, es.length), p1) ∈ methL := mem_of_lk e1
          simp only [methL, List.mem_cons, List.mem_nil_iff, or_false, Prod.mk.injEq] at m
          have two : ∀ {p1 : Pr}, (∀ S (ds : List D), ds.length ≠ 2 → prim Γ.G p1 ds S = .fail) → ∀ x vs H Q, PP Γ X W p1 (x :: vs) H Q → vs.length = 1 := fun {p1} hf x vs H Q q => by
            have := PP.fail hf q
            rw [List.length_cons] at this
            omega
          rcases m with m | m | m | m <;> obtain ⟨⟨rfl, hl⟩, rfl⟩ := m
          · obtain ⟨e, r, rfl⟩ := one_e hl
            exact pe_eq (x_bm PySem.F.slot_list_append PySem.F.type_list_append m_append (two fun S ds hl => by
              match ds, hl with
              | [], _ => rfl
              | [x], _ => cases x <;> rfl
              | [x, y], hl => exact absurd rfl hl
              | x :: y :: z :: r, _ => cases x <;> rfl) ho ha hst en (hb _) el) fun _ _ => rfl
          · obtain ⟨e, r, rfl⟩ := one_e hl
            exact pe_eq (x_bm PySem.F.slot_list_extend PySem.F.type_list_extend m_extend (two fun S ds hl => by
              match ds, hl with
              | [], _ => rfl
              | [x], _ => cases x <;> rfl
              | [x, y], hl => exact absurd rfl hl
              | x :: y :: z :: r, _ => cases x <;> cases y <;> rfl) ho ha hst en (hb _) el) fun _ _ => rfl
          · have : es = [] := List.length_eq_zero_iff.mp hl
            subst this
            have : xs = [] := List.length_eq_zero_iff.mp l
            subst this
            exact pe_eq (x_bm0 PySem.F.slot_list_pop PySem.F.type_list_pop m_pop ho (hb _) el) fun _ _ => rfl
          · obtain ⟨e, r, rfl⟩ := one_e hl
            exact pe_eq (x_bm PySem.F.slot_list_pop PySem.F.type_list_pop m_popAt (two fun S ds hl => by
              match ds, hl with
              | [], _ => rfl
              | [x], _ => cases x <;> rfl
              | [x, y], hl => exact absurd rfl hl
              | x :: y :: z :: r, _ => cases x <;> cases y <;> rfl) ho ha hst en (hb _) el) fun _ _ => rfl
      · exact nomatch h
/-! ### the text's own -/
theorem Cool.call (o : XOk Γ k cf C X W) (cl : Cool Γ k cf C X W) : CallH Γ X W k cf := ⟨o.tk, o.g, cl.cf.sh, cl.cf.df, cl.cf.lm, cl.cf.ix, cl.room, cl.cf.kp, o.gd⟩
theorem dfC_ok (hF : OkE Γ k cf F) (o : XOk Γ k cf C X W) (cl : Cool Γ k cf C X W) {i : Nat} {ps : List (Str × Option D)} {ks : List Keyword} (hn : nmK C x = some .glb) (hgl : C.gl.lookup x = some (.df i ps)) (h : dfC (F C) C i ps es ks = some c) (M : Nat) :
    PE X (.Call (.Name x p0) es ks pos) (rd Γ X W ((ite_ Γ.G cf M).e c)) := by
  unfold dfC at h
  split at h
  · exact nomatch h
  · rename_i em
    split at h
    · rename_i ar xs ys e1 e2 e3
      cases h
      cases M with
      | zero => exact pe_no
      | succ M =>
        obtain ⟨hg, hdb, hnn⟩ := o.glob hn
        obtain ⟨hmg, hps⟩ := o.wd.df _ _ _ (by rw [← o.gl]; exact hgl)
        have hmg : X.mg x = some (.ref (Γ.fnA i)) := by rw [o.g.mg]; exact hmg
        have hm := o.shp _ (of_decide_eq_true em)
        have har : params es.length (ks.filterMap (·.arg)) ((Γ.psn i).map fun x => (x, none)) 0 = some ar := by
          rw [← hps, List.map_map]
          exact e1
        obtain ⟨ha, ln, hst, l⟩ := mapE_ok (M := M) hF o e2
        obtain ⟨hw, lk, hkn⟩ := mapK_ok (M := M) hF o e3
        have cc := cl.call o
        cases es with
        | nil =>
          have : xs = [] := List.length_eq_zero_iff.mp l
          subst this
          cases ks with
          | nil =>
            unfold mapK at e3
            cases e3
            exact pe_eq (x_call0 cc hm har hg hmg hdb rfl rfl) fun _ _ => rfl
          | cons q r => exact pe_eq (x_callK0 cc hm har hg hmg hdb rfl hkn hw lk) fun _ _ => rfl
        | cons e r =>
          cases ks with
          | nil =>
            unfold mapK at e3
            cases e3
            rw [List.append_nil]
            exact pe_eq (x_call cc hm har hg hmg hdb rfl rfl ha ln hst) fun _ _ => rfl
          | cons q r' =>
            exact pe_eq (x_callK cc hm har hg hmg hdb rfl hkn ha ln hst hw lk) fun v S => evs_app
    · exact nomatch h
theorem mkC_ok (hF : OkE Γ k cf F) (o : XOk Γ k cf C X W) (cl : Cool Γ k cf C X W) {i : Nat} {ps : List (Str × Option D)} {ks : List Keyword} (hn : nmK C x = some .glb) (hgl : C.gl.lookup x = some (.cl i ps)) (h : mkC (F C) i ps es ks = some c) (M : Nat) :
    PE X (.Call (.Name x p0) es ks pos) (rd Γ X W ((ite_ Γ.G cf M).e c)) := by
  have hr : Room (1 + 1) X.A := cl.room.mono cl.cf.k2
  obtain ⟨hg, hdb, hnn⟩ := o.glob hn
  have hgl' : Γ.gl.lookup x = some (.cl i ps) := by rw [← o.gl]; exact hgl
  have hmg : X.mg x = some (.ref (Γ.clA i)) := by rw [o.g.mg]; exact o.wd.cl _ _ _ hgl'
  unfold mkC at h
  split at h
  · rename_i f d e
    obtain ⟨y, ey, rfl⟩ := map_of h
    cases M with
    | zero => exact pe_no
    | succ M =>
      have hs : noStar [e] = true := by
        unfold noStar
        split
        · rename_i y q; exact absurd rfl (nostar hF ey y q)
        · rfl
      exact pe_eq (x_mk (es := []) o.g hr hg hmg hdb (o.wd.mkc _ _ _ _ hgl').1 (x_cons (hF.ok C X W o e y ey M).1 x_nil (nostar hF ey)) (LenF.cons LenF.nil) hs) fun _ _ => rfl
  · rename_i g d h' e kp
    split at h
    · rename_i eg
      have eg := of_decide_eq_true eg
      subst eg
      obtain ⟨y, ey, rfl⟩ := map_of h
      cases M with
      | zero => exact pe_no
      | succ M =>
        exact pe_eq (x_mkK o.g hr hg hmg hdb (o.wd.mkc _ _ _ _ hgl').2 (x_kcons (hF.ok C X W o e y ey M).1 x_knil) (LenF.cons LenF.nil)) fun _ _ => rfl
    · exact nomatch h
  · exact nomatch h
end
end
end Ev
end
section
set_option Elab.async false
set_option linter.all false
set_option maxRecDepth 100000
set_option maxHeartbeats 400000
/-! THE TRANSLATION IS SOUND: the exception's calls, attributes, lambdas, calls at large. -/
namespace Ev
noncomputable section
open PySem PySem.Spec PyProof.Rows L2
section
variable {Γ : Gm} {k : Nat} {cf : CallF} {F : FE} {C : CC} {X : Cx} {W : WX} {e : Expr} {es : List Expr} {c : CE} {cs : List CE} {M : Nat} {pos p0 : Pos} {x : Str}
theorem noStar1 (hF : OkE Γ k cf F) {e : Expr} {y : CE} (ey : F C e = some y) : noStar [e] = true := by
  unfold noStar
  split
  · rename_i y q; exact absurd rfl (nostar hF ey y q)
  · rfl
theorem noStar2 (hF : OkE Γ k cf F) {e d : Expr} {y z : CE} (ey : F C e = some y) (ez : F C d = some z) : noStar [e, d] = true := by
  unfold noStar
  split
  · rename_i y q; exact absurd rfl (nostar hF ey y q)
  · exact noStar1 hF ez
/-! ### classes -/
theorem cls1_ok (o : XOk Γ k cf C X W) {d : D} (h : clsOf1 C e = some d) : clsD d = true ∧ PE X e (rd Γ X W fun _ S => .ok d S) ∧ ∀ y q, e ≠ .Starred y q := by
  unfold clsOf1 at h
  split at h
  · split at h
    · rename_i en
      split at h
      · rename_i d' ed
        split at h
        · rename_i ec
          cases h
          exact ⟨ec, o.globV en ed, nofun⟩
        · exact nomatch h
      · exact nomatch h
    · exact nomatch h
  · exact nomatch h
theorem clss_ok (o : XOk Γ k cf C X W) : ∀ {es : List Expr} {ds : List D}, clsOfs C es = some ds → clsA ds = true ∧ PA X es (rdL Γ X W fun _ S => .ok ds S)
  | [], ds, h => by unfold clsOfs at h; cases h; exact ⟨rfl, x_nil⟩
  | e :: r, ds, h => by
    unfold clsOfs at h
    split at h
    · rename_i d ds' e1 e2
      cases h
      obtain ⟨a, b, n⟩ := cls1_ok o e1
      obtain ⟨a2, b2⟩ := clss_ok o e2
      refine ⟨by unfold clsA; rw [a]; exact a2, ?_⟩
      exact x_cons b b2 n
    · exact nomatch h
theorem cls_ok (o : XOk Γ k cf C X W) {cs : List D} (h : clsOf C e = some cs) : ∃ dC, (cs = [dC] ∨ (dC = .tup cs ∧ clsA cs = true ∧ cs ≠ [])) ∧ PE X e (rd Γ X W fun _ S => .ok dC S) ∧ ∀ y q, e ≠ .Starred y q := by
  unfold clsOf at h
  split at h
  · split at h
    · rename_i d ds e1
      split at h
      · rename_i hl
        cases h
        obtain ⟨a, b⟩ := clss_ok o e1
        refine ⟨.tup (d :: ds), .inr ⟨rfl, a, nofun⟩, pe_eq (x_tup b) fun v S => ?_, nofun⟩
        show _ = prim Γ.G .tup (d :: ds) S
        show _ = p_tup Γ.G (d :: ds) S
        unfold p_tup fits
        rw [hl]
      · exact nomatch h
    · exact nomatch h
  · split at h
    · rename_i d e1
      cases h
      obtain ⟨a, b, n⟩ := cls1_ok o e1
      exact ⟨d, .inl rfl, b, n⟩
    · exact nomatch h
theorem hotC_ok (hF : OkE Γ k cf F) (o : XOk Γ k cf C X W) {y : Str} {g : Expr} {ks : List Keyword} (hy : C.hot = some y) (h : hotC (F C) C y g es ks = some c) (M : Nat) : PE X (.Call g es ks pos) (rd Γ X W ((ite_ Γ.G cf M).e c)) := by
  unfold hotC at h
  split at h
  · rename_i g p a
    split at h
    · rename_i eb
      simp only [Bool.and_eq_true, beq_iff_eq] at eb
      obtain ⟨eb, rfl⟩ := eb
      obtain ⟨hg, hdb, hn, hm⟩ := o.blt eb
      obtain ⟨z, ez, rfl⟩ := map_of h
      cases M with
      | zero => exact pe_no
      | succ M =>
        exact pe_eq (x_callB (c_repr o.gd o.u (by rw [o.g.base]; exact o.wd.sys)) (fun _ _ _ q => ⟨q, q.len1 rfl⟩) hg (hm (by decide)) rfl (x_cons (hF.ok C X W o a z ez M).1 x_nil (nostar hF ez)) hn hdb (noStar1 hF ez)) fun _ _ => rfl
    · exact nomatch h
  · rename_i g p z q cl
    split at h
    · rename_i eb
      simp only [Bool.and_eq_true, beq_iff_eq] at eb
      obtain ⟨eb, rfl, rfl⟩ := eb
      obtain ⟨hg, hdb, hn, hm⟩ := o.blt eb
      split at h
      · rename_i i cs en ec
        cases h
        cases M with
        | zero => exact pe_no
        | succ M =>
          obtain ⟨dC, hd, he, ns⟩ := cls_ok o ec
          obtain ⟨X0, a, oe, pn, rfl⟩ := o.hot _ hy
          obtain ⟨v1, v2, v3, v4⟩ := o.var en
          have hst : noStar [Expr.Name z q, cl] = true := by
            show noStar [cl] = true
            unfold noStar
            split
            · rename_i y q; exact absurd rfl (ns y q)
            · rfl
          exact pe_eq (x_exi (X := X0) o.g.K o.wd.xc o.wd.ck v1 v2 v3 v4 hg (hm (by decide)) rfl hn hdb hst hd he) fun _ _ => rfl
      · exact nomatch h
    · exact nomatch h
  · exact nomatch h
theorem attC_ok (hF : OkE Γ k cf F) (o : XOk Γ k cf C X W) {f : Str} (h : attC (F C) C e f = some c) (M : Nat) : PE X (.Attribute e f pos) (rd Γ X W ((ite_ Γ.G cf M).e c)) := by
  unfold attC at h
  split at h
  · split at h
    · rename_i eb
      obtain ⟨x, ex, rfl⟩ := map_of h
      cases M with
      | zero => exact pe_no
      | succ M => exact pe_eq (x_fld o.g.K o.wd.xc (base_ok eb) (hF.ok C X W o e x ex M).1) pr1_eq
    · exact nomatch h
  · rename_i y hy
    split at h
    · rename_i z p
      split at h
      · rename_i ez
        split at h
        · rename_i i en
          cases h
          cases M with
          | zero => exact pe_no
          | succ M =>
            obtain ⟨X0, a, oe, pn, rfl⟩ := o.hot _ hy
            obtain ⟨v1, v2, v3, v4⟩ := o.var en
            exact pe_eq (x_exf (X := X0) o.g.K o.wd.xc v1 v2 v3 v4) fun _ _ => rfl
        · exact nomatch h
      · exact nomatch h
    · exact nomatch h
theorem lamC_ok (o : XOk Γ k cf C X W) (cl : Cool Γ k cf C X W) {a : Arguments} {b : Expr} {sc : Scope} {p : Pos} (h : lamC C a b sc p = some c) (M : Nat) : PE X (.Lambda a b sc p) (rd Γ X W ((ite_ Γ.G cf M).e c)) := by
  unfold lamC at h
  split at h
  · exact nomatch h
  · rename_i hb
    split at h
    · exact nomatch h
    · rename_i hf
      split at h
      · rename_i i cs e1 e2
        cases h
        cases M with
        | zero => exact pe_no
        | succ M =>
          obtain ⟨p', c', P', nm, e, TB, cd, q, tab, nm_, uni, df, fr⟩ := (cl.lam hb i _ (lamIx_get e1)).is
          cases e
          refine pe_eq (x_lam (cs := cs) (c := c') (P := P') (nm := nm) ⟨TB, cd, q, tab, nm_, uni, df, fun y hy hk => ?_, fr, ?_⟩) fun _ _ => rfl
          · rcases freeOk_get hf hy hk with q | q
            · exact .inl (o.cel _ q).1
            · exact o.fre _ q
          · rw [o.N, fr]
            exact ix1_get e2
      · exact nomatch h
theorem callC_ok (hF : OkE Γ k cf F) (o : XOk Γ k cf C X W) {g : Expr} {ks : List Keyword} (h : callC (F C) C g es ks pos = some c) (M : Nat) : PE X (.Call g es ks pos) (rd Γ X W ((ite_ Γ.G cf M).e c)) := by
  unfold callC at h
  split at h
  · rename_i y hy
    exact hotC_ok hF o hy h M
  · rename_i hy
    have cl := o.cool hy
    split at h
    · split at h
      · exact methC_ok hF o h M
      · exact nomatch h
    · rename_i x p
      split at h
      · rename_i i en
        split at h
        · obtain ⟨xs, ex, rfl⟩ := map_of h
          cases M with
          | zero => exact pe_no
          | succ M =>
            obtain ⟨a, b, d, l⟩ := mapE_ok (M := M) hF o ex
            have hf := (var_ok (pos := p) o en M).1
            cases es with
            | nil =>
              have : xs = [] := List.length_eq_zero_iff.mp l
              subst this
              exact pe_eq (x_cal0 (cl.call o) hf) fun _ _ => rfl
            | cons e r => exact pe_eq (x_cal (cl.call o) hf a d) fun _ _ => rfl
        · exact nomatch h
      · rename_i en
        have gg := o.glob en
        split at h
        · rename_i i ps eg
          split at h
          · rename_i a b ed
            rw [beq_iff_eq] at ed
            subst ed
            split at h
            · rename_i y z ew ey ez
              cases h
              cases M with
              | zero => exact pe_no
              | succ M => exact pe_eq ((cl.dr ew).drw X W p pos a b _ _ o.g cl.room o.gd o.tk gg.1 (hF.ok C X W o a y ey M).1 (hF.ok C X W o b z ez M).1 (noStar2 hF ey ez)) fun _ _ => rfl
            · exact nomatch h
          · rename_i a b _ ed
            rw [beq_iff_eq] at ed
            subst ed
            split at h
            · rename_i y z ew ey ez
              cases h
              cases M with
              | zero => exact pe_no
              | succ M => exact pe_eq ((cl.dr ew).pot X W p pos a b _ _ o.g cl.room o.gd o.tk gg.1 (hF.ok C X W o a y ey M).1 (hF.ok C X W o b z ez M).1 (noStar2 hF ey ez)) fun _ _ => rfl
            · exact nomatch h
          · exact dfC_ok hF o cl en eg h M
          · exact nomatch h
        · rename_i i ps eg
          exact mkC_ok hF o cl en eg h M
        · exact nomatch h
        · rename_i eg
          exact bltC_ok hF o cl (by unfold bltn; rw [en]; dsimp only; rw [eg]) h M
      · exact nomatch h
    · exact nomatch h
end
end
end Ev
end
section
set_option Elab.async false
set_option linter.all false
set_option maxRecDepth 100000
set_option maxHeartbeats 400000
/-! THE TRANSLATION IS SOUND: targets, what is walked, comprehensions; all expressions. -/
namespace Ev
noncomputable section
open PySem PySem.Spec PyProof.Rows L2
/-! ### targets of names alone -/
/-- names and constants are ready or fail -/
def EvPl (ev : CE → Env → St → Res D) : Prop := ∀ c : CE, c.pl = true → ∀ v S, (∃ d, ev c v S = .ok d S) ∨ ev c v S = .fail
theorem evPl {G : Pg} {cf : CallF} : ∀ M, EvPl (ite_ G cf M).e
  | 0 => fun c h v S => .inr rfl
  | M + 1 => fun c h v S => by
    cases c with
    | lit d => exact .inl ⟨d, rfl⟩
    | var i =>
      show (∃ d, (match look v S i with | some d => Res.ok d S | none => .fail) = _) ∨ (match look v S i with | some d => Res.ok d S | none => .fail) = _
      cases look v S i with
      | none => exact .inr rfl
      | some d => exact .inl ⟨d, rfl⟩
    | _ => exact nomatch h
theorem setIdx_pl {G : Pg} (xs : List D) (S : St) : (∃ d S', p_setIdx G xs S = .ok d S') ∨ p_setIdx G xs S = .fail := by
  unfold p_setIdx
  repeat' split
  all_goals first | exact .inr rfl | exact .inl ⟨_, _, rfl⟩
mutual
theorem asgT_pl {G : Pg} {ev : CE → Env → St → Res D} (he : EvPl ev) : ∀ (t : Tg) (m : Nat) (d : D) (v : Env) (S : St), t.pl = true → (∃ v' S', asgT G ev m t d v S = .ok v' S') ∨ asgT G ev m t d v S = .fail
  | t, 0, d, v, S, _ => .inr (by simp only [asgT])
  | .nm i, m + 1, d, v, S, _ => by
    simp only [asgT]
    split
    · exact .inl ⟨_, _, rfl⟩
    · exact .inr rfl
  | .tp ts, m + 1, d, v, S, h => by
    simp only [asgT]
    split
    · rename_i xs e
      rcases asgTs_pl he ts m xs v S (by simpa [Tg.pl] using h) with ⟨v', S', e, _⟩ | e
      · exact .inl ⟨v', S', e⟩
      · exact .inr e
    · exact .inr rfl
  | .sb o i, m + 1, d, v, S, h => by
    have h : (o.pl && i.pl) = true := by simpa [Tg.pl] using h
    rw [Bool.and_eq_true] at h
    simp only [asgT]
    rcases he o h.1 v S with ⟨x, e⟩ | e
    · rw [e]
      show (∃ v' S', (ev i v S).bind _ = _) ∨ (ev i v S).bind _ = _
      rcases he i h.2 v S with ⟨y, e2⟩ | e2
      · rw [e2]
        show (∃ v' S', (p_setIdx G [x, y, d] S).bind _ = _) ∨ (p_setIdx G [x, y, d] S).bind _ = _
        rcases setIdx_pl (G := G) [x, y, d] S with ⟨z, S', e3⟩ | e3
        · rw [e3]; exact .inl ⟨v, S', rfl⟩
        · rw [e3]; exact .inr rfl
      · rw [e2]; exact .inr rfl
    · rw [e]; exact .inr rfl
theorem asgTs_pl {G : Pg} {ev : CE → Env → St → Res D} (he : EvPl ev) : ∀ (ts : List Tg) (m : Nat) (ds : List D) (v : Env) (S : St), tgsPl ts = true → (∃ v' S', asgTs G ev m ts ds v S = .ok v' S' ∧ ds.length = ts.length) ∨ asgTs G ev m ts ds v S = .fail
  | ts, 0, ds, v, S, _ => .inr (by simp only [asgTs])
  | [], m + 1, [], v, S, _ => .inl ⟨v, S, by simp only [asgTs], rfl⟩
  | [], m + 1, d :: ds, v, S, _ => .inr (by simp only [asgTs])
  | t :: ts, m + 1, [], v, S, _ => .inr (by simp only [asgTs])
  | t :: ts, m + 1, d :: ds, v, S, h => by
    simp only [asgTs]
    have ht : t.pl = true ∧ tgsPl ts = true := by
      unfold tgsPl at h
      split at h
      · rename_i e; exact ⟨e, h⟩
      · exact nomatch h
    rcases asgT_pl he t m d v S ht.1 with ⟨v', S', e⟩ | e
    · rw [e]
      show (∃ v' S'', asgTs G ev m ts ds _ _ = _ ∧ _) ∨ asgTs G ev m ts ds _ _ = _
      rcases asgTs_pl he ts m ds v' S' ht.2 with ⟨v2, S2, e2, l⟩ | e2
      · exact .inl ⟨v2, S2, e2, by rw [List.length_cons, List.length_cons, l]⟩
      · exact .inr e2
    · rw [e]; exact .inr rfl
end
section
variable {Γ : Gm} {k : Nat} {cf : CallF} {F : FE} {C : CC} {X : Cx} {W : WX} {e : Expr} {es : List Expr} {c : CE} {cs : List CE} {M n0 : Nat} {pos p0 : Pos} {x : Str}
theorem pgs_no {ts : List Nat} : PGs X es (rTs Γ X n0 ts fun _ _ _ => .fail) := ⟨fun _ _ _ _ _ _ _ _ _ ⟨_, _, _, _, _, _, _, _, h⟩ => h.elim⟩
theorem pgs_eq {ts : List Nat} {f g : List D → EvF Env} (p : PGs X es (rTs Γ X n0 ts f)) (h : ∀ d v S, g d v S = f d v S) : PGs X es (rTs Γ X n0 ts g) := by
  have : g = f := funext fun d => funext fun v => funext fun S => h d v S
  rw [this]; exact p
theorem mapT_ok {f : Expr → Option Tg} {G : Pg} {ev : CE → Env → St → Res D} (hf : ∀ e g, f e = some g → ∀ m, PG X e (rT Γ X W n0 g.ixs (asgT G ev m g)) ∧ ∀ y q, e ≠ .Starred y q) :
    ∀ {es : List Expr} {ts : List Tg}, mapT f es = some ts → (∀ m, PGs X es (rTs Γ X n0 (tgsIxs ts) (asgTs G ev m ts))) ∧ noStar es = true ∧ ts.length = es.length
  | [], ts, h => by
    unfold mapT at h
    cases h
    refine ⟨fun m => ?_, rfl, rfl⟩
    cases m with
    | zero => exact pgs_eq pgs_no fun _ _ _ => by simp only [asgTs]
    | succ m => exact pgs_eq gs_nil fun ds v S => by cases ds <;> first | (simp only [asgTs]; done) | (simp only [asgTs]; rfl)
  | e :: r, ts, h => by
    unfold mapT at h
    split at h
    · rename_i t et
      split at h
      · rename_i ts' ets
        cases h
        obtain ⟨a, b, l⟩ := mapT_ok hf ets
        have hq := hf e t et
        have ns := (hq 0).2
        refine ⟨fun m => ?_, ?_, by rw [List.length_cons, List.length_cons, l]⟩
        · unfold tgsIxs
          cases m with
          | zero => exact pgs_eq pgs_no fun _ _ _ => by simp only [asgTs]
          | succ m => exact pgs_eq (gs_cons (hq m).1 (a m) (each_cons ns)) fun ds v S => by cases ds <;> first | (simp only [asgTs]; done) | (simp only [asgTs]; rfl)
        · unfold noStar
          split
          · rename_i y q; exact absurd rfl (ns y q)
          · exact b
      · exact nomatch h
    · exact nomatch h
theorem compT_ok (hF : OkE Γ k cf F) (o : XOk Γ k cf C X W) : ∀ (n : Nat) {e : Expr} {g : Tg}, compT (F C) C n e = some g → ∀ m, PG X e (rT Γ X W n0 g.ixs (asgT Γ.G (ite_ Γ.G cf M).e m g)) ∧ ∀ y q, e ≠ .Starred y q
  | 0, e, g, h, m => by unfold compT at h; exact nomatch h
  | n + 1, e, g, h, m => by
    unfold compT at h
    split at h
    · rename_i x p
      have fin : ∀ {i}, ixS C.N x = some i → Loc X.env.scope x → (X.fn x = true ∨ X.env.scope.names.lookup x = some .local) → PG X (.Name x p) (rT Γ X W n0 (Tg.nm i).ixs (asgT Γ.G (ite_ Γ.G cf M).e m (.nm i))) ∧ ∀ y q, Expr.Name x p ≠ .Starred y q := fun {i} hi hl hf => by
        refine ⟨?_, nofun⟩
        cases m with
        | zero => exact pg_eq pg_no fun _ _ _ => by simp only [asgT]
        | succ m =>
          rw [show (Tg.nm i).ixs = [i] by simp only [Tg.ixs]]
          exact pg_eq (g_nm o.nd (by rw [o.N]; exact ixS_get hi) hl hf) fun d v S => by first | (simp only [asgT]; done) | (simp only [asgT]; rfl)
      split at h
      · rename_i ek
        obtain ⟨i, hi, rfl⟩ := map_of h
        exact fin hi (.inl (o.loc _ ek)) (.inr (o.loc _ ek))
      · rename_i ek
        obtain ⟨i, hi, rfl⟩ := map_of h
        exact fin hi (.inr (o.cel _ ek).1) (.inl (o.cel _ ek).2)
      · exact nomatch h
    · rename_i es kk p
      split at h
      · rename_i hh
        split at h
        · rename_i ts et
          split at h
          · rename_i pl
            cases h
            obtain ⟨a, b, l⟩ := mapT_ok (X := X) (n0 := n0) (fun e g h m => compT_ok hF o n h m) et
            refine ⟨?_, nofun⟩
            cases m with
            | zero => exact pg_eq pg_no fun _ _ _ => by simp only [asgT]
            | succ m =>
              rw [show (Tg.tp ts).ixs = tgsIxs ts by simp only [Tg.ixs]]
              refine pg_eq (g_tp (o.cool hh).calm (a m) b (fun ds v S hl P E q => ?_) fun ds v S P E q => ?_) fun d v S => by first | (simp only [asgT]; done) | (simp only [asgT]; rfl)
              · rcases asgTs_pl (G := Γ.G) (evPl (cf := cf) M) ts m ds v S pl with ⟨v', S', e, l2⟩ | e
                · exact hl (l2.trans l)
                · rw [e] at q; exact q
              · rcases asgTs_pl (G := Γ.G) (evPl (cf := cf) M) ts m ds v S pl with ⟨v', S', e, l2⟩ | e
                · rw [e] at q ⊢; exact q
                · rw [e] at q; exact q.elim
          · exact nomatch h
        · exact nomatch h
      · exact nomatch h
    · rename_i ob i p
      split at h
      · split at h
        · exact nomatch h
        · rename_i hne
          split at h
          · rename_i x y ex ey
            cases h
            refine ⟨?_, nofun⟩
            cases m with
            | zero => exact pg_eq pg_no fun _ _ _ => by simp only [asgT]
            | succ m =>
              rw [show (Tg.sb x y).ixs = [] by simp only [Tg.ixs]]
              refine pg_eq (g_sb o.u (hF.ok C X W o ob x ex M).1 (hF.ok C X W o i y ey M).1 fun v => ?_) fun d v S => by first | (simp only [asgT]; done) | (simp only [asgT]; rfl)
              cases i <;> first | rfl | exact absurd rfl (hne _ _ _ _)
          · exact nomatch h
      · exact nomatch h
    · exact nomatch h
/-! ### what is walked -/
theorem isTup_of {tg : Expr} (h : isTup tg = true) : ∃ es kk p, tg = .Tuple es kk p := by
  unfold isTup at h
  split at h
  · exact ⟨_, _, _, rfl⟩
  · exact nomatch h
theorem srcC_ok (hF : OkE Γ k cf F) (o : XOk Γ k cf C X W) {tg it : Expr} {s : Src} (h : srcC (F C) C tg it = some s) : PI X tg it (rdG Γ X W (IR0 (Γ := Γ) X.K) (src (ite_ Γ.G cf M).e s)) ∧ ∀ x, foldedSetIterable it X.env x = pure x := by
  have val : ∀ {it : Expr}, (F C it).map Src.val = some s → PI X tg it (rdG Γ X W (IR0 (Γ := Γ) X.K) (src (ite_ Γ.G cf M).e s)) := fun {it} h => by
    obtain ⟨x, ex, rfl⟩ := map_of h
    exact pi_eq (i_val (hF.ok C X W o it x ex M).1) fun _ _ => rfl
  unfold srcC at h
  split at h
  · exact nomatch h
  · rename_i g p as q
    refine ⟨?_, fun _ => rfl⟩
    split at h
    · rename_i eb
      obtain ⟨hg, hdb, hn, hm⟩ := o.blt eb
      split at h
      · rename_i er
        rw [beq_iff_eq] at er
        subst er
        have hm := hm (by decide)
        split at h
        · rename_i a
          obtain ⟨x, ex, rfl⟩ := map_of h
          exact pi_eq (i_rng1 hg hm (hF.ok C X W o a x ex M).1 (noStar1 hF ex)) fun _ _ => rfl
        · rename_i a b
          split at h
          · rename_i x y ex ey
            cases h
            exact pi_eq (i_rng2 hg hm (hF.ok C X W o a x ex M).1 (hF.ok C X W o b y ey M).1 (noStar2 hF ex ey)) fun _ _ => rfl
          · exact nomatch h
        · exact nomatch h
      · split at h
        · rename_i er
          rw [beq_iff_eq] at er
          subst er
          have hm := hm (by decide)
          split at h
          · rename_i a et
            obtain ⟨es, kk, tp, rfl⟩ := isTup_of et
            obtain ⟨x, ex, rfl⟩ := map_of h
            exact pi_eq (i_enm hg hm (hF.ok C X W o a x ex M).1 (noStar1 hF ex)) fun _ _ => rfl
          · exact nomatch h
        · split at h
          · rename_i er
            rw [beq_iff_eq] at er
            subst er
            have hm := hm (by decide)
            split at h
            · rename_i a b et
              obtain ⟨es, kk, tp, rfl⟩ := isTup_of et
              split at h
              · rename_i x y ex ey
                cases h
                exact pi_eq (i_zip hg hm (hF.ok C X W o a x ex M).1 (hF.ok C X W o b y ey M).1 (noStar2 hF ex ey)) fun _ _ => rfl
              · exact nomatch h
            · exact nomatch h
          · exact val h
    · exact val h
  · rename_i hns _
    exact ⟨val h, fun x => by cases it <;> first | rfl | exact absurd rfl (hns _ _ _)⟩
end
end
end Ev
end
section
set_option Elab.async false
set_option linter.all false
set_option maxRecDepth 100000
set_option maxHeartbeats 400000
/-! THE TRANSLATION IS SOUND: comprehensions; all expressions. -/
namespace Ev
noncomputable section
open PySem PySem.Spec PyProof.Rows L2
theorem relabel_free {sc : Scope} : ∀ {names : List (Str × NameKind)} {x : Str}, names.lookup x = some .free →
    (names.map fun (n, k) => if (k == NameKind.free && sc.kind == .function && sc.names.lookup n == some .cell) then (n, NameKind.cell) else (n, k)).lookup x = some .cell ∨
    (names.map fun (n, k) => if (k == NameKind.free && sc.kind == .function && sc.names.lookup n == some .cell) then (n, NameKind.cell) else (n, k)).lookup x = some .free
  | [], _, h => by simp at h
  | (n, k₀) :: r, x, h => by
    have ih := @relabel_free sc r x
    show List.lookup x ((if (k₀ == NameKind.free && sc.kind == .function && sc.names.lookup n == some .cell) = true then (n, NameKind.cell) else (n, k₀)) :: (r.map _)) = _ ∨ List.lookup x ((if (k₀ == NameKind.free && sc.kind == .function && sc.names.lookup n == some .cell) = true then (n, NameKind.cell) else (n, k₀)) :: (r.map _)) = _
    cases hx : x == n with
    | true =>
      simp only [List.lookup_cons, hx] at h
      cases h
      split
      · exact .inl (by simp only [List.lookup_cons, hx])
      · exact .inr (by simp only [List.lookup_cons, hx])
    | false =>
      simp only [List.lookup_cons, hx] at h
      split
      · simp only [List.lookup_cons, hx]; exact ih h
      · simp only [List.lookup_cons, hx]; exact ih h
section
variable {Γ : Gm} {k : Nat} {cf : CallF} {F : FE} {C : CC} {X : Cx} {W : WX} {e : Expr} {es : List Expr} {c : CE} {cs : List CE} {M n0 : Nat} {pos p0 : Pos} {x : Str}
/-- the context of a comprehension's block -/
theorem XOk.blk (o : XOk Γ k cf C X W) (hh : C.hot = none) {sc : Scope} (hk : sc.kind = .function) {s : Shared} {H : Hp} {Ca : Addr} {cl : List (Str × Addr)} {fp : List Addr} : XOk Γ k cf (blkC C sc) (X.blk s H sc (compEnvC sc cl Ca X.env) fp) WF where
  wd := o.wd
  g := ⟨o.g.P, o.g.w, o.g.K, o.g.mg, o.g.base⟩
  tk := fun u s' ⟨_, _, _, _, _, _, _, _, _, _, _, _, _, _, _, _, w⟩ => w.elim
  gl := o.gl
  shp := o.shp
  N := o.N
  nd := o.nd
  kd := hk
  loc := fun x h => lookup_relS_keep nofun h
  cel := fun x h => ⟨lookup_relS_keep nofun h, by show (sc.names.lookup x == some .cell) = true; rw [show sc.names.lookup x = some .cell from h]; rfl⟩
  fre := fun x h => relabel_free h
  glb := fun x h => lookup_relS_keep nofun h
  u := o.u
  gd := o.gd
  un := unpT_calm (show (X.blk s H sc (compEnvC sc cl Ca X.env) fp).calm = true from (o.cool hh).calm)
  cool := fun _ => ⟨(o.cool hh).calm, (o.cool hh).cf, (o.cool hh).room, (fun h => nomatch h), (fun h => nomatch h), (o.cool hh).dr⟩
  hot := fun z hz => absurd (show C.hot = some z from hz) (by rw [hh]; exact nofun)
theorem tests_ok (hF : OkE Γ k cf F) (o : XOk Γ k cf C X W) {ifs : List Expr} (h : mapE (F C) ifs = some cs) (hl : cs.length ≤ 1) : PTs X ifs (rdB Γ X W (tests (ite_ Γ.G cf M).e cs)) := by
  cases ifs with
  | nil =>
    unfold mapE at h
    cases h
    exact ⟨fun pins s σ H Q I q => pts_nil.run pins s σ H Q I (by
      obtain ⟨ρ, env, S, hl, h⟩ := q
      exact rd_end (R := RB) hl h rfl)⟩
  | cons e r =>
    unfold mapE at h
    split at h
    · rename_i x ex
      split at h
      · rename_i xs exs
        cases h
        obtain ⟨_, _, _, l⟩ := mapE_ok (M := M) hF o exs
        have : xs = [] := by
          cases xs with
          | nil => rfl
          | cons a b => simp at hl
        subst this
        have : r = [] := List.length_eq_zero_iff.mp l.symm
        subst this
        have q := (hF.ok C X W o e x ex M).2
        have e : tests (ite_ Γ.G cf M).e [x] = tst ((ite_ Γ.G cf M).e x) := by
          funext v S
          show Res.bind _ _ = Res.bind _ _
          congr 1
          funext y S1
          cases truth S1 y with
          | none => rfl
          | some k => cases k <;> rfl
        rw [e]
        exact pts_one q
      · exact nomatch h
    · exact nomatch h
theorem lcC_get {elt t it : Expr} {ifs : List Expr} {sc : Scope} (h : lcC F C elt t it ifs sc = some c) : C.hot = none ∧ sc.kind = .function ∧ uniq sc.names = true ∧ freeOk C.sc sc.names = true ∧ ∃ s g cs e, srcC (F C) C t it = some s ∧ compT (F (blkC C sc)) (blkC C sc) 5 t = some g ∧ mapE (F (blkC C sc)) ifs = some cs ∧
    F (blkC C sc) elt = some e ∧ (∀ i ∈ g.ixs, i ∈ (ownIx C.N sc.names).map (·.2)) ∧ cs.length ≤ 1 ∧ c = .comp g s cs e ((ownIx C.N sc.names).map (·.2)) := by
  unfold lcC at h
  split at h
  · exact nomatch h
  · rename_i hh
    split at h
    · exact nomatch h
    · rename_i eb
      simp only [Bool.and_eq_true, beq_iff_eq] at eb
      split at h
      · rename_i s g cs e e1 e2 e3 e4
        split at h
        · rename_i eq
          simp only [Bool.and_eq_true, decide_eq_true_eq] at eq
          cases h
          exact ⟨hh, eb.1, eb.2.1, eb.2.2, s, g, cs, e, e1, e2, e3, e4, subIx_get eq.1, eq.2.2, rfl⟩
        · exact nomatch h
      · exact nomatch h
theorem blkOk_of (o : XOk Γ k cf C X W) {sc : Scope} (hk : sc.kind = .function) (hu : uniq sc.names = true) (hf : freeOk C.sc sc.names = true) : BlkOk X.N X.env.scope sc (ownIx C.N sc.names) where
  kind := hk
  uniq := fun y hy => uniq_get hu hy
  ix := fun p hp => by rw [o.N]; exact ownIx_get hp
  free := fun y hy hk => by
    rcases freeOk_get hf hy hk with q | q
    · exact .inl (o.cel _ q).1
    · exact o.fre _ q
  own := fun y hy hk => by rw [o.N]; exact ownIx_all hy hk
theorem compL_eq {G : Pg} {ev : CE → Env → St → Res D} {g : Tg} {cs : List CE} {e : CE} : ∀ (n : Nat) (i : Ev.It) (acc : List D) (v : Env) (S : St), compL G ev g cs e n i acc v S = eLc (asgT G ev 9 g) (tests ev cs) (ev e) n i acc v S
  | 0, i, acc, v, S => rfl
  | n + 1, i, acc, v, S => by
    rw [compL_succ]; unfold eLc
    cases next S i with
    | bad => rfl
    | stop => rfl
    | yld d j =>
      refine congrArg (Res.bind _) (funext fun v' => funext fun S1 => ?_)
      refine congrArg (Res.bind _) (funext fun b => funext fun S2 => ?_)
      cases b with
      | true =>
        refine congrArg (Res.bind _) (funext fun y => funext fun S3 => ?_)
        exact compL_eq n _ _ _ _
      | false => exact compL_eq n _ _ _ _
theorem comp_eq {G : Pg} {ev : CE → Env → St → Res D} {s : Src} {g : Tg} {cs : List CE} {e : CE} {own : List Nat} {v : Env} {S : St} (N : Nat) :
    ((src ev s v S).bind fun i S1 => match snap v S1 with
      | (v', S2) => (compL G ev g cs e N i [] (wipeE v' own) S2).nox.bind fun d S3 => .ok d (unsnap S1 v S3)) = eComp (src ev s) (asgT G ev 9 g) (tests ev cs) (ev e) own N v S := by
  refine congrArg (Res.bind _) (funext fun i => funext fun S1 => ?_)
  show (compL G ev g cs e N i [] (wipeE (snap v S1).1 own) (snap v S1).2).nox.bind _ = _
  rw [compL_eq]
theorem comp_eqE {G : Pg} {ih : IH} {s : Src} {g : Tg} {cs : List CE} {e : CE} {own : List Nat} {v : Env} {S : St} : stepE G cf ih (.comp g s cs e own) v S = eComp (src ih.e s) (asgT G ih.e 9 g) (tests ih.e cs) (ih.e e) own 100000 v S := by
  show e_comp g s cs e own G cf ih v S = _
  unfold e_comp
  exact comp_eq 100000
theorem lcC_ok (hF : OkE Γ k cf F) (o : XOk Γ k cf C X W) {elt t it : Expr} {ifs : List Expr} {sc : Scope} (h : lcC F C elt t it ifs sc = some c) (M : Nat) : PE X (.ListComp elt [⟨t, it, ifs, 0⟩] sc pos) (rd Γ X W ((ite_ Γ.G cf M).e c)) := by
  obtain ⟨hh, hk, hu, hf, s, g, cs, e, e1, e2, e3, e4, hts, hl, rfl⟩ := lcC_get h
  cases M with
  | zero => exact pe_no
  | succ M =>
    obtain ⟨hi, hs⟩ := srcC_ok (M := M) hF o e1
    refine pe_eq (x_lc (f := asgT Γ.G (ite_ Γ.G cf M).e 9 g) 100000 (Nat.le_refl _) (o.cool hh).calm o.nd hi (blkOk_of o hk hu hf) hts (fun s H Ca cl fp n0 => (compT_ok hF (o.blk hh hk) 5 e2 9).1)
      (fun s H Ca cl fp => tests_ok (M := M) hF (o.blk hh hk) e3 hl) (fun s H Ca cl fp => (hF.ok _ _ _ (o.blk hh hk) elt e e4 M).1) hs) fun v S => ?_
    rw [ite_e]
    exact comp_eqE
theorem constD_ok {q : Const} {d : D} {kk : Nat} (h : constD q = some d) : PE X (.Constant q kk pos) (rd Γ X W fun _ S => .ok d S) := by
  unfold constD at h
  split at h
  · cases h; exact x_lit pe_non fun _ _ _ => rfl
  · cases h; exact x_lit pe_bl fun _ _ _ => rfl
  · cases h; exact x_lit pe_int fun _ _ _ => rfl
  · split at h
    · rename_i e
      cases h
      exact x_lit pe_str fun _ _ _ => ⟨rfl, of_decide_eq_true e⟩
    · exact nomatch h
  · exact nomatch h
/-! ### all of them -/
theorem step_ok (hF : OkE Γ k cf F) : OkE Γ k cf (stepCE F) where
  st := fun C y p => rfl
  ok := fun C X W o e c h M => by
    unfold stepCE at h
    split at h
    · obtain ⟨d, ed, rfl⟩ := map_of h
      cases M with
      | zero => exact .no
      | succ M => exact .val (pe_eq (constD_ok ed) fun _ _ => rfl) fun _ => rfl
    · split at h
      · rename_i i en
        cases h
        exact var_ok o en M
      · rename_i en
        obtain ⟨d, ed, rfl⟩ := map_of h
        cases M with
        | zero => exact .no
        | succ M => exact .val (pe_eq (o.globV en ed) fun _ _ => rfl) fun _ => rfl
      · exact nomatch h
    · rename_i a op b p
      split at h
      · rename_i p x y ep ex ey
        cases h
        cases M with
        | zero => exact .no
        | succ M => exact .val (pe_eq (x_bin (op_ok ep) (hF.ok C X W o a x ex M).1 (hF.ok C X W o b y ey M).1) pr2_eq) fun _ => rfl
      · exact nomatch h
    · rename_i op a p
      split at h
      · obtain ⟨x, ex, rfl⟩ := map_of h
        cases M with
        | zero => exact .no
        | succ M =>
          have q := hF.ok C X W o a x ex M
          exact ⟨pe_eq (x_not q.1) pr1_eq, pt_eq (t_not q.2) fun v S => by
            show ((ite_ Γ.G cf (M + 1)).e (.pr .not_ [x]) v S).bind _ = _
            rw [pr1_eq]⟩
      · obtain ⟨x, ex, rfl⟩ := map_of h
        cases M with
        | zero => exact .no
        | succ M => exact .val (pe_eq (x_un u_neg (hF.ok C X W o a x ex M).1) pr1_eq) fun _ => rfl
      · exact nomatch h
    · have q := compB_ok (pos := by assumption) hF o h M
      exact ⟨q.1, q.2.pt⟩
    · exact cmpC_ok hF o h M
    · rename_i c a b p
      split at h
      · rename_i z x y ez ex ey
        cases h
        cases M with
        | zero => exact .no
        | succ M =>
          have qc := hF.ok C X W o c z ez M
          have qa := hF.ok C X W o a x ex M
          have qb := hF.ok C X W o b y ey M
          exact ⟨pe_eq (x_ife qc.2 qa.1 qb.1) fun _ _ => rfl, pt_eq (t_ife qc.2 qa.2 qb.2) fun _ _ => rfl⟩
      · exact nomatch h
    · obtain ⟨xs, ex, rfl⟩ := map_of h
      cases M with
      | zero => exact .no
      | succ M => exact .val (pe_eq (x_tup (mapE_ok (M := M) hF o ex).1) fun _ _ => rfl) fun _ => rfl
    · obtain ⟨xs, ex, rfl⟩ := map_of h
      cases M with
      | zero => exact .no
      | succ M => exact .val (pe_eq (x_lst (mapE_ok (M := M) hF o ex).1) fun _ _ => rfl) fun _ => rfl
    · split at h
      · cases h
        cases M with
        | zero => exact .no
        | succ M => exact .val (pe_eq x_dic fun _ _ => rfl) fun _ => rfl
      · exact nomatch h
    · exact subC_ok hF o h M
    · exact .val (attC_ok hF o h M) fun _ => rfl
    · split at h
      · exact .val (lcC_ok hF o h M) fun _ => rfl
      · exact nomatch h
    · split at h
      · rename_i hh
        exact .val (lamC_ok o (o.cool hh) h M) fun _ => rfl
      · exact nomatch h
    · exact call_val (callC_ok hF o h M)
    · exact nomatch h
theorem cE_ok : ∀ n, OkE Γ k cf (cE n)
  | 0 => ⟨(fun C X W o e c h => nomatch h), fun C y p => rfl⟩
  | n + 1 => step_ok (cE_ok n)
end
end
end Ev
end
section
set_option Elab.async false
set_option linter.all false
set_option maxRecDepth 100000
set_option maxHeartbeats 400000
/-! THE TRANSLATION IS SOUND: assignments. -/
namespace Ev
noncomputable section
open PySem PySem.Spec PyProof.Rows L2
section
variable {Γ : Gm} {k : Nat} {cf : CallF} {C : CC} {X : Cx} {W : WX} {e : Expr} {es : List Expr} {c : CS} {cs : List CE} {M n0 : Nat} {pos p0 : Pos} {x : Str}
/-! ### stores exchanged -/
theorem blockKind_of (o : XOk Γ k cf C X W) : X.env.blockKind = .function := by
  unfold Env.blockKind
  rw [o.kd]
  rfl
/-- the names that may be exchanged, as the model collects them -/
def swN (env : PySem.Env) (line : Nat) (ts : List Expr) : List Str := ts.filterMap fun
    | .Name id pos => if env.kindOf id == some .local && pos.line == line then some id else none
    | _ => none
theorem swN_le {env : PySem.Env} {line : Nat} : ∀ ts : List Expr, (swN env line ts).length ≤ ts.length := fun ts => List.length_filterMap_le _ _
theorem swN_par (o : XOk Γ k cf C X W) {line : Nat} : ∀ {ts : List Expr} {xs : List Str}, parN C line ts = some xs → swN X.env line ts = xs ∧ (∀ x ∈ xs, X.env.scope.names.lookup x = some .local) ∧ xs.length = ts.length
  | [], xs, h => by unfold parN at h; cases h; exact ⟨rfl, by simp, rfl⟩
  | e :: r, xs, h => by
    unfold parN at h
    split at h
    · rename_i h0; exact nomatch h0
    · rename_i x p r' he
      cases he
      split at h
      · rename_i eb
        simp only [Bool.and_eq_true, beq_iff_eq] at eb
        split at h
        · rename_i ys ey
          cases h
          obtain ⟨a, b, l⟩ := swN_par o ey
          have hl := o.loc _ eb.1
          refine ⟨?_, fun y hy => ?_, by rw [List.length_cons, List.length_cons, l]⟩
          · unfold swN
            rw [List.filterMap_cons]
            have : (X.env.kindOf x == some NameKind.local && p.line == line) = true := by
              rw [Bool.and_eq_true]
              exact ⟨by rw [show X.env.kindOf x = some .local from hl]; rfl, by rw [eb.2.2]; exact beq_self_eq_true _⟩
            simp only [this, if_true]
            exact congrArg (x :: ·) a
          · rcases List.mem_cons.mp hy with rfl | hy
            · exact hl
            · exact b y hy
        · exact nomatch h
      · exact nomatch h
    · exact nomatch h
theorem swN_not (o : XOk Γ k cf C X W) {line : Nat} : ∀ {ts : List Expr}, notPar C line ts = true → (swN X.env line ts).length < ts.length
  | [], h => by unfold notPar at h; exact nomatch h
  | e :: r, h => by
    unfold notPar at h
    unfold swN
    rw [List.filterMap_cons, List.length_cons]
    have le := swN_le (env := X.env) (line := line) r
    unfold swN at le
    split at h
    · rename_i x p
      split at h
      · rename_i eb
        have : (X.env.kindOf x == some NameKind.local && p.line == line) = false := by
          rw [Bool.or_eq_true] at eb
          rcases eb with eb | eb
          · rw [beq_iff_eq] at eb
            rw [show X.env.kindOf x = some .cell from (o.cel _ eb).1]
            rfl
          · rw [Bool.not_eq_true'] at eb
            rw [eb, Bool.and_false]
        simp only [this]
        exact Nat.lt_succ_of_le le
      · have ih := swN_not o h
        unfold swN at ih
        split
        · exact Nat.lt_succ_of_lt ih
        · rw [List.length_cons]; exact Nat.succ_lt_succ ih
    · split
      · exact Nat.lt_succ_of_le le
      · rename_i hn _ y ey
        exfalso
        cases e <;> first | exact hn _ _ rfl | exact nomatch ey
/-- the decision, written out -/
theorem sw_eq {ts vs : List Expr} {k1 k2 : Nat} {p1 p2 : Pos} {env : PySem.Env} : swappedStores [.Tuple ts k1 p1] (.Tuple vs k2 p2) env =
    (if (!(ts.length == 2 || ts.length == 3) || vs.length != ts.length || env.blockKind != .function) = true then pure none else
      if (vs.any fun | .Starred .. => true | _ => false) = true then pure none else
        if ((swN env ((ts.head?.map (·.pos.line)).getD 0) ts).length != ts.length || (swN env ((ts.head?.map (·.pos.line)).getD 0) ts).eraseDups.length != (swN env ((ts.head?.map (·.pos.line)).getD 0) ts).length) = true then pure none else
          if vs.all (foldedForSure 8) = true then pure none else
            if vs.all (constantsAlone 8) = true then unsupported "assign.tuple-of-constant-expressions:order-of-the-stores" else pure (some (swN env ((ts.head?.map (·.pos.line)).getD 0) ts))) := by
  unfold swappedStores
  dsimp only
  rfl
theorem head_line {ts : List Expr} : (ts.head?.map (·.pos.line)).getD 0 = headLine ts := by cases ts <;> rfl
theorem noSw_ok (o : XOk Γ k cf C X W) {t e : Expr} (h : noSw C t e = true) (ht : ∀ l p, t ≠ .List l p) : swappedStores [t] e X.env = pure none := by
  unfold noSw at h
  split at h
  · rename_i ts k1 p1 vs k2 p2
    rw [sw_eq, head_line]
    split
    · rfl
    · rename_i h1
      split
      · rfl
      · split
        · rfl
        · rename_i h3
          split
          · rfl
          · rename_i h4
            exfalso
            simp only [Bool.or_eq_true, Bool.not_eq_true', bne_iff_ne, ne_eq, not_or, Bool.not_eq_false, Decidable.not_not, beq_iff_eq] at h h1 h3
            rcases h with h | h | h | h
            · rw [Bool.or_eq_false_iff] at h
              rcases h1.1.1 with q | q
              · rw [q] at h; exact nomatch h.1
              · rw [q] at h; exact nomatch h.2
            · rw [h1.1.2, beq_self_eq_true] at h; exact nomatch h
            · have := swN_not o h
              omega
            · exact h4 h
  · rename_i hne
    unfold swappedStores
    cases t <;> first | rfl | exact absurd rfl (ht _ _) | (cases e <;> first | rfl | exact absurd rfl (hne _ _ _ _ _ _ rfl))
theorem swC_ok (o : XOk Γ k cf C X W) {ts vs : List Expr} {xs : List Str} {k1 k2 : Nat} {p1 p2 : Pos} (h : swC C ts vs = some xs) (hv : noStar vs = true) :
    swappedStores [.Tuple ts k1 p1] (.Tuple vs k2 p2) X.env = pure (some xs) ∧ (∀ x ∈ xs, X.env.scope.names.lookup x = some .local) ∧ xs.length = ts.length ∧ vs.length = ts.length ∧ ts.length ≤ 3 := by
  unfold swC at h
  split at h
  · exact nomatch h
  · rename_i e1
    simp only [Bool.and_eq_true, Bool.or_eq_true, beq_iff_eq] at e1
    split at h
    · exact nomatch h
    · rename_i ys e2
      split at h
      · rename_i e3
        cases h
        simp only [Bool.and_eq_true, Bool.not_eq_true', beq_iff_eq] at e3
        obtain ⟨a, b, l⟩ := swN_par o e2
        refine ⟨?_, b, l, e1.2, by omega⟩
        rw [sw_eq, head_line, a]
        have st : (vs.any fun | .Starred .. => true | _ => false) = false := by
          clear e1 e3
          induction vs with
          | nil => rfl
          | cons v r ih =>
            unfold noStar at hv
            split at hv
            · exact nomatch hv
            · rename_i hn
              rw [List.any_cons, ih hv, Bool.or_false]
              cases v <;> first | rfl | exact absurd rfl (hn _ _)
        rw [if_neg, if_neg, if_neg, if_neg, if_neg]
        · rw [e3.2.2]; exact nofun
        · rw [e3.2.1]; exact nofun
        · simp only [Bool.or_eq_true, bne_iff_ne, ne_eq, not_or, Decidable.not_not]
          exact ⟨l, e3.1⟩
        · rw [st]; exact nofun
        · simp only [Bool.or_eq_true, Bool.not_eq_true', bne_iff_ne, ne_eq, not_or, Decidable.not_not, Bool.not_eq_false, beq_iff_eq]
          exact ⟨⟨e1.1, e1.2⟩, blockKind_of o⟩
      · exact nomatch h
end
end
end Ev
end
section
set_option Elab.async false
set_option linter.all false
set_option maxRecDepth 100000
set_option maxHeartbeats 400000
/-! THE TRANSLATION IS SOUND: statements. -/
namespace Ev
noncomputable section
open PySem PySem.Spec PyProof.Rows L2
section
variable {Γ : Gm} {k : Nat} {cf : CallF} {C : CC} {X : Cx} {W : WX} {e : Expr} {es : List Expr} {c : CS} {M n0 : Nat} {pos p0 : Pos} {x : Str}
theorem asgTs_st {G : Pg} {ev : CE → Env → St → Res D} : ∀ {is : List Nat} {m : Nat} {ds : List D} {v : Env} {S : St}, is.length < m → asgTs G ev (m + 1) (is.map .nm) ds v S = stAll is ds v S
  | [], m, ds, v, S, h => by
    cases ds <;> simp only [List.map_nil, asgTs, stAll]
  | i :: is, 0, ds, v, S, h => by simp at h
  | i :: is, m + 1, ds, v, S, h => by
    cases ds with
    | nil => simp only [List.map_cons, asgTs, stAll]
    | cons d ds =>
      simp only [List.map_cons, asgTs, stAll, asgT]
      cases e : store v S i d with
      | none => rfl
      | some q =>
        obtain ⟨v', S'⟩ := q
        show asgTs G ev (m + 1) (is.map .nm) ds v' S' = stAll is ds v' S'
        exact asgTs_st (by simpa using h)
theorem locN_of (o : XOk Γ k cf C X W) : ∀ {xs : List Str} {is : List Nat}, ix1 C.N xs = some is → (∀ x ∈ xs, X.env.scope.names.lookup x = some .local) → LocN X is xs
  | [], is, h, _ => by unfold ix1 at h; cases h; trivial
  | x :: r, is, h, hl => by
    unfold ix1 at h
    split at h
    · rename_i i js e1 e2
      cases h
      exact ⟨by rw [o.N]; exact ixS_get e1, hl x List.mem_cons_self, locN_of o e2 fun y hy => hl y (List.mem_cons_of_mem _ hy)⟩
    · exact nomatch h
theorem ix1_len : ∀ {N xs : List Str} {is : List Nat}, ix1 N xs = some is → xs.length = is.length := fun h => by
  have := congrArg List.length (ix1_get h)
  simpa using this.symm
/-- a comprehension stored by its own end -/
theorem set_lc {F : FE} (hF : OkE Γ k cf F) (o : XOk Γ k cf C X W) {elt t it : Expr} {ifs : List Expr} {sc : Scope} {c : CE} {i : Nat} {y : Str} {py lp : Pos} (h : lcC F C elt t it ifs sc = some c) (M : Nat) (hy : X.N[i]? = some y) (hyl : X.env.scope.names.lookup y = some .local)
    (hsw : swapsWith (.ListComp elt [⟨t, it, ifs, 0⟩] sc lp) (some (.Name y py)) pos.line X.env = pure true) :
    PS X (.Assign [.Name y py] (.ListComp elt [⟨t, it, ifs, 0⟩] sc lp) pos) (rS Γ X W n0 (eAsg ((ite_ Γ.G cf M).e c) (eNm i))) := by
  obtain ⟨hh, hk, hu, hf, s, g, cs, e, e1, e2, e3, e4, hts, hl, rfl⟩ := lcC_get h
  cases M with
  | zero => exact ps_eq ps_no fun _ _ => rfl
  | succ M =>
    obtain ⟨hi, hs⟩ := srcC_ok (M := M) hF o e1
    refine ps_eq (y_setLc (f := asgT Γ.G (ite_ Γ.G cf M).e 9 g) 100000 (Nat.le_refl _) (o.cool hh).calm o.nd hi (blkOk_of o hk hu hf) hts (fun s H Ca cl fp n0 => (compT_ok hF (o.blk hh hk) 5 e2 9).1)
      (fun s H Ca cl fp => tests_ok (M := M) hF (o.blk hh hk) e3 hl) (fun s H Ca cl fp => (hF.ok _ _ _ (o.blk hh hk) elt e e4 M).1) hs hy hyl hsw) fun v S => ?_
    refine congrArg (fun f => eAsg f (eNm i) v S) (funext fun v => funext fun S => ?_)
    rw [ite_e]
    exact comp_eqE
theorem eNm_eq {i : Nat} (d : D) (v : Env) (S : St) : asgT Γ.G (ite_ Γ.G cf M).e 9 (.nm i) d v S = eNm i d v S := by
  first | (simp only [asgT]; done) | (simp only [asgT]; rfl)
theorem compT_name {f : Expr → Option CE} {n : Nat} {p : Pos} {g : Tg} (h : compT f C (n + 1) (.Name x p) = some g) : ∃ i, g = .nm i ∧ ixS C.N x = some i := by
  unfold compT at h
  dsimp only at h
  split at h
  · obtain ⟨i, hi, rfl⟩ := map_of h
    exact ⟨i, rfl, hi⟩
  · obtain ⟨i, hi, rfl⟩ := map_of h
    exact ⟨i, rfl, hi⟩
  · exact nomatch h
theorem cE_lc {m : Nat} {elt : Expr} {gs : List Comprehension} {sc : Scope} {lp : Pos} {x : CE} (h : cE (m + 1) C (.ListComp elt gs sc lp) = some x) : ∃ t it ifs, gs = [⟨t, it, ifs, 0⟩] ∧ lcC (cE m) C elt t it ifs sc = some x := by
  unfold cE stepCE at h
  dsimp only at h
  split at h
  · exact ⟨_, _, _, rfl, h⟩
  · exact nomatch h
theorem asgC_ok {m : Nat} (o : XOk Γ k cf C X W) {t e : Expr} (h : asgC (cE (m + 1) C) C t e = some c) (M : Nat) : PS X (.Assign [t] e pos) (rS Γ X W n0 (stepS Γ.G (ite_ Γ.G cf M) c)) := by
  unfold asgC at h
  split at h
  · rename_i hsw
    split at h
    · rename_i g x eg ex
      cases h
      have hg := compT_ok (M := M) (n0 := n0) (cE_ok (Γ := Γ) (k := k) (cf := cf) (m + 1)) o 5 eg 9
      have he := ((cE_ok (Γ := Γ) (k := k) (cf := cf) (m + 1)).ok C X W o e x ex M).1
      have nl : ∀ l p, t ≠ .List l p := fun l p q => by subst q; exact nomatch eg
      have hw := noSw_ok o hsw nl
      have h1 : (assignEach [t] X.env).map (·.2) = [assign t X.env] := each_cons hg.2
      have plain : swapsWithSole [t] e pos.line X.env = pure false → PS X (.Assign [t] e pos) (rS Γ X W n0 (stepS Γ.G (ite_ Γ.G cf M) (.asg g x))) := fun hs => ps_eq (y_asg he hg.1 hs hw h1) fun _ _ => rfl
      cases e with
      | ListComp elt gs sc lp =>
        cases t with
        | Name y py =>
          cases hb : (X.env.blockKind == .function && X.env.kindOf y == some .local && py.line == lp.line && !(sc.names.any fun (n, k) => n == y && (k == .local || k == .cell))) with
          | false =>
            refine plain ?_
            show (pure _ : Sem Bool) = pure false
            exact congrArg pure hb
          | true =>
            have hl : X.env.scope.names.lookup y = some .local := by
              simp only [Bool.and_eq_true, beq_iff_eq] at hb
              exact hb.1.1.2
            obtain ⟨i, rfl, hi⟩ := compT_name eg
            obtain ⟨t', it, ifs, rfl, ex⟩ := cE_lc ex
            · refine ps_eq (set_lc (i := i) (cE_ok m) o ex M (by rw [o.N]; exact ixS_get hi) hl ?_) fun v S => ?_
              · show (pure _ : Sem Bool) = pure true
                exact congrArg pure hb
              · show Res.st v _ (fun x S1 => Res.st v (asgT Γ.G (ite_ Γ.G cf M).e 9 (.nm i) x v S1) _) = _
                have : (fun (x : D) (S1 : St) => Res.st v (asgT Γ.G (ite_ Γ.G cf M).e 9 (.nm i) x v S1) fun v' S2 => .ok (.nx v') S2) = fun x S1 => Res.st v (eNm i x v S1) fun v' S2 => .ok (.nx v') S2 := by
                  funext x S1
                  rw [eNm_eq]
                rw [this]
        | _ => exact plain rfl
      | SetComp => exact nomatch ex
      | DictComp => exact nomatch ex
      | _ => exact plain rfl
    · exact nomatch h
  · split at h
    · rename_i ts k1 p1 vs k2 p2
      split at h
      · rename_i xs es
        split at h
        · rename_i is ys e1 e2
          split at h
          · rename_i hnd
            cases h
            cases M with
            | zero => exact ps_eq ps_no fun _ _ => rfl
            | succ M =>
              obtain ⟨ha, ln, hst, l⟩ := mapE_ok (M := M) (cE_ok (Γ := Γ) (k := k) (cf := cf) (m + 1)) o e2
              have hw := fun k1 k2 p1 p2 => (swC_ok (k1 := k1) (k2 := k2) (p1 := p1) (p2 := p2) o es hst).1
              obtain ⟨_, hl, l1, l2, l3⟩ := swC_ok (k1 := 0) (k2 := 0) (p1 := default) (p2 := default) o es hst
              have li := ix1_len e1
              refine ps_eq (y_par o.un o.nd (locN_of o e1 hl) (of_decide_eq_true hnd) li (by omega) ha (hw _ _ _ _)) fun v S => ?_
              show Res.st v _ (fun x S1 => Res.st v (asgT Γ.G (ite_ Γ.G cf (M + 1)).e 9 (.tp (is.map .nm)) x v S1) _) = Res.st v _ _
              refine congrArg (Res.st v _) (funext fun x => funext fun S1 => ?_)
              simp only [asgT]
              cases items S1 x with
              | none => rfl
              | some xs => exact congrArg (fun r => Res.st v r _) (asgTs_st (by omega))
          · exact nomatch h
        · exact nomatch h
      · exact nomatch h
    · exact nomatch h
end
end
end Ev
end
section
set_option Elab.async false
set_option linter.all false
set_option maxRecDepth 100000
set_option maxHeartbeats 400000
/-! THE TRANSLATION IS SOUND: all statements. -/
namespace Ev
noncomputable section
open PySem PySem.Spec PyProof.Rows L2
/-- the translation of statements is sound -/
structure OkS (Γ : Gm) (k : Nat) (cf : CallF) (F : FS) : Prop where
  ok : ∀ C X W, XOk Γ k cf C X W → C.blk = false → ∀ s c, F C s = some c → ∀ M n0, PS X s (rS Γ X W n0 (stepS Γ.G (ite_ Γ.G cf M) c))
section
variable {Γ : Gm} {k : Nat} {cf : CallF} {F : FS} {C : CC} {X : Cx} {W : WX} {e : Expr} {ss : List Stmt} {c : CS} {cs : List CS} {M n0 : Nat} {pos p0 : Pos} {x : Str}
theorem pss_no : PSs X ss (rS Γ X W n0 fun _ _ => .fail) := ⟨fun _ _ _ _ _ _ ⟨_, _, _, _, _, _, h⟩ => h.elim⟩
theorem mapS_t (hF : OkS Γ k cf F) (o : XOk Γ k cf C X W) (hb : C.blk = false) : ∀ {ss : List Stmt} {cs : List CS}, mapS (F C) ss = some cs → PSt X ss (rS Γ X W n0 (stepSs Γ.G (ite_ Γ.G cf M) cs))
  | [], cs, h => by unfold mapS at h; cases h; exact z_nil
  | s :: r, cs, h => by
    unfold mapS at h
    split at h
    · rename_i x ex
      split at h
      · rename_i xs exs
        cases h
        have e : stepSs Γ.G (ite_ Γ.G cf M) (x :: xs) = eSeq (stepS Γ.G (ite_ Γ.G cf M) x) (stepSs Γ.G (ite_ Γ.G cf M) xs) := funext fun v => funext fun S => stepSs_cons _ _ _ _ _ _
        rw [e]
        exact z_cons (hF.ok C X W o hb s x ex M n0) (mapS_t hF o hb exs)
      · exact nomatch h
    · exact nomatch h
theorem mapS_ok (hF : OkS Γ k cf F) (o : XOk Γ k cf C X W) (hb : C.blk = false) (h : mapS (F C) ss = some cs) : ∀ (M : Nat), PSs X ss (rS Γ X W n0 ((ite_ Γ.G cf M).ss cs))
  | 0 => pss_no
  | M + 1 => (mapS_t hF o hb h).pss
/-- in an except suite -/
theorem XOk.suite (o : XOk Γ k cf C X W) {a : Addr} {oe : Obj} {cls : Value} {d : Option Addr} {pn : List (Addr × Obj)} (hz : L2N.Zn cls d oe) (hf : ∃ vs, oe.data = .fields vs) (z : Str) : XOk Γ k cf (hotOf C z) (X.suite a ((a, oe) :: pn)) NoW where
  wd := o.wd
  g := ⟨o.g.P, o.g.w, o.g.K, o.g.mg, o.g.base⟩
  tk := fun u s' ⟨_, _, _, _, _, _, _, _, _, _, _, _, _, _, _, _, w⟩ => w.elim
  gl := o.gl
  shp := o.shp
  N := o.N
  nd := o.nd
  kd := o.kd
  loc := o.loc
  cel := o.cel
  fre := o.fre
  glb := o.glb
  u := o.u
  gd := o.gd
  un := unpT_hot (hotC_suite hz hf)
  cool := fun h => nomatch h
  hot := fun z _ => ⟨X, a, oe, pn, rfl⟩
/-- in a try -/
theorem XOk.tr (o : XOk Γ k cf C X W) (hh : C.hot = none) (hb : C.blk = false) {W' : WX} {pn : List (Addr × Obj)} {xe : Value → Shared → Prop} (tk : L2N.Takes (X.tr pn xe) W') (ps : PassesOwn (model X.prog X.w) X.A X.env xe) : XOk Γ k cf C (X.tr pn xe) W' where
  wd := o.wd
  g := ⟨o.g.P, o.g.w, o.g.K, o.g.mg, o.g.base⟩
  tk := tk
  gl := o.gl
  shp := o.shp
  N := o.N
  nd := o.nd
  kd := o.kd
  loc := o.loc
  cel := o.cel
  fre := o.fre
  glb := o.glb
  u := o.u
  gd := o.gd
  un := unpT_calm (show (X.tr pn xe).calm = true from (o.cool hh).calm)
  cool := fun h => ⟨(o.cool hh).calm, (o.cool hh).cf, (o.cool hh).room, fun _ => ⟨((o.cool hh).fr hb).1, ((o.cool hh).fr hb).2.1, ps⟩, fun _ i e m => ⟨((o.cool hh).lam hb i e m).is⟩, (o.cool hh).dr⟩
  hot := fun z hz => absurd (show C.hot = some z from hz) (by rw [hh]; exact nofun)
theorem clsNo_ok (o : XOk Γ k cf C X W) {j : Nat} (h : clsNo C x = some j) : Names X x (clsVal Γ j) := by
  unfold clsNo at h
  split at h
  · rename_i en
    obtain ⟨hg, hdb, hn⟩ := o.glob en
    split at h
    · rename_i i ps eg
      split at h
      · rename_i lt
        cases h
        have : Nat.ble 100 j = false := by
          have := Nat.le_of_ble_eq_true lt
          cases e : Nat.ble 100 j with
          | false => rfl
          | true => have := Nat.le_of_ble_eq_true e; omega
        refine ⟨hg, hdb, .inl ?_⟩
        unfold clsVal
        rw [this, o.g.mg]
        exact o.wd.cl _ _ _ (by rw [← o.gl]; exact eg)
      · exact nomatch h
    · rename_i eg
      have m : (x, j) ∈ tyL := PySem.mem_of_lookup h
      have hb : x ∈ bNames := List.mem_append_left _ (List.mem_map.mpr ⟨_, m, rfl⟩)
      refine ⟨hg, hdb, .inr ⟨by rw [o.g.mg]; exact o.wd.bl x hb (by rw [← o.gl]; exact eg), ?_, hn⟩⟩
      have q := tyBoot _ m
      have : Nat.ble 100 j = true := by
        simp only [tyL, List.mem_cons, List.mem_nil_iff, or_false, Prod.mk.injEq] at m
        rcases m with m | m | m | m | m | m | m | m | m | m <;> rw [m.2] <;> rfl
      unfold clsVal
      rw [this]
      exact q
    · exact nomatch h
  · exact nomatch h
theorem hdsC_ok (hF : OkS Γ k cf F) (o : XOk Γ k cf C X W) (hb : C.blk = false) : ∀ {hds : List ExceptHandler} {hs : List (Nat × Option Nat × List CS)}, hdsC F C hds = some hs → HdsE Γ X n0 (ite_ Γ.G cf M) hds hs
  | [], hs, h => by unfold hdsC at h; cases h; exact .nil
  | hd :: r, hs, h => by
    unfold hdsC at h
    split at h
    · rename_i h0; exact nomatch h0
    · rename_i x p nm b q r' he
      cases he
      split at h
      · rename_i b0 b1 j rs ej er
        have hr := hdsC_ok hF o hb er
        have hn := clsNo_ok o ej
        split at h
        · split at h
          · rename_i y ey
            cases h
            exact .one hn (fun a oe cls d pn hz hf => mapS_ok hF (o.suite hz hf "") hb ey M) hr
          · exact nomatch h
        · rename_i z
          split at h
          · rename_i i y e1 e2 e3
            cases h
            simp only [Bool.and_eq_true, beq_iff_eq] at e1
            exact .as_ hn (by rw [o.N]; exact ixS_get e2) (o.loc _ e1.1) (fun a oe cls d pn hz hf => mapS_ok hF (o.suite hz hf z) hb e3 M) hr
          · exact nomatch h
      · exact nomatch h
    · exact nomatch h
theorem whl_eq {ih : IH} {a : CE} {b : List CS} : ∀ (n : Nat) (v : Env) (S : St), whileL ih a b n v S = eWhl (ih.e a) (ih.ss b) n v S
  | 0, v, S => rfl
  | n + 1, v, S => by
    rw [whileL_succ]; unfold eWhl
    refine congrArg (Res.st v _) (funext fun y => funext fun S1 => ?_)
    cases truth S1 y with
    | none => rfl
    | some t =>
      cases t with
      | false => rfl
      | true =>
        refine congrArg (Res.bind _) (funext fun o => funext fun S2 => ?_)
        cases o with
        | nx v' => exact whl_eq n _ _
        | ct v' => exact whl_eq n _ _
        | bk v' => rfl
        | rt d v' => rfl
        | xc c fs v' => rfl
theorem for_eq {G : Pg} {ih : IH} {t : Tg} {b : List CS} : ∀ (n : Nat) (i : Ev.It) (v : Env) (S : St), forL G ih t b n i v S = eFor (asgT G ih.e 9 t) (ih.ss b) n i v S
  | 0, i, v, S => rfl
  | n + 1, i, v, S => by
    rw [forL_succ]; unfold eFor
    cases next S i with
    | bad => rfl
    | stop => rfl
    | yld d j =>
      refine congrArg (Res.st v _) (funext fun v1 => funext fun S1 => ?_)
      refine congrArg (Res.bind _) (funext fun o => funext fun S2 => ?_)
      cases o with
      | nx v' => exact for_eq n _ _ _
      | ct v' => exact for_eq n _ _ _
      | bk v' => rfl
      | rt d v' => rfl
      | xc c fs v' => rfl
theorem forN_eq {G : Pg} {ih : IH} {t : Tg} {s : Src} {b : List CS} {v : Env} {S : St} (N : Nat) : ((src ih.e s v S).st v fun i S1 => forL G ih t b N i v S1) = (src ih.e s v S).st v fun i S1 => eFor (asgT G ih.e 9 t) (ih.ss b) N i v S1 :=
  congrArg (Res.st v _) (funext fun i => funext fun S1 => for_eq N i v S1)
theorem whl_eqE {G : Pg} {ih : IH} {a : CE} {b : List CS} {v : Env} {S : St} : stepS G ih (.whl a b) v S = eWhl (ih.e a) (ih.ss b) 100000 v S := by
  show s_whl a b G ih v S = _
  unfold s_whl
  exact whl_eq 100000 v S
theorem forN_eqE {G : Pg} {ih : IH} {t : Tg} {s : Src} {b : List CS} {v : Env} {S : St} : stepS G ih (.for_ t s b) v S = (src ih.e s v S).st v fun i S1 => eFor (asgT G ih.e 9 t) (ih.ss b) 100000 i v S1 := by
  show s_for_ t s b G ih v S = _
  unfold s_for_
  exact forN_eq 100000
theorem ret_ok {m : Nat} (o : XOk Γ k cf C X W) (h : (cE m C e).map CS.ret = some c) : PS X (.Return (some e) pos) (rS Γ X W n0 (stepS Γ.G (ite_ Γ.G cf M) c)) := by
  obtain ⟨x, ex, rfl⟩ := map_of h
  exact ps_eq (y_ret ((cE_ok (Γ := Γ) (k := k) (cf := cf) m).ok C X W o e x ex M).1) fun _ _ => rfl
theorem retN_ok : PS X (.Return none pos) (rS Γ X W n0 (stepS Γ.G (ite_ Γ.G cf M) (.ret (.lit .non)))) := by
  cases M with
  | zero => exact ps_eq ps_no fun _ _ => rfl
  | succ M => exact ps_eq y_retN fun _ _ => rfl
theorem stepS_ok {m : Nat} (hF : OkS Γ k cf F) : OkS Γ k cf (stepCS (cE (m + 1)) F) where
  ok := fun C X W o hb s c h M n0 => by
    have hE := cE_ok (Γ := Γ) (k := k) (cf := cf) (m + 1)
    unfold stepCS at h
    split at h
    · split at h
      · exact asgC_ok o h M
      · exact ret_ok o h
      · cases h; exact retN_ok
      · cases h; exact ps_eq y_pass fun _ _ => rfl
      · exact nomatch h
    · rename_i hh
      have cl := o.cool hh
      split at h
      · exact asgC_ok o h M
      · rename_i e p
        unfold exprC at h
        split at h
        · exact nomatch h
        · exact nomatch h
        · exact nomatch h
        · rename_i n1 n2 n3
          obtain ⟨x, ex, rfl⟩ := map_of h
          refine ps_eq (y_exp (hE.ok C X W o e x ex M).1 ?_) fun _ _ => rfl
          cases e <;> first | rfl | exact absurd rfl (n1 _ _ _ _) | exact absurd rfl (n2 _ _ _ _) | exact absurd rfl (n3 _ _ _ _ _)
      · rename_i q a b p
        split at h
        · rename_i x y z ex ey ez
          cases h
          exact ps_eq (y_if (hE.ok C X W o q x ex M).2 (mapS_ok hF o hb ey M) (mapS_ok hF o hb ez M)) fun _ _ => rfl
        · exact nomatch h
      · rename_i q b p
        split at h
        · rename_i x y ex ey
          cases h
          exact ps_eq (y_whl 100000 (cl.fr hb).2.2 (hE.ok C X W o q x ex M).2 (mapS_ok hF o hb ey M)) fun v S => whl_eqE
        · exact nomatch h
      · rename_i t it b p
        split at h
        · rename_i g s y eg es ey
          cases h
          obtain ⟨hi, hs⟩ := srcC_ok (M := M) hE o es
          exact ps_eq (y_for (f := asgT Γ.G (ite_ Γ.G cf M).e 9 g) (ts := g.ixs) 100000 (cl.fr hb).2.2 cl.calm hi (compT_ok hE o 5 eg 9).1 (mapS_ok hF o hb ey M) hs) fun v S => forN_eqE
        · exact nomatch h
      · exact ret_ok o h
      · cases h; exact retN_ok
      · rename_i e p
        unfold rseC at h
        split at h
        · rename_i x p1 a p2
          split at h
          · rename_i en
            split at h
            · rename_i i ps eg
              split at h
              · rename_i f d
                obtain ⟨y, ey, rfl⟩ := map_of h
                obtain ⟨hg, hdb, hn⟩ := o.glob en
                have hgl' : Γ.gl.lookup x = some (.cl i [(f, d)]) := by rw [← o.gl]; exact eg
                have hmg : X.mg x = some (.ref (Γ.clA i)) := by rw [o.g.mg]; exact o.wd.cl _ _ _ hgl'
                exact ps_eq (y_rse o.g (cl.room.mono cl.cf.k2) hg hmg hdb (o.wd.mkc _ _ _ _ hgl').1 cl.calm o.tk (x_cons (hE.ok C X W o a y ey M).1 x_nil (nostar hE ey)) (LenF.cons LenF.nil) (noStar1 hE ey)) fun _ _ => rfl
              · exact nomatch h
            · exact nomatch h
          · exact nomatch h
        · exact nomatch h
      · rename_i b hs p
        split at h
        · rename_i h0 h1 x y ex ey
          cases h
          exact ps_eq (y_try o.wd.ex o.g.K (cl.fr hb).1 (cl.fr hb).2.1 o.nd o.tk (fun W' pn xe tk ps => mapS_ok hF (o.tr hh hb tk ps) hb ex M) (hdsC_ok hF o hb ey)) fun _ _ => rfl
        · exact nomatch h
      · cases h; exact ps_eq y_pass fun _ _ => rfl
      · cases h; exact ps_eq y_brk fun _ _ => rfl
      · cases h; exact ps_eq y_cnt fun _ _ => rfl
      · exact nomatch h
theorem cS_ok : ∀ n, OkS Γ k cf (cS n)
  | 0 => ⟨fun C X W o hb s c h => (nomatch h)⟩
  | n + 1 => stepS_ok (cS_ok n)
end
end
end Ev
end
section
set_option Elab.async false
set_option linter.all false
set_option maxRecDepth 100000
set_option maxHeartbeats 400000
/-! THE TRANSLATION IS SOUND: defs and lambdas by the depth of the calls. -/
namespace Ev
noncomputable section
open PySem PySem.Spec PyProof.Rows L2 LamX
structure LamS (Γ : Gm) (F : DefI) (i : Nat) (e : Expr) : Prop where
  is : ∃ (pos : Pos) (c P : Addr) (nm : Nat → Nat → Str), e = .Lambda (Γ.lam i).params (Γ.lam i).body (Γ.lam i).scope pos ∧ TabB Γ.base Γ.mg c P ∧ F.cdv = .ref c ∧ F.qual ++ ".<locals>." = (Γ.lam i).qual ∧ (P, nm) ∈ Γ.T ∧ nm pos.line pos.col = (Γ.lam i).q ∧
    (∀ p ∈ Γ.T, p.1 = P → p.2 = nm) ∧ (∀ env, defaultsOf (Γ.lam i).params env = ([], [])) ∧ (Γ.lam i).fr = freeOf (Γ.lam i).scope
/-- the text of a def -/
structure DefT (Γ : Gm) (b : Bool) (i : Nat) (d : Df) : Prop where
  is : ∃ (F : DefI) (C : CC), DefF Γ i F d ∧ C.drw = b ∧ C.N = F.N ∧ C.sc = F.scope ∧ C.gl = Γ.gl ∧ (∀ q ∈ C.shp, q ∈ Γ.shp) ∧ C.hot = none ∧ C.blk = false ∧ (∀ j e, (j, e) ∈ C.lamT → LamS Γ F j e) ∧ bodyC C d.cells F.body = some (d.body, d.fin) ∧
    ∀ us : List Value, us.length = (Γ.psn i).length → bindArgs (Γ.fd i) ⟨us, []⟩ = pure ((Γ.psn i).zip us)
structure LamT (Γ : Gm) (i : Nat) (d : Lm) : Prop where
  is : LamF Γ i d ∧ ∃ C : CC, C.N = (Γ.lam i).N ∧ C.sc = (Γ.lam i).scope ∧ C.gl = Γ.gl ∧ (∀ q ∈ C.shp, q ∈ Γ.shp) ∧ C.hot = none ∧ C.blk = false ∧ C.lamT = [] ∧ cE 60 C (Γ.lam i).body = some d.body
structure PgOk0 (Γ : Gm) : Prop where
  wd : WOk Γ
  sh : ShpOk Γ
  defs : ∀ i d, Γ.G.defs.get i = some d → ∃ b, DefT Γ b i d
  lams : ∀ i d, Γ.G.lams.get i = some d → LamT Γ i d
  kp : ∀ i : Nat, PySem.W.keepIn Γ.K (.ref (Γ.fnA i)) = true
structure PgOk (Γ : Gm) : Prop extends PgOk0 Γ where
  dr : ∀ k, 3 ≤ k → DrwOk Γ k
section
variable {Γ : Gm} {k : Nat} {cf : CallF} {C : CC} {i : Nat} {F : DefI} {d : Df}
theorem xok_dcx (P : PgOk0 Γ) (cfk : CfK Γ k cf) (dr : C.drw = true → DrwOk Γ k) (hF : DefF Γ i F d) (h1 : C.N = F.N) (h2 : C.sc = F.scope) (h3 : C.gl = Γ.gl) (h4 : ∀ q ∈ C.shp, q ∈ Γ.shp) (h5 : C.hot = none) (h7 : ∀ j e, (j, e) ∈ C.lamT → LamS Γ F j e)
    {A : Around} {outer : List PySem.Env} {s : Shared} {H : Hp} {E : XK} (hr : Room (k + 1) A) (hg : A.guards = some []) : XOk Γ k cf C (dcx Γ F i A outer s H E) (fun cls d _ H => E cls d H) where
  wd := P.wd
  g := ⟨rfl, rfl, rfl, rfl, rfl⟩
  tk := L2N.takes_of rfl rfl rfl rfl
  gl := h3
  shp := h4
  N := h1.symm
  nd := hF.S.nd
  kd := hF.S.kind
  loc := fun x h => by rw [h2] at h; exact h
  cel := fun x h => ⟨by rw [h2] at h; exact h, rfl⟩
  fre := fun x h => by rw [h2] at h; exact .inr h
  glb := fun x h => by rw [h2] at h; exact h
  u := by have := hr.un; show A.units + 3 + 100 < _; omega
  gd := hg
  un := unpT_calm rfl
  cool := fun _ => ⟨rfl, cfk, hr.deeper _, fun _ => ⟨rfl, rfl, passes_of (X := dcx Γ F i A outer s H E) rfl⟩, fun _ j e m => by
    obtain ⟨pos, c, P, nm, a1, a2, a3, a4, a5, a6, a7, a8, a9⟩ := (h7 j e m).is
    exact ⟨pos, c, P, nm, a1, a2, a3, a4, a5, a6, a7, a8 _, a9⟩, dr⟩
  hot := fun z hz => absurd hz (by rw [h5]; exact nofun)
theorem xok_lcx (P : PgOk0 Γ) (cfk : CfK Γ k cf) (dr : C.drw = true → DrwOk Γ k) {d : Lm} (hF : LamF Γ i d) (h1 : C.N = (Γ.lam i).N) (h2 : C.sc = (Γ.lam i).scope) (h3 : C.gl = Γ.gl) (h4 : ∀ q ∈ C.shp, q ∈ Γ.shp) (h5 : C.hot = none) (h7 : C.lamT = [])
    {cl : List (Str × Addr)} {c' f : Addr} {A : Around} {outer : List PySem.Env} {s : Shared} {H : Hp} {E : XK} (hr : Room (k + 1) A) (hg : A.guards = some []) : XOk Γ k cf C (lcx Γ (Γ.lam i) cl c' f A outer s H E) (fun cls d _ H => E cls d H) where
  wd := P.wd
  g := ⟨rfl, rfl, rfl, rfl, rfl⟩
  tk := L2N.takes_of rfl rfl rfl rfl
  gl := h3
  shp := h4
  N := h1.symm
  nd := hF.sc.nd
  kd := hF.sc.kind
  loc := fun x h => by rw [h2] at h; exact h
  cel := fun x h => by rw [h2] at h; exact absurd rfl (hF.sc.nocell _ (PySem.mem_of_lookup h))
  fre := fun x h => by rw [h2] at h; exact .inr h
  glb := fun x h => by rw [h2] at h; exact h
  u := by have := hr.un; show A.units + 3 + 100 < _; omega
  gd := hg
  un := unpT_calm rfl
  cool := fun _ => ⟨rfl, cfk, hr.deeper _, fun _ => ⟨rfl, rfl, passes_of (X := lcx Γ (Γ.lam i) cl c' f A outer s H E) rfl⟩, (fun _ j e m => by rw [h7] at m; exact nomatch m), dr⟩
  hot := fun z hz => absurd hz (by rw [h5]; exact nofun)
theorem pst_no {X : Cx} {W : WX} {n0 : Nat} {ss : List Stmt} : PSt X ss (rS Γ X W n0 fun _ _ => .fail) := ⟨fun _ _ _ _ _ _ _ _ ⟨_, _, _, _, _, _, h⟩ => h.elim⟩
theorem mapS_tN {X : Cx} {W : WX} {n0 M : Nat} {ss : List Stmt} {cs : List CS} (o : XOk Γ k cf C X W) (hb : C.blk = false) (h : mapS (cS 60 C) ss = some cs) : PSt X ss (rS Γ X W n0 ((ite_ Γ.G cf M).ss cs)) := by
  cases M with
  | zero => exact pst_no
  | succ M => exact mapS_t (cS_ok 60) o hb h
theorem splitRet_eq : ∀ {b ini : List Stmt} {e : Expr}, splitRet b = some (ini, e) → ∃ pos, b = ini ++ [.Return (some e) pos]
  | [], ini, e, h => by unfold splitRet at h; exact nomatch h
  | [s], ini, e, h => by
    unfold splitRet at h
    dsimp only at h
    split at h
    · cases h; exact ⟨_, rfl⟩
    · exact nomatch h
  | s :: s2 :: r, ini, e, h => by
    unfold splitRet at h
    dsimp only at h
    split at h
    · rename_i i e' es
      cases h
      obtain ⟨pos, hp⟩ := splitRet_eq es
      exact ⟨pos, by rw [hp]; rfl⟩
    · exact nomatch h
/-- a body by its translation -/
theorem body_ok {X : Cx} {W : WX} {M : Nat} {b : List Stmt} {cells : List Nat} {cs : List CS} {fin : Option CE} (o : XOk Γ k cf C X W) (hb : C.blk = false) (h : bodyC C cells b = some (cs, fin)) :
    BodyOk Γ X W b ((ite_ Γ.G cf M).ss cs) (match (generalizing := false) fin with | some e => some ((ite_ Γ.G cf M).e e) | none => none) := by
  have one : (match mapS (cS 60 C) b with
    | some cs => some (cs, none)
    | none => none) = some (cs, fin) → BodyOk Γ X W b ((ite_ Γ.G cf M).ss cs) (match (generalizing := false) fin with | some e => some ((ite_ Γ.G cf M).e e) | none => none) := fun h => by
    split at h
    · rename_i cs' e1
      cases h
      exact ⟨.inl ⟨rfl, fun n0 => mapS_tN o hb e1⟩⟩
    · exact nomatch h
  unfold bodyC at h
  cases cells with
  | nil => exact one h
  | cons c r =>
    dsimp only at h
    cases es : splitRet b with
    | none => rw [es] at h; exact one h
    | some q =>
      obtain ⟨ini, e⟩ := q
      rw [es] at h
      dsimp only at h
      split at h
      · rename_i cs' ce e1 e2
        cases h
        obtain ⟨pos, hp⟩ := splitRet_eq es
        exact ⟨.inr ⟨ini, e, pos, _, rfl, hp, fun n0 => mapS_tN o hb e1, ((cE_ok (Γ := Γ) (k := k) (cf := cf) 60).ok C X W o e ce e2 M).1⟩⟩
      · exact nomatch h
theorem cfk_no (P : PgOk0 Γ) (N : Nat) {k : Nat} (h2 : 2 ≤ k) : CfK Γ k (callN Γ.G N 0) :=
  ⟨P.sh, fun i ds A outer s ρ S H args us vs Q E _ _ _ _ _ _ _ h => h.elim, fun i l ls ds A outer s ρ S H us vs Q E _ _ _ _ _ _ _ h => h.elim, fun i ds S P E h => h.elim, P.kp, h2⟩
/-- one def, from its callees' promise -/
theorem df_one (P : PgOk0 Γ) {N j : Nat} {b : Bool} (ih : CfK Γ k (callN Γ.G N j)) (dr : b = true → DrwOk Γ k) (ed : Γ.G.defs.get i = some d) (T : DefT Γ b i d) {ds : List D} {A : Around} {outer : List PySem.Env} {s : Shared} {ρ : Nat → Addr} {S : St} {H : Hp} {args : Args} {us : List Value} {vs : List V} {Q : VK} {E : XK}
    (hr : Room (k + 1) A) (hg : A.guards = some []) (e0 : Env0 Γ.P Γ.w Γ.K Γ.mg Γ.base A outer s H) (R : Rh Γ ρ [] S H) (r : RDs Γ ρ S.n H ds vs) (rv : Vals vs us) (hb : BindsTo s (Γ.fd i) args ((Γ.psn i).zip us))
    (h : (callN Γ.G N (j + 1) (.df i) ds S).All (PostC Γ ρ S H Q) (PostCX Γ ρ S H E)) : codeAny (model Γ.P Γ.w) A (.call (.ref (Γ.fnA i)) args) (CR (L2N.CX Γ.P Γ.w) outer Γ.P Γ.w H s Q E) s := by
  simp only [callN] at h
  rw [ed] at h
  dsimp only at h
  split at h
  · rename_i en
    have en : ds.length = d.np := by rw [← lenN_eq]; exact Nat.eq_of_beq_eq_true en
    obtain ⟨F, C, hF, h0, h1, h2, h3, h4, h5, h6, h7, h8, h9⟩ := T.is
    exact df_run (k := k) hF (fun A outer s H E hr hg => body_ok (xok_dcx P ih (by rw [h0]; exact dr) hF h1 h2 h3 h4 h5 h7 hr hg) h6 h8) hr hg e0 R r rv hb en h
  · exact h.elim
/-- ALL CALLS keep their promise -/
theorem cfk_all (P : PgOk Γ) (N : Nat) : ∀ j : Nat, CfK Γ (j + 3) (callN Γ.G N j)
  | 0 => cfk_no P.toPgOk0 N (by omega)
  | j + 1 => by
    have ih := cfk_all P N j
    have dr := P.dr (j + 3) (by omega)
    refine ⟨P.sh, fun i ds A outer s ρ S H args us vs Q E hr hg e0 R r rv hb h => ?_, fun i l ls ds A outer s ρ S H us vs Q E hr hg e0 R hl r rv h => ?_, fun i ds S P' E h => ?_, P.kp, by omega⟩
    · cases ed : Γ.G.defs.get i with
      | none => simp only [callN] at h; rw [ed] at h; exact h.elim
      | some d =>
        obtain ⟨b, T⟩ := P.defs i d ed
        exact df_one P.toPgOk0 ih (fun _ => dr) ed T hr hg e0 R r rv hb h
    · simp only [callN] at h
      split at h
      · rename_i d ed
        split at h
        · rename_i en
          simp only [Bool.and_eq_true] at en
          obtain ⟨hF, C, h1, h2, h3, h4, h5, h6, h7, h8⟩ := (P.lams i d ed).is
          exact lm_run (k := j + 3) hF (fun cl c' f A outer s H E hr hg => ((cE_ok (Γ := Γ) (k := j + 3) (cf := callN Γ.G N j) 60).ok C _ _ (xok_lcx P.toPgOk0 ih (fun _ => dr) hF h1 h2 h3 h4 h5 h7 hr hg) _ _ h8 N).1) hr hg e0 R hl r rv
            (by rw [← lenN_eq]; exact Nat.eq_of_beq_eq_true en.1) en.2 h
        · exact h.elim
      · exact h.elim
    · simp only [callN] at h
      split at h
      · rename_i d ed
        split at h
        · rename_i en
          have en : ds.length = d.np := by rw [← lenN_eq]; exact Nat.eq_of_beq_eq_true en
          obtain ⟨b, T⟩ := P.defs i d ed
          obtain ⟨F, C, hF, h0, h1, h2, h3, h4, h5, h6, h7, h8, h9⟩ := T.is
          exact ⟨en.trans hF.np, h9⟩
        · exact h.elim
      · exact h.elim
end
end
end Ev
end
section
set_option Elab.async false
set_option linter.all false
set_option maxRecDepth 100000
set_option maxHeartbeats 400000
/-! HOW CALLS BIND, for plain parameters. -/
namespace Ev
noncomputable section
open PySem
/-- the values by the names -/
theorem lookup_zip_get {β : Type} : ∀ {ps : List Str} {us : List β} {i : Nat} {p : Str} {u : β}, ps.Nodup → ps[i]? = some p → us[i]? = some u → (ps.zip us).lookup p = some u
  | [], _, _, _, _, _, h, _ => by simp at h
  | _ :: _, [], _, _, _, _, _, h => by simp at h
  | q :: ps, v :: us, 0, p, u, nd, h1, h2 => by
    simp at h1 h2
    subst h1 h2
    rw [List.zip_cons_cons, List.lookup_cons]
    simp
  | q :: ps, v :: us, i + 1, p, u, nd, h1, h2 => by
    rw [List.getElem?_cons_succ] at h1 h2
    have ne : p ≠ q := fun e => (List.nodup_cons.mp nd).1 (e ▸ List.mem_of_getElem? h1)
    rw [List.zip_cons_cons, List.lookup_cons]
    have : (p == q) = false := by simpa using ne
    rw [this]
    exact lookup_zip_get (List.nodup_cons.mp nd).2 h1 h2
theorem lookup_zip_none {β : Type} : ∀ {ps : List Str} {us : List β} {p : Str}, p ∉ ps → (ps.zip us).lookup p = none
  | [], _, _, _ => rfl
  | _ :: _, [], _, _ => rfl
  | q :: ps, v :: us, p, h => by
    rw [List.zip_cons_cons, List.lookup_cons]
    have : (p == q) = false := by
      have : p ≠ q := fun e => h (e ▸ List.mem_cons_self)
      simpa using this
    rw [this]
    exact lookup_zip_none fun m => h (List.mem_cons_of_mem _ m)
theorem lookup_app {β : Type} {p : Str} : ∀ {xs ys : List (Str × β)}, (xs ++ ys).lookup p = (xs.lookup p).or (ys.lookup p)
  | [], ys => rfl
  | (q, v) :: xs, ys => by
    rw [List.cons_append, List.lookup_cons, List.lookup_cons]
    split
    · rfl
    · exact lookup_app
/-- what the names stand for -/
def vals? (sl : List (Str × Value)) : List Str → Option (List Value)
  | [] => some []
  | p :: r => match sl.lookup p, vals? sl r with
    | some v, some vs => some (v :: vs)
    | _, _ => none
theorem filterMap_vals {sl : List (Str × Value)} : ∀ {ps : List Str} {zs : List Value}, vals? sl ps = some zs → (ps.filterMap fun n => (sl.lookup n).map (n, ·)) = ps.zip zs
  | [], zs, h => by unfold vals? at h; cases h; rfl
  | p :: r, zs, h => by
    unfold vals? at h
    split at h
    · rename_i v vs e1 e2
      cases h
      rw [List.filterMap_cons, e1]
      show (p, v) :: _ = _
      rw [filterMap_vals e2, List.zip_cons_cons]
    · exact nomatch h
theorem vals_none {sl : List (Str × Value)} : ∀ {ps : List Str} {zs : List Value}, vals? sl ps = some zs → (ps.filter fun n => (sl.lookup n).isNone) = []
  | [], zs, h => rfl
  | p :: r, zs, h => by
    unfold vals? at h
    split at h
    · rename_i v vs e1 e2
      rw [List.filter_cons, e1]
      simp only [Option.isNone_some, Bool.false_eq_true, if_false]
      exact vals_none e2
    · exact nomatch h
theorem zip_cut {β : Type} : ∀ {ps : List Str} {us : List β}, ps.zip us = (ps.take us.length).zip us
  | [], us => by simp
  | p :: ps, [] => by simp
  | p :: ps, u :: us => by
    rw [List.length_cons, List.take_succ_cons, List.zip_cons_cons, List.zip_cons_cons, ← zip_cut]
theorem sem_bind {α β : Type} {a : α} {f : α → Sem β} : (pure a >>= f) = f a := rfl
theorem forIn_kw {P : Str → Prop} {f : Str × Value → List (Str × Value) × List (Str × Value) → Sem (ForInStep (List (Str × Value) × List (Str × Value)))} : ∀ (l sl ex : List (Str × Value)), (∀ k v sl ex, P k → sl.lookup k = none → f (k, v) (sl, ex) = pure (.yield (sl ++ [(k, v)], ex))) →
    (∀ q ∈ l, P q.1 ∧ sl.lookup q.1 = none) → (l.map (·.1)).Nodup → forIn l (sl, ex) f = pure (sl ++ l, ex)
  | [], sl, ex, _, _, _ => by rw [List.append_nil]; rfl
  | (k, v) :: r, sl, ex, hf, h, nd => by
    rw [List.forIn_cons, hf k v sl ex (h _ List.mem_cons_self).1 (h _ List.mem_cons_self).2, sem_bind]
    show forIn r (sl ++ [(k, v)], ex) f = _
    have nd' := List.nodup_cons.mp nd
    rw [forIn_kw r (sl ++ [(k, v)]) ex hf (fun q hq => ⟨(h q (List.mem_cons_of_mem _ hq)).1, ?_⟩) nd'.2, List.append_assoc]
    · rfl
    · rw [lookup_app, (h q (List.mem_cons_of_mem _ hq)).2, List.lookup_cons]
      have : (q.1 == k) = false := by
        have : q.1 ≠ k := fun e => nd'.1 (e ▸ List.mem_map.mpr ⟨q, hq, rfl⟩)
        simpa using this
      rw [this]
      rfl
theorem forIn_skip {f : Str × Value → List (Str × Value) → Sem (ForInStep (List (Str × Value)))} {sl : List (Str × Value)} : ∀ (l : List (Str × Value)), (∀ q ∈ l, f q sl = pure (.yield sl)) → forIn l sl f = pure sl
  | [], _ => rfl
  | q :: r, h => by
    rw [List.forIn_cons, h q List.mem_cons_self, sem_bind]
    exact forIn_skip r fun q hq => h q (List.mem_cons_of_mem _ hq)
theorem vals_some {sl : List (Str × Value)} : ∀ {ps : List Str} {zs : List Value} {p : Str}, vals? sl ps = some zs → p ∈ ps → (sl.lookup p).isNone = false
  | [], zs, p, h, m => by simp at m
  | q :: r, zs, p, h, m => by
    unfold vals? at h
    split at h
    · rename_i v vs e1 e2
      rcases List.mem_cons.mp m with rfl | m
      · rw [e1]; rfl
      · exact vals_some e2 m
    · exact nomatch h
/-- THE RULE: keywords that fill up the rest; the defaults are looked at, that is all -/
theorem bind_kwD {fd : FuncData} {as : List Arg} {dfl : List Expr} {us ws : List Value} {ks : List Str} {zs : List Value} (hp : fd.params = ⟨[], as, none, [], [], none, dfl⟩) (nd : (as.map (·.arg)).Nodup)
    (hn : us.length ≤ as.length) (hk : ∀ k ∈ ks, k ∈ as.map (·.arg) ∧ k ∉ (as.map (·.arg)).take us.length) (hkn : ks.Nodup) (hl : ws.length = ks.length) (hz : vals? ((as.map (·.arg)).zip us ++ ks.zip ws) (as.map (·.arg)) = some zs) :
    bindArgs fd ⟨us, ks.zip ws⟩ = (seqItems? fd.defaults >>= fun _ => pure ((as.map (·.arg)).zip zs)) := by
  unfold bindArgs
  rw [hp]
  dsimp only
  have h1 : ∀ q ∈ ks.zip ws, q.1 ∈ as.map (·.arg) ∧ ((as.map (·.arg)).zip us).lookup q.1 = none := fun q hq => by
    have hq2 := hk _ (List.of_mem_zip (a := q.1) (b := q.2) hq).1
    refine ⟨hq2.1, ?_⟩
    rw [zip_cut]
    exact lookup_zip_none hq2.2
  have h2 : ((ks.zip ws).map (·.1)).Nodup := by
    rw [show (ks.zip ws).map (·.1) = ks from List.map_fst_zip (by omega)]
    exact hkn
  have z0 : (([] : List Arg).map (·.arg) ++ as.map (·.arg)) = as.map (·.arg) := rfl
  simp only [z0]
  rw [forIn_kw (P := fun k => k ∈ as.map (·.arg)) (ks.zip ws) _ _ (fun k v sl ex hm hn => by
    have c : ((as.map (·.arg)).contains k || (([] : List Arg).map (·.arg)).contains k) = true := by
      rw [Bool.or_eq_true]; exact .inl (by simpa using hm)
    rw [if_pos c, if_neg (by rw [hn]; exact nofun)]) h1 h2]
  rw [sem_bind]
  refine congrArg (seqItems? fd.defaults >>= ·) (funext fun dd => ?_)
  have n1 : (decide (us.length > (as.map (·.arg)).length) && (none : Option Arg).isNone) = false := by
    rw [List.length_map, Bool.and_eq_false_iff]
    exact .inl (decide_eq_false (by omega))
  rw [n1, if_neg (by decide)]
  have mm : ((List.take ((as.map (·.arg)).length - (List.drop ((dd.getD #[]).toList.length - (as.map (·.arg)).length) (dd.getD #[]).toList).length) (as.map (·.arg))).filter fun n => (((as.map (·.arg)).zip us ++ ks.zip ws).lookup n).isNone) = [] := by
    rw [List.filter_eq_nil_iff]
    intro a ha
    rw [vals_some hz (List.mem_of_mem_take ha)]
    exact nofun
  rw [mm, if_neg (by decide)]
  rw [forIn_skip _ fun q hq => ?_]
  · rw [sem_bind]
    show (pure (((as.map (fun a : Arg => a.arg)) ++ ([] : List Arg).map (fun a : Arg => a.arg)).filterMap fun n => (((as.map (fun a : Arg => a.arg)).zip us ++ ks.zip ws).lookup n).map (n, ·)) : Sem _) = _
    have f2 : ((as.map (·.arg)).filterMap fun n => (((as.map (·.arg)).zip us ++ ks.zip ws).lookup n).map (n, ·)) = (as.map (·.arg)).zip zs := filterMap_vals hz
    rw [List.map_nil, List.append_nil, f2]
  · rw [if_neg]
    rw [vals_some hz (List.mem_of_mem_drop (List.of_mem_zip (a := q.1) (b := q.2) hq).1)]
    exact nofun
theorem bind_kw {fd : FuncData} {as : List Arg} {dfl : List Expr} {us ws : List Value} {ks : List Str} {zs : List Value} (hp : fd.params = ⟨[], as, none, [], [], none, dfl⟩) (hd : fd.defaults = .none) (nd : (as.map (·.arg)).Nodup)
    (hn : us.length ≤ as.length) (hk : ∀ k ∈ ks, k ∈ as.map (·.arg) ∧ k ∉ (as.map (·.arg)).take us.length) (hkn : ks.Nodup) (hl : ws.length = ks.length) (hz : vals? ((as.map (·.arg)).zip us ++ ks.zip ws) (as.map (·.arg)) = some zs) :
    bindArgs fd ⟨us, ks.zip ws⟩ = pure ((as.map (·.arg)).zip zs) := by
  rw [bind_kwD hp nd hn hk hkn hl hz, hd]
  rfl
end
end Ev
end
section
set_option Elab.async false
set_option linter.all false
set_option maxRecDepth 100000
set_option maxHeartbeats 400000
/-! THE WORLD OF A LAW: from its text and the head's facts. -/
namespace Ev
noncomputable section
open PySem PySem.Spec PyProof.Rows L2 LamX
/-! ### the text -/
structure DW where
  nm : Str
  args : Arguments
  body : List Stmt
  sc : Scope
  deriving Inhabited
structure CW where
  nm : Str
  base : Str
  ini : Option (Str × Arguments × List Stmt × Scope)
  deriving Inhabited
structure Tx where
  gl : List (Str × Gl)
  defs : List DW
  cls : List CW
def iniOf (c : Str) (b : List Stmt) : Option (Str × Arguments × List Stmt × Scope) := b.findSome? fun s => match s with
  | .FunctionDef m a b _ _ _ sc _ _ _ => if m == ("__init__" : Str) then some (c ++ ".__init__", a, b, sc) else none
  | _ => none
def fieldsOf : Option (Str × Arguments × List Stmt × Scope) → List (Str × Option D)
  | some (_, a, _, _) => (dfltOf a).drop 1
  | none => []
def txOf : List Stmt → Tx → Tx
  | [], t => t
  | s :: r, t => match s with
    | .FunctionDef n a b _ _ _ sc _ _ _ => txOf r { t with gl := (n, .df t.defs.length (dfltOf a)) :: t.gl, defs := t.defs ++ [⟨n, a, b, sc⟩] }
    | .ClassDef n bs _ b _ _ _ _ _ _ _ =>
      let base := match bs with | [.Name x _] => x | _ => "?"
      let ini := match iniOf n b with
        | some i => some i
        | none => match t.cls.find? fun c => c.nm == base with
          | some c => c.ini
          | none => none
      txOf r { t with gl := (n, .cl t.cls.length (fieldsOf ini)) :: t.gl, cls := t.cls ++ [⟨n, base, ini⟩] }
    | .Assign [.Name x _] (.Constant c _ _) _ => match okN x, constD c with
      | true, some d => txOf r { t with gl := (x, .con d) :: t.gl }
      | _, _ => txOf r t
    | _ => txOf r t
def tx (p : Program) : Tx := txOf p.main.body ⟨[], [], []⟩
def DW.N (d : DW) : List Str := slotsOf (argNames d.args) d.sc (exprss 100 d.body)
def DW.ps (d : DW) : List Str := argNames d.args
/-- the lambdas of each def, numbered -/
def lamsT (t : Tx) : List (List (Nat × Expr)) := numbered 0 (t.defs.map fun d => lamEs 100 (exprss 100 d.body))
def shpT (t : Tx) : List (Nat × Nat × List Str) := shpOf t.gl (t.defs.flatMap fun d => exprss 100 d.body)
def drwN (x : Str) : Bool := !(x == ("_law_draw" : Str) || x == ("_law_pot" : Str))
def ccT (gl : List (Str × Gl)) (shp : List (Nat × Nat × List Str)) (d : DW) (ls : List (Nat × Expr)) : CC := ⟨d.N, d.sc, gl, ls, shp, none, false, drwN d.nm⟩
def cellsT (d : DW) (ls : List (Nat × Expr)) : List Nat :=
  let caps := ls.flatMap fun l => freeOf (lamSc l.2)
  d.N.zipIdx.filterMap fun x => if caps.contains x.1 then some x.2 else none
def dfT (gl : List (Str × Gl)) (shp : List (Nat × Nat × List Str)) (q : DW × List (Nat × Expr)) : Option Df := match bodyC (ccT gl shp q.1 q.2) (cellsT q.1 q.2) q.1.body with
  | some (b, f) => some ⟨q.1.ps.length, q.1.N.length, cellsT q.1 q.2, b, f⟩
  | none => none
def lamI (d : DW) : Expr → LamI
  | .Lambda a b sc _ => ⟨d.nm ++ ".<locals>.", a, b, sc, argNames a, freeOf sc, (argNames a ++ freeOf sc ++ slotsOf [] sc [b]).eraseDups⟩
  | _ => default
def lamIs (t : Tx) : List LamI := (t.defs.zip (lamsT t)).flatMap fun q => q.2.map fun l => lamI q.1 l.2
def ccL (gl : List (Str × Gl)) (shp : List (Nat × Nat × List Str)) (L : LamI) : CC := ⟨L.N, L.scope, gl, [], shp, none, false, true⟩
def lmT (gl : List (Str × Gl)) (shp : List (Nat × Nat × List Str)) (L : LamI) : Option Lm := match cE 60 (ccL gl shp L) L.body with
  | some b => some ⟨L.ps.length, L.N.length, b⟩
  | none => none
/-- which class is below which: those of the text, the builtin errors -/
def belT (t : Tx) : List (Nat × Nat × Bool) :=
  let cs := t.cls.map fun c => (c.nm, c.base, ([] : List Str))
  (List.range t.cls.length).flatMap fun i => ((List.range t.cls.length) ++ [110, 111, 112, 113]).filterMap fun j => (belowOf cs 20 i j).map fun b => (i, j, b)
def belF : List (Nat × Nat × Bool) → Nat → Nat → Option Bool
  | [], _, _ => none
  | (i, j, b) :: r, x, y => match Nat.beq i x && Nat.beq j y with
    | true => some b
    | false => belF r x y
def fldsT (t : Tx) : List (List Str) := t.cls.map fun c => (fieldsOf c.ini).map (·.1)
/-- the whole text, translated -/
structure PgT (p : Program) (G : Pg) : Prop where
  is : ∃ dfs lms, mapO (dfT (tx p).gl (shpT (tx p))) ((tx p).defs.zip (lamsT (tx p))) = some dfs ∧ mapO (lmT (tx p).gl (shpT (tx p))) (lamIs (tx p)) = some lms ∧ G.defs = T.ofL dfs ∧ G.lams = T.ofL lms ∧ G.below = belF (belT (tx p)) ∧ G.flds = T.ofL (fldsT (tx p))
def pgT (p : Program) : Option Pg := match mapO (dfT (tx p).gl (shpT (tx p))) ((tx p).defs.zip (lamsT (tx p))), mapO (lmT (tx p).gl (shpT (tx p))) (lamIs (tx p)) with
  | some dfs, some lms => some ⟨T.ofL dfs, T.ofL lms, belF (belT (tx p)), T.ofL (fldsT (tx p))⟩
  | _, _ => none
theorem pgT_of {p : Program} {G : Pg} (h : pgT p = some G) : PgT p G := by
  unfold pgT at h
  split at h
  · rename_i dfs lms e1 e2
    cases h
    exact ⟨dfs, lms, e1, e2, rfl, rfl, rfl, rfl⟩
  · exact nomatch h
theorem ofL_go {α : Type} : ∀ (xs : List α) (n : Nat) (t : T α) (k : Nat) (x : α), (xs.foldl (fun (p : Nat × T α) x => (p.1 + 1, p.2.put p.1 x)) (n, t)).2.get k = some x → (n ≤ k ∧ xs[k - n]? = some x) ∨ t.get k = some x
  | [], n, t, k, x, h => .inr h
  | a :: xs, n, t, k, x, h => by
    rw [List.foldl_cons] at h
    rcases ofL_go xs (n + 1) (t.put n a) k x h with ⟨h1, h2⟩ | h1
    · refine .inl ⟨by omega, ?_⟩
      rw [show k - n = (k - (n + 1)) + 1 by omega, List.getElem?_cons_succ]
      exact h2
    · rcases T.get_put a t n k x h1 with ⟨e1, e2⟩ | ⟨_, e2⟩
      · subst e1 e2
        exact .inl ⟨Nat.le_refl _, by simp⟩
      · exact .inr e2
theorem ofL_get {α : Type} {xs : List α} {k : Nat} {x : α} (h : (T.ofL xs).get k = some x) : xs[k]? = some x := by
  rw [T.ofL_eq] at h
  rcases ofL_go xs 0 .lf k x h with ⟨_, h⟩ | h
  · simpa using h
  · exact nomatch h
end
end Ev
end
section
set_option Elab.async false
set_option linter.all false
set_option maxRecDepth 100000
set_option maxHeartbeats 400000
/-! THE WORLD OF A LAW: calls by their shapes; lambdas by their numbers. -/
namespace Ev
noncomputable section
open PySem PySem.Spec PyProof.Rows L2 LamX
/-! ### shapes of calls -/
theorem params_vals {n : Nat} {ks : List Str} {us ws : List Value} {all : List Str} (hn : us.length = n) (hw : ws.length = ks.length) (nd : all.Nodup) (dj : ∀ k ∈ ks, k ∉ all.take n) (kn : ks.Nodup) :
    ∀ {ps : List Str} {i : Nat} {ar : List Ar}, ps = all.drop i → params n ks (ps.map fun x => (x, none)) i = some ar → ∃ zs, argsV ar (us ++ ws) = some zs ∧ vals? (all.zip us ++ ks.zip ws) ps = some zs
  | [], i, ar, e, h => by
    have h : some [] = some ar := h
    cases h
    exact ⟨[], rfl, rfl⟩
  | x :: r, i, ar, e, h => by
    have hx : all[i]? = some x := by
      have := congrArg List.head? e
      simpa using this.symm
    have er : r = all.drop (i + 1) := by
      have := congrArg List.tail e
      simpa [List.drop_drop] using this
    have h : (do
      let rest ← params n ks (r.map fun x => (x, none)) (i + 1)
      if i < n then some (Ar.at_ i :: rest)
      else match ixS ks x with
        | some j => some (.at_ (n + j) :: rest)
        | none => none) = some ar := h
    cases eh : params n ks (r.map fun x => (x, none)) (i + 1) with
    | none => rw [eh] at h; exact nomatch h
    | some rest =>
      rw [eh] at h
      obtain ⟨zs, z1, z2⟩ := params_vals hn hw nd dj kn er eh
      have h : (if i < n then some (Ar.at_ i :: rest)
        else match ixS ks x with
          | some j => some (.at_ (n + j) :: rest)
          | none => none) = some ar := h
      by_cases hi : i < n
      · rw [if_pos hi] at h
        cases h
        have hu : us[i]? = some us[i] := List.getElem?_eq_getElem (by omega)
        refine ⟨us[i] :: zs, ?_, ?_⟩
        · unfold argsV
          rw [List.getElem?_append_left (by omega), hu, z1]
        · unfold vals?
          rw [lookup_app, lookup_zip_get nd hx hu, z2]
          rfl
      · rw [if_neg hi] at h
        split at h
        · rename_i j ej
          cases h
          have hk := ixS_get ej
          have hj : j < ks.length := (List.getElem?_eq_some_iff.mp hk).1
          have hu : ws[j]? = some ws[j] := List.getElem?_eq_getElem (by omega)
          have no : (all.zip us).lookup x = none := by
            rw [zip_cut]
            exact lookup_zip_none (by rw [hn]; exact dj x (List.mem_of_getElem? hk))
          refine ⟨ws[j] :: zs, ?_, ?_⟩
          · unfold argsV
            rw [List.getElem?_append_right (by omega), show n + j - us.length = j by omega, hu, z1]
          · unfold vals?
            rw [lookup_app, no, lookup_zip_get kn hk hu, z2]
            rfl
        · exact nomatch h
def plainA (a : Arguments) : Bool := match a with
  | ⟨[], _, none, [], [], none, []⟩ => true
  | _ => false
theorem plainA_eq {a : Arguments} (h : plainA a = true) : a = ⟨[], a.args, none, [], [], none, []⟩ := by
  unfold plainA at h
  split at h
  · rfl
  · exact nomatch h
/-- a shape that fits -/
def shpB (ps : List Str) (n : Nat) (ks : List Str) : Bool := (params n ks (ps.map fun x => (x, none)) 0).isSome && (decide (n ≤ ps.length) && (ks.all (fun k => decide (k ∈ ps) && decide (k ∉ ps.take n)) && decide ks.Nodup))
theorem shp_ok {fd : FuncData} {a : Arguments} {n : Nat} {ks : List Str} (hp : fd.params = a) (ha : plainA a = true) (hd : fd.defaults = .none) (nd : (argNames a).Nodup) (h : shpB (argNames a) n ks = true) (us ws : List Value) (hn : us.length = n) (hw : ws.length = ks.length) :
    ∃ ar zs, params n ks ((argNames a).map fun x => (x, none)) 0 = some ar ∧ argsV ar (us ++ ws) = some zs ∧ bindArgs fd ⟨us, ks.zip ws⟩ = pure ((argNames a).zip zs) := by
  unfold shpB at h
  simp only [Bool.and_eq_true, decide_eq_true_eq, List.all_eq_true] at h
  obtain ⟨h1, h2, h3, h4⟩ := h
  obtain ⟨ar, ea⟩ := Option.isSome_iff_exists.mp h1
  obtain ⟨zs, z1, z2⟩ := params_vals hn hw nd (fun k hk => (h3 k hk).2) h4 (by simp) ea
  refine ⟨ar, zs, ea, z1, ?_⟩
  rw [plainA_eq ha] at hp
  exact bind_kw hp hd nd (by rw [hn]; simpa [argNames] using h2) (fun k hk => by rw [hn]; exact h3 k hk) h4 hw z2
theorem vals_go {all : List Str} {us : List Value} (nd : all.Nodup) (hl : us.length = all.length) : ∀ {ps : List Str} {i : Nat}, ps = all.drop i → vals? (all.zip us) ps = some (us.drop i)
  | [], i, e => by
    have : all.length ≤ i := by simpa using e.symm
    rw [List.drop_eq_nil_of_le (by omega)]
    rfl
  | x :: r, i, e => by
    have hx : all[i]? = some x := by
      have := congrArg List.head? e
      simpa using this.symm
    have er : r = all.drop (i + 1) := by
      have := congrArg List.tail e
      simpa [List.drop_drop] using this
    have hi : i < all.length := (List.getElem?_eq_some_iff.mp hx).1
    unfold vals?
    rw [lookup_zip_get nd hx (List.getElem?_eq_getElem (by omega)), vals_go nd hl er, List.drop_eq_getElem_cons (by omega : i < us.length)]
theorem vals_all {ps : List Str} {us : List Value} (nd : ps.Nodup) (hl : us.length = ps.length) : vals? (ps.zip us) ps = some us := by
  have := vals_go nd hl (ps := ps) (i := 0) (by simp)
  simpa using this
theorem pos_ok {fd : FuncData} {a : Arguments} (hp : fd.params = a) (ha : plainA a = true) (hd : fd.defaults = .none) (nd : (argNames a).Nodup) (us : List Value) (hl : us.length = (argNames a).length) : bindArgs fd ⟨us, []⟩ = pure ((argNames a).zip us) := by
  rw [plainA_eq ha] at hp
  exact bind_kw (ks := []) (ws := []) hp hd nd (by rw [hl]; simp [argNames]) (by simp) .nil rfl (by
    show vals? ((argNames a).zip us ++ ([] : List Str).zip []) (argNames a) = some us
    rw [List.zip_nil_left, List.append_nil]
    exact vals_all nd hl)
/-! ### lambdas by their numbers -/
theorem numbered_get : ∀ {ds : List DW} {ll : List (List Expr)} {n : Nat} {q : DW × List (Nat × Expr)} {j : Nat} {e : Expr}, q ∈ ds.zip (numbered n ll) → (j, e) ∈ q.2 → n ≤ j ∧ ((ds.zip (numbered n ll)).flatMap fun q => q.2.map fun l => lamI q.1 l.2)[j - n]? = some (lamI q.1 e)
  | [], _, _, _, _, _, h, _ => by simp at h
  | _ :: _, [], _, _, _, _, h, _ => by simp [numbered] at h
  | d :: ds, l :: ll, n, q, j, e, h, m => by
    unfold numbered at h ⊢
    rw [List.zip_cons_cons] at h ⊢
    rw [List.flatMap_cons]
    have len : ((l.zipIdx.map fun x => (n + x.2, x.1)).map fun l => lamI d l.2).length = l.length := by simp
    rcases List.mem_cons.mp h with rfl | h
    · obtain ⟨⟨e', i⟩, hx, hy⟩ := List.mem_map.mp m
      have hi := List.mem_zipIdx_iff_getElem?.mp hx
      cases hy
      have hil : i < l.length := (List.getElem?_eq_some_iff.mp hi).1
      refine ⟨by omega, ?_⟩
      rw [List.getElem?_append_left (by rw [len]; omega), show n + i - n = i by omega, List.map_map, List.getElem?_map, List.getElem?_zipIdx]
      simp only [] at hi
      rw [hi]
      rfl
    · obtain ⟨a, b⟩ := numbered_get h m
      refine ⟨by omega, ?_⟩
      rw [List.getElem?_append_right (by rw [len]; omega), len, show j - n - l.length = j - (n + l.length) by omega]
      exact b
end
end Ev
end
section
set_option Elab.async false
set_option linter.all false
set_option maxRecDepth 100000
set_option maxHeartbeats 400000
/-! THE WORLD OF A LAW: the head's facts. -/
namespace Ev
noncomputable section
open PySem PySem.Spec PyProof.Rows L2 LamX
open He (ga ma fAd cT)
def dnm (t : Tx) (i : Nat) : Str := (t.defs[i]?.getD (t.defs.headD default)).nm
def cnm (t : Tx) (i : Nat) : Str := (t.cls[i]?.getD default).nm
/-! ### what is asked of the head -/
def faT (t : Tx) : List He.Fa := t.defs.map (fun d => .glo d.nm) ++ (t.cls.map (fun c => .glo c.nm) ++ ((bNames.filter fun x => (t.gl.lookup x).isNone).map .free ++ t.gl.filterMap fun q => match q.2 with
  | .con (.int i) => (match t.gl.lookup q.1 with
    | some (.con (.int j)) => if i = j then some (.int q.1 i) else none
    | _ => none)
  | .con (.str s) => (match t.gl.lookup q.1 with
    | some (.con (.str z)) => if s = z then some (.str q.1 s) else none
    | _ => none)
  | _ => none))
def fnT (t : Tx) : List He.DefD := t.defs.map (fun d => ⟨(d.nm, none), d.nm, d.nm, d.args, d.body, d.sc, [], []⟩) ++ t.cls.filterMap fun c => match c.ini with
  | some (q, a, b, sc) => some ⟨(c.nm, some "__init__"), "__init__", q, a, b, sc, [.non], []⟩
  | none => none
def tfT (t : Tx) : List He.Defn := (t.defs.zip (lamsT t)).filterMap fun q => match q.2 with
  | [] => none
  | _ :: _ => some (q.1.nm, none)
def eqV (a b : Option (Option Value)) : Bool := decide (a = b)
def kxB (K : PySem.W.Frag) (C : Addr) : Bool :=
  (PySem.W.clsIn K C).isSome && (decide (PySem.W.findIn K (.ref C) "__getattribute__" = some (some (.builtin "BaseException.__getattribute__"))) && (decide (PySem.W.findIn K (.ref C) "__getattr__" = some none) && (decide (PySem.W.subIn K (.ref C) (.type "BaseException") = some true) &&
  (PySem.W.hasDictIn K C && (decide (PySem.W.findIn K (.ref C) "__class__" = some (some (.builtin "object.__class__"))) && (decide (PySem.W.specialIn K (.builtin "object.__class__") "__get__" = some (some (.builtin "getset_descriptor.__get__"))) &&
  (decide (PySem.W.takesIn K (.builtin "object.__class__") = some true) && decide (PySem.W.mroIn K C (.type "object") = some true))))))))
theorem kxB_ok {K : PySem.W.Frag} {C : Addr} (h : kxB K C = true) : KxC K C := by
  unfold kxB at h
  simp only [Bool.and_eq_true, decide_eq_true_eq] at h
  obtain ⟨h1, h2, h3, h4, h5, h6, h7, h8, h9⟩ := h
  exact ⟨h1, h2, h3, h4, h5, h6, h7, h8, h9⟩
def oexB (K : PySem.W.Frag) (C : Addr) : Bool :=
  (match K.lookup C with
  | some ⟨.type "type", _, .cls cd, sl⟩ => (match cd.mro, sl.toList with
    | .ref C' :: bm, [_, _, _, _, some (.builtin n), _] => decide (C' = C) && (decide (n = "ValueError.__new__") && (!cd.hasDel && (cd.hasDict && PySem.HandSPX.refsVE bm)))
    | _, _ => false)
  | _ => false) && (decide (PySem.W.findIn K (.ref C) "__setattr__" = some (some (.builtin "object.__setattr__"))) && (decide (PySem.W.subIn K (.ref C) (.type "BaseException") = some true) && (decide (PySem.W.typeIn K (.ref C) = some (.type "type")) && PySem.W.keepIn K (.ref C))))
theorem oexB_ok {K : PySem.W.Frag} {C : Addr} (h : oexB K C = true) : OexC K C := by
  unfold oexB at h
  simp only [Bool.and_eq_true, decide_eq_true_eq] at h
  obtain ⟨h1, h2, h3, h4, h5⟩ := h
  refine ⟨?_, h2, h3, h4, h5⟩
  split at h1
  · rename_i dd cd sl ho
    split at h1
    · rename_i C' bm k0 k1 k2 k3 n k5 hm hs
      simp only [Bool.and_eq_true, decide_eq_true_eq, Bool.not_eq_true'] at h1
      obtain ⟨rfl, rfl, hdel, hdict, hr⟩ := h1
      obtain ⟨nm, bs, mro, ns, qn, hd, sn, sub, ab, col, del⟩ := cd
      dsimp only at hm hdel hdict
      subst hm hdel hdict
      have hsl : sl = #[k0, k1, k2, k3, some (.builtin "ValueError.__new__"), k5] := by
        obtain ⟨l⟩ := sl
        simp only at hs
        rw [hs]
      subst hsl
      exact ⟨nm, qn, ns, bs, bm, sn, sub, ab, col, dd, k0, k1, k2, k3, k5, ho, hr⟩
    · exact nomatch h1
  · exact nomatch h1
/-- a class of the text -/
def clsB (K : PySem.W.Frag) (c : CW) : Bool := kxB K (ga K c.nm) && (((fieldsOf c.ini).all fun f => decide (PySem.W.findIn K (.ref (ga K c.nm)) f.1 = some none)) && (match c.ini with
  | none => true
  | some _ => oexB K (ga K c.nm) && (decide (PySem.W.findIn K (.ref (ga K c.nm)) "__init__" = some (some (.ref (ma K (ga K c.nm) "__init__")))) && decide (PySem.W.typeIn K (.ref (ma K (ga K c.nm) "__init__")) = some (.type "function")))))
def clsW (K : PySem.W.Frag) (t : Tx) (j : Nat) : Value := match Nat.ble 100 j with
  | true => .type (tyS j)
  | false => .ref (ga K (cnm t j))
def belB (K : PySem.W.Frag) (t : Tx) : Bool := (belT t).all fun q => decide (PySem.W.kitOne K (.ref (ga K (cnm t q.1))) (clsW K t q.2.1) = some q.2.2) && decide (PySem.W.exmOne K (.ref (ga K (cnm t q.1))) (clsW K t q.2.1) = some q.2.2)
def exT (t : Tx) (K : PySem.W.Frag) : Bool := (t.cls.all fun c => clsB K c) && (belB K t && (decide ((tfT t).map fun p => (cT K p).2).Nodup && (K.lookup sysModules).isSome))
/-! ### what is asked of the text -/
def isLam : Expr → Bool
  | .Lambda a _ _ _ => plainA a
  | _ => false
def iniB (c : CW) : Bool := match c.ini with
  | none => true
  | some (_, a, b, sc) => match a, b with
    | ⟨[], [⟨x, none, _⟩, ⟨f, none, _⟩], none, [], [], none, [.Constant .none _ _]⟩, [.Assign [.Attribute (.Name y _) g _] (.Name h _) _] => (decide (x = "self") && (decide (y = "self") && (decide (g = f) && decide (h = f)))) && (C8.scC ["self", f] ["self", f] sc && (decide (sc.names.lookup ("self" : Str) = some .local) && (decide (sc.names.lookup f = some .local) && okN f)))
    | _, _ => false
def defB (q : DW × List (Nat × Expr)) : Bool := C8.scC q.1.N q.1.ps q.1.sc && (plainA q.1.args && (decide q.1.ps.Nodup && (((cellsT q.1 q.2).all fun c => match q.1.N[c]? with
  | some x => decide (q.1.sc.names.lookup x = some .cell)
  | none => false) && q.2.all fun l => isLam l.2)))
def lamB (L : LamI) : Bool := NdefX.nscB L.N L.ps L.fr L.scope && (plainA L.params && decide (argNames L.params).Nodup)
def conB (d : D) : Bool := match d with
  | .int _ => true
  | .str s => decide (s.length ≤ 100000)
  | _ => false
def glB (t : Tx) (q : Str × Gl) : Bool := match q.2 with
    | .df i ps => decide (dnm t i = q.1) && (decide (i < t.defs.length) && decide (ps.map (·.1) = (t.defs[i]?.getD default).ps))
    | .cl i ps => decide (cnm t i = q.1) && (decide (i < t.cls.length) && decide (ps.map (·.1) = (fieldsOf (t.cls[i]?.getD default).ini).map (·.1)))
    | .con d => conB d && (match t.gl.lookup q.1, d with
      | some (.con (.int j)), .int i => decide (i = j)
      | some (.con (.str z)), .str s => decide (s = z)
      | _, _ => false)
def statB (t : Tx) : Bool := ((t.defs.zip (lamsT t)).all defB && ((lamIs t).all lamB && ((shpT t).all (fun q => match t.defs[q.1]? with
    | some d => shpB d.ps q.2.1 q.2.2
    | none => false) && t.gl.all (glB t)))) && (t.cls.all iniB && decide (0 < t.defs.length))
end
end Ev
end
section
set_option Elab.async false
set_option linter.all false
set_option maxRecDepth 100000
set_option maxHeartbeats 400000
/-! THE WORLD OF A LAW: all that the translation leans on. -/
namespace Ev
noncomputable section
open PySem PySem.Spec PyProof.Rows L2 LamX
open He (ga ma fAd cT)
def fdAt (K : PySem.W.Frag) (a : Addr) : FuncData := match K.lookup a with
  | some ⟨_, _, .func fd, _⟩ => fd
  | _ => default
def gmT (p : Program) (G : Pg) (w : World) (K : PySem.W.Frag) (mg : Str → Option Value) (base : Heap) : Gm where
  P := p
  w := w
  K := K
  mg := mg
  base := base
  G := G
  gl := (tx p).gl
  fnA := fun i => ga K (dnm (tx p) i)
  clA := fun i => ga K (cnm (tx p) i)
  lam := fun i => (lamIs (tx p))[i]?.getD default
  T := (tfT (tx p)).map fun q => ((cT K q).2, fun _ _ => q.1 ++ ".<locals>." ++ "<lambda>")
  pot := fun _ _ => True
  fd := fun i => fdAt K (ga K (dnm (tx p) i))
  psn := fun i => ((tx p).defs[i]?.getD default).ps
  shp := shpT (tx p)
/-- the fields of the errors -/
def fldsB (G : Pg) (t : Tx) : Bool := (List.range t.cls.length).all fun i => decide (G.flds.get i = some ((fieldsOf (t.cls[i]?.getD default).ini).map (·.1)))
structure Fx (p : Program) (G : Pg) (K : PySem.W.Frag) (mg : Str → Option Value) (base : Heap) : Prop where
  pg : PgT p G
  st : statB (tx p) = true
  fl : fldsB G (tx p) = true
  kin : K.In base
  ns : base.Ns mainGlobals mg
  fa : ∀ f ∈ faT (tx p), f.ok K = true
  fn : ∀ d ∈ fnT (tx p), ∃ fd, FunD K d.name d.qual d.params d.body d.scope (d.dvs K) (d.kws K) (fAd K d.at_) fd
  ex : exT (tx p) K = true
  tb : ∀ q ∈ tfT (tx p), TabB base mg (cT K q).1 (cT K q).2
section
variable {p : Program} {G : Pg} {w : World} {K : PySem.W.Frag} {mg : Str → Option Value} {base : Heap}
theorem Fx.glo (f : Fx p G K mg base) {x : Str} (h : He.Fa.glo x ∈ faT (tx p)) : mg x = some (.ref (ga K x)) := He.glo_ok f.kin f.ns (f.fa _ h)
theorem Fx.def_ (f : Fx p G K mg base) {i : Nat} {d : DW} (h : (tx p).defs[i]? = some d) : dnm (tx p) i = d.nm ∧ mg d.nm = some (.ref (ga K d.nm)) ∧ ∃ fd, FunD K d.nm d.nm d.args d.body d.sc [] [] (ga K d.nm) fd := by
  have m := List.mem_of_getElem? h
  refine ⟨by unfold dnm; rw [h]; rfl, f.glo (List.mem_append_left _ (List.mem_map.mpr ⟨d, m, rfl⟩)), ?_⟩
  exact f.fn _ (List.mem_append_left _ (List.mem_map.mpr ⟨d, m, rfl⟩))
theorem fdAt_of {x qual : Str} {params : Arguments} {body : List Stmt} {scope : Scope} {dvs : List V} {kws : List (Str × V)} {a : Addr} {fd : FuncData} (F : FunD K x qual params body scope dvs kws a fd) : fdAt K a = fd := by
  obtain ⟨oc, od, dV, kV, doc, pm, an, cdv, ct, osl, rfl, lk, _⟩ := F.ex
  unfold fdAt
  rw [lk]
theorem fun_plain {x qual : Str} {params : Arguments} {body : List Stmt} {scope : Scope} {kws : List (Str × V)} {a : Addr} {fd : FuncData} (F : FunD K x qual params body scope [] kws a fd) : fd.params = params ∧ fd.defaults = .none := by
  obtain ⟨oc, od, dV, kV, doc, pm, an, cdv, ct, osl, rfl, lk, hcd, hD, _⟩ := F.ex
  rcases hD with ⟨_, rfl⟩ | ⟨e, _⟩
  · exact ⟨rfl, rfl⟩
  · exact absurd rfl e
theorem belF_mem : ∀ {l : List (Nat × Nat × Bool)} {x y : Nat} {b : Bool}, belF l x y = some b → (x, y, b) ∈ l
  | [], _, _, _, h => by unfold belF at h; exact nomatch h
  | (i, j, c) :: r, x, y, b, h => by
    unfold belF at h
    split at h
    · rename_i e
      simp only [Bool.and_eq_true] at e
      cases h
      rw [Nat.eq_of_beq_eq_true e.1, Nat.eq_of_beq_eq_true e.2]
      exact List.mem_cons_self
    · exact List.mem_cons_of_mem _ (belF_mem h)
theorem Fx.bel (f : Fx p G K mg base) {x y : Nat} {b : Bool} (h : G.below x y = some b) : x < (tx p).cls.length ∧ PySem.W.kitOne K (.ref (ga K (cnm (tx p) x))) (clsW K (tx p) y) = some b ∧ PySem.W.exmOne K (.ref (ga K (cnm (tx p) x))) (clsW K (tx p) y) = some b := by
  obtain ⟨dfs, lms, _, _, _, _, e, _⟩ := f.pg.is
  rw [e] at h
  have m := belF_mem h
  have ex := f.ex
  unfold exT belB at ex
  simp only [Bool.and_eq_true, List.all_eq_true] at ex
  have q := ex.2.1 _ m
  simp only [Bool.and_eq_true, decide_eq_true_eq] at q
  refine ⟨?_, q⟩
  unfold belT at m
  simp only [List.mem_flatMap, List.mem_filterMap, List.mem_range] at m
  obtain ⟨i, hi, j, _, hj⟩ := m
  cases hb : belowOf ((tx p).cls.map fun c => (c.nm, c.base, ([] : List Str))) 20 i j with
  | none => rw [hb] at hj; exact nomatch hj
  | some c => rw [hb] at hj; cases hj; exact hi
theorem Fx.cls (f : Fx p G K mg base) {i : Nat} (h : i < (tx p).cls.length) : ∃ c, (tx p).cls[i]? = some c ∧ cnm (tx p) i = c.nm ∧ clsB K c = true ∧ mg c.nm = some (.ref (ga K c.nm)) ∧ iniB c = true := by
  have e := List.getElem?_eq_getElem h
  have m := List.mem_of_getElem? e
  have ex := f.ex
  unfold exT at ex
  simp only [Bool.and_eq_true, List.all_eq_true] at ex
  have st := f.st
  unfold statB at st
  simp only [Bool.and_eq_true, List.all_eq_true] at st
  exact ⟨_, e, by unfold cnm; rw [e]; rfl, ex.1 _ m, f.glo (List.mem_append_right _ (List.mem_append_left _ (List.mem_map.mpr ⟨_, m, rfl⟩))), st.2.1 _ m⟩
theorem hasS_mem {x : Str} : ∀ {l : List Str}, hasS x l = true → x ∈ l
  | [], h => by unfold hasS at h; exact nomatch h
  | y :: r, h => by
    unfold hasS at h
    split at h
    · rename_i e
      rw [of_decide_eq_true e]
      exact List.mem_cons_self
    · exact List.mem_cons_of_mem _ (hasS_mem h)
theorem Fx.fields (f : Fx p G K mg base) {i : Nat} {fs : List Str} (h : G.flds.get i = some fs) : ∃ c, (tx p).cls[i]? = some c ∧ (fieldsOf c.ini).map (·.1) = fs := by
  obtain ⟨dfs, lms, _, _, _, _, _, e⟩ := f.pg.is
  rw [e] at h
  have h := ofL_get h
  unfold fldsT at h
  rw [List.getElem?_map] at h
  cases hc : (tx p).cls[i]? with
  | none => rw [hc] at h; exact nomatch h
  | some c => rw [hc] at h; exact ⟨c, rfl, Option.some.inj h⟩
theorem lt_of_get {α : Type} {l : List α} {i : Nat} {a : α} (h : l[i]? = some a) : i < l.length := (List.getElem?_eq_some_iff.mp h).1
theorem Fx.xc (f : Fx p G K mg base) : XcOk (gmT p G w K mg base) where
  kx := fun c u b h _ => by
    obtain ⟨hc, _⟩ := f.bel h
    obtain ⟨C, e, en, hb, _⟩ := f.cls hc
    show KxC K (ga K (cnm (tx p) c))
    rw [en]
    unfold clsB at hb
    simp only [Bool.and_eq_true] at hb
    exact kxB_ok hb.1
  fl := fun c fs h => by
    obtain ⟨C, e, ef⟩ := f.fields h
    obtain ⟨C', e', en, hb, _⟩ := f.cls (lt_of_get e)
    rw [e] at e'
    cases e'
    show KxC K (ga K (cnm (tx p) c)) ∧ ∀ f, hasS f fs = true → PySem.W.findIn K (.ref (ga K (cnm (tx p) c))) f = some none
    rw [en]
    unfold clsB at hb
    simp only [Bool.and_eq_true, List.all_eq_true, decide_eq_true_eq] at hb
    refine ⟨kxB_ok hb.1, fun g hg => ?_⟩
    have m := hasS_mem hg
    rw [← ef] at m
    obtain ⟨q, hq, rfl⟩ := List.mem_map.mp m
    exact hb.2.1 q hq
theorem Fx.gl (f : Fx p G K mg base) {x : Str} {g : Gl} (h : (tx p).gl.lookup x = some g) : glB (tx p) (x, g) = true := by
  have m := PySem.mem_of_lookup h
  have st := f.st
  unfold statB at st
  simp only [Bool.and_eq_true, List.all_eq_true] at st
  exact st.1.2.2.2 _ m
theorem Fx.con (f : Fx p G K mg base) {x : Str} {d : D} (h : (tx p).gl.lookup x = some (.con d)) : ∃ v u, mg x = some u ∧ RelV v u ∧ ∀ (ρ : Nat → Addr) (n : Nat) (H : Hp), RD (gmT p G w K mg base) ρ n H d v := by
  have m := PySem.mem_of_lookup h
  have q := f.gl h
  unfold glB at q
  simp only [h, Bool.and_eq_true] at q
  obtain ⟨q1, q2⟩ := q
  cases d with
  | int i =>
    have fm : He.Fa.int x i ∈ faT (tx p) := List.mem_append_right _ (List.mem_append_right _ (List.mem_append_right _ (List.mem_filterMap.mpr ⟨_, m, by simp [h]⟩)))
    obtain ⟨t, ht⟩ := He.int_ok f.kin f.ns (f.fa _ fm)
    exact ⟨.int i, _, ht, ⟨t, rfl⟩, fun _ _ _ => rfl⟩
  | str s =>
    have fm : He.Fa.str x s ∈ faT (tx p) := List.mem_append_right _ (List.mem_append_right _ (List.mem_append_right _ (List.mem_filterMap.mpr ⟨_, m, by simp [h]⟩)))
    obtain ⟨t, ht⟩ := He.str_ok f.kin f.ns (f.fa _ fm)
    exact ⟨.str s, _, ht, ⟨t, rfl⟩, fun _ _ _ => ⟨rfl, of_decide_eq_true q1⟩⟩
  | _ => exact nomatch q1
theorem Fx.dfn (f : Fx p G K mg base) {x : Str} {i : Nat} {ps : List (Str × Option D)} (h : (tx p).gl.lookup x = some (.df i ps)) : dnm (tx p) i = x ∧ ∃ d, (tx p).defs[i]? = some d ∧ ps.map (·.1) = d.ps := by
  have q := f.gl h
  unfold glB at q
  simp only [Bool.and_eq_true, decide_eq_true_eq] at q
  obtain ⟨q1, q2, q3⟩ := q
  have e := List.getElem?_eq_getElem q2
  exact ⟨q1, _, e, by rw [q3, e]; rfl⟩
theorem Fx.cln (f : Fx p G K mg base) {x : Str} {i : Nat} {ps : List (Str × Option D)} (h : (tx p).gl.lookup x = some (.cl i ps)) : cnm (tx p) i = x ∧ ∃ c, (tx p).cls[i]? = some c ∧ ps.map (·.1) = (fieldsOf c.ini).map (·.1) := by
  have q := f.gl h
  unfold glB at q
  simp only [Bool.and_eq_true, decide_eq_true_eq] at q
  obtain ⟨q1, q2, q3⟩ := q
  have e := List.getElem?_eq_getElem q2
  exact ⟨q1, _, e, by rw [q3, e]; rfl⟩
theorem scope_ok {fI f : Str} {sc : Scope} (h : C8.scC ["self", f] ["self", f] sc = true) : FnScope ["self", f] ["self", f] sc := C8.fnScope_by h
/-- an error of the text, made -/
theorem Fx.mkc (f : Fx p G K mg base) {x g : Str} {i : Nat} {d : Option D} (h : (tx p).gl.lookup x = some (.cl i [(g, d)])) : MkC (gmT p G w K mg base) 1 i g 1 [] ∧ MkC (gmT p G w K mg base) 1 i g 0 [g] := by
  obtain ⟨ex, c, ec, ef⟩ := f.cln h
  obtain ⟨c', ec', en, hb, hm, hi⟩ := f.cls (lt_of_get ec)
  rw [ec] at ec'
  cases ec'
  have fl := f.fl
  unfold fldsB at fl
  simp only [List.all_eq_true, List.mem_range, decide_eq_true_eq] at fl
  have ff := fl i (lt_of_get ec)
  rw [ec] at ff
  have ff : G.flds.get i = some [g] := by
    rw [ff]
    show some ((fieldsOf c.ini).map (·.1)) = _
    rw [← ef]
    rfl
  cases hini : c.ini with
  | none => rw [hini] at ef; exact nomatch ef
  | some q =>
    obtain ⟨qn, a, b, sc⟩ := q
    unfold iniB at hi
    rw [hini] at hi
    dsimp only at hi
    unfold clsB at hb
    rw [hini] at hb
    simp only [Bool.and_eq_true, List.all_eq_true, decide_eq_true_eq] at hb
    obtain ⟨_, hno, ho, hI, hT⟩ := hb
    split at hi
    · rename_i x0 p0 f0 p1 k0 p2 y0 p3 g0 p4 h0 p5 p6
      simp only [Bool.and_eq_true, decide_eq_true_eq] at hi
      obtain ⟨⟨rfl, rfl, rfl, rfl⟩, hs, l1, l2, hk⟩ := hi
      have eg : g = h0 := by
        rw [hini] at ef
        exact (List.cons.inj (show [g] = [h0] from ef)).1
      subst eg
      obtain ⟨fd, F⟩ := f.fn ⟨(c.nm, some "__init__"), "__init__", qn, _, _, sc, [.non], []⟩ (List.mem_append_right _ (List.mem_filterMap.mpr ⟨c, List.mem_of_getElem? ec, by rw [hini]⟩))
      have okg := okN_get hk
      have ne : g ≠ "self" := fun e => by
        have nd := (scope_ok (fI := "") hs).nd
        rw [e] at nd
        exact (List.nodup_cons.mp nd).1 List.mem_cons_self
      have nof : PySem.W.findIn K (.ref (ga K c.nm)) g = some none := hno (g, some .non) List.mem_cons_self
      have F' := F
      obtain ⟨oc, od, dV, kV, doc, pm, an, cdv, ct, osl, rfl, lk, hcd, hD, _⟩ := F'.ex
      have ok := init_ok (P := p) (w := w) (mg := mg) (base := base) (k := 0) lk hcd (scope_ok (fI := "") hs) l1 l2 okg.1 okg.2.1
      have nd : (([⟨"self", none, p0⟩, ⟨g, none, p1⟩] : List Arg).map (·.arg)).Nodup := (scope_ok (fI := "") hs).nd
      have bnd : ∀ (n : Nat) (ks : List Str), (n = 2 ∧ ks = []) ∨ (n = 1 ∧ ks = [g]) → ∀ (s : Shared) (self u : Value) (us ws : List Value), K.In s.heap → us.length + 1 = n → ws.length = ks.length → us ++ ws = [u] →
          BindsTo s (PySem.W.fnOf "__init__" qn ⟨[], [⟨"self", none, p0⟩, ⟨g, none, p1⟩], none, [], [], none, [.Constant .none k0 p2]⟩ [.Assign [.Attribute (.Name "self" p3) g p4] (.Name g p5) p6] sc dV kV doc pm an cdv ct) ⟨self :: us, ks.zip ws⟩ [("self", self), (g, u)] := by
        intro n ks hnk s self u us ws hK l1 l2 e
        rcases hD with ⟨e0, _⟩ | ⟨_, T, o, its, m, rfl, lT, oT, rT⟩
        · exact nomatch e0
        · have sg : (g == ("self" : Str)) = false := by simpa using ne
          have gs : (("self" : Str) == g) = false := by
            have : ("self" : Str) ≠ g := fun e => ne e.symm
            simpa using this
          have hkk : ∀ k ∈ ks, k ∈ ([⟨"self", none, p0⟩, ⟨g, none, p1⟩] : List Arg).map (·.arg) ∧ k ∉ (([⟨"self", none, p0⟩, ⟨g, none, p1⟩] : List Arg).map (·.arg)).take (self :: us).length := fun k hm => by
            rcases hnk with ⟨_, rfl⟩ | ⟨a, rfl⟩
            · exact nomatch hm
            · have : us = [] := List.length_eq_zero_iff.mp (by omega)
              subst this
              rw [List.mem_singleton] at hm
              subst hm
              refine ⟨by simp, ?_⟩
              simpa using ne
          have hv : vals? ((([⟨"self", none, p0⟩, ⟨g, none, p1⟩] : List Arg).map (·.arg)).zip (self :: us) ++ ks.zip ws) (([⟨"self", none, p0⟩, ⟨g, none, p1⟩] : List Arg).map (·.arg)) = some [self, u] := by
            rcases hnk with ⟨a, rfl⟩ | ⟨a, rfl⟩
            · have : ws = [] := List.length_eq_zero_iff.mp l2
              subst this
              rw [List.append_nil] at e
              subst e
              simp [vals?, List.lookup_cons, sg]
            · have : us = [] := List.length_eq_zero_iff.mp (by omega)
              subst this
              rw [List.nil_append] at e
              subst e
              simp [vals?, List.lookup_cons, sg]
          have hn2 : (self :: us).length ≤ ([⟨"self", none, p0⟩, ⟨g, none, p1⟩] : List Arg).length := by
            rw [List.length_cons, List.length_cons, List.length_cons, List.length_nil]
            rcases hnk with ⟨a, b⟩ | ⟨a, b⟩ <;> omega
          have hkn : ks.Nodup := by rcases hnk with ⟨_, rfl⟩ | ⟨_, rfl⟩ <;> simp
          refine BindsTo.of_looks fun M => ?_
          rw [bind_kwD (zs := [self, u]) rfl nd hn2 hkk hkn l2 hv]
          exact looks_items hK lT oT (.of_pure rfl)
      have base_ : ∀ (n : Nat) (ks : List Str), (n + 1 = 2 ∧ ks = []) ∨ (n + 1 = 1 ∧ ks = [g]) → MkC (gmT p G w K mg base) 1 i g n ks := fun n ks hnk => by
        refine ⟨?_, ?_, ff, by rcases hnk with ⟨a, rfl⟩ | ⟨a, rfl⟩ <;> simp <;> omega, ma K (ga K c.nm) "__init__", _, ?_, hT, ok, fun s self u us ws hK e1 e2 e3 => bnd (n + 1) ks hnk s self u us ws hK (by omega) e2 e3⟩
        · show OexC K (ga K (cnm (tx p) i))
          rw [en]
          exact oexB_ok ho
        · show PySem.W.findIn K (.ref (ga K (cnm (tx p) i))) g = _
          rw [en]
          exact nof
        · show PySem.W.findIn K (.ref (ga K (cnm (tx p) i))) "__init__" = _
          rw [en]
          exact hI
      exact ⟨base_ 1 [] (.inl ⟨rfl, rfl⟩), base_ 0 [g] (.inr ⟨rfl, rfl⟩)⟩
    · exact nomatch hi
end
end
end Ev
end
section
set_option Elab.async false
set_option linter.all false
set_option maxRecDepth 100000
set_option maxHeartbeats 400000
/-! THE WORLD OF A LAW: the text keeps what the translation asks. -/
namespace Ev
noncomputable section
open PySem PySem.Spec PyProof.Rows L2 LamX
open He (ga ma fAd cT)
section
variable {p : Program} {G : Pg} {w : World} {K : PySem.W.Frag} {mg : Str → Option Value} {base : Heap}
theorem Fx.defB (f : Fx p G K mg base) {q : DW × List (Nat × Expr)} (h : q ∈ (tx p).defs.zip (lamsT (tx p))) : Ev.defB q = true := by
  have st := f.st
  unfold statB at st
  simp only [Bool.and_eq_true, List.all_eq_true] at st
  exact st.1.1 _ h
theorem Fx.lamB (f : Fx p G K mg base) {L : LamI} (h : L ∈ lamIs (tx p)) : Ev.lamB L = true := by
  have st := f.st
  unfold statB at st
  simp only [Bool.and_eq_true, List.all_eq_true] at st
  exact st.1.2.1 _ h
theorem Fx.wd (f : Fx p G K mg base) : WOk (gmT p G w K mg base) where
  ck := ⟨fun t u b _ h => by
    obtain ⟨_, q, _⟩ := f.bel h
    exact q⟩
  xc := f.xc
  ex := fun c k b h => (f.bel h).2.2
  con := fun x d h => f.con h
  df := fun x i ps h => by
    obtain ⟨e1, d, e2, e3⟩ := f.dfn h
    obtain ⟨a, b, _⟩ := f.def_ e2
    refine ⟨?_, ?_⟩
    · show mg x = some (.ref (ga K (dnm (tx p) i)))
      rw [← e1, a]
      exact b
    · show ps.map (·.1) = ((tx p).defs[i]?.getD default).ps
      rw [e2]
      exact e3
  cl := fun x i ps h => by
    obtain ⟨e1, c, e2, e3⟩ := f.cln h
    obtain ⟨c', e2', a, _, b, _⟩ := f.cls (lt_of_get e2)
    rw [e2] at e2'
    cases e2'
    show mg x = some (.ref (ga K (cnm (tx p) i)))
    rw [← e1, a]
    exact b
  bl := fun x hx h => He.free_ok f.kin f.ns (f.fa _ (List.mem_append_right _ (List.mem_append_right _ (List.mem_append_left _ (List.mem_map.mpr ⟨x, List.mem_filter.mpr ⟨hx, by
    show ((tx p).gl.lookup x).isNone = true
    rw [show (tx p).gl.lookup x = none from h]
    rfl⟩, rfl⟩)))))
  mkc := fun x i g d h => f.mkc h
  sys := by
    have ex := f.ex
    unfold exT at ex
    simp only [Bool.and_eq_true] at ex
    obtain ⟨o, ho⟩ := Option.isSome_iff_exists.mp ex.2.2.2
    exact ⟨o, f.kin _ _ ho⟩
theorem Fx.sh (f : Fx p G K mg base) : ShpOk (gmT p G w K mg base) := by
  intro i n ks hm us ws hn hw
  have st := f.st
  unfold statB at st
  simp only [Bool.and_eq_true, List.all_eq_true] at st
  have q := st.1.2.2.1 _ hm
  split at q
  · rename_i d ed
    obtain ⟨a, _, fd, F⟩ := f.def_ ed
    obtain ⟨hp, hd⟩ := fun_plain F
    have nd : d.ps.Nodup ∧ plainA d.args = true := by
      have m := List.mem_of_getElem? ed
      obtain ⟨j, hj⟩ := List.mem_iff_getElem?.mp m
      -- the def stands with its lambdas
      have hz : ∃ ls, (d, ls) ∈ (tx p).defs.zip (lamsT (tx p)) := by
        have hl : (lamsT (tx p)).length = (tx p).defs.length := by
          unfold lamsT
          have : ∀ (ll : List (List Expr)) (n : Nat), (numbered n ll).length = ll.length := by
            intro ll
            induction ll with
            | nil => intro n; rfl
            | cons l r ih => intro n; unfold numbered; rw [List.length_cons, List.length_cons, ih]
          rw [this, List.length_map]
        have hj' := lt_of_get hj
        refine ⟨(lamsT (tx p))[j], ?_⟩
        refine List.mem_iff_getElem?.mpr ⟨j, ?_⟩
        rw [List.getElem?_zip_eq_some]
        exact ⟨hj, List.getElem?_eq_getElem (by omega)⟩
      obtain ⟨ls, hz⟩ := hz
      have b := f.defB hz
      unfold Ev.defB at b
      simp only [Bool.and_eq_true, decide_eq_true_eq] at b
      exact ⟨b.2.2.1, b.2.1⟩
    obtain ⟨ar, zs, h1, h2, h3⟩ := shp_ok (n := n) (ks := ks) hp nd.2 hd nd.1 q us ws hn hw
    have epsn : (gmT p G w K mg base).psn i = d.ps := by
      show ((tx p).defs[i]?.getD default).ps = _
      rw [ed]; rfl
    have efd : (gmT p G w K mg base).fd i = fd := by
      show fdAt K (ga K (dnm (tx p) i)) = _
      rw [a]
      exact fdAt_of F
    rw [epsn, efd]
    exact ⟨ar, zs, h1, h2, h3⟩
  · exact nomatch q
theorem Fx.kp (f : Fx p G K mg base) (i : Nat) : PySem.W.keepIn K (.ref (ga K (dnm (tx p) i))) = true := by
  have st := f.st
  unfold statB at st
  simp only [Bool.and_eq_true, decide_eq_true_eq] at st
  have h0 := st.2.2
  have key : ∃ (j : Nat) (d : DW), (tx p).defs[j]? = some d ∧ dnm (tx p) i = d.nm := by
    unfold dnm
    cases e : (tx p).defs[i]? with
    | some d => exact ⟨i, d, e, rfl⟩
    | none =>
      cases hd : (tx p).defs with
      | nil => rw [hd] at h0; exact absurd h0 (by simp)
      | cons a r => exact ⟨0, a, rfl, rfl⟩
  obtain ⟨j, d, ed, en⟩ := key
  obtain ⟨_, _, fd, F⟩ := f.def_ ed
  rw [en]
  exact F.kp
/-- a def of the text -/
theorem Fx.defT (f : Fx p G K mg base) {i : Nat} {d : Df} (h : G.defs.get i = some d) : ∃ D : DW, (tx p).defs[i]? = some D ∧ DefT (gmT p G w K mg base) (drwN D.nm) i d := by
  obtain ⟨dfs, lms, e1, _, e3, _⟩ := f.pg.is
  rw [e3] at h
  obtain ⟨⟨D, ls⟩, hq, hd⟩ := mapO_get e1 (ofL_get h)
  rw [List.getElem?_zip_eq_some] at hq
  obtain ⟨hD, hls⟩ := hq
  have hz : (D, ls) ∈ (tx p).defs.zip (lamsT (tx p)) := List.mem_iff_getElem?.mpr ⟨i, by rw [List.getElem?_zip_eq_some]; exact ⟨hD, hls⟩⟩
  have b := f.defB hz
  unfold Ev.defB at b
  simp only [Bool.and_eq_true, decide_eq_true_eq, List.all_eq_true] at b
  obtain ⟨b1, b2, b3, b4, b5⟩ := b
  obtain ⟨en, _, fd, F⟩ := f.def_ hD
  obtain ⟨hp, hdf⟩ := fun_plain F
  refine ⟨D, hD, ?_⟩
  unfold dfT at hd
  split at hd
  · rename_i cs fin hb
    cases hd
    have epsn : (gmT p G w K mg base).psn i = D.ps := by
      show ((tx p).defs[i]?.getD default).ps = _
      rw [hD]; rfl
    have efn : (gmT p G w K mg base).fnA i = ga K D.nm := by
      show ga K (dnm (tx p) i) = _
      rw [en]
    have efd : (gmT p G w K mg base).fd i = fd := by
      show fdAt K (ga K (dnm (tx p) i)) = _
      rw [en]
      exact fdAt_of F
    have F' := F
    obtain ⟨oc, od, dV, kV, doc, pm, an, cdv, ct, osl, rfl, lk, hcd, _⟩ := F'.ex
    refine ⟨⟨⟨D.nm, D.nm, D.args, D.body, D.sc, dV, kV, doc, pm, an, cdv, ct, D.N⟩, ccT (tx p).gl (shpT (tx p)) D ls, ?_, rfl, rfl, rfl, rfl, fun q hq => hq, rfl, rfl, fun j e m => ?_, hb, fun us hl => ?_⟩⟩
    · refine ⟨⟨oc, od, osl, ?_⟩, efd, hcd, ?_, ?_, rfl, fun c hc => ?_⟩
      · rw [efn]; exact lk
      · rw [epsn]; exact C8.fnScope_by b1
      · rw [epsn]
      · have q := b4 c hc
        split at q
        · rename_i x ex
          exact ⟨x, ex, of_decide_eq_true q⟩
        · exact nomatch q
    · obtain ⟨hj, hL⟩ := numbered_get (ds := (tx p).defs) (n := 0) hz m
      have hL : (lamIs (tx p))[j]? = some (lamI D e) := hL
      have eL : (gmT p G w K mg base).lam j = lamI D e := by
        show (lamIs (tx p))[j]?.getD default = _
        rw [hL]; rfl
      have il : isLam e = true := b5 _ m
      cases e with
      | Lambda a bd sc pos =>
        have il : plainA a = true := il
        have mt : (D.nm, none) ∈ tfT (tx p) := by
          unfold tfT
          refine List.mem_filterMap.mpr ⟨_, hz, ?_⟩
          cases ls with
          | nil => exact nomatch m
          | cons a r => rfl
        obtain ⟨c0, rfl⟩ := He.codeIn_ref hcd
        have ec : He.codeOf K (D.nm, none) = c0 := He.codeOf_eq (p := (D.nm, none)) lk rfl
        have tb := f.tb _ mt
        rw [show (cT K (D.nm, (none : Option Str))).1 = c0 from ec] at tb
        refine ⟨⟨pos, c0, (cT K (D.nm, none)).2, fun _ _ => D.nm ++ ".<locals>." ++ "<lambda>", ?_, tb, rfl, ?_, ?_, ?_, ?_, ?_, ?_⟩⟩
        · rw [eL]; rfl
        · rw [eL]; rfl
        · exact List.mem_map.mpr ⟨_, mt, rfl⟩
        · rw [eL]; rfl
        · intro q hq e
          obtain ⟨r, hr, rfl⟩ := List.mem_map.mp hq
          have ex := f.ex
          unfold exT at ex
          simp only [Bool.and_eq_true, decide_eq_true_eq] at ex
          have nd := ex.2.2.1
          have : r = (D.nm, none) := by
            have inj : ∀ {l : List He.Defn} {g : He.Defn → Addr}, (l.map g).Nodup → ∀ a ∈ l, ∀ b ∈ l, g a = g b → a = b := by
              intro l g hn
              induction l with
              | nil => intro a ha; exact nomatch ha
              | cons z zs ih =>
                intro a ha b hb e
                rw [List.map_cons] at hn
                have hn' := List.nodup_cons.mp hn
                rcases List.mem_cons.mp ha with rfl | ha
                · rcases List.mem_cons.mp hb with rfl | hb
                  · rfl
                  · exact absurd (List.mem_map.mpr ⟨b, hb, e.symm⟩) hn'.1
                · rcases List.mem_cons.mp hb with rfl | hb
                  · exact absurd (List.mem_map.mpr ⟨a, (by assumption : a ∈ zs), e⟩) hn'.1
                  · exact ih hn'.2 a ha b hb e
            exact inj nd r hr _ mt e
          rw [this]
        · intro env
          rw [eL]
          show defaultsOf a env = _
          rw [plainA_eq il]
          rfl
        · rw [eL]; rfl
      | _ => exact nomatch il
    · rw [epsn, efd]
      rw [epsn] at hl
      exact pos_ok hp b2 hdf b3 us hl
  · exact nomatch hd
theorem Fx.lamT (f : Fx p G K mg base) {i : Nat} {d : Lm} (h : G.lams.get i = some d) : LamT (gmT p G w K mg base) i d := by
  obtain ⟨dfs, lms, _, e2, _, e4, _⟩ := f.pg.is
  rw [e4] at h
  obtain ⟨L, hL, hd⟩ := mapO_get e2 (ofL_get h)
  have eL : (gmT p G w K mg base).lam i = L := by
    show (lamIs (tx p))[i]?.getD default = _
    rw [hL]; rfl
  have b := f.lamB (List.mem_of_getElem? hL)
  unfold Ev.lamB at b
  simp only [Bool.and_eq_true, decide_eq_true_eq] at b
  obtain ⟨b1, b2, b3⟩ := b
  have hps : L.ps = argNames L.params := by
    have m := List.mem_of_getElem? hL
    unfold lamIs at m
    obtain ⟨q, _, hm⟩ := List.mem_flatMap.mp m
    obtain ⟨l, _, rfl⟩ := List.mem_map.mp hm
    unfold lamI
    split <;> rfl
  unfold lmT at hd
  split at hd
  · rename_i bd hb
    cases hd
    refine ⟨⟨?_, ?_, ?_, ?_⟩, ccL (tx p).gl (shpT (tx p)) L, ?_, ?_, rfl, fun q hq => hq, rfl, rfl, rfl, ?_⟩
    · rw [eL]; exact NdefX.nscope_by b1
    · rw [eL]
    · rw [eL]
    · intro cl pm c' ctv us hl
      rw [eL] at hl ⊢
      rw [hps] at hl ⊢
      exact pos_ok rfl b2 rfl b3 us hl
    · rw [eL]; rfl
    · rw [eL]; rfl
    · rw [eL]; exact hb
  · exact nomatch hd
/-- ALL of it -/
theorem Fx.ok0 (f : Fx p G K mg base) : PgOk0 (gmT p G w K mg base) where
  wd := f.wd
  sh := f.sh
  defs := fun i d h => by
    obtain ⟨D, _, q⟩ := f.defT (w := w) h
    exact ⟨_, q⟩
  lams := fun i d h => f.lamT h
  kp := f.kp
end
end
end Ev
end
section
set_option Elab.async false
set_option linter.all false
set_option maxRecDepth 100000
set_option maxHeartbeats 400000
/-! THE LAW'S DRAWS: one place of the store told otherwise. -/
namespace Ev
noncomputable section
open PySem PySem.Spec PyProof.Rows L2 LamX
theorem T.put_same {α : Type} {o : α} : ∀ {t : T α} {k : Nat} {x : α}, t.get k = some x → (t.put k o).get k = some o
  | .lf, _, _, h => nomatch h
  | .nd v l r, k, x, h => by
    rw [T.get_nd] at h
    rw [T.put_nd]
    cases h0 : Nat.beq k 0 with
    | true => dsimp only; rw [T.get_nd, h0]
    | false =>
      rw [h0] at h
      dsimp only at h ⊢
      cases h1 : Nat.beq (Nat.mod k 2) 1 with
      | true =>
        rw [h1] at h
        dsimp only at h ⊢
        rw [T.get_nd]
        rw [h0, h1]
        exact T.put_same h
      | false =>
        rw [h1] at h
        dsimp only at h ⊢
        rw [T.get_nd]
        rw [h0, h1]
        exact T.put_same h
theorem T.put_ne {α : Type} {o : α} : ∀ {t : T α} {k j : Nat} {x : α}, t.get k = some x → j ≠ k → (t.put k o).get j = t.get j
  | .lf, _, _, _, h, _ => nomatch h
  | .nd v l r, k, j, x, h, hn => by
    rw [T.get_nd] at h
    rw [T.put_nd]
    cases h0 : Nat.beq k 0 with
    | true =>
      have k0 : k = 0 := Nat.eq_of_beq_eq_true h0
      have j0 : Nat.beq j 0 = false := by
        cases e : Nat.beq j 0 with
        | false => rfl
        | true => exact absurd ((Nat.eq_of_beq_eq_true e).trans k0.symm) hn
      dsimp only
      rw [T.get_nd, T.get_nd]
      rw [j0]
    | false =>
      rw [h0] at h
      dsimp only at h ⊢
      cases h1 : Nat.beq (Nat.mod k 2) 1 with
      | true =>
        rw [h1] at h
        dsimp only at h ⊢
        rw [T.get_nd, T.get_nd]
        cases j0 : Nat.beq j 0 with
        | true => rfl
        | false =>
          cases j1 : Nat.beq (Nat.mod j 2) 1 with
          | true => exact T.put_ne h fun e => hn (odd_inj j1 h1 e)
          | false => rfl
      | false =>
        rw [h1] at h
        dsimp only at h ⊢
        rw [T.get_nd, T.get_nd]
        cases j0 : Nat.beq j 0 with
        | true => rfl
        | false =>
          cases j1 : Nat.beq (Nat.mod j 2) 1 with
          | true => rfl
          | false => exact T.put_ne h fun e => hn (even_inj j1 h1 j0 h0 e)
/-- the same store but at l, where both hold what is tracked -/
structure SwapAt (l : Nat) (S T : St) : Prop where
  n : S.n = T.n
  ne : ∀ j, j ≠ l → S.get j = T.get j
  at_ : ∃ o o', S.get l = some o ∧ T.get l = some o' ∧ trk o = true ∧ trk o' = true
theorem SwapAt.put {l : Nat} {S : St} {o x : O} (h : S.get l = some x) (t : trk x = true) (t' : trk o = true) : SwapAt l S (S.put l o) := ⟨rfl, fun j hj => (T.put_ne h hj).symm, x, o, h, T.put_same h, t, t'⟩
theorem SwapAt.symm {l : Nat} {S T : St} (w : SwapAt l S T) : SwapAt l T S := ⟨w.n.symm, fun j hj => (w.ne j hj).symm, by
  obtain ⟨o, o', a, b, c, d⟩ := w.at_
  exact ⟨o', o, b, a, d, c⟩⟩
theorem SwapAt.trans {l : Nat} {S T U : St} (v : SwapAt l S T) (w : SwapAt l T U) : SwapAt l S U := ⟨v.n.trans w.n, fun j hj => (v.ne j hj).trans (w.ne j hj), by
  obtain ⟨o, _, a, _, c, _⟩ := v.at_
  obtain ⟨_, o', _, b, _, d⟩ := w.at_
  exact ⟨o, o', a, b, c, d⟩⟩
section
variable {l : Nat} {S T S' T' : St} {ρ ρ' : Nat → Addr} {H H' : Hp}
theorem SwapAt.trk_of (w : SwapAt l S T) {j : Nat} {o : O} (h : S.get j = some o) (t : trk o = true) : ∃ o', T.get j = some o' ∧ trk o' = true := by
  by_cases e : j = l
  · subst e
    obtain ⟨_, o', _, b, _, d⟩ := w.at_
    exact ⟨o', b, d⟩
  · exact ⟨o, by rw [← w.ne j e]; exact h, t⟩
theorem SwapAt.cel (w : SwapAt l S T) {j : Nat} {od : Option D} (h : S.get j = some (.cel od)) : T.get j = some (.cel od) := by
  by_cases e : j = l
  · subst e
    obtain ⟨o, _, a, _, c, _⟩ := w.at_
    rw [h] at a
    cases a
    exact nomatch c
  · rw [← w.ne j e]; exact h
theorem SwapAt.Trk (w : SwapAt l S T) {a : Addr} (h : Ev.Trk ρ S a) : Ev.Trk ρ T a := by
  obtain ⟨j, o, h1, h2, h3⟩ := h
  obtain ⟨o', a, b⟩ := w.trk_of h1 h2
  exact ⟨j, o', a, b, h3⟩
/-- the frame of the one is the frame of the other -/
theorem SwapAt.ext (v : SwapAt l S T) (w : SwapAt l S' T') (e : Ext ρ S H ρ' S' H') : Ext ρ T H ρ' T' H' where
  le := by rw [← v.n, ← w.n]; exact e.le
  ag := fun j hj => e.ag j (by rw [v.n]; exact hj)
  keep := e.keep
  fr := fun a o h i t => e.fr a o h i fun q => t (v.Trk q)
  old := fun j o' hj h t => by
    obtain ⟨o2, a, b⟩ := w.symm.trk_of h t
    obtain ⟨o3, c, d⟩ := e.old j o2 (by rw [v.n]; exact hj) a b
    exact v.trk_of c d
  fresh := fun j o' hj h t => by
    obtain ⟨o2, a, b⟩ := w.symm.trk_of h t
    exact e.fresh j o2 (by rw [v.n]; exact hj) a b
  dom := e.dom
  oldC := fun j od hj h => by
    obtain ⟨od', a⟩ := e.oldC j od (by rw [v.n]; exact hj) (w.symm.cel h)
    exact ⟨od', v.cel a⟩
  freshC := fun j od hj h => e.freshC j od (by rw [v.n]; exact hj) (w.symm.cel h)
  cels := fun j od hj h => v.cel (e.cels j od (by rw [v.n]; exact hj) (w.symm.cel h))
/-- what is told of the places -/
theorem SwapAt.rh {Γ : Gm} {env : Env} (w : SwapAt l S T) (R : Rh Γ ρ env S H) (h : ∀ o, T.get l = some o → RO Γ ρ S.n env H l o) : Rh Γ ρ env T H where
  obj := fun j o hj => by
    rw [← w.n]
    by_cases e : j = l
    · subst e
      obtain ⟨x, _, a, _⟩ := w.at_
      exact ⟨(R.obj j x a).1, h o hj⟩
    · exact R.obj j o (by rw [w.ne j e]; exact hj)
  inj := fun i j o o' hi hj ti tj e => by
    obtain ⟨a, a1, a2⟩ := w.symm.trk_of hi ti
    obtain ⟨b, b1, b2⟩ := w.symm.trk_of hj tj
    exact R.inj i j a b a1 b1 a2 b2 e
  tabs := R.tabs
  injF := fun i j od od' u h1 h2 h3 h4 h5 h6 => R.injF i j od od' u h1 h2 (w.symm.cel h3) (w.symm.cel h4) h5 h6
end
end
end Ev
end
section
set_option Elab.async false
set_option linter.all false
set_option maxRecDepth 100000
set_option maxHeartbeats 2000000
/-! THE LAW'S DRAWS: what the drawing computes. -/
namespace Ev
noncomputable section
open PySem PySem.Spec PyProof.Rows L2 LamX
/-- the drawing's text, by its numbers -/
def drwDf (c1 c2 m1 m2 q : Int) : Df := ⟨2, 3, [], [
  .ife (.pr .gt [.pr .idx [.var 0, .lit (.int 0)], .lit (.int 0)])
    [.asg (.tp [.sb (.var 0) (.lit (.int 0)), .nm 2]) (.pr .divmod [.pr .idx [.var 0, .lit (.int 0)], .var 1]), .ret (.var 2)] [],
  .asg (.sb (.var 0) (.lit (.int 1))) (.pr .mod [.pr .int [.pr .add [.pr .mul [.pr .idx [.var 0, .lit (.int 1)], .lit (.int c1)], .lit (.int c2)]], .lit (.int m1)]),
  .ret (.pr .mod [.pr .int [.pr .fdiv [.pr .mod [.pr .int [.pr .mul [.pr .idx [.var 0, .lit (.int 1)], .pr .idx [.var 0, .lit (.int 1)]]], .lit (.int m2)], .lit (.int q)]], .var 1])], none⟩
theorem small_of {i : Int} (h0 : 0 ≤ i) (h : i < 18446744073709551616) : small i = true := by
  cases i with
  | ofNat n =>
    show Nat.blt n 18446744073709551616 = true
    rw [Nat.blt_eq]
    have : (n : Int) < 18446744073709551616 := h
    omega
  | negSucc n => exact absurd h0 (by omega)
section
variable {G : Pg} {N k : Nat} {iD : Nat} {c1 c2 m1 m2 q : Int} {S : St} {l n : Nat} {i j : Int}
theorem draw_eval (hd : G.defs.get iD = some (drwDf c1 c2 m1 m2 q)) (hc : small c1 = true) (h1 : 0 < m1) (h1' : m1 < 18446744073709551616) (h2 : 0 < m2) (hq : 0 < q) (hq' : q < 1073741824) (hn : 0 < n) (hn' : n < 1000000) (h : S.get l = some (.lst [.int i, .int j])) :
    ∃ (d : Nat) (T : St) (a b : Int), callN G (N + 11) (k + 1) (.df iD) [.ref l, .int (.ofNat n)] S = .ok (.int (.ofNat d)) T ∧ d < n ∧ SwapAt l S T ∧ T.get l = some (.lst [.int a, .int b]) := by
  have hsw : ∀ {U : St} {x y : List D}, U.get l = some (.lst x) → SwapAt l U (U.put l (.lst y)) := fun hu => SwapAt.put hu rfl rfl
  have hpt : ∀ {U : St} {x y : List D}, U.get l = some (.lst x) → (U.put l (.lst y)).get l = some (.lst y) := fun hu => T.put_same hu
  have np : (0 : Int) < (n : Int) := by omega
  have np' : (n : Int) < 1073741824 := by omega
  have nat : ∀ x : Int, ∃ d : Nat, x % (n : Int) = (d : Int) ∧ d < n := fun x => by
    have a := Int.emod_nonneg x (Int.ne_of_gt np)
    have b := Int.emod_lt_of_pos x np
    obtain ⟨d, hd⟩ := Int.eq_ofNat_of_zero_le a
    refine ⟨d, hd, ?_⟩
    rw [hd] at b
    exact Int.ofNat_lt.mp b
  have b0 : Nat.blt 0 2 = true := rfl
  have b1 : Nat.blt 1 2 = true := rfl
  have q2 : Nat.beq 2 2 = true := rfl
  have s1 : Nat.sub 3 2 = 1 := rfl
  by_cases hi : 0 < i
  · obtain ⟨d, e1, e2⟩ := nat i
    refine ⟨d, S.put l (.lst [.int (i / n), .int j]), i / n, j, ?_, e2, hsw h, hpt h⟩
    simp [callN, hd, drwDf, lenN_nil, lenN_cons, q2, s1, celled, pad_zero, pad_succ, ite_e, ite_ss, stepSs_nil, stepSs_cons, stepS, stepT, s_ife, s_asg, s_ret, stepE, stepF, e_pr, e_var, e_lit, evs_nil, evs_cons, Res.bind_ok, Res.bind_fail, Res.st_ok, Res.nox_ok, retOf, hide_nil, hide_cons, prim_eq, primF, p_idx, p_gt, p_divmod, look_eq, nth_z, nth_s, h, ixOf, b0, b1, truth, hi, np, np', hn, asgT, asgTs, items, p_setIdx, setN_z, setN_s, store, e1]
  · have r1 : 0 ≤ (j * c1 + c2) % m1 := Int.emod_nonneg _ (Int.ne_of_gt h1)
    have r2 := Int.emod_lt_of_pos (j * c1 + c2) h1
    have sm : small ((j * c1 + c2) % m1) = true := small_of r1 (Int.lt_trans r2 h1')
    obtain ⟨d, e1, e2⟩ := nat (((j * c1 + c2) % m1) * ((j * c1 + c2) % m1) % m2 / q)
    refine ⟨d, S.put l (.lst [.int i, .int ((j * c1 + c2) % m1)]), i, (j * c1 + c2) % m1, ?_, e2, hsw h, hpt h⟩
    have h' : (S.put l (.lst [.int i, .int ((j * c1 + c2) % m1)])).get l = some (.lst [.int i, .int ((j * c1 + c2) % m1)]) := hpt h
    simp [callN, hd, drwDf, lenN_nil, lenN_cons, q2, s1, celled, pad_zero, pad_succ, ite_e, ite_ss, stepSs_nil, stepSs_cons, stepS, stepT, s_ife, s_asg, s_ret, stepE, stepF, e_pr, e_var, e_lit, evs_nil, evs_cons, Res.bind_ok, Res.bind_fail, Res.st_ok, Res.nox_ok, retOf, hide_nil, hide_cons, prim_eq, primF, p_idx, p_gt, p_mod, p_fdiv, p_mul, p_add, p_int, look_eq, nth_z, nth_s, h, h', ixOf, b0, b1, truth, hi, np, np', hn, hc, sm, h1, h2, hq, hq', asgT, p_setIdx, setN_z, setN_s, store, e1]
end
end
end Ev
end
section
set_option Elab.async false
set_option linter.all false
set_option maxRecDepth 100000
set_option maxHeartbeats 400000
/-! THE LAW'S DRAWS: the rule. -/
namespace Ev
noncomputable section
open PySem PySem.Spec PyProof.Rows L2 LamX
/-- the drawing as a call -/
def cfD (iD : Nat) : CallF := fun f xs S => match f with
  | .df i => match Nat.beq i iD with
    | true => match xs with
      | [.ref l, .int (.ofNat k)] => match S.get l with
        | some .opq => match Nat.blt k 1000000 with
          | true => .draw k fun d => .ok (.int (.ofNat d)) S
          | false => .fail
        | _ => .fail
      | _ => .fail
    | false => .fail
  | .lm _ _ => .fail
section
variable {Γ : Gm} {N k : Nat} {iD : Nat} {c1 c2 m1 m2 q : Int}
theorem dfok_drw (P : PgOk0 Γ) (hpot : ∀ i j, Γ.pot i j) (hd : Γ.G.defs.get iD = some (drwDf c1 c2 m1 m2 q)) (T : DefT Γ false iD (drwDf c1 c2 m1 m2 q)) (hc : small c1 = true) (h1 : 0 < m1) (h1' : m1 < 18446744073709551616) (h2 : 0 < m2) (hq : 0 < q) (hq' : q < 1073741824) (hk : 3 ≤ k) :
    DfOk Γ k (cfD iD) := by
  intro i ds A outer s ρ S H args us vs Q E hr hg e0 R r rv hb h
  unfold cfD at h
  dsimp only at h
  split at h
  · rename_i ei
    have ei := Nat.eq_of_beq_eq_true ei
    subst ei
    split at h
    · rename_i l n
      split at h
      · rename_i hl
        split at h
        · rename_i hn
          have hn : n < 1000000 := Nat.le_of_ble_eq_true hn
          have h : 0 < n ∧ ∀ d, d < n → PostC Γ ρ S H Q (.int (.ofNat d)) S := h
          obtain ⟨hn0, h⟩ := h
          obtain ⟨a, b, hH, _⟩ := (R.obj l _ hl).2
          have w : SwapAt l S (S.put l (.lst [.int a, .int b])) := SwapAt.put hl rfl rfl
          have hl' : (S.put l (.lst [.int a, .int b])).get l = some (.lst [.int a, .int b]) := Ev.T.put_same hl
          have R' : Rh Γ ρ [] (S.put l (.lst [.int a, .int b])) H := w.rh R fun o ho => by
            rw [hl'] at ho
            cases ho
            exact ⟨by simp, _, hH, RDs.cons rfl (RDs.cons rfl RDs.nil)⟩
          obtain ⟨d, U, a', b', ev, hdn, w2, hU⟩ := draw_eval (G := Γ.G) (N := 0) (k := 0) hd hc h1 h1' h2 hq hq' hn0 hn hl'
          have hr3 : Room (2 + 1) A := hr.mono hk
          refine df_one (k := 2) (N := 11) (j := 0) (b := false) P (cfk_no P 11 (Nat.le_refl 2)) (fun z => nomatch z) hd T hr3 hg e0 R' r rv hb ?_
          rw [show callN Γ.G 11 (0 + 1) (.df i) [.ref l, .int (.ofNat n)] (S.put l (.lst [.int a, .int b])) = .ok (.int (.ofNat d)) U from ev]
          intro ρ' H' v Ru eu rd
          have wU : SwapAt l U S := (w.trans w2).symm
          refine h d hdn ρ' H' v (wU.rh Ru fun o ho => ?_) (SwapAt.ext w.symm wU eu) rd
          rw [hl] at ho
          cases ho
          obtain ⟨_, ys, hy, rs⟩ := (Ru.obj l _ hU).2
          obtain ⟨y1, r1, rfl, d1, rs1⟩ := (show ∃ y r, ys = y :: r ∧ RD Γ ρ' U.n H' (.int a') y ∧ RDs Γ ρ' U.n H' [.int b'] r from rs)
          obtain ⟨y2, r2, rfl, d2, rs2⟩ := (show ∃ y r, r1 = y :: r ∧ RD Γ ρ' U.n H' (.int b') y ∧ RDs Γ ρ' U.n H' [] r from rs1)
          have rs2 : r2 = [] := rs2
          subst rs2
          cases rd_int d1
          cases rd_int d2
          exact ⟨a', b', hy, hpot _ _⟩
        · exact h.elim
      · exact h.elim
    · exact h.elim
  · exact h.elim
theorem cfk_drw (P : PgOk0 Γ) (hpot : ∀ i j, Γ.pot i j) (hd : Γ.G.defs.get iD = some (drwDf c1 c2 m1 m2 q)) (T : DefT Γ false iD (drwDf c1 c2 m1 m2 q)) (hc : small c1 = true) (h1 : 0 < m1) (h1' : m1 < 18446744073709551616) (h2 : 0 < m2) (hq : 0 < q) (hq' : q < 1073741824) (hk : 3 ≤ k) :
    CfK Γ k (cfD iD) := by
  refine ⟨P.sh, dfok_drw P hpot hd T hc h1 h1' h2 hq hq' hk, fun i l ls ds A outer s ρ S H us vs Q E _ _ _ _ _ _ _ h => h.elim, fun i ds S P' E h => ?_, P.kp, by omega⟩
  unfold cfD at h
  dsimp only at h
  split at h
  · rename_i ei
    have ei := Nat.eq_of_beq_eq_true ei
    subst ei
    split at h
    · obtain ⟨F, C, hF, h0, h1, h2, h3, h4, h5, h6, h7, h8, h9⟩ := T.is
      exact ⟨hF.np, h9⟩
    · exact h.elim
  · exact h.elim
/-- _law_draw(pot, many) -/
theorem drw_rule (P : PgOk0 Γ) (hpot : ∀ i j, Γ.pot i j) (hd : Γ.G.defs.get iD = some (drwDf c1 c2 m1 m2 q)) (T : DefT Γ false iD (drwDf c1 c2 m1 m2 q)) (hc : small c1 = true) (h1 : 0 < m1) (h1' : m1 < 18446744073709551616) (h2 : 0 < m2) (hq : 0 < q) (hq' : q < 1073741824) (hk : 3 ≤ k)
    (hsh : (iD, 2, []) ∈ Γ.shp) (har : params 2 [] ((Γ.psn iD).map fun x => (x, none)) 0 = some [.at_ 0, .at_ 1]) (hmg : Γ.mg "_law_draw" = some (.ref (Γ.fnA iD)))
    {X : Cx} {W : WX} {p pos : Pos} {a b : Expr} {fa fb : EvF D} (g : XG Γ X) (hr : Room k X.A) (hg : X.A.guards = some []) (tk : L2N.Takes X W) (hgl : L2.Gl X "_law_draw") (ha : PE X a (rd Γ X W fa)) (hb : PE X b (rd Γ X W fb)) (hst : noStar [a, b] = true) :
    PE X (.Call (.Name "_law_draw" p) [a, b] [] pos) (rd Γ X W (eDrw fa fb)) := by
  have cf := cfk_drw P hpot hd T hc h1 h1' h2 hq hq' hk
  have ch : CallH Γ X W k (cfD iD) := ⟨tk, g, cf.sh, cf.df, cf.lm, cf.ix, hr, cf.kp, hg⟩
  have q := x_call (p := p) (pos := pos) (kws := []) ch hsh har hgl (by rw [g.mg]; exact hmg) (by decide) rfl rfl (x_cons ha (x_cons hb x_nil (noStar_tail (noStar_tail hst).1).2) (noStar_tail hst).2) (LenF.cons (LenF.cons LenF.nil)) hst
  refine pe_eq q fun v S => ?_
  show _ = Res.bind (Res.bind (fa v S) fun x S1 => Res.bind (Res.bind (fb v S1) fun y S2 => Res.ok [y] S2) fun xs S2 => Res.ok (x :: xs) S2) _
  rw [Res.bind_assoc]
  refine congrArg (Res.bind (fa v S)) (funext fun x => funext fun S1 => ?_)
  rw [Res.bind_assoc, Res.bind_assoc]
  refine congrArg (Res.bind (fb v S1)) (funext fun y => funext fun S2 => ?_)
  show _ = cfD iD (.df iD) [x, y] S2
  unfold cfD
  dsimp only
  rw [Nat.beq_refl]
  dsimp only
  cases x <;> first | rfl | skip
  cases y <;> first | rfl | skip
  rename_i l i
  cases i <;> rfl
end
end
end Ev
end
section
set_option Elab.async false
set_option linter.all false
set_option maxRecDepth 100000
set_option maxHeartbeats 400000
/-! THE LAW'S DRAWS: a pot is made. -/
namespace Ev
noncomputable section
open PySem PySem.Spec PyProof.Rows L2 LamX
/-- some int comes, whatever the named ints are -/
def anyI (vs : List Str) : Nat → Expr → Bool
  | 0, _ => false
  | n + 1, e => match e with
    | .Constant (.int _) _ _ => true
    | .Name x _ => vs.contains x && okN x
    | .BinOp a op b _ => anyI vs n a && (anyI vs n b && (match op with
      | .Add => true
      | .Sub => true
      | .Mult => (match b with
        | .Constant (.int j) _ _ => decide (-(2 ^ 64) < j ∧ j < 2 ^ 64)
        | _ => match a with
          | .Constant (.int j) _ _ => decide (-(2 ^ 64) < j ∧ j < 2 ^ 64)
          | _ => false)
      | .Mod => (match b with
        | .Constant (.int j) _ _ => decide (0 < j)
        | _ => false)
      | .Pow => (match a, b with
        | .Constant (.int i) _ _, .Constant (.int j) _ _ => decide (0 ≤ j ∧ j ≤ 1000000 ∧ i.natAbs < 2 ^ 64)
        | _, _ => false)
      | _ => false))
    | .Call (.Name f _) [a] [] _ => anyI vs n a && (decide (f = "int") || decide (f = "abs"))
    | .Call (.Name f _) [a, b] [] _ => anyI vs n a && (anyI vs n b && decide (f = "max"))
    | _ => false
structure PotX (X : Cx) : Prop where
  nd : X.N.Nodup
  calm : X.calm = true
  g : ∀ x ∈ ([("int" : Str), "abs", "max", "len"] : List Str), L2.Gl X x ∧ X.mg x = none
  loc : ∀ (i : Nat) (x : Str), X.N[i]? = some x → X.env.scope.names.lookup x = some .local
section
variable {X : Cx} {vs : List Str} {e a b : Expr} {pos : Pos}
def cnd (X : Cx) (vs : List Str) (σ : L2.St) : Prop := ∀ x ∈ vs, ∃ (i : Nat) (n : Int), X.N[i]? = some x ∧ σ[i]? = some (some (.int n))
abbrev tAny (X : Cx) (vs : List Str) : TE := fun σ H Q => cnd X vs σ ∧ ∀ i : Int, Q (.int i) H
theorem any_star : ∀ {n : Nat}, anyI vs n e = true → ∀ y q, e ≠ .Starred y q := by
  intro n h y q he
  subst he
  cases n <;> exact nomatch h
theorem any_sw {t : Option Expr} {l : Nat} {env : PySem.Env} : ∀ {n : Nat}, anyI vs n e = true → swapsWith e t l env = pure false := by
  intro n h
  cases n with
  | zero => exact nomatch h
  | succ n => cases e <;> first | rfl | exact nomatch h
theorem any_ok (o : PotX X) (hv : ∀ x ∈ vs, ∃ i : Nat, X.N[i]? = some x) : ∀ (n : Nat) {e : Expr}, anyI vs n e = true → PE X e (tAny X vs)
  | 0, e, h => nomatch h
  | n + 1, e, h => by
    unfold anyI at h
    split at h
    · exact pe_int.wk fun σ H Q q => q.2 _
    · rename_i x p
      simp only [Bool.and_eq_true, List.contains_iff_mem] at h
      obtain ⟨i, hi⟩ := hv x h.1
      have ok := okN_get h.2
      refine (pe_var hi (.inl (o.loc i x hi)) ok.1 ok.2.1).wk fun σ H Q q => ?_
      obtain ⟨j, m, e1, e2⟩ := q.1 x h.1
      have : i = j := (List.getElem?_inj (lt_of_get hi) o.nd).mp (hi.trans e1.symm)
      subst this
      exact ⟨_, e2, q.2 _⟩
    · rename_i a op b p
      simp only [Bool.and_eq_true] at h
      have ha := any_ok o hv n h.1
      have hb := any_ok o hv n h.2.1
      have h2 := h.2.2
      split at h2
      · exact (pe_op op_add ha hb).wk fun σ H Q q => ⟨q.1, fun i => ⟨q.1, fun j => ⟨i, j, rfl, rfl, q.2 _⟩⟩⟩
      · exact (pe_op op_sub ha hb).wk fun σ H Q q => ⟨q.1, fun i => ⟨q.1, fun j => ⟨i, j, rfl, rfl, q.2 _⟩⟩⟩
      · split at h2
        · rename_i j k q
          have hj := of_decide_eq_true h2
          exact (pe_op op_mul ha pe_int).wk fun σ H Q q => ⟨q.1, fun i => ⟨i, j, rfl, rfl, .inr hj, q.2 _⟩⟩
        · split at h2
          · rename_i j k q
            have hj := of_decide_eq_true h2
            exact (pe_op op_mul pe_int hb).wk fun σ H Q q => ⟨q.1, fun i => ⟨j, i, rfl, rfl, .inl hj, q.2 _⟩⟩
          · exact nomatch h2
      · split at h2
        · rename_i j k q
          have hj := of_decide_eq_true h2
          exact (pe_op op_mod ha pe_int).wk fun σ H Q q => ⟨q.1, fun i => ⟨i, j, rfl, rfl, hj, q.2 _⟩⟩
        · exact nomatch h2
      · split at h2
        · rename_i i k q j k' q'
          have hj := of_decide_eq_true h2
          exact (pe_op op_pow pe_int pe_int).wk fun σ H Q q => ⟨i, j, rfl, rfl, hj, q.2 _⟩
        · exact nomatch h2
      · exact nomatch h2
    · rename_i f p a q
      simp only [Bool.and_eq_true, Bool.or_eq_true, decide_eq_true_eq] at h
      have ha := any_ok o hv n h.1
      have hs := any_star h.1
      rcases h.2 with rfl | rfl
      · obtain ⟨g1, g2⟩ := o.g "int" (by simp)
        exact (pe_callTy call_int1 g1 g2 rfl (pa_cons ha pa_nil (star_off hs)) (he := star_off hs) (hpl := plain_any rfl)).wk fun σ H Q q => ⟨q.1, fun i => .inl ⟨i, rfl, q.2 _⟩⟩
      · obtain ⟨g1, g2⟩ := o.g "abs" (by simp)
        exact (pe_callB call_abs g1 g2 rfl (pa_cons ha pa_nil (star_off hs)) (he := star_off hs) (hpl := plain_any rfl)).wk fun σ H Q q => ⟨q.1, fun i => ⟨i, rfl, q.2 _⟩⟩
    · rename_i f p a b q
      simp only [Bool.and_eq_true, decide_eq_true_eq] at h
      have ha := any_ok o hv n h.1
      have hb := any_ok o hv n h.2.1
      have hs := any_star h.1
      have hs2 := any_star h.2.1
      obtain rfl := h.2.2
      obtain ⟨g1, g2⟩ := o.g "max" (by simp)
      have st2 : noStar [b] = true := by
        unfold noStar
        split
        · rename_i y q; exact absurd rfl (hs2 y q)
        · rfl
      exact (pe_callB (call_max2 o.calm) g1 g2 rfl (pa_cons ha (pa_cons hb pa_nil (star_off hs2)) (star_off hs)) (he := star_off hs) (hpl := plain_any st2)).wk fun σ H Q q => ⟨q.1, fun i => ⟨q.1, fun j => ⟨i, j, rfl, q.2 _⟩⟩⟩
    · exact nomatch h
end
/-- the text of _law_pot: a list of two ints -/
def potB (N : List Str) (b : List Stmt) : Bool := decide (N = [("script" : Str), "k", "cell"]) && match b with
  | [.Assign [.Name c1 _] e1 _, .If (.Compare (.Name k1 _) [.Lt] [.Call (.Name ln _) [.Name s1 _] [] _] _) [.Assign [.Name c2 _] (.Call (.Name ab _) [.Subscript (.Name s2 _) (.Name k2 _) _] [] _) _] [] _, .Return (some (.List [e2, e3] _)) _] =>
    (decide (c1 = "cell") && (decide (k1 = "k") && (decide (ln = "len") && (decide (s1 = "script") && (decide (c2 = "cell") && (decide (ab = "abs") && (decide (s2 = "script") && decide (k2 = "k")))))))) && (anyI ["k"] 20 e1 && (anyI ["k", "cell"] 20 e2 && anyI ["k", "cell"] 20 e3))
  | [.Assign [.Name c1 _] (.IfExp (.Compare (.Name k1 _) [.Lt] [.Call (.Name ln _) [.Name s1 _] [] _] _) (.Call (.Name ab _) [.Subscript (.Name s2 _) (.Name k2 _) _] [] _) e1 _) _, .Return (some (.List [e2, e3] _)) _] =>
    (decide (c1 = "cell") && (decide (k1 = "k") && (decide (ln = "len") && (decide (s1 = "script") && (decide (ab = "abs") && (decide (s2 = "script") && decide (k2 = "k"))))))) && (anyI ["k"] 20 e1 && (anyI ["k", "cell"] 20 e2 && anyI ["k", "cell"] 20 e3))
  | _ => false
section
variable {X : Cx}
theorem pot_lst (o : PotX X) (hN : X.N = [("script" : Str), "k", "cell"]) {e2 e3 : Expr} {q : Pos} (h2 : anyI ["k", "cell"] 20 e2 = true) (h3 : anyI ["k", "cell"] 20 e3 = true) : PE X (.List [e2, e3] q) (fun σ H Q => cnd X ["k", "cell"] σ ∧ ∀ i j p, H p = none → Q (.ref p) (upd H p (.lst [.int i, .int j]))) := by
  have hv : ∀ x ∈ (["k", "cell"] : List Str), ∃ i : Nat, X.N[i]? = some x := fun x hx => by
    rw [hN]
    rcases List.mem_cons.mp hx with rfl | hx
    · exact ⟨1, rfl⟩
    · rw [List.mem_singleton.mp hx]; exact ⟨2, rfl⟩
  have a2 := any_ok o hv 20 h2
  have a3 := any_ok o hv 20 h3
  exact (pe_lst (pa_cons a2 (pa_cons a3 pa_nil (star_off (any_star h3))) (star_off (any_star h2)))).wk fun σ H Q q => ⟨q.1, fun i => ⟨q.1, fun j => ⟨by rw [sizeLine_eq]; simp, fun p hp => q.2 i j p hp⟩⟩⟩
/-- what the pot's text may lean on -/
structure PotS (X : Cx) (σ : L2.St) (H : Hp) (a : Addr) (ns : List Int) (k : Nat) : Prop where
  s0 : σ[0]? = some (some (.ref a))
  s1 : σ[1]? = some (some (.int (k : Int)))
  len : σ.length = 3
  sq : SqL X.K H a (ns.map V.int)
theorem pot_lt (o : PotX X) (hN : X.N = [("script" : Str), "k", "cell"]) {p1 p2 p3 p4 p5 : Pos} : PT X (.Compare (.Name "k" p1) [.Lt] [.Call (.Name "len" p2) [.Name "script" p3] [] p4] p5) (fun σ H Q => ∃ a ns k, PotS X σ H a ns k ∧ Q (decide (k < ns.length)) H) := by
  have l0 := o.loc 0 "script" (by rw [hN]; rfl)
  have l1 := o.loc 1 "k" (by rw [hN]; rfl)
  obtain ⟨g1, g2⟩ := o.g "len" (by simp)
  refine (pt_cmpR op_lt (pe_var (i := 1) (by rw [hN]; rfl) (.inl l1)) (pe_callB call_len g1 g2 rfl (pa_cons (pe_var (i := 0) (by rw [hN]; rfl) (.inl l0)) pa_nil)) rfl).wk fun σ H Q ⟨a, ns, k, s, q⟩ => ?_
  refine ⟨_, s.s1, _, s.s0, .ref a, ns.length, rfl, .inl ⟨_, s.sq, by rw [List.length_map]⟩, k, ns.length, rfl, rfl, _, rfl, ?_⟩
  have : decide ((k : Int) < (ns.length : Int)) = decide (k < ns.length) := by
    by_cases h : k < ns.length
    · rw [decide_eq_true h, decide_eq_true (by omega)]
    · rw [decide_eq_false h, decide_eq_false (by omega)]
  rw [this]
  exact q
theorem pot_at (o : PotX X) (hN : X.N = [("script" : Str), "k", "cell"]) {p1 p2 p3 p4 p5 : Pos} : PE X (.Call (.Name "abs" p1) [.Subscript (.Name "script" p2) (.Name "k" p3) p4] [] p5) (fun σ H Q => ∃ a ns k, PotS X σ H a ns k ∧ k < ns.length ∧ ∀ i : Int, Q (.int i) H) := by
  have l0 := o.loc 0 "script" (by rw [hN]; rfl)
  have l1 := o.loc 1 "k" (by rw [hN]; rfl)
  obtain ⟨g1, g2⟩ := o.g "abs" (by simp)
  refine (pe_callB call_abs g1 g2 rfl (pa_cons (pe_ix ix_list (pe_var (i := 0) (by rw [hN]; rfl) (.inl l0)) (pe_var (i := 1) (by rw [hN]; rfl) (.inl l1)) fun _ _ => rfl) pa_nil)).wk fun σ H Q ⟨a, ns, k, s, hk, q⟩ => ?_
  have hv : (ns.map V.int)[k]? = some (.int ns[k]) := by rw [List.getElem?_map, List.getElem?_eq_getElem hk]; rfl
  exact ⟨_, s.s0, _, s.s1, a, _, k, _, rfl, rfl, s.sq, atI_nat hv, ns[k], rfl, q _⟩
theorem cnd_set {σ : L2.St} (hN : X.N = [("script" : Str), "k", "cell"]) (h1 : ∃ n : Int, σ[1]? = some (some (.int n))) (hl : σ.length = 3) (i : Int) : cnd X ["k", "cell"] (σ.set 2 (some (.int i))) := fun x hx => by
  rcases List.mem_cons.mp hx with rfl | hx
  · obtain ⟨n, h⟩ := h1
    exact ⟨1, n, by rw [hN]; rfl, by rw [List.getElem?_set_ne (by decide)]; exact h⟩
  · rw [List.mem_singleton.mp hx]
    exact ⟨2, i, by rw [hN]; rfl, by rw [List.getElem?_set_self (by omega)]⟩
theorem pot_body (o : PotX X) (hN : X.N = [("script" : Str), "k", "cell"]) {b : List Stmt} (h : potB X.N b = true) : ∃ t, PSs X b t ∧ ∀ (D : Ends) (σ : L2.St) (H : Hp) (a : Addr) (ns : List Int) (k : Nat), PotS X σ H a ns k →
    (∀ i j p, H p = none → D.rt (.ref p) (upd H p (.lst [.int i, .int j]))) → t D σ H := by
  unfold potB at h
  rw [Bool.and_eq_true] at h
  have h := h.2
  have l2 := o.loc 2 "cell" (by rw [hN]; rfl)
  have n2 : X.N[2]? = some ("cell" : Str) := by rw [hN]; rfl
  have hv1 : ∀ x ∈ (["k"] : List Str), ∃ i : Nat, X.N[i]? = some x := fun x hx => by
    rw [hN, List.mem_singleton.mp hx]; exact ⟨1, rfl⟩
  have c1 : ∀ {σ : L2.St} {n : Int}, σ[1]? = some (some (.int n)) → cnd X ["k"] σ := fun {σ n} e x hx => by
    rw [List.mem_singleton.mp hx]
    exact ⟨1, n, by rw [hN]; rfl, e⟩
  split at h
  · simp only [Bool.and_eq_true, decide_eq_true_eq] at h
    obtain ⟨⟨rfl, rfl, rfl, rfl, rfl, rfl, rfl, rfl⟩, h1, h2, h3⟩ := h
    refine ⟨_, pss_cons (ps_set (i := 2) o.nd n2 (.inl l2) (any_ok o hv1 20 h1) (any_sw h1) (.inr l2)) (pss_cons (ps_if (pot_lt o hN) (pss_one (ps_set (i := 2) o.nd n2 (.inl l2) (pot_at o hN) rfl (.inr l2))) pss_nil) (pss_one (ps_ret (pot_lst o hN h2 h3)))), fun D σ H a ns k s q => ?_⟩
    refine ⟨c1 s.s1, fun i => ?_⟩
    have s' : PotS X (σ.set 2 (some (.int i))) H a ns k := ⟨by rw [List.getElem?_set_ne (by decide)]; exact s.s0, by rw [List.getElem?_set_ne (by decide)]; exact s.s1, by rw [List.length_set]; exact s.len, s.sq⟩
    refine ⟨a, ns, k, s', ?_⟩
    by_cases hk : k < ns.length
    · dsimp only
      rw [if_pos (decide_eq_true hk)]
      refine ⟨a, ns, k, s', hk, fun j => ?_⟩
      exact ⟨cnd_set hN ⟨k, s'.s1⟩ s'.len j, q⟩
    · dsimp only
      rw [if_neg (by rw [decide_eq_false hk]; exact nofun)]
      exact ⟨cnd_set hN ⟨k, s.s1⟩ s.len i, q⟩
  · simp only [Bool.and_eq_true, decide_eq_true_eq] at h
    obtain ⟨⟨rfl, rfl, rfl, rfl, rfl, rfl, rfl⟩, h1, h2, h3⟩ := h
    refine ⟨_, pss_cons (ps_set (i := 2) o.nd n2 (.inl l2) (pe_ifExp (pot_lt o hN) (pot_at o hN) (any_ok o hv1 20 h1)) rfl (.inr l2)) (pss_one (ps_ret (pot_lst o hN h2 h3))), fun D σ H a ns k s q => ?_⟩
    refine ⟨a, ns, k, s, ?_⟩
    by_cases hk : k < ns.length
    · dsimp only
      rw [if_pos (decide_eq_true hk)]
      exact ⟨a, ns, k, s, hk, fun j => ⟨cnd_set hN ⟨k, s.s1⟩ s.len j, q⟩⟩
    · dsimp only
      rw [if_neg (by rw [decide_eq_false hk]; exact nofun)]
      exact ⟨c1 s.s1, fun j => ⟨cnd_set hN ⟨k, s.s1⟩ s.len j, q⟩⟩
  · exact nomatch h
end
end
end Ev
end
section
set_option Elab.async false
set_option linter.all false
set_option maxRecDepth 100000
set_option maxHeartbeats 400000
/-! THE LAW'S DRAWS: pots' rule; all that a law's text needs. -/
namespace Ev
noncomputable section
open PySem PySem.Spec PyProof.Rows L2 LamX
open He (ga ma fAd cT)
def cfP (iP : Nat) : CallF := fun f xs S => match f with
  | .df i => match Nat.beq i iP with
    | true => match xs with
      | [.ref l, .int (.ofNat _)] => match S.get l with
        | some .scr => .ok (.ref S.n) (S.new .opq)
        | some .scF => .ok (.ref S.n) (S.new .opq)
        | _ => .fail
      | _ => .fail
    | false => .fail
  | .lm _ _ => .fail
def potNs : List Str := ["int", "abs", "max", "len"]
def potF (gl : List (Str × Gl)) (N : List Str) (sc : Scope) (b : List Stmt) : Bool := potB N b && ((N.all fun x => decide (sc.names.lookup x = some .local)) && potNs.all fun x => decide (sc.names.lookup x = some .globalImplicit) && (gl.lookup x).isNone)
section
variable {Γ : Gm} {k : Nat} {iP : Nat} {F : DefI} {d : Df} {ρ : Nat → Addr} {S : St} {H : Hp}
theorem rh_new (X : Cx) {p : Addr} {o : O} {ho : HO} (R : Rh Γ ρ [] S H) (h : H p = none) (hn : RO Γ (rup ρ S.n p) (S.n + 1) [] (upd H p ho) S.n o) (nf : ∀ u v, ho ≠ .frz u v) (nc : ∀ od, o ≠ .cel od) : Rh Γ (rup ρ S.n p) [] (S.new o) (upd H p ho) := by
  have R0 : Rl Γ { X with N := [] } ρ [] [] S H := ⟨R, ⟨rfl, rfl, fun i s h => by simp at h, fun i j l l' h => by simp at h⟩⟩
  exact (R0.new h hn nf nc).h
/-- what a pot's def promises -/
def spPot (K : PySem.W.Frag) : Sp := fun vs H Q _ => ∃ (a : Addr) (ns : List Int) (kk : Nat), vs = [.ref a, .int (kk : Int)] ∧ SqL K H a (ns.map V.int) ∧ ∀ i j p, H p = none → Q (.ref p) (upd H p (.lst [.int i, .int j]))
theorem two_rel {l n : Nat} {vs : List V} (r : RDs Γ ρ S.n H [.ref l, .int (.ofNat n)] vs) : vs = [.ref (ρ l), .int (n : Int)] := by
  obtain ⟨y1, r1, rfl, d1, rs1⟩ := (show ∃ y r, vs = y :: r ∧ RD Γ ρ S.n H (.ref l) y ∧ RDs Γ ρ S.n H [.int (.ofNat n)] r from r)
  obtain ⟨y2, r2, rfl, d2, rs2⟩ := (show ∃ y r, r1 = y :: r ∧ RD Γ ρ S.n H (.int (.ofNat n)) y ∧ RDs Γ ρ S.n H [] r from rs1)
  have rs2 : r2 = [] := rs2
  subst rs2
  obtain ⟨_, rfl⟩ := rd_ref d1
  rw [rd_int d2]
  rfl
theorem pot_post (hpot : ∀ i j, Γ.pot i j) (X : Cx) {Q : VK} (R : Rh Γ ρ [] S H) (h : PostC Γ ρ S H Q (.ref S.n) (S.new .opq)) (a b : Int) (p : Addr) (hp : H p = none) : Q (.ref p) (upd H p (.lst [.int a, .int b])) := by
  have x1 : Ext ρ S H (rup ρ S.n p) (S.new .opq) (upd H p (.lst [.int a, .int b])) := Ext.new R.wf hp
  have ro : RO Γ (rup ρ S.n p) (S.n + 1) [] (upd H p (.lst [.int a, .int b])) S.n .opq := by
    refine ⟨a, b, ?_, hpot _ _⟩
    rw [rup_same, upd_same]
  have rh : Rh Γ (rup ρ S.n p) [] (S.new .opq) (upd H p (.lst [.int a, .int b])) := rh_new X R hp ro (fun u v z => by cases z) (fun od z => by cases z)
  have rd : RD Γ (rup ρ S.n p) (S.new .opq).n (upd H p (.lst [.int a, .int b])) (.ref S.n) (.ref p) := by
    refine ⟨Nat.lt_succ_self _, ?_⟩
    rw [rup_same]
  exact h (rup ρ S.n p) _ _ rh x1 rd
theorem pot_ok (wd : WOk Γ) (hF : DefF Γ iP F d) (hb : potF Γ.gl F.N F.scope F.body = true) (hps : (Γ.psn iP).length = 2) : FnOk Γ.P Γ.w Γ.K Γ.mg Γ.base (L2N.CX Γ.P Γ.w) (0 + 1) (Γ.fnA iP) F.fd (Γ.psn iP) (spPot Γ.K) := by
  unfold potF at hb
  simp only [Bool.and_eq_true, List.all_eq_true, decide_eq_true_eq] at hb
  obtain ⟨b1, b2, b3⟩ := hb
  have hN : F.N = [("script" : Str), "k", "cell"] := by
    unfold potB at b1
    rw [Bool.and_eq_true] at b1
    exact of_decide_eq_true b1.1
  obtain ⟨oc, od, osl, lk⟩ := hF.lk
  refine fn_of lk hF.cd hF.S (fun vs H Q E ⟨a, ns, kk, e, _⟩ => by rw [e, hps]; rfl) fun A outer s H vs Q E hr hsp => ?_
  obtain ⟨a, ns, kk, rfl, sq, q⟩ := hsp
  have px : PotX (dcx Γ F iP A outer s H E) := by
    refine ⟨hF.S.nd, rfl, fun x hx => ?_, fun j x hx => b2 x (List.mem_of_getElem? hx)⟩
    obtain ⟨c1, c2⟩ := b3 x hx
    have c2 : Γ.gl.lookup x = none := by simpa using c2
    refine ⟨c1, wd.bl x ?_ c2⟩
    have : ∀ y ∈ potNs, y ∈ bNames := by decide
    exact this x hx
  obtain ⟨t, ht, hq⟩ := pot_body px hN (show potB (dcx Γ F iP A outer s H E).N F.body = true from b1)
  refine ⟨t, ht, hq _ _ _ a ns kk ⟨rfl, rfl, ?_, sq⟩ q⟩
  show (L2.start F.N [V.ref a, V.int (kk : Int)]).length = 3
  rw [hN]
  rfl
theorem dfok_pot (wd : WOk Γ) (hpot : ∀ i j, Γ.pot i j) (hF : DefF Γ iP F d) (hb : potF Γ.gl F.N F.scope F.body = true) (hps : (Γ.psn iP).length = 2) (hk : 3 ≤ k) : DfOk Γ k (cfP iP) := by
  have ok := pot_ok wd hF hb hps
  intro i ds A outer s ρ S H args us vs Q E hr hg e0 R r rv hbi h
  unfold cfP at h
  dsimp only at h
  split at h
  · rename_i ei
    have ei := Nat.eq_of_beq_eq_true ei
    subst ei
    rw [hF.fd] at hbi
    have go : ∀ (l n : Nat) (ns : List Int), ds = [.ref l, .int (.ofNat n)] → SqL Γ.K H (ρ l) (ns.map V.int) → PostC Γ ρ S H Q (.ref S.n) (S.new .opq) → codeAny (model Γ.P Γ.w) A (.call (.ref (Γ.fnA i)) args) (CR (L2N.CX Γ.P Γ.w) outer Γ.P Γ.w H s Q E) s := by
      intro l n ns e sq h
      have ev := two_rel (show RDs Γ ρ S.n H [.ref l, .int (.ofNat n)] vs from e ▸ r)
      have sp : spPot Γ.K vs H Q E := ⟨ρ l, ns, n, ev, sq, pot_post hpot (dcx Γ F i A outer s H E) R h⟩
      exact ok.run A outer s H args us vs Q E (hr.mono (by omega)) e0 hbi rv sp
    split at h
    · rename_i l n
      split at h
      · rename_i hl
        obtain ⟨ns, q⟩ := (R.obj l _ hl).2
        exact go l n ns rfl (SqL.of q) h
      · rename_i hl
        obtain ⟨ns, q⟩ := (R.obj l _ hl).2
        refine go l n ns rfl ?_ h
        rcases q with ⟨ho, q⟩ | q
        · exact .inl (.inr ⟨ho, q⟩)
        · exact .inr q
      · exact h.elim
    · exact h.elim
  · exact h.elim
theorem pot_rule (P : PgOk0 Γ) (hpot : ∀ i j, Γ.pot i j) (hF : DefF Γ iP F d) (hb : potF Γ.gl F.N F.scope F.body = true) (hps : (Γ.psn iP).length = 2) (hk : 3 ≤ k) (hbind : ∀ us : List Value, us.length = (Γ.psn iP).length → bindArgs (Γ.fd iP) ⟨us, []⟩ = pure ((Γ.psn iP).zip us))
    (hsh : (iP, 2, []) ∈ Γ.shp) (har : params 2 [] ((Γ.psn iP).map fun x => (x, none)) 0 = some [.at_ 0, .at_ 1]) (hmg : Γ.mg "_law_pot" = some (.ref (Γ.fnA iP)))
    {X : Cx} {W : WX} {p pos : Pos} {a b : Expr} {fa fb : EvF D} (g : XG Γ X) (hr : Room k X.A) (hg : X.A.guards = some []) (tk : L2N.Takes X W) (hgl : L2.Gl X "_law_pot") (ha : PE X a (rd Γ X W fa)) (hb : PE X b (rd Γ X W fb)) (hst : noStar [a, b] = true) :
    PE X (.Call (.Name "_law_pot" p) [a, b] [] pos) (rd Γ X W (ePot fa fb)) := by
  have ch : CallH Γ X W k (cfP iP) := ⟨tk, g, P.sh, dfok_pot P.wd hpot hF ‹_› hps hk, fun i l ls ds A outer s ρ S H us vs Q E _ _ _ _ _ _ _ h => h.elim, fun i ds S P' E h => by
    unfold cfP at h
    dsimp only at h
    split at h
    · rename_i ei
      have ei := Nat.eq_of_beq_eq_true ei
      subst ei
      split at h
      · exact ⟨hps.symm, hbind⟩
      · exact h.elim
    · exact h.elim, hr, P.kp, hg⟩
  have q := x_call (p := p) (pos := pos) (kws := []) ch hsh har hgl (by rw [g.mg]; exact hmg) (by decide) rfl rfl (x_cons ha (x_cons hb x_nil (noStar_tail (noStar_tail hst).1).2) (noStar_tail hst).2) (LenF.cons (LenF.cons LenF.nil)) hst
  refine pe_eq q fun v S => ?_
  show _ = Res.bind (Res.bind (fa v S) fun x S1 => Res.bind (Res.bind (fb v S1) fun y S2 => Res.ok [y] S2) fun xs S2 => Res.ok (x :: xs) S2) _
  rw [Res.bind_assoc]
  refine congrArg (Res.bind (fa v S)) (funext fun x => funext fun S1 => ?_)
  rw [Res.bind_assoc, Res.bind_assoc]
  refine congrArg (Res.bind (fb v S1)) (funext fun y => funext fun S2 => ?_)
  show _ = cfP iP (.df iP) [x, y] S2
  unfold cfP
  dsimp only
  rw [Nat.beq_refl]
  dsimp only
  cases x <;> first | rfl | skip
  cases y <;> first | rfl | skip
  rename_i l i
  cases i <;> rfl
end
end
end Ev
end
section
set_option Elab.async false
set_option linter.all false
set_option maxRecDepth 100000
set_option maxHeartbeats 400000
/-! THE LAW'S CALL: what stands at its entry, what is asked of its end. -/
namespace Ev
noncomputable section
open PySem PySem.Spec PyProof.Rows L2 LamX
section
variable {P : Program} {w : World} {K : PySem.W.Frag} {mg mb : Str → Option Value} {k : Nat} {a : Addr} {cs : List (Addr × Addr)} {s₁ : Shared} {vs : List Value} {ns : List Int}
/-- what is told at the entry: the tables, the script unless K knows it -/
def H0 (K : PySem.W.Frag) (cs : List (Addr × Addr)) (a : Addr) (os : Obj) (ns : List Int) : Hp := fun b =>
  if b ∈ cs.map (·.2) then some (.tbl #[]) else if b = a ∧ K.lookup a = none then some (.frz os (.lst (ns.map V.int))) else none
structure Entry (K : PySem.W.Frag) (mg mb : Str → Option Value) (cs : List (Addr × Addr)) (a : Addr) (vs : List Value) (ns : List Int) (s₁ : Shared) : Prop where
  kin : K.In s₁.heap
  nsm : s₁.heap.Ns mainGlobals mg
  blt : s₁.heap.Ns builtinsNs mb
  bb : ∀ x : Str, x ≠ "__name__" → mb x = bootBuiltins x
  lim : s₁.heap.NoLimit
  gens : s₁.gens = #[]
  tab : ∀ p ∈ cs, s₁.heap.get? p.2 = some { cls := .none, data := .fields #[] }
  out : ∀ p ∈ cs, K.lookup p.2 = none
  hd : ∀ p ∈ cs, PySem.W.CodeHd s₁.heap p.1 p.2
  bm : ∃ (bm : Addr) (ob : Obj), mg "__builtins__" = some (.ref bm) ∧ bm ≠ builtinsNs ∧ s₁.heap.get? bm = some ob ∧ ob.cls = .type "module" ∧ ob.dict = some builtinsNs ∧ ob.data = .plain
  at_ : s₁.heap.get? a = some { cls := .type "list", data := .seq vs.toArray }
  ias : IntsAre vs ns
  len : ns.length ≤ sizeLine
variable (e : Entry K mg mb cs a vs ns s₁)
abbrev scO (vs : List Value) : Obj := { cls := .type "list", data := .seq vs.toArray }
include e
theorem Entry.none_of {b : Addr} {o : Obj} (hb : s₁.heap.get? b = some o) (h1 : ∀ xs n, o.data ≠ .seq xs n) (h2 : o.data ≠ .fields #[]) : H0 K cs a (scO vs) ns b = none := by
  unfold H0
  rw [if_neg, if_neg]
  · rintro ⟨rfl, _⟩
    rw [e.at_] at hb
    cases hb
    exact h1 _ _ rfl
  · intro m
    obtain ⟨p, hp, rfl⟩ := List.mem_map.mp m
    rw [e.tab p hp] at hb
    cases hb
    exact h2 rfl
theorem Entry.kept {b : Addr} {o : Obj} (hb : s₁.heap.get? b = some o) (h1 : ∀ xs n, o.data ≠ .seq xs n) (h2 : o.data ≠ .fields #[]) : (hidT s₁.heap (H0 K cs a (scO vs) ns)).get? b = some o := hidT_get hb (e.none_of hb h1 h2)
theorem Entry.nsK {b : Addr} {m : Str → Option Value} (h : s₁.heap.Ns b m) : (hidT s₁.heap (H0 K cs a (scO vs) ns)).Ns b m := by
  obtain ⟨o, es, ep, ho, hd, r⟩ := h
  exact ⟨o, es, ep, e.kept ho (fun xs n z => by rw [hd] at z; cases z) (fun z => by rw [hd] at z; cases z), hd, r⟩
theorem Entry.kinB : K.In (hidT s₁.heap (H0 K cs a (scO vs) ns)) := fun b o hb => hidT_get (e.kin b o hb) (by
  unfold H0
  rw [if_neg, if_neg]
  · rintro ⟨rfl, z⟩
    rw [hb] at z
    exact nomatch z
  · intro m
    obtain ⟨p, hp, rfl⟩ := List.mem_map.mp m
    rw [e.out p hp] at hb
    exact nomatch hb)
theorem Entry.tb (p : Addr × Addr) (hp : p ∈ cs) : TabB (hidT s₁.heap (H0 K cs a (scO vs) ns)) mg p.1 p.2 := by
  have tp := e.tab p hp
  refine ⟨?_, ?_, fun z => ?_⟩
  · obtain ⟨o, us, file, tf, flags, tg, inF, text, tt, e1, r1, r2, r3, r⟩ := e.hd p hp
    refine ⟨o, us, file, tf, flags, tg, inF, text, tt, e.kept e1 (fun xs n z => by rw [r2] at z; cases z) (fun z => ?_), r1, r2, r3, r⟩
    rw [r2] at z
    cases z
    simp at r3
  · obtain ⟨bm, ob, b1, b2, b3, b4, b5, b6⟩ := e.bm
    refine ⟨bm, ob, b1, b2, fun q => ?_, fun q => ?_, e.kept b3 (fun xs n z => by rw [b6] at z; cases z) (fun z => by rw [b6] at z; cases z), b4, b5, b6⟩
    · obtain ⟨o, es, ep, ho, hd, _⟩ := e.nsm
      rw [q, ho] at b3
      cases b3
      rw [hd] at b6
      cases b6
    · rw [q, tp] at b3
      cases b3
      cases b6
  · obtain ⟨o, es, ep, ho, hd, _⟩ := e.nsm
    rw [z, tp] at ho
    cases ho
    cases hd
theorem Entry.env0 : Env0 P w K mg (hidT s₁.heap (H0 K cs a (scO vs) ns)) callerA [] s₁ (H0 K cs a (scO vs) ns) where
  frames := rfl
  mod := ⟨e.kinB, e.nsK e.nsm, ⟨mb, e.nsK e.blt, e.bb⟩, by
    obtain ⟨mc, h1, h2⟩ := e.lim
    exact ⟨mc, e.nsK h1, h2⟩⟩
  bs := fun b o h => of_hidT h
  bsz := Nat.le_of_eq (hidT_size _ _)
  funs := trivial
  frf := fun b hb => nomatch hb
  hok := fun b u h => by
    unfold H0 at h
    split at h
    · rename_i m
      obtain ⟨p, hp, rfl⟩ := List.mem_map.mp m
      cases h
      exact e.tab p hp
    · split at h
      · rename_i z
        obtain ⟨rfl, _⟩ := z
        cases h
        exact ⟨e.at_, by rw [List.length_map]; exact e.len, vs, _, vals_ints e.ias, e.at_⟩
      · exact nomatch h
  bare := .of_eq e.gens
theorem Entry.sq : (∃ ho : Obj, H0 K cs a (scO vs) ns a = some (.frz ho (.lst (ns.map V.int)))) ∨ ∃ (o : Obj) (its : Array Value) (m : Nat), K.lookup a = some o ∧ o.cls = .type "list" ∧ o.dict = none ∧ o.data = .seq its m ∧ its.size ≤ sizeLine ∧ Vals (ns.map V.int) its.toList := by
  cases hk : K.lookup a with
  | none =>
    refine .inl ⟨scO vs, ?_⟩
    unfold H0
    rw [if_neg, if_pos ⟨rfl, hk⟩]
    intro m
    obtain ⟨p, hp, z⟩ := List.mem_map.mp m
    have q := e.tab p hp
    rw [z, e.at_] at q
    cases q
  | some o =>
    have q := e.kin a o hk
    rw [e.at_] at q
    cases q
    exact .inr ⟨_, vs.toArray, 0, rfl, rfl, rfl, rfl, by rw [List.size_toArray, e.ias.length]; exact e.len, by simpa using vals_ints e.ias⟩
/-- THE END: True, the heap kept -/
theorem Entry.fin {fa : Addr} (run : codeAny (model P w) callerA (.call (.ref fa) ⟨[.ref a], []⟩) (CR (L2N.CX P w) [] P w (H0 K cs a (scO vs) ns) s₁ (fun v _ => v = .bl true) (fun _ _ _ => False)) s₁) :
    codeAny (model P w) callerA (.call (.ref fa) ⟨[.ref a], []⟩) (fun r s' => r = .ok (.ret (.bool true)) ∧ PySem.OldK s₁.heap s'.heap ∧ s'.os = s₁.os ∧ AllBare s'.gens) s₁ := by
  refine codeAny_mono run fun r s' h => ?_
  cases r with
  | error x =>
    obtain ⟨_, _, _, _, _, _, _, _, _, _, _, _, z⟩ := (show L2N.CX P w [] _ s₁ (fun _ _ _ => False) x s' from h)
    exact z.elim
  | ok fl =>
    cases fl with
    | next => exact False.elim h
    | brk => exact False.elim h
    | cont => exact False.elim h
    | ret u =>
      obtain ⟨v, H', os, bare, un, hok', r', q⟩ := h
      have q' : v = .bl true := q
      subst q'
      obtain rfl : u = Value.bool true := r'
      have key : ∀ b o, b ∉ cs.map (·.2) → s₁.heap.get? b = some o → s'.heap.get? b = some o := fun b o nb hb => by
        by_cases z : b = a ∧ K.lookup a = none
        · have hf : H0 K cs a (scO vs) ns b = some (.frz (scO vs) (.lst (ns.map V.int))) := by
            unfold H0
            rw [if_neg nb, if_pos z]
          obtain ⟨e2, _⟩ := hok' b _ (un.frzs b _ _ hf)
          rw [z.1, e.at_] at hb
          cases hb
          exact e2
        · have hn : H0 K cs a (scO vs) ns b = none := by
            unfold H0
            rw [if_neg nb, if_neg z]
          exact un.keep b o hb hn (fun z => nomatch z) (fun z => nomatch z)
      have grown : ∀ p ∈ cs, ∃ more : Array Value, s'.heap.get? p.2 = some { cls := .none, data := .fields more } := fun p hp => by
        have ht : H0 K cs a (scO vs) ns p.2 = some (.tbl #[]) := by
          unfold H0
          rw [if_pos (List.mem_map.mpr ⟨p, hp, rfl⟩)]
        obtain ⟨more, z⟩ := un.tbls p.2 #[] ht
        exact ⟨_, hok' p.2 _ z⟩
      refine ⟨rfl, ⟨fun b o hb => ?_, fun b o hb => ?_⟩, os, bare⟩
      · by_cases m : b ∈ cs.map (·.2)
        · obtain ⟨p, hp, rfl⟩ := List.mem_map.mp m
          obtain ⟨more, hm⟩ := grown p hp
          rw [e.tab p hp] at hb
          cases hb
          exact .inr (.inl ⟨((e.hd p hp).tab (e.tab p hp)).isCodeTable, rfl, #[], more, rfl, by rw [Array.empty_append]; exact hm⟩)
        · exact .inl (key b o m hb)
      · by_cases m : b ∈ cs.map (·.2)
        · obtain ⟨p, hp, rfl⟩ := List.mem_map.mp m
          obtain ⟨more, hm⟩ := grown p hp
          exact ⟨_, hm⟩
        · exact ⟨o, key b o m hb⟩
end
end
end Ev
end
section
set_option Elab.async false
set_option linter.all false
set_option maxRecDepth 100000
set_option maxHeartbeats 400000
/-! THE LAW: joined. -/
namespace Ev
noncomputable section
open PySem PySem.Spec PyProof.Rows L2 LamX
open He (ga ma fAd cT)
def arB (ps : List Str) : Bool := decide (ps.length = 2) && match params 2 [] (ps.map fun x => (x, none)) 0 with
  | some [.at_ 0, .at_ 1] => true
  | _ => false
theorem arB_ok {ps : List Str} (h : arB ps = true) : ps.length = 2 ∧ params 2 [] (ps.map fun x => (x, none)) 0 = some [.at_ 0, .at_ 1] := by
  unfold arB at h
  rw [Bool.and_eq_true, decide_eq_true_eq] at h
  refine ⟨h.1, ?_⟩
  have h := h.2
  split at h
  · rename_i e; exact e
  · exact nomatch h
def lawB (t : Tx) (iD iP : Nat) : Bool := match t.defs[iD]?, t.defs[iP]? with
  | some D, some E => (decide (D.nm = "_law_draw") && decide (E.nm = "_law_pot")) && ((arB D.ps && arB E.ps) && ((decide ((iD, 2, []) ∈ shpT t) && decide ((iP, 2, []) ∈ shpT t)) && potF t.gl E.N E.sc E.body))
  | _, _ => false
section
variable {p : Program} {G : Pg} {w : World} {K : PySem.W.Frag} {mg : Str → Option Value} {base : Heap}
theorem Fx.defF (f : Fx p G K mg base) {i : Nat} {d : Df} {D : DW} (h : G.defs.get i = some d) (hD : (tx p).defs[i]? = some D) : ∃ F : DefI, DefF (gmT p G w K mg base) i F d ∧ F.N = D.N ∧ F.scope = D.sc ∧ F.body = D.body := by
  obtain ⟨dfs, lms, e1, _, e3, _⟩ := f.pg.is
  rw [e3] at h
  obtain ⟨⟨D', ls⟩, hq, hd⟩ := mapO_get e1 (ofL_get h)
  rw [List.getElem?_zip_eq_some] at hq
  obtain ⟨hD', hls⟩ := hq
  rw [show (tx p).defs[i]? = some D' from hD'] at hD
  have hDD : D = D' := (Option.some.inj hD).symm
  subst hDD
  have hz : (D, ls) ∈ (tx p).defs.zip (lamsT (tx p)) := List.mem_iff_getElem?.mpr ⟨i, by rw [List.getElem?_zip_eq_some]; exact ⟨hD', hls⟩⟩
  have b := f.defB hz
  unfold Ev.defB at b
  simp only [Bool.and_eq_true, decide_eq_true_eq, List.all_eq_true] at b
  obtain ⟨b1, b2, b3, b4, b5⟩ := b
  obtain ⟨en, _, fd, F⟩ := f.def_ hD'
  unfold dfT at hd
  split at hd
  · rename_i cs fin hb
    cases hd
    have epsn : (gmT p G w K mg base).psn i = D.ps := by
      show ((tx p).defs[i]?.getD default).ps = _
      rw [hD']; rfl
    have efn : (gmT p G w K mg base).fnA i = ga K D.nm := by
      show ga K (dnm (tx p) i) = _
      rw [en]
    have efd : (gmT p G w K mg base).fd i = fd := by
      show fdAt K (ga K (dnm (tx p) i)) = _
      rw [en]
      exact fdAt_of F
    have F' := F
    obtain ⟨oc, od, dV, kV, doc, pm, an, cdv, ct, osl, rfl, lk, hcd, _⟩ := F'.ex
    refine ⟨⟨D.nm, D.nm, D.args, D.body, D.sc, dV, kV, doc, pm, an, cdv, ct, D.N⟩, ?_, rfl, rfl, rfl⟩
    refine ⟨⟨oc, od, osl, ?_⟩, efd, hcd, ?_, ?_, rfl, fun c hc => ?_⟩
    · rw [efn]; exact lk
    · rw [epsn]; exact C8.fnScope_by b1
    · rw [epsn]
    · have q := b4 c hc
      split at q
      · rename_i x ex
        exact ⟨x, ex, of_decide_eq_true q⟩
      · exact nomatch q
  · exact nomatch hd
theorem Fx.pgok (f : Fx p G K mg base) {iD iP : Nat} {dP : Df} {c1 c2 m1 m2 q : Int} (hd : G.defs.get iD = some (drwDf c1 c2 m1 m2 q)) (hdP : G.defs.get iP = some dP) (hb : lawB (tx p) iD iP = true) (hc : small c1 = true) (h1 : 0 < m1) (h1' : m1 < 18446744073709551616) (h2 : 0 < m2) (hq : 0 < q) (hq' : q < 1073741824) :
    PgOk (gmT p G w K mg base) := by
  have P0 := f.ok0 (w := w)
  unfold lawB at hb
  split at hb
  · rename_i D E eD eE
    simp only [Bool.and_eq_true, decide_eq_true_eq] at hb
    obtain ⟨⟨n1, n2⟩, ⟨a1, a2⟩, ⟨s1, s2⟩, hp⟩ := hb
    obtain ⟨l1, r1⟩ := arB_ok a1
    obtain ⟨l2, r2⟩ := arB_ok a2
    obtain ⟨x1, y1, _⟩ := f.def_ eD
    obtain ⟨x2, y2, _⟩ := f.def_ eE
    obtain ⟨D', eD', TD⟩ := f.defT (w := w) hd
    rw [eD] at eD'
    cases eD'
    have TD : DefT (gmT p G w K mg base) false iD (drwDf c1 c2 m1 m2 q) := by
      rw [n1] at TD
      exact TD
    obtain ⟨F, hF, f1, f2, f3⟩ := f.defF (w := w) hdP eE
    have psD : (gmT p G w K mg base).psn iD = D.ps := by
      show ((tx p).defs[iD]?.getD default).ps = _
      rw [eD]; rfl
    have psE : (gmT p G w K mg base).psn iP = E.ps := by
      show ((tx p).defs[iP]?.getD default).ps = _
      rw [eE]; rfl
    obtain ⟨E', eE', TE⟩ := f.defT (w := w) hdP
    obtain ⟨_, _, _, _, _, _, _, _, _, _, _, _, bindE⟩ := TE.is
    refine ⟨P0, fun k hk => ⟨fun X W pp pos a b fa fb g hr hg tk hgl ha hb hst => ?_, fun X W pp pos a b fa fb g hr hg tk hgl ha hb hst => ?_⟩⟩
    · refine drw_rule P0 (fun _ _ => trivial) hd TD hc h1 h1' h2 hq hq' hk s1 (by rw [psD]; exact r1) ?_ g hr hg tk hgl ha hb hst
      show mg "_law_draw" = some (.ref (ga K (dnm (tx p) iD)))
      rw [x1, ← n1]
      exact y1
    · refine pot_rule P0 (fun _ _ => trivial) hF ?_ (by rw [psE]; exact l2) hk bindE s2 (by rw [psE]; exact r2) ?_ g hr hg tk hgl ha hb hst
      · rw [f1, f2, f3]; exact hp
      · show mg "_law_pot" = some (.ref (ga K (dnm (tx p) iP)))
        rw [x2, ← n2]
        exact y2
  · exact nomatch hb
end
/-- the store at the law's entry -/
def S1 : St := ⟨1, .nd (some .scF) .lf .lf⟩
theorem S1_get {l : Nat} {o : O} (h : S1.get l = some o) : l = 0 ∧ o = .scF := by
  have h : (match Nat.beq l 0 with
    | true => some O.scF
    | false => match Nat.beq (Nat.mod l 2) 1 with
      | true => (T.lf : T O).get (Nat.div l 2)
      | false => (T.lf : T O).get (Nat.sub (Nat.div l 2) 1)) = some o := (T.get_nd (some O.scF) .lf .lf l).symm.trans h
  cases e : Nat.beq l 0 with
  | true =>
    rw [e] at h
    cases h
    exact ⟨Nat.eq_of_beq_eq_true e, rfl⟩
  | false =>
    rw [e] at h
    dsimp only at h
    split at h
    · exact nomatch h
    · exact nomatch h
/-- it is True on every way -/
def TrueR (r : Res D) : Prop := r.All (fun d _ => d = .bl true) (fun _ _ _ => False)
section
variable {p : Program} {G : Pg} {w : World} {K : PySem.W.Frag} {mg mb : Str → Option Value} {a : Addr} {vs : List Value} {ns : List Int} {s₁ : Shared}
theorem law_run {iL k : Nat} {cf : CallF} (e : Entry K mg mb ((tfT (tx p)).map (cT K)) a vs ns s₁) (cf_ : CfK (gmT p G w K mg (hidT s₁.heap (H0 K ((tfT (tx p)).map (cT K)) a (scO vs) ns))) k cf) (ev : TrueR (cf (.df iL) [.ref 0] S1)) (hr : Room k callerA) :
    codeAny (model p w) callerA (.call (.ref (ga K (dnm (tx p) iL))) ⟨[.ref a], []⟩) (CR (L2N.CX p w) [] p w (H0 K ((tfT (tx p)).map (cT K)) a (scO vs) ns) s₁ (fun v _ => v = .bl true) (fun _ _ _ => False)) s₁ := by
  obtain ⟨l1, bnd⟩ := cf_.ix iL [.ref 0] S1 _ _ ev
  have hl : ([Value.ref a] : List Value).length = ((gmT p G w K mg (hidT s₁.heap (H0 K ((tfT (tx p)).map (cT K)) a (scO vs) ns))).psn iL).length := l1
  refine cf_.df iL [.ref 0] callerA [] s₁ (fun _ => a) S1 _ ⟨[.ref a], []⟩ [.ref a] [.ref a] _ _ hr rfl e.env0 ?_ ?_ (.cons rfl .nil) (BindsTo.of_eq (bnd _ hl)) (Res.All.mono (fun d S h => ?_) (fun _ _ _ h => h.elim) ev)
  · refine ⟨fun l o h => ?_, fun l l' o o' h _ t => ?_, fun q hq => ?_, fun l l' od od' u _ _ h => ?_⟩
    · obtain ⟨rfl, rfl⟩ := S1_get h
      exact ⟨Nat.zero_lt_one, ns, e.sq⟩
    · obtain ⟨rfl, rfl⟩ := S1_get h
      exact nomatch t
    · obtain ⟨r, hr, rfl⟩ := List.mem_map.mp hq
      refine NdefX.TabN.nil ?_
      unfold H0
      rw [if_pos]
      exact List.mem_map.mpr ⟨_, List.mem_map.mpr ⟨r, hr, rfl⟩, rfl⟩
    · obtain ⟨_, z⟩ := S1_get h
      exact nomatch z
  · exact RDs.cons ⟨Nat.zero_lt_one, rfl⟩ RDs.nil
  · intro ρ' H' v _ _ r
    rw [h] at r
    exact rd_bl r
end
end
end Ev
end
section
set_option Elab.async false
set_option linter.all false
set_option maxRecDepth 100000
set_option maxHeartbeats 400000
/-! CALLS ONCE TOLD: a table of calls whose arguments are plain data. -/
namespace Ev
noncomputable section
open PySem PySem.Spec PyProof.Rows L2 LamX
/-! ### plain data -/
mutual
def plD : D → Bool
  | .non => true
  | .bl _ => true
  | .int _ => true
  | .str _ => true
  | .tup xs => plDs xs
  | _ => false
def plDs : List D → Bool
  | [] => true
  | x :: xs => plD x && plDs xs
end
def sameI : Int → Int → Bool
  | .ofNat a, .ofNat b => Nat.beq a b
  | .negSucc a, .negSucc b => Nat.beq a b
  | _, _ => false
theorem sameI_eq : ∀ {a b : Int}, sameI a b = true → a = b
  | .ofNat _, .ofNat _, h => congrArg Int.ofNat (Nat.eq_of_beq_eq_true h)
  | .negSucc _, .negSucc _, h => congrArg Int.negSucc (Nat.eq_of_beq_eq_true h)
  | .ofNat _, .negSucc _, h => nomatch h
  | .negSucc _, .ofNat _, h => nomatch h
mutual
def sameD : D → D → Bool
  | .non, .non => true
  | .bl true, .bl true => true
  | .bl false, .bl false => true
  | .int a, .int b => sameI a b
  | .str a, .str b => eqS a b
  | .tup xs, .tup ys => sameDs xs ys
  | _, _ => false
def sameDs : List D → List D → Bool
  | [], [] => true
  | x :: xs, y :: ys => sameD x y && sameDs xs ys
  | _, _ => false
end
mutual
theorem sameD_eq : ∀ {x y : D}, sameD x y = true → x = y ∧ plD x = true
  | .non, y, h => by cases y with | non => exact ⟨rfl, rfl⟩ | _ => unfold sameD at h; exact nomatch h
  | .bl b, y, h => by
    cases y with
    | bl c => cases b <;> cases c <;> first | exact ⟨rfl, rfl⟩ | (unfold sameD at h; exact nomatch h)
    | _ => cases b <;> (unfold sameD at h; exact nomatch h)
  | .int a, y, h => by
    cases y with
    | int c => unfold sameD at h; rw [sameI_eq h]; exact ⟨rfl, rfl⟩
    | _ => unfold sameD at h; exact nomatch h
  | .str a, y, h => by
    cases y with
    | str c => unfold sameD at h; rw [eqS_eq] at h; rw [of_decide_eq_true h]; exact ⟨rfl, rfl⟩
    | _ => unfold sameD at h; exact nomatch h
  | .tup xs, y, h => by
    cases y with
    | tup ys =>
      unfold sameD at h
      obtain ⟨a, b⟩ := sameDs_eq h
      rw [a] at b ⊢
      refine ⟨rfl, ?_⟩
      unfold plD
      exact b
    | _ => unfold sameD at h; exact nomatch h
  | .ref l, y, h => by cases y <;> (unfold sameD at h; exact nomatch h)
  | .fn l, y, h => by cases y <;> (unfold sameD at h; exact nomatch h)
  | .cls l, y, h => by cases y <;> (unfold sameD at h; exact nomatch h)
  | .ty l, y, h => by cases y <;> (unfold sameD at h; exact nomatch h)
theorem sameDs_eq : ∀ {xs ys : List D}, sameDs xs ys = true → xs = ys ∧ plDs xs = true
  | [], [], _ => ⟨rfl, rfl⟩
  | [], _ :: _, h => by unfold sameDs at h; exact nomatch h
  | _ :: _, [], h => by unfold sameDs at h; exact nomatch h
  | x :: xs, y :: ys, h => by
    unfold sameDs at h
    rw [Bool.and_eq_true] at h
    obtain ⟨a, b⟩ := sameD_eq h.1
    obtain ⟨c, d⟩ := sameDs_eq h.2
    rw [a] at b ⊢
    rw [c] at d ⊢
    refine ⟨rfl, ?_⟩
    unfold plDs
    rw [b, d]
    rfl
end
section
variable {Γ : Gm}
mutual
/-- plain data do not lean on places; what they lean on stays -/
theorem RD.plain {ρ ρ' : Nat → Addr} {n n' : Nat} {H H' : Hp} (k : ∀ a o, H a = some o → immut o = true → H' a = some o) : ∀ {d : D} {v : V}, plD d = true → RD Γ ρ n H d v → RD Γ ρ' n' H' d v
  | .non, _, _, h => h
  | .bl _, _, _, h => h
  | .int _, _, _, h => h
  | .str _, _, _, h => h
  | .tup xs, _, p, h => by
    unfold RD at h ⊢
    unfold plD at p
    obtain ⟨hl, a, ys, e1, e2, e3⟩ := h
    exact ⟨hl, a, ys, e1, k _ _ e2 rfl, RDs.plain k p e3⟩
  | .ref _, _, p, _ => by unfold plD at p; exact nomatch p
  | .fn _, _, p, _ => by unfold plD at p; exact nomatch p
  | .cls _, _, p, _ => by unfold plD at p; exact nomatch p
  | .ty _, _, p, _ => by unfold plD at p; exact nomatch p
theorem RDs.plain {ρ ρ' : Nat → Addr} {n n' : Nat} {H H' : Hp} (k : ∀ a o, H a = some o → immut o = true → H' a = some o) : ∀ {ds : List D} {vs : List V}, plDs ds = true → RDs Γ ρ n H ds vs → RDs Γ ρ' n' H' ds vs
  | [], _, _, h => h
  | x :: xs, _, p, h => by
    unfold plDs at p
    rw [Bool.and_eq_true] at p
    unfold RDs at h ⊢
    obtain ⟨y, r, e1, e2, e3⟩ := h
    exact ⟨y, r, e1, RD.plain k p.1 e2, RDs.plain k p.2 e3⟩
end
/-! ### the table -/
inductive Mr where
  | val (d : D)
  | unk
  | exc (c : Nat) (fs : List (Str × D))
/-- what a told call gives -/
def Mr.res (S : St) : Mr → Res D
  | .val d => .ok d S
  | .unk => .ok (.ref S.n) (S.new .hid)
  | .exc c fs => .exc c fs S
def S0 : St := ⟨0, .lf⟩
/-- the run of the call by itself gives that -/
def sameF : List (Str × D) → List (Str × D) → Bool
  | [], [] => true
  | (f, x) :: r, (g, y) :: t => eqS f g && (sameD x y && sameF r t)
  | _, _ => false
def entB : Res D → Mr → Bool
  | .ok d _, .val e => sameD d e
  | .ok (.ref _) _, .unk => true
  | .exc c fs _, .exc c' gs => Nat.beq c c' && sameF fs gs
  | _, _ => false
abbrev Row := List D × Mr
def findR (xs : List D) (S : St) : List Row → Res D
  | [] => .fail
  | r :: rs => match sameDs r.1 xs with
    | true => r.2.res S
    | false => findR xs S rs
def memoC (t : T (List Row)) : CallF := fun f xs S => match f with
  | .df i => match t.get i with
    | some rs => findR xs S rs
    | none => .fail
  | .lm _ _ => .fail
theorem sameF_eq : ∀ {fs gs : List (Str × D)}, sameF fs gs = true → fs = gs ∧ ∀ f d, fs.lookup f = some d → plD d = true
  | [], [], _ => ⟨rfl, fun _ _ h => nomatch h⟩
  | [], _ :: _, h => by unfold sameF at h; exact nomatch h
  | _ :: _, [], h => by unfold sameF at h; exact nomatch h
  | (f, x) :: r, (g, y) :: t, h => by
    unfold sameF at h
    simp only [eqS_eq, Bool.and_eq_true, decide_eq_true_eq] at h
    obtain ⟨rfl, a, b⟩ := h
    obtain ⟨rfl, p⟩ := sameD_eq a
    obtain ⟨rfl, q⟩ := sameF_eq b
    refine ⟨rfl, fun z d hz => ?_⟩
    rw [List.lookup_cons] at hz
    split at hz
    · cases hz; exact p
    · exact q z d hz
theorem S0_get {l : Nat} {o : O} : S0.get l ≠ some o := fun h => nomatch h
section
variable {ρ ρ' : Nat → Addr} {S S' : St} {H H' : Hp}
theorem fr_S0 (e : Ext ρ S0 H ρ' S' H') {a : Addr} {o : HO} (h : H a = some o) (t : ∀ ps, o ≠ .tbl ps) : H' a = some o := e.fr a o h t fun ⟨_, _, q, _⟩ => S0_get q
/-- the store of the caller behind a told call -/
theorem rh_keep (R : Rh Γ ρ [] S H) (R' : Rh Γ ρ' [] S' H') (e : Ext ρ S0 H ρ' S' H') : Rh Γ ρ [] S H' where
  obj := fun l o h => by
    obtain ⟨lt, r⟩ := R.obj l o h
    refine ⟨lt, RO.extW (ρ := ρ) (S := S) (S' := S) ⟨Nat.le_refl _, fun _ _ => rfl, fun a o h i => e.keep a o h (imW_of i)⟩ lt (fun t ho hh => ?_) (fun od u eo hh => fr_S0 e hh fun _ z => nomatch z) r⟩
    refine fr_S0 e hh fun ps z => ?_
    subst z
    have no : ∀ {o : O}, trk o = true → RO Γ ρ S.n [] H l o → False := fun {o} t r => by
      cases o with
      | lst xs => obtain ⟨_, _, b, _⟩ := r; rw [hh] at b; exact nomatch b
      | dic xs => obtain ⟨_, _, b, _⟩ := r; rw [hh] at b; exact nomatch b
      | clo i ls => obtain ⟨_, _, b, _⟩ := r; rw [hh] at b; exact nomatch b
      | exn c fs => obtain ⟨_, _, b, _⟩ := r; rw [hh] at b; exact nomatch b
      | opq => obtain ⟨_, _, b, _⟩ := r; rw [hh] at b; exact nomatch b
      | scr => obtain ⟨_, b⟩ := r; rw [hh] at b; exact nomatch b
      | _ => exact nomatch t
    exact no t r
  inj := R.inj
  tabs := R'.tabs
  injF := fun l l' od od' u h1 h2 g1 g2 hh er => by
    obtain ⟨_, r⟩ := R.obj l _ g1
    rcases r with ⟨i, z⟩ | ⟨o, z, _⟩
    · exact absurd z (h1 i)
    · refine R.injF l l' od od' o h1 h2 g1 g2 z er
theorem ext_keep (R : Rh Γ ρ [] S H) (e : Ext ρ S0 H ρ' S' H') : Ext ρ S H ρ S H' :=
  ⟨⟨Nat.le_refl _, fun _ _ => rfl, e.keep, fun a o h t _ => fr_S0 e h t, fun l o _ h t => ⟨o, h, t⟩, fun l o h g _ => absurd (R.obj l o g).1 (Nat.not_lt.mpr h), e.dom, fun l od _ h => ⟨od, h⟩, fun l od h g => absurd (R.obj l _ g).1 (Nat.not_lt.mpr h)⟩, fun _ _ _ h => h⟩
theorem rh_hid {a : Addr} (R : Rh Γ ρ [] S H) : Rh Γ (rup ρ S.n a) [] (S.new .hid) H where
  obj := fun l o h => by
    rcases St.get_new h with ⟨rfl, rfl⟩ | ⟨ne, h⟩
    · exact ⟨Nat.lt_succ_self _, trivial⟩
    · obtain ⟨lt, r⟩ := R.obj l o h
      refine ⟨Nat.lt_succ_of_lt lt, RO.extW (ρ := ρ) (S := S) (S' := S.new .hid) ⟨Nat.le_succ _, fun _ hl => rup_lt hl, fun _ _ h _ => h⟩ lt (fun _ _ h => h) (fun _ _ _ h => h) r⟩
  inj := fun l l' o o' h h' t t' er => by
    rcases St.get_new h with ⟨rfl, rfl⟩ | ⟨ne, h⟩
    · exact nomatch t
    · rcases St.get_new h' with ⟨rfl, rfl⟩ | ⟨ne', h'⟩
      · exact nomatch t'
      · rw [rup_lt (R.obj l o h).1, rup_lt (R.obj l' o' h').1] at er
        exact R.inj l l' o o' h h' t t' er
  tabs := R.tabs
  injF := fun l l' od od' u h1 h2 g1 g2 hh er => by
    rcases St.get_new g1 with ⟨_, z⟩ | ⟨ne, g1⟩
    · exact nomatch z
    · rcases St.get_new g2 with ⟨_, z⟩ | ⟨ne', g2⟩
      · exact nomatch z
      · rw [rup_lt (R.obj l _ g1).1, rup_lt (R.obj l' _ g2).1] at er
        rw [rup_lt (R.obj l _ g1).1] at hh
        exact R.injF l l' od od' u h1 h2 g1 g2 hh er
theorem ext_hid {a : Addr} (R : Rh Γ ρ [] S H) : Ext ρ S H (rup ρ S.n a) (S.new .hid) H := by
  refine ⟨⟨Nat.le_succ _, fun _ hl => rup_lt hl, fun _ _ h _ => h, fun _ _ h _ _ => h, fun l o hl h t => ?_, fun l o hl h t => ?_, fun _ h => h, fun l od hl h => ?_, fun l od hl h => ?_⟩, fun l od hl h => ?_⟩
  · rcases St.get_new h with ⟨_, rfl⟩ | ⟨_, h⟩
    · exact nomatch t
    · exact ⟨o, h, t⟩
  · rcases St.get_new h with ⟨_, rfl⟩ | ⟨_, h⟩
    · exact nomatch t
    · exact absurd (R.obj l _ h).1 (Nat.not_lt.mpr hl)
  · rcases St.get_new h with ⟨_, z⟩ | ⟨_, h⟩
    · exact nomatch z
    · exact ⟨od, h⟩
  · rcases St.get_new h with ⟨_, z⟩ | ⟨_, h⟩
    · exact nomatch z
    · exact absurd (R.obj l _ h).1 (Nat.not_lt.mpr hl)
  · rcases St.get_new h with ⟨_, z⟩ | ⟨_, h⟩
    · exact nomatch z
    · exact h
theorem rh_S0 (R : Rh Γ ρ [] S H) : Rh Γ ρ [] S0 H := ⟨fun l o h => absurd h S0_get, fun l l' o o' h => absurd h S0_get, R.tabs, fun l l' od od' u _ _ h => absurd h S0_get⟩
/-- a told call, from its run by itself -/
theorem told_ok {Q : VK} {E : XK} {r : Res D} {m : Mr} (R : Rh Γ ρ [] S H) (b : entB r m = true) (h : (m.res S).All (PostC Γ ρ S H Q) (PostCX Γ ρ S H E)) : r.All (PostC Γ ρ S0 H Q) (PostCX Γ ρ S0 H E) := by
  cases r with
  | fail => cases m <;> exact nomatch b
  | draw n k => cases m <;> exact nomatch b
  | ok d S1 =>
    intro ρ' H' v R' e r
    cases m with
    | val x =>
      obtain ⟨rfl, p⟩ := sameD_eq (show sameD d x = true from b)
      exact h ρ H' v (rh_keep R R' e) (ext_keep R e) (RD.plain (fun _ _ h _ => h) p r)
    | unk =>
      cases d with
      | ref l =>
        obtain ⟨_, rfl⟩ := (show l < S1.n ∧ v = .ref (ρ' l) from r)
        exact h (rup ρ S.n (ρ' l)) H' _ (rh_hid (rh_keep R R' e)) ((ext_keep R e).trans (fun l o h => (R.obj l o h).1) (fun l o h => (R.obj l o h).1) (ext_hid (rh_keep R R' e))) ⟨Nat.lt_succ_self _, by rw [rup_same]⟩
      | _ => exact nomatch b
    | exc c fs => cases d <;> exact nomatch b
  | exc c fs S1 =>
    intro ρ' H' cls dd R' e x
    cases m with
    | exc c' gs =>
      have b : (Nat.beq c c' && sameF fs gs) = true := b
      rw [Bool.and_eq_true] at b
      have ec := Nat.eq_of_beq_eq_true b.1
      obtain ⟨eg, p⟩ := sameF_eq b.2
      subst ec eg
      obtain ⟨x1, x2⟩ := x
      refine h ρ H' cls dd (rh_keep R R' e) (ext_keep R e) ⟨x1, x2.imp id ?_⟩
      rintro ⟨d, ws, y1, y2, y3⟩
      refine ⟨d, ws, y1, y2, fun f z hz => ?_⟩
      obtain ⟨v, a, r⟩ := y3 f z hz
      exact ⟨v, a, RD.plain (fun _ _ h _ => h) (p f z hz) r⟩
    | val x => exact nomatch b
    | unk => exact nomatch b
end
/-! ### the promise of a table -/
def EntOk (cf : CallF) (i : Nat) (r : Row) : Prop := entB (cf (.df i) r.1 S0) r.2 = true
theorem findR_ok {cf : CallF} {i : Nat} {xs : List D} {S : St} : ∀ {rs : List Row}, (∀ r ∈ rs, EntOk cf i r) → ∀ {P : D → St → Prop} {E : Nat → List (Str × D) → St → Prop}, (findR xs S rs).All P E → ∃ m, entB (cf (.df i) xs S0) m = true ∧ plDs xs = true ∧ findR xs S rs = m.res S
  | [], _, _, _, h => h.elim
  | r :: rs, k, _, _, h => by
    cases e : sameDs r.1 xs with
    | true =>
      obtain ⟨e1, e2⟩ := sameDs_eq e
      have q : findR xs S (r :: rs) = r.2.res S := by
        show (match sameDs r.1 xs with
          | true => r.2.res S
          | false => findR xs S rs) = _
        rw [e]
      refine ⟨r.2, ?_, by rw [← e1]; exact e2, q⟩
      have z := k r List.mem_cons_self
      unfold EntOk at z
      rw [e1] at z
      exact z
    | false =>
      have q : findR xs S (r :: rs) = findR xs S rs := by
        show (match sameDs r.1 xs with
          | true => r.2.res S
          | false => findR xs S rs) = _
        rw [e]
      rw [q] at h
      obtain ⟨m, a, b, c⟩ := findR_ok (fun r hr => k r (List.mem_cons_of_mem _ hr)) h
      exact ⟨m, a, b, q.trans c⟩
theorem memo_ok {k : Nat} {cf : CallF} {t : T (List Row)} (c : CfK Γ k cf) (h : ∀ i rs, t.get i = some rs → ∀ r ∈ rs, EntOk cf i r) : CfK Γ k (memoC t) := by
  have key : ∀ (i : Nat) (ds : List D) (S : St) (P : D → St → Prop) (E : Nat → List (Str × D) → St → Prop), (memoC t (.df i) ds S).All P E → ∃ m, entB (cf (.df i) ds S0) m = true ∧ plDs ds = true ∧ memoC t (.df i) ds S = m.res S := fun i ds S P E z => by
    cases e : t.get i with
    | none =>
      have q : memoC t (.df i) ds S = .fail := by
        show (match t.get i with
          | some rs => findR ds S rs
          | none => .fail) = _
        rw [e]
      rw [q] at z
      exact z.elim
    | some rs =>
      have q : memoC t (.df i) ds S = findR ds S rs := by
        show (match t.get i with
          | some rs => findR ds S rs
          | none => .fail) = _
        rw [e]
      rw [q] at z ⊢
      exact findR_ok (h i rs e) z
  refine ⟨c.sh, fun i ds A outer s ρ S H args us vs Q E hr hg e0 R r rv hb z => ?_, fun i l ls ds A outer s ρ S H us vs Q E _ _ _ _ _ _ _ z => z.elim, fun i ds S P E z => ?_, c.kp, c.k2⟩
  · obtain ⟨m, b, p, q⟩ := key i ds S _ _ z
    rw [q] at z
    exact c.df i ds A outer s ρ S0 H args us vs Q E hr hg e0 (rh_S0 R) (RDs.plain (fun _ _ h _ => h) p r) rv hb (told_ok R b z)
  · obtain ⟨m, b, p, q⟩ := key i ds S _ _ z
    have any : (cf (.df i) ds S0).All (fun _ _ => True) (fun _ _ _ => True) := by
      cases e : cf (.df i) ds S0 with
      | ok _ _ => trivial
      | exc _ _ _ => trivial
      | draw _ _ => rw [e] at b; cases m <;> exact nomatch b
      | fail => rw [e] at b; cases m <;> exact nomatch b
    exact c.ix i ds S0 _ _ any
end
end
end Ev
end
section
set_option Elab.async false
set_option linter.all false
set_option maxRecDepth 100000
set_option maxHeartbeats 400000
/-! CALLS, by tables and by their text. -/
namespace Ev
noncomputable section
open PySem PySem.Spec PyProof.Rows L2 LamX
/-- one call by its text, its callees by cf -/
def stepC (G : Pg) (N : Nat) (cf : CallF) : CallF := fun f xs S => match f with
    | .df i => match G.defs.get i with
      | some d => match Nat.beq (lenN xs) d.np with
        | true => match celled d.cells (xs.map .vl ++ pad (Nat.sub d.ns d.np)) S with
          | some (v, S1) => ((ite_ G cf N).ss d.body v S1).nox.bind (retOf (match d.fin with | some e => some ((ite_ G cf N).e e) | none => none))
          | none => .fail
        | false => .fail
      | none => .fail
    | .lm i cs => match G.lams.get i with
      | some d => match Nat.beq (lenN xs) d.np && celsOk S cs with
        | true => (ite_ G cf N).e d.body (xs.map .vl ++ (cs.map .ce ++ pad (Nat.sub d.ns (Nat.add d.np (lenN cs))))) S
        | false => .fail
      | none => .fail
def orR (a : Res D) (b : Res D) : Res D := match a with
  | .fail => b
  | .ok d S => .ok d S
  | .exc c fs S => .exc c fs S
  | .draw n k => .draw n k
theorem orR_or {a b : Res D} : orR a b = a ∨ orR a b = b := by cases a <;> first | exact .inl rfl | exact .inr rfl
def orC (A B : CallF) : CallF := fun f xs S => orR (A f xs S) (B f xs S)
def callM (G : Pg) (N : Nat) (M : CallF) (k : Nat) : CallF := Nat.rec (motive := fun _ => CallF) (fun _ _ _ => .fail) (fun _ ih => orC M (stepC G N ih)) k
section
variable {Γ : Gm} {k : Nat} {cf : CallF} {C : CC} {i : Nat} {F : DefI} {d : Df}
theorem df_one' (P : PgOk0 Γ) {N : Nat} {b : Bool} (ih : CfK Γ k cf) (dr : b = true → DrwOk Γ k) (ed : Γ.G.defs.get i = some d) (T : DefT Γ b i d) {ds : List D} {A : Around} {outer : List PySem.Env} {s : Shared} {ρ : Nat → Addr} {S : St} {H : Hp} {args : Args} {us : List Value} {vs : List V} {Q : VK} {E : XK}
    (hr : Room (k + 1) A) (hg : A.guards = some []) (e0 : Env0 Γ.P Γ.w Γ.K Γ.mg Γ.base A outer s H) (R : Rh Γ ρ [] S H) (r : RDs Γ ρ S.n H ds vs) (rv : Vals vs us) (hb : BindsTo s (Γ.fd i) args ((Γ.psn i).zip us))
    (h : (stepC Γ.G N cf (.df i) ds S).All (PostC Γ ρ S H Q) (PostCX Γ ρ S H E)) : codeAny (model Γ.P Γ.w) A (.call (.ref (Γ.fnA i)) args) (CR (L2N.CX Γ.P Γ.w) outer Γ.P Γ.w H s Q E) s := by
  simp only [stepC] at h
  rw [ed] at h
  dsimp only at h
  split at h
  · rename_i en
    have en : ds.length = d.np := by rw [← lenN_eq]; exact Nat.eq_of_beq_eq_true en
    obtain ⟨F, C, hF, h0, h1, h2, h3, h4, h5, h6, h7, h8, h9⟩ := T.is
    exact df_run (k := k) hF (fun A outer s H E hr hg => body_ok (xok_dcx P ih (by rw [h0]; exact dr) hF h1 h2 h3 h4 h5 h7 hr hg) h6 h8) hr hg e0 R r rv hb en h
  · exact h.elim
theorem cfk_step (P : PgOk Γ) (N : Nat) (h3 : 3 ≤ k) (ih : CfK Γ k cf) : CfK Γ (k + 1) (stepC Γ.G N cf) := by
  have dr := P.dr k h3
  refine ⟨P.sh, fun i ds A outer s ρ S H args us vs Q E hr hg e0 R r rv hb h => ?_, fun i l ls ds A outer s ρ S H us vs Q E hr hg e0 R hl r rv h => ?_, fun i ds S P' E h => ?_, P.kp, by omega⟩
  · cases ed : Γ.G.defs.get i with
    | none => simp only [stepC] at h; rw [ed] at h; exact h.elim
    | some d =>
      obtain ⟨b, T⟩ := P.defs i d ed
      exact df_one' P.toPgOk0 ih (fun _ => dr) ed T hr hg e0 R r rv hb h
  · simp only [stepC] at h
    split at h
    · rename_i d ed
      split at h
      · rename_i en
        simp only [Bool.and_eq_true] at en
        obtain ⟨hF, C, h1, h2, h3, h4, h5, h6, h7, h8⟩ := (P.lams i d ed).is
        exact lm_run (k := k) hF (fun cl c' f A outer s H E hr hg => ((cE_ok (Γ := Γ) (k := k) (cf := cf) 60).ok C _ _ (xok_lcx P.toPgOk0 ih (fun _ => dr) hF h1 h2 h3 h4 h5 h7 hr hg) _ _ h8 N).1) hr hg e0 R hl r rv
          (by rw [← lenN_eq]; exact Nat.eq_of_beq_eq_true en.1) en.2 h
      · exact h.elim
    · exact h.elim
  · simp only [stepC] at h
    split at h
    · rename_i d ed
      split at h
      · rename_i en
        have en : ds.length = d.np := by rw [← lenN_eq]; exact Nat.eq_of_beq_eq_true en
        obtain ⟨b, T⟩ := P.defs i d ed
        obtain ⟨F, C, hF, h0, h1, h2, h3, h4, h5, h6, h7, h8, h9⟩ := T.is
        exact ⟨en.trans hF.np, h9⟩
      · exact h.elim
    · exact h.elim
theorem CfK.mono {j : Nat} (c : CfK Γ k cf) (h : k ≤ j) : CfK Γ j cf :=
  ⟨c.sh, fun i ds A outer s ρ S H args us vs Q E hr hg e0 R r rv hb z => c.df i ds A outer s ρ S H args us vs Q E (hr.mono h) hg e0 R r rv hb z, fun i l ls ds A outer s ρ S H us vs Q E hr hg e0 R hl r rv z => c.lm i l ls ds A outer s ρ S H us vs Q E (hr.mono h) hg e0 R hl r rv z, c.ix, c.kp, Nat.le_trans c.k2 h⟩
theorem CfK.or {A B : CallF} (a : CfK Γ k A) (b : CfK Γ k B) : CfK Γ k (orC A B) := by
  refine ⟨a.sh, fun i ds A' outer s ρ S H args us vs Q E hr hg e0 R r rv hb z => ?_, fun i l ls ds A' outer s ρ S H us vs Q E hr hg e0 R hl r rv z => ?_, fun i ds S P E z => ?_, a.kp, a.k2⟩
  · unfold orC at z
    rcases orR_or (a := A (.df i) ds S) (b := B (.df i) ds S) with e | e <;> rw [e] at z
    · exact a.df i ds A' outer s ρ S H args us vs Q E hr hg e0 R r rv hb z
    · exact b.df i ds A' outer s ρ S H args us vs Q E hr hg e0 R r rv hb z
  · unfold orC at z
    rcases orR_or (a := A (.lm i ls) ds S) (b := B (.lm i ls) ds S) with e | e <;> rw [e] at z
    · exact a.lm i l ls ds A' outer s ρ S H us vs Q E hr hg e0 R hl r rv z
    · exact b.lm i l ls ds A' outer s ρ S H us vs Q E hr hg e0 R hl r rv z
  · unfold orC at z
    rcases orR_or (a := A (.df i) ds S) (b := B (.df i) ds S) with e | e <;> rw [e] at z
    · exact a.ix i ds S P E z
    · exact b.ix i ds S P E z
theorem cfk_callM (P : PgOk Γ) (N : Nat) {M : CallF} (h3 : 3 ≤ k) (m : CfK Γ k M) : ∀ j : Nat, CfK Γ (k + j) (callM Γ.G N M j)
  | 0 => ⟨P.sh, fun i ds A outer s ρ S H args us vs Q E _ _ _ _ _ _ _ h => h.elim, fun i l ls ds A outer s ρ S H us vs Q E _ _ _ _ _ _ _ h => h.elim, fun i ds S P E h => h.elim, P.kp, by omega⟩
  | j + 1 => (m.mono (by omega)).or (cfk_step P N (show 3 ≤ k + j by omega) (cfk_callM P N h3 m j))
/-- a table's promise -/
structure Told (p : Program) (G : Pg) (k : Nat) (M : CallF) : Prop where
  is : ∀ (w : World) (K : PySem.W.Frag) (mg : Str → Option Value) (base : Heap), PgOk (gmT p G w K mg base) → CfK (gmT p G w K mg base) k M
variable {p : Program} {G : Pg}
theorem told_no {k : Nat} (h : 3 ≤ k) : Told p G k (fun _ _ _ => .fail) := ⟨fun w K mg base P => ⟨P.sh, fun i ds A outer s ρ S H args us vs Q E _ _ _ _ _ _ _ h => h.elim, fun i l ls ds A outer s ρ S H us vs Q E _ _ _ _ _ _ _ h => h.elim, fun i ds S P E h => h.elim, P.kp, by omega⟩⟩
theorem told_run {k j N : Nat} {M : CallF} (h3 : 3 ≤ k) (t : Told p G k M) : Told p G (k + j) (callM G N M j) := ⟨fun w K mg base P => cfk_callM P N h3 (t.is w K mg base P) j⟩
theorem told_tab {k : Nat} {cf : CallF} {t : T (List Row)} (c : Told p G k cf) (h : ∀ i rs, t.get i = some rs → ∀ r ∈ rs, EntOk cf i r) : Told p G k (memoC t) := ⟨fun w K mg base P => memo_ok (c.is w K mg base P) h⟩
theorem told_or {k : Nat} {A B : CallF} (a : Told p G k A) (b : Told p G k B) : Told p G k (orC A B) := ⟨fun w K mg base P => (a.is w K mg base P).or (b.is w K mg base P)⟩
/-- the table of rows, each by its number -/
def tabOf (rs : List (Nat × Row)) : T (List Row) := rs.foldr (fun q t => t.put q.1 (q.2 :: (t.get q.1).getD [])) (T.ofL ((List.range 200).map fun _ => []))
theorem tabOf_ok {cf : CallF} : ∀ {rs : List (Nat × Row)}, (∀ q ∈ rs, EntOk cf q.1 q.2) → ∀ i l, (tabOf rs).get i = some l → ∀ r ∈ l, EntOk cf i r
  | [], _, i, l, h, r, hr => by
    have z := ofL_get h
    rw [List.getElem?_map] at z
    cases e : (List.range 200)[i]? with
    | none => rw [e] at z; exact nomatch z
    | some u => rw [e] at z; cases z; exact nomatch hr
  | q :: rs, k, i, l, h, r, hr => by
    have ih := tabOf_ok (rs := rs) fun q hq => k q (List.mem_cons_of_mem _ hq)
    rcases T.get_put _ _ _ _ _ h with ⟨rfl, rfl⟩ | ⟨_, h⟩
    · rcases List.mem_cons.mp hr with rfl | hr
      · exact k q List.mem_cons_self
      · cases e : (tabOf rs).get q.1 with
        | none =>
          have hr : r ∈ ((tabOf rs).get q.1).getD [] := hr
          rw [e] at hr
          exact nomatch hr
        | some l' =>
          have hr : r ∈ ((tabOf rs).get q.1).getD [] := hr
          rw [e] at hr
          exact ih _ _ e r hr
    · exact ih i l h r hr
theorem told_rows {k : Nat} {cf : CallF} {rs : List (Nat × Row)} {t : T (List Row)} (c : Told p G k cf) (e : t = tabOf rs) (h : ∀ q ∈ rs, EntOk cf q.1 q.2) : Told p G k (memoC t) := told_tab c (by rw [e]; exact tabOf_ok h)
end
end
end Ev
end
section
set_option Elab.async false
set_option linter.all false
set_option maxRecDepth 100000
set_option maxHeartbeats 400000
/-! THE HEAD: the hook of a law's text, the law's call from it. -/
namespace Ev
noncomputable section
open PySem PySem.Spec PyProof.Rows L2 LamX
open He (ga ma fAd cT frT asD tabsB obsD valD)
structure SaysH (t : Tx) (h : Heap) (K : PySem.W.Frag) : Prop where
  d : He.SaysD (faT t) (fnT t) K
  ex : exT t K = true
  hd : ∀ q ∈ tfT t, PySem.W.codeHdIn K (cT K q).1 (cT K q).2 = true
  out : ∀ q ∈ tfT t, K.lookup (cT K q).2 = none
  empty : ∀ q ∈ tfT t, h.get? (cT K q).2 = some { cls := .none, data := .fields #[] }
abbrev AlH : Type := He.AlD × Bool
def kH (n : Nat) (g : Addr → Option Obj) : PySem.W.Frag := frT g (sysModules :: asD g n)
def obsK (t : Tx) (g : Addr → Option Obj) (K : PySem.W.Frag) : AlH := (obsD (faT t) (fnT t) K, exT t K && tabsB g (tfT t) K)
def obsH (n : Nat) (t : Tx) (g : Addr → Option Obj) : AlH := obsK t g (kH n g)
def valH (t : Tx) : AlH := (valD (fnT t), true)
theorem saysH_of {n : Nat} {t : Tx} {h : Heap} (e : obsH n t h.get? = valH t) : SaysH t h (kH n h.get?) := by
  have e1 : obsD (faT t) (fnT t) (kH n h.get?) = valD (fnT t) := congrArg (fun z : AlH => z.1) e
  have e2 : (exT t (kH n h.get?) && tabsB h.get? (tfT t) (kH n h.get?)) = true := congrArg (fun z : AlH => z.2) e
  rw [Bool.and_eq_true] at e2
  obtain ⟨h1, h2⟩ := e2
  have key : ∀ p ∈ tfT t, PySem.W.codeHdIn (kH n h.get?) (cT (kH n h.get?) p).1 (cT (kH n h.get?) p).2 = true ∧ ∃ o, h.get? (cT (kH n h.get?) p).2 = some o ∧ He.emptyTab o = true := fun p hp => by
    have z := List.all_eq_true.mp h2 p hp
    rw [Bool.and_eq_true] at z
    obtain ⟨h3, h4⟩ := z
    refine ⟨h3, ?_⟩
    cases q : h.get? (cT (kH n h.get?) p).2 with
    | none =>
      rw [q] at h4
      cases h4
    | some o =>
      rw [q] at h4
      exact ⟨o, rfl, h4⟩
  exact ⟨e1, h1, fun p hp => (key p hp).1, fun p hp => by
    obtain ⟨_, o, q, z⟩ := key p hp
    exact He.frT_none q z, fun p hp => by
    obtain ⟨_, o, q, z⟩ := key p hp
    rw [q, He.emptyTab_eq z]⟩
def hookH (n : Nat) (t : Tx) : PySem.W.Hook where
  α := AlH
  obs := fun s => obsH n t s.heap.get?
  val := fun _ => valH t
  says := fun _ h => ∃ K : PySem.W.Frag, K.In h ∧ SaysH t h K
  of := fun _ _ e => ⟨_, He.frT_in, saysH_of e⟩
  keeps := fun _ _ _ ⟨K, hK, c⟩ k => ⟨K, PySem.W.Frag.In.keeps hK k, ⟨c.d, c.ex, c.hd, c.out, fun p hp => k _ _ (c.empty p hp)⟩⟩
def obT (n : Nat) (t : Tx) (s : PySem.W.SharedT) : AlH := obsH n t (HandSHeadRun.getT s)
theorem obT_eq {n : Nat} {t : Tx} (s : PySem.W.SharedT) : obT n t s = (hookH n t).obs s.abs := by
  have e : HandSHeadRun.getT s = s.abs.heap.get? := funext (HandSHeadRun.getT_eq s)
  unfold obT
  rw [e]
  rfl
/-- a law, its promise: what the kernel is to tell -/
theorem law_walk {l : PySem.W.OpenLaw} {n m : Nat} {q : Program} {loose : List Str} {XP : (Str → Option Value) → Heap → Prop} {d : DefRec} {G : Pg} {iD iP iL k : Nat} {cf : CallF} {dP : Df} {c1 c2 m1 m2 q9 : Int}
    (hn : l.most = some n) (hn2 : n ≤ sizeLine) (hdf : d.params.defaults = []) (nm : d.name = "law") (il : dnm (tx l.prog) iL = "law") (ild : iL < (tx l.prog).defs.length)
    (pg : PgT l.prog G) (st : statB (tx l.prog) = true) (fl : fldsB G (tx l.prog) = true)
    (hd : G.defs.get iD = some (drwDf c1 c2 m1 m2 q9)) (hdP : G.defs.get iP = some dP) (hb : lawB (tx l.prog) iD iP = true) (hc : small c1 = true) (h1 : 0 < m1) (h1' : m1 < 18446744073709551616) (h2 : 0 < m2) (hq : 0 < q9) (hq' : q9 < 1073741824)
    (td : Told l.prog G k cf) (ev : TrueR (cf (.df iL) [.ref 0] S1)) (hr : Room k callerA) :
    PySem.W.WalkO q loose XP (hookH m (tx l.prog)).says l.row.toRowW d [] (fun f vs => PySem.call f vs) := by
  refine Att.attach_callB hn hdf fun w s₀ s₁ mg mb fa o pm cd doc a vs ns Gr Y ho hdd hcd hmg hobj hints hlen hbits hg => ?_
  obtain ⟨K, KX, c⟩ := Y
  have e : Entry K mg mb ((tfT (tx l.prog)).map (cT K)) a vs ns s₁ := by
    refine ⟨KX, Gr.T.g, Gr.T.b, Gr.T.builtins, Gr.T.nolimit, hg, fun p hp => ?_, fun p hp => ?_, fun p hp => ?_, Gr.T.bmain, hobj, hints, Nat.le_trans hlen hn2⟩
    · obtain ⟨r, hr, rfl⟩ := List.mem_map.mp hp
      exact c.empty r hr
    · obtain ⟨r, hr, rfl⟩ := List.mem_map.mp hp
      exact c.out r hr
    · obtain ⟨r, hr, rfl⟩ := List.mem_map.mp hp
      exact PySem.W.codeHd_of_K KX (c.hd r hr)
  have f : Fx l.prog G K mg (hidT s₁.heap (H0 K ((tfT (tx l.prog)).map (cT K)) a (scO vs) ns)) := by
    refine ⟨pg, st, fl, e.kinB, e.nsK e.nsm, fun x hx => c.d.facts hx, fun x hx => c.d.defs hx, c.ex, fun x hx => ?_⟩
    exact e.tb _ (List.mem_map.mpr ⟨x, hx, rfl⟩)
  have P := f.pgok (w := w) hd hdP hb hc h1 h1' h2 hq hq'
  have run := law_run (w := w) e (td.is w K mg _ P) ev hr
  have gl : ga K (dnm (tx l.prog) iL) = fa := by
    obtain ⟨x, y, _⟩ := f.def_ (List.getElem?_eq_getElem ild)
    rw [← x, il] at y
    rw [nm, y] at hmg
    rw [il]
    cases hmg
    rfl
  rw [gl] at run
  exact e.fin run
end
end Ev
end
section
set_option Elab.async false
set_option linter.all false
set_option maxRecDepth 100000
set_option maxHeartbeats 400000
/-! True on every way, told by the kernel. -/
namespace Ev
noncomputable section
open PySem PySem.Spec PyProof.Rows L2 LamX
/-- for all d below n -/
def allN (f : Nat → Bool) : Nat → Bool
  | 0 => true
  | n + 1 => f n && allN f n
theorem allN_ok {f : Nat → Bool} : ∀ {n : Nat}, allN f n = true → ∀ d, d < n → f d = true
  | 0, _, d, h => absurd h (Nat.not_lt_zero d)
  | n + 1, e, d, h => by
    unfold allN at e
    rw [Bool.and_eq_true] at e
    rcases Nat.lt_succ_iff_lt_or_eq.mp h with h | rfl
    · exact allN_ok e.2 d h
    · exact e.1
def trueB : Nat → Res D → Bool
  | 0, r => match r with
    | .ok (.bl true) _ => true
    | _ => false
  | n + 1, r => match r with
    | .ok (.bl true) _ => true
    | .draw m k => Nat.blt 0 m && allN (fun d => trueB n (k d)) m
    | _ => false
theorem trueB_ok : ∀ {n : Nat} {r : Res D}, trueB n r = true → TrueR r
  | 0, r, h => by
    cases r with
    | ok d S => cases d with
      | bl b => cases b with
        | true => exact rfl
        | false => exact nomatch h
      | _ => exact nomatch h
    | _ => exact nomatch h
  | n + 1, r, h => by
    cases r with
    | ok d S => cases d with
      | bl b => cases b with
        | true => exact rfl
        | false => exact nomatch h
      | _ => exact nomatch h
    | draw m k =>
      have h : (Nat.blt 0 m && allN (fun d => trueB n (k d)) m) = true := h
      rw [Bool.and_eq_true] at h
      exact ⟨Nat.lt_of_succ_le (Nat.le_of_ble_eq_true h.1), fun d hd => trueB_ok (allN_ok h.2 d hd)⟩
    | _ => exact nomatch h
theorem all_nil {cf : CallF} : ∀ q ∈ ([] : List (Nat × Row)), EntOk cf q.1 q.2 := fun _ h => nomatch h
theorem all_cons {cf : CallF} {i : Nat} {xs : List D} {m : Mr} {rs : List (Nat × Row)} (h : entB (cf (.df i) xs S0) m = true) (t : ∀ q ∈ rs, EntOk cf q.1 q.2) : ∀ q ∈ (i, (xs, m)) :: rs, EntOk cf q.1 q.2 := fun q hq => by
  rcases List.mem_cons.mp hq with rfl | hq
  · exact h
  · exact t q hq
theorem Told.mono {p : Program} {G : Pg} {k j : Nat} {M : CallF} (t : Told p G k M) (h : k ≤ j) : Told p G j M := ⟨fun w K mg base P => (t.is w K mg base P).mono h⟩
end
end Ev
end
section
set_option Elab.async false
set_option linter.all false
set_option maxRecDepth 100000
set_option maxHeartbeats 0
namespace Kw
open PySem PySem.W PySem.Calls PyProof.Rows
open Ev
abbrev p : Program := PySem.Challenge.pw_eachplayed_k70_lotteries_refused
def z0 : Str := ⟨#[108, 101, 97, 103, 117, 101]⟩
def z1 : Str := ⟨#[108, 101, 116]⟩
def z2 : Str := ⟨#[]⟩
def z3 : Str := ⟨#[118, 97, 108, 117, 101]⟩
def z4 : Str := ⟨#[111, 100, 100, 115]⟩
def z5 : Str := ⟨#[108, 111, 116]⟩
def z6 : Str := ⟨#[76, 101, 97, 103, 117, 101]⟩
def z7 : Str := ⟨#[49, 49, 49]⟩
def z8 : Str := ⟨#[48]⟩
def z9 : Str := ⟨#[120]⟩
def d0 : Df := ⟨1, 1, [], [(.ret (.and (.pr .isi [(.var 0), (.lit (.ty 102))]) (.pr .not_ [(.pr .isi [(.var 0), (.lit (.ty 101))])])))], none⟩
def d1 : Df := ⟨3, 3, [], [(.ret (.and (.call 0 [(.var 0)] [.at_ 0]) (.chn .le .le (.var 1) (.var 0) (.var 2))))], none⟩
def d2 : Df := ⟨1, 1, [], [(.ret (.pr .isi [(.var 0), (.pr .tup [(.lit (.ty 105)), (.lit (.ty 104))])]))], none⟩
def d3 : Df := ⟨2, 2, [], [(.ret (.and (.pr .isi [(.var 0), (.lit (.ty 104))]) (.pr .eq [(.pr .len [(.var 0)]), (.var 1)])))], none⟩
def d4 : Df := ⟨1, 4, [], [(.ret (.pr .all [(.comp (.tp [(.nm 2), (.nm 3)]) (.zip (.var 0) (.pr .sl10 [(.var 0), (.lit (.int 1))])) [] (.pr .lt [(.var 2), (.var 3)]) [1, 2, 3])]))], none⟩
def d5 : Df := ⟨2, 4, [], [(.ret (.and (.pr .isi [(.var 0), (.lit (.ty 104))]) (.and (.pr .all [(.comp (.nm 3) (.val (.var 0)) [] (.call 1 [(.var 3), (.lit (.int 0)), (.pr .sub [(.var 1), (.lit (.int 1))])] [.at_ 0, .at_ 1, .at_ 2]) [2, 3])]) (.call 4 [(.var 0)] [.at_ 0]))))], none⟩
def d6 : Df := ⟨1, 6, [], [(.ife (.or (.pr .not_ [(.call 3 [(.var 0), (.lit (.int 3))] [.at_ 0, .at_ 1])]) (.or (.pr .not_ [(.pr .isi [(.pr .idx [(.var 0), (.lit (.int 0))]), (.lit (.ty 103))])]) (.pr .ne [(.pr .idx [(.var 0), (.lit (.int 0))]), (.lit (.str z0))]))) [(.ret (.lit (.bl false)))] []), (.ife (.or (.pr .not_ [(.call 1 [(.pr .idx [(.var 0), (.lit (.int 1))]), (.lit (.int 1)), (.lit (.int 7))] [.at_ 0, .at_ 1, .at_ 2])]) (.pr .not_ [(.call 3 [(.pr .idx [(.var 0), (.lit (.int 2))]), (.pr .idx [(.var 0), (.lit (.int 1))])] [.at_ 0, .at_ 1])])) [(.ret (.lit (.bl false)))] []), (.ife (.pr .not_ [(.pr .all [(.comp (.nm 1) (.val (.pr .idx [(.var 0), (.lit (.int 2))])) [] (.call 5 [(.var 1), (.pr .idx [(.var 0), (.lit (.int 1))])] [.at_ 0, .at_ 1]) [2, 1])])]) [(.ret (.lit (.bl false)))] []), (.for_ (.nm 1) (.rng1 (.pr .idx [(.var 0), (.lit (.int 1))])) [(.ife (.pr .not_ [(.pr .all [(.comp (.nm 3) (.rng1 (.var 1)) [] (.pr .ne [(.pr .in_ [(.var 3), (.pr .idx [(.pr .idx [(.var 0), (.lit (.int 2))]), (.var 1)])]), (.pr .in_ [(.var 1), (.pr .idx [(.pr .idx [(.var 0), (.lit (.int 2))]), (.var 3)])])]) [2, 3])])]) [(.ret (.lit (.bl false)))] [])]), (.ret (.pr .not_ [(.pr .any [(.comp (.tp [(.nm 4), (.nm 5)]) (.enm (.pr .idx [(.var 0), (.lit (.int 2))])) [] (.pr .in_ [(.var 4), (.var 5)]) [2, 4, 5])])]))], none⟩
def d7 : Df := ⟨1, 1, [], [(.ife (.pr .not_ [(.call 6 [(.var 0)] [.at_ 0])]) [(.rse 3 [(.var 0)] [.at_ 0])] [])], none⟩
def d8 : Df := ⟨2, 2, [], [(.ife (.pr .not_ [(.call 5 [(.var 1), (.pr .idx [(.var 0), (.lit (.int 1))])] [.at_ 0, .at_ 1])]) [(.rse 4 [(.var 1)] [.at_ 0])] [])], none⟩
def d9 : Df := ⟨1, 3, [], [(.ret (.pr .tup [(.lit (.str z0)), (.pr .len [(.var 0)]), (.pr .tuple [(.comp (.nm 2) (.val (.var 0)) [] (.pr .tuple [(.pr .sorted [(.var 2)])]) [1, 2])])]))], none⟩
def d10 : Df := ⟨3, 3, [], [(.ret (.pr .in_ [(.var 2), (.pr .idx [(.pr .idx [(.var 0), (.lit (.int 2))]), (.var 1)])]))], none⟩
def d11 : Df := ⟨2, 5, [], [(.ret (.call 9 [(.comp (.nm 3) (.rng1 (.var 0)) [] (.comp (.nm 4) (.rng1 (.var 0)) [(.and (.pr .ne [(.var 4), (.var 3)]) (.cal (.var 1) [(.var 3), (.var 4)]))] (.var 4) [2, 4]) [2, 3])] [.at_ 0]))], none⟩
def d12 : Df := ⟨2, 4, [], [(.ife (.or (.pr .not_ [(.call 2 [(.var 1)] [.at_ 0])]) (.pr .ne [(.pr .len [(.var 1)]), (.pr .idx [(.var 0), (.lit (.int 1))])])) [(.ret (.lit (.bl false)))] []), (.ret (.and (.pr .all [(.comp (.nm 3) (.val (.var 1)) [] (.call 1 [(.var 3), (.lit (.int 0)), (.lit (.int 9999))] [.at_ 0, .at_ 1, .at_ 2]) [2, 3])]) (.pr .any [(.comp (.nm 3) (.val (.var 1)) [] (.pr .gt [(.var 3), (.lit (.int 0))]) [2, 3])])))], none⟩
def d13 : Df := ⟨2, 2, [], [(.ife (.pr .not_ [(.call 12 [(.var 0), (.var 1)] [.at_ 0, .at_ 1])]) [(.rse 5 [(.var 1)] [.at_ 0])] [])], none⟩
def d14 : Df := ⟨2, 8, [], [(.asg (.nm 2) (.pr .lst [])), (.for_ (.tp [(.nm 3), (.nm 4)]) (.enm (.pr .idx [(.var 0), (.lit (.int 2))])) [(.asg (.nm 5) (.pr .sum [(.comp (.nm 7) (.val (.var 4)) [] (.pr .idx [(.var 1), (.var 7)]) [6, 7])])), (.exp (.met .append (.var 2) [(.pr .sub [(.pr .add [(.pr .mul [(.lit (.int 2)), (.var 5)]), (.pr .idx [(.var 1), (.var 3)])]), (.pr .sum [(.var 1)])])]))]), (.ret (.var 2))], none⟩
def d15 : Df := ⟨3, 6, [], [(.ret (.pr .sum [(.comp (.tp [(.nm 4), (.nm 5)]) (.zip (.var 1) (.call 14 [(.var 0), (.var 2)] [.at_ 0, .at_ 1])) [] (.pr .mul [(.var 4), (.var 5)]) [3, 4, 5])]))], none⟩
def d16 : Df := ⟨2, 2, [], [(.exp (.call 7 [(.var 0)] [.at_ 0])), (.ret (.call 12 [(.var 0), (.var 1)] [.at_ 0, .at_ 1]))], none⟩
def d17 : Df := ⟨2, 2, [], [(.exp (.call 7 [(.var 0)] [.at_ 0])), (.exp (.call 13 [(.var 0), (.var 1)] [.at_ 0, .at_ 1])), (.ret (.call 14 [(.var 0), (.var 1)] [.at_ 0, .at_ 1]))], none⟩
def d18 : Df := ⟨2, 2, [], [(.exp (.call 7 [(.var 0)] [.at_ 0])), (.exp (.call 13 [(.var 0), (.var 1)] [.at_ 0, .at_ 1])), (.ret (.pr .max1 [(.call 14 [(.var 0), (.var 1)] [.at_ 0, .at_ 1])]))], none⟩
def d19 : Df := ⟨2, 5, [], [(.exp (.call 7 [(.var 0)] [.at_ 0])), (.exp (.call 13 [(.var 0), (.var 1)] [.at_ 0, .at_ 1])), (.ret (.pr .tuple [(.comp (.tp [(.nm 3), (.nm 4)]) (.enm (.call 14 [(.var 0), (.var 1)] [.at_ 0, .at_ 1])) [(.pr .gt [(.var 4), (.lit (.int 0))])] (.var 3) [2, 3, 4])]))], none⟩
def d20 : Df := ⟨3, 3, [], [(.exp (.call 7 [(.var 0)] [.at_ 0])), (.exp (.call 13 [(.var 0), (.var 1)] [.at_ 0, .at_ 1])), (.exp (.call 13 [(.var 0), (.var 2)] [.at_ 0, .at_ 1])), (.ret (.call 15 [(.var 0), (.var 1), (.var 2)] [.at_ 0, .at_ 1, .at_ 2]))], none⟩
def d21 : Df := ⟨2, 2, [0, 1], [], some (.call 11 [(.pr .len [(.var 1)]), (.lam 0 [0, 1])] [.at_ 0, .at_ 1])⟩
def d22 : Df := ⟨1, 6, [], [(.asg (.nm 1) (.pr .lst [])), (.for_ (.tp [(.nm 2), (.nm 3)]) (.enm (.pr .idx [(.var 0), (.lit (.int 2))])) [(.exp (.met .append (.var 1) [(.comp (.nm 5) (.rng1 (.pr .idx [(.var 0), (.lit (.int 1))])) [] (.ife (.pr .eq [(.var 5), (.var 2)]) (.lit (.int 0)) (.ife (.pr .in_ [(.var 5), (.var 3)]) (.lit (.int 1)) (.pr .neg [(.lit (.int 1))]))) [4, 5])]))]), (.ret (.var 1))], none⟩
def d23 : Df := ⟨1, 10, [], [(.asg (.nm 1) (.pr .len [(.var 0)])), (.ife (.pr .eq [(.var 1), (.lit (.int 0))]) [(.ret (.lit (.int 1)))] []), (.ife (.pr .eq [(.pr .mod [(.var 1), (.lit (.int 2))]), (.lit (.int 1))]) [(.ret (.lit (.int 0)))] []), (.asg (.nm 2) (.lit (.int 0))), (.for_ (.nm 3) (.rng2 (.lit (.int 1)) (.var 1)) [(.asg (.nm 4) (.comp (.nm 7) (.rng2 (.lit (.int 1)) (.var 1)) [(.pr .ne [(.var 7), (.var 3)])] (.var 7) [6, 7])), (.asg (.nm 5) (.call 23 [(.comp (.nm 8) (.val (.var 4)) [] (.comp (.nm 9) (.val (.var 4)) [] (.pr .idx [(.pr .idx [(.var 0), (.var 8)]), (.var 9)]) [6, 9]) [6, 8])] [.at_ 0])), (.asg (.nm 2) (.pr .add [(.var 2), (.pr .mul [(.ife (.pr .eq [(.pr .mod [(.var 3), (.lit (.int 2))]), (.lit (.int 1))]) (.var 5) (.pr .sub [(.lit (.int 0)), (.var 5)])), (.pr .idx [(.pr .idx [(.var 0), (.lit (.int 0))]), (.var 3)])])]))]), (.ret (.var 2))], none⟩
def d24 : Df := ⟨1, 5, [], [(.asg (.nm 1) (.lit (.int 0))), (.for_ (.nm 2) (.val (.var 0)) [(.asg (.tp [(.nm 3), (.nm 4)]) (.pr .tup [(.var 1), (.pr .abs [(.var 2)])])), (.whl (.pr .gt [(.var 4), (.lit (.int 0))]) [(.asg (.tp [(.nm 3), (.nm 4)]) (.pr .tup [(.var 4), (.pr .mod [(.var 3), (.var 4)])]))]), (.asg (.nm 1) (.var 3))]), (.ret (.var 1))], none⟩
def d25 : Df := ⟨1, 13, [], [(.asg (.tp [(.nm 1), (.nm 2)]) (.pr .tup [(.call 22 [(.var 0)] [.at_ 0]), (.pr .idx [(.var 0), (.lit (.int 1))])])), (.ife (.pr .eq [(.pr .mod [(.var 2), (.lit (.int 2))]), (.lit (.int 0))]) [(.ret (.lit .non))] []), (.asg (.nm 3) (.pr .lst [])), (.for_ (.nm 4) (.rng1 (.var 2)) [(.asg (.nm 5) (.comp (.nm 9) (.rng1 (.var 2)) [(.pr .ne [(.var 9), (.var 4)])] (.var 9) [8, 9])), (.asg (.nm 6) (.call 23 [(.comp (.nm 10) (.val (.var 5)) [] (.comp (.nm 11) (.val (.var 5)) [] (.pr .idx [(.pr .idx [(.var 1), (.var 10)]), (.var 11)]) [8, 11]) [8, 10])] [.at_ 0])), (.exp (.met .append (.var 3) [(.ife (.pr .eq [(.pr .mod [(.var 4), (.lit (.int 2))]), (.lit (.int 0))]) (.var 6) (.pr .sub [(.lit (.int 0)), (.var 6)]))]))]), (.asg (.nm 7) (.ife (.pr .gt [(.pr .idx [(.var 3), (.lit (.int 0))]), (.lit (.int 0))]) (.call 24 [(.var 3)] [.at_ 0]) (.pr .sub [(.lit (.int 0)), (.call 24 [(.var 3)] [.at_ 0])]))), (.ret (.comp (.nm 12) (.val (.var 3)) [] (.pr .fdiv [(.var 12), (.var 7)]) [8, 12]))], none⟩
def d26 : Df := ⟨1, 2, [], [(.asg (.nm 1) (.call 25 [(.var 0)] [.at_ 0])), (.ret (.and (.pr .isnot [(.var 1), (.lit .non)]) (.pr .gt [(.pr .min1 [(.var 1)]), (.lit (.int 0))])))], none⟩
def d27 : Df := ⟨1, 5, [], [(.asg (.nm 1) (.pr .lst [(.pr .tup [])])), (.for_ (.nm 2) (.rng1 (.var 0)) [(.asg (.nm 1) (.pr .add [(.var 1), (.comp (.nm 4) (.val (.var 1)) [] (.pr .add [(.var 4), (.pr .tup [(.var 2)])]) [3, 4])]))]), (.ret (.pr .sl10 [(.pr .sorted [(.var 1)]), (.lit (.int 1))]))], none⟩
def d28 : Df := ⟨1, 3, [], [(.ret (.comp (.nm 2) (.val (.call 27 [(.pr .idx [(.var 0), (.lit (.int 1))])] [.at_ 0])) [(.and (.pr .eq [(.pr .mod [(.pr .len [(.var 2)]), (.lit (.int 2))]), (.lit (.int 1))]) (.call 26 [(.call 21 [(.var 0), (.var 2)] [.at_ 0, .at_ 1])] [.at_ 0]))] (.var 2) [1, 2]))], none⟩
def d29 : Df := ⟨2, 4, [], [(.ife (.or (.pr .not_ [(.call 2 [(.var 1)] [.at_ 0])]) (.or (.pr .ne [(.pr .len [(.var 1)]), (.pr .idx [(.var 0), (.lit (.int 1))])]) (.pr .not_ [(.pr .all [(.comp (.nm 3) (.val (.var 1)) [] (.call 0 [(.var 3)] [.at_ 0]) [2, 3])])]))) [(.ret (.lit (.bl false)))] []), (.ife (.or (.pr .le [(.pr .idx [(.var 1), (.lit (.int 0))]), (.lit (.int 0))]) (.pr .ne [(.call 24 [(.var 1)] [.at_ 0]), (.lit (.int 1))])) [(.ret (.lit (.bl false)))] []), (.ret (.pr .not_ [(.pr .any [(.call 14 [(.var 0), (.var 1)] [.at_ 0, .at_ 1])])]))], none⟩
def d30 : Df := ⟨1, 1, [], [(.exp (.call 7 [(.var 0)] [.at_ 0])), (.ret (.call 22 [(.var 0)] [.at_ 0]))], none⟩
def d31 : Df := ⟨1, 1, [], [(.exp (.call 7 [(.var 0)] [.at_ 0])), (.ret (.pr .pow [(.call 23 [(.call 22 [(.var 0)] [.at_ 0])] [.at_ 0]), (.lit (.int 2))]))], none⟩
def d32 : Df := ⟨1, 1, [], [(.exp (.call 7 [(.var 0)] [.at_ 0])), (.ret (.pr .abs [(.call 23 [(.call 22 [(.var 0)] [.at_ 0])] [.at_ 0])]))], none⟩
def d33 : Df := ⟨1, 1, [], [(.exp (.call 7 [(.var 0)] [.at_ 0])), (.ret (.call 25 [(.var 0)] [.at_ 0]))], none⟩
def d34 : Df := ⟨2, 2, [], [(.exp (.call 7 [(.var 0)] [.at_ 0])), (.ret (.call 29 [(.var 0), (.var 1)] [.at_ 0, .at_ 1]))], none⟩
def d35 : Df := ⟨1, 1, [], [(.exp (.call 7 [(.var 0)] [.at_ 0])), (.ret (.call 26 [(.var 0)] [.at_ 0]))], none⟩
def d36 : Df := ⟨1, 1, [], [(.exp (.call 7 [(.var 0)] [.at_ 0])), (.ret (.call 28 [(.var 0)] [.at_ 0]))], none⟩
def d37 : Df := ⟨2, 5, [], [(.asg (.nm 2) (.pr .dzip [(.var 1), (.call 25 [(.call 21 [(.var 0), (.var 1)] [.at_ 0, .at_ 1])] [.at_ 0])])), (.ret (.comp (.nm 4) (.rng1 (.pr .idx [(.var 0), (.lit (.int 1))])) [] (.gt2 (.var 2) (.var 4) (.lit (.int 0))) [3, 4]))], none⟩
def d38 : Df := ⟨1, 3, [], [(.for_ (.nm 1) (.val (.call 28 [(.var 0)] [.at_ 0])) [(.asg (.nm 2) (.call 37 [(.var 0), (.var 1)] [.at_ 0, .at_ 1])), (.ife (.pr .le [(.pr .max1 [(.call 14 [(.var 0), (.var 2)] [.at_ 0, .at_ 1])]), (.lit (.int 0))]) [(.ret (.var 2))] [])]), (.ret (.lit .non))], none⟩
def d39 : Df := ⟨1, 1, [], [(.exp (.call 7 [(.var 0)] [.at_ 0])), (.ret (.call 38 [(.var 0)] [.at_ 0]))], none⟩
def d40 : Df := ⟨2, 4, [], [(.exp (.call 7 [(.var 0)] [.at_ 0])), (.ife (.or (.pr .not_ [(.call 2 [(.var 1)] [.at_ 0])]) (.pr .not_ [(.pr .all [(.comp (.nm 3) (.val (.var 1)) [] (.call 0 [(.var 3)] [.at_ 0]) [2, 3])])])) [(.ret (.lit (.bl false)))] []), (.ret (.pr .eq [(.pr .list [(.var 1)]), (.call 38 [(.var 0)] [.at_ 0])]))], none⟩
def d41 : Df := ⟨1, 4, [], [(.exp (.call 7 [(.var 0)] [.at_ 0])), (.ret (.pr .tuple [(.comp (.tp [(.nm 2), (.nm 3)]) (.enm (.call 38 [(.var 0)] [.at_ 0])) [(.pr .gt [(.var 3), (.lit (.int 0))])] (.var 2) [1, 2, 3])]))], none⟩
def d42 : Df := ⟨2, 2, [], [(.exp (.call 7 [(.var 0)] [.at_ 0])), (.exp (.call 8 [(.var 0), (.var 1)] [.at_ 0, .at_ 1])), (.ife (.or (.pr .eq [(.pr .mod [(.pr .len [(.var 1)]), (.lit (.int 2))]), (.lit (.int 0))]) (.pr .not_ [(.call 26 [(.call 21 [(.var 0), (.var 1)] [.at_ 0, .at_ 1])] [.at_ 0])])) [(.ret (.lit .non))] []), (.ret (.call 37 [(.var 0), (.var 1)] [.at_ 0, .at_ 1]))], none⟩
def d43 : Df := ⟨2, 3, [], [(.asg (.nm 2) (.pr .add [(.pr .mul [(.lit (.int 3229)), (.var 1)]), (.lit (.int 2549))])), (.ife (.pr .lt [(.var 1), (.pr .len [(.var 0)])]) [(.asg (.nm 2) (.pr .abs [(.pr .idx [(.var 0), (.var 1)])]))] []), (.ret (.pr .lst [(.pr .max2 [(.lit (.int 0)), (.pr .sub [(.var 2), (.pr .pow [(.lit (.int 10)), (.lit (.int 18))])])]), (.pr .add [(.pr .mod [(.pr .int [(.pr .add [(.pr .add [(.pr .mul [(.pr .mod [(.pr .int [(.var 2)]), (.lit (.int 2147483549))]), (.lit (.int 40692))]), (.pr .mul [(.lit (.int 3229)), (.var 1)])]), (.lit (.int 2549))])]), (.lit (.int 2147483563))]), (.lit (.int 1))])]))], none⟩
def d44 : Df := ⟨2, 3, [], [(.ife (.pr .gt [(.pr .idx [(.var 0), (.lit (.int 0))]), (.lit (.int 0))]) [(.asg (.tp [(.sb (.var 0) (.lit (.int 0))), (.nm 2)]) (.pr .divmod [(.pr .idx [(.var 0), (.lit (.int 0))]), (.var 1)])), (.ret (.var 2))] []), (.asg (.sb (.var 0) (.lit (.int 1))) (.pr .mod [(.pr .int [(.pr .add [(.pr .mul [(.pr .idx [(.var 0), (.lit (.int 1))]), (.lit (.int 40014))]), (.lit (.int 4013))])]), (.lit (.int 2147483587))])), (.ret (.pr .mod [(.pr .int [(.pr .fdiv [(.pr .mod [(.pr .int [(.pr .mul [(.pr .idx [(.var 0), (.lit (.int 1))]), (.pr .idx [(.var 0), (.lit (.int 1))])])]), (.lit (.int 2147483629))]), (.lit (.int 19))])]), (.var 1)]))], none⟩
def d45 : Df := ⟨2, 2, [], [(.ret (.pr .idx [(.var 1), (.drw (.var 0) (.pr .len [(.var 1)]))]))], none⟩
def d46 : Df := ⟨1, 5, [], [(.asg (.tp [(.nm 1), (.nm 2), (.nm 3)]) (.pr .tup [(.lit (.str z1)), (.lit (.str z2)), (.lit (.bl true))])), (.try_ [(.exp (.cal (.var 0) []))] [(3, some 4, [(.asg (.tp [(.nm 1), (.nm 2), (.nm 3)]) (.pr .tup [(.lit (.str z0)), (.pr .repr [(.exf 4 z3)]), (.and (.exi 4 [(.cls 0)]) (.pr .not_ [(.exi 4 [(.cls 1), (.cls 2)])]))]))]), (5, some 4, [(.asg (.tp [(.nm 1), (.nm 2), (.nm 3)]) (.pr .tup [(.lit (.str z4)), (.pr .repr [(.exf 4 z3)]), (.exi 4 [(.cls 0)])]))]), (4, some 4, [(.asg (.tp [(.nm 1), (.nm 2), (.nm 3)]) (.pr .tup [(.lit (.str z5)), (.pr .repr [(.exf 4 z3)]), (.exi 4 [(.ty 110)])]))])]), (.ret (.pr .lst [(.var 1), (.var 2), (.var 3)]))], none⟩
def d47 : Df := ⟨3, 4, [], [(.for_ (.nm 3) (.val (.var 0)) [(.ife (.pr .ne [(.call 46 [(.var 3)] [.at_ 0]), (.pr .lst [(.var 1), (.var 2), (.lit (.bl true))])]) [(.ret (.lit (.bl false)))] [])]), (.ret (.lit (.bl true)))], none⟩
def d48 : Df := ⟨1, 2, [0], [(.asg (.nm 1) (.pr .lst [(.lam 1 [0])])), (.exp (.met .append (.var 1) [(.lam 2 [0])])), (.exp (.met .append (.var 1) [(.lam 3 [0])])), (.exp (.met .append (.var 1) [(.lam 4 [0])])), (.exp (.met .append (.var 1) [(.lam 5 [0])])), (.exp (.met .append (.var 1) [(.lam 6 [0])])), (.exp (.met .append (.var 1) [(.lam 7 [0])])), (.exp (.met .append (.var 1) [(.lam 8 [0])])), (.exp (.met .append (.var 1) [(.lam 9 [0])])), (.exp (.met .append (.var 1) [(.lam 10 [0])])), (.exp (.met .append (.var 1) [(.lam 11 [0])]))], some (.var 1)⟩
def d49 : Df := ⟨2, 3, [0, 1], [(.asg (.nm 2) (.pr .lst [(.lam 12 [0, 1])])), (.exp (.met .append (.var 2) [(.lam 13 [0, 1])])), (.exp (.met .append (.var 2) [(.lam 14 [0, 1])])), (.exp (.met .append (.var 2) [(.lam 15 [0, 1])]))], some (.var 2)⟩
def d50 : Df := ⟨1, 11, [5, 6, 7], [(.asg (.nm 5) (.pr .tup [(.lit (.str z0)), (.lit (.int 3)), (.pr .tup [(.pr .tup [(.lit (.int 1))]), (.pr .tup [(.lit (.int 2))]), (.pr .tup [(.lit (.int 0))])])])), (.asg (.nm 1) (.pr .lst [(.lit .non), (.lit (.int 0)), (.pr .tup []), (.pr .list [(.var 5)]), (.pr .sl01 [(.var 5), (.lit (.int 2))]), (.pr .add [(.pr .tup [(.lit (.str z6))]), (.pr .sl10 [(.var 5), (.lit (.int 1))])]), (.pr .tup [(.lit (.str z0)), (.lit (.int 3)), (.pr .tup [(.pr .tup [(.lit (.int 1))]), (.pr .tup [(.lit (.int 2))])])]), (.pr .tup [(.lit (.str z0)), (.lit (.int 3)), (.pr .tup [(.pr .tup [(.lit (.int 1)), (.lit (.int 2))]), (.pr .tup [(.lit (.int 2))]), (.pr .tup [(.lit (.int 0))])])]), (.pr .tup [(.lit (.str z0)), (.lit (.int 0)), (.pr .tup [])])])), (.asg (.nm 1) (.pr .add [(.var 1), (.pr .lst [(.pr .tup [(.lit (.str z0)), (.lit (.int 8)), (.pr .tuple [(.comp (.nm 9) (.rng1 (.lit (.int 8))) [] (.pr .tR2 [(.pr .add [(.var 9), (.lit (.int 1))]), (.lit (.int 8))]) [8, 9])])]), (.pr .tup [(.lit (.str z0)), (.lit (.int 2)), (.pr .tup [(.pr .tup [(.lit (.int 1))]), (.pr .tup [(.lit (.int 1))])])]), (.pr .tup [(.lit (.str z0)), (.lit (.int 2)), (.pr .tup [(.pr .lst [(.lit (.int 1))]), (.pr .tup [])])]), (.pr .tup [(.lit (.str z0)), (.lit (.bl true)), (.pr .tup [(.pr .tup [])])]), (.pr .dic [])])])), (.for_ (.nm 6) (.val (.pr .add [(.var 1), (.pr .lst [(.pr .tup [(.lit (.str z0)), (.lit (.int 3)), (.pr .tup [(.pr .tup [(.lit (.int 1))]), (.pr .tup [(.lit (.int 2))]), (.pr .tup [])])]), (.pr .tup [(.lit (.str z0)), (.lit (.int 2)), (.pr .tup [(.pr .tup [(.lit (.bl true))]), (.pr .tup [])])])])])) [(.asg (.nm 2) (.pr .add [(.call 48 [(.var 6)] [.at_ 0]), (.call 49 [(.var 6), (.lit .non)] [.at_ 0, .at_ 1])])), (.exp (.met .append (.var 2) [(.lam 16 [6])])), (.ife (.pr .not_ [(.call 47 [(.var 2), (.lit (.str z0)), (.pr .repr [(.var 6)])] [.at_ 0, .at_ 1, .at_ 2])]) [(.ret (.lit (.bl false)))] [])]), (.for_ (.nm 6) (.val (.pr .lst [(.lit .non), (.lit (.int 0)), (.pr .lst []), (.pr .lst [(.lit (.int 1)), (.lit (.int 1))]), (.pr .lst [(.lit (.int 1)), (.lit (.int 1)), (.lit (.int 1)), (.lit (.int 1))]), (.pr .lst [(.lit (.int 0)), (.lit (.int 0)), (.lit (.int 0))]), (.pr .lst [(.lit (.int 1)), (.lit (.int 1)), (.lit (.int 10000))]), (.pr .lst [(.lit (.int 1)), (.pr .neg [(.lit (.int 1))]), (.lit (.int 1))]), (.pr .lst [(.lit (.int 1)), (.lit (.bl true)), (.lit (.int 1))]), (.lit (.str z7)), (.pr .dic []), (.pr .lst [(.lit (.int 1)), (.lit .non), (.lit (.int 1))]), (.pr .tup [(.lit (.int 0)), (.lit (.int 0)), (.lit (.int 0))])])) [(.asg (.nm 2) (.call 49 [(.var 5), (.var 6)] [.at_ 0, .at_ 1])), (.exp (.met .append (.var 2) [(.lam 17 [5, 6])])), (.ife (.pr .not_ [(.call 47 [(.var 2), (.lit (.str z4)), (.pr .repr [(.var 6)])] [.at_ 0, .at_ 1, .at_ 2])]) [(.ret (.lit (.bl false)))] [])]), (.for_ (.nm 6) (.val (.pr .lst [(.lit .non), (.lit (.int 0)), (.pr .lst [(.lit (.int 0))]), (.pr .tup [(.lit (.int 3))]), (.pr .tup [(.lit (.int 1)), (.lit (.int 0))]), (.pr .tup [(.lit (.int 0)), (.lit (.int 0))]), (.pr .tup [(.lit (.bl true))]), (.lit (.str z8)), (.pr .dic []), (.pr .tup [(.pr .neg [(.lit (.int 1))])])])) [(.ife (.pr .not_ [(.call 47 [(.pr .lst [(.lam 18 [5, 6])]), (.lit (.str z5)), (.pr .repr [(.var 6)])] [.at_ 0, .at_ 1, .at_ 2])]) [(.ret (.lit (.bl false)))] [])]), (.asg (.nm 7) (.pr .tup [(.lit (.str z0)), (.lit (.int 7)), (.pr .tuple [(.comp (.nm 9) (.rng1 (.lit (.int 7))) [] (.pr .tR2 [(.pr .add [(.var 9), (.lit (.int 1))]), (.lit (.int 7))]) [8, 9])])])), (.asg (.nm 3) (.call 45 [(.var 0), (.pr .lst [(.lit (.int 1)), (.lit (.int 9999))])] [.at_ 0, .at_ 1])), (.asg (.nm 2) (.pr .add [(.pr .add [(.call 48 [(.var 7)] [.at_ 0]), (.pr .sl01 [(.call 49 [(.var 7), (.pr .mul [(.pr .tup [(.var 3)]), (.lit (.int 7))])] [.at_ 0, .at_ 1]), (.lit (.int 3))])]), (.call 48 [(.pr .tup [(.lit (.str z0)), (.lit (.int 1)), (.pr .tup [(.pr .tup [])])])] [.at_ 0])])), (.exp (.met .append (.var 2) [(.lam 19 [7])])), (.exp (.met .append (.var 2) [(.lam 20 [7])])), (.exp (.met .append (.var 2) [(.lam 21 [7])])), (.ife (.pr .not_ [(.call 47 [(.var 2), (.lit (.str z1)), (.lit (.str z2))] [.at_ 0, .at_ 1, .at_ 2])]) [(.ret (.lit (.bl false)))] []), (.asg (.nm 6) (.call 45 [(.var 0), (.pr .lst [(.lit .non), (.lit (.int 0)), (.lit (.bl true)), (.lit (.str z9)), (.pr .lst [(.lit (.int 9))]), (.pr .tup [(.lit (.int 9))]), (.pr .dic [])])] [.at_ 0, .at_ 1])), (.ife (.pr .ne [(.pr .repr [(.pr .lst [(.call 16 [(.var 5), (.var 6)] [.at_ 0, .at_ 1]), (.call 40 [(.var 5), (.var 6)] [.at_ 0, .at_ 1]), (.call 34 [(.var 5), (.var 6)] [.at_ 0, .at_ 1])])]), (.pr .repr [(.pr .mul [(.pr .lst [(.lit (.bl false))]), (.lit (.int 3))])])]) [(.ret (.lit (.bl false)))] []), (.asg (.nm 4) (.pr .lst [(.mk 5 [(.var 6)] [.at_ 0]), (.mk 5 [(.var 6)] [.at_ 0])]))], some (.pr .eq [(.pr .repr [(.comp (.nm 10) (.val (.var 4)) [] (.pr (.fld z3) [(.var 10)]) [8, 10])]), (.pr .repr [(.pr .lst [(.var 6), (.var 6)])])])⟩
def d51 : Df := ⟨1, 1, [], [(.ret (.call 50 [(.pot (.var 0) (.lit (.int 0)))] [.at_ 0]))], none⟩
def l0 : Lm := ⟨2, 4, (.call 10 [(.var 2), (.pr .idx [(.var 3), (.var 0)]), (.pr .idx [(.var 3), (.var 1)])] [.at_ 0, .at_ 1, .at_ 2])⟩
def l1 : Lm := ⟨0, 1, (.call 39 [(.var 0)] [.at_ 0])⟩
def l2 : Lm := ⟨0, 1, (.call 40 [(.lit .non), (.var 0)] [.at_ 1, .at_ 0])⟩
def l3 : Lm := ⟨0, 1, (.call 41 [(.var 0)] [.at_ 0])⟩
def l4 : Lm := ⟨0, 1, (.call 30 [(.var 0)] [.at_ 0])⟩
def l5 : Lm := ⟨0, 1, (.call 31 [(.var 0)] [.at_ 0])⟩
def l6 : Lm := ⟨0, 1, (.call 32 [(.var 0)] [.at_ 0])⟩
def l7 : Lm := ⟨0, 1, (.call 33 [(.var 0)] [.at_ 0])⟩
def l8 : Lm := ⟨0, 1, (.call 34 [(.lit .non), (.var 0)] [.at_ 1, .at_ 0])⟩
def l9 : Lm := ⟨0, 1, (.call 35 [(.var 0)] [.at_ 0])⟩
def l10 : Lm := ⟨0, 1, (.call 36 [(.var 0)] [.at_ 0])⟩
def l11 : Lm := ⟨0, 1, (.call 16 [(.var 0), (.lit .non)] [.at_ 0, .at_ 1])⟩
def l12 : Lm := ⟨0, 2, (.call 17 [(.var 0), (.var 1)] [.at_ 0, .at_ 1])⟩
def l13 : Lm := ⟨0, 2, (.call 18 [(.var 1), (.var 0)] [.at_ 1, .at_ 0])⟩
def l14 : Lm := ⟨0, 2, (.call 19 [(.var 0), (.var 1)] [.at_ 0, .at_ 1])⟩
def l15 : Lm := ⟨0, 2, (.call 20 [(.lit .non), (.var 1), (.var 0)] [.at_ 2, .at_ 1, .at_ 0])⟩
def l16 : Lm := ⟨0, 1, (.call 42 [(.lit .non), (.var 0)] [.at_ 1, .at_ 0])⟩
def l17 : Lm := ⟨0, 2, (.call 20 [(.var 0), (.pr .lst [(.lit (.int 1)), (.lit (.int 0)), (.lit (.int 0))]), (.var 1)] [.at_ 0, .at_ 1, .at_ 2])⟩
def l18 : Lm := ⟨0, 2, (.call 42 [(.var 0), (.var 1)] [.at_ 0, .at_ 1])⟩
def l19 : Lm := ⟨0, 1, (.call 20 [(.var 0), (.pr .mul [(.pr .lst [(.lit (.int 9999))]), (.lit (.int 7))]), (.pr .add [(.pr .mul [(.pr .tup [(.lit (.int 0))]), (.lit (.int 6))]), (.pr .tup [(.lit (.int 1))])])] [.at_ 0, .at_ 1, .at_ 2])⟩
def l20 : Lm := ⟨0, 1, (.call 42 [(.var 0), (.pr .tup [])] [.at_ 0, .at_ 1])⟩
def l21 : Lm := ⟨0, 1, (.call 42 [(.var 0), (.pr .tR1 [(.lit (.int 7))])] [.at_ 0, .at_ 1])⟩
def defs : T Df := (.nd (some d0) (.nd (some d1) (.nd (some d3) (.nd (some d7) (.nd (some d15) (.nd (some d31) .lf .lf) (.nd (some d47) .lf .lf)) (.nd (some d23) (.nd (some d39) .lf .lf) .lf)) (.nd (some d11) (.nd (some d19) (.nd (some d35) .lf .lf) (.nd (some d51) .lf .lf)) (.nd (some d27) (.nd (some d43) .lf .lf) .lf))) (.nd (some d5) (.nd (some d9) (.nd (some d17) (.nd (some d33) .lf .lf) (.nd (some d49) .lf .lf)) (.nd (some d25) (.nd (some d41) .lf .lf) .lf)) (.nd (some d13) (.nd (some d21) (.nd (some d37) .lf .lf) .lf) (.nd (some d29) (.nd (some d45) .lf .lf) .lf)))) (.nd (some d2) (.nd (some d4) (.nd (some d8) (.nd (some d16) (.nd (some d32) .lf .lf) (.nd (some d48) .lf .lf)) (.nd (some d24) (.nd (some d40) .lf .lf) .lf)) (.nd (some d12) (.nd (some d20) (.nd (some d36) .lf .lf) .lf) (.nd (some d28) (.nd (some d44) .lf .lf) .lf))) (.nd (some d6) (.nd (some d10) (.nd (some d18) (.nd (some d34) .lf .lf) (.nd (some d50) .lf .lf)) (.nd (some d26) (.nd (some d42) .lf .lf) .lf)) (.nd (some d14) (.nd (some d22) (.nd (some d38) .lf .lf) .lf) (.nd (some d30) (.nd (some d46) .lf .lf) .lf)))))
def lams : T Lm := (.nd (some l0) (.nd (some l1) (.nd (some l3) (.nd (some l7) (.nd (some l15) .lf .lf) .lf) (.nd (some l11) (.nd (some l19) .lf .lf) .lf)) (.nd (some l5) (.nd (some l9) (.nd (some l17) .lf .lf) .lf) (.nd (some l13) (.nd (some l21) .lf .lf) .lf))) (.nd (some l2) (.nd (some l4) (.nd (some l8) (.nd (some l16) .lf .lf) .lf) (.nd (some l12) (.nd (some l20) .lf .lf) .lf)) (.nd (some l6) (.nd (some l10) (.nd (some l18) .lf .lf) .lf) (.nd (some l14) .lf .lf))))
def flds : T (List Str) := (.nd (some [z3]) (.nd (some []) (.nd (some [z3]) .lf .lf) (.nd (some [z3]) .lf .lf)) (.nd (some []) (.nd (some [z3]) .lf .lf) .lf))
def dfs : List Df := [d0, d1, d2, d3, d4, d5, d6, d7, d8, d9, d10, d11, d12, d13, d14, d15, d16, d17, d18, d19, d20, d21, d22, d23, d24, d25, d26, d27, d28, d29, d30, d31, d32, d33, d34, d35, d36, d37, d38, d39, d40, d41, d42, d43, d44, d45, d46, d47, d48, d49, d50, d51]
def lms : List Lm := [l0, l1, l2, l3, l4, l5, l6, l7, l8, l9, l10, l11, l12, l13, l14, l15, l16, l17, l18, l19, l20, l21]
def bel : List (Nat × Nat × Bool) := [(0, (0, true)), (0, (1, false)), (0, (2, false)), (0, (3, false)), (0, (4, false)), (0, (5, false)), (0, (110, true)), (0, (111, false)), (0, (112, false)), (0, (113, false)), (1, (0, false)), (1, (1, true)), (1, (2, false)), (1, (3, false)), (1, (4, false)), (1, (5, false)), (1, (110, false)), (1, (111, false)), (1, (112, true)), (1, (113, false)), (2, (0, false)), (2, (1, false)), (2, (2, true)), (2, (3, false)), (2, (4, false)), (2, (5, false)), (2, (110, false)), (2, (111, false)), (2, (112, false)), (2, (113, true)), (3, (0, true)), (3, (1, false)), (3, (2, false)), (3, (3, true)), (3, (4, false)), (3, (5, false)), (3, (110, true)), (3, (111, false)), (3, (112, false)), (3, (113, false)), (4, (0, true)), (4, (1, false)), (4, (2, false)), (4, (3, false)), (4, (4, true)), (4, (5, false)), (4, (110, true)), (4, (111, false)), (4, (112, false)), (4, (113, false)), (5, (0, true)), (5, (1, false)), (5, (2, false)), (5, (3, false)), (5, (4, false)), (5, (5, true)), (5, (110, true)), (5, (111, false)), (5, (112, false)), (5, (113, false))]
def G : Pg := ⟨defs, lams, belF bel, flds⟩
theorem pg_d : mapO (dfT (tx p).gl (shpT (tx p))) ((tx p).defs.zip (lamsT (tx p))) = some dfs := by kernel_rfl
theorem pg_l : mapO (lmT (tx p).gl (shpT (tx p))) (lamIs (tx p)) = some lms := by kernel_rfl
theorem pg_b : bel = belT (tx p) := by kernel_rfl
theorem pg_f : flds = T.ofL (fldsT (tx p)) := by kernel_rfl
theorem pg : PgT p G := ⟨dfs, lms, pg_d, pg_l, by kernel_rfl, by kernel_rfl, by rw [← pg_b]; rfl, pg_f⟩
theorem st : statB (tx p) = true := by kernel_rfl
theorem fl : fldsB G (tx p) = true := by kernel_rfl
theorem lb : lawB (tx p) 44 43 = true := by kernel_rfl
theorem hd : G.defs.get 44 = some (drwDf 40014 4013 2147483587 2147483629 19) := by kernel_rfl
theorem hdP : G.defs.get 43 = some d43 := by kernel_rfl
end Kw
end
section
set_option Elab.async false
set_option linter.all false
set_option maxRecDepth 1000000
set_option maxHeartbeats 0
namespace Kw
open PySem Ev
def T1 : D := .tup [.str z0, .int 1, .tup [.tup []]]
def T3 : D := .tup [.str z0, .int 3, .tup [.tup [.int 1, .int 2], .tup [.int 2], .tup []]]
def T5 : D := .tup [.str z0, .int 5, .tup [.tup [.int 1, .int 2, .int 3, .int 4], .tup [.int 2, .int 3, .int 4], .tup [.int 3, .int 4], .tup [.int 4], .tup []]]
def T7 : D := .tup [.str z0, .int 7, .tup [.tup [.int 1, .int 2, .int 3, .int 4, .int 5, .int 6], .tup [.int 2, .int 3, .int 4, .int 5, .int 6], .tup [.int 3, .int 4, .int 5, .int 6], .tup [.int 4, .int 5, .int 6], .tup [.int 5, .int 6], .tup [.int 6], .tup []]]
def S7 : D := .tup [.int 0, .int 1, .int 2, .int 3, .int 4, .int 5, .int 6]
theorem td0 : Told p G 3 (fun _ _ _ => .fail) := told_no (Nat.le_refl 3)
noncomputable def cf0 : CallF := callM G 100 (fun _ _ _ => .fail) 20
theorem r0_0 : entB (cf0 (.df 7) [T7] S0) (.val .non) = true := by kernel_rfl
theorem r0_1 : entB (cf0 (.df 7) [(.tup [(.str ⟨#[108, 101, 97, 103, 117, 101]⟩), (.int 3), (.tup [(.tup [(.int 1)]), (.tup [(.int 2)]), (.tup [(.int 0)])])])] S0) (.val .non) = true := by kernel_rfl
theorem r0_2 : entB (cf0 (.df 7) [(.tup [(.str ⟨#[108, 101, 97, 103, 117, 101]⟩), (.int 1), (.tup [(.tup [])])])] S0) (.val .non) = true := by kernel_rfl
theorem r0_3 : entB (cf0 (.df 7) [.non] S0) (.exc 3 [(z3, .non)]) = true := by kernel_rfl
theorem r0_4 : entB (cf0 (.df 7) [(.int 0)] S0) (.exc 3 [(z3, (.int 0))]) = true := by kernel_rfl
theorem r0_5 : entB (cf0 (.df 7) [(.tup [])] S0) (.exc 3 [(z3, (.tup []))]) = true := by kernel_rfl
theorem r0_6 : entB (cf0 (.df 7) [(.tup [(.str ⟨#[108, 101, 97, 103, 117, 101]⟩), (.int 3)])] S0) (.exc 3 [(z3, (.tup [(.str ⟨#[108, 101, 97, 103, 117, 101]⟩), (.int 3)]))]) = true := by kernel_rfl
theorem r0_7 : entB (cf0 (.df 7) [(.tup [(.str ⟨#[76, 101, 97, 103, 117, 101]⟩), (.int 3), (.tup [(.tup [(.int 1)]), (.tup [(.int 2)]), (.tup [(.int 0)])])])] S0) (.exc 3 [(z3, (.tup [(.str ⟨#[76, 101, 97, 103, 117, 101]⟩), (.int 3), (.tup [(.tup [(.int 1)]), (.tup [(.int 2)]), (.tup [(.int 0)])])]))]) = true := by kernel_rfl
theorem r0_8 : entB (cf0 (.df 7) [(.tup [(.str ⟨#[108, 101, 97, 103, 117, 101]⟩), (.int 3), (.tup [(.tup [(.int 1)]), (.tup [(.int 2)])])])] S0) (.exc 3 [(z3, (.tup [(.str ⟨#[108, 101, 97, 103, 117, 101]⟩), (.int 3), (.tup [(.tup [(.int 1)]), (.tup [(.int 2)])])]))]) = true := by kernel_rfl
theorem r0_9 : entB (cf0 (.df 7) [(.tup [(.str ⟨#[108, 101, 97, 103, 117, 101]⟩), (.int 3), (.tup [(.tup [(.int 1), (.int 2)]), (.tup [(.int 2)]), (.tup [(.int 0)])])])] S0) (.exc 3 [(z3, (.tup [(.str ⟨#[108, 101, 97, 103, 117, 101]⟩), (.int 3), (.tup [(.tup [(.int 1), (.int 2)]), (.tup [(.int 2)]), (.tup [(.int 0)])])]))]) = true := by kernel_rfl
theorem r0_10 : entB (cf0 (.df 7) [(.tup [(.str ⟨#[108, 101, 97, 103, 117, 101]⟩), (.int 0), (.tup [])])] S0) (.exc 3 [(z3, (.tup [(.str ⟨#[108, 101, 97, 103, 117, 101]⟩), (.int 0), (.tup [])]))]) = true := by kernel_rfl
theorem r0_11 : entB (cf0 (.df 7) [(.tup [(.str ⟨#[108, 101, 97, 103, 117, 101]⟩), (.int 8), (.tup [(.tup [(.int 1), (.int 2), (.int 3), (.int 4), (.int 5), (.int 6), (.int 7)]), (.tup [(.int 2), (.int 3), (.int 4), (.int 5), (.int 6), (.int 7)]), (.tup [(.int 3), (.int 4), (.int 5), (.int 6), (.int 7)]), (.tup [(.int 4), (.int 5), (.int 6), (.int 7)]), (.tup [(.int 5), (.int 6), (.int 7)]), (.tup [(.int 6), (.int 7)]), (.tup [(.int 7)]), (.tup [])])])] S0) (.exc 3 [(z3, (.tup [(.str ⟨#[108, 101, 97, 103, 117, 101]⟩), (.int 8), (.tup [(.tup [(.int 1), (.int 2), (.int 3), (.int 4), (.int 5), (.int 6), (.int 7)]), (.tup [(.int 2), (.int 3), (.int 4), (.int 5), (.int 6), (.int 7)]), (.tup [(.int 3), (.int 4), (.int 5), (.int 6), (.int 7)]), (.tup [(.int 4), (.int 5), (.int 6), (.int 7)]), (.tup [(.int 5), (.int 6), (.int 7)]), (.tup [(.int 6), (.int 7)]), (.tup [(.int 7)]), (.tup [])])]))]) = true := by kernel_rfl
theorem r0_12 : entB (cf0 (.df 7) [(.tup [(.str ⟨#[108, 101, 97, 103, 117, 101]⟩), (.int 2), (.tup [(.tup [(.int 1)]), (.tup [(.int 1)])])])] S0) (.exc 3 [(z3, (.tup [(.str ⟨#[108, 101, 97, 103, 117, 101]⟩), (.int 2), (.tup [(.tup [(.int 1)]), (.tup [(.int 1)])])]))]) = true := by kernel_rfl
theorem r0_13 : entB (cf0 (.df 7) [(.tup [(.str ⟨#[108, 101, 97, 103, 117, 101]⟩), (.bl true), (.tup [(.tup [])])])] S0) (.exc 3 [(z3, (.tup [(.str ⟨#[108, 101, 97, 103, 117, 101]⟩), (.bl true), (.tup [(.tup [])])]))]) = true := by kernel_rfl
theorem r0_14 : entB (cf0 (.df 7) [(.tup [(.str ⟨#[108, 101, 97, 103, 117, 101]⟩), (.int 3), (.tup [(.tup [(.int 1)]), (.tup [(.int 2)]), (.tup [])])])] S0) (.exc 3 [(z3, (.tup [(.str ⟨#[108, 101, 97, 103, 117, 101]⟩), (.int 3), (.tup [(.tup [(.int 1)]), (.tup [(.int 2)]), (.tup [])])]))]) = true := by kernel_rfl
theorem r0_15 : entB (cf0 (.df 7) [(.tup [(.str ⟨#[108, 101, 97, 103, 117, 101]⟩), (.int 2), (.tup [(.tup [(.bl true)]), (.tup [])])])] S0) (.exc 3 [(z3, (.tup [(.str ⟨#[108, 101, 97, 103, 117, 101]⟩), (.int 2), (.tup [(.tup [(.bl true)]), (.tup [])])]))]) = true := by kernel_rfl
theorem r0_16 : entB (cf0 (.df 13) [(.tup [(.str ⟨#[108, 101, 97, 103, 117, 101]⟩), (.int 3), (.tup [(.tup [(.int 1)]), (.tup [(.int 2)]), (.tup [(.int 0)])])]), .non] S0) (.exc 5 [(z3, .non)]) = true := by kernel_rfl
theorem r0_17 : entB (cf0 (.df 13) [(.tup [(.str ⟨#[108, 101, 97, 103, 117, 101]⟩), (.int 3), (.tup [(.tup [(.int 1)]), (.tup [(.int 2)]), (.tup [(.int 0)])])]), (.int 0)] S0) (.exc 5 [(z3, (.int 0))]) = true := by kernel_rfl
theorem r0_18 : entB (cf0 (.df 13) [(.tup [(.str ⟨#[108, 101, 97, 103, 117, 101]⟩), (.int 3), (.tup [(.tup [(.int 1)]), (.tup [(.int 2)]), (.tup [(.int 0)])])]), (.str ⟨#[49, 49, 49]⟩)] S0) (.exc 5 [(z3, (.str ⟨#[49, 49, 49]⟩))]) = true := by kernel_rfl
theorem r0_19 : entB (cf0 (.df 13) [(.tup [(.str ⟨#[108, 101, 97, 103, 117, 101]⟩), (.int 3), (.tup [(.tup [(.int 1)]), (.tup [(.int 2)]), (.tup [(.int 0)])])]), (.tup [(.int 0), (.int 0), (.int 0)])] S0) (.exc 5 [(z3, (.tup [(.int 0), (.int 0), (.int 0)]))]) = true := by kernel_rfl
theorem r0_20 : entB (cf0 (.df 13) [T7, (.tup [(.int 1), (.int 1), (.int 1), (.int 1), (.int 1), (.int 1), (.int 1)])] S0) (.val .non) = true := by kernel_rfl
theorem r0_21 : entB (cf0 (.df 13) [T7, (.tup [(.int 9999), (.int 9999), (.int 9999), (.int 9999), (.int 9999), (.int 9999), (.int 9999)])] S0) (.val .non) = true := by kernel_rfl
theorem r0_22 : entB (cf0 (.df 26) [T1] S0) (.val (.bl true)) = true := by kernel_rfl
theorem r0_23 : entB (cf0 (.df 26) [T3] S0) (.val (.bl false)) = true := by kernel_rfl
theorem r0_24 : entB (cf0 (.df 26) [T5] S0) (.val (.bl false)) = true := by kernel_rfl
theorem r0_25 : entB (cf0 (.df 26) [T7] S0) (.val (.bl false)) = true := by kernel_rfl
def R0 : List (Nat × Row) := [(7, ([T7], (.val .non))), (7, ([(.tup [(.str ⟨#[108, 101, 97, 103, 117, 101]⟩), (.int 3), (.tup [(.tup [(.int 1)]), (.tup [(.int 2)]), (.tup [(.int 0)])])])], (.val .non))), (7, ([(.tup [(.str ⟨#[108, 101, 97, 103, 117, 101]⟩), (.int 1), (.tup [(.tup [])])])], (.val .non))), (7, ([.non], (.exc 3 [(z3, .non)]))), (7, ([(.int 0)], (.exc 3 [(z3, (.int 0))]))), (7, ([(.tup [])], (.exc 3 [(z3, (.tup []))]))), (7, ([(.tup [(.str ⟨#[108, 101, 97, 103, 117, 101]⟩), (.int 3)])], (.exc 3 [(z3, (.tup [(.str ⟨#[108, 101, 97, 103, 117, 101]⟩), (.int 3)]))]))), (7, ([(.tup [(.str ⟨#[76, 101, 97, 103, 117, 101]⟩), (.int 3), (.tup [(.tup [(.int 1)]), (.tup [(.int 2)]), (.tup [(.int 0)])])])], (.exc 3 [(z3, (.tup [(.str ⟨#[76, 101, 97, 103, 117, 101]⟩), (.int 3), (.tup [(.tup [(.int 1)]), (.tup [(.int 2)]), (.tup [(.int 0)])])]))]))), (7, ([(.tup [(.str ⟨#[108, 101, 97, 103, 117, 101]⟩), (.int 3), (.tup [(.tup [(.int 1)]), (.tup [(.int 2)])])])], (.exc 3 [(z3, (.tup [(.str ⟨#[108, 101, 97, 103, 117, 101]⟩), (.int 3), (.tup [(.tup [(.int 1)]), (.tup [(.int 2)])])]))]))), (7, ([(.tup [(.str ⟨#[108, 101, 97, 103, 117, 101]⟩), (.int 3), (.tup [(.tup [(.int 1), (.int 2)]), (.tup [(.int 2)]), (.tup [(.int 0)])])])], (.exc 3 [(z3, (.tup [(.str ⟨#[108, 101, 97, 103, 117, 101]⟩), (.int 3), (.tup [(.tup [(.int 1), (.int 2)]), (.tup [(.int 2)]), (.tup [(.int 0)])])]))]))), (7, ([(.tup [(.str ⟨#[108, 101, 97, 103, 117, 101]⟩), (.int 0), (.tup [])])], (.exc 3 [(z3, (.tup [(.str ⟨#[108, 101, 97, 103, 117, 101]⟩), (.int 0), (.tup [])]))]))), (7, ([(.tup [(.str ⟨#[108, 101, 97, 103, 117, 101]⟩), (.int 8), (.tup [(.tup [(.int 1), (.int 2), (.int 3), (.int 4), (.int 5), (.int 6), (.int 7)]), (.tup [(.int 2), (.int 3), (.int 4), (.int 5), (.int 6), (.int 7)]), (.tup [(.int 3), (.int 4), (.int 5), (.int 6), (.int 7)]), (.tup [(.int 4), (.int 5), (.int 6), (.int 7)]), (.tup [(.int 5), (.int 6), (.int 7)]), (.tup [(.int 6), (.int 7)]), (.tup [(.int 7)]), (.tup [])])])], (.exc 3 [(z3, (.tup [(.str ⟨#[108, 101, 97, 103, 117, 101]⟩), (.int 8), (.tup [(.tup [(.int 1), (.int 2), (.int 3), (.int 4), (.int 5), (.int 6), (.int 7)]), (.tup [(.int 2), (.int 3), (.int 4), (.int 5), (.int 6), (.int 7)]), (.tup [(.int 3), (.int 4), (.int 5), (.int 6), (.int 7)]), (.tup [(.int 4), (.int 5), (.int 6), (.int 7)]), (.tup [(.int 5), (.int 6), (.int 7)]), (.tup [(.int 6), (.int 7)]), (.tup [(.int 7)]), (.tup [])])]))]))), (7, ([(.tup [(.str ⟨#[108, 101, 97, 103, 117, 101]⟩), (.int 2), (.tup [(.tup [(.int 1)]), (.tup [(.int 1)])])])], (.exc 3 [(z3, (.tup [(.str ⟨#[108, 101, 97, 103, 117, 101]⟩), (.int 2), (.tup [(.tup [(.int 1)]), (.tup [(.int 1)])])]))]))), (7, ([(.tup [(.str ⟨#[108, 101, 97, 103, 117, 101]⟩), (.bl true), (.tup [(.tup [])])])], (.exc 3 [(z3, (.tup [(.str ⟨#[108, 101, 97, 103, 117, 101]⟩), (.bl true), (.tup [(.tup [])])]))]))), (7, ([(.tup [(.str ⟨#[108, 101, 97, 103, 117, 101]⟩), (.int 3), (.tup [(.tup [(.int 1)]), (.tup [(.int 2)]), (.tup [])])])], (.exc 3 [(z3, (.tup [(.str ⟨#[108, 101, 97, 103, 117, 101]⟩), (.int 3), (.tup [(.tup [(.int 1)]), (.tup [(.int 2)]), (.tup [])])]))]))), (7, ([(.tup [(.str ⟨#[108, 101, 97, 103, 117, 101]⟩), (.int 2), (.tup [(.tup [(.bl true)]), (.tup [])])])], (.exc 3 [(z3, (.tup [(.str ⟨#[108, 101, 97, 103, 117, 101]⟩), (.int 2), (.tup [(.tup [(.bl true)]), (.tup [])])]))]))), (13, ([(.tup [(.str ⟨#[108, 101, 97, 103, 117, 101]⟩), (.int 3), (.tup [(.tup [(.int 1)]), (.tup [(.int 2)]), (.tup [(.int 0)])])]), .non], (.exc 5 [(z3, .non)]))), (13, ([(.tup [(.str ⟨#[108, 101, 97, 103, 117, 101]⟩), (.int 3), (.tup [(.tup [(.int 1)]), (.tup [(.int 2)]), (.tup [(.int 0)])])]), (.int 0)], (.exc 5 [(z3, (.int 0))]))), (13, ([(.tup [(.str ⟨#[108, 101, 97, 103, 117, 101]⟩), (.int 3), (.tup [(.tup [(.int 1)]), (.tup [(.int 2)]), (.tup [(.int 0)])])]), (.str ⟨#[49, 49, 49]⟩)], (.exc 5 [(z3, (.str ⟨#[49, 49, 49]⟩))]))), (13, ([(.tup [(.str ⟨#[108, 101, 97, 103, 117, 101]⟩), (.int 3), (.tup [(.tup [(.int 1)]), (.tup [(.int 2)]), (.tup [(.int 0)])])]), (.tup [(.int 0), (.int 0), (.int 0)])], (.exc 5 [(z3, (.tup [(.int 0), (.int 0), (.int 0)]))]))), (13, ([T7, (.tup [(.int 1), (.int 1), (.int 1), (.int 1), (.int 1), (.int 1), (.int 1)])], (.val .non))), (13, ([T7, (.tup [(.int 9999), (.int 9999), (.int 9999), (.int 9999), (.int 9999), (.int 9999), (.int 9999)])], (.val .non))), (26, ([T1], (.val (.bl true)))), (26, ([T3], (.val (.bl false)))), (26, ([T5], (.val (.bl false)))), (26, ([T7], (.val (.bl false))))]
def t0 : T (List Row) := (.nd (some []) (.nd (some []) (.nd (some []) (.nd (some [([T7], (.val .non)), ([(.tup [(.str ⟨#[108, 101, 97, 103, 117, 101]⟩), (.int 3), (.tup [(.tup [(.int 1)]), (.tup [(.int 2)]), (.tup [(.int 0)])])])], (.val .non)), ([(.tup [(.str ⟨#[108, 101, 97, 103, 117, 101]⟩), (.int 1), (.tup [(.tup [])])])], (.val .non)), ([.non], (.exc 3 [(z3, .non)])), ([(.int 0)], (.exc 3 [(z3, (.int 0))])), ([(.tup [])], (.exc 3 [(z3, (.tup []))])), ([(.tup [(.str ⟨#[108, 101, 97, 103, 117, 101]⟩), (.int 3)])], (.exc 3 [(z3, (.tup [(.str ⟨#[108, 101, 97, 103, 117, 101]⟩), (.int 3)]))])), ([(.tup [(.str ⟨#[76, 101, 97, 103, 117, 101]⟩), (.int 3), (.tup [(.tup [(.int 1)]), (.tup [(.int 2)]), (.tup [(.int 0)])])])], (.exc 3 [(z3, (.tup [(.str ⟨#[76, 101, 97, 103, 117, 101]⟩), (.int 3), (.tup [(.tup [(.int 1)]), (.tup [(.int 2)]), (.tup [(.int 0)])])]))])), ([(.tup [(.str ⟨#[108, 101, 97, 103, 117, 101]⟩), (.int 3), (.tup [(.tup [(.int 1)]), (.tup [(.int 2)])])])], (.exc 3 [(z3, (.tup [(.str ⟨#[108, 101, 97, 103, 117, 101]⟩), (.int 3), (.tup [(.tup [(.int 1)]), (.tup [(.int 2)])])]))])), ([(.tup [(.str ⟨#[108, 101, 97, 103, 117, 101]⟩), (.int 3), (.tup [(.tup [(.int 1), (.int 2)]), (.tup [(.int 2)]), (.tup [(.int 0)])])])], (.exc 3 [(z3, (.tup [(.str ⟨#[108, 101, 97, 103, 117, 101]⟩), (.int 3), (.tup [(.tup [(.int 1), (.int 2)]), (.tup [(.int 2)]), (.tup [(.int 0)])])]))])), ([(.tup [(.str ⟨#[108, 101, 97, 103, 117, 101]⟩), (.int 0), (.tup [])])], (.exc 3 [(z3, (.tup [(.str ⟨#[108, 101, 97, 103, 117, 101]⟩), (.int 0), (.tup [])]))])), ([(.tup [(.str ⟨#[108, 101, 97, 103, 117, 101]⟩), (.int 8), (.tup [(.tup [(.int 1), (.int 2), (.int 3), (.int 4), (.int 5), (.int 6), (.int 7)]), (.tup [(.int 2), (.int 3), (.int 4), (.int 5), (.int 6), (.int 7)]), (.tup [(.int 3), (.int 4), (.int 5), (.int 6), (.int 7)]), (.tup [(.int 4), (.int 5), (.int 6), (.int 7)]), (.tup [(.int 5), (.int 6), (.int 7)]), (.tup [(.int 6), (.int 7)]), (.tup [(.int 7)]), (.tup [])])])], (.exc 3 [(z3, (.tup [(.str ⟨#[108, 101, 97, 103, 117, 101]⟩), (.int 8), (.tup [(.tup [(.int 1), (.int 2), (.int 3), (.int 4), (.int 5), (.int 6), (.int 7)]), (.tup [(.int 2), (.int 3), (.int 4), (.int 5), (.int 6), (.int 7)]), (.tup [(.int 3), (.int 4), (.int 5), (.int 6), (.int 7)]), (.tup [(.int 4), (.int 5), (.int 6), (.int 7)]), (.tup [(.int 5), (.int 6), (.int 7)]), (.tup [(.int 6), (.int 7)]), (.tup [(.int 7)]), (.tup [])])]))])), ([(.tup [(.str ⟨#[108, 101, 97, 103, 117, 101]⟩), (.int 2), (.tup [(.tup [(.int 1)]), (.tup [(.int 1)])])])], (.exc 3 [(z3, (.tup [(.str ⟨#[108, 101, 97, 103, 117, 101]⟩), (.int 2), (.tup [(.tup [(.int 1)]), (.tup [(.int 1)])])]))])), ([(.tup [(.str ⟨#[108, 101, 97, 103, 117, 101]⟩), (.bl true), (.tup [(.tup [])])])], (.exc 3 [(z3, (.tup [(.str ⟨#[108, 101, 97, 103, 117, 101]⟩), (.bl true), (.tup [(.tup [])])]))])), ([(.tup [(.str ⟨#[108, 101, 97, 103, 117, 101]⟩), (.int 3), (.tup [(.tup [(.int 1)]), (.tup [(.int 2)]), (.tup [])])])], (.exc 3 [(z3, (.tup [(.str ⟨#[108, 101, 97, 103, 117, 101]⟩), (.int 3), (.tup [(.tup [(.int 1)]), (.tup [(.int 2)]), (.tup [])])]))])), ([(.tup [(.str ⟨#[108, 101, 97, 103, 117, 101]⟩), (.int 2), (.tup [(.tup [(.bl true)]), (.tup [])])])], (.exc 3 [(z3, (.tup [(.str ⟨#[108, 101, 97, 103, 117, 101]⟩), (.int 2), (.tup [(.tup [(.bl true)]), (.tup [])])]))]))]) (.nd (some []) (.nd (some []) (.nd (some []) (.nd (some []) .lf .lf) (.nd (some []) .lf .lf)) (.nd (some []) (.nd (some []) .lf .lf) .lf)) (.nd (some []) (.nd (some []) (.nd (some []) .lf .lf) .lf) (.nd (some []) (.nd (some []) .lf .lf) .lf))) (.nd (some []) (.nd (some []) (.nd (some []) (.nd (some []) .lf .lf) (.nd (some []) .lf .lf)) (.nd (some []) (.nd (some []) .lf .lf) .lf)) (.nd (some []) (.nd (some []) (.nd (some []) .lf .lf) .lf) (.nd (some []) (.nd (some []) .lf .lf) .lf)))) (.nd (some []) (.nd (some []) (.nd (some []) (.nd (some []) (.nd (some []) .lf .lf) (.nd (some []) .lf .lf)) (.nd (some []) (.nd (some []) .lf .lf) .lf)) (.nd (some []) (.nd (some []) (.nd (some []) .lf .lf) .lf) (.nd (some []) (.nd (some []) .lf .lf) .lf))) (.nd (some []) (.nd (some []) (.nd (some []) (.nd (some []) .lf .lf) .lf) (.nd (some []) (.nd (some []) .lf .lf) .lf)) (.nd (some []) (.nd (some []) (.nd (some []) .lf .lf) .lf) (.nd (some []) (.nd (some []) .lf .lf) .lf))))) (.nd (some []) (.nd (some []) (.nd (some []) (.nd (some []) (.nd (some []) (.nd (some []) .lf .lf) (.nd (some []) .lf .lf)) (.nd (some []) (.nd (some []) .lf .lf) .lf)) (.nd (some []) (.nd (some []) (.nd (some []) .lf .lf) .lf) (.nd (some []) (.nd (some []) .lf .lf) .lf))) (.nd (some []) (.nd (some []) (.nd (some []) (.nd (some []) .lf .lf) .lf) (.nd (some []) (.nd (some []) .lf .lf) .lf)) (.nd (some []) (.nd (some []) (.nd (some []) .lf .lf) .lf) (.nd (some []) (.nd (some []) .lf .lf) .lf)))) (.nd (some [([(.tup [(.str ⟨#[108, 101, 97, 103, 117, 101]⟩), (.int 3), (.tup [(.tup [(.int 1)]), (.tup [(.int 2)]), (.tup [(.int 0)])])]), .non], (.exc 5 [(z3, .non)])), ([(.tup [(.str ⟨#[108, 101, 97, 103, 117, 101]⟩), (.int 3), (.tup [(.tup [(.int 1)]), (.tup [(.int 2)]), (.tup [(.int 0)])])]), (.int 0)], (.exc 5 [(z3, (.int 0))])), ([(.tup [(.str ⟨#[108, 101, 97, 103, 117, 101]⟩), (.int 3), (.tup [(.tup [(.int 1)]), (.tup [(.int 2)]), (.tup [(.int 0)])])]), (.str ⟨#[49, 49, 49]⟩)], (.exc 5 [(z3, (.str ⟨#[49, 49, 49]⟩))])), ([(.tup [(.str ⟨#[108, 101, 97, 103, 117, 101]⟩), (.int 3), (.tup [(.tup [(.int 1)]), (.tup [(.int 2)]), (.tup [(.int 0)])])]), (.tup [(.int 0), (.int 0), (.int 0)])], (.exc 5 [(z3, (.tup [(.int 0), (.int 0), (.int 0)]))])), ([T7, (.tup [(.int 1), (.int 1), (.int 1), (.int 1), (.int 1), (.int 1), (.int 1)])], (.val .non)), ([T7, (.tup [(.int 9999), (.int 9999), (.int 9999), (.int 9999), (.int 9999), (.int 9999), (.int 9999)])], (.val .non))]) (.nd (some []) (.nd (some []) (.nd (some []) (.nd (some []) .lf .lf) (.nd (some []) .lf .lf)) (.nd (some []) (.nd (some []) .lf .lf) .lf)) (.nd (some []) (.nd (some []) (.nd (some []) .lf .lf) .lf) (.nd (some []) (.nd (some []) .lf .lf) .lf))) (.nd (some []) (.nd (some []) (.nd (some []) (.nd (some []) .lf .lf) .lf) (.nd (some []) (.nd (some []) .lf .lf) .lf)) (.nd (some []) (.nd (some []) (.nd (some []) .lf .lf) .lf) (.nd (some []) (.nd (some []) .lf .lf) .lf)))))) (.nd (some []) (.nd (some []) (.nd (some []) (.nd (some []) (.nd (some []) (.nd (some []) (.nd (some []) .lf .lf) (.nd (some []) .lf .lf)) (.nd (some []) (.nd (some []) .lf .lf) .lf)) (.nd (some []) (.nd (some []) (.nd (some []) .lf .lf) .lf) (.nd (some []) (.nd (some []) .lf .lf) .lf))) (.nd (some []) (.nd (some []) (.nd (some []) (.nd (some []) .lf .lf) .lf) (.nd (some []) (.nd (some []) .lf .lf) .lf)) (.nd (some []) (.nd (some []) (.nd (some []) .lf .lf) .lf) (.nd (some []) (.nd (some []) .lf .lf) .lf)))) (.nd (some []) (.nd (some []) (.nd (some []) (.nd (some []) (.nd (some []) .lf .lf) (.nd (some []) .lf .lf)) (.nd (some []) (.nd (some []) .lf .lf) .lf)) (.nd (some []) (.nd (some []) (.nd (some []) .lf .lf) .lf) (.nd (some []) (.nd (some []) .lf .lf) .lf))) (.nd (some []) (.nd (some []) (.nd (some []) (.nd (some []) .lf .lf) .lf) (.nd (some []) (.nd (some []) .lf .lf) .lf)) (.nd (some []) (.nd (some []) (.nd (some []) .lf .lf) .lf) (.nd (some []) (.nd (some []) .lf .lf) .lf))))) (.nd (some []) (.nd (some []) (.nd (some []) (.nd (some []) (.nd (some []) (.nd (some []) .lf .lf) (.nd (some []) .lf .lf)) (.nd (some []) (.nd (some []) .lf .lf) .lf)) (.nd (some []) (.nd (some []) (.nd (some []) .lf .lf) .lf) (.nd (some []) (.nd (some []) .lf .lf) .lf))) (.nd (some [([T1], (.val (.bl true))), ([T3], (.val (.bl false))), ([T5], (.val (.bl false))), ([T7], (.val (.bl false)))]) (.nd (some []) (.nd (some []) (.nd (some []) .lf .lf) .lf) (.nd (some []) (.nd (some []) .lf .lf) .lf)) (.nd (some []) (.nd (some []) (.nd (some []) .lf .lf) .lf) (.nd (some []) (.nd (some []) .lf .lf) .lf)))) (.nd (some []) (.nd (some []) (.nd (some []) (.nd (some []) (.nd (some []) .lf .lf) (.nd (some []) .lf .lf)) (.nd (some []) (.nd (some []) .lf .lf) .lf)) (.nd (some []) (.nd (some []) (.nd (some []) .lf .lf) .lf) (.nd (some []) (.nd (some []) .lf .lf) .lf))) (.nd (some []) (.nd (some []) (.nd (some []) (.nd (some []) .lf .lf) .lf) (.nd (some []) (.nd (some []) .lf .lf) .lf)) (.nd (some []) (.nd (some []) (.nd (some []) .lf .lf) .lf) (.nd (some []) (.nd (some []) .lf .lf) .lf)))))))
theorem t0_is : t0 = tabOf R0 := by kernel_rfl
theorem R0_ok : ∀ q ∈ R0, EntOk cf0 q.1 q.2 := (all_cons r0_0 (all_cons r0_1 (all_cons r0_2 (all_cons r0_3 (all_cons r0_4 (all_cons r0_5 (all_cons r0_6 (all_cons r0_7 (all_cons r0_8 (all_cons r0_9 (all_cons r0_10 (all_cons r0_11 (all_cons r0_12 (all_cons r0_13 (all_cons r0_14 (all_cons r0_15 (all_cons r0_16 (all_cons r0_17 (all_cons r0_18 (all_cons r0_19 (all_cons r0_20 (all_cons r0_21 (all_cons r0_22 (all_cons r0_23 (all_cons r0_24 (all_cons r0_25 all_nil))))))))))))))))))))))))))
theorem tr0 : Told p G 23 cf0 := told_run (k := 3) (j := 20) (N := 100) (by decide) td0
theorem tt0 : Told p G 23 (memoC t0) := told_rows tr0 t0_is R0_ok
theorem td1 : Told p G 23 (memoC t0) := tt0
noncomputable def cf1 : CallF := callM G 100 (memoC t0) 20
theorem r1_0 : entB (cf1 (.df 39) [T7] S0) .unk = true := by kernel_rfl
theorem r1_1 : entB (cf1 (.df 41) [T7] S0) (.val (.tup [.int 0])) = true := by kernel_rfl
theorem r1_2 : entB (cf1 (.df 33) [T7] S0) .unk = true := by kernel_rfl
theorem r1_3 : entB (cf1 (.df 36) [T7] S0) .unk = true := by kernel_rfl
theorem r1_4 : entB (cf1 (.df 42) [T7, S7] S0) (.val .non) = true := by kernel_rfl
def R1 : List (Nat × Row) := [(39, ([T7], .unk)), (41, ([T7], (.val (.tup [.int 0])))), (33, ([T7], .unk)), (36, ([T7], .unk)), (42, ([T7, S7], (.val .non)))]
def t1 : T (List Row) := (.nd (some []) (.nd (some []) (.nd (some []) (.nd (some []) (.nd (some []) (.nd (some []) (.nd (some []) (.nd (some []) .lf .lf) (.nd (some []) .lf .lf)) (.nd (some []) (.nd (some []) .lf .lf) .lf)) (.nd (some []) (.nd (some []) (.nd (some []) .lf .lf) .lf) (.nd (some []) (.nd (some []) .lf .lf) .lf))) (.nd (some []) (.nd (some [([T7], .unk)]) (.nd (some []) (.nd (some []) .lf .lf) (.nd (some []) .lf .lf)) (.nd (some []) (.nd (some []) .lf .lf) .lf)) (.nd (some []) (.nd (some []) (.nd (some []) .lf .lf) .lf) (.nd (some []) (.nd (some []) .lf .lf) .lf)))) (.nd (some []) (.nd (some []) (.nd (some []) (.nd (some []) (.nd (some []) .lf .lf) (.nd (some []) .lf .lf)) (.nd (some []) (.nd (some []) .lf .lf) .lf)) (.nd (some []) (.nd (some []) (.nd (some []) .lf .lf) .lf) (.nd (some []) (.nd (some []) .lf .lf) .lf))) (.nd (some []) (.nd (some []) (.nd (some []) (.nd (some []) .lf .lf) .lf) (.nd (some []) (.nd (some []) .lf .lf) .lf)) (.nd (some []) (.nd (some []) (.nd (some []) .lf .lf) .lf) (.nd (some []) (.nd (some []) .lf .lf) .lf))))) (.nd (some []) (.nd (some []) (.nd (some []) (.nd (some [([T7], .unk)]) (.nd (some []) (.nd (some []) .lf .lf) (.nd (some []) .lf .lf)) (.nd (some []) (.nd (some []) .lf .lf) .lf)) (.nd (some []) (.nd (some []) (.nd (some []) .lf .lf) .lf) (.nd (some []) (.nd (some []) .lf .lf) .lf))) (.nd (some []) (.nd (some [([T7], (.val (.tup [.int 0])))]) (.nd (some []) (.nd (some []) .lf .lf) .lf) (.nd (some []) (.nd (some []) .lf .lf) .lf)) (.nd (some []) (.nd (some []) (.nd (some []) .lf .lf) .lf) (.nd (some []) (.nd (some []) .lf .lf) .lf)))) (.nd (some []) (.nd (some []) (.nd (some []) (.nd (some []) (.nd (some []) .lf .lf) (.nd (some []) .lf .lf)) (.nd (some []) (.nd (some []) .lf .lf) .lf)) (.nd (some []) (.nd (some []) (.nd (some []) .lf .lf) .lf) (.nd (some []) (.nd (some []) .lf .lf) .lf))) (.nd (some []) (.nd (some []) (.nd (some []) (.nd (some []) .lf .lf) .lf) (.nd (some []) (.nd (some []) .lf .lf) .lf)) (.nd (some []) (.nd (some []) (.nd (some []) .lf .lf) .lf) (.nd (some []) (.nd (some []) .lf .lf) .lf)))))) (.nd (some []) (.nd (some []) (.nd (some []) (.nd (some []) (.nd (some []) (.nd (some []) (.nd (some []) .lf .lf) (.nd (some []) .lf .lf)) (.nd (some []) (.nd (some []) .lf .lf) .lf)) (.nd (some []) (.nd (some []) (.nd (some []) .lf .lf) .lf) (.nd (some []) (.nd (some []) .lf .lf) .lf))) (.nd (some []) (.nd (some []) (.nd (some []) (.nd (some []) .lf .lf) .lf) (.nd (some []) (.nd (some []) .lf .lf) .lf)) (.nd (some []) (.nd (some []) (.nd (some []) .lf .lf) .lf) (.nd (some []) (.nd (some []) .lf .lf) .lf)))) (.nd (some []) (.nd (some []) (.nd (some [([T7], .unk)]) (.nd (some []) (.nd (some []) .lf .lf) (.nd (some []) .lf .lf)) (.nd (some []) (.nd (some []) .lf .lf) .lf)) (.nd (some []) (.nd (some []) (.nd (some []) .lf .lf) .lf) (.nd (some []) (.nd (some []) .lf .lf) .lf))) (.nd (some []) (.nd (some []) (.nd (some []) (.nd (some []) .lf .lf) .lf) (.nd (some []) (.nd (some []) .lf .lf) .lf)) (.nd (some []) (.nd (some []) (.nd (some []) .lf .lf) .lf) (.nd (some []) (.nd (some []) .lf .lf) .lf))))) (.nd (some []) (.nd (some []) (.nd (some []) (.nd (some []) (.nd (some []) (.nd (some []) .lf .lf) (.nd (some []) .lf .lf)) (.nd (some []) (.nd (some []) .lf .lf) .lf)) (.nd (some []) (.nd (some []) (.nd (some []) .lf .lf) .lf) (.nd (some []) (.nd (some []) .lf .lf) .lf))) (.nd (some []) (.nd (some [([T7, S7], (.val .non))]) (.nd (some []) (.nd (some []) .lf .lf) .lf) (.nd (some []) (.nd (some []) .lf .lf) .lf)) (.nd (some []) (.nd (some []) (.nd (some []) .lf .lf) .lf) (.nd (some []) (.nd (some []) .lf .lf) .lf)))) (.nd (some []) (.nd (some []) (.nd (some []) (.nd (some []) (.nd (some []) .lf .lf) (.nd (some []) .lf .lf)) (.nd (some []) (.nd (some []) .lf .lf) .lf)) (.nd (some []) (.nd (some []) (.nd (some []) .lf .lf) .lf) (.nd (some []) (.nd (some []) .lf .lf) .lf))) (.nd (some []) (.nd (some []) (.nd (some []) (.nd (some []) .lf .lf) .lf) (.nd (some []) (.nd (some []) .lf .lf) .lf)) (.nd (some []) (.nd (some []) (.nd (some []) .lf .lf) .lf) (.nd (some []) (.nd (some []) .lf .lf) .lf)))))))
theorem t1_is : t1 = tabOf R1 := by kernel_rfl
theorem R1_ok : ∀ q ∈ R1, EntOk cf1 q.1 q.2 := (all_cons r1_0 (all_cons r1_1 (all_cons r1_2 (all_cons r1_3 (all_cons r1_4 all_nil)))))
theorem tr1 : Told p G 43 cf1 := told_run (k := 23) (j := 20) (N := 100) (by decide) td1
theorem tt1 : Told p G 43 (memoC t1) := told_rows tr1 t1_is R1_ok
theorem td2 : Told p G 43 (orC (memoC t0) (memoC t1)) := told_or (td1.mono (by decide)) tt1
noncomputable def cfm : CallF := callM G 100 (orC (memoC t0) (memoC t1)) 20
theorem tdm : Told p G 63 cfm := told_run (k := 43) (j := 20) (N := 100) (by decide) td2
theorem main : trueB 5 (cfm (.df 51) [.ref 0] S1) = true := by kernel_rfl

end Kw
end
section
set_option Elab.async false
set_option linter.all false
set_option maxRecDepth 100000
set_option maxHeartbeats 0
namespace Hd
open PySem PySem.W PySem.Calls PyProof.Rows
abbrev R : OpenRow := OpenLaw.row PySem.Challenge.rw_eachplayed_k70_lotteries_refused
abbrev qv : Program := view R.prog [68]
def names : List PySem.Str := (["is_integer", "is_within", "is_list", "is_tuple", "are_rising", "is_lot_of", "LeagueError", "StateError", "LimitError", "InvalidLeague", "InvalidLot", "InvalidOdds", "MOST_SIDES", "LEAGUE", "is_league_value", "want_league", "want_lot", "made", "has_beaten", "by_rule", "MOST_ODD", "is_odds_value", "want_odds", "margins_of", "match_of", "is_odds", "margins", "greatest_margin", "beaters", "match"] : List PySem.Str) ++ (["part_of", "rows_of", "signed_root", "divisor_of", "balance_of", "is_even_of", "lots_of", "even_lots_of", "is_balance_value", "result_rows", "result_determinant", "even_root", "balance", "is_balance", "is_even_handed", "even_lots", "odds_of_lot", "lottery_of", "lottery", "is_lottery", "lottery_sides", "even_odds", "_law_pot", "_law_draw", "_law_pick", "_law_heard", "_law_are", "_law_league_calls", "_law_odds_calls", "_law_right"] : List PySem.Str)
theorem w1 : R.prog = Kw.p := rfl
theorem il : Ev.dnm (Ev.tx R.prog) 51 = "law" := by kernel_rfl
theorem ild : 51 < (Ev.tx R.prog).defs.length := by decide +kernel
theorem nm : (HandSHeadRun.topDef R.prog 68).name = "law" := by kernel_rfl
theorem df : (HandSHeadRun.topDef R.prog 68).params.defaults = [] := by kernel_rfl
theorem walk {q : Program} {loose : List Str} {XP : (Str → Option Value) → Heap → Prop} (cf : Ev.CallF) (td : Ev.Told Kw.p Kw.G 63 cf) {n : Nat} (ev : Ev.trueB n (cf (.df 51) [.ref 0] Ev.S1) = true) : PySem.W.WalkO q loose XP (Ev.hookH 4 (Ev.tx R.prog)).says R.toRowW (HandSHeadRun.topDef R.prog 68) [] (fun f vs => PySem.call f vs) :=
  Ev.law_walk (l := PySem.Challenge.rw_eachplayed_k70_lotteries_refused) (n := 63) (q := q) (loose := loose) (XP := XP) (iD := 44) (iP := 43) (iL := 51) (k := 63) (cf := cf) rfl (by decide) df nm il ild Kw.pg Kw.st Kw.fl Kw.hd Kw.hdP Kw.lb (by decide) (by decide) (by decide) (by decide) (by decide) (by decide) td (Ev.trueB_ok ev) ⟨rfl, by decide, by decide⟩
theorem run (w : World) : HandSHeadRun.RunEq R qv (Ev.hookH 4 (Ev.tx R.prog)) (Ev.obT 4 (Ev.tx R.prog)) 6000 names w := by
  intro os
  kernel_rfl
end Hd
open PySem PySem.W PySem.W.X PyProof.Rows
theorem PySem.Challenge.cw_eachplayed_k70_lotteries_refused_holds : PySem.Challenge.rw_eachplayed_k70_lotteries_refused.Holds := by
  w_on; o_law
  refine HandSHeadRun.head_any (r := OpenLaw.row PySem.Challenge.rw_eachplayed_k70_lotteries_refused) (q := view (OpenLaw.row PySem.Challenge.rw_eachplayed_k70_lotteries_refused).prog [68]) (H := Ev.hookH 4 (Ev.tx Hd.R.prog)) (ob := Ev.obT 4 (Ev.tx Hd.R.prog)) (M := 6000) (loose := Hd.names) (d := HandSHeadRun.topDef (OpenLaw.row PySem.Challenge.rw_eachplayed_k70_lotteries_refused).prog 68) (kwd := []) Ev.obT_eq
    (by kernel_rfl) (fun s => by kernel_rfl) Hd.run (by kernel_rfl) (by kernel_rfl) (by kernel_rfl) (by rfl) (by first | assumption | decide +kernel) (by decide +kernel) ⟨rfl, rfl, rfl, rfl, rfl, by decide +kernel⟩ ?hw ?hc
  case hw => w_witness2
  case hc =>
    exact Hd.walk Kw.cfm Kw.tdm Kw.main
end
